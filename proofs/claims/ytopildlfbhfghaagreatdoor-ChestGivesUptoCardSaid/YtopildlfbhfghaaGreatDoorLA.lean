/- THE LIBRARY OF THESE PROOFS, A PART: an abstract heap, and that the model's steps keep to it. Nothing is asked of the input. -/
import Derived.Test.YtopildlfbhfghaaGreatDoorProg
import Derived.Lib.ItoaNum
import Derived.Below
import Derived.Orders
import Derived.Laws.Sem
import Derived.Laws.Slices
import Derived.OrdersIn
import Derived.RangeFuncRecord
import Derived.RangeFuncCalls
import Derived.Eval
import GoSem.Core.Layout
set_option linter.unusedVariables false
set_option linter.unusedSimpArgs false
namespace Go.Lt
open Go Go.Proofs
def subAt : Code → List Nat → Code
 | c, [] => c
 | .seq a _, 0 :: p => subAt a p
 | .seq _ b, _ :: p => subAt b p
 | .cond _ x _, 0 :: p => subAt x p
 | .cond _ _ y, _ :: p => subAt y p
 | .block _ c, _ :: p => subAt c p
 | .loop c, _ :: p => subAt c p
 | .rangeFunc _ _ a _, 0 :: p => subAt a p
 | .rangeFunc _ _ _ b, _ :: p => subAt b p
 | c, _ => c
def rfOf : Code → Array Tmp × Code × Code
 | .rangeFunc _ ps a b => (ps, a, b)
 | _ => (#[], .skip, .skip)
noncomputable def siteTab : Nat → Array Tmp × Code × Code
 | 0 => rfOf (subAt (Tryz.f13.body.getD .skip) [1, 1, 1, 1, 0, 1, 0])
 | 1 => rfOf (subAt (Tryz.f294.body.getD .skip) [1, 0, 1, 0])
 | 2 => rfOf (subAt (Tryz.f297.body.getD .skip) [1, 0, 1, 0])
 | _ => (#[], .skip, .skip)
def bldT : TypeId := 184
def bytT : TypeId := 5
def glbs : List (Nat × (Array Value → Prop)) := [(2, fun cs => cs = (Go.Lib.pow10Tab.map fun z => Value.int .u64 z).toArray), (0, fun cs => ∃ t p, cs = #[.iface t p]), (1, fun cs => ∃ t p, cs = #[.iface t p])]
end Go.Lt

namespace Go.Lt
open Go.RowKit

structure Sl where
 nil : Bool
 b : Nat
 o : Nat
 len : Nat
 cap : Nat
 opn : Nat
 deriving DecidableEq, Inhabited

inductive AV where
 | undef
 | bool (b : Bool)
 | int (k : IntKind) (n : Int)
 | str (s : ByteArray)
 | ptr (b o : Nat)
 | nilptr
 | sl (s : Sl)
 | map (b : Nat)
 | nilmap
 | fn (f : FuncId) (first caps : List AV)
 | yld (l : Nat)
 | nilfn
 | iface (t : TypeId) (v : AV)
 | niliface
 | agg (cs : List AV)
 | tup (vs : List AV)
 | gptr (g : Nat)
 deriving Inhabited

structure Loc where
 blk : Nat
 sh : Nat
 sz : Nat

inductive RV (m : Nat → Loc) (n : Nat) : AV → Value → Prop where
 | undef (v : Value) : RV m n .undef v
 | bool (b : Bool) : RV m n (.bool b) (.bool b)
 | int (k : IntKind) (i : Int) : RV m n (.int k i) (.int k i)
 | str (s : ByteArray) : RV m n (.str s) (.string s)
 | ptr (b o : Nat) (h : b < n) : RV m n (.ptr b o) (.pointer (some ⟨(m b).blk, (m b).sh + o, none⟩))
 | nilptr : RV m n .nilptr (.pointer none)
 | slnil : RV m n (.sl ⟨true, 0, 0, 0, 0, 0⟩) (.slice none 0 0)
 | sl (b o len cap : Nat) (h : b < n) (hl : len ≤ cap) : RV m n (.sl ⟨false, b, o, len, cap, 0⟩) (.slice (some ⟨(m b).blk, (m b).sh + o, none⟩) len cap)
 | slo (b o len cap p cap' : Nat) (h : b < n) (hl : len ≤ cap) (hc : cap ≤ cap') (hz : (m b).sh + o + cap' * (p + 1) ≤ (m b).sz) :
   RV m n (.sl ⟨false, b, o, len, cap, p + 1⟩) (.slice (some ⟨(m b).blk, (m b).sh + o, none⟩) len cap')
 | sle (b o p : Nat) (h : True) (a : Addr) : RV m n (.sl ⟨false, b, o, 0, 0, p⟩) (.slice (some a) 0 0)
 | map (b : Nat) (h : b < n) : RV m n (.map b) (.map (some (m b).blk))
 | nilmap : RV m n .nilmap (.map none)
 | fn (f : FuncId) (xs ys : List AV) (us vs : Array Value) (hx : xs.length = us.size) (hy : ys.length = vs.size)
   (h : ∀ i (h1 : i < xs.length) (h2 : i < us.size), RV m n xs[i] us[i]) (h' : ∀ i (h1 : i < ys.length) (h2 : i < vs.size), RV m n ys[i] vs[i]) :
   RV m n (.fn f xs ys) (.func (.func f) us vs)
 | yld (l : Nat) (h : l < n) : RV m n (.yld l) (.func (.yield (m l).blk) #[] #[])
 | nilfn : RV m n .nilfn .nilFunc
 | iface (t : TypeId) (x : AV) (v : Value) (h : RV m n x v) : RV m n (.iface t x) (.iface t v)
 | niliface : RV m n .niliface .nilIface
 | agg (xs : List AV) (vs : Array Value) (hx : xs.length = vs.size) (h : ∀ i (h1 : i < xs.length) (h2 : i < vs.size), RV m n xs[i] vs[i]) :
   RV m n (.agg xs) (.agg vs)
 | tup (xs : List AV) (vs : Array Value) (hx : xs.length = vs.size) (h : ∀ i (h1 : i < xs.length) (h2 : i < vs.size), RV m n xs[i] vs[i]) :
   RV m n (.tup xs) (.tuple vs)
 | gptr (g : Nat) : RV m n (.gptr g) (.pointer (some ⟨g, 0, none⟩))

def RVs (m : Nat → Loc) (n : Nat) (xs : List AV) (vs : List Value) : Prop :=
 xs.length = vs.length ∧ ∀ i (h1 : i < xs.length) (h2 : i < vs.length), RV m n xs[i] vs[i]

def Ext (n : Nat) (m m' : Nat → Loc) : Prop := ∀ b, b < n → m' b = m b
theorem Ext.refl (n : Nat) (m : Nat → Loc) : Ext n m m := fun _ _ => rfl
theorem Ext.trans {n n' : Nat} {a b c : Nat → Loc} (h : Ext n a b) (k : Ext n' b c) (hn : n ≤ n') : Ext n a c :=
 fun i hi => (k i (by omega)).trans (h i hi)

theorem RV.mono {m m' : Nat → Loc} {n n' : Nat} {x : AV} {v : Value} (h : RV m n x v) (he : Ext n m m') (hn : n ≤ n') : RV m' n' x v := by
 induction h with
 | undef v => exact .undef v
 | bool b => exact .bool b
 | int k i => exact .int k i
 | str s => exact .str s
 | ptr b o h => rw [← he b h]; exact .ptr b o (by omega)
 | nilptr => exact .nilptr
 | slnil => exact .slnil
 | sl b o len cap h hl => rw [← he b h]; exact .sl b o len cap (by omega) hl
 | slo b o len cap p cap' h hl hc hz => rw [← he b h] at hz ⊢; exact .slo b o len cap p cap' (by omega) hl hc hz
 | sle b o p h a => exact .sle b o p h a
 | map b h => rw [← he b h]; exact .map b (by omega)
 | nilmap => exact .nilmap
 | fn f xs ys us vs hx hy h h' ih ih' => exact .fn f xs ys us vs hx hy ih ih'
 | yld l h => rw [← he l h]; exact .yld l (by omega)
 | nilfn => exact .nilfn
 | iface t x v h ih => exact .iface t x v ih
 | niliface => exact .niliface
 | agg xs vs hx h ih => exact .agg xs vs hx ih
 | tup xs vs hx h ih => exact .tup xs vs hx ih
 | gptr g => exact .gptr g

theorem RVs.mono {m m' : Nat → Loc} {n n' : Nat} {xs : List AV} {vs : List Value} (h : RVs m n xs vs) (he : Ext n m m') (hn : n ≤ n') : RVs m' n' xs vs :=
 ⟨h.1, fun i h1 h2 => (h.2 i h1 h2).mono he hn⟩
theorem RVs.nil {m : Nat → Loc} {n : Nat} : RVs m n [] [] := ⟨rfl, fun i h => absurd h (by simp)⟩
theorem RVs.cons {m : Nat → Loc} {n : Nat} {x : AV} {v : Value} {xs : List AV} {vs : List Value} (h : RV m n x v) (hs : RVs m n xs vs) :
  RVs m n (x :: xs) (v :: vs) := by
 refine ⟨by simp [hs.1], fun i h1 h2 => ?_⟩
 cases i with
 | zero => exact h
 | succ i => exact hs.2 i (by simpa using h1) (by simpa using h2)
theorem RVs.cons_inv {m : Nat → Loc} {n : Nat} {x : AV} {xs : List AV} {us : List Value} (h : RVs m n (x :: xs) us) :
  ∃ v vs, us = v :: vs ∧ RV m n x v ∧ RVs m n xs vs := by
 obtain ⟨hl, h⟩ := h
 cases us with
 | nil => simp at hl
 | cons v vs => exact ⟨v, vs, rfl, h 0 (by simp) (by simp), by simpa using hl, fun i h1 h2 => h (i + 1) (by simpa using h1) (by simpa using h2)⟩
theorem RVs.nil_inv {m : Nat → Loc} {n : Nat} {us : List Value} (h : RVs m n [] us) : us = [] := by
 have := h.1
 cases us with
 | nil => rfl
 | cons _ _ => simp at this
theorem RVs.append {m : Nat → Loc} {n : Nat} {xs ys : List AV} {us vs : List Value} (h : RVs m n xs us) (k : RVs m n ys vs) : RVs m n (xs ++ ys) (us ++ vs) := by
 induction xs generalizing us with
 | nil => rw [h.nil_inv]; exact k
 | cons x xs ih =>
  obtain ⟨v, vs', rfl, hv, hvs⟩ := h.cons_inv
  exact .cons hv (ih hvs)

/-! ### the heap -/
inductive KT where
 | int (k : IntKind)
 | str
 | arr (n : Nat) (k : IntKind)
 deriving DecidableEq, Inhabited
def AV.isInt (k : IntKind) : AV → Bool
 | .int k' _ => decide (k' = k)
 | _ => false
def KT.ok : KT → AV → Bool
 | .int k, x => x.isInt k
 | .str, .str _ => true
 | .arr n k, .agg xs => xs.length == n && xs.all (AV.isInt k)
 | _, _ => false

inductive Blk where
 | cells (cs : List AV) (ro : Bool)
 | map (kt : KT) (es : List (AV × AV))
 | iter (s : ByteArray) (pos : Nat)
 | loop (st : LoopState) (pend : Option Code) (T N : Nat) (F : List (Nat × AV))
 | dfr
 | bld (q : Option Nat) (len : Nat)
 | buf (s : ByteArray)
 | dead
 deriving Inhabited
abbrev Fr := List (Nat × AV)
def lookup : Fr → Nat → AV
 | [], _ => .undef
 | (d, v) :: r, t => bif Nat.beq d t then v else lookup r t

def Blk.owned : Blk → Bool
 | .cells _ ro => !ro
 | .map .. => true
 | .iter .. => true
 | .loop .. => true
 | .dfr => true
 | .bld .. => true
 | .buf _ => true
 | .dead => false
def Blk.live : Blk → Bool
 | .dead => false
 | _ => true

structure Hp where
 bs : List Blk
def Hp.n (H : Hp) : Nat := H.bs.length
def Hp.get (H : Hp) (b : Nat) : Option Blk := if b < H.bs.length then H.bs[H.bs.length - 1 - b]? else none
def Hp.push (H : Hp) (k : Blk) : Hp := ⟨k :: H.bs⟩
def Hp.set (H : Hp) (b : Nat) (k : Blk) : Hp := if b < H.bs.length then ⟨H.bs.set (H.bs.length - 1 - b) k⟩ else H

theorem Hp.get_lt {H : Hp} {b : Nat} {k : Blk} (h : H.get b = some k) : b < H.n := by
 unfold Hp.get at h
 split at h
 ·assumption
 ·cases h
@[simp] theorem Hp.n_push (H : Hp) (k : Blk) : (H.push k).n = H.n + 1 := rfl
@[simp] theorem Hp.n_set (H : Hp) (b : Nat) (k : Blk) : (H.set b k).n = H.n := by
 unfold Hp.set Hp.n
 split <;> simp
@[simp] theorem Hp.get_push_new (H : Hp) (k : Blk) : (H.push k).get H.n = some k := by
 simp [Hp.get, Hp.push, Hp.n]
theorem Hp.get_push_old (H : Hp) (k : Blk) {b : Nat} (h : b < H.n) : (H.push k).get b = H.get b := by
 have hb : b < H.bs.length := h
 unfold Hp.get Hp.push
 simp only [List.length_cons]
 rw [if_pos (by omega), if_pos hb]
 rw [show H.bs.length + 1 - 1 - b = (H.bs.length - 1 - b) + 1 by omega]
 simp
theorem Hp.get_push (H : Hp) (k : Blk) (b : Nat) : (H.push k).get b = if b = H.n then some k else H.get b := by
 by_cases h : b = H.n
 ·subst h; simp
 ·rw [if_neg h]
  by_cases h2 : b < H.n
  ·exact Hp.get_push_old H k h2
  ·unfold Hp.get Hp.push
   simp only [List.length_cons]
   unfold Hp.n at h h2
   rw [if_neg (by omega), if_neg (by omega)]
theorem Hp.get_set_same (H : Hp) (k : Blk) {b : Nat} (h : b < H.n) : (H.set b k).get b = some k := by
 have hb : b < H.bs.length := h
 unfold Hp.get Hp.set
 rw [if_pos hb]
 simp only [List.length_set]
 rw [if_pos hb]
 rw [List.getElem?_set_self (by omega)]
theorem Hp.get_set_other (H : Hp) (k : Blk) {b b' : Nat} (h : b' ≠ b) : (H.set b k).get b' = H.get b' := by
 unfold Hp.get Hp.set
 by_cases hb : b < H.bs.length
 ·rw [if_pos hb]
  simp only [List.length_set]
  by_cases hb' : b' < H.bs.length
  ·rw [if_pos hb', if_pos hb']
   rw [List.getElem?_set_ne (by omega)]
  ·rw [if_neg hb', if_neg hb']
 ·rw [if_neg hb]

/-! ### what the heap says of a world -/
def CellsAt (m : Nat → Loc) (n : Nat) (c : Array Value) (sh : Nat) (cs : List AV) : Prop :=
 ∀ i (h : i < cs.length), ∃ v, c[sh + i]? = some v ∧ RV m n cs[i] v

def NotFr (fr : Nat × Nat) (n : Nat) : Prop := ∀ i, i < n → ¬ (fr.1 ≤ i ∧ i < fr.2)
theorem NotFr.zero (n : Nat) : NotFr (0, 0) n := fun i _ h => by simp at h

structure Kp where
 k : Nat → Prop
 x : Nat → Prop
 sub : ∀ i, x i → k i
instance : CoeFun Kp (fun _ => Nat → Prop) := ⟨Kp.k⟩
def Kp.all (w : World) : Kp := ⟨fun k => k < w.heap.size, fun k => k < w.heap.size, fun _ h => h⟩
def Kp.args (w : World) : Kp := ⟨fun k => k < w.heap.size, fun _ => False, fun _ h => h.elim⟩
def BlkRel (B : Kp) (m : Nat → Loc) (n : Nat) (w : World) (b : Nat) : Blk → Prop
 | .cells cs ro => ∃ c e fr, w.heap[(m b).blk]? = some (.cells c e fr) ∧ c.size = (m b).sz ∧ (m b).sh + cs.length ≤ c.size ∧
   CellsAt m n c (m b).sh cs ∧ (ro = false → NotFr fr c.size ∧ ¬ B (m b).blk)
 | .map kt es => ∃ ents clock, w.heap[(m b).blk]? = some (.map ents clock) ∧ ¬ B (m b).blk ∧ ents.size = es.length ∧ (∀ e, e ∈ es → kt.ok e.1 = true) ∧
   ∀ i (h1 : i < es.length) (h2 : i < ents.size), RV m n es[i].1 ents[i].key ∧ RV m n es[i].2 ents[i].val
 | .iter s pos => w.heap[(m b).blk]? = some (.stringIter s pos) ∧ ¬ B (m b).blk ∧ (m b).sh = 0
 | .loop st pend T N F => ∃ tmps dd fn, w.heap[(m b).blk]? = some (.loop { state := st, pending := pend, fn := fn, tmps := tmps, params := (siteTab T).1, assign := (siteTab T).2.1, body := (siteTab T).2.2, defers := dd }) ∧ ¬ B (m b).blk ∧ tmps.size = N ∧
   ∀ t, RV m n (lookup F t) (tmps.getD t undef)
 | .dfr => w.heap[(m b).blk]? = some (.deferred (some [])) ∧ ¬ B (m b).blk
 | .bld q len => ∃ p v, w.heap[(m b).blk]? = some (.cells #[p, v] bldT (0, 0)) ∧ (m b).sh = 0 ∧ ¬ B (m b).blk ∧ (p = .pointer none ∨ p = .pointer (some ⟨(m b).blk, 0, none⟩)) ∧
   ((q = none ∧ len = 0 ∧ v = .slice none 0 0) ∨ ∃ g, q = some g ∧ g < n ∧ v = .slice (some ⟨(m g).blk, 0, none⟩) len (m g).sz)
 | .buf s => ∃ c, w.heap[(m b).blk]? = some (.cells c bytT (0, 0)) ∧ c.size = (m b).sz ∧ s.size ≤ c.size ∧ c.size ≤ maxLen ∧ ¬ B (m b).blk ∧ c.toList.take s.size = s.data.toList.map fun b => Value.int .u8 (b.toNat : Int)
 | .dead => True

structure Keep (K : Nat → Prop) (w w' : World) : Prop where
 os : w'.os = w.os
 tape : w'.tape = w.tape
 output : w'.output = w.output
 size : w.heap.size ≤ w'.heap.size
 block : ∀ k, K k → w'.heap[k]? = w.heap[k]?
theorem Keep.refl (K : Nat → Prop) (w : World) : Keep K w w := ⟨rfl, rfl, rfl, Nat.le_refl _, fun _ _ => rfl⟩
theorem Keep.trans {K : Nat → Prop} {a b c : World} (h : Keep K a b) (k : Keep K b c) : Keep K a c :=
 ⟨k.os.trans h.os, k.tape.trans h.tape, k.output.trans h.output, Nat.le_trans h.size k.size, fun i hi => (k.block i hi).trans (h.block i hi)⟩
theorem Keep.mono {K K' : Nat → Prop} {w w' : World} (h : Keep K w w') (hK : ∀ i, K' i → K i) : Keep K' w w' := ⟨h.os, h.tape, h.output, h.size, fun k hk => h.block k (hK k hk)⟩
theorem Keep.drew {K : Nat → Prop} {a w : World} (h : Keep K a w) : Keep K a w.drew := ⟨h.os, h.tape, h.output, h.size, h.block⟩
theorem Keep.alloc {K : Nat → Prop} {a w : World} (h : Keep K a w) (hK : ∀ k, K k → k < w.heap.size) (o : Obj) : Keep K a (w.alloc o) :=
 h.trans ⟨rfl, rfl, rfl, by simp, fun k hk => Below.heap_alloc _ _ _ (hK k hk)⟩
theorem Keep.setCell {K : Nat → Prop} {a w : World} (h : Keep K a w) {p : Addr} (hp : ¬ K p.block) (u : Value) : Keep K a (w.setCell p u) :=
 h.trans ⟨rfl, rfl, rfl, by simp [World.setCell], fun k hk => Below.heap_setCell _ _ _ _ (fun e => hp (e ▸ hk))⟩
theorem Keep.below {w w' : World} (h : Keep (fun k => k < w.heap.size) w w') : Below w.heap.size w w' := ⟨h.os, h.tape, h.output, h.size, h.block⟩

def GlbOk (B : Nat → Prop) (w0 : World) : Prop := ∀ g p, (g, p) ∈ glbs → B g ∧ ∃ cs e fr, p cs ∧ w0.heap[g]? = some (.cells cs e fr)
theorem GlbOk.turn {B B' : Nat → Prop} {w0 w : World} (h : GlbOk B w0) (k : Keep B w0 w) (hB : ∀ i, B i → B' i) : GlbOk B' w := fun g p hg => by
 obtain ⟨h1, cs, e, fr, hp, h2⟩ := h g p hg
 exact ⟨hB g h1, cs, e, fr, hp, by rw [k.block g h1]; exact h2⟩
structure Inv (B : Kp) (w0 : World) (m : Nat → Loc) (H : Hp) (w : World) : Prop where
 below : Keep B w0 w
 glob : GlbOk B w0
 hB : ∀ k, B k → k < w.heap.size
 rel : ∀ b k, H.get b = some k → BlkRel B m H.n w b k
 hid : ∀ b k, H.get b = some k → k.live = true → ¬ B.x (m b).blk
 excl : ∀ b b' k k', b ≠ b' → H.get b = some k → H.get b' = some k' → k.owned = true → k'.live = true → (m b).blk ≠ (m b').blk

theorem Inv.freshX {B : Kp} {w0 w : World} {m : Nat → Loc} {H : Hp} (hi : Inv B w0 m H w) {k : Nat} (h : w.heap.size ≤ k) : ¬ B.x k := fun hk => absurd (hi.hB k (B.sub k hk)) (by omega)
theorem Inv.hidSet {B : Kp} {w0 w : World} {m : Nat → Loc} {H : Hp} (hi : Inv B w0 m H w) {b : Nat} {k0 k : Blk} (hg : H.get b = some k0) (hl : k.live = true → k0.live = true) : ∀ b' k', (H.set b k).get b' = some k' → k'.live = true → ¬ B.x (m b').blk := fun b' k' h h2 => by
 by_cases e : b' = b
 ·subst e
  rw [Hp.get_set_same H _ (Hp.get_lt hg)] at h
  injection h with h
  subst h
  exact hi.hid _ _ hg (hl h2)
 ·rw [Hp.get_set_other H _ e] at h
  exact hi.hid _ _ h h2
theorem Inv.fresh {B : Kp} {w0 w : World} {m : Nat → Loc} {H : Hp} (hi : Inv B w0 m H w) {k : Nat} (h : w.heap.size ≤ k) : ¬ B k := fun hk => absurd (hi.hB k hk) (by omega)

end Go.Lt

namespace Go.Lt
open Go.RowKit

/-! ### frames -/
def putF (F : Fr) : Option Tmp → AV → Fr
 | some d, v => (d, v) :: F
 | none, _ => F

theorem lookup_cons (d : Nat) (v : AV) (F : Fr) (t : Nat) : lookup ((d, v) :: F) t = if d = t then v else lookup F t := by
 show (bif Nat.beq d t then v else lookup F t) = _
 by_cases h : d = t
 ·subst h; simp
 ·have e : Nat.beq d t = false := by
   cases hb : Nat.beq d t with
   | false => rfl
   | true => exact absurd (Nat.eq_of_beq_eq_true hb) h
  rw [if_neg h, e]; rfl

def ofVal1 : Value → AV
 | .bool b => .bool b
 | .int k n => .int k n
 | .string s => .str s
 | .pointer none => .nilptr
 | .slice none 0 0 => .sl ⟨true, 0, 0, 0, 0, 0⟩
 | .map none => .nilmap
 | .nilFunc => .nilfn
 | .nilIface => .niliface
 | _ => .undef
def ofVal : Value → AV
 | .agg cs => .agg (cs.toList.map ofVal1)
 | .tuple cs => .tup (cs.toList.map ofVal1)
 | v => ofVal1 v
theorem RV.ofVal1 (m : Nat → Loc) (n : Nat) (v : Value) : RV m n (ofVal1 v) v := by
 unfold Lt.ofVal1
 split <;> first | constructor
theorem RV.ofVal (m : Nat → Loc) (n : Nat) (v : Value) : RV m n (ofVal v) v := by
 unfold Lt.ofVal
 split
 ·refine .agg _ _ (by simp) fun i h1 h2 => ?_
  simp only [List.getElem_map, Array.getElem_toList]
  exact RV.ofVal1 _ _ _
 ·refine .tup _ _ (by simp) fun i h1 h2 => ?_
  simp only [List.getElem_map, Array.getElem_toList]
  exact RV.ofVal1 _ _ _
 ·exact RV.ofVal1 _ _ _

def aeval (F : Fr) : Operand → AV
 | .tmp t => lookup F t
 | .const v => ofVal v
 | .global g => .gptr g
 | .func f => .fn f [] []

def FrRel (m : Nat → Loc) (n : Nat) (F : Fr) (a : Act) : Prop := ∀ t, RV m n (lookup F t) (a.tmps.getD t undef)

theorem FrRel.eval {m : Nat → Loc} {n : Nat} {F : Fr} {a : Act} (h : FrRel m n F a) (x : Operand) : RV m n (aeval F x) (a.eval x) := by
 cases x with
 | tmp t => exact h t
 | const v => exact RV.ofVal _ _ _
 | global g => exact .gptr g
 | func f => exact .fn f [] [] #[] #[] rfl rfl (fun i h => absurd h (by simp)) (fun i h => absurd h (by simp))

theorem FrRel.mono {m m' : Nat → Loc} {n n' : Nat} {F : Fr} {a : Act} (h : FrRel m n F a) (he : Ext n m m') (hn : n ≤ n') : FrRel m' n' F a :=
 fun t => (h t).mono he hn

def dstOk (N : Nat) : Option Tmp → Bool
 | some d => Nat.blt d N
 | none => true

theorem FrRel.put {m : Nat → Loc} {n : Nat} {F : Fr} {a : Act} {d : Option Tmp} {v : AV} {v' : Value} (h : FrRel m n F a) (hv : RV m n v v')
  (hd : dstOk a.tmps.size d = true) : FrRel m n (putF F d v) (a.put d v') := by
 cases d with
 | none => exact h
 | some d =>
  have hd' : d < a.tmps.size := by
   have h2 : d + 1 ≤ a.tmps.size := by simpa [dstOk, Nat.blt] using hd
   exact h2
  intro t
  simp only [putF, Act.put]
  rw [lookup_cons]
  by_cases e : d = t
  ·subst e
   rw [if_pos rfl]
   simpa [hd'] using hv
  ·rw [if_neg e]
   have := h t
   simpa [Array.getElem?_setIfInBounds_ne e] using this

/-! ### one operation -/
abbrev WF (ro : Option Nat) : Fence := { fn := fun _ => True, depth := none, alive := false, round := ro }
def OpRuns (P : Program) (o : Oper) (a : Act) (w : World) (R : Value → World → Prop) : Prop :=
 ∀ (ro : Option Nat) (next : Act → World → Prop) (Q : Exit → Act → World → Prop), (∀ v' w', R v' w' → next (a.put o.dst v') w') → o.wpIn (WF ro) 0 P a w next Q
theorem no_defer {P : Program} {o : Oper} {ρ : Operand → Value} {w w' : World} {x : Next} (h : (execOp ρ o).run P w = .ok x w') (hx : ∀ d, x ≠ .defer d) : ∀ c, o.op ≠ .defer c := by
 intro c hc
 unfold execOp at h
 rw [hc] at h
 simp only [Sem.run_bind, Sem.run_pure] at h
 cases hr : (resolve ρ c o.type).run P w with
 | ok d w1 =>
  rw [hr] at h
  simp only [Result.andThen, Result.ok.injEq] at h
  exact hx d h.1.symm
 | halt y w1 => rw [hr] at h; simp [Result.andThen] at h

structure Step1 (P : Program) (o : Oper) (F : Fr) (H : Hp) (v : AV) (H1 : Hp) : Prop where
 mono : H.n ≤ H1.n
 run : ∀ B w0 m (a : Act) w, (∀ x, x ∈ o.op.operands → RV m H.n (aeval F x) (a.eval x)) → Inv B w0 m H w →
  OpRuns P o a w fun v' w' => ∃ m', Ext H.n m m' ∧ RV m' H1.n v v' ∧ Inv B w0 m' H1 w'

theorem Step1.of_run {P : Program} {o : Oper} {F : Fr} {H H1 : Hp} {v : AV} (hm : H.n ≤ H1.n)
  (h : ∀ B w0 m (a : Act) w, (∀ x, x ∈ o.op.operands → RV m H.n (aeval F x) (a.eval x)) → Inv B w0 m H w →
   ∃ v' w' m', (execOp a.eval o).run P w = .ok (.value v') w' ∧ Ext H.n m m' ∧ RV m' H1.n v v' ∧ Inv B w0 m' H1 w') : Step1 P o F H v H1 :=
 ⟨hm, fun B w0 m a w hx hi ro next Q hn => by
  obtain ⟨v', w', m', hr, he, hv, hi'⟩ := h B w0 m a w hx hi
  refine ⟨fun _ _ => trivial, ?_⟩
  rw [Oper.semAt_eq _ _ _ (no_defer hr (fun d => by simp)), hr]
  exact hn _ _ ⟨m', he, hv, hi'⟩⟩

theorem Step1.of_skip {P : Program} {o : Oper} {F : Fr} {H H1 : Hp} (hm : H.n ≤ H1.n)
  (h : ∀ B w0 m (a : Act) w, (∀ x, x ∈ o.op.operands → RV m H.n (aeval F x) (a.eval x)) → Inv B w0 m H w →
   ∃ w' m', (execOp a.eval o).run P w = .ok .skip w' ∧ Ext H.n m m' ∧ Inv B w0 m' H1 w') : Step1 P o F H .undef H1 :=
 ⟨hm, fun B w0 m a w hx hi ro next Q hn => by
  obtain ⟨w', m', hr, he, hi'⟩ := h B w0 m a w hx hi
  refine ⟨fun _ _ => trivial, ?_⟩
  rw [Oper.semAt_eq _ _ _ (no_defer hr (fun d => by simp)), hr]
  exact hn _ _ ⟨m', he, .undef _, hi'⟩⟩

theorem Step1.pure {P : Program} {o : Oper} {F : Fr} {H : Hp} {v : AV}
  (h : ∀ m (a : Act), (∀ x, x ∈ o.op.operands → RV m H.n (aeval F x) (a.eval x)) → ∃ v', RV m H.n v v' ∧ ∀ w, (execOp a.eval o).run P w = .ok (.value v') w) :
  Step1 P o F H v H :=
 .of_run (Nat.le_refl _) fun B w0 m a w hx hi => by
  obtain ⟨v', hv, hr⟩ := h m a hx
  exact ⟨v', w, m, hr w, .refl _ _, hv, hi⟩

section inv
variable {m : Nat → Loc} {n : Nat} {v : Value}
theorem RV.bool_inv {b : Bool} (h : RV m n (.bool b) v) : v = .bool b := by cases h; rfl
theorem RV.int_inv {k : IntKind} {i : Int} (h : RV m n (.int k i) v) : v = .int k i := by cases h; rfl
theorem RV.str_inv {s : ByteArray} (h : RV m n (.str s) v) : v = .string s := by cases h; rfl
theorem RV.ptr_inv {b o : Nat} (h : RV m n (.ptr b o) v) : b < n ∧ v = .pointer (some ⟨(m b).blk, (m b).sh + o, none⟩) := by cases h; exact ⟨‹_›, rfl⟩
theorem RV.agg_inv {xs : List AV} (h : RV m n (.agg xs) v) : ∃ vs, v = .agg vs ∧ RVs m n xs vs.toList := by
 cases h with
 | agg _ vs hx h => exact ⟨vs, rfl, by simpa using hx, fun i h1 h2 => by simpa using h i h1 (by simpa using h2)⟩
theorem RV.tup_inv {xs : List AV} (h : RV m n (.tup xs) v) : ∃ vs, v = .tuple vs ∧ RVs m n xs vs.toList := by
 cases h with
 | tup _ vs hx h => exact ⟨vs, rfl, by simpa using hx, fun i h1 h2 => by simpa using h i h1 (by simpa using h2)⟩
theorem RV.agg_mk {xs : List AV} {vs : Array Value} (h : RVs m n xs vs.toList) : RV m n (.agg xs) (.agg vs) :=
 .agg _ _ (by simpa using h.1) fun i h1 h2 => by
  have := h.2 i h1 (by simpa using h2)
  rwa [Array.getElem_toList] at this
theorem RV.tup_mk {xs : List AV} {vs : Array Value} (h : RVs m n xs vs.toList) : RV m n (.tup xs) (.tuple vs) :=
 .tup _ _ (by simpa using h.1) fun i h1 h2 => by
  have := h.2 i h1 (by simpa using h2)
  rwa [Array.getElem_toList] at this
end inv

section pureops
variable {P : Program} {F : Fr} {H : Hp} {d : Option Tmp} {ty : TypeId} {pos : String} {af : Array Edge} {g : Option (Nat × Bool)}

theorem s_move {x : Operand} : Step1 P ⟨d, .move x, ty, pos, af, g⟩ F H (aeval F x) H :=
 .pure fun m a hx => ⟨a.eval x, hx x (by simp [Op.operands]), fun w => by simp [execOp]⟩
theorem s_assign {x : Operand} : Step1 P ⟨d, .assign x, ty, pos, af, g⟩ F H (aeval F x) H :=
 .pure fun m a hx => ⟨a.eval x, hx x (by simp [Op.operands]), fun w => by simp [execOp]⟩
theorem s_pick {c x y : Operand} {t : Bool} (hc : aeval F c = .bool t) : Step1 P ⟨d, .pick c x y, ty, pos, af, g⟩ F H (bif t then aeval F x else aeval F y) H :=
 .pure fun m a hx => by
  have h1 := hx c (by simp [Op.operands]); rw [hc] at h1
  have h1 := h1.bool_inv
  cases t
  ·exact ⟨a.eval y, hx y (by simp [Op.operands]), fun w => by simp [execOp, h1, asBool]⟩
  ·exact ⟨a.eval x, hx x (by simp [Op.operands]), fun w => by simp [execOp, h1, asBool]⟩
theorem s_extract {x : Operand} {i : Nat} {xs : List AV} {r : AV} (hx' : aeval F x = .tup xs) (hr : xs[i]? = some r) :
  Step1 P ⟨d, .extract x i, ty, pos, af, g⟩ F H r H :=
 .pure fun m a hx => by
  have h1 := hx x (by simp [Op.operands]); rw [hx'] at h1
  obtain ⟨vs, e, hl, h⟩ := h1.tup_inv
  obtain ⟨hi, rfl⟩ := List.getElem?_eq_some_iff.1 hr
  have hi' : i < vs.size := by simpa [hl] using hi
  have hv := h i hi (by simpa using hi')
  rw [Array.getElem_toList] at hv
  refine ⟨vs[i], hv, fun w => ?_⟩
  simp [execOp, e, Instr.extract, hi']

theorem binOp_run {op : BinOp} {t : TypeId} {x y : Operand} {yt : TypeId} {a : Act} {k : IntKind} {i j : Int} (hi : a.eval x = .int k i) (hj : a.eval y = .int k j) (w : World) :
  (execOp a.eval ⟨d, .binOp op t x y yt, ty, pos, af, g⟩).run P w = ((binOp op t (.int k i) (.int k j)).run P w).andThen fun v w' => .ok (.value v) w' := by
 simp only [execOp, hi, hj]
 cases op <;> simp [eqGuard]

section arith
variable {t yt : TypeId} {x y : Operand} {k : IntKind} {i j : Int}
theorem s_int {op : BinOp} {r : AV} (hi : aeval F x = .int k i) (hj : aeval F y = .int k j)
  (h : ∃ v', (∀ m n, RV m n r v') ∧ ∀ w, (binOp op t (.int k i) (.int k j)).run P w = .ok v' w) :
  Step1 P ⟨d, .binOp op t x y yt, ty, pos, af, g⟩ F H r H :=
 .pure fun m a hx => by
  have h1 := hx x (by simp [Op.operands]); rw [hi] at h1
  have h2 := hx y (by simp [Op.operands]); rw [hj] at h2
  obtain ⟨v', hv, hr⟩ := h
  refine ⟨v', hv _ _, fun w => ?_⟩
  rw [binOp_run h1.int_inv h2.int_inv, hr]
  rfl
theorem s_add (hi : aeval F x = .int k i) (hj : aeval F y = .int k j) : Step1 P ⟨d, .binOp .add t x y yt, ty, pos, af, g⟩ F H (.int k (k.wrap (i + j))) H :=
 s_int hi hj ⟨_, fun _ _ => .int _ _, fun w => by simp [binOp, Op.intArith]⟩
theorem s_sub (hi : aeval F x = .int k i) (hj : aeval F y = .int k j) : Step1 P ⟨d, .binOp .sub t x y yt, ty, pos, af, g⟩ F H (.int k (k.wrap (i - j))) H :=
 s_int hi hj ⟨_, fun _ _ => .int _ _, fun w => by simp [binOp, Op.intArith]⟩
theorem s_mul (hi : aeval F x = .int k i) (hj : aeval F y = .int k j) : Step1 P ⟨d, .binOp .mul t x y yt, ty, pos, af, g⟩ F H (.int k (k.wrap (i * j))) H :=
 s_int hi hj ⟨_, fun _ _ => .int _ _, fun w => by simp [binOp, Op.intArith]⟩
theorem s_quo (hi : aeval F x = .int k i) (hj : aeval F y = .int k j) (hz : j ≠ 0) : Step1 P ⟨d, .binOp .quo t x y yt, ty, pos, af, g⟩ F H (.int k (k.wrap (i.tdiv j))) H :=
 s_int hi hj ⟨_, fun _ _ => .int _ _, fun w => by simp [binOp, Op.intDiv, hz]⟩
theorem s_rem (hi : aeval F x = .int k i) (hj : aeval F y = .int k j) (hz : j ≠ 0) : Step1 P ⟨d, .binOp .rem t x y yt, ty, pos, af, g⟩ F H (.int k (i.tmod j)) H :=
 s_int hi hj ⟨_, fun _ _ => .int _ _, fun w => by simp [binOp, Op.intDiv, hz]⟩
theorem s_eql (hi : aeval F x = .int k i) (hj : aeval F y = .int k j) : Step1 P ⟨d, .binOp .eql t x y yt, ty, pos, af, g⟩ F H (.bool (decide (i = j))) H :=
 s_int hi hj ⟨_, fun _ _ => .bool _, fun w => by simp [binOp, Op.intCmp]; rfl⟩
theorem s_neq (hi : aeval F x = .int k i) (hj : aeval F y = .int k j) : Step1 P ⟨d, .binOp .neq t x y yt, ty, pos, af, g⟩ F H (.bool (decide (i ≠ j))) H :=
 s_int hi hj ⟨_, fun _ _ => .bool _, fun w => by simp [binOp, Op.intCmp, bne]; rfl⟩
theorem s_lss (hi : aeval F x = .int k i) (hj : aeval F y = .int k j) : Step1 P ⟨d, .binOp .lss t x y yt, ty, pos, af, g⟩ F H (.bool (decide (i < j))) H :=
 s_int hi hj ⟨_, fun _ _ => .bool _, fun w => by simp [binOp, Op.intCmp]⟩
theorem s_leq (hi : aeval F x = .int k i) (hj : aeval F y = .int k j) : Step1 P ⟨d, .binOp .leq t x y yt, ty, pos, af, g⟩ F H (.bool (decide (i ≤ j))) H :=
 s_int hi hj ⟨_, fun _ _ => .bool _, fun w => by simp [binOp, Op.intCmp]⟩
theorem s_gtr (hi : aeval F x = .int k i) (hj : aeval F y = .int k j) : Step1 P ⟨d, .binOp .gtr t x y yt, ty, pos, af, g⟩ F H (.bool (decide (j < i))) H :=
 s_int hi hj ⟨_, fun _ _ => .bool _, fun w => by simp [binOp, Op.intCmp]⟩
theorem s_geq (hi : aeval F x = .int k i) (hj : aeval F y = .int k j) : Step1 P ⟨d, .binOp .geq t x y yt, ty, pos, af, g⟩ F H (.bool (decide (j ≤ i))) H :=
 s_int hi hj ⟨_, fun _ _ => .bool _, fun w => by simp [binOp, Op.intCmp]⟩
end arith
section shifts
variable {t yt : TypeId} {x y : Operand} {k k' : IntKind} {i j : Int}
theorem s_not {x : Operand} {b : Bool} (hb : aeval F x = .bool b) : Step1 P ⟨d, .unOp .not t x, ty, pos, af, g⟩ F H (.bool (!b)) H :=
 .pure fun m a hx => by
  have h1 := hx x (by simp [Op.operands]); rw [hb] at h1
  exact ⟨_, .bool _, fun w => by simp [execOp, h1.bool_inv, Op.unary]⟩
theorem s_neg {x : Operand} {k : IntKind} {i : Int} (hb : aeval F x = .int k i) : Step1 P ⟨d, .unOp .neg t x, ty, pos, af, g⟩ F H (.int k (k.wrap (0 - i))) H :=
 .pure fun m a hx => by
  have h1 := hx x (by simp [Op.operands]); rw [hb] at h1
  exact ⟨_, .int _ _, fun w => by simp [execOp, h1.int_inv, Op.unary, Op.intArith]⟩
end shifts
end pureops
end Go.Lt

namespace Go.Lt
open Go.RowKit

/-! ### memory -/
def Hp.ld (H : Hp) (b o : Nat) : Option AV :=
 match H.get b with
 | some (.cells cs _) => cs[o]?
 | _ => none
def Hp.lds (H : Hp) (b : Nat) : Nat → Nat → Option (List AV)
 | _, 0 => some []
 | o, n + 1 => (H.ld b o).bind fun x => (Hp.lds H b (o + 1) n).map (x :: ·)
def Hp.st (H : Hp) (b o : Nat) (v : AV) : Option Hp :=
 match H.get b with
 | some (.cells cs false) => if o < cs.length then some (H.set b (.cells (cs.set o v) false)) else none
 | _ => none
def Hp.sts (H : Hp) (b : Nat) : Nat → List AV → Option Hp
 | _, [] => some H
 | o, v :: vs => (H.st b o v).bind fun H1 => Hp.sts H1 b (o + 1) vs

theorem lds_nil {H : Hp} {b o : Nat} : H.lds b o 0 = some [] := rfl
theorem lds_cons {H : Hp} {b o n : Nat} {x : AV} {xs : List AV} (h : H.ld b o = some x) (hs : H.lds b (o + 1) n = some xs) :
  H.lds b o (n + 1) = some (x :: xs) := by
 simp [Hp.lds, h, hs]
theorem lds_cons_inv {H : Hp} {b o n : Nat} {l : List AV} (h : H.lds b o (n + 1) = some l) :
  ∃ x xs, l = x :: xs ∧ H.ld b o = some x ∧ H.lds b (o + 1) n = some xs := by
 simp only [Hp.lds] at h
 cases h1 : H.ld b o with
 | none => simp [h1] at h
 | some x =>
  cases h2 : H.lds b (o + 1) n with
  | none => simp [h1, h2] at h
  | some xs => simp [h1, h2] at h; exact ⟨x, xs, h.symm, rfl, rfl⟩

def AV.one : AV → Bool
 | .agg _ | .tup _ | .undef => false
 | _ => true
def AV.cellsA : AV → List AV
 | .agg cs => cs
 | v => [v]

theorem RV.one_conc {m : Nat → Loc} {n : Nat} {x : AV} {v : Value} (h : RV m n x v) (ho : x.one = true) : v.oneCell' = true := by
 cases h <;> first | rfl | simp [AV.one] at ho

section
variable {B : Kp} {w0 w : World} {m : Nat → Loc} {H : Hp}

theorem Inv.ld (hi : Inv B w0 m H w) {b o : Nat} {x : AV} (h : H.ld b o = some x) (sh : Nat) (hsh : sh = (m b).sh + o) :
  ∃ v, w.cell? ⟨(m b).blk, sh, none⟩ = some v ∧ RV m H.n x v := by
 subst hsh
 unfold Hp.ld at h
 split at h
 ·rename_i cs ro hg
  obtain ⟨c, e, fr, hh, hz, hl, hc, _⟩ := hi.rel b _ hg
  obtain ⟨hlt, rfl⟩ := List.getElem?_eq_some_iff.1 h
  obtain ⟨v, hv, hr⟩ := hc o hlt
  exact ⟨v, by simp [World.cell?, hh, hv], hr⟩
 ·cases h

theorem addr_add (a o j : Nat) : (⟨a, o, none⟩ : Addr).add j = ⟨a, o + j, none⟩ := by
 unfold Addr.add
 split
 ·rename_i h; subst h; rfl
 ·rfl

theorem loadCellsFrom_run (P : Program) (a : Addr) : ∀ (n i : Nat) (acc vs : Array Value), (∀ j (h : j < vs.size), w.cell? (a.add (i + j)) = some vs[j]) → vs.size = n →
  (loadCellsFrom a i n acc).run P w = .ok (acc ++ vs) w := by
 intro n
 induction n with
 | zero =>
  intro i acc vs _ hz
  have : vs = #[] := by simpa using hz
  subst this
  simp [loadCellsFrom]
 | succ n ih =>
  intro i acc vs hv hz
  have h0 := hv 0 (by omega)
  simp only [Nat.add_zero] at h0
  simp only [loadCellsFrom, Sem.run_bind, run_load, h0, Result.andThen_ok]
  have hs : vs = #[vs[0]] ++ vs.extract 1 vs.size := by
   apply Array.ext
   ·simp; omega
   ·intro j h1 h2
    cases j with
    | zero => simp
    | succ j => simp; congr 1; omega
  rw [ih (i + 1) (acc.push vs[0]) (vs.extract 1 vs.size) (fun j h => by
   have h' : j < vs.size - 1 := by simpa using h
   have := hv (1 + j) (by omega)
   rw [show i + 1 + j = i + (1 + j) by omega, this]
   simp) (by simp; omega)]
  conv => rhs; rw [hs]
  simp

theorem Inv.lds (hi : Inv B w0 m H w) (P : Program) {b : Nat} : ∀ {n o : Nat} {xs : List AV}, H.lds b o n = some xs →
  ∃ vs : List Value, vs.length = n ∧ (∀ j (h : j < vs.length), w.cell? ⟨(m b).blk, (m b).sh + o + j, none⟩ = some vs[j]) ∧ RVs m H.n xs vs := by
 intro n
 induction n with
 | zero =>
  intro o xs h
  simp [Hp.lds] at h
  subst h
  exact ⟨[], rfl, fun j h => absurd h (by simp), .nil⟩
 | succ n ih =>
  intro o xs h
  obtain ⟨x, xs, rfl, h1, h2⟩ := lds_cons_inv h
  obtain ⟨vs, hl, hc, hr⟩ := ih h2
  obtain ⟨v, hv, hrv⟩ := hi.ld h1 _ rfl
  refine ⟨v :: vs, by simp [hl], fun j h => ?_, .cons hrv hr⟩
  cases j with
  | zero => simpa using hv
  | succ j =>
   have := hc j (by simpa using h)
   rw [show (m b).sh + (o + 1) + j = (m b).sh + o + (j + 1) by omega] at this
   simpa using this

theorem loadCells_run (P : Program) {b o : Nat} {vs : List Value} (hc : ∀ j (h : j < vs.length), w.cell? ⟨b, o + j, none⟩ = some vs[j]) :
  (loadCells ⟨b, o, none⟩ vs.length).run P w = .ok vs.toArray w := by
 unfold loadCells
 rw [loadCellsFrom_run P ⟨b, o, none⟩ vs.length 0 #[] vs.toArray (fun j h => ?_) (by simp)]
 ·simp
 ·rw [addr_add]
  have h' : j < vs.length := by simpa using h
  have := hc j h'
  rw [show o + (0 + j) = o + j by omega, this]
  simp

def newLoc (H : Hp) (m : Nat → Loc) (l : Loc) : Nat → Loc := fun b => if b = H.n then l else m b
theorem newLoc_ext (H : Hp) (m : Nat → Loc) (l : Loc) : Ext H.n m (newLoc H m l) := fun b hb => by unfold newLoc; rw [if_neg (by omega)]
@[simp] theorem newLoc_new (H : Hp) (m : Nat → Loc) (l : Loc) : newLoc H m l H.n = l := by unfold newLoc; rw [if_pos rfl]
theorem newLoc_old {H : Hp} {m : Nat → Loc} {l : Loc} {b : Nat} (h : b < H.n) : newLoc H m l b = m b := newLoc_ext H m l b h

theorem CellsAt.mono {m m' : Nat → Loc} {n n' : Nat} {c : Array Value} {sh : Nat} {cs : List AV} (h : CellsAt m n c sh cs) (he : Ext n m m') (hn : n ≤ n') : CellsAt m' n' c sh cs :=
 fun i hi => by
  obtain ⟨v, hv, hr⟩ := h i hi
  exact ⟨v, hv, hr.mono he hn⟩

theorem BlkRel.mono {m m' : Nat → Loc} {n n' : Nat} {w w' : World} {b : Nat} {k : Blk} (h : BlkRel B m n w b k) (he : Ext n m m') (hn : n ≤ n') (hb : b < n)
  (hw : k.live = true → w'.heap[(m b).blk]? = w.heap[(m b).blk]?) : BlkRel B m' n' w' b k := by
 have hm := he b hb
 cases k with
 | cells cs ro =>
  obtain ⟨c, e, fr, hh, hz, hl, hc, hro⟩ := h
  unfold BlkRel
  rw [hm, hw rfl]
  exact ⟨c, e, fr, hh, hz, hl, hc.mono he hn, hro⟩
 | map kt es =>
  obtain ⟨ents, clock, hh, hB, hs, hk, hp⟩ := h
  unfold BlkRel
  rw [hm, hw rfl]
  exact ⟨ents, clock, hh, hB, hs, hk, fun i h1 h2 => ⟨(hp i h1 h2).1.mono he hn, (hp i h1 h2).2.mono he hn⟩⟩
 | iter s pos =>
  unfold BlkRel at h ⊢
  rw [hm, hw rfl]
  exact h
 | loop st pend T N F =>
  obtain ⟨tmps, dd, fn, hh, hB, hs, hf⟩ := h
  unfold BlkRel
  rw [hm, hw rfl]
  exact ⟨tmps, dd, fn, hh, hB, hs, fun t => (hf t).mono he hn⟩
 | dfr =>
  unfold BlkRel at h ⊢
  rw [hm, hw rfl]
  exact h
 | bld q len =>
  obtain ⟨p, v, hh, h1, h2, h3, h4⟩ := h
  unfold BlkRel
  rw [hm, hw rfl]
  refine ⟨p, v, hh, h1, h2, h3, ?_⟩
  rcases h4 with h4 | ⟨g, rfl, hg, h4⟩
  ·exact .inl h4
  ·exact .inr ⟨g, rfl, by omega, by rw [he g hg]; exact h4⟩
 | buf s =>
  unfold BlkRel at h ⊢
  rw [hm, hw rfl]
  exact h
 | dead => trivial

theorem Inv.blk_lt (hi : Inv B w0 m H w) {b : Nat} {k : Blk} (h : H.get b = some k) (hl : k.live = true) : (m b).blk < w.heap.size := by
 have hr := hi.rel b k h
 have : ∃ o, w.heap[(m b).blk]? = some o := by
  cases k with
  | cells cs ro => obtain ⟨c, e, fr, hh, _⟩ := hr; exact ⟨_, hh⟩
  | map kt es => obtain ⟨en, cl, hh, _⟩ := hr; exact ⟨_, hh⟩
  | iter s pos => exact ⟨_, hr.1⟩
  | loop st pend T N F => obtain ⟨tmps, dd, fn, hh, _⟩ := hr; exact ⟨_, hh⟩
  | dfr => exact ⟨_, hr.1⟩
  | bld q len => obtain ⟨p, v, hh, _⟩ := hr; exact ⟨_, hh⟩
  | buf s => obtain ⟨c, hh, _⟩ := hr; exact ⟨_, hh⟩
  | dead => simp [Blk.live] at hl
 obtain ⟨o, ho⟩ := this
 exact (Array.getElem?_eq_some_iff.1 ho).1

theorem Inv.drew (hi : Inv B w0 m H w) : Inv B w0 m H w.drew :=
 ⟨hi.below.drew, hi.glob, hi.hB, fun b k h => (hi.rel b k h).mono (.refl _ _) (Nat.le_refl _) (Hp.get_lt h) (fun _ => rfl), hi.hid, hi.excl⟩

theorem Inv.push (hi : Inv B w0 m H w) (o : Obj) (k : Blk) (l : Loc) (hl : l.blk = w.heap.size)
  (hk : BlkRel B (newLoc H m l) (H.n + 1) (w.alloc o) H.n k) : Inv B w0 (newLoc H m l) (H.push k) (w.alloc o) where
 below := hi.below.alloc hi.hB o
 glob := hi.glob
 hB := fun k hk => by have := hi.hB k hk; simp; omega
 rel := fun b k' h => by
  rw [Hp.get_push] at h
  by_cases e : b = H.n
  ·subst e
   rw [if_pos rfl] at h
   cases h
   exact hk
  ·rw [if_neg e] at h
   have hb := Hp.get_lt h
   refine (hi.rel b k' h).mono (newLoc_ext H m l) (by simp) hb (fun hl => ?_)
   exact Below.heap_alloc w o _ (hi.blk_lt h hl)
 hid := fun b k' h h2 => by
  rw [Hp.get_push] at h
  by_cases e : b = H.n
  ·subst e
   rw [newLoc_new, hl]
   exact hi.freshX (Nat.le_refl _)
  ·rw [if_neg e] at h
   rw [newLoc_old (Hp.get_lt h)]
   exact hi.hid b k' h h2
 excl := fun b b' k1 k2 hne h1 h2 ho hl2 => by
  rw [Hp.get_push] at h1 h2
  by_cases e : b = H.n
  ·rw [if_neg (by omega)] at h2
   subst e
   rw [newLoc_new, newLoc_old (Hp.get_lt h2), hl]
   have := hi.blk_lt h2 hl2
   omega
  ·rw [if_neg e] at h1
   by_cases e' : b' = H.n
   ·subst e'
    rw [newLoc_new, newLoc_old (Hp.get_lt h1), hl]
    have hlive : k1.live = true := by cases k1 <;> simp_all [Blk.owned, Blk.live]
    have := hi.blk_lt h1 hlive
    omega
   ·rw [if_neg e'] at h2
    rw [newLoc_old (Hp.get_lt h1), newLoc_old (Hp.get_lt h2)]
    exact hi.excl b b' k1 k2 hne h1 h2 ho hl2

theorem Inv.pushCells (hi : Inv B w0 m H w) {cs : List AV} {vs : Array Value} (t : TypeId) (h : RVs m H.n cs vs.toList) (cs' : List AV) (hp : cs = cs' ++ cs.drop cs'.length) :
  Inv B w0 (newLoc H m ⟨w.heap.size, 0, vs.size⟩) (H.push (.cells cs' false)) (w.alloc (.cells vs t)) := by
 refine hi.push _ _ _ rfl ?_
 have hl := h.1
 simp only [Array.length_toList] at hl
 have hlen : cs'.length ≤ cs.length := by
  have := congrArg List.length hp
  simp at this
  omega
 refine ⟨vs, t, (0, 0), ?_, ?_, ?_, ?_, ?_⟩
 ·show (w.heap.push _)[(newLoc H m _ H.n).blk]? = _
  rw [newLoc_new]; simp
 ·rw [newLoc_new]
 ·rw [newLoc_new]; simp only [Nat.zero_add]; omega
 ·intro i hi'
  have h1 : i < cs.length := by omega
  have h2 : i < vs.toList.length := by simp; omega
  refine ⟨vs.toList[i], ?_, ?_⟩
  ·rw [newLoc_new]; simp
  ·have := (h.2 i h1 h2).mono (newLoc_ext H m ⟨w.heap.size, 0, vs.size⟩) (Nat.le_succ _)
   have e : cs'[i] = cs[i] := by
    have : cs[i]? = (cs' ++ cs.drop cs'.length)[i]? := by rw [← hp]
    rw [List.getElem?_append_left hi', List.getElem?_eq_getElem h1, List.getElem?_eq_getElem hi'] at this
    exact (Option.some.inj this).symm
   rw [e]; exact this
 ·intro _; rw [newLoc_new]; exact ⟨.zero _, hi.fresh (Nat.le_refl _)⟩

theorem Inv.st (hi : Inv B w0 m H w) {b o : Nat} {x : AV} {v : Value} {H1 : Hp} (h : H.st b o x = some H1) (hv : RV m H.n x v) (ho : x.one = true) (P : Program) :
  (store ⟨(m b).blk, (m b).sh + o, none⟩ v).run P w = .ok () (w.setCell ⟨(m b).blk, (m b).sh + o, none⟩ v) ∧
  Inv B w0 m H1 (w.setCell ⟨(m b).blk, (m b).sh + o, none⟩ v) ∧ H1.n = H.n := by
 unfold Hp.st at h
 split at h
 case h_2 => cases h
 rename_i cs hg
 split at h
 case isFalse => cases h
 rename_i hlt
 injection h with h
 subst h
 obtain ⟨c, te, fr, hh, hz, hl, hc, hro⟩ := hi.rel b _ hg
 obtain ⟨hfz, hB⟩ := hro rfl
 obtain ⟨u, hu, hru⟩ := hc o hlt
 have hcell : w.cell? ⟨(m b).blk, (m b).sh + o, none⟩ = some u := by simp [World.cell?, hh, hu]
 have hfr : w.frozen? ⟨(m b).blk, (m b).sh + o, none⟩ = false := by
  have := hfz ((m b).sh + o) (by omega)
  obtain ⟨lo, hi⟩ := fr
  simp only [World.frozen?, hh]
  simpa using this
 refine ⟨?_, ?_, by simp⟩
 ·rw [run_store P w _ v .plain (hv.one_conc ho), hcell, hfr]
  simp
 ·have hheap : ∀ k, k ≠ (m b).blk → (w.setCell ⟨(m b).blk, (m b).sh + o, none⟩ v).heap[k]? = w.heap[k]? := fun k hk => Below.heap_setCell w _ _ _ hk
  refine ⟨hi.below.setCell hB v, hi.glob, by simpa using hi.hB, fun b' k' h' => ?_, hi.hidSet hg (fun _ => rfl), fun b1 b2 k1 k2 hne h1 h2 ho1 hl2 => ?_⟩
  ·by_cases e : b' = b
   ·subst e
    rw [Hp.get_set_same H _ (Hp.get_lt hg)] at h'
    injection h' with h'
    subst h'
    refine ⟨c.setIfInBounds ((m b').sh + o) v, te, fr, ?_, by simpa using hz, by simpa using hl, ?_, fun _ => ⟨by simpa using hfz, hB⟩⟩
    ·simp only [World.setCell, Array.getElem?_modify]
     rw [if_pos trivial, hh]
     rfl
    ·intro i hi'
     have hi2 : i < cs.length := by simpa using hi'
     simp only [Hp.n_set]
     by_cases ei : i = o
     ·subst ei
      refine ⟨v, ?_, by simpa using hv⟩
      have : (m b').sh + i < c.size := by omega
      simp [this]
     ·obtain ⟨u', hu', hr'⟩ := hc i hi2
      refine ⟨u', ?_, ?_⟩
      ·rw [Array.getElem?_setIfInBounds_ne (by omega)]; exact hu'
      ·rw [List.getElem_set_ne (Ne.symm ei)]; exact hr'
   ·rw [Hp.get_set_other H _ e] at h'
    refine (hi.rel b' k' h').mono (.refl _ _) (by simp) (Hp.get_lt h') (fun hl' => hheap _ ?_)
    exact fun e2 => hi.excl b b' _ _ (Ne.symm e) hg h' rfl hl' e2.symm
  ·have old : ∀ b' k', (H.set b (.cells (cs.set o x) false)).get b' = some k' → ∃ k'', H.get b' = some k'' ∧ k''.owned = k'.owned ∧ k''.live = k'.live := by
    intro b' k' h'
    by_cases e : b' = b
    ·subst e
     rw [Hp.get_set_same H _ (Hp.get_lt hg)] at h'
     injection h' with h'
     subst h'
     exact ⟨_, hg, rfl, rfl⟩
    ·rw [Hp.get_set_other H _ e] at h'
     exact ⟨k', h', rfl, rfl⟩
   obtain ⟨k1', g1, o1, _⟩ := old _ _ h1
   obtain ⟨k2', g2, _, l2⟩ := old _ _ h2
   exact hi.excl b1 b2 k1' k2' hne g1 g2 (o1 ▸ ho1) (l2 ▸ hl2)

theorem Inv.sts (hi : Inv B w0 m H w) (P : Program) {b : Nat} : ∀ {xs : List AV} {o i : Nat} {vs : List Value} {H H1 : Hp} {w : World}, Inv B w0 m H w → H.sts b (o + i) xs = some H1 → RVs m H.n xs vs →
  (∀ x ∈ xs, x.one = true) → ∃ w', (storeCells ⟨(m b).blk, (m b).sh + o, none⟩ vs i).run P w = .ok () w' ∧ Inv B w0 m H1 w' ∧ H1.n = H.n := by
 intro xs
 induction xs with
 | nil =>
  intro o i vs H H1 w hi h hv ho
  rw [hv.nil_inv]
  simp [Hp.sts] at h
  subst h
  exact ⟨w, by simp [storeCells], hi, rfl⟩
 | cons x xs ih =>
  intro o i vs H H1 w hi h hv ho
  obtain ⟨v, vs, rfl, hv1, hvs⟩ := hv.cons_inv
  simp only [Hp.sts] at h
  cases h1 : H.st b (o + i) x with
  | none => simp [h1] at h
  | some H2 =>
   simp only [h1, Option.bind_some] at h
   obtain ⟨hr, hi2, hn⟩ := hi.st h1 hv1 (ho x (by simp)) P
   obtain ⟨w', hr', hi', hn'⟩ := ih (o := o) (i := i + 1) hi2 (by rw [← Nat.add_assoc]; exact h) (by rw [hn]; exact hvs) (fun y hy => ho y (by simp [hy]))
   refine ⟨w', ?_, hi', hn'.trans hn⟩
   simp only [storeCells, Sem.run_bind]
   rw [addr_add, show (m b).sh + o + i = (m b).sh + (o + i) by omega, hr]
   simpa using hr'
end
end Go.Lt

namespace Go.Lt
open Go.RowKit

/-! ### control: what is left to do -/
def Out : Option Code → List Item → Prop
 | none, t => t = []
 | some .ret, t => ∃ k, t = .code .ret :: k
 | some (.exit id), t => ∃ k, t = .code (.exit id) :: k ∧ exitTo id k = none
 | _, _ => False
def TWp (P : Program) (ro : Option Nat) (todo : List Item) (R : Option Code → Act → World → Prop) (a : Act) (w : World) : Prop :=
 ∀ (b : Frame) (cs : List Frame), b.roundOf = ro → b.kind = .normal → ∃ e a' w' t', R e a' w' ∧ Out e t' ∧ Steps P (lone (b.atR a todo) cs w) (lone (b.atR a' t') cs w')

section twp
variable {P : Program} {ro : Option Nat} {R : Option Code → Act → World → Prop} {a : Act} {w : World} {k : List Item}
theorem TWp.step {todo todo' : List Item} {a' : Act} {w' : World} (hs : ∀ (b : Frame) cs, b.roundOf = ro → step P (lone (b.atR a todo) cs w) = .next (lone (b.atR a' todo') cs w'))
  (h : TWp P ro todo' R a' w') : TWp P ro todo R a w := fun b cs hb hk =>
 let ⟨e, a2, w2, t2, hr, ho, h2⟩ := h b cs hb hk
 ⟨e, a2, w2, t2, hr, ho, .head (hs b cs hb) h2⟩
theorem TWp.ret (h : R (some .ret) a w) : TWp P ro (.code .ret :: k) R a w := fun b cs _ _ => ⟨_, a, w, _, h, ⟨k, rfl⟩, .refl _ _⟩
theorem TWp.end (h : R none a w) : TWp P ro [] R a w := fun b cs _ _ => ⟨_, a, w, _, h, rfl, .refl _ _⟩
theorem TWp.out {id : Nat} (hx : exitTo id k = none) (h : R (some (.exit id)) a w) : TWp P ro (.code (.exit id) :: k) R a w := fun b cs _ _ => ⟨_, a, w, _, h, ⟨k, rfl, hx⟩, .refl _ _⟩
theorem TWp.of_wp {c : Code} (h : c.wpIn (WF ro) 0 P (fun e a' w' => e = .normal ∧ TWp P ro k R a' w') a w) : TWp P ro (.code c :: k) R a w := fun b cs hb hk => by
 obtain ⟨e, a1, w1, ⟨rfl, hq⟩, harr⟩ := h b k cs hb trivial (fun _ h => by cases h)
 obtain ⟨e, a2, w2, t2, hr, ho, h2⟩ := hq b cs hb hk
 exact ⟨e, a2, w2, t2, hr, ho, Steps.trans (StepsIn.steps harr) h2⟩
theorem TWp.mono {todo : List Item} {R' : Option Code → Act → World → Prop} (h : TWp P ro todo R a w) (hr : ∀ e a w, R e a w → R' e a w) : TWp P ro todo R' a w := fun b cs hb hk =>
 let ⟨e, a2, w2, t2, r, ho, h2⟩ := h b cs hb hk
 ⟨e, a2, w2, t2, hr _ _ _ r, ho, h2⟩
end twp

def CallSim (P : Program) (f : FuncId) (args : List AV) (H : Hp) (v : AV) (H1 : Hp) : Prop :=
 H.n ≤ H1.n ∧ ∀ B w0 m w (args' : Array Value), RVs m H.n args args'.toList → Inv B w0 m H w →
  Calls P f args' w fun e w' => ∃ v' m', e = .returned v' ∧ Ext H.n m m' ∧ RV m' H1.n v v' ∧ Inv B w0 m' H1 w'

structure Ctx where
 n : Nat
 d : List Nat
 ro : Option Nat
instance (k : Nat) : OfNat Ctx k := ⟨⟨k, [], none⟩⟩
def markOf (m : Nat → Loc) (b : Nat) : Deferred := { target := .collected (m b).blk, args := #[] }
def roOf (m : Nat → Loc) (N : Ctx) : Option Nat := N.ro.map fun l => (m l).blk

structure St (B : Kp) (w0 : World) (N : Ctx) (m : Nat → Loc) (F : Fr) (H : Hp) (a : Act) (w : World) : Prop where
 sz : a.tmps.size = N.n
 df : a.defers = N.d.map (markOf m)
 fr : FrRel m H.n F a
 inv : Inv B w0 m H w
 lt : (∀ b, b ∈ N.d → b < H.n) ∧ ∀ l, N.ro = some l → l < H.n
theorem St.marks {B : Kp} {w0 : World} {N : Ctx} {m m' : Nat → Loc} {F : Fr} {H : Hp} {a : Act} {w : World} (st : St B w0 N m F H a w) (he : Ext H.n m m') : N.d.map (markOf m') = N.d.map (markOf m) ∧ roOf m' N = roOf m N := by
 constructor
 ·apply List.map_congr_left
  intro b hb
  unfold markOf
  rw [he b (st.lt.1 b hb)]
 ·unfold roOf
  cases hr : N.ro with
  | none => rfl
  | some l => simp [he l (st.lt.2 l hr)]
theorem St.up {B : Kp} {w0 : World} {N : Ctx} {m : Nat → Loc} {F : Fr} {H H' : Hp} {a : Act} {w : World} (st : St B w0 N m F H a w) (hn : H.n ≤ H'.n) : (∀ b, b ∈ N.d → b < H'.n) ∧ ∀ l, N.ro = some l → l < H'.n :=
 ⟨fun b hb => Nat.lt_of_lt_of_le (st.lt.1 b hb) hn, fun l hl => Nat.lt_of_lt_of_le (st.lt.2 l hl) hn⟩

def wpL (P : Program) (ro : Option Nat) (ops : Array Oper) (Q : Exit → Act → World → Prop) : List Oper → Act → World → Prop
 | [], a, w => Q .normal a w
 | o :: r, a, w => if Region.wanted o (yielded ops a.tmps) then o.wpIn (WF ro) 0 P a w (wpL P ro ops Q r) Q else wpL P ro ops Q r (a.put o.dst undef) w
theorem wpL_ops {P : Program} {ro : Option Nat} {ops : Array Oper} {Q : Exit → Act → World → Prop} : ∀ (l : List Oper) (k : Nat) (a : Act) (w : World), (∀ j, l[j]? = ops[k + j]?) → wpL P ro ops Q l a w → wpOpsIn (WF ro) 0 P ops Q (List.range' k l.length) a w := by
 intro l
 induction l with
 | nil => intro k a w _ h; exact h
 | cons o l ih =>
  intro k a w hl h
  have ho : ops[k]? = some o := by have := hl 0; simpa using this.symm
  have hr : ∀ j, l[j]? = ops[k + 1 + j]? := fun j => by
   have := hl (j + 1)
   rw [show k + 1 + j = k + (j + 1) by omega, ← this]
   rfl
  simp only [List.length_cons, List.range'_succ, wpOpsIn, ho]
  simp only [wpL] at h
  split
  ·rename_i hw
   rw [if_pos hw] at h
   exact Oper.wpIn_mono (fun a w => ih (k + 1) a w hr) h
  ·rename_i hw
   rw [if_neg hw] at h
   exact ⟨fun _ _ => trivial, ih (k + 1) _ _ hr h⟩

/-! results -/
def aggT : TypeDesc → Bool
 | .struct _ => true
 | .array .. => true
 | _ => false
inductive ResRel (P : Program) (F : Fr) (H : Hp) : List ResultVar → List AV → Prop where
 | nil : ResRel P F H [] []
 | tmp {t : Tmp} {x : AV} {rs : List ResultVar} {xs : List AV} (h : lookup F t = x) (r : ResRel P F H rs xs) : ResRel P F H (.tmp t :: rs) (x :: xs)
 | cell {t : Tmp} {ty : TypeId} {u : TypeDesc} {b o : Nat} {x : AV} {rs : List ResultVar} {xs : List AV} (hu : P.underlying ty = some u) (ha : aggT u = false) (h : lookup F t = .ptr b o) (hl : H.ld b o = some x) (r : ResRel P F H rs xs) :
   ResRel P F H (.cell t ty :: rs) (x :: xs)
 | cells {t : Tmp} {ty : TypeId} {u : TypeDesc} {b o s : Nat} {ys : List AV} {rs : List ResultVar} {xs : List AV} (hu : P.underlying ty = some u) (ha : aggT u = true) (hs : (P.info? ty).map (·.size) = some s) (h : lookup F t = .ptr b o)
   (hl : H.lds b o s = some ys) (r : ResRel P F H rs xs) : ResRel P F H (.cell t ty :: rs) (.agg ys :: xs)
def tupOf : List AV → AV
 | [x] => x
 | xs => .tup xs

abbrev PostT (α : Type) := Kp → World → Nat → (Nat → Loc) → α → Hp → Option Code → Act → World → Prop
def kill (D : List Nat) (H : Hp) : Hp := D.foldl (fun H b => H.set b .dead) H
def PostF {α : Type} (P : Program) (fn : Func) (ret : α → AV) : PostT α := fun B w0 n0 m0 r H1 e a w =>
 (e = none ∨ e = some .ret) ∧ ∃ D m H2, a.defers = D.map (markOf m) ∧ H1 = kill D H2 ∧ D.Nodup ∧ (∀ b, b ∈ D → H2.get b = some .dfr) ∧
  ∃ F xs, FrRel m H2.n F a ∧ ResRel P F H2 fn.results.toList xs ∧ tupOf xs = ret r ∧ Ext n0 m0 m ∧ Inv B w0 m H2 w

def FinG {α : Type} (P : Program) (Φ : PostT α) (N : Ctx) (todo : List Item) (F : Fr) (H : Hp) (o : Option (α × Hp)) : Prop :=
 ∀ r H1, o = some (r, H1) → H.n ≤ H1.n ∧ ∀ B w0 n0 m0 m a w, n0 ≤ H.n → Ext n0 m0 m → St B w0 N m F H a w → TWp P (roOf m N) todo (Φ B w0 n0 m0 r H1) a w
abbrev Fin {α : Type} (P : Program) (fn : Func) (ret : α → AV) (N : Ctx) (todo : List Item) (F : Fr) (H : Hp) (o : Option (α × Hp)) : Prop := FinG P (PostF P fn ret) N todo F H o

def OFinG {α : Type} (P : Program) (Φ : PostT α) (N : Ctx) (ops : Array Oper) (l : List Oper) (k : List Item) (F : Fr) (H : Hp) (o : Option (α × Hp)) : Prop :=
 ∀ r H1, o = some (r, H1) → H.n ≤ H1.n ∧ ∀ B w0 n0 m0 m a w, n0 ≤ H.n → Ext n0 m0 m → St B w0 N m F H a w →
  wpL P (roOf m N) ops (fun e a' w' => e = .normal ∧ TWp P (roOf m N) k (Φ B w0 n0 m0 r H1) a' w') l a w

section fin
variable {α : Type} {P : Program} {fn : Func} {ret : α → AV} {Φ : PostT α} {N : Ctx} {k : List Item} {F : Fr} {H : Hp} {o : Option (α × Hp)}

theorem FinG.step {todo todo' : List Item} (hs : ∀ (b : Frame) (a : Act) cs w, step P (lone (b.atR a todo) cs w) = .next (lone (b.atR a todo') cs w))
  (h : FinG P Φ N todo' F H o) : FinG P Φ N todo F H o := fun r H1 ho =>
 ⟨(h r H1 ho).1, fun B w0 n0 m0 m a w hn he st => .step (fun b cs _ => hs b a cs w) ((h r H1 ho).2 B w0 n0 m0 m a w hn he st)⟩

theorem f_seq {x y : Code} (h : FinG P Φ N (.code x :: .code y :: k) F H o) : FinG P Φ N (.code (.seq x y) :: k) F H o :=
 .step (fun _ _ _ _ => stepR_seq) h
theorem f_skip (h : FinG P Φ N k F H o) : FinG P Φ N (.code .skip :: k) F H o := .step (fun _ _ _ _ => stepR_skip) h
theorem f_block {id : Nat} {c : Code} (h : FinG P Φ N (.code c :: .inBlock id :: k) F H o) : FinG P Φ N (.code (.block id c) :: k) F H o :=
 .step (fun _ _ _ _ => stepR_block) h
theorem f_inBlock {id : Nat} (h : FinG P Φ N k F H o) : FinG P Φ N (.inBlock id :: k) F H o := .step (fun _ _ _ _ => stepR_inBlock) h
theorem f_loop {c : Code} (h : FinG P Φ N (.code c :: .inLoop c :: k) F H o) : FinG P Φ N (.code (.loop c) :: k) F H o :=
 .step (fun _ _ _ _ => stepR_loop) h
theorem f_inLoop {c : Code} (h : FinG P Φ N (.code c :: .inLoop c :: k) F H o) : FinG P Φ N (.inLoop c :: k) F H o :=
 .step (fun _ _ _ _ => stepR_inLoop) h
theorem f_exit {id : Nat} {k' : List Item} (hk : exitTo id k = some k') (h : FinG P Φ N k' F H o) : FinG P Φ N (.code (.exit id) :: k) F H o :=
 .step (fun _ _ _ _ => stepR_exit hk) h
theorem f_region {id : Nat} {ops : Array Oper} (h : OFinG P Φ N ops ops.toList k F H o) : FinG P Φ N (.code (.region id ops false) :: k) F H o := fun r H1 ho =>
 ⟨(h r H1 ho).1, fun B w0 n0 m0 m a w hn he st => .of_wp (wpIn_region (by
  have := wpL_ops ops.toList 0 a w (fun j => by simp) ((h r H1 ho).2 B w0 n0 m0 m a w hn he st)
  rwa [Array.length_toList, ← List.range_eq_range'] at this))⟩
theorem f_nil {ops : Array Oper} (h : FinG P Φ N k F H o) : OFinG P Φ N ops [] k F H o := fun r H1 ho =>
 ⟨(h r H1 ho).1, fun B w0 n0 m0 m a w hn he st => ⟨rfl, (h r H1 ho).2 B w0 n0 m0 m a w hn he st⟩⟩
theorem f_cond {c : Operand} {x y : Code} {t : Bool} (hc : aeval F c = .bool t) (h : FinG P Φ N (.code (if t then x else y) :: k) F H o) :
  FinG P Φ N (.code (.cond c x y) :: k) F H o := fun r H1 ho =>
 ⟨(h r H1 ho).1, fun B w0 n0 m0 m a w hn he st => .step (fun b cs _ => stepR_cond (by
  have := st.fr.eval c; rw [hc] at this; exact this.bool_inv)) ((h r H1 ho).2 B w0 n0 m0 m a w hn he st)⟩
theorem f_condT {c : Operand} {x y : Code} (hc : aeval F c = .bool true) (h : FinG P Φ N (.code x :: k) F H o) : FinG P Φ N (.code (.cond c x y) :: k) F H o := f_cond hc h
theorem f_condF {c : Operand} {x y : Code} (hc : aeval F c = .bool false) (h : FinG P Φ N (.code y :: k) F H o) : FinG P Φ N (.code (.cond c x y) :: k) F H o := f_cond hc h

def resV (a : Act) : ResultVar → Sem Value
 | .tmp t => Pure.pure (a.tmps.getD t undef)
 | .cell b t => do loadVar t (← asAddr (a.tmps.getD b undef))
theorem results_eq (a : Act) : results fn a.tmps = (do let vs ← fn.results.mapM (resV a); Pure.pure (if h : vs.size = 1 then vs[0] else .tuple vs)) := by
 unfold results
 refine congrArg (fun f => (Array.mapM f fn.results >>= _)) ?_
 funext r
 cases r <;> rfl
theorem results_run {B : Kp} {w0 : World} {m : Nat → Loc} {a : Act} {w : World} (hf : FrRel m H.n F a) (hi : Inv B w0 m H w) : ∀ {rs : List ResultVar} {xs : List AV}, ResRel P F H rs xs →
  ∃ vs : List Value, (rs.mapM (resV a)).run P w = .ok vs w ∧ RVs m H.n xs vs := by
 intro rs xs h
 have agg : ∀ {ty : TypeId} {u : TypeDesc}, P.underlying ty = some u → (isAgg ty).run P w = .ok (aggT u) w := by
  intro ty u hu
  simp only [isAgg, underlying, Sem.run_bind, run_program, Result.andThen_ok, hu, Sem.run_pure]
  cases u <;> simp [aggT]
 induction h with
 | nil => exact ⟨[], by simp, .nil⟩
 | @tmp t x rs xs h r ih =>
  obtain ⟨vs, hr, hv⟩ := ih
  exact ⟨a.tmps.getD t undef :: vs, by simp only [List.mapM_cons, Sem.run_bind, Sem.run_pure, Result.andThen_ok, hr, resV], .cons (h ▸ hf t) hv⟩
 | @cell t ty u b o x rs xs hu ha h hl r ih =>
  obtain ⟨vs, hr, hv⟩ := ih
  have hp := hf t
  rw [h] at hp
  obtain ⟨_, e⟩ := hp.ptr_inv
  obtain ⟨v, hc, hrv⟩ := hi.ld hl _ rfl
  refine ⟨v :: vs, ?_, .cons hrv hv⟩
  simp only [List.mapM_cons, Sem.run_bind, resV, e, asAddr, Sem.run_pure, Result.andThen_ok, loadVar, agg hu, ha, hr]
  simp [hc, hr]
 | @cells t ty u b o s ys rs xs hu ha hs h hl r ih =>
  obtain ⟨vs, hr, hv⟩ := ih
  have hp := hf t
  rw [h] at hp
  obtain ⟨_, e⟩ := hp.ptr_inv
  obtain ⟨us, hlen, hc, hru⟩ := hi.lds P hl
  subst hlen
  have hld := loadCells_run (w := w) P hc
  have hsz : (sizeOf ty).run P w = .ok us.length w := by
   cases hinf : P.info? ty with
   | none => simp [hinf] at hs
   | some i => simp [hinf] at hs; simp [sizeOf, typeInfo, hinf, hs]
  refine ⟨.agg us.toArray :: vs, ?_, .cons (.agg_mk (by simpa using hru)) hv⟩
  simp only [List.mapM_cons, Sem.run_bind, resV, e, asAddr, Sem.run_pure, Result.andThen_ok, loadVar, agg hu, ha, hr, if_true, hsz, hld]

theorem results_ok {B : Kp} {w0 : World} {m : Nat → Loc} {a : Act} {w : World} {xs : List AV} (hf : FrRel m H.n F a) (hi : Inv B w0 m H w) (h : ResRel P F H fn.results.toList xs) :
  ∃ v, (results fn a.tmps).run P w = .ok v w ∧ RV m H.n (tupOf xs) v := by
 obtain ⟨vs, hr, hv⟩ := results_run (P := P) (H := H) (w := w) hf hi h
 rw [results_eq, Sem.run_bind, Array.mapM_eq_mapM_toList, Sem.run_map, hr]
 simp only [Result.andThen_ok, Sem.run_pure]
 clear h hr
 match xs, vs, hv with
 | [], [], hv => exact ⟨_, rfl, .tup_mk hv⟩
 | [x], [v], hv => exact ⟨v, rfl, by
   obtain ⟨v', vs', e, h1, _⟩ := hv.cons_inv
   cases e
   exact h1⟩
 | x :: y :: xs, v :: u :: vs, hv => exact ⟨_, rfl, .tup_mk hv⟩
 | [], _ :: _, hv => exact absurd hv.1 (by simp)
 | [_], [], hv => exact absurd hv.1 (by simp)
 | [_], _ :: _ :: _, hv => exact absurd hv.1 (by simp)
 | _ :: _ :: _, [], hv => exact absurd hv.1 (by simp)
 | _ :: _ :: _, [_], hv => exact absurd hv.1 (by simp)

theorem kill_n (D : List Nat) (H : Hp) : (kill D H).n = H.n := by
 unfold kill
 induction D generalizing H with
 | nil => rfl
 | cons b D ih => rw [List.foldl_cons, ih]; simp
def dfrs (N : Ctx) (H : Hp) : Prop := N.d.Nodup ∧ ∀ b, b ∈ N.d → H.get b = some .dfr
theorem dfrs_none {N : Ctx} {H : Hp} (h : N.d = []) : dfrs N H := by unfold dfrs; rw [h]; simp
theorem Fin.fin {todo : List Item} {e : Option Code} (he : e = none ∨ e = some .ret) {r : α} {xs : List AV} (hd : dfrs N H) (hs : ∀ ro (R : Option Code → Act → World → Prop) (a : Act) w, R e a w → TWp P ro todo R a w) (h : ResRel P F H fn.results.toList xs) (hr : tupOf xs = ret r) :
  Fin P fn ret N todo F H (some (r, kill N.d H)) := fun r' H1 ho => by
 injection ho with ho
 injection ho with h1 h2
 subst h1; subst h2
 refine ⟨by rw [kill_n]; exact Nat.le_refl _, fun B w0 n0 m0 m a w hn hext st => hs _ _ _ _ ?_⟩
 exact ⟨he, N.d, m, H, st.df, rfl, hd.1, hd.2, F, xs, st.fr, h, hr, hext, st.inv⟩
theorem f_retD {r : α} {xs : List AV} (h : ResRel P F H fn.results.toList xs) (hr : tupOf xs = ret r) (hd : dfrs N H) : Fin P fn ret N (.code .ret :: k) F H (some (r, kill N.d H)) :=
 .fin (.inr rfl) hd (fun _ _ _ _ h => .ret h) h hr
theorem f_endD {r : α} {xs : List AV} (h : ResRel P F H fn.results.toList xs) (hr : tupOf xs = ret r) (hd : dfrs N H) : Fin P fn ret N [] F H (some (r, kill N.d H)) :=
 .fin (.inl rfl) hd (fun _ _ _ _ h => .end h) h hr
theorem f_ret {r : α} {xs : List AV} (h : ResRel P F H fn.results.toList xs) (hr : tupOf xs = ret r) (hN : N.d = [] := by rfl) : Fin P fn ret N (.code .ret :: k) F H (some (r, H)) := by
 have := f_retD (P := P) (k := k) (N := N) h hr (dfrs_none hN)
 rwa [hN] at this
theorem f_end {r : α} {xs : List AV} (h : ResRel P F H fn.results.toList xs) (hr : tupOf xs = ret r) (hN : N.d = [] := by rfl) : Fin P fn ret N [] F H (some (r, H)) := by
 have := f_endD (P := P) (N := N) h hr (dfrs_none hN)
 rwa [hN] at this

/-! what a text of ours says -/
theorem f_none {todo : List Item} : FinG P Φ N todo F H (none : Option (α × Hp)) := fun _ _ h => by cases h
theorem f_bind {β : Type} {todo : List Item} {e : Option β} {K : β → Option (α × Hp)} (h : ∀ x, e = some x → FinG P Φ N todo F H (K x)) :
  FinG P Φ N todo F H (e.bind K) := by
 cases e with
 | none => exact f_none
 | some x => exact h x rfl
theorem f_if {todo : List Item} {c : Prop} [Decidable c] {o1 o2 : Option (α × Hp)} (h1 : c → FinG P Φ N todo F H o1) (h2 : ¬ c → FinG P Φ N todo F H o2) :
  FinG P Φ N todo F H (if c then o1 else o2) := by
 split
 ·exact h1 ‹_›
 ·exact h2 ‹_›
theorem f_chk {todo : List Item} {c : Prop} [Decidable c] {o1 : Option (α × Hp)} (h1 : c → FinG P Φ N todo F H o1) :
  FinG P Φ N todo F H (if c then o1 else none) := f_if h1 fun _ => f_none

def LeF (F' F : Fr) : Prop := ∀ t, lookup F' t = .undef ∨ lookup F' t = lookup F t
theorem FinG.weak {todo : List Item} {F' : Fr} (hl : LeF F' F) (h : FinG P Φ N todo F' H o) : FinG P Φ N todo F H o := fun r H1 ho =>
 ⟨(h r H1 ho).1, fun B w0 n0 m0 m a w hn he st => (h r H1 ho).2 B w0 n0 m0 m a w hn he ⟨st.sz, st.df, fun t => by
  rcases hl t with e | e
  ·rw [e]; exact .undef _
  ·rw [e]; exact st.fr t, st.inv, st.lt⟩⟩
def restrict (F : Fr) (ts : List Nat) : Fr := ts.map fun t => (t, lookup F t)
theorem lookup_restrict (F : Fr) (ts : List Nat) (t : Nat) : lookup (restrict F ts) t = .undef ∨ lookup (restrict F ts) t = lookup F t := by
 induction ts with
 | nil => exact .inl rfl
 | cons x ts ih =>
  have hl : lookup (restrict F (x :: ts)) t = if x = t then lookup F x else lookup (restrict F ts) t := lookup_cons _ _ _ _
  rw [hl]
  by_cases e : x = t
  ·subst e; rw [if_pos rfl]; exact .inr rfl
  ·rw [if_neg e]; exact ih
theorem f_keep {todo : List Item} (ts : List Nat) (h : FinG P Φ N todo (restrict F ts) H o) : FinG P Φ N todo F H o := .weak (lookup_restrict F ts) h
theorem f_know {todo : List Item} (t : Nat) {x y : AV} (hx : lookup F t = x) (he : x = y) (h : FinG P Φ N todo ((t, y) :: F) H o) : FinG P Φ N todo F H o :=
 .weak (fun t' => by
  rw [lookup_cons]
  by_cases e : t = t'
  ·subst e; rw [if_pos rfl, hx, he]; exact .inr rfl
  ·rw [if_neg e]; exact .inr rfl) h
theorem dec_true {c : Prop} [Decidable c] (h : c) : AV.bool (decide c) = .bool true := by rw [decide_eq_true h]
theorem dec_false {c : Prop} [Decidable c] (h : ¬ c) : AV.bool (decide c) = .bool false := by rw [decide_eq_false h]
def wantedA (ops : Array Oper) (F : Fr) (o : Oper) : Option Bool :=
 match o.guard with
 | none => some true
 | some (g, want) =>
  match (ops[g]?).bind (·.dst) with
  | none => none
  | some t =>
   match lookup F t with
   | .bool b => some (b == want)
   | .tup [] => some false
   | _ => none

theorem yielded_of {m : Nat → Loc} {n : Nat} {a : Act} {ops : Array Oper} (hf : FrRel m n F a) {t g : Nat} (ht : (ops[g]?).bind (·.dst) = some t) :
  (∀ b, lookup F t = .bool b → yielded ops a.tmps g = some b) ∧ (lookup F t = .tup [] → yielded ops a.tmps g = none) := by
 have h := hf t
 constructor
 ·intro b hb
  rw [hb] at h
  have h := h.bool_inv
  unfold yielded
  rw [ht]
  cases hg : a.tmps[t]? with
  | none => simp [hg] at h; cases h
  | some v => simp [hg] at h; subst h; simp [hg]
 ·intro hb
  rw [hb] at h
  obtain ⟨vs, e, _⟩ := h.tup_inv
  unfold yielded
  rw [ht]
  cases hg : a.tmps[t]? with
  | none => simp [hg]
  | some v => simp [hg] at e; subst e; simp [hg]

theorem wanted_of {m : Nat → Loc} {n : Nat} {a : Act} {ops : Array Oper} {op : Oper} {t : Bool} (hf : FrRel m n F a) (h : wantedA ops F op = some t) :
  Region.wanted op (yielded ops a.tmps) = t := by
 unfold wantedA at h
 unfold Region.wanted
 cases hg : op.guard with
 | none => simp [hg] at h; simp [h]
 | some gw =>
  obtain ⟨g, want⟩ := gw
  simp only [hg] at h
  cases ht : (ops[g]?).bind (·.dst) with
  | none => simp [ht] at h
  | some x =>
   simp only [ht] at h
   have hy := yielded_of (F := F) hf ht
   cases hl : lookup F x with
   | bool b => simp only [hl] at h; injection h with h; subst h; simp [hy.1 b hl]
   | tup vs =>
    cases vs with
    | nil => simp only [hl] at h; injection h with h; subst h; simp [hy.2 hl]
    | cons _ _ => simp [hl] at h
   | _ => simp [hl] at h

theorem f_op {ops : Array Oper} {l : List Oper} {op : Oper} {v : AV} {H' : Hp} (hw : wantedA ops F op = some true) (hd : dstOk N.n op.dst = true)
  (hs : Step1 P op F H v H') (h : OFinG P Φ N ops l k (putF F op.dst v) H' o) : OFinG P Φ N ops (op :: l) k F H o := fun r H1 ho => by
 obtain ⟨hle, h⟩ := h r H1 ho
 refine ⟨Nat.le_trans hs.mono hle, fun B w0 n0 m0 m a w hn he st => ?_⟩
 simp only [wpL, wanted_of st.fr hw, if_true]
 refine hs.run B w0 m a w (fun x _ => st.fr.eval x) st.inv _ _ _ fun v' w' ⟨m', he', hv, hi'⟩ => ?_
 have hdst : dstOk a.tmps.size op.dst = true := by rw [st.sz]; exact hd
 obtain ⟨hmk, hro⟩ := st.marks he'
 rw [← hro]
 exact h B w0 n0 m0 m' _ w' (Nat.le_trans hn hs.mono) (he.trans he' hn)
  ⟨by cases op.dst <;> simp [Act.put, st.sz], by rw [hmk]; cases op.dst <;> simp [Act.put, st.df], (st.fr.mono he' hs.mono).put hv hdst, hi', st.up hs.mono⟩
theorem f_no {ops : Array Oper} {l : List Oper} {op : Oper} (hw : wantedA ops F op = some false) (hd : dstOk N.n op.dst = true)
  (h : OFinG P Φ N ops l k (putF F op.dst (.tup [])) H o) : OFinG P Φ N ops (op :: l) k F H o := fun r H1 ho => by
 obtain ⟨hle, h⟩ := h r H1 ho
 refine ⟨hle, fun B w0 n0 m0 m a w hn he st => ?_⟩
 simp only [wpL, wanted_of st.fr hw, if_false, Bool.false_eq_true]
 have hdst : dstOk a.tmps.size op.dst = true := by rw [st.sz]; exact hd
 exact h B w0 n0 m0 m _ w hn he
  ⟨by cases op.dst <;> simp [Act.put, st.sz], by cases op.dst <;> simp [Act.put, st.df], st.fr.put (.tup_mk .nil) hdst, st.inv, st.lt⟩

/-! the same words within a region -/
theorem OFinG.weak {ops : Array Oper} {l : List Oper} {F' : Fr} (hl : LeF F' F) (h : OFinG P Φ N ops l k F' H o) : OFinG P Φ N ops l k F H o := fun r H1 ho =>
 ⟨(h r H1 ho).1, fun B w0 n0 m0 m a w hn he st => (h r H1 ho).2 B w0 n0 m0 m a w hn he ⟨st.sz, st.df, fun t => by
  rcases hl t with e | e
  ·rw [e]; exact .undef _
  ·rw [e]; exact st.fr t, st.inv, st.lt⟩⟩
theorem o_none {ops : Array Oper} {l : List Oper} : OFinG P Φ N ops l k F H (none : Option (α × Hp)) := fun _ _ h => by cases h
theorem o_bind {β : Type} {ops : Array Oper} {l : List Oper} {e : Option β} {K : β → Option (α × Hp)} (h : ∀ x, e = some x → OFinG P Φ N ops l k F H (K x)) :
  OFinG P Φ N ops l k F H (e.bind K) := by
 cases e with
 | none => exact o_none
 | some x => exact h x rfl
theorem o_if {ops : Array Oper} {l : List Oper} {c : Prop} [Decidable c] {o1 o2 : Option (α × Hp)} (h1 : c → OFinG P Φ N ops l k F H o1) (h2 : ¬ c → OFinG P Φ N ops l k F H o2) :
  OFinG P Φ N ops l k F H (if c then o1 else o2) := by
 split
 ·exact h1 ‹_›
 ·exact h2 ‹_›
theorem o_chk {ops : Array Oper} {l : List Oper} {c : Prop} [Decidable c] {o1 : Option (α × Hp)} (h1 : c → OFinG P Φ N ops l k F H o1) :
  OFinG P Φ N ops l k F H (if c then o1 else none) := o_if h1 fun _ => o_none
theorem o_know {ops : Array Oper} {l : List Oper} (t : Nat) {x y : AV} (hx : lookup F t = x) (he : x = y) (h : OFinG P Φ N ops l k ((t, y) :: F) H o) : OFinG P Φ N ops l k F H o :=
 .weak (fun t' => by
  rw [lookup_cons]
  by_cases e : t = t'
  ·subst e; rw [if_pos rfl, hx, he]; exact .inr rfl
  ·rw [if_neg e]; exact .inr rfl) h
end fin

/-! ### places in a text -/
def todoAt : Code → List Nat → List Item → List Item
 | c, [], k => .code c :: k
 | .seq a b, 0 :: p, k => todoAt a p (.code b :: k)
 | .seq _ b, _ :: p, k => todoAt b p k
 | .cond _ x _, 0 :: p, k => todoAt x p k
 | .cond _ _ y, _ :: p, k => todoAt y p k
 | .block id c, _ :: p, k => todoAt c p (.inBlock id :: k)
 | .loop c, _ :: p, k => todoAt c p (.inLoop c :: k)
 | .rangeFunc _ _ a b, 0 :: p, _ => todoAt a p [.beginRound, .code b]
 | .rangeFunc _ _ _ b, _ :: p, _ => todoAt b p []
 | c, _, k => .code c :: k
def bodyOf (fn : Func) : Code := fn.body.getD .skip

/-! ### a call -/
def entryF : List AV → Nat → Fr
 | [], _ => []
 | x :: xs, i => (i, x) :: entryF xs (i + 1)
theorem lookup_entryF : ∀ (xs : List AV) (i t : Nat), lookup (entryF xs i) t = if i ≤ t then xs.getD (t - i) .undef else .undef := by
 intro xs
 induction xs with
 | nil => intro i t; simp [entryF, lookup]
 | cons x xs ih =>
  intro i t
  simp only [entryF]
  rw [lookup_cons, ih]
  by_cases e : i = t
  ·subst e; simp
  ·rw [if_neg e]
   by_cases h : i + 1 ≤ t
   ·rw [if_pos h, if_pos (by omega)]
    rw [show t - i = (t - (i + 1)) + 1 by omega]
    simp
   ·rw [if_neg h, if_neg (by omega)]

theorem Inv.putObj {B : Kp} {w0 w : World} {m : Nat → Loc} {H : Hp} (hi : Inv B w0 m H w) {b : Nat} {k0 k : Blk} {o : Obj} (hg : H.get b = some k0) (ho : k0.owned = true) (hl : k0.live = true) (hB : ¬ B (m b).blk)
  (hk : BlkRel B m H.n (w.putObj (m b).blk o) b k) : Inv B w0 m (H.set b k) (w.putObj (m b).blk o) where
 below := ⟨hi.below.os, hi.below.tape, hi.below.output, by rw [World.putObj_size]; exact hi.below.size, fun j hj => by rw [World.putObj_heap_other (fun e => hB (by rw [← e]; exact hj))]; exact hi.below.block j hj⟩
 glob := hi.glob
 hB := by rw [World.putObj_size]; exact hi.hB
 hid := hi.hidSet hg (fun _ => hl)
 rel := fun b' k' h' => by
  rw [Hp.n_set]
  by_cases e : b' = b
  ·subst e
   rw [Hp.get_set_same H _ (Hp.get_lt hg)] at h'
   injection h' with h'
   subst h'
   exact hk
  ·rw [Hp.get_set_other H _ e] at h'
   exact (hi.rel b' k' h').mono (.refl _ _) (Nat.le_refl _) (Hp.get_lt h') fun hl' => World.putObj_heap_other (Ne.symm (hi.excl b b' k0 k' (Ne.symm e) hg h' ho hl'))
 excl := fun b1 b2 k1 k2 hne h1 h2 ho1 hl2 => by
  have old : ∀ b' k', (H.set b k).get b' = some k' → ∃ k'', H.get b' = some k'' ∧ (k'.owned = true → k''.owned = true) ∧ (k'.live = true → k''.live = true) := by
   intro b' k' h'
   by_cases e : b' = b
   ·subst e; exact ⟨k0, hg, fun _ => ho, fun _ => hl⟩
   ·rw [Hp.get_set_other H _ e] at h'; exact ⟨k', h', id, id⟩
  obtain ⟨j1, g1, p1, _⟩ := old b1 k1 h1
  obtain ⟨j2, g2, _, p2⟩ := old b2 k2 h2
  exact hi.excl b1 b2 j1 j2 hne g1 g2 (p1 ho1) (p2 hl2)
theorem kill_get {D : List Nat} {H : Hp} {c : Nat} (h : c ∉ D) : (kill D H).get c = H.get c := by
 unfold kill
 induction D generalizing H with
 | nil => rfl
 | cons b D ih =>
  rw [List.foldl_cons, ih (fun hc => h (by simp [hc])), Hp.get_set_other _ _ (fun e => h (by simp [e]))]
theorem ld_get_congr {H H' : Hp} {b o : Nat} {x : AV} (h : H.ld b o = some x) (e : ∀ cs ro, H.get b = some (.cells cs ro) → H'.get b = some (.cells cs ro)) : H'.ld b o = some x := by
 unfold Hp.ld at *
 split at h
 ·rename_i cs ro hg; rw [e cs ro hg]; exact h
 ·cases h
theorem lds_get_congr {H H' : Hp} {b : Nat} (e : ∀ cs ro, H.get b = some (.cells cs ro) → H'.get b = some (.cells cs ro)) : ∀ {n o : Nat} {xs : List AV}, H.lds b o n = some xs → H'.lds b o n = some xs := by
 intro n
 induction n with
 | zero => intro o xs h; exact h
 | succ n ih =>
  intro o xs h
  simp only [Hp.lds, Option.bind_eq_some_iff, Option.map_eq_some_iff] at h ⊢
  obtain ⟨x, h1, y, h2, rfl⟩ := h
  exact ⟨x, ld_get_congr h1 e, y, ih h2, rfl⟩
theorem ResRel.sub {P : Program} {F : Fr} {H H' : Hp} (e : ∀ b cs ro, H.get b = some (.cells cs ro) → H'.get b = some (.cells cs ro)) {rs : List ResultVar} {xs : List AV} (h : ResRel P F H rs xs) : ResRel P F H' rs xs := by
 induction h with
 | nil => exact .nil
 | tmp h _ ih => exact .tmp h ih
 | cell hu ha h hl _ ih => exact .cell hu ha h (ld_get_congr hl (e _)) ih
 | cells hu ha hs h hl _ ih => exact .cells hu ha hs h (lds_get_congr (e _) hl) ih
theorem leave_dfrs {P : Program} {B : Kp} {w0 : World} {m : Nat → Loc} {cs : List Frame} : ∀ (D : List Nat) (H : Hp) (w : World) (fr : Frame), fr.mode = .returning → fr.defers = D.map (markOf m) → D.Nodup → (∀ b, b ∈ D → H.get b = some .dfr) → Inv B w0 m H w →
  ∃ w', Steps P (lone fr cs w) (lone { fr with defers := [] } cs w') ∧ Inv B w0 m (kill D H) w' := by
 intro D
 induction D with
 | nil =>
  intro H w fr hm hd _ _ hi
  refine ⟨w, ?_, hi⟩
  have : ({ fr with defers := [] } : Frame) = fr := by cases fr; simp_all
  rw [this]
  exact .refl _ _
 | cons b D ih =>
  intro H w fr hm hd hnd hall hi
  have hg := hall b (by simp)
  obtain ⟨hh, hB⟩ := hi.rel b _ hg
  have htake := run_takeDeferred (P := P) hh
  have hi2 := hi.putObj (k := .dead) (o := .deferred none) hg rfl rfl hB trivial
  rw [List.nodup_cons] at hnd
  obtain ⟨w', hs, hi'⟩ := ih (H.set b .dead) _ { fr with defers := [] ++ D.map (markOf m) } hm (by simp) hnd.2 (fun c hc => by
   rw [Hp.get_set_other _ _ (show c ≠ b by rintro rfl; exact hnd.1 hc)]
   exact hall c (by simp [hc])) hi2
  refine ⟨w', .head (step_collected (fr := fr) (by rw [hm]; simp) hd rfl htake) hs, hi'⟩
theorem callSim {α : Type} {P : Program} {f : FuncId} {fn : Func} {args : List AV} {H : Hp} {ret : α → AV} {o : Option (α × Hp)} {r : α} {H1 : Hp}
  (hf : P.funcs[f]? = some fn) (hbs : fn.body.isSome = true) {N : Nat} (hN : fn.ntmps = N) (hn : Nat.ble args.length N = true)
  (h : Fin P fn ret ⟨N, [], none⟩ [.code (bodyOf fn)] (entryF args 0) H o) (ho : o = some (r, H1)) : CallSim P f args H (ret r) H1 := by
 subst hN
 obtain ⟨c, hb⟩ := Option.isSome_iff_exists.1 hbs
 have hc : bodyOf fn = c := by simp [bodyOf, hb]
 rw [hc] at h
 have hn : args.length ≤ fn.ntmps := Nat.le_of_ble_eq_true hn
 obtain ⟨hle, h⟩ := h r H1 ho
 refine ⟨hle, fun B w0 m w args' ha hi cs => ?_⟩
 let a0 : Act := { tmps := args' ++ Array.replicate (fn.ntmps - args'.size) undef, defers := [] }
 let b : Frame := { (default : Frame) with fn := f, kind := .normal, roundOf := none }
 have henter : Frame.enter P f args' .normal = b.atR a0 [.code c] := by
  simp [Frame.enter, Frame.atR, hf, hb, b, a0]
 have hal : args.length = args'.size := by simpa using ha.1
 have st : St B w0 ⟨fn.ntmps, [], none⟩ m (entryF args 0) H a0 w := by
  refine ⟨by simp [a0]; omega, rfl, fun t => ?_, hi, by simp, by simp⟩
  rw [lookup_entryF]
  simp only [Nat.zero_le, if_true, Nat.sub_zero]
  by_cases ht : t < args.length
  ·have h2 := ha.2 t ht (by simpa using (hal ▸ ht))
   have e1 : args.getD t .undef = args[t] := by simp [ht]
   have e2 : a0.tmps.getD t undef = args'.toList[t]'(by simpa using (hal ▸ ht)) := by
    have : t < args'.size := hal ▸ ht
    simp [a0, Array.getElem?_append, this]
   rw [e1, e2]
   exact h2
  ·have e1 : args.getD t .undef = .undef := by simp [Nat.le_of_not_lt ht]
   rw [e1]
   exact .undef _
 obtain ⟨e, a', w', t', ⟨he, D, m', H2, hdf, hH1, hnd, hall, F, xs, hfr, hres, hret, hext, hinv⟩, hout, hs⟩ := h B w0 H.n m m a0 w (Nat.le_refl _) (.refl _ _) st b cs rfl rfl
 have hleave : Steps P (lone (b.atR a' t') cs w') (lone { b.atR a' t' with mode := .returning } cs w') := by
  rcases he with rfl | rfl
  ·have : t' = [] := hout
   subst this
   exact .one (stepR_end rfl)
  ·obtain ⟨k, rfl⟩ := hout
   exact .one (stepR_ret rfl)
 obtain ⟨w2, hs2, hinv2⟩ := leave_dfrs (P := P) (cs := cs) D H2 w' { b.atR a' t' with mode := .returning } rfl hdf hnd hall hinv
 have hres2 : ResRel P F (kill D H2) fn.results.toList xs := hres.sub fun c cs ro hg => by
  rw [kill_get, hg]
  intro hc
  rw [hall c hc] at hg
  cases hg
 have hfr2 : FrRel m' (kill D H2).n F a' := by rw [kill_n]; exact hfr
 obtain ⟨v, hv, hrv⟩ := results_ok (P := P) (fn := fn) (w := w2) hfr2 hinv2 hres2
 subst hH1
 refine ⟨.returned v, w2, { b.atR a' t' with mode := .returning, defers := [] }, ⟨v, m', rfl, hext, hret ▸ hrv, hinv2⟩, ?_, rfl, rfl, rfl, rfl, fn, hf, hv⟩
 show Steps P _ _
 rw [henter]
 exact hs.trans (hleave.trans hs2)

structure FnOk (P : Program) (f : FuncId) : Prop where
 ex : ∃ fn : Func, P.funcs[f]? = some fn ∧ (fn.name == "runtime.NumGoroutine") = false ∧ fn.body.isNone = false
theorem callFunc_run {P : Program} {f : FuncId} {fn : Func} {args : Array Value} (hf : P.funcs[f]? = some fn) (hn : (fn.name == "runtime.NumGoroutine") = false) (hb : fn.body.isNone = false) (w : World) :
  (callFunc f args).run P w = .ok (.enter f args) w := by
 have hn' : ¬ fn.name = "runtime.NumGoroutine" := by simpa using hn
 have hb' : ¬ fn.body = none := by
  cases h : fn.body with
  | none => simp [h] at hb
  | some c => simp
 simp [callFunc, hf, hn', hb']

theorem RV.fn_inv {m : Nat → Loc} {n : Nat} {f : FuncId} {xs ys : List AV} {v : Value} (h : RV m n (.fn f xs ys) v) :
  ∃ us vs, v = .func (.func f) us vs ∧ RVs m n xs us.toList ∧ RVs m n ys vs.toList := by
 cases h with
 | fn _ _ _ us vs hx1 hy1 hu hv =>
  refine ⟨us, vs, rfl, ⟨by simpa using hx1, fun i h1 h2 => ?_⟩, ⟨by simpa using hy1, fun i h1 h2 => ?_⟩⟩
  ·have := hu i h1 (by simpa using h2)
   rwa [← Array.getElem_toList] at this
  ·have := hv i h1 (by simpa using h2)
   rwa [← Array.getElem_toList] at this

section callops
variable {P : Program} {F : Fr} {H H1 : Hp} {d : Option Tmp} {ty : TypeId} {pos : String} {af : Array Edge} {g : Option (Nat × Bool)} {ats : Array TypeId}

theorem s_call {x : Operand} {xs : Array Operand} {f : FuncId} {first caps : List AV} {args : List AV} {v : AV} (hx : aeval F x = .fn f first caps)
  (ha : xs.toList.map (aeval F) = args) (hf : FnOk P f)
  (h : CallSim P f (first ++ args ++ caps) H v H1) : Step1 P ⟨d, .call ⟨.value x, xs, ats⟩, ty, pos, af, g⟩ F H v H1 := by
 obtain ⟨fn, hf, hn, hb⟩ := hf.ex
 refine ⟨h.1, fun B w0 m a w hop hi ro next Q hq => ?_⟩
 have h1 := hop x (by simp [Op.operands, Call.operands])
 rw [hx] at h1
 have hargs : RVs m H.n args (xs.map a.eval).toList := by
  subst ha
  refine ⟨by simp, fun i h1 h2 => ?_⟩
  simp only [List.getElem_map, Array.toList_map]
  exact hop _ (by
   have h3 : i < xs.size := by simpa using h1
   simp [Op.operands, Call.operands])
 obtain ⟨us, vs, e, hus, hvs⟩ := h1.fn_inv
 have hrun : (execOp a.eval ⟨d, .call ⟨.value x, xs, ats⟩, ty, pos, af, g⟩).run P w = .ok (.enter f (us ++ xs.map a.eval ++ vs)) w := by
  simp only [execOp, resolve, e, Deferred.ofValue, Sem.run_bind, Sem.run_pure, Result.andThen_ok, invoke]
  exact callFunc_run hf hn hb w
 refine ⟨fun _ _ => trivial, ?_⟩
 rw [Oper.semAt_eq _ _ _ (no_defer hrun (fun d => by simp)), hrun, Oper.uponIn_enter]
 refine ⟨fun h => (by cases h), ?_⟩
 refine CallsIn.mono (callsIn_wide.2 (h.2 B w0 m w _ (by simpa using (hus.append hargs).append hvs) hi) : CallsIn (WF ro) _ P _ _ w _) fun e w' hR => ?_
 obtain ⟨v', m', rfl, he, hv, hi'⟩ := hR
 exact hq v' w' ⟨m', he, hv, hi'⟩
theorem s_callF {xs : Array Operand} {f : FuncId} {args : List AV} {v : AV} (ha : xs.toList.map (aeval F) = args) (hf : FnOk P f) (h : CallSim P f args H v H1) :
  Step1 P ⟨d, .call ⟨.value (.func f), xs, ats⟩, ty, pos, af, g⟩ F H v H1 := s_call (x := .func f) (first := []) (caps := []) rfl ha hf (by simpa using h)

def YldSim (P : Program) (l : Nat) (xs : List AV) (H : Hp) (v : AV) (H1 : Hp) : Prop :=
 H.n ≤ H1.n ∧ ∀ B w0 m w (args : Array Value), RVs m H.n xs args.toList → Inv B w0 m H w →
  ∃ f tmps asg bd, (Instr.yield (m l).blk args).run P w = .ok (.round (m l).blk f tmps asg bd) w ∧
   ∀ (c : Frame) (cs : List Frame), ∃ v' w' m', Ext H.n m m' ∧ RV m' H1.n v v' ∧ Inv B w0 m' H1 w' ∧ Steps P (lone (Frame.round (m l).blk f tmps asg bd .normal) (c :: cs) w) (lone (c.finish v') cs w')
structure App where
 call : FuncId → List AV → Hp → Option (AV × Hp)
 yld : Nat → List AV → Hp → Option (AV × Hp)
instance : CoeFun App (fun _ => FuncId → List AV → Hp → Option (AV × Hp)) := ⟨App.call⟩
def AppSim (P : Program) (app : App) : Prop := (∀ f xs H v H1, app.call f xs H = some (v, H1) → FnOk P f ∧ CallSim P f xs H v H1) ∧ ∀ l xs H v H1, app.yld l xs H = some (v, H1) → YldSim P l xs H v H1
def callv (app : App) (fv : AV) (args : List AV) (H : Hp) : Option (AV × Hp) :=
 match fv with
 | .fn f first caps => app.call f (first ++ args ++ caps) H
 | .yld l => app.yld l args H
 | _ => none
theorem RV.yld_inv {m : Nat → Loc} {n l : Nat} {v : Value} (h : RV m n (.yld l) v) : l < n ∧ v = .func (.yield (m l).blk) #[] #[] := by
 cases h; exact ⟨by assumption, rfl⟩
theorem s_callY {x : Operand} {xs : Array Operand} {l : Nat} {args : List AV} {v : AV} (hx : aeval F x = .yld l) (ha : xs.toList.map (aeval F) = args) (h : YldSim P l args H v H1) :
  Step1 P ⟨d, .call ⟨.value x, xs, ats⟩, ty, pos, af, g⟩ F H v H1 := by
 refine ⟨h.1, fun B w0 m a w hop hi ro next Q hq => ?_⟩
 have h1 := hop x (by simp [Op.operands, Call.operands])
 rw [hx] at h1
 obtain ⟨_, e⟩ := h1.yld_inv
 have hargs : RVs m H.n args (xs.map a.eval).toList := by
  subst ha
  refine ⟨by simp, fun i h1 h2 => ?_⟩
  simp only [List.getElem_map, Array.toList_map]
  exact hop _ (by
   have h3 : i < xs.size := by simpa using h1
   simp [Op.operands, Call.operands])
 obtain ⟨f, tmps, asg, bd, hy, hs⟩ := h.2 B w0 m w _ hargs hi
 have hrun : (execOp a.eval ⟨d, .call ⟨.value x, xs, ats⟩, ty, pos, af, g⟩).run P w = .ok (.round (m l).blk f tmps asg bd) w := by
  simp only [execOp, resolve, e, Deferred.ofValue, Sem.run_bind, Sem.run_pure, Result.andThen_ok, invoke]
  simpa using hy
 refine ⟨fun _ _ => trivial, ?_⟩
 rw [Oper.semAt_eq _ _ _ (no_defer hrun (fun d => by simp)), hrun, Oper.uponIn_round]
 refine ⟨fun h => (by cases h), trivial, fun c cs _ => ?_⟩
 obtain ⟨v', w', m', he, hv, hi', hst⟩ := hs c cs
 exact ⟨.returned v', w', hq v' w' ⟨m', he, hv, hi'⟩, (stepsIn_wide.2 hst : StepsIn (Machine.fenced P (WF ro)) P _ _)⟩
theorem s_callv {app : App} (hs : AppSim P app) {x : Operand} {xs : Array Operand} {fv : AV} {args : List AV} {v : AV} (hx : aeval F x = fv) (ha : xs.toList.map (aeval F) = args)
  (h : callv app fv args H = some (v, H1)) : Step1 P ⟨d, .call ⟨.value x, xs, ats⟩, ty, pos, af, g⟩ F H v H1 := by
 unfold callv at h
 split at h
 ·rename_i f first caps
  obtain ⟨h1, h2⟩ := hs.1 _ _ _ _ _ h
  exact s_call hx ha h1 h2
 ·exact s_callY hx ha (hs.2 _ _ _ _ _ h)
 ·cases h
theorem s_callA {app : App} (hs : AppSim P app) {xs : Array Operand} {f : FuncId} {args : List AV} {v : AV} (ha : xs.toList.map (aeval F) = args)
  (h : app f args H = some (v, H1)) : Step1 P ⟨d, .call ⟨.value (.func f), xs, ats⟩, ty, pos, af, g⟩ F H v H1 :=
 s_callF ha (hs.1 _ _ _ _ _ h).1 (hs.1 _ _ _ _ _ h).2
end callops
end Go.Lt

namespace Go.Lt
open Go.RowKit

def TyIs (P : Program) (t : TypeId) (size bytes : Nat) (zero : Value) : Prop :=
 (P.info? t).map (fun i => (i.size, i.bytes, i.zero)) = some (size, bytes, some zero)
def aggD : TypeDesc → Bool
 | .struct _ => true
 | .array .. => true
 | _ => false

section runs
variable {P : Program} {w : World}
theorem run_und {t : TypeId} {u : TypeDesc} (h : P.underlying t = some u) : (underlying t).run P w = .ok u w := by simp [underlying, h]
theorem run_isAgg {t : TypeId} {u : TypeDesc} (h : P.underlying t = some u) : (isAgg t).run P w = .ok (aggD u) w := by
 simp only [isAgg, Sem.run_bind, run_und h, Result.andThen_ok]
 cases u <;> simp [aggD]
theorem run_size {t : TypeId} {s b : Nat} {z : Value} (h : TyIs P t s b z) : (sizeOf t).run P w = .ok s w := by
 unfold TyIs at h
 cases hi : P.info? t with
 | none => simp [hi] at h
 | some i => simp [hi] at h; simp [sizeOf, typeInfo, hi, h.1]
theorem run_zero {t : TypeId} {s b : Nat} {z : Value} (h : TyIs P t s b z) : (zeroValue t).run P w = .ok z w := by
 unfold TyIs at h
 cases hi : P.info? t with
 | none => simp [hi] at h
 | some i => simp [hi] at h; simp [zeroValue, typeInfo, hi, h.2.2]
theorem run_info {t : TypeId} {s b : Nat} {z : Value} (h : TyIs P t s b z) : ∃ i, (typeInfo t).run P w = .ok i w ∧ i.size = s ∧ i.bytes = b ∧ i.zero = some z := by
 unfold TyIs at h
 cases hi : P.info? t with
 | none => simp [hi] at h
 | some i => simp [hi] at h; exact ⟨i, by simp [typeInfo, hi], h.1, h.2.1, h.2.2⟩
end runs

theorem cells_rel {m : Nat → Loc} {n : Nat} {x : AV} {v : Value} (h : RV m n x v) (hx : x ≠ .undef) : RVs m n x.cellsA v.cells.toList := by
 cases h with
 | undef v => exact absurd rfl hx
 | agg xs vs hx' h =>
  have : RVs m n xs vs.toList := ⟨by simpa using hx', fun i h1 h2 => by
   have := h i h1 (by simpa using h2)
   rwa [← Array.getElem_toList] at this⟩
  exact this
 | bool b => exact .cons (.bool b) .nil
 | int k i => exact .cons (.int k i) .nil
 | str s => exact .cons (.str s) .nil
 | ptr b o h => exact .cons (.ptr b o h) .nil
 | nilptr => exact .cons .nilptr .nil
 | slnil => exact .cons .slnil .nil
 | sl b o len cap h hl => exact .cons (.sl b o len cap h hl) .nil
 | slo b o len cap p cap' h hl hc hz => exact .cons (.slo b o len cap p cap' h hl hc hz) .nil
 | sle b o p h a => exact .cons (.sle b o p h a) .nil
 | map b h => exact .cons (.map b h) .nil
 | nilmap => exact .cons .nilmap .nil
 | fn f xs ys us vs hx1 hy h h' => exact .cons (.fn f xs ys us vs hx1 hy h h') .nil
 | yld l h => exact .cons (.yld l h) .nil
 | nilfn => exact .cons .nilfn .nil
 | iface t x v h => exact .cons (.iface t x v h) .nil
 | niliface => exact .cons .niliface .nil
 | tup xs vs hx1 h => exact .cons (.tup xs vs hx1 h) .nil
 | gptr g => exact .cons (.gptr g) .nil

def AV.isU : AV → Bool
 | .undef => true
 | _ => false
theorem AV.ne_undef {x : AV} (h : x.isU = false) : x ≠ .undef := by rintro rfl; cases h

section
variable {P : Program} {F : Fr} {H : Hp} {d : Option Tmp} {ty : TypeId} {pos : String} {af : Array Edge} {g : Option (Nat × Bool)}

theorem Inv.newRow {B : Kp} {w0 w : World} {m : Nat → Loc} (hi : Inv B w0 m H w) {cs : List AV} {vs : Array Value} (t : TypeId) (h : RVs m H.n cs vs.toList) :
  ∃ w' m', (newRow t vs).run P w = .ok ⟨w.heap.size, 0, none⟩ w' ∧ Ext H.n m m' ∧ Inv B w0 m' (H.push (.cells cs false)) w' ∧ m' H.n = ⟨w.heap.size, 0, vs.size⟩ :=
 ⟨w.alloc (.cells vs t), newLoc H m ⟨w.heap.size, 0, vs.size⟩, by simp [Go.newRow], newLoc_ext _ _ _, hi.pushCells t h cs (by simp), newLoc_new _ _ _⟩

theorem s_box {t : TypeId} {x : Operand} {v : AV} (hx' : aeval F x = v) (hu : v.isU = false) : Step1 P ⟨d, .box t x, ty, pos, af, g⟩ F H (.ptr H.n 0) (H.push (.cells v.cellsA false)) :=
 .of_run (by simp) fun B w0 m a w hx hi => by
  have h1 := hx x (by simp [Op.operands]); rw [hx'] at h1
  obtain ⟨w', m', hr, he, hi', hm⟩ := hi.newRow (P := P) t (cells_rel h1 (AV.ne_undef hu))
  refine ⟨.pointer (some ⟨w.heap.size, 0, none⟩), w', m', ?_, he, ?_, hi'⟩
  ·simp [execOp, Instr.box, newVar, hr]
  ·have := RV.ptr (m := m') (n := (H.push (.cells v.cellsA false)).n) H.n 0 (by simp)
   rw [hm] at this
   exact this

theorem one_cells {v : AV} (h : v.one = true) : v.cellsA = [v] ∧ v.isU = false := by
 cases v <;> simp [AV.one] at h <;> exact ⟨rfl, rfl⟩
theorem s_box1 {t : TypeId} {x : Operand} {v : AV} (hx' : aeval F x = v) (ho : v.one = true) : Step1 P ⟨d, .box t x, ty, pos, af, g⟩ F H (.ptr H.n 0) (H.push (.cells [v] false)) := by
 have := s_box (P := P) (H := H) (d := d) (ty := ty) (pos := pos) (af := af) (g := g) (t := t) hx' (one_cells ho).2
 rwa [(one_cells ho).1] at this

theorem s_alloc {t : TypeId} {s b : Nat} {z : Value} {zs : List AV} (ht : TyIs P t s b z) (hz : (ofVal z).cellsA = zs) (hu : (ofVal z).isU = false) :
  Step1 P ⟨d, .alloc t, ty, pos, af, g⟩ F H (.ptr H.n 0) (H.push (.cells zs false)) :=
 .of_run (by simp) fun B w0 m a w hx hi => by
  subst hz
  obtain ⟨w', m', hr, he, hi', hm⟩ := hi.newRow (P := P) t (cells_rel (RV.ofVal m H.n z) (AV.ne_undef hu))
  refine ⟨.pointer (some ⟨w.heap.size, 0, none⟩), w', m', ?_, he, ?_, hi'⟩
  ·simp [execOp, Instr.alloc, run_zero ht, newVar, hr]
  ·have := RV.ptr (m := m') (n := (H.push (.cells (ofVal z).cellsA false)).n) H.n 0 (by simp)
   rw [hm] at this
   exact this

theorem s_load {t : TypeId} {u : TypeDesc} {x : Operand} {b o : Nat} {v : AV} (hu : P.underlying t = some u) (hna : aggD u = false) (hx' : aeval F x = .ptr b o) (hl : H.ld b o = some v) :
  Step1 P ⟨d, .load t x, ty, pos, af, g⟩ F H v H :=
 .of_run (Nat.le_refl _) fun B w0 m a w hx hi => by
  have h1 := hx x (by simp [Op.operands]); rw [hx'] at h1
  obtain ⟨hb, e⟩ := h1.ptr_inv
  obtain ⟨v', hc, hv⟩ := hi.ld hl _ rfl
  refine ⟨v', w, m, ?_, .refl _ _, hv, hi⟩
  simp [execOp, e, Instr.loadAt, Instr.sureAddr, loadVar, run_isAgg hu, hna, hc]

theorem s_loads {t : TypeId} {u : TypeDesc} {x : Operand} {b o s by' : Nat} {z : Value} {vs : List AV} (hu : P.underlying t = some u) (hna : aggD u = true) (ht : TyIs P t s by' z)
  (hx' : aeval F x = .ptr b o) (hl : H.lds b o s = some vs) :
  Step1 P ⟨d, .load t x, ty, pos, af, g⟩ F H (.agg vs) H :=
 .of_run (Nat.le_refl _) fun B w0 m a w hx hi => by
  have h1 := hx x (by simp [Op.operands]); rw [hx'] at h1
  obtain ⟨hb, e⟩ := h1.ptr_inv
  obtain ⟨us, hlen, hc, hv⟩ := hi.lds P hl
  subst hlen
  refine ⟨.agg us.toArray, w, m, ?_, .refl _ _, .agg_mk (by simpa using hv), hi⟩
  have := loadCells_run (w := w) P hc
  simp [execOp, e, Instr.loadAt, Instr.sureAddr, loadVar, run_isAgg hu, hna, run_size ht, this]

theorem s_store {t : TypeId} {s by' : Nat} {z : Value} {x y : Operand} {b o : Nat} {v : AV} {H1 : Hp} (ht : TyIs P t 1 by' z)
  (hx' : aeval F x = .ptr b o) (hy' : aeval F y = v) (ho : v.one = true) (hl : H.st b o v = some H1) :
  Step1 P ⟨d, .store t x y, ty, pos, af, g⟩ F H .undef H1 :=
 .of_skip (by
  have : ∀ {H H1 : Hp}, H.st b o v = some H1 → H.n ≤ H1.n := by
   intro H H1 h
   unfold Hp.st at h
   split at h
   ·split at h
    ·injection h with h; subst h; simp
    ·cases h
   ·cases h
  exact this hl) fun B w0 m a w hx hi => by
  have h1 := hx x (by simp [Op.operands]); rw [hx'] at h1
  have h2 := hx y (by simp [Op.operands]); rw [hy'] at h2
  obtain ⟨hb, e⟩ := h1.ptr_inv
  obtain ⟨hr, hi', hn⟩ := hi.st hl h2 ho P
  refine ⟨_, m, ?_, .refl _ _, hi'⟩
  have hc : (a.eval y).cells = #[a.eval y] := by
   have := h2.one_conc ho
   cases ha : a.eval y <;> simp [ha, Value.oneCell', Value.cells] at this ⊢
  simp only [execOp, e, Instr.storeAt, Instr.sureAddr, storeVar, hc, Sem.run_bind, Sem.run_pure, Result.andThen_ok, run_size ht]
  simp only [List.size_toArray, List.length_cons, List.length_nil, Nat.zero_add, ne_eq, not_true_eq_false, if_false, storeCells, Sem.run_bind, Sem.run_pure]
  rw [addr_add, Nat.add_zero, hr]
  rfl

theorem s_stores {t : TypeId} {s by' : Nat} {z : Value} {x y : Operand} {b o : Nat} {vs : List AV} {H1 : Hp} (ht : TyIs P t s by' z)
  (hx' : aeval F x = .ptr b o) (hy' : aeval F y = .agg vs) (hlen : vs.length = s) (ho : vs.all AV.one = true) (hl : H.sts b o vs = some H1) (hn : H.n ≤ H1.n) :
  Step1 P ⟨d, .store t x y, ty, pos, af, g⟩ F H .undef H1 :=
 .of_skip hn fun B w0 m a w hx hi => by
  have h1 := hx x (by simp [Op.operands]); rw [hx'] at h1
  have h2 := hx y (by simp [Op.operands]); rw [hy'] at h2
  obtain ⟨hb, e⟩ := h1.ptr_inv
  obtain ⟨us, e2, hr⟩ := h2.agg_inv
  obtain ⟨w', hrun, hi', _⟩ := hi.sts (o := o) (i := 0) P hi hl hr (by simpa using ho)
  refine ⟨w', m, ?_, .refl _ _, hi'⟩
  have hsz : us.size = s := by have := hr.1; simp at this; omega
  simp [execOp, e, Instr.storeAt, Instr.sureAddr, storeVar, e2, Value.cells, run_size ht, hsz, hrun]

theorem s_nilCheck {x : Operand} {b o : Nat} (hx' : aeval F x = .ptr b o) : Step1 P ⟨d, .nilCheck x, ty, pos, af, g⟩ F H (.ptr b o) H :=
 .pure fun m a hx => by
  have h1 := hx x (by simp [Op.operands]); rw [hx'] at h1
  exact ⟨_, h1, fun w => by rw [h1.ptr_inv.2]; simp [execOp, h1.ptr_inv.2]⟩
theorem s_makeFunc {f : FuncId} {xs ys : Array Operand} {us vs : List AV} (hu : xs.toList.map (aeval F) = us) (hv : ys.toList.map (aeval F) = vs) :
  Step1 P ⟨d, .makeFunc (.func f) xs ys, ty, pos, af, g⟩ F H (.fn f us vs) H :=
 .pure fun m a hx => by
  subst hu; subst hv
  refine ⟨.func (.func f) (xs.map a.eval) (ys.map a.eval), .fn f _ _ _ _ (by simp) (by simp) (fun i h1 h2 => ?_) (fun i h1 h2 => ?_), fun w => by simp [execOp, Instr.makeFunc]⟩
  ·simp only [List.getElem_map, Array.getElem_map, Array.getElem_toList]
   exact hx _ (by simp [Op.operands])
  ·simp only [List.getElem_map, Array.getElem_map, Array.getElem_toList]
   exact hx _ (by simp [Op.operands])

end
end Go.Lt

namespace Go.Lt
open Go.RowKit

theorem RV.sl_inv {m : Nat → Loc} {n : Nat} {s : Sl} {v : Value} (h : RV m n (.sl s) v) :
  (s = ⟨true, 0, 0, 0, 0, 0⟩ ∧ v = .slice none 0 0) ∨ (∃ a, s.nil = false ∧ True ∧ s.len = 0 ∧ s.cap = 0 ∧ v = .slice (some a) 0 0) ∨
  (∃ cap', s.nil = false ∧ s.b < n ∧ s.len ≤ s.cap ∧ s.cap ≤ cap' ∧ (s.opn = 0 → cap' = s.cap) ∧ (∀ p, s.opn = p + 1 → (m s.b).sh + s.o + cap' * (p + 1) ≤ (m s.b).sz) ∧
   v = .slice (some ⟨(m s.b).blk, (m s.b).sh + s.o, none⟩) s.len cap') := by
 cases h with
 | slnil => exact .inl ⟨rfl, rfl⟩
 | sle b o p h a => exact .inr (.inl ⟨a, rfl, h, rfl, rfl, rfl⟩)
 | sl b o len cap h hl => exact .inr (.inr ⟨cap, rfl, h, hl, Nat.le_refl _, fun _ => rfl, fun p hp => (by cases hp), rfl⟩)
 | slo b o len cap p cap' h hl hc hz => exact .inr (.inr ⟨cap', rfl, h, hl, hc, fun hp => (by cases hp), fun p' hp => (by cases hp; exact hz), rfl⟩)
theorem RV.sl_len {m : Nat → Loc} {n : Nat} {s : Sl} {v : Value} (h : RV m n (.sl s) v) : ∃ a c, v = .slice a s.len c := by
 rcases h.sl_inv with ⟨rfl, e⟩ | ⟨a, _, _, h1, _, e⟩ | ⟨c, _, _, _, _, _, _, e⟩
 ·exact ⟨_, _, e⟩
 ·exact ⟨_, _, by rw [h1]; exact e⟩
 ·exact ⟨_, _, e⟩

theorem RV.sl_mk {m : Nat → Loc} {n : Nat} {s : Sl} {cap' : Nat} (h1 : s.nil = false) (h2 : s.b < n) (h3 : s.len ≤ s.cap) (h4 : s.cap ≤ cap') (h5 : s.opn = 0 → cap' = s.cap)
  (h6 : ∀ p, s.opn = p + 1 → (m s.b).sh + s.o + cap' * (p + 1) ≤ (m s.b).sz) : RV m n (.sl s) (.slice (some ⟨(m s.b).blk, (m s.b).sh + s.o, none⟩) s.len cap') := by
 obtain ⟨nil, b, o, len, cap, opn⟩ := s
 simp only at h1 h2 h3 h4 h5 h6 ⊢
 subst h1
 cases opn with
 | zero => rw [h5 rfl]; exact .sl b o len cap h2 h3
 | succ p => exact .slo b o len cap p cap' h2 h3 h4 (h6 p rfl)

section
variable {P : Program} {F : Fr} {H : Hp} {d : Option Tmp} {ty : TypeId} {pos : String} {af : Array Edge} {g : Option (Nat × Bool)}

theorem s_idx {t e : TypeId} {s by' : Nat} {z : Value} {x i : Operand} {l : Sl} {k : IntKind} {iv : Int} (hu : P.underlying t = some (.slice e)) (ht : TyIs P e s by' z)
  (hx' : aeval F x = .sl l) (hi' : aeval F i = .int k iv) (h : 0 ≤ iv ∧ iv < l.len) :
  Step1 P ⟨d, .indexAddr t x i, ty, pos, af, g⟩ F H (.ptr l.b (l.o + iv.toNat * s)) H :=
 .pure fun m a hx => by
  have h1 := hx x (by simp [Op.operands]); rw [hx'] at h1
  have h2 := hx i (by simp [Op.operands]); rw [hi'] at h2
  have h2 := h2.int_inv
  rcases h1.sl_inv with ⟨rfl, _⟩ | ⟨_, _, _, h0, _, _⟩ | ⟨cap', hn, hb, _, _, _, _, e1⟩
  ·simp at h; omega
  ·omega
  ·refine ⟨_, .ptr l.b (l.o + iv.toNat * s) hb, fun w => ?_⟩
   simp only [execOp, e1, h2, Instr.indexAt, asIntOf, Sem.run_bind, Sem.run_pure, Result.andThen_ok, run_und hu]
   simp only [Bool.and_false]
   simp [h.1, h.2, run_size ht, addr_add, Nat.add_assoc]

theorem s_idxA {t e : TypeId} {s by' n b o : Nat} {z : Value} {x i : Operand} {k : IntKind} {iv : Int} (hu : P.underlying t = some (.array n e)) (ht : TyIs P e s by' z)
  (hx' : aeval F x = .ptr b o) (hi' : aeval F i = .int k iv) (h : 0 ≤ iv ∧ iv < n) :
  Step1 P ⟨d, .indexAddr t x i, ty, pos, af, g⟩ F H (.ptr b (o + iv.toNat * s)) H :=
 .pure fun m a hx => by
  have h1 := hx x (by simp [Op.operands]); rw [hx'] at h1
  have h2 := hx i (by simp [Op.operands]); rw [hi'] at h2
  have h2 := h2.int_inv
  obtain ⟨hb, e1⟩ := h1.ptr_inv
  refine ⟨_, .ptr b (o + iv.toNat * s) hb, fun w => ?_⟩
  simp only [execOp, e1, h2, Instr.indexAt, asIntOf, Sem.run_bind, Sem.run_pure, Result.andThen_ok, run_und hu, Instr.sureAddr]
  simp [h.1, h.2, run_size ht, addr_add, Nat.add_assoc]

theorem part_run {e : TypeId} {u : TypeDesc} {s by' : Nat} {z : Value} {m : Nat → Loc} {n : Nat} {xs : List AV} {cs : Array Value} (hu : P.underlying e = some u) (ht : TyIs P e s by' z)
  (hr : RVs m n xs cs.toList) {off : Nat} {v : AV}
  (hv : (if aggD u then (if off + s ≤ xs.length then some (AV.agg ((xs.drop off).take s)) else none) else xs[off]?) = some v) :
  ∃ v', RV m n v v' ∧ ∀ w, (part e cs off).run P w = .ok v' w := by
 have hl : xs.length = cs.size := by simpa using hr.1
 by_cases ha : aggD u = true
 ·rw [if_pos ha] at hv
  split at hv
  case isFalse => cases hv
  rename_i hle
  injection hv with hv
  subst hv
  refine ⟨.agg (cs.extract off (off + s)), .agg_mk ⟨by simp; omega, fun i h1 h2 => ?_⟩, fun w => by simp [part, run_isAgg hu, ha, run_size ht]⟩
  have h3 : i < s := by simp at h1; omega
  have := hr.2 (off + i) (by omega) (by simp; omega)
  simpa using this
 ·rw [if_neg ha] at hv
  obtain ⟨hlt, rfl⟩ := List.getElem?_eq_some_iff.1 hv
  have h2 : off < cs.size := by omega
  have hv := hr.2 off hlt (by simpa using h2)
  rw [Array.getElem_toList] at hv
  refine ⟨cs[off], hv, fun w => ?_⟩
  simp at ha
  simp [part, run_isAgg hu, ha, h2]

def apart (agg : Bool) (s : Nat) (xs : List AV) (off : Nat) : Option AV :=
 if agg then (if off + s ≤ xs.length then some (AV.agg ((xs.drop off).take s)) else none) else xs[off]?

theorem s_field {t : TypeId} {x : Operand} {i : Nat} {fs : Array Field} {f : Field} {u : TypeDesc} {s by' : Nat} {z : Value} {xs : List AV} {v : AV} (hu : P.underlying t = some (.struct fs)) (hf : fs[i]? = some f)
  (hfu : P.underlying f.type = some u) (ht : TyIs P f.type s by' z) (hx' : aeval F x = .agg xs) (hv : apart (aggD u) s xs f.offset = some v) :
  Step1 P ⟨d, .field t x i, ty, pos, af, g⟩ F H v H :=
 .pure fun m a hx => by
  have h1 := hx x (by simp [Op.operands]); rw [hx'] at h1
  obtain ⟨cs, e1, hr⟩ := h1.agg_inv
  obtain ⟨v', hv', hrun⟩ := part_run hfu ht hr hv
  refine ⟨v', hv', fun w => ?_⟩
  simp [execOp, e1, Instr.field, run_und hu, hf, asAgg, hrun]

theorem s_index {t e : TypeId} {x i : Operand} {n : Nat} {u : TypeDesc} {s by' : Nat} {z : Value} {xs : List AV} {v : AV} {k : IntKind} {iv : Int} (hu : P.underlying t = some (.array n e))
  (hfu : P.underlying e = some u) (ht : TyIs P e s by' z) (hx' : aeval F x = .agg xs) (hi' : aeval F i = .int k iv) (h : 0 ≤ iv ∧ iv < n) (hv : apart (aggD u) s xs (iv.toNat * s) = some v) :
  Step1 P ⟨d, .index t x i, ty, pos, af, g⟩ F H v H :=
 .pure fun m a hx => by
  have h1 := hx x (by simp [Op.operands]); rw [hx'] at h1
  have h2 := hx i (by simp [Op.operands]); rw [hi'] at h2
  have h2 := h2.int_inv
  obtain ⟨cs, e1, hr⟩ := h1.agg_inv
  obtain ⟨v', hv', hrun⟩ := part_run hfu ht hr hv
  refine ⟨v', hv', fun w => ?_⟩
  simp [execOp, e1, h2, Instr.index, run_und hu, asIntOf, h.1, h.2, run_size ht, hrun]

def bt (s : ByteArray) (i : Int) : Int := ((s.get! i.toNat).toNat : Int)
theorem s_indexStr {t : TypeId} {x i : Operand} {s : ByteArray} {k : IntKind} {iv : Int} (hu : P.underlying t = some .string) (hx' : aeval F x = .str s) (hi' : aeval F i = .int k iv)
  (h : 0 ≤ iv ∧ iv < s.size) : Step1 P ⟨d, .index t x i, ty, pos, af, g⟩ F H (.int .u8 (bt s iv)) H :=
 .pure fun m a hx => by
  have h1 := hx x (by simp [Op.operands]); rw [hx'] at h1
  have h2 := hx i (by simp [Op.operands]); rw [hi'] at h2
  have h2 := h2.int_inv
  have h1 := h1.str_inv
  refine ⟨_, .int _ _, fun w => ?_⟩
  have hlt : iv.toNat < s.size := by omega
  have hb : s[iv.toNat]? = some (s.get! iv.toNat) := by
   rw [getElem?_pos s iv.toNat hlt]
   congr 1
   simp [ByteArray.get!, getElem!_pos, hlt]
   rfl
  simp [execOp, h1, h2, Instr.index, run_und hu, asIntOf, h.1, hb, bt]

theorem s_fieldAddr {t : TypeId} {x : Operand} {i : Nat} {fs : Array Field} {f : Field} {s by' b o : Nat} {z : Value} (hu : P.underlying t = some (.struct fs)) (hf : fs[i]? = some f)
  (ht : TyIs P f.type (s + 1) by' z) (hx' : aeval F x = .ptr b o) :
  Step1 P ⟨d, .fieldAddr t x i, ty, pos, af, g⟩ F H (.ptr b (o + f.offset)) H :=
 .pure fun m a hx => by
  have h1 := hx x (by simp [Op.operands]); rw [hx'] at h1
  obtain ⟨hb, e1⟩ := h1.ptr_inv
  refine ⟨_, .ptr b (o + f.offset) hb, fun w => ?_⟩
  simp [execOp, e1, Instr.fieldAt, run_und hu, hf, Instr.sureAddr, fieldPlace, run_size ht, addr_add, Nat.add_assoc]

/-! lengths -/
theorem s_lenS {x : Operand} {t e : TypeId} {l : Sl} {ats : Array TypeId} (ha : ats[0]? = some t) (hu : P.underlying t = some (.slice e)) (hx' : aeval F x = .sl l) :
  Step1 P ⟨d, .call ⟨.builtin .len, #[x], ats⟩, ty, pos, af, g⟩ F H (.int .i64 l.len) H :=
 .pure fun m a hx => by
  have h1 := hx x (by simp [Op.operands, Call.operands]); rw [hx'] at h1
  obtain ⟨_, _, e1⟩ := h1.sl_len
  exact ⟨_, .int _ _, fun w => by simp [execOp, resolve, invoke, builtin, Builtin.len_, ha, e1, run_und hu, goInt]⟩
theorem s_lenStr {x : Operand} {t : TypeId} {l : ByteArray} {ats : Array TypeId} (ha : ats[0]? = some t) (hu : P.underlying t = some .string) (hx' : aeval F x = .str l) :
  Step1 P ⟨d, .call ⟨.builtin .len, #[x], ats⟩, ty, pos, af, g⟩ F H (.int .i64 l.size) H :=
 .pure fun m a hx => by
  have h1 := hx x (by simp [Op.operands, Call.operands]); rw [hx'] at h1
  have h1 := h1.str_inv
  exact ⟨_, .int _ _, fun w => by simp [execOp, resolve, invoke, builtin, Builtin.len_, ha, h1, run_und hu, goInt]⟩
theorem s_capS {x : Operand} {t e : TypeId} {l : Sl} {ats : Array TypeId} (ha : ats[0]? = some t) (hu : P.underlying t = some (.slice e)) (hx' : aeval F x = .sl l) (ho : l.opn = 0) :
  Step1 P ⟨d, .call ⟨.builtin .cap, #[x], ats⟩, ty, pos, af, g⟩ F H (.int .i64 l.cap) H :=
 .pure fun m a hx => by
  have h1 := hx x (by simp [Op.operands, Call.operands]); rw [hx'] at h1
  rcases h1.sl_inv with ⟨rfl, e1⟩ | ⟨a0, _, _, _, hc, e1⟩ | ⟨cap', hn, hb, _, _, h0, _, e1⟩
  ·exact ⟨_, .int _ _, fun w => by simp [execOp, resolve, invoke, builtin, Builtin.cap_, ha, e1, run_und hu, goInt]⟩
  ·rw [hc]
   exact ⟨_, .int _ _, fun w => by simp [execOp, resolve, invoke, builtin, Builtin.cap_, ha, e1, run_und hu, goInt]⟩
  ·rw [h0 ho] at e1
   exact ⟨_, .int _ _, fun w => by simp [execOp, resolve, invoke, builtin, Builtin.cap_, ha, e1, run_und hu, goInt]⟩

theorem s_min2 {x y : Operand} {k : IntKind} {i j : Int} {ats : Array TypeId} (hx' : aeval F x = .int k i) (hy' : aeval F y = .int k j) :
  Step1 P ⟨d, .call ⟨.builtin .min, #[x, y], ats⟩, ty, pos, af, g⟩ F H (.int k (if j < i then j else i)) H :=
 .pure fun m a hx => by
  have h1 := hx x (by simp [Op.operands, Call.operands]); rw [hx'] at h1
  have h2 := hx y (by simp [Op.operands, Call.operands]); rw [hy'] at h2
  exact ⟨_, .int _ _, fun w => by simp [execOp, resolve, invoke, builtin, Builtin.min_, Builtin.min2, h1.int_inv, h2.int_inv]⟩
theorem s_max2 {x y : Operand} {k : IntKind} {i j : Int} {ats : Array TypeId} (hx' : aeval F x = .int k i) (hy' : aeval F y = .int k j) :
  Step1 P ⟨d, .call ⟨.builtin .max, #[x, y], ats⟩, ty, pos, af, g⟩ F H (.int k (if i < j then j else i)) H :=
 .pure fun m a hx => by
  have h1 := hx x (by simp [Op.operands, Call.operands]); rw [hx'] at h1
  have h2 := hx y (by simp [Op.operands, Call.operands]); rw [hy'] at h2
  exact ⟨_, .int _ _, fun w => by simp [execOp, resolve, invoke, builtin, Builtin.max_, Builtin.max2, h1.int_inv, h2.int_inv]⟩
theorem s_convInt {src dst : TypeId} {u : TypeDesc} {x : Operand} {k k' : IntKind} {i : Int} (hs : P.underlying src = some u) (hd : P.underlying dst = some (.int k')) (hx' : aeval F x = .int k i) :
  Step1 P ⟨d, .convert src dst x, ty, pos, af, g⟩ F H (.int k' (k'.wrap i)) H :=
 .pure fun m a hx => by
  have h1 := hx x (by simp [Op.operands]); rw [hx'] at h1
  exact ⟨_, .int _ _, fun w => by simp [execOp, h1.int_inv, convert, run_und hs, run_und hd, Conv.intToInt]⟩
end
end Go.Lt

namespace Go.Lt
open Go.RowKit

/-! ### slices -/
def opI (F : Fr) (x : Option Operand) (d : Int) : Option Int :=
 match x with
 | none => some d
 | some x => match aeval F x with
  | .int _ i => some i
  | _ => none
def OpI (x : Option Value) (d i : Nat) : Prop := (x = none ∧ i = d) ∨ ∃ k, x = some (.int k i)
theorem opI_rel {F : Fr} {m : Nat → Loc} {n : Nat} {a : Act} {x : Option Operand} {d : Nat} {i : Int} (h : opI F x d = some i) (h0 : 0 ≤ i)
  (hx : ∀ y, x = some y → RV m n (aeval F y) (a.eval y)) : OpI (x.map a.eval) d i.toNat := by
 cases x with
 | none => simp [opI] at h; exact .inl ⟨rfl, by omega⟩
 | some y =>
  have hr := hx y rfl
  simp only [opI] at h
  split at h
  ·rename_i k j e
   injection h with h
   subst h
   rw [e] at hr
   exact .inr ⟨k, by simp [hr.int_inv]; omega⟩
  ·cases h

section
variable {P : Program} {w : World}
theorem bound_run {k : IntKind} {i y : Nat} (h : i ≤ y) (c : BoundsCode) : (Instr.sliceBound (.int k i) y c).run P w = .ok i w := by
 simp [Instr.sliceBound, asIntOf, Int.ofNat_le.2 h]
theorem bounds_run2 {isS : Bool} {len cap l h : Nat} {lo hi : Option Value} (hlo : OpI lo 0 l) (hhi : OpI hi len h) (hl : l ≤ h) (hh : h ≤ cap) :
  (Instr.sliceBounds isS len cap lo hi none).run P w = .ok (l, h, cap) w := by
 rcases hlo with ⟨rfl, rfl⟩ | ⟨k, rfl⟩ <;> rcases hhi with ⟨rfl, rfl⟩ | ⟨k', rfl⟩ <;>
  simp [Instr.sliceBounds, bound_run hl, bound_run hh]
end

def Sl.cut (s : Sl) (es lo hi : Nat) : Sl := if s.nil then s else ⟨false, s.b, s.o + lo * es, hi - lo, s.cap - lo, s.opn⟩
def Sl.cut3 (s : Sl) (es lo hi mx : Nat) : Sl := if s.nil then s else ⟨false, s.b, s.o + lo * es, hi - lo, mx - lo, 0⟩

section
variable {P : Program} {F : Fr} {H : Hp} {d : Option Tmp} {ty : TypeId} {pos : String} {af : Array Edge} {g : Option (Nat × Bool)}

theorem cut_rel {m : Nat → Loc} {n : Nat} {s : Sl} {v : Value} {es lo hi : Nat} (h : RV m n (.sl s) v) (h1 : lo ≤ hi) (h2 : hi ≤ s.cap) (hes : s.opn = 0 ∨ s.opn = es) :
  ∃ a len cap, v = .slice a len cap ∧ hi ≤ cap ∧ RV m n (.sl (s.cut es lo hi)) (.slice (if cap = lo then a else a.map (·.add (lo * es))) (hi - lo) (cap - lo)) := by
 rcases h.sl_inv with ⟨rfl, e⟩ | ⟨a, hn, hb, hl, hc, e⟩ | ⟨cap', hn, hb, hl, hc, h0, hp, e⟩
 ·simp only at h2
  refine ⟨_, _, _, e, h2, ?_⟩
  have : hi = 0 := by omega
  have : lo = 0 := by omega
  subst hi; subst lo
  simp [Sl.cut]
  exact .slnil
 ·refine ⟨_, _, _, e, by omega, ?_⟩
  have : hi = 0 := by omega
  have : lo = 0 := by omega
  subst hi; subst lo
  simp only [Sl.cut, hn, hc]
  exact .sle _ _ _ trivial _
 ·refine ⟨_, _, _, e, by omega, ?_⟩
  have hcut : s.cut es lo hi = ⟨false, s.b, s.o + lo * es, hi - lo, s.cap - lo, s.opn⟩ := by simp [Sl.cut, hn]
  by_cases hz : cap' = lo
  ·rw [if_pos hz]
   have e1 : hi - lo = 0 := by omega
   have e2 : s.cap - lo = 0 := by omega
   have e3 : cap' - lo = 0 := by omega
   rw [hcut, e1, e2, e3]
   exact .sle _ _ _ trivial _
  ·rw [if_neg hz]
   have ha : (some (⟨(m s.b).blk, (m s.b).sh + s.o, none⟩ : Addr)).map (·.add (lo * es)) = some ⟨(m s.b).blk, (m s.b).sh + (s.o + lo * es), none⟩ := by
    simp [addr_add, Nat.add_assoc]
   rw [ha, hcut]
   refine RV.sl_mk (s := ⟨false, s.b, s.o + lo * es, hi - lo, s.cap - lo, s.opn⟩) rfl hb (by simp only; omega) (by simp only; omega) (fun h => by simp only at h ⊢; rw [h0 h]) (fun p hp' => ?_)
   simp only at hp' ⊢
   have hes' : es = p + 1 := by omega
   subst hes'
   have := hp p hp'
   have : lo * (p + 1) + (cap' - lo) * (p + 1) = cap' * (p + 1) := by rw [← Nat.add_mul]; congr 1; omega
   omega

theorem s_slice {t e : TypeId} {s by' : Nat} {z : Value} {x : Operand} {lo hi : Option Operand} {l : Sl} {lv hv : Int} (hu : P.underlying t = some (.slice e)) (ht : TyIs P e s by' z)
  (hx' : aeval F x = .sl l) (hlo : opI F lo 0 = some lv) (hhi : opI F hi l.len = some hv) (h : 0 ≤ lv ∧ lv ≤ hv ∧ hv ≤ l.cap) (hes : l.opn = 0 ∨ l.opn = s) :
  Step1 P ⟨d, .slice t x lo hi none, ty, pos, af, g⟩ F H (.sl (l.cut s lv.toNat hv.toNat)) H :=
 .pure fun m a hx => by
  have h1 := hx x (by simp [Op.operands]); rw [hx'] at h1
  have h2 := opI_rel (m := m) (n := H.n) (a := a) (d := 0) hlo h.1 (fun y hy => hx y (by simp [Op.operands, hy]))
  have h3 := opI_rel (m := m) (n := H.n) (a := a) hhi (by omega) (fun y hy => hx y (by simp [Op.operands, hy]))
  obtain ⟨ad, len, cap, e1, hcap, hr⟩ := cut_rel (es := s) (lo := lv.toNat) (hi := hv.toNat) h1 (by omega) (by omega) hes
  refine ⟨_, hr, fun w => ?_⟩
  obtain ⟨a', c', e2⟩ := h1.sl_len
  rw [e1] at e2
  injection e2 with _ e3 _
  subst e3
  simp only [execOp, e1, Instr.sliceAt, Sem.run_bind, run_und hu, Result.andThen_ok, Instr.slice, Option.map_none]
  rw [bounds_run2 h2 h3 (by omega) hcap]
  simp [run_size ht]

theorem s_sliceA {t e : TypeId} {s by' n b o : Nat} {z : Value} {x : Operand} {lo hi : Option Operand} {lv hv : Int} (hu : P.underlying t = some (.array n e)) (ht : TyIs P e s by' z)
  (hx' : aeval F x = .ptr b o) (hlo : opI F lo 0 = some lv) (hhi : opI F hi n = some hv) (h : 0 ≤ lv ∧ lv ≤ hv ∧ hv ≤ n) :
  Step1 P ⟨d, .slice t x lo hi none, ty, pos, af, g⟩ F H (.sl ⟨false, b, o + lv.toNat * s, hv.toNat - lv.toNat, n - lv.toNat, 0⟩) H :=
 .pure fun m a hx => by
  have h1 := hx x (by simp [Op.operands]); rw [hx'] at h1
  obtain ⟨hb, e1⟩ := h1.ptr_inv
  have h2 := opI_rel (m := m) (n := H.n) (a := a) (d := 0) hlo h.1 (fun y hy => hx y (by simp [Op.operands, hy]))
  have h3 := opI_rel (m := m) (n := H.n) (a := a) hhi (by omega) (fun y hy => hx y (by simp [Op.operands, hy]))
  refine ⟨.slice (some (if n = lv.toNat then ⟨(m b).blk, (m b).sh + o, none⟩ else ⟨(m b).blk, (m b).sh + (o + lv.toNat * s), none⟩)) (hv.toNat - lv.toNat) (n - lv.toNat), ?_, fun w => ?_⟩
  ·by_cases hz : n = lv.toNat
   ·rw [if_pos hz]
    have e2 : hv.toNat - lv.toNat = 0 := by omega
    have e3 : n - lv.toNat = 0 := by omega
    rw [e2, e3]
    exact .sle _ _ _ trivial _
   ·rw [if_neg hz]
    exact .sl _ _ _ _ hb (by omega)
  ·simp only [execOp, e1, Instr.sliceAt, Sem.run_bind, run_und hu, Result.andThen_ok, Instr.sureAddr, Sem.run_pure, Option.map_none]
   rw [bounds_run2 h2 h3 (by omega) (by omega)]
   simp [run_size ht, addr_add, Nat.add_assoc]

theorem s_sliceStr {t : TypeId} {x : Operand} {lo hi : Option Operand} {s : ByteArray} {lv hv : Int} (hu : P.underlying t = some .string)
  (hx' : aeval F x = .str s) (hlo : opI F lo 0 = some lv) (hhi : opI F hi s.size = some hv) (h : 0 ≤ lv ∧ lv ≤ hv ∧ hv ≤ s.size) :
  Step1 P ⟨d, .slice t x lo hi none, ty, pos, af, g⟩ F H (.str (s.extract lv.toNat hv.toNat)) H :=
 .pure fun m a hx => by
  have h1 := hx x (by simp [Op.operands]); rw [hx'] at h1
  have h1 := h1.str_inv
  have h2 := opI_rel (m := m) (n := H.n) (a := a) (d := 0) hlo h.1 (fun y hy => hx y (by simp [Op.operands, hy]))
  have h3 := opI_rel (m := m) (n := H.n) (a := a) hhi (by omega) (fun y hy => hx y (by simp [Op.operands, hy]))
  refine ⟨_, .str _, fun w => ?_⟩
  simp only [execOp, h1, Instr.sliceAt, Sem.run_bind, run_und hu, Result.andThen_ok, Instr.slice, Option.map_none]
  simp only [Option.isSome_none, Bool.false_eq_true, if_false, Sem.run_bind, Sem.run_pure]
  rw [bounds_run2 h2 h3 (by omega) (by omega)]
  simp

/-! parts put together -/
def fillA (place : Nat → Option (Nat × Nat)) (cells : List AV) : List (Nat × AV) → Option (List AV)
 | [] => some cells
 | (i, v) :: rest =>
  match place i with
  | none => none
  | some (off, size) =>
   if v.isU || v.cellsA.length != size || decide (cells.length < off + size) then none
   else fillA place (cells.take off ++ v.cellsA ++ cells.drop (off + size)) rest

theorem foldl_set (vs : List Value) : ∀ (cells : Array Value) (off : Nat), off + vs.length ≤ cells.size →
  (vs.zipIdx 0).foldl (fun cs (c, j) => cs.setIfInBounds (off + j) c) cells = (cells.toList.take off ++ vs ++ cells.toList.drop (off + vs.length)).toArray := by
 suffices h : ∀ (vs : List Value) (cells : Array Value) (off k : Nat), off + k + vs.length ≤ cells.size →
   (vs.zipIdx k).foldl (fun cs (c, j) => cs.setIfInBounds (off + j) c) cells = (cells.toList.take (off + k) ++ vs ++ cells.toList.drop (off + k + vs.length)).toArray by
  intro cells off hle
  simpa using h vs cells off 0 (by simpa using hle)
 intro vs
 induction vs with
 | nil => intro cells off k h; simp
 | cons v vs ih =>
  intro cells off k h
  simp only [List.zipIdx_cons, List.foldl_cons]
  simp only [List.length_cons] at h
  rw [ih _ off (k + 1) (by simp; omega)]
  congr 1
  have hlt : off + k < cells.toList.length := by simp; omega
  rw [Array.toList_setIfInBounds]
  rw [show off + (k + 1) = off + k + 1 by omega]
  rw [List.take_succ_eq_append_getElem (by simp; omega)]
  rw [List.drop_set_of_lt (by omega)]
  simp [List.take_set_of_le]
  omega

theorem fill_rel {m : Nat → Loc} {n : Nat} {place : Nat → Option (Nat × Nat)} : ∀ {parts : List (Nat × AV)} {parts' : List (Nat × Value)} {cells cells' : List AV} {vs : Array Value},
  fillA place cells parts = some cells' → RVs m n cells vs.toList → parts.length = parts'.length →
  (∀ i (h1 : i < parts.length) (h2 : i < parts'.length), parts[i].1 = parts'[i].1 ∧ RV m n parts[i].2 parts'[i].2) →
  ∃ vs', Instr.fill place vs parts' = some vs' ∧ RVs m n cells' vs'.toList := by
 intro parts
 induction parts with
 | nil =>
  intro parts' cells cells' vs h hv hl _
  cases parts' with
  | nil => simp [fillA] at h; subst h; exact ⟨vs, rfl, hv⟩
  | cons _ _ => simp at hl
 | cons p parts ih =>
  intro parts' cells cells' vs h hv hl hp
  cases parts' with
  | nil => simp at hl
  | cons q parts' =>
   obtain ⟨i, x⟩ := p
   obtain ⟨j, v⟩ := q
   obtain ⟨e, hr⟩ := hp 0 (by simp) (by simp)
   simp only [List.getElem_cons_zero] at e hr
   subst e
   simp only [fillA] at h
   cases hpl : place i with
   | none => simp [hpl] at h
   | some os =>
    obtain ⟨off, size⟩ := os
    simp only [hpl] at h
    split at h
    ·cases h
    ·rename_i hc
     simp only [Bool.or_eq_true, bne_iff_ne, ne_eq, decide_eq_true_eq, not_or, Decidable.not_not, Bool.not_eq_true] at hc
     obtain ⟨⟨hu, hs⟩, hle⟩ := hc
     have hcr := cells_rel hr (AV.ne_undef hu)
     have hvl : v.cells.size = size := by have := hcr.1; simp at this; omega
     have hcl : cells.length = vs.size := by simpa using hv.1
     have hfold := foldl_set v.cells.toList vs off (by simp; omega)
     obtain ⟨vs', hf, hr'⟩ := ih (vs := (vs.toList.take off ++ v.cells.toList ++ vs.toList.drop (off + v.cells.toList.length)).toArray) h
      (by
       simp only [List.toList_toArray]
       have htake : RVs m n (cells.take off) (vs.toList.take off) := ⟨by simp [hcl], fun i h1 h2 => by
        have h3 := hv.2 i (by simp at h1; omega) (by simp at h2 ⊢; omega)
        simpa using h3⟩
       have hdrop : RVs m n (cells.drop (off + size)) (vs.toList.drop (off + size)) := ⟨by simp [hcl], fun i h1 h2 => by
        have h3 := hv.2 (off + size + i) (by simp at h1; omega) (by simp at h2 ⊢; omega)
        simpa using h3⟩
       rw [show v.cells.toList.length = size by simpa using hvl]
       exact (htake.append hcr).append hdrop)
      (by simpa using hl) (fun i h1 h2 => by
       have := hp (i + 1) (by simpa using h1) (by simpa using h2)
       simp only [List.getElem_cons_succ] at this
       exact this)
     refine ⟨vs', ?_, hr'⟩
     simp only [Instr.fill, hpl]
     rw [if_neg (by simp; omega)]
     rw [← hf]
     congr 1
     rw [← hfold]
     rw [← Array.foldl_toList]
     simp

theorem zeros_rel {m : Nat → Loc} {n : Nat} {z : Value} (hu : (ofVal z).isU = false) (hz : 0 < (ofVal z).cellsA.length) (k : Nat) :
  RVs m n ((List.range k).map fun i => (ofVal z).cellsA[i % (ofVal z).cellsA.length]!) ((Array.range k).map fun i => z.cells[i % z.cells.size]!).toList := by
 have hc := cells_rel (RV.ofVal m n z) (AV.ne_undef hu)
 have hl : (ofVal z).cellsA.length = z.cells.size := by simpa using hc.1
 refine ⟨by simp, fun i h1 h2 => ?_⟩
 have hi : i % (ofVal z).cellsA.length < (ofVal z).cellsA.length := Nat.mod_lt _ hz
 have h3 := hc.2 (i % (ofVal z).cellsA.length) hi (by simp; omega)
 simp only [List.getElem_map, List.getElem_range, Array.toList_map, Array.toList_range]
 rw [getElem!_pos (ofVal z).cellsA _ hi]
 have hi2 : i % z.cells.size < z.cells.size := by rw [← hl]; exact hi
 rw [getElem!_pos z.cells _ hi2]
 have e : z.cells.toList[i % (ofVal z).cellsA.length]'(by simp; omega) = z.cells[i % z.cells.size] := by
  rw [Array.getElem_toList]
  congr 1
  rw [hl]
 rw [← e]
 exact h3

def zerosA (zs : List AV) (k : Nat) : List AV := (List.range k).map fun i => zs[i % zs.length]!

theorem s_buildSlice {t e : TypeId} {n s by' : Nat} {z : Value} {parts : Array (Nat × Operand)} {cs : List AV} (hu : P.underlying t = some (.slice e)) (ht : TyIs P e s by' z)
  (hn : n * s ≤ 2 ^ 24) (hs : 0 < n * s) (hz : (ofVal z).isU = false) (hzl : 0 < (ofVal z).cellsA.length)
  (hf : fillA (fun i => some (i * s, s)) (zerosA (ofVal z).cellsA (n * s)) (parts.toList.map fun p => (p.1, aeval F p.2)) = some cs) :
  Step1 P ⟨d, .buildSlice t n parts, ty, pos, af, g⟩ F H (.sl ⟨false, H.n, 0, n, n, 0⟩) (H.push (.cells cs false)) :=
 .of_run (by simp) fun B w0 m a w hx hi => by
  obtain ⟨vs, hfill, hr⟩ := fill_rel (m := m) (n := H.n) (parts' := (parts.map fun p => (p.1, a.eval p.2)).toList) hf (zeros_rel hz hzl (n * s)) (by simp) (fun i h1 h2 => by
   have h3 : i < parts.size := by simpa using h1
   refine ⟨by simp, ?_⟩
   simp only [List.getElem_map, Array.getElem_toList, Array.toList_map]
   exact hx _ (by
    simp only [Op.operands, List.mem_toArray, List.mem_map, Array.mem_toList_iff]
    exact ⟨parts[i], by simp, rfl⟩))
  obtain ⟨w', m', hrun, he, hi', hm⟩ := hi.newRow (P := P) e hr
  refine ⟨.slice (some ⟨w.heap.size, 0, none⟩) n n, w', m', ?_, he, ?_, hi'⟩
  ·have hnz : ¬ n * s = 0 := by omega
   have hnb : ¬ n * s > 2 ^ 24 := by omega
   simp only [execOp, Instr.buildSlice, Sem.run_bind, run_und hu, Result.andThen_ok, run_size ht]
   rw [if_neg hnb]
   simp only [Sem.run_bind, Sem.run_pure, Result.andThen_ok]
   rw [if_neg hnz]
   simp only [Sem.run_bind, run_zero ht, Result.andThen_ok, Sem.run_pure]
   rw [hfill]
   simp only [Sem.run_bind, hrun, Result.andThen_ok, Sem.run_pure]
  ·have := RV.sl (m := m') (n := (H.push (.cells cs false)).n) H.n 0 n n (by simp) (Nat.le_refl _)
   rw [hm] at this
   exact this

theorem s_buildSlice0 {t e : TypeId} {s by' : Nat} {z : Value} (hu : P.underlying t = some (.slice e)) (ht : TyIs P e s by' z) :
  Step1 P ⟨d, .buildSlice t 0 #[], ty, pos, af, g⟩ F H (.sl ⟨false, H.n, 0, 0, 0, 0⟩) (H.push (.cells [] false)) :=
 .of_run (by simp) fun B w0 m a w hx hi => by
  obtain ⟨w', m', hrun, he, hi', hm⟩ := hi.newRow (P := P) (cs := []) (vs := #[]) e .nil
  refine ⟨.slice (some ⟨w.heap.size, 0, none⟩) 0 0, w', m', ?_, he, ?_, hi'⟩
  ·have e0 : ∀ f : Nat → Value, (Array.range (0 * s)).map f = #[] := fun f => by apply Array.eq_empty_of_size_eq_zero; simp
   simp only [execOp, Instr.buildSlice, Sem.run_bind, run_und hu, Result.andThen_ok, run_size ht]
   rw [if_neg (by omega)]
   simp only [Sem.run_bind, Sem.run_pure, Result.andThen_ok]
   rw [if_pos (by omega)]
   simp only [Sem.run_pure, Result.andThen_ok, e0]
   simp [Instr.fill, hrun]
  ·have := RV.sl (m := m') (n := (H.push (.cells [] false)).n) H.n 0 0 0 (by simp) (Nat.le_refl _)
   rw [hm] at this
   exact this

theorem s_build {t : TypeId} {s by' : Nat} {z : Value} {fs : Array Field} {parts : Array (Nat × Operand)} {cs : List AV} {pl : Array (Nat × Nat)} (hu : P.underlying t = some (.struct fs)) (ht : TyIs P t s by' z)
  (hz : (ofVal z).isU = false) (hpl : ∀ w, (fs.mapM (fun f => do Pure.pure (f.offset, ← sizeOf f.type)) : Sem (Array (Nat × Nat))).run P w = .ok pl w)
  (hf : fillA (pl[·]?) (ofVal z).cellsA (parts.toList.map fun p => (p.1, aeval F p.2)) = some cs) :
  Step1 P ⟨d, .build t parts, ty, pos, af, g⟩ F H (.agg cs) H :=
 .pure fun m a hx => by
  obtain ⟨vs, hfill, hr⟩ := fill_rel (m := m) (n := H.n) (parts' := (parts.map fun p => (p.1, a.eval p.2)).toList) hf (cells_rel (RV.ofVal m H.n z) (AV.ne_undef hz)) (by simp) (fun i h1 h2 => by
   have h3 : i < parts.size := by simpa using h1
   refine ⟨by simp, ?_⟩
   simp only [List.getElem_map, Array.getElem_toList, Array.toList_map]
   exact hx _ (by
    simp only [Op.operands, List.mem_toArray, List.mem_map, Array.mem_toList_iff]
    exact ⟨parts[i], by simp, rfl⟩))
  refine ⟨.agg vs, .agg_mk hr, fun w => ?_⟩
  simp only [execOp, Instr.build, Sem.run_bind, run_und hu, Result.andThen_ok, run_zero ht, hpl]
  rw [hfill]
  simp only [Sem.run_pure, Result.andThen_ok]

theorem s_buildA {t e : TypeId} {n s by' s' by2 : Nat} {z z' : Value} {parts : Array (Nat × Operand)} {cs : List AV} (hu : P.underlying t = some (.array n e)) (ht : TyIs P t s by' z)
  (hte : TyIs P e s' by2 z') (hz : (ofVal z).isU = false)
  (hf : fillA (fun i => some (i * s', s')) (ofVal z).cellsA (parts.toList.map fun p => (p.1, aeval F p.2)) = some cs) :
  Step1 P ⟨d, .build t parts, ty, pos, af, g⟩ F H (.agg cs) H :=
 .pure fun m a hx => by
  obtain ⟨vs, hfill, hr⟩ := fill_rel (m := m) (n := H.n) (parts' := (parts.map fun p => (p.1, a.eval p.2)).toList) hf (cells_rel (RV.ofVal m H.n z) (AV.ne_undef hz)) (by simp) (fun i h1 h2 => by
   have h3 : i < parts.size := by simpa using h1
   refine ⟨by simp, ?_⟩
   simp only [List.getElem_map, Array.getElem_toList, Array.toList_map]
   exact hx _ (by
    simp only [Op.operands, List.mem_toArray, List.mem_map, Array.mem_toList_iff]
    exact ⟨parts[i], by simp, rfl⟩))
  refine ⟨.agg vs, .agg_mk hr, fun w => ?_⟩
  simp only [execOp, Instr.build, Sem.run_bind, run_und hu, Result.andThen_ok, run_zero ht, run_size hte]
  rw [hfill]
  simp only [Sem.run_pure, Result.andThen_ok]

theorem s_makeSlice {t e : TypeId} {s by' : Nat} {z : Value} {x y : Operand} {n c : Int} {k1 k2 : IntKind} (hu : P.underlying t = some (.slice e)) (ht : TyIs P e s by' z)
  (hz : (ofVal z).isU = false) (hzl : (ofVal z).cellsA.length = s) (hs : 0 < s) (hb : by' ≤ 4096) (hx' : aeval F x = .int k1 n) (hy' : aeval F y = .int k2 c) (h : 0 ≤ n ∧ n ≤ c ∧ c ≤ 4294967296) :
  Step1 P ⟨d, .makeSlice t x y, ty, pos, af, g⟩ F H (.sl ⟨false, H.n, 0, n.toNat, c.toNat, 0⟩) (H.push (.cells (zerosA (ofVal z).cellsA (c.toNat * s)) false)) :=
 .of_run (by simp) fun B w0 m a w hx hi => by
  have h1 := hx x (by simp [Op.operands]); rw [hx'] at h1
  have h2 := hx y (by simp [Op.operands]); rw [hy'] at h2
  have h1 := h1.int_inv
  have h2 := h2.int_inv
  have hr := zeros_rel (m := m) (n := H.n) hz (by omega) (c.toNat * s)
  obtain ⟨w', m', hrun, he, hi', hm⟩ := hi.newRow (P := P) e hr
  refine ⟨.slice (some ⟨w.heap.size, 0, none⟩) n.toNat c.toNat, w', m', ?_, he, ?_, hi'⟩
  ·obtain ⟨i, hinfo, hi1, hi2, hi3⟩ := run_info (w := w) ht
   have wn : IntKind.i64.wrap n = n := by simp [IntKind.wrap, IntKind.bits, IntKind.signed]; omega
   have wc : IntKind.i64.wrap c = c := by simp [IntKind.wrap, IntKind.bits, IntKind.signed]; omega
   have hbig : (by' : Int) * c ≤ 2 ^ 48 := by
    have : (by' : Int) * c ≤ 4096 * 4294967296 := Int.mul_le_mul (by omega) h.2.2 (by omega) (by omega)
    omega
   simp only [execOp, Instr.makeSlice, h1, h2, Sem.run_bind, run_und hu, Result.andThen_ok, asInt, asIntOf, Sem.run_pure, hinfo, hi2, wn, wc]
   rw [if_neg (by simp; omega)]
   simp only [Sem.run_bind, Sem.run_pure, Result.andThen_ok, run_askRoom, run_size ht]
   by_cases h0 : c.toNat * s = 0
   ·have hc0 : c.toNat = 0 := by
     rcases Nat.mul_eq_zero.1 h0 with h | h <;> omega
    have e0 : ∀ f : Nat → Value, (Array.range (c.toNat * s)).map f = #[] := fun f => by apply Array.eq_empty_of_size_eq_zero; simp [h0]
    rw [if_pos h0]
    simp only [e0] at hrun ⊢
    simp only [Sem.run_bind, Sem.run_pure, Result.andThen_ok, hrun]
   ·rw [if_neg h0]
    simp only [Sem.run_bind, run_zero ht, Result.andThen_ok, Sem.run_pure, hrun]
  ·have := RV.sl (m := m') (n := (H.push (.cells (zerosA (ofVal z).cellsA (c.toNat * s)) false)).n) H.n 0 n.toNat c.toNat (by simp) (by omega)
   rw [hm] at this
   exact this
end
end Go.Lt

namespace Go.Lt
open Go.RowKit

/-! ### append -/
def Hp.app (H : Hp) (es : Nat) (s : Sl) (vs : List AV) (n : Nat) : Option (Sl × Hp) :=
 if s.len + n ≤ 4294967296 then
  if s.len + n ≤ s.cap then
   if s.nil then some (s, H)
   else (H.sts s.b (s.o + s.len * es) vs).map fun H1 => (⟨false, s.b, s.o, s.len + n, s.cap, s.opn⟩, H1)
  else (H.lds s.b s.o (s.len * es)).bind fun old =>
   if s.opn = 0 then some (⟨false, H.n, 0, s.len + n, s.len + n, es⟩, H.push (.cells (old ++ vs) false))
   else if s.opn = es then
    match H.get s.b with
    | some (.cells _ false) => some (⟨false, H.n, 0, s.len + n, s.len + n, es⟩, (H.set s.b .dead).push (.cells (old ++ vs) false))
    | _ => none
   else none
 else none

section
variable {B : Kp} {w0 w : World} {m : Nat → Loc} {H : Hp}

theorem Inv.setBlk (hi : Inv B w0 m H w) {b : Nat} {k0 k : Blk} (hg : H.get b = some k0) (ho : k.owned = true → k0.owned = true) (hl : k.live = true → k0.live = true)
  (hr : BlkRel B m H.n w b k) : Inv B w0 m (H.set b k) w where
 below := hi.below
 glob := hi.glob
 hB := hi.hB
 rel := fun b' k' h' => by
  rw [Hp.n_set]
  by_cases e : b' = b
  ·subst e
   rw [Hp.get_set_same H _ (Hp.get_lt hg)] at h'
   injection h' with h'
   subst h'
   exact hr
  ·rw [Hp.get_set_other H _ e] at h'
   exact hi.rel b' k' h'
 hid := hi.hidSet hg hl
 excl := fun b1 b2 k1 k2 hne h1 h2 ho1 hl2 => by
  have old : ∀ b' k', (H.set b k).get b' = some k' → ∃ k'', H.get b' = some k'' ∧ (k'.owned = true → k''.owned = true) ∧ (k'.live = true → k''.live = true) := by
   intro b' k' h'
   by_cases e : b' = b
   ·subst e
    rw [Hp.get_set_same H _ (Hp.get_lt hg)] at h'
    injection h' with h'
    subst h'
    exact ⟨_, hg, ho, hl⟩
   ·rw [Hp.get_set_other H _ e] at h'
    exact ⟨k', h', id, id⟩
  obtain ⟨k1', g1, o1, _⟩ := old _ _ h1
  obtain ⟨k2', g2, _, l2⟩ := old _ _ h2
  exact hi.excl b1 b2 k1' k2' hne g1 g2 (o1 ho1) (l2 hl2)

theorem Inv.kill (hi : Inv B w0 m H w) {b : Nat} {k : Blk} (hg : H.get b = some k) : Inv B w0 m (H.set b .dead) w :=
 hi.setBlk hg (fun h => by cases h) (fun h => by cases h) trivial

theorem Inv.extend (hi : Inv B w0 m H w) {b k : Nat} {cs : List AV} (hg : H.get b = some (.cells cs false)) (hk : (m b).sh + cs.length + k ≤ (m b).sz) :
  Inv B w0 m (H.set b (.cells (cs ++ List.replicate k .undef) false)) w := by
 refine hi.setBlk hg (fun _ => rfl) (fun _ => rfl) ?_
 obtain ⟨c, te, fr, hh, hz, hl, hc, hro⟩ := hi.rel b _ hg
 refine ⟨c, te, fr, hh, hz, by simp; omega, fun i h => ?_, hro⟩
 by_cases hlt : i < cs.length
 ·obtain ⟨v, hv, hr⟩ := hc i hlt
  exact ⟨v, hv, by rw [List.getElem_append_left hlt]; exact hr⟩
 ·have h' : i < cs.length + k := by simpa using h
  have hsz : (m b).sh + i < c.size := by omega
  refine ⟨c[(m b).sh + i], by simp [hsz], ?_⟩
  rw [List.getElem_append_right (by omega)]
  simp
  exact .undef _

theorem Inv.rename (hi : Inv B w0 m H w) {b o : Nat} {cs cs' : List AV} (hg : H.get b = some (.cells cs false)) (ho : o + cs'.length ≤ cs.length)
  (hcs : ∀ i (h : i < cs'.length), cs'[i] = cs[o + i]'(by omega)) :
  Inv B w0 (newLoc H m ⟨(m b).blk, (m b).sh + o, (m b).sz⟩) ((H.set b .dead).push (.cells cs' false)) w := by
 have hk := hi.kill hg
 have hb := Hp.get_lt hg
 obtain ⟨c, te, fr, hh, hz, hl, hc, hro⟩ := hi.rel b _ hg
 have hn : (H.set b .dead).n = H.n := by simp
 have hm : newLoc (H.set b .dead) m ⟨(m b).blk, (m b).sh + o, (m b).sz⟩ = newLoc H m ⟨(m b).blk, (m b).sh + o, (m b).sz⟩ := by
  unfold newLoc; rw [hn]
 refine ⟨hi.below, hi.glob, hi.hB, fun b' k' h' => ?_, fun b' k' h' hl' => ?_, fun b1 b2 k1 k2 hne h1 h2 ho1 hl2 => ?_⟩
 rotate_left
 ·rw [Hp.get_push, hn] at h'
  by_cases e : b' = H.n
  ·subst e
   rw [newLoc_new]
   exact hi.hid _ _ hg rfl
  ·rw [if_neg e] at h'
   have hlt := Hp.get_lt h'
   rw [hn] at hlt
   rw [newLoc_old hlt]
   exact hk.hid _ _ h' hl'
 rotate_left
 ·rw [Hp.get_push, hn] at h'
  by_cases e : b' = H.n
  ·subst e
   rw [if_pos rfl] at h'
   injection h' with h'
   subst h'
   unfold BlkRel
   rw [newLoc_new]
   refine ⟨c, te, fr, hh, hz, by simp only; omega, fun i h => ?_, fun _ => hro rfl⟩
   obtain ⟨v, hv, hr⟩ := hc (o + i) (by omega)
   refine ⟨v, ?_, ?_⟩
   ·simp only
    rw [show (m b).sh + o + i = (m b).sh + (o + i) by omega]
    exact hv
   ·rw [hcs i h]
    exact hr.mono (newLoc_ext _ _ _) (by simp)
  ·rw [if_neg e] at h'
   have hlt := Hp.get_lt h'
   rw [hn] at hlt
   exact (hk.rel b' k' h').mono (by rw [hn]; exact newLoc_ext _ _ _) (by simp) (by rw [hn]; exact hlt) (fun _ => rfl)
 ·have dead : ∀ b' k', (H.set b .dead).get b' = some k' → k'.live = true → b' ≠ b ∧ H.get b' = some k' := by
   intro b' k' h' hl'
   by_cases e : b' = b
   ·subst e
    rw [Hp.get_set_same H _ hb] at h'
    injection h' with h'
    subst h'
    cases hl'
   ·rw [Hp.get_set_other H _ e] at h'
    exact ⟨e, h'⟩
  have ol : k1.live = true := by cases k1 <;> simp_all [Blk.owned, Blk.live]
  rw [Hp.get_push, hn] at h1 h2
  by_cases e1 : b1 = H.n
  ·rw [if_neg (by omega)] at h2
   obtain ⟨hnb, hg2⟩ := dead _ _ h2 hl2
   subst e1
   rw [newLoc_new, newLoc_old (Hp.get_lt hg2)]
   exact hi.excl b b2 _ k2 (Ne.symm hnb) hg hg2 rfl hl2
  ·rw [if_neg e1] at h1
   obtain ⟨hnb1, hg1⟩ := dead _ _ h1 ol
   by_cases e2 : b2 = H.n
   ·subst e2
    rw [newLoc_new, newLoc_old (Hp.get_lt hg1)]
    exact hi.excl b1 b k1 _ hnb1 hg1 hg ho1 rfl
   ·rw [if_neg e2] at h2
    obtain ⟨hnb2, hg2⟩ := dead _ _ h2 hl2
    rw [newLoc_old (Hp.get_lt hg1), newLoc_old (Hp.get_lt hg2)]
    exact hi.excl b1 b2 k1 k2 hne hg1 hg2 ho1 hl2
end

theorem grow_le (need : Nat) : ∀ (r c : Nat), c ≤ need → Builtin.growBy need r c ≤ 2 * need + 1000 := by
 intro r
 induction r with
 | zero => intro c h; simp [Builtin.growBy]; omega
 | succ r ih =>
  intro c h
  simp only [Builtin.growBy]
  split
  ·omega
  ·by_cases h2 : c + (c + 768) / 4 ≤ need
   ·exact ih _ h2
   ·cases r with
    | zero => simp [Builtin.growBy]; omega
    | succ r => simp only [Builtin.growBy]; rw [if_pos (by omega)]; omega
theorem nextcap_le {need old : Nat} (h : old < need) : Builtin.nextslicecap need old ≤ 2 * need + 1000 := by
 unfold Builtin.nextslicecap
 split
 ·omega
 ·split
  ·omega
  ·exact grow_le _ _ _ (by omega)

theorem app_mono {H : Hp} {es n : Nat} {s s' : Sl} {vs : List AV} {H1 : Hp} (h : H.app es s vs n = some (s', H1)) : H.n ≤ H1.n := by
 have sts : ∀ (vs : List AV) (H H1 : Hp) (o b : Nat), H.sts b o vs = some H1 → H.n ≤ H1.n := by
  intro vs
  induction vs with
  | nil => intro H H1 o b h; simp [Hp.sts] at h; subst h; exact Nat.le_refl _
  | cons v vs ih =>
   intro H H1 o b h
   simp only [Hp.sts] at h
   cases h1 : H.st b o v with
   | none => simp [h1] at h
   | some H2 =>
    simp only [h1, Option.bind_some] at h
    refine Nat.le_trans ?_ (ih H2 H1 _ _ h)
    unfold Hp.st at h1
    split at h1
    ·split at h1
     ·injection h1 with h1; subst h1; simp
     ·cases h1
    ·cases h1
 unfold Hp.app at h
 split at h
 case isFalse => cases h
 split at h
 ·split at h
  ·injection h with h; injection h with _ h; subst h; exact Nat.le_refl _
  ·simp only [Option.map_eq_some_iff] at h
   obtain ⟨H2, h1, h2⟩ := h
   injection h2 with _ h2
   subst h2
   exact sts _ _ _ _ _ h1
 ·simp only [Option.bind_eq_some_iff] at h
  obtain ⟨old, h1, h⟩ := h
  split at h
  ·injection h with h; injection h with _ h; subst h; simp
  ·split at h
   ·split at h
    ·injection h with h; injection h with _ h; subst h; simp
    ·cases h
   ·cases h

theorem firstCells_run {P : Program} {B : Kp} {w0 w : World} {m : Nat → Loc} {H : Hp} (hi : Inv B w0 m H w) {s : Sl} {v : Value} {es : Nat} {vs : List AV} (h : RV m H.n (.sl s) v)
  (hl : H.lds s.b s.o (s.len * es) = some vs) : ∃ us, (Builtin.firstCells es s.len v).run P w = .ok us w ∧ RVs m H.n vs us.toList := by
 rcases h.sl_inv with ⟨rfl, e⟩ | ⟨a, _, _, h0, _, e⟩ | ⟨cap', _, _, _, _, _, _, e⟩
 ·simp [Hp.lds] at hl
  subst hl
  exact ⟨#[], by simp [e, Builtin.firstCells], .nil⟩
 ·rw [h0, Nat.zero_mul] at hl
  simp [Hp.lds] at hl
  subst hl
  exact ⟨#[], by simp [e, h0, Builtin.firstCells, loadCells, loadCellsFrom], .nil⟩
 ·obtain ⟨us, hlen, hc, hv⟩ := hi.lds P hl
  refine ⟨us.toArray, ?_, by simpa using hv⟩
  have := loadCells_run (w := w) P hc
  rw [hlen] at this
  simp [e, Builtin.firstCells, this]

section
variable {P : Program} {F : Fr} {H : Hp} {d : Option Tmp} {ty : TypeId} {pos : String} {af : Array Edge} {g : Option (Nat × Bool)}

theorem lenOf_run {w : World} {a : Option Addr} {n c : Nat} : (Builtin.lenOf (.slice a n c)).run P w = .ok n w := by simp [Builtin.lenOf]

theorem append_place {st e xt e2 : TypeId} {es by' : Nat} {z : Value} {ats : Array TypeId} (h0 : ats[0]? = some st) (h1 : ats[1]? = some xt) (hu : P.underlying st = some (.slice e))
  (hxu : P.underlying xt = some (.slice e2)) (ht : TyIs P e es by' z) {w w' : World} {sa xa : Option Addr} {sl sc n xc : Nat} {us : Array Value} (hle : sl + n ≤ sc)
  (hf : (Builtin.firstCells es n (.slice xa n xc)).run P w = .ok us w)
  (hst : (match sa with | some a => storeCells (a.add (sl * es)) us.toList | none => Pure.pure () : Sem Unit).run P w = .ok () w') :
  (Builtin.append_ ats ty #[.slice sa sl sc, .slice xa n xc]).run P w = .ok (.slice sa (sl + n) sc) w' := by
 unfold Builtin.append_
 simp only [h0, h1, Sem.run_bind, run_und hu, run_size ht, run_und hxu, Result.andThen_ok, Sem.run_pure, List.getElem?_toArray, List.getElem?_cons_zero, List.getElem?_cons_succ]
 simp only [Bool.false_eq_true, if_false, Sem.run_bind, lenOf_run, Result.andThen_ok]
 rw [if_pos hle]
 simp only [Bool.not_false, if_true, Sem.run_bind, hf, Result.andThen_ok]
 cases sa with
 | none => simp at hst; subst hst; simp
 | some a => simp only [Sem.run_bind]; rw [hst]; simp

theorem append_new {st e xt e2 : TypeId} {es by' : Nat} {z : Value} {ats : Array TypeId} (h0 : ats[0]? = some st) (h1 : ats[1]? = some xt) (hu : P.underlying st = some (.slice e))
  (hxu : P.underlying xt = some (.slice e2)) (ht : TyIs P e es by' z) (hby : 1 ≤ by') {w : World} {sa xa : Option Addr} {sl sc n xc : Nat} {us vs : Array Value} (hle : ¬ sl + n ≤ sc)
  (hcap : Builtin.nextslicecap (sl + n) sc * by' ≤ 2 ^ 48)
  (ho : (Builtin.firstCells es sl (.slice sa sl sc)).run P w.drew = .ok us w.drew)
  (hf : (Builtin.firstCells es n (.slice xa n xc)).run P w.drew = .ok vs w.drew) :
  ∃ nc, sl + n ≤ nc ∧ (Builtin.append_ ats ty #[.slice sa sl sc, .slice xa n xc]).run P w =
   .ok (.slice (some ⟨w.heap.size, 0, none⟩) (sl + n) nc) (w.drew.alloc (.cells (us ++ vs ++ Builtin.zeroCells z.cells (nc - (sl + n))) e)) := by
 refine ⟨(Question.appendCap (sl + n) sc e).cut (w.tape w.drawn (.appendCap (sl + n) sc e)), by simp [Question.cut], ?_⟩
 obtain ⟨i, hinfo, hi1, hi2, hi3⟩ := run_info (w := w) ht
 obtain ⟨i', hinfo', _, hi2', _⟩ := run_info (w := w.drew) ht
 have hb0 : ¬ by' = 0 := by omega
 unfold Builtin.append_
 simp only [h0, h1, Sem.run_bind, run_und hu, run_size ht, run_und hxu, Result.andThen_ok, Sem.run_pure, List.getElem?_toArray, List.getElem?_cons_zero, List.getElem?_cons_succ]
 simp only [Bool.false_eq_true, if_false, Sem.run_bind, lenOf_run, Result.andThen_ok]
 rw [if_neg hle]
 simp only [Sem.run_bind, hinfo, Result.andThen_ok, hi2]
 rw [if_neg (by simp; omega)]
 simp only [Sem.run_bind, hinfo, Result.andThen_ok, hi2]
 rw [if_neg (by simpa using hcap)]
 simp only [Sem.run_bind, run_choose, Question.forced, Bool.false_eq_true, if_false, Result.andThen_ok, World.drew_eq, hinfo', run_askRoom, ho, Bool.not_false, if_true, hf, run_zero ht, Sem.run_pure]
 simp only [Go.newRow, Sem.run_bind, run_newObj, Result.andThen_ok, Sem.run_pure]
 rfl

theorem zeroCells_size (z : Array Value) (n : Nat) : (Builtin.zeroCells z n).size = n * z.size := by simp [Builtin.zeroCells]

end
end Go.Lt

namespace Go.Lt
open Go.RowKit
section
variable {P : Program} {F : Fr} {H : Hp} {d : Option Tmp} {ty : TypeId} {pos : String} {af : Array Edge} {g : Option (Nat × Bool)}

theorem app_run {st e xt e2 : TypeId} {es by' : Nat} {z : Value} {ats : Array TypeId} (h0 : ats[0]? = some st) (h1 : ats[1]? = some xt) (hu : P.underlying st = some (.slice e))
  (hxu : P.underlying xt = some (.slice e2)) (ht : TyIs P e es by' z) (hes : 0 < es) (hzl : z.cells.size = es) (hby : 1 ≤ by' ∧ by' ≤ 4096)
  {B : Kp} {w0 w : World} {m : Nat → Loc} (hi : Inv B w0 m H w) {s x s' : Sl} {sv xv : Value} {vs : List AV} {H1 : Hp} (hs : RV m H.n (.sl s) sv) (hx : RV m H.n (.sl x) xv)
  (hl : H.lds x.b x.o (x.len * es) = some vs) (ho : vs.all AV.one = true) (ha : H.app es s vs x.len = some (s', H1)) :
  ∃ v' w' m', (Builtin.append_ ats ty #[sv, xv]).run P w = .ok v' w' ∧ Ext H.n m m' ∧ RV m' H1.n (.sl s') v' ∧ Inv B w0 m' H1 w' := by
 obtain ⟨xa, xc, ex⟩ := hx.sl_len
 have ldslen : ∀ (b n o : Nat) (vs : List AV), H.lds b o n = some vs → vs.length = n := by
  intro b n
  induction n with
  | zero => intro o vs h; simp [Hp.lds] at h; subst h; rfl
  | succ n ih =>
   intro o vs h
   obtain ⟨y, ys, rfl, _, h2⟩ := lds_cons_inv h
   simp [ih _ _ h2]
 have hvl := ldslen _ _ _ _ hl
 have hnz : ∀ k, (Builtin.zeroCells z.cells k).size = k * es := fun k => by rw [zeroCells_size, hzl]
 obtain ⟨us, hfx, hrx⟩ := firstCells_run (P := P) hi hx hl
 rw [ex] at hfx
 -- a new row
 have new : ∀ (sa : Option Addr) (sc : Nat) (old : List AV) (H0 : Hp), sv = .slice sa s.len sc → ¬ s.len + x.len ≤ sc → s.len + x.len ≤ 4294967296 → H.lds s.b s.o (s.len * es) = some old →
   Inv B w0 m H0 w → H0.n = H.n →
   ∃ v' w' m', (Builtin.append_ ats ty #[sv, xv]).run P w = .ok v' w' ∧ Ext H.n m m' ∧ RV m' (H.n + 1) (.sl ⟨false, H.n, 0, s.len + x.len, s.len + x.len, es⟩) v' ∧ Inv B w0 m' (H0.push (.cells (old ++ vs) false)) w' := by
  intro sa sc old H0 e1 hle hsm hold hi0 hn0
  obtain ⟨us', hfx', hrx'⟩ := firstCells_run (P := P) hi.drew hx hl
  obtain ⟨os, hfo, hro⟩ := firstCells_run (P := P) hi.drew hs hold
  rw [ex] at hfx'
  rw [e1] at hfo
  obtain ⟨nc, hnc, hrun⟩ := append_new (ty := ty) h0 h1 hu hxu ht hby.1 (w := w) hle (by
   have h2 : Builtin.nextslicecap (s.len + x.len) sc ≤ 2 * 4294967296 + 1000 := Nat.le_trans (nextcap_le (by omega)) (by omega)
   exact Nat.le_trans (Nat.mul_le_mul h2 hby.2) (by omega)) hfo hfx'
  rw [← e1, ← ex] at hrun
  have hol := ldslen _ _ _ _ hold
  have hos : os.size = s.len * es := by have := hro.1; simp at this; omega
  have hus : us'.size = x.len * es := by have := hrx'.1; simp at this; omega
  have hrel : RVs m H0.n ((old ++ vs) ++ List.replicate ((nc - (s.len + x.len)) * es) .undef) (os ++ us' ++ Builtin.zeroCells z.cells (nc - (s.len + x.len))).toList := by
   rw [hn0]
   simp only [Array.toList_append]
   refine (hro.append hrx').append ⟨by simp [hnz], fun i h1 h2 => ?_⟩
   simp only [List.getElem_replicate]
   exact .undef _
  have hinv := hi0.drew.pushCells e hrel (old ++ vs) (by simp)
  have hsz : (os ++ us' ++ Builtin.zeroCells z.cells (nc - (s.len + x.len))).size = nc * es := by
   simp only [Array.size_append, hos, hus, hnz]
   rw [← Nat.add_mul, ← Nat.add_mul]
   congr 1
   omega
  have hmm : newLoc H0 m ⟨w.drew.heap.size, 0, (os ++ us' ++ Builtin.zeroCells z.cells (nc - (s.len + x.len))).size⟩ = newLoc H m ⟨w.heap.size, 0, nc * es⟩ := by
   rw [hsz]; unfold newLoc; rw [hn0]; rfl
  rw [hmm] at hinv
  refine ⟨_, _, newLoc H m ⟨w.heap.size, 0, nc * es⟩, hrun, newLoc_ext _ _ _, ?_, hinv⟩
  have := RV.sl_mk (m := newLoc H m ⟨w.heap.size, 0, nc * es⟩) (n := H.n + 1) (s := ⟨false, H.n, 0, s.len + x.len, s.len + x.len, es⟩) (cap' := nc) rfl (by simp) (Nat.le_refl _) hnc
   (fun h => by simp only at h; omega) (fun p hp => by simp only at hp; rw [newLoc_new]; simp only; rw [← hp]; omega)
  rw [newLoc_new] at this
  exact this
 unfold Hp.app at ha
 split at ha
 case isFalse => cases ha
 rename_i hsm
 split at ha
 ·-- there is room
  rename_i hcap
  rcases hs.sl_inv with ⟨rfl, e1⟩ | ⟨a, hnil, hb, hl0, hc0, e1⟩ | ⟨cap', hnil, hb, hlc, hcc, h00, hp, e1⟩
  ·simp at ha
   obtain ⟨rfl, rfl⟩ := ha
   have hx0 : x.len = 0 := by simpa using hcap
   refine ⟨.slice none 0 0, w, m, ?_, .refl _ _, e1 ▸ hs, hi⟩
   rw [e1, ex]
   have := append_place (ty := ty) (w' := w) (sa := none) (sl := 0) (sc := 0) h0 h1 hu hxu ht (by omega) hfx (by simp)
   rw [this, hx0]
  ·rw [hnil] at ha
   have hx0 : x.len = 0 := by omega
   have hv0 : vs = [] := by apply List.eq_nil_of_length_eq_zero; rw [hvl, hx0]; simp
   subst hv0
   simp [Hp.sts] at ha
   obtain ⟨rfl, rfl⟩ := ha
   have hus : us = #[] := by have := hrx.1; simpa using this.symm
   subst hus
   refine ⟨.slice (some a) 0 0, w, m, ?_, .refl _ _, ?_, hi⟩
   ·rw [e1, ex]
    have := append_place (ty := ty) (w' := w) (sa := some a) (sl := 0) (sc := 0) h0 h1 hu hxu ht (by omega) hfx (by simp [storeCells])
    rw [this, hx0]
   ·rw [hl0, hx0, hc0]
    exact .sle _ _ _ trivial _
  ·rw [hnil] at ha
   simp only [Bool.false_eq_true, if_false, Option.map_eq_some_iff] at ha
   obtain ⟨H2, h2, h3⟩ := ha
   injection h3 with h3 h4
   subst h4; subst h3
   obtain ⟨w', hst, hi', hn'⟩ := hi.sts (o := s.o + s.len * es) (i := 0) P hi h2 hrx (by simpa using ho)
   refine ⟨.slice (some ⟨(m s.b).blk, (m s.b).sh + s.o, none⟩) (s.len + x.len) cap', w', m, ?_, .refl _ _, ?_, hi'⟩
   ·rw [e1, ex]
    refine append_place (ty := ty) (w' := w') h0 h1 hu hxu ht (by omega) hfx ?_
    simp only [addr_add]
    rw [show (m s.b).sh + s.o + s.len * es = (m s.b).sh + (s.o + s.len * es) by omega]
    exact hst
   ·rw [hn']
    refine RV.sl_mk (s := ⟨false, s.b, s.o, s.len + x.len, s.cap, s.opn⟩) rfl hb hcap hcc (fun h => h00 h) (fun p hp' => hp p hp')
 ·-- there may be none
  rename_i hcap
  simp only [Option.bind_eq_some_iff] at ha
  obtain ⟨old, hold, ha⟩ := ha
  split at ha
  ·rename_i hex
   injection ha with ha
   injection ha with h3 h4
   subst h3; subst h4
   obtain ⟨sa, sc, e1⟩ := hs.sl_len
   have hsc : ¬ s.len + x.len ≤ sc := by
    rcases hs.sl_inv with ⟨rfl, e2⟩ | ⟨a, _, _, _, hc0, e2⟩ | ⟨cap', _, _, _, _, h00, _, e2⟩ <;> rw [e1] at e2 <;> injection e2 with _ _ e3
    ·rw [e3]; exact hcap
    ·rw [e3]; omega
    ·rw [e3, h00 hex]; exact hcap
   exact new sa sc old H e1 hsc hsm hold hi rfl
  ·split at ha
   case isFalse => cases ha
   rename_i hopn0 hopn
   split at ha
   case h_2 => cases ha
   rename_i cs hg
   injection ha with ha
   injection ha with h3 h4
   subst h3; subst h4
   obtain ⟨sa, sc, e1⟩ := hs.sl_len
   by_cases hsc : s.len + x.len ≤ sc
   ·-- in its place, behind what was known
    rcases hs.sl_inv with ⟨rfl, e2⟩ | ⟨a, _, _, h00, hc0, e2⟩ | ⟨cap', hnil, hb, hlc, hcc, _, hp, e2⟩
    ·simp at hopn0
    ·rw [e1] at e2
     injection e2 with _ _ e3
     exact absurd (e3 ▸ hsc) (by omega)
    ·rw [e1] at e2
     injection e2 with e3 _ e4
     subst e3; subst e4
     obtain ⟨p, hpe⟩ : ∃ p, es = p + 1 := ⟨es - 1, by omega⟩
     have hz := hp p (by omega)
     rw [← hpe] at hz
     have hneed : (s.len + x.len) * es ≤ sc * es := Nat.mul_le_mul_right _ hsc
     have hexp : (s.len + x.len) * es = s.len * es + x.len * es := Nat.add_mul _ _ _
     -- all places are known
     have ext : ∃ cs2 : List AV, Inv B w0 m (H.set s.b (.cells cs2 false)) w ∧ s.o + (s.len + x.len) * es ≤ cs2.length ∧ (∀ i, i < cs.length → cs2[i]? = cs[i]?) := by
      by_cases hk : s.o + (s.len + x.len) * es ≤ cs.length
      ·refine ⟨cs, ?_, hk, fun _ _ => rfl⟩
       exact hi.setBlk hg (fun _ => rfl) (fun _ => rfl) (hi.rel _ _ hg)
      ·refine ⟨cs ++ List.replicate (s.o + (s.len + x.len) * es - cs.length) .undef, hi.extend hg (by omega), by simp; omega, fun i h => ?_⟩
       rw [List.getElem?_append_left h]
     obtain ⟨cs2, hi2, hlen2, hsame⟩ := ext
     have hg2 : (H.set s.b (.cells cs2 false)).get s.b = some (.cells cs2 false) := Hp.get_set_same H _ (Hp.get_lt hg)
     -- the stores
     have sts_ok : ∀ (ys : List AV) (o : Nat) (cs2 : List AV) (H2 : Hp), H2.get s.b = some (.cells cs2 false) → o + ys.length ≤ cs2.length →
       ∃ H3 cs3, H2.sts s.b o ys = some H3 ∧ H3.get s.b = some (.cells cs3 false) ∧ cs3.length = cs2.length ∧ (∀ i, i < o → cs3[i]? = cs2[i]?) ∧ (∀ i, i < ys.length → cs3[o + i]? = ys[i]?) ∧
        (∀ b, b ≠ s.b → H3.get b = H2.get b) ∧ H3.n = H2.n ∧ H3.set s.b .dead = H2.set s.b .dead := by
      intro ys
      induction ys with
      | nil => intro o cs2 H2 hg hle; exact ⟨H2, cs2, rfl, hg, rfl, fun _ _ => rfl, fun i h => by simp at h, fun _ _ => rfl, rfl, rfl⟩
      | cons y ys ih =>
       intro o cs2 H2 hg hle
       simp only [List.length_cons] at hle
       have hst : H2.st s.b o y = some (H2.set s.b (.cells (cs2.set o y) false)) := by
        unfold Hp.st; rw [hg]; simp only; rw [if_pos (by omega)]
       obtain ⟨H3, cs3, h3, hg3, hl3, hlo, hhi, hoth, hn3, hd3⟩ := ih (o + 1) (cs2.set o y) (H2.set s.b (.cells (cs2.set o y) false)) (Hp.get_set_same H2 _ (Hp.get_lt hg)) (by simp; omega)
       refine ⟨H3, cs3, by simp only [Hp.sts, hst, Option.bind_some, h3], hg3, by simpa using hl3, fun i h => ?_, fun i h => ?_, fun b h => ?_, by simpa using hn3, ?_⟩
       ·rw [hlo i (by omega), List.getElem?_set_ne (by omega)]
       ·cases i with
        | zero =>
         have := hlo o (by omega)
         simp only [Nat.add_zero]
         rw [this, List.getElem?_set_self (by omega)]
         rfl
        | succ i =>
         have := hhi i (by simpa using h)
         rw [show o + (i + 1) = o + 1 + i by omega, this]
         rfl
       ·rw [hoth b h, Hp.get_set_other H2 _ h]
       ·rw [hd3]
        unfold Hp.set
        by_cases hb : s.b < H2.bs.length
        ·simp [hb]
        ·simp [hb]
     obtain ⟨H3, cs3, h3, hg3, hl3, hlo, hhi, hoth, hn3, hd3⟩ := sts_ok vs (s.o + s.len * es) cs2 _ hg2 (by omega)
     obtain ⟨w', hst, hi3, hn3'⟩ := hi2.sts (o := s.o + s.len * es) (i := 0) P hi2 h3 (by simpa using hrx) (by simpa using ho)
     have hol := ldslen _ _ _ _ hold
     -- what was there
     have hold' : ∀ i (h : i < old.length), cs[s.o + i]? = some old[i] := by
      have : ∀ (n o : Nat) (l : List AV), H.lds s.b o n = some l → ∀ i (h : i < l.length), cs[o + i]? = some l[i] := by
       intro n
       induction n with
       | zero => intro o l h i hi; simp [Hp.lds] at h; subst h; simp at hi
       | succ n ih =>
        intro o l h i hi
        obtain ⟨y, ys, rfl, h1, h2⟩ := lds_cons_inv h
        cases i with
        | zero => simpa [Hp.ld, hg] using h1
        | succ i =>
         have := ih (o + 1) ys h2 i (by simpa using hi)
         rw [show o + (i + 1) = o + 1 + i by omega, this]
         rfl
      exact this _ _ _ hold
     have hcs : ∀ i (h : i < (old ++ vs).length), cs3[s.o + i]? = some (old ++ vs)[i] := by
      intro i h
      by_cases hlt : i < old.length
      ·have h1 := hold' i hlt
       have h2 : s.o + i < cs.length := (List.getElem?_eq_some_iff.1 h1).1
       rw [hlo _ (by omega), hsame _ h2, h1, List.getElem_append_left hlt]
      ·have h2 : i < old.length + vs.length := by simpa using h
       have := hhi (i - old.length) (by omega)
       rw [show s.o + s.len * es + (i - old.length) = s.o + i by omega] at this
       rw [this, List.getElem_append_right (by omega)]
       rw [List.getElem?_eq_getElem]
     have hren := hi3.rename (o := s.o) (cs' := old ++ vs) hg3 (by simp; omega) (fun i h => by
      have := hcs i h
      exact (Option.some.inj (by rw [← this, List.getElem?_eq_getElem])).symm)
     have hn30 : H3.n = H.n := by rw [hn3]; simp
     have hd0 : H3.set s.b .dead = H.set s.b .dead := by
      rw [hd3]
      unfold Hp.set
      by_cases hb : s.b < H.bs.length
      ·simp [hb]
      ·simp [hb]
     rw [hd0] at hren
     have hmm : newLoc H3 m ⟨(m s.b).blk, (m s.b).sh + s.o, (m s.b).sz⟩ = newLoc H m ⟨(m s.b).blk, (m s.b).sh + s.o, (m s.b).sz⟩ := by unfold newLoc; rw [hn30]
     rw [hmm] at hren
     refine ⟨.slice (some ⟨(m s.b).blk, (m s.b).sh + s.o, none⟩) (s.len + x.len) sc, w', _, ?_, newLoc_ext _ _ _, ?_, hren⟩
     ·rw [e1, ex]
      refine append_place (ty := ty) (w' := w') h0 h1 hu hxu ht hsc hfx ?_
      simp only [addr_add]
      rw [show (m s.b).sh + s.o + s.len * es = (m s.b).sh + (s.o + s.len * es) by omega]
      exact hst
     ·have := RV.sl_mk (m := newLoc H m ⟨(m s.b).blk, (m s.b).sh + s.o, (m s.b).sz⟩) (n := ((H.set s.b .dead).push (.cells (old ++ vs) false)).n) (s := ⟨false, H.n, 0, s.len + x.len, s.len + x.len, es⟩) (cap' := sc) rfl
       (by simp) (Nat.le_refl _) hsc (fun h => by simp only at h; omega) (fun q hq => by simp only at hq; rw [newLoc_new]; simp only; rw [← hq]; omega)
      rw [newLoc_new] at this
      exact this
   ·obtain ⟨v', w', m', hr, he, hrv, hinv⟩ := new sa sc old (H.set s.b .dead) e1 hsc hsm hold (hi.kill hg) (by simp)
    exact ⟨v', w', m', hr, he, by simpa using hrv, hinv⟩

theorem s_append {st e xt e2 : TypeId} {es by' : Nat} {z : Value} {ats : Array TypeId} {x y : Operand} {s xs s' : Sl} {vs : List AV} {H1 : Hp} (h0 : ats[0]? = some st) (h1 : ats[1]? = some xt)
  (hu : P.underlying st = some (.slice e)) (hxu : P.underlying xt = some (.slice e2)) (ht : TyIs P e es by' z) (hes : 0 < es) (hzl : z.cells.size = es) (hby : 1 ≤ by' ∧ by' ≤ 4096)
  (hs : aeval F x = .sl s) (hx : aeval F y = .sl xs) (hl : H.lds xs.b xs.o (xs.len * es) = some vs) (ho : vs.all AV.one = true) (ha : H.app es s vs xs.len = some (s', H1)) :
  Step1 P ⟨d, .call ⟨.builtin .append, #[x, y], ats⟩, ty, pos, af, g⟩ F H (.sl s') H1 :=
 .of_run (app_mono ha) fun B w0 m a w hop hi => by
  have r1 := hop x (by simp [Op.operands, Call.operands]); rw [hs] at r1
  have r2 := hop y (by simp [Op.operands, Call.operands]); rw [hx] at r2
  obtain ⟨v', w', m', hr, he, hv, hi'⟩ := app_run (ty := ty) h0 h1 hu hxu ht hes hzl hby hi r1 r2 hl ho ha
  refine ⟨v', w', m', ?_, he, hv, hi'⟩
  simp [execOp, resolve, invoke, builtin, hr]
end
end Go.Lt

namespace Go.Lt
open Go.RowKit

/-! ### keys -/
def AV.keq1 : AV → AV → Bool
 | .int _ a, .int _ b => a == b
 | .str a, .str b => a == b
 | _, _ => false
def AV.keqs : List AV → List AV → Bool
 | [], [] => true
 | x :: xs, y :: ys => x.keq1 y && AV.keqs xs ys
 | _, _ => false
def KT.is (P : Program) : KT → TypeId → Prop
 | .int k, t => P.underlying t = some (.int k)
 | .str, t => P.underlying t = some .string
 | .arr n k, t => ∃ e b z, P.underlying t = some (.array n e) ∧ P.underlying e = some (.int k) ∧ TyIs P e 1 b z

theorem isInt_inv {k : IntKind} {x : AV} (h : x.isInt k = true) : ∃ i, x = .int k i := by
 cases x <;> simp [AV.isInt] at h
 subst h; exact ⟨_, rfl⟩

section
variable {P : Program} {w : World} {m : Nat → Loc} {n : Nat}

theorem part_int {e : TypeId} {k : IntKind} {b : Nat} {z : Value} (he : P.underlying e = some (.int k)) {cs : Array Value} {i : Nat} {v : Value} (h : cs[i]? = some v) :
  (part e cs i).run P w = .ok v w := by simp [part, run_isAgg he, aggD, h]

theorem ints_conc {k : IntKind} {xs : List AV} {cs : Array Value} (ha : xs.all (AV.isInt k) = true) (hr : RVs m n xs cs.toList) (i : Nat) (h : i < xs.length) :
  ∃ a, xs[i] = .int k a ∧ cs[i]? = some (.int k a) := by
 obtain ⟨a, e⟩ := isInt_inv (List.all_eq_true.1 ha _ (List.getElem_mem h))
 have hl : xs.length = cs.size := by simpa using hr.1
 have := hr.2 i h (by simp; omega)
 rw [e, Array.getElem_toList] at this
 exact ⟨a, e, by rw [Array.getElem?_eq_getElem (by omega), this.int_inv]⟩

theorem equalIn_int {t : TypeId} {k : IntKind} (ht : P.underlying t = some (.int k)) (d : Nat) (a b : Int) :
  (Op.equalIn (d + 1) t (.int k a) (.int k b)).run P w = .ok (a == b) w := by
 rw [Op.equalIn]; simp [run_und ht]
theorem keqs_take {k : IntKind} : ∀ (xs ys : List AV), xs.length = ys.length → xs.all (AV.isInt k) = true → ys.all (AV.isInt k) = true →
  AV.keqs xs ys = (List.range xs.length).all fun i => (xs.getD i .undef).keq1 (ys.getD i .undef) := by
 intro xs
 induction xs with
 | nil => intro ys h _ _; cases ys <;> simp_all [AV.keqs]
 | cons x xs ih =>
  intro ys h hx hy
  cases ys with
  | nil => simp at h
  | cons y ys =>
   simp only [List.all_cons, Bool.and_eq_true] at hx hy
   simp only [AV.keqs, List.length_cons, List.range_succ_eq_map, List.all_cons, List.getD_cons_zero, List.all_map]
   rw [ih ys (by simpa using h) hx.2 hy.2]
   congr 1

theorem equalIn_arr {t e : TypeId} {len b : Nat} {k : IntKind} {z : Value} (hu : P.underlying t = some (.array len e)) (he : P.underlying e = some (.int k)) (hs : TyIs P e 1 b z) (d : Nat)
  {xs ys : List AV} {cs ds : Array Value} (hlx : xs.length = len) (hly : ys.length = len) (hax : xs.all (AV.isInt k) = true) (hay : ys.all (AV.isInt k) = true)
  (hrx : RVs m n xs cs.toList) (hry : RVs m n ys ds.toList) : (Op.equalIn (d + 2) t (.agg cs) (.agg ds)).run P w = .ok (AV.keqs xs ys) w := by
 rw [keqs_take xs ys (by omega) hax hay, hlx]
 rw [Op.equalIn]
 simp only [Sem.run_bind, run_und hu, Result.andThen_ok, run_size hs, Nat.mul_one]
 have key : ∀ (l : List Nat), (∀ i ∈ l, i < len) → ∀ (K : Option Bool × Unit → Sem Bool), (∀ r, r.1 = none → (K r).run P w = .ok true w) → (∀ r c, r.1 = some c → (K r).run P w = .ok c w) →
   ((forIn l ((none, ()) : Option Bool × Unit) (fun i _ => do
    if !(← Op.equalIn (d + 1) e (← part e cs i) (← part e ds i)) then Pure.pure (ForInStep.done (some false, ())) else Pure.pure (ForInStep.yield (none, ()))) >>= K : Sem Bool)).run P w
    = .ok (l.all fun i => (xs.getD i .undef).keq1 (ys.getD i .undef)) w := by
  intro l
  induction l with
  | nil => intro _ K h0 _; simp [h0]
  | cons i l ih =>
   intro hl K h0 h1
   have hi := hl i (by simp)
   obtain ⟨a, ea, ha⟩ := ints_conc hax hrx i (by omega)
   obtain ⟨c, ec, hc⟩ := ints_conc hay hry i (by omega)
   have e1 : xs.getD i .undef = .int k a := by rw [← ea]; simp [show i < xs.length by omega]
   have e2 : ys.getD i .undef = .int k c := by rw [← ec]; simp [show i < ys.length by omega]
   simp only [List.forIn_cons, bind_assoc, Sem.run_bind, part_int (b := b) (z := z) he ha, part_int (b := b) (z := z) he hc, Result.andThen_ok, equalIn_int he, List.all_cons, e1, e2, AV.keq1]
   cases hac : (a == c) with
   | false =>
    simp only [Bool.not_false, if_true, Sem.run_pure, Result.andThen_ok, Bool.false_and]
    exact h1 _ _ rfl
   | true =>
    simp only [Bool.not_true, Bool.false_eq_true, if_false, Sem.run_pure, Result.andThen_ok, Bool.true_and]
    have := ih (fun j hj => hl j (by simp [hj])) K h0 h1
    rw [Sem.run_bind] at this
    exact this
 have := key (List.range' 0 len) (fun i hi => by simp at hi; omega) (fun r => match r.1 with | some c => Pure.pure c | none => Pure.pure true) (fun r h => by simp [h]) (fun r c h => by simp [h])
 rw [show List.range len = List.range' 0 len by rw [List.range_eq_range']]
 rw [← this]
 simp only [Std.Legacy.Range.forIn_eq_forIn_range', Std.Legacy.Range.size, Nat.sub_zero, Nat.add_sub_cancel, Nat.div_one, Sem.run_bind]
 congr 1
 funext a w'
 cases a.1 <;> rfl

end
end Go.Lt

namespace Go.Lt
open Go.RowKit

section
variable {P : Program} {w : World} {m : Nat → Loc} {n : Nat}

def EntsRel (m : Nat → Loc) (n : Nat) (kt : KT) (es : List (AV × AV)) (l : List MapEntry) : Prop :=
 l.length = es.length ∧ (∀ e, e ∈ es → kt.ok e.1 = true) ∧ ∀ i (h1 : i < es.length) (h2 : i < l.length), RV m n es[i].1 l[i].key ∧ RV m n es[i].2 l[i].val
theorem EntsRel.tail {kt : KT} {e : AV × AV} {es : List (AV × AV)} {c : MapEntry} {l : List MapEntry} (h : EntsRel m n kt (e :: es) (c :: l)) :
  RV m n e.1 c.key ∧ RV m n e.2 c.val ∧ kt.ok e.1 = true ∧ EntsRel m n kt es l :=
 ⟨(h.2.2 0 (by simp) (by simp)).1, (h.2.2 0 (by simp) (by simp)).2, h.2.1 e (by simp), by simpa using h.1, fun e' h' => h.2.1 e' (by simp [h']), fun i h1 h2 => by
  have := h.2.2 (i + 1) (by simpa using h1) (by simpa using h2)
  simpa using this⟩

end

section
variable {P : Program} {F : Fr} {H : Hp} {d : Option Tmp} {ty : TypeId} {pos : String} {af : Array Edge} {g : Option (Nat × Bool)}

theorem Inv.ents {B : Kp} {w0 w : World} {m : Nat → Loc} (hi : Inv B w0 m H w) {b : Nat} {kt : KT} {es : List (AV × AV)} (hg : H.get b = some (.map kt es)) :
  ∃ ents clock, w.heap[(m b).blk]? = some (.map ents clock) ∧ ¬ B (m b).blk ∧ EntsRel m H.n kt es ents.toList := by
 obtain ⟨ents, clock, hh, hB, hs, hk, hp⟩ := hi.rel b _ hg
 exact ⟨ents, clock, hh, hB, by simpa using hs, hk, fun i h1 h2 => by
  have := hp i h1 (by simpa using h2)
  simpa using this⟩

end
end Go.Lt
