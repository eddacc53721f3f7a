/- THE LIBRARY OF THESE PROOFS, A PART: an abstract heap, and that the model's steps keep to it. Nothing is asked of the input. -/
import Derived.Test.YthmhdbmpeepmaaaLCore
import Derived.Laws.Sem
import Derived.Laws.Slices
set_option linter.unusedVariables false
set_option linter.unusedSimpArgs false
namespace Go.Lt
open Go.RowKit

/-! ### frames -/
abbrev Fr := List (Nat × AV)
def lookup : Fr → Nat → AV
  | [], _ => .undef
  | (d, v) :: r, t => bif Nat.beq d t then v else lookup r t
def putF (F : Fr) : Option Tmp → AV → Fr
  | some d, v => (d, v) :: F
  | none, _ => F

theorem lookup_cons (d : Nat) (v : AV) (F : Fr) (t : Nat) : lookup ((d, v) :: F) t = if d = t then v else lookup F t := by
  show (bif Nat.beq d t then v else lookup F t) = _
  by_cases h : d = t
  · subst h; simp
  · have e : Nat.beq d t = false := by
      cases hb : Nat.beq d t with
      | false => rfl
      | true => exact absurd (Nat.eq_of_beq_eq_true hb) h
    rw [if_neg h, e]; rfl

/-- a constant -/
def ofVal1 : Value → AV
  | .bool b => .bool b
  | .int k n => .int k n
  | .string s => .str s
  | .pointer none => .nilptr
  | .slice none 0 0 => .sl ⟨true, 0, 0, 0, 0, 0⟩
  | .map none => .nilmap
  | .nilFunc => .nilfn
  | .nilIface => .niliface
  | _ => .undef
def ofVal : Value → AV
  | .agg cs => .agg (cs.toList.map ofVal1)
  | .tuple cs => .tup (cs.toList.map ofVal1)
  | v => ofVal1 v
theorem RV.ofVal1 (m : Nat → Loc) (n : Nat) (v : Value) : RV m n (ofVal1 v) v := by
  unfold Lt.ofVal1
  split <;> first | constructor
theorem RV.ofVal (m : Nat → Loc) (n : Nat) (v : Value) : RV m n (ofVal v) v := by
  unfold Lt.ofVal
  split
  · refine .agg _ _ (by simp) fun i h1 h2 => ?_
    simp only [List.getElem_map, Array.getElem_toList]
    exact RV.ofVal1 _ _ _
  · refine .tup _ _ (by simp) fun i h1 h2 => ?_
    simp only [List.getElem_map, Array.getElem_toList]
    exact RV.ofVal1 _ _ _
  · exact RV.ofVal1 _ _ _

def aeval (F : Fr) : Operand → AV
  | .tmp t => lookup F t
  | .const v => ofVal v
  | .global g => .gptr g
  | .func f => .fn f [] []

def FrRel (m : Nat → Loc) (n : Nat) (F : Fr) (a : Act) : Prop := ∀ t, RV m n (lookup F t) (a.tmps.getD t undef)

theorem FrRel.eval {m : Nat → Loc} {n : Nat} {F : Fr} {a : Act} (h : FrRel m n F a) (x : Operand) : RV m n (aeval F x) (a.eval x) := by
  cases x with
  | tmp t => exact h t
  | const v => exact RV.ofVal _ _ _
  | global g => exact .gptr g
  | func f => exact .fn f [] [] #[] #[] rfl rfl (fun i h => absurd h (by simp)) (fun i h => absurd h (by simp))

theorem FrRel.mono {m m' : Nat → Loc} {n n' : Nat} {F : Fr} {a : Act} (h : FrRel m n F a) (he : Ext n m m') (hn : n ≤ n') : FrRel m' n' F a :=
  fun t => (h t).mono he hn

def dstOk (N : Nat) : Option Tmp → Bool
  | some d => Nat.blt d N
  | none => true

theorem FrRel.put {m : Nat → Loc} {n : Nat} {F : Fr} {a : Act} {d : Option Tmp} {v : AV} {v' : Value} (h : FrRel m n F a) (hv : RV m n v v')
    (hd : dstOk a.tmps.size d = true) : FrRel m n (putF F d v) (a.put d v') := by
  cases d with
  | none => exact h
  | some d =>
    have hd' : d < a.tmps.size := by
      have h2 : d + 1 ≤ a.tmps.size := by simpa [dstOk, Nat.blt] using hd
      exact h2
    intro t
    simp only [putF, Act.put]
    rw [lookup_cons]
    by_cases e : d = t
    · subst e
      rw [if_pos rfl]
      simpa [hd'] using hv
    · rw [if_neg e]
      have := h t
      simpa [Array.getElem?_setIfInBounds_ne e] using this

/-! ### one operation -/
def OpRuns (P : Program) (o : Oper) (a : Act) (w : World) (R : Value → World → Prop) : Prop :=
  ∀ (next : Act → World → Prop) (Q : Exit → Act → World → Prop), (∀ v' w', R v' w' → next (a.put o.dst v') w') → o.wp P a w next Q

structure Step1 (P : Program) (o : Oper) (F : Fr) (H : Hp) (v : AV) (H1 : Hp) : Prop where
  mono : H.n ≤ H1.n
  run : ∀ B w0 m (a : Act) w, (∀ x, x ∈ o.op.operands → RV m H.n (aeval F x) (a.eval x)) → Inv B w0 m H w →
    OpRuns P o a w fun v' w' => ∃ m', Ext H.n m m' ∧ RV m' H1.n v v' ∧ Inv B w0 m' H1 w'

/-- an operation whose run gives a value -/
theorem Step1.of_run {P : Program} {o : Oper} {F : Fr} {H H1 : Hp} {v : AV} (hm : H.n ≤ H1.n)
    (h : ∀ B w0 m (a : Act) w, (∀ x, x ∈ o.op.operands → RV m H.n (aeval F x) (a.eval x)) → Inv B w0 m H w →
      ∃ v' w' m', (execOp a.eval o).run P w = .ok (.value v') w' ∧ Ext H.n m m' ∧ RV m' H1.n v v' ∧ Inv B w0 m' H1 w') : Step1 P o F H v H1 :=
  ⟨hm, fun B w0 m a w hx hi next Q hn => by
    obtain ⟨v', w', m', hr, he, hv, hi'⟩ := h B w0 m a w hx hi
    unfold Oper.wp
    rw [hr]
    exact hn _ _ ⟨m', he, hv, hi'⟩⟩

theorem Step1.of_skip {P : Program} {o : Oper} {F : Fr} {H H1 : Hp} (hm : H.n ≤ H1.n)
    (h : ∀ B w0 m (a : Act) w, (∀ x, x ∈ o.op.operands → RV m H.n (aeval F x) (a.eval x)) → Inv B w0 m H w →
      ∃ w' m', (execOp a.eval o).run P w = .ok .skip w' ∧ Ext H.n m m' ∧ Inv B w0 m' H1 w') : Step1 P o F H .undef H1 :=
  ⟨hm, fun B w0 m a w hx hi next Q hn => by
    obtain ⟨w', m', hr, he, hi'⟩ := h B w0 m a w hx hi
    unfold Oper.wp
    rw [hr]
    exact hn _ _ ⟨m', he, .undef _, hi'⟩⟩

theorem Step1.pure {P : Program} {o : Oper} {F : Fr} {H : Hp} {v : AV}
    (h : ∀ m (a : Act), (∀ x, x ∈ o.op.operands → RV m H.n (aeval F x) (a.eval x)) → ∃ v', RV m H.n v v' ∧ ∀ w, (execOp a.eval o).run P w = .ok (.value v') w) :
    Step1 P o F H v H :=
  .of_run (Nat.le_refl _) fun B w0 m a w hx hi => by
    obtain ⟨v', hv, hr⟩ := h m a hx
    exact ⟨v', w, m, hr w, .refl _ _, hv, hi⟩

section inv
variable {m : Nat → Loc} {n : Nat} {v : Value}
theorem RV.bool_inv {b : Bool} (h : RV m n (.bool b) v) : v = .bool b := by cases h; rfl
theorem RV.int_inv {k : IntKind} {i : Int} (h : RV m n (.int k i) v) : v = .int k i := by cases h; rfl
theorem RV.str_inv {s : ByteArray} (h : RV m n (.str s) v) : v = .string s := by cases h; rfl
theorem RV.ptr_inv {b o : Nat} (h : RV m n (.ptr b o) v) : b < n ∧ v = .pointer (some ⟨(m b).blk, (m b).sh + o, none⟩) := by cases h; exact ⟨‹_›, rfl⟩
theorem RV.map_inv {b : Nat} (h : RV m n (.map b) v) : b < n ∧ v = .map (some (m b).blk) := by cases h; exact ⟨‹_›, rfl⟩
theorem RV.agg_inv {xs : List AV} (h : RV m n (.agg xs) v) : ∃ vs, v = .agg vs ∧ RVs m n xs vs.toList := by
  cases h with
  | agg _ vs hx h => exact ⟨vs, rfl, by simpa using hx, fun i h1 h2 => by simpa using h i h1 (by simpa using h2)⟩
theorem RV.tup_inv {xs : List AV} (h : RV m n (.tup xs) v) : ∃ vs, v = .tuple vs ∧ RVs m n xs vs.toList := by
  cases h with
  | tup _ vs hx h => exact ⟨vs, rfl, by simpa using hx, fun i h1 h2 => by simpa using h i h1 (by simpa using h2)⟩
theorem RV.agg_mk {xs : List AV} {vs : Array Value} (h : RVs m n xs vs.toList) : RV m n (.agg xs) (.agg vs) :=
  .agg _ _ (by simpa using h.1) fun i h1 h2 => by
    have := h.2 i h1 (by simpa using h2)
    rwa [Array.getElem_toList] at this
theorem RV.tup_mk {xs : List AV} {vs : Array Value} (h : RVs m n xs vs.toList) : RV m n (.tup xs) (.tuple vs) :=
  .tup _ _ (by simpa using h.1) fun i h1 h2 => by
    have := h.2 i h1 (by simpa using h2)
    rwa [Array.getElem_toList] at this
end inv

section pureops
variable {P : Program} {F : Fr} {H : Hp} {d : Option Tmp} {ty : TypeId} {pos : String} {af : Array Edge} {g : Option (Nat × Bool)}

theorem s_move {x : Operand} : Step1 P ⟨d, .move x, ty, pos, af, g⟩ F H (aeval F x) H :=
  .pure fun m a hx => ⟨a.eval x, hx x (by simp [Op.operands]), fun w => by simp [execOp]⟩
theorem s_assign {x : Operand} : Step1 P ⟨d, .assign x, ty, pos, af, g⟩ F H (aeval F x) H :=
  .pure fun m a hx => ⟨a.eval x, hx x (by simp [Op.operands]), fun w => by simp [execOp]⟩
theorem s_pick {c x y : Operand} {t : Bool} (hc : aeval F c = .bool t) : Step1 P ⟨d, .pick c x y, ty, pos, af, g⟩ F H (bif t then aeval F x else aeval F y) H :=
  .pure fun m a hx => by
    have h1 := hx c (by simp [Op.operands]); rw [hc] at h1
    have h1 := h1.bool_inv
    cases t
    · exact ⟨a.eval y, hx y (by simp [Op.operands]), fun w => by simp [execOp, h1, asBool]⟩
    · exact ⟨a.eval x, hx x (by simp [Op.operands]), fun w => by simp [execOp, h1, asBool]⟩
theorem s_pickB {c x y : Operand} {t p q : Bool} (hc : aeval F c = .bool t) (hp : aeval F x = .bool p) (hq : aeval F y = .bool q) :
    Step1 P ⟨d, .pick c x y, ty, pos, af, g⟩ F H (.bool (bif t then p else q)) H := by
  have := s_pick (P := P) (F := F) (H := H) (d := d) (ty := ty) (pos := pos) (af := af) (g := g) (x := x) (y := y) hc
  rw [hp, hq] at this
  cases t <;> exact this
theorem s_extract {x : Operand} {i : Nat} {xs : List AV} {r : AV} (hx' : aeval F x = .tup xs) (hr : xs[i]? = some r) :
    Step1 P ⟨d, .extract x i, ty, pos, af, g⟩ F H r H :=
  .pure fun m a hx => by
    have h1 := hx x (by simp [Op.operands]); rw [hx'] at h1
    obtain ⟨vs, e, hl, h⟩ := h1.tup_inv
    obtain ⟨hi, rfl⟩ := List.getElem?_eq_some_iff.1 hr
    have hi' : i < vs.size := by simpa [hl] using hi
    have hv := h i hi (by simpa using hi')
    rw [Array.getElem_toList] at hv
    refine ⟨vs[i], hv, fun w => ?_⟩
    simp [execOp, e, Instr.extract, hi']

theorem binOp_run {op : BinOp} {t : TypeId} {x y : Operand} {yt : TypeId} {a : Act} {k : IntKind} {i j : Int} (hi : a.eval x = .int k i) (hj : a.eval y = .int k j) (w : World) :
    (execOp a.eval ⟨d, .binOp op t x y yt, ty, pos, af, g⟩).run P w = ((binOp op t (.int k i) (.int k j)).run P w).andThen fun v w' => .ok (.value v) w' := by
  simp only [execOp, hi, hj]
  cases op <;> simp [eqGuard]

section arith
variable {t yt : TypeId} {x y : Operand} {k : IntKind} {i j : Int}
theorem s_int {op : BinOp} {r : AV} (hi : aeval F x = .int k i) (hj : aeval F y = .int k j)
    (h : ∃ v', (∀ m n, RV m n r v') ∧ ∀ w, (binOp op t (.int k i) (.int k j)).run P w = .ok v' w) :
    Step1 P ⟨d, .binOp op t x y yt, ty, pos, af, g⟩ F H r H :=
  .pure fun m a hx => by
    have h1 := hx x (by simp [Op.operands]); rw [hi] at h1
    have h2 := hx y (by simp [Op.operands]); rw [hj] at h2
    obtain ⟨v', hv, hr⟩ := h
    refine ⟨v', hv _ _, fun w => ?_⟩
    rw [binOp_run h1.int_inv h2.int_inv, hr]
    rfl
theorem s_add (hi : aeval F x = .int k i) (hj : aeval F y = .int k j) : Step1 P ⟨d, .binOp .add t x y yt, ty, pos, af, g⟩ F H (.int k (k.wrap (i + j))) H :=
  s_int hi hj ⟨_, fun _ _ => .int _ _, fun w => by simp [binOp, Op.intArith]⟩
theorem s_sub (hi : aeval F x = .int k i) (hj : aeval F y = .int k j) : Step1 P ⟨d, .binOp .sub t x y yt, ty, pos, af, g⟩ F H (.int k (k.wrap (i - j))) H :=
  s_int hi hj ⟨_, fun _ _ => .int _ _, fun w => by simp [binOp, Op.intArith]⟩
theorem s_mul (hi : aeval F x = .int k i) (hj : aeval F y = .int k j) : Step1 P ⟨d, .binOp .mul t x y yt, ty, pos, af, g⟩ F H (.int k (k.wrap (i * j))) H :=
  s_int hi hj ⟨_, fun _ _ => .int _ _, fun w => by simp [binOp, Op.intArith]⟩
theorem s_quo (hi : aeval F x = .int k i) (hj : aeval F y = .int k j) (hz : j ≠ 0) : Step1 P ⟨d, .binOp .quo t x y yt, ty, pos, af, g⟩ F H (.int k (k.wrap (i.tdiv j))) H :=
  s_int hi hj ⟨_, fun _ _ => .int _ _, fun w => by simp [binOp, Op.intDiv, hz]⟩
theorem s_rem (hi : aeval F x = .int k i) (hj : aeval F y = .int k j) (hz : j ≠ 0) : Step1 P ⟨d, .binOp .rem t x y yt, ty, pos, af, g⟩ F H (.int k (i.tmod j)) H :=
  s_int hi hj ⟨_, fun _ _ => .int _ _, fun w => by simp [binOp, Op.intDiv, hz]⟩
theorem s_eql (hi : aeval F x = .int k i) (hj : aeval F y = .int k j) : Step1 P ⟨d, .binOp .eql t x y yt, ty, pos, af, g⟩ F H (.bool (decide (i = j))) H :=
  s_int hi hj ⟨_, fun _ _ => .bool _, fun w => by simp [binOp, Op.intCmp]; rfl⟩
theorem s_neq (hi : aeval F x = .int k i) (hj : aeval F y = .int k j) : Step1 P ⟨d, .binOp .neq t x y yt, ty, pos, af, g⟩ F H (.bool (decide (i ≠ j))) H :=
  s_int hi hj ⟨_, fun _ _ => .bool _, fun w => by simp [binOp, Op.intCmp, bne]; rfl⟩
theorem s_lss (hi : aeval F x = .int k i) (hj : aeval F y = .int k j) : Step1 P ⟨d, .binOp .lss t x y yt, ty, pos, af, g⟩ F H (.bool (decide (i < j))) H :=
  s_int hi hj ⟨_, fun _ _ => .bool _, fun w => by simp [binOp, Op.intCmp]⟩
theorem s_leq (hi : aeval F x = .int k i) (hj : aeval F y = .int k j) : Step1 P ⟨d, .binOp .leq t x y yt, ty, pos, af, g⟩ F H (.bool (decide (i ≤ j))) H :=
  s_int hi hj ⟨_, fun _ _ => .bool _, fun w => by simp [binOp, Op.intCmp]⟩
theorem s_gtr (hi : aeval F x = .int k i) (hj : aeval F y = .int k j) : Step1 P ⟨d, .binOp .gtr t x y yt, ty, pos, af, g⟩ F H (.bool (decide (j < i))) H :=
  s_int hi hj ⟨_, fun _ _ => .bool _, fun w => by simp [binOp, Op.intCmp]⟩
theorem s_geq (hi : aeval F x = .int k i) (hj : aeval F y = .int k j) : Step1 P ⟨d, .binOp .geq t x y yt, ty, pos, af, g⟩ F H (.bool (decide (j ≤ i))) H :=
  s_int hi hj ⟨_, fun _ _ => .bool _, fun w => by simp [binOp, Op.intCmp]⟩
/-- bits of two numbers -/
def bitsOf (op : BinOp) (k : IntKind) (x y : Int) : Int :=
  let a := BitVec.ofInt k.bits x
  let b := BitVec.ofInt k.bits y
  k.wrap (match op with
  | .and => a &&& b
  | .or => a ||| b
  | .xor => a ^^^ b
  | _ => a &&& ~~~b).toNat
theorem s_and (hi : aeval F x = .int k i) (hj : aeval F y = .int k j) : Step1 P ⟨d, .binOp .and t x y yt, ty, pos, af, g⟩ F H (.int k (bitsOf .and k i j)) H :=
  s_int hi hj ⟨_, fun _ _ => .int _ _, fun w => by simp [binOp, Op.intBits, bitsOf]⟩
theorem s_or (hi : aeval F x = .int k i) (hj : aeval F y = .int k j) : Step1 P ⟨d, .binOp .or t x y yt, ty, pos, af, g⟩ F H (.int k (bitsOf .or k i j)) H :=
  s_int hi hj ⟨_, fun _ _ => .int _ _, fun w => by simp [binOp, Op.intBits, bitsOf]⟩
theorem s_xor (hi : aeval F x = .int k i) (hj : aeval F y = .int k j) : Step1 P ⟨d, .binOp .xor t x y yt, ty, pos, af, g⟩ F H (.int k (bitsOf .xor k i j)) H :=
  s_int hi hj ⟨_, fun _ _ => .int _ _, fun w => by simp [binOp, Op.intBits, bitsOf]⟩
theorem s_andNot (hi : aeval F x = .int k i) (hj : aeval F y = .int k j) : Step1 P ⟨d, .binOp .andNot t x y yt, ty, pos, af, g⟩ F H (.int k (bitsOf .andNot k i j)) H :=
  s_int hi hj ⟨_, fun _ _ => .int _ _, fun w => by simp [binOp, Op.intBits, bitsOf]⟩
end arith
def shlOf (k : IntKind) (i j : Int) : Int := k.wrap (i * 2 ^ min j.toNat k.bits)
def shrOf (k : IntKind) (i j : Int) : Int := i.fdiv (2 ^ min j.toNat k.bits)
section shifts
variable {t yt : TypeId} {x y : Operand} {k k' : IntKind} {i j : Int}
theorem s_shl (hi : aeval F x = .int k i) (hj : aeval F y = .int k' j) (hz : ¬ j < 0) : Step1 P ⟨d, .binOp .shl t x y yt, ty, pos, af, g⟩ F H (.int k (shlOf k i j)) H :=
  .pure fun m a hx => by
    have h1 := hx x (by simp [Op.operands]); rw [hi] at h1
    have h2 := hx y (by simp [Op.operands]); rw [hj] at h2
    exact ⟨_, .int _ _, fun w => by simp [execOp, h1.int_inv, h2.int_inv, eqGuard, binOp, Op.shift, hz, shlOf]⟩
theorem s_shr (hi : aeval F x = .int k i) (hj : aeval F y = .int k' j) (hz : ¬ j < 0) : Step1 P ⟨d, .binOp .shr t x y yt, ty, pos, af, g⟩ F H (.int k (shrOf k i j)) H :=
  .pure fun m a hx => by
    have h1 := hx x (by simp [Op.operands]); rw [hi] at h1
    have h2 := hx y (by simp [Op.operands]); rw [hj] at h2
    exact ⟨_, .int _ _, fun w => by simp [execOp, h1.int_inv, h2.int_inv, eqGuard, binOp, Op.shift, hz, shrOf]⟩
theorem s_not {x : Operand} {b : Bool} (hb : aeval F x = .bool b) : Step1 P ⟨d, .unOp .not t x, ty, pos, af, g⟩ F H (.bool (!b)) H :=
  .pure fun m a hx => by
    have h1 := hx x (by simp [Op.operands]); rw [hb] at h1
    exact ⟨_, .bool _, fun w => by simp [execOp, h1.bool_inv, Op.unary]⟩
theorem s_neg {x : Operand} {k : IntKind} {i : Int} (hb : aeval F x = .int k i) : Step1 P ⟨d, .unOp .neg t x, ty, pos, af, g⟩ F H (.int k (k.wrap (0 - i))) H :=
  .pure fun m a hx => by
    have h1 := hx x (by simp [Op.operands]); rw [hb] at h1
    exact ⟨_, .int _ _, fun w => by simp [execOp, h1.int_inv, Op.unary, Op.intArith]⟩
end shifts
end pureops
end Go.Lt
