/- THE LIBRARY OF THESE PROOFS, A PART: an abstract heap, and that the model's steps keep to it. Nothing is asked of the input. -/
import Derived.Test.YthmhdbmpeepmaaaLDraw
set_option linter.unusedVariables false
set_option linter.unusedSimpArgs false
namespace Go.Lt
open Go.RowKit

/-! ### the words of our texts -/
abbrev w64 (n : Int) : Int := IntKind.i64.wrap n
def AV.asI (k : IntKind) : AV → Option Int
  | .int k' n => if k' = k then some n else none
  | _ => none
def AV.asB : AV → Option Bool
  | .bool b => some b
  | _ => none
def AV.asStr : AV → Option ByteArray
  | .str s => some s
  | _ => none
def AV.asSl : AV → Option Sl
  | .sl s => some s
  | _ => none
def AV.asP : AV → Option (Nat × Nat)
  | .ptr b o => some (b, o)
  | _ => none
def AV.asM : AV → Option Nat
  | .map b => some b
  | _ => none
def AV.asT : AV → Option (List AV)
  | .tup l => some l
  | _ => none
def AV.asA : AV → Option (List AV)
  | .agg l => some l
  | _ => none
theorem asI_eq {k : IntKind} {x : AV} {n : Int} (h : x.asI k = some n) : x = .int k n := by
  unfold AV.asI at h
  split at h
  · split at h
    · rename_i e; injection h with h; rw [h, e]
    · cases h
  · cases h
theorem asB_eq {x : AV} {b : Bool} (h : x.asB = some b) : x = .bool b := by
  unfold AV.asB at h; split at h <;> first | (injection h with h; rw [h]) | cases h
theorem asStr_eq {x : AV} {b : ByteArray} (h : x.asStr = some b) : x = .str b := by
  unfold AV.asStr at h; split at h <;> first | (injection h with h; rw [h]) | cases h
theorem asSl_eq {x : AV} {b : Sl} (h : x.asSl = some b) : x = .sl b := by
  unfold AV.asSl at h; split at h <;> first | (injection h with h; rw [h]) | cases h
theorem asP_eq {x : AV} {p : Nat × Nat} (h : x.asP = some p) : x = .ptr p.1 p.2 := by
  unfold AV.asP at h; split at h <;> first | (injection h with h; rw [← h]) | cases h
theorem asM_eq {x : AV} {b : Nat} (h : x.asM = some b) : x = .map b := by
  unfold AV.asM at h; split at h <;> first | (injection h with h; rw [h]) | cases h
theorem asT_eq {x : AV} {b : List AV} (h : x.asT = some b) : x = .tup b := by
  unfold AV.asT at h; split at h <;> first | (injection h with h; rw [h]) | cases h
theorem asA_eq {x : AV} {b : List AV} (h : x.asA = some b) : x = .agg b := by
  unfold AV.asA at h; split at h <;> first | (injection h with h; rw [h]) | cases h

def Hp.ldI (H : Hp) (k : IntKind) (b o : Nat) : Option Int := (H.ld b o).bind (AV.asI k)
def Hp.ldB (H : Hp) (b o : Nat) : Option Bool := (H.ld b o).bind AV.asB
def Hp.ldStr (H : Hp) (b o : Nat) : Option ByteArray := (H.ld b o).bind AV.asStr
def Hp.ldSl (H : Hp) (b o : Nat) : Option Sl := (H.ld b o).bind AV.asSl
def Hp.ldP (H : Hp) (b o : Nat) : Option (Nat × Nat) := (H.ld b o).bind AV.asP
def Hp.ldM (H : Hp) (b o : Nat) : Option Nat := (H.ld b o).bind AV.asM
/-- what is loaded is known -/
def Hp.ldV (H : Hp) (b o : Nat) : Option AV := (H.ld b o).bind fun v => if v.isU then none else some v
theorem ldI_eq {H : Hp} {k : IntKind} {b o : Nat} {n : Int} (h : H.ldI k b o = some n) : H.ld b o = some (.int k n) := by
  obtain ⟨v, h1, h2⟩ := Option.bind_eq_some_iff.1 h; rw [h1, asI_eq h2]
theorem ldB_eq {H : Hp} {b o : Nat} {n : Bool} (h : H.ldB b o = some n) : H.ld b o = some (.bool n) := by
  obtain ⟨v, h1, h2⟩ := Option.bind_eq_some_iff.1 h; rw [h1, asB_eq h2]
theorem ldStr_eq {H : Hp} {b o : Nat} {n : ByteArray} (h : H.ldStr b o = some n) : H.ld b o = some (.str n) := by
  obtain ⟨v, h1, h2⟩ := Option.bind_eq_some_iff.1 h; rw [h1, asStr_eq h2]
theorem ldSl_eq {H : Hp} {b o : Nat} {n : Sl} (h : H.ldSl b o = some n) : H.ld b o = some (.sl n) := by
  obtain ⟨v, h1, h2⟩ := Option.bind_eq_some_iff.1 h; rw [h1, asSl_eq h2]
theorem ldP_eq {H : Hp} {b o : Nat} {n : Nat × Nat} (h : H.ldP b o = some n) : H.ld b o = some (.ptr n.1 n.2) := by
  obtain ⟨v, h1, h2⟩ := Option.bind_eq_some_iff.1 h; rw [h1, asP_eq h2]
theorem ldM_eq {H : Hp} {b o : Nat} {n : Nat} (h : H.ldM b o = some n) : H.ld b o = some (.map n) := by
  obtain ⟨v, h1, h2⟩ := Option.bind_eq_some_iff.1 h; rw [h1, asM_eq h2]
theorem ldV_eq {H : Hp} {b o : Nat} {n : AV} (h : H.ldV b o = some n) : H.ld b o = some n := by
  obtain ⟨v, h1, h2⟩ := Option.bind_eq_some_iff.1 h
  split at h2
  · cases h2
  · injection h2 with h2; rw [h1, h2]

mutual
def AV.eqb : AV → AV → Bool
  | .bool a, .bool b => a == b
  | .int k a, .int k' b => decide (k = k') && a == b
  | .ptr a b, .ptr c d => a == c && b == d
  | .nilptr, .nilptr => true
  | .sl a, .sl b => decide (a = b)
  | .map a, .map b => a == b
  | .nilmap, .nilmap => true
  | .fn f a b, .fn g c d => f == g && (AV.eqbs a c && AV.eqbs b d)
  | .yld a, .yld b => a == b
  | .nilfn, .nilfn => true
  | .niliface, .niliface => true
  | .agg a, .agg b => AV.eqbs a b
  | .tup a, .tup b => AV.eqbs a b
  | _, _ => false
def AV.eqbs : List AV → List AV → Bool
  | [], [] => true
  | a :: x, b :: y => AV.eqb a b && AV.eqbs x y
  | _, _ => false
end
mutual
theorem AV.eqb_eq : ∀ (x y : AV), AV.eqb x y = true → x = y
  | .bool a, y, h => by cases y <;> simp_all [AV.eqb]
  | .int k a, y, h => by cases y <;> simp_all [AV.eqb]
  | .ptr a b, y, h => by cases y <;> simp_all [AV.eqb]
  | .nilptr, y, h => by cases y <;> simp_all [AV.eqb]
  | .sl a, y, h => by cases y <;> simp_all [AV.eqb]
  | .map a, y, h => by cases y <;> simp_all [AV.eqb]
  | .nilmap, y, h => by cases y <;> simp_all [AV.eqb]
  | .fn f a b, y, h => by
    cases y <;> simp [AV.eqb] at h
    rename_i g c d
    rw [h.1, AV.eqbs_eq a c h.2.1, AV.eqbs_eq b d h.2.2]
  | .yld a, y, h => by cases y <;> simp_all [AV.eqb]
  | .nilfn, y, h => by cases y <;> simp_all [AV.eqb]
  | .niliface, y, h => by cases y <;> simp_all [AV.eqb]
  | .agg a, y, h => by
    cases y <;> simp [AV.eqb] at h
    rename_i c
    rw [AV.eqbs_eq a c h]
  | .tup a, y, h => by
    cases y <;> simp [AV.eqb] at h
    rename_i c
    rw [AV.eqbs_eq a c h]
  | .undef, y, h => by cases y <;> simp [AV.eqb] at h
  | .str s, y, h => by cases y <;> simp [AV.eqb] at h
  | .iface t v, y, h => by cases y <;> simp [AV.eqb] at h
  | .gptr g, y, h => by cases y <;> simp [AV.eqb] at h
theorem AV.eqbs_eq : ∀ (x y : List AV), AV.eqbs x y = true → x = y
  | [], y, h => by cases y <;> simp_all [AV.eqbs]
  | a :: x, y, h => by
    cases y with
    | nil => simp [AV.eqbs] at h
    | cons b y =>
      simp [AV.eqbs] at h
      rw [AV.eqb_eq a b h.1, AV.eqbs_eq x y h.2]
end
/-- the same lies there -/
def Hp.isV (H : Hp) (b o : Nat) (v : AV) : Bool :=
  match H.ld b o with
  | some x => x.eqb v
  | none => false
theorem isV_eq {H : Hp} {b o : Nat} {v : AV} (h : H.isV b o v = true) : H.ld b o = some v := by
  unfold Hp.isV at h
  split at h
  · rename_i x hx; rw [hx, AV.eqb_eq _ _ h]
  · cases h

/-- a new block, read -/
theorem ld_new (H : Hp) (cs : List AV) (ro : Bool) (o : Nat) : (H.push (.cells cs ro)).ld H.n o = cs[o]? := by simp [Hp.ld]
theorem lds_new : ∀ (n : Nat) (H : Hp) (cs : List AV) (ro : Bool) (o : Nat), o + n ≤ cs.length → (H.push (.cells cs ro)).lds H.n o n = some ((cs.drop o).take n) := by
  intro n
  induction n with
  | zero => intro H cs ro o h; simp [Hp.lds]
  | succ n ih =>
    intro H cs ro o h
    have hlt : o < cs.length := by omega
    rw [List.drop_eq_getElem_cons hlt, List.take_succ_cons]
    exact lds_cons (by rw [ld_new, List.getElem?_eq_getElem hlt]) (ih H cs ro (o + 1) (by omega))
/-- elements put behind a slice, out of a block of their own -/
def Hp.apN (H : Hp) (es : Nat) (s : Sl) (cs : List AV) (n : Nat) : Option (Sl × Hp) := (H.push (.cells cs false)).app es s cs n

theorem bool_notT {c : Bool} (h : c = true) : AV.bool (!c) = .bool false := by rw [h]; rfl
theorem bool_notF {c : Bool} (h : ¬ c = true) : AV.bool (!c) = .bool true := by simp at h; rw [h]; rfl
theorem dec_notT {c : Prop} [Decidable c] (h : c) : AV.bool (!decide c) = .bool false := by rw [decide_eq_true h]; rfl
theorem dec_notF {c : Prop} [Decidable c] (h : ¬ c) : AV.bool (!decide c) = .bool true := by rw [decide_eq_false h]; rfl
theorem bool_T {c : Bool} (h : c = true) : AV.bool c = .bool true := by rw [h]
theorem bool_F {c : Bool} (h : ¬ c = true) : AV.bool c = .bool false := by simp at h; rw [h]

/-- one who looks at a call's result -/
theorem CallSim.of {P : Program} {f : FuncId} {xs : List AV} {H H1 : Hp} {v v' : AV} (h : CallSim P f xs H v H1) (e : v = v') : CallSim P f xs H v' H1 := e ▸ h

section
variable {P : Program} {F : Fr} {H : Hp} {d : Option Tmp} {ty : TypeId} {pos : String} {af : Array Edge} {g : Option (Nat × Bool)}
theorem s_mv {x : Operand} {v : AV} (h : aeval F x = v) : Step1 P ⟨d, .move x, ty, pos, af, g⟩ F H v H := h ▸ s_move
theorem s_as {x : Operand} {v : AV} (h : aeval F x = v) : Step1 P ⟨d, .assign x, ty, pos, af, g⟩ F H v H := h ▸ s_assign
theorem s_pickT {c x y : Operand} {v : AV} (hc : aeval F c = .bool true) (h : aeval F x = v) : Step1 P ⟨d, .pick c x y, ty, pos, af, g⟩ F H v H := h ▸ s_pick (t := true) hc
theorem s_pickF {c x y : Operand} {v : AV} (hc : aeval F c = .bool false) (h : aeval F y = v) : Step1 P ⟨d, .pick c x y, ty, pos, af, g⟩ F H v H := h ▸ s_pick (t := false) hc
/-- append out of a block that has just been made -/
theorem s_ap {st e xt e2 : TypeId} {es by' n : Nat} {z : Value} {ats : Array TypeId} {x y : Operand} {s s' : Sl} {cs : List AV} {H1 : Hp} (h0 : ats[0]? = some st) (h1 : ats[1]? = some xt)
    (hu : P.underlying st = some (.slice e)) (hxu : P.underlying xt = some (.slice e2)) (ht : TyIs P e es by' z) (hes : Nat.blt 0 es = true) (hzl : z.cells.size = es) (hby : (Nat.ble 1 by' && Nat.ble by' 4096) = true)
    (hs : aeval F x = .sl s) (hx : aeval F y = .sl ⟨false, H.n, 0, n, n, 0⟩) (hn : cs.length = n * es) (ho : cs.all AV.one = true) (ha : H.apN es s cs n = some (s', H1)) :
    Step1 P ⟨d, .call ⟨.builtin .append, #[x, y], ats⟩, ty, pos, af, g⟩ F (H.push (.cells cs false)) (.sl s') H1 := by
  simp only [Bool.and_eq_true] at hby
  refine s_append h0 h1 hu hxu ht (by have h : 0 + 1 ≤ es := by simpa [Nat.blt] using hes
                                      omega) hzl ⟨Nat.le_of_ble_eq_true hby.1, Nat.le_of_ble_eq_true hby.2⟩ hs hx ?_ ho ha
  have := lds_new (n * es) H cs false 0 (by omega)
  rw [this]
  simp [← hn]
end
theorem firstCells_run' {P : Program} {B : Nat} {w0 w : World} {m : Nat → Loc} {H : Hp} (hi : Inv B w0 m H w) {s : Sl} {v : Value} {es n : Nat} {vs : List AV} (h : RV m H.n (.sl s) v) (hn : n ≤ s.len)
    (hl : H.lds s.b s.o (n * es) = some vs) : ∃ us, (Builtin.firstCells es n v).run P w = .ok us w ∧ RVs m H.n vs us.toList := by
  rcases h.sl_inv with ⟨rfl, e⟩ | ⟨a, _, _, h0, _, e⟩ | ⟨cap', _, _, _, _, _, _, e⟩
  · have hn0 : n = 0 := by simpa using hn
    subst hn0
    simp [Hp.lds] at hl
    subst hl
    exact ⟨#[], by simp [e, Builtin.firstCells], .nil⟩
  · have hn0 : n = 0 := by omega
    subst hn0
    rw [Nat.zero_mul] at hl
    simp [Hp.lds] at hl
    subst hl
    exact ⟨#[], by simp [e, Builtin.firstCells, loadCells, loadCellsFrom], .nil⟩
  · obtain ⟨us, hlen, hc, hv⟩ := hi.lds P hl
    refine ⟨us.toArray, ?_, by simpa using hv⟩
    have := loadCells_run (w := w) P hc
    rw [hlen] at this
    simp [e, Builtin.firstCells, this]
theorem zerosA_one {zs : List AV} (h : zs.all AV.one = true) (h0 : 0 < zs.length) (k : Nat) : ∀ x ∈ zerosA zs k, x.one = true := by
  intro x hx
  unfold zerosA at hx
  obtain ⟨i, _, rfl⟩ := List.mem_map.1 hx
  have hi : i % zs.length < zs.length := Nat.mod_lt _ h0
  rw [getElem!_pos zs _ hi]
  exact List.all_eq_true.1 h _ (List.getElem_mem hi)

theorem st_mono {H H1 : Hp} {b o : Nat} {v : AV} (h : H.st b o v = some H1) : H1.n = H.n := by
  unfold Hp.st at h
  split at h
  · split at h
    · injection h with h; subst h; simp
    · cases h
  · cases h
theorem sts_mono : ∀ {vs : List AV} {H H1 : Hp} {b o : Nat}, H.sts b o vs = some H1 → H1.n = H.n := by
  intro vs
  induction vs with
  | nil => intro H H1 b o h; simp [Hp.sts] at h; rw [h]
  | cons v vs ih =>
    intro H H1 b o h
    simp only [Hp.sts] at h
    obtain ⟨H2, h1, h2⟩ := Option.bind_eq_some_iff.1 h
    rw [ih h2, st_mono h1]

/-- a place in a text -/
def codeAt : Code → List Nat → Code
  | c, [] => c
  | .seq a _, 0 :: p => codeAt a p
  | .seq _ b, _ :: p => codeAt b p
  | .cond _ x _, 0 :: p => codeAt x p
  | .cond _ _ y, _ :: p => codeAt y p
  | .block _ c, _ :: p => codeAt c p
  | .loop c, _ :: p => codeAt c p
  | c, _ => c
/-- a string that stands in a text -/
def strC (fn : Func) (p : List Nat) (i j : Nat) : ByteArray :=
  match codeAt (bodyOf fn) p with
  | .region _ ops _ =>
    match ops[i]? with
    | some o => match o.op.operands[j]? with
      | some (.const (.string s)) => s
      | _ => .empty
    | none => .empty
  | _ => .empty

/-- what must hold here -/
def ck {α : Type} (c : Prop) [Decidable c] (o : Option α) : Option α := if c then o else none
/-- a heap under a name -/
def lt {α : Type} (e : Hp) (K : Hp → Option α) : Option α := K e
/-- rounds of a loop, at the most -/
def FUEL : Nat := 4611686018427387904
section
variable {α : Type} {P : Program} {fn : Func} {ret : α → AV} {N : Nat} {k : List Item} {F : Fr} {H : Hp} {o : Option (α × Hp)}
theorem f_ck {todo : List Item} {c : Prop} [Decidable c] {o1 : Option (α × Hp)} (h1 : c → Fin P fn ret N todo F H o1) : Fin P fn ret N todo F H (ck c o1) := f_chk h1
theorem o_ck {ops : Array Oper} {l : List Oper} {c : Prop} [Decidable c] {o1 : Option (α × Hp)} (h1 : c → OFin P fn ret N ops l k F H o1) : OFin P fn ret N ops l k F H (ck c o1) := o_chk h1
theorem f_hp {todo : List Item} {e : Hp} {K : Hp → Option (α × Hp)} (h : ∀ y, y = e → Fin P fn ret N todo F y (K y)) : Fin P fn ret N todo F e (lt e K) := h e rfl
theorem o_hp {ops : Array Oper} {l : List Oper} {e : Hp} {K : Hp → Option (α × Hp)} (h : ∀ y, y = e → OFin P fn ret N ops l k F y (K y)) : OFin P fn ret N ops l k F e (lt e K) := h e rfl
end

def Hp.mlen (H : Hp) (b : Nat) : Option Nat :=
  match H.get b with
  | some (.map _ es) => some es.length
  | _ => none
/-- copy: how many, and the heap behind it -/
def Hp.cpy (H : Hp) (es : Nat) (x y : Sl) : Option (Nat × Hp) :=
  let n := min y.len x.len
  (H.lds y.b y.o (n * es)).bind fun vs => if vs.all AV.one = true then (if x.nil then some (n, H) else (H.sts x.b x.o vs).map fun H1 => (n, H1)) else none

theorem gete {l : List AV} {i : Nat} {y z : AV} (h : l[i]? = some y) (e : y = z) : l[i]? = some z := e ▸ h
theorem tupOf1 {x : AV} {l : List AV} {a : AV} (hl : x.asT = some l) (hn : l.length = 1) (h0 : l[0]? = some a) : x = .tup [a] := by
  rw [asT_eq hl]
  congr 1
  apply List.ext_getElem?
  intro i
  by_cases hi : i < 1
  · match i, hi with
    | 0, _ => rw [h0]; rfl
  · rw [List.getElem?_eq_none (by omega), List.getElem?_eq_none (by simp; omega)]
theorem tupOf2 {x : AV} {l : List AV} {a b : AV} (hl : x.asT = some l) (hn : l.length = 2) (h0 : l[0]? = some a) (h1 : l[1]? = some b) : x = .tup [a, b] := by
  rw [asT_eq hl]
  congr 1
  apply List.ext_getElem?
  intro i
  by_cases hi : i < 2
  · match i, hi with
    | 0, _ => rw [h0]; rfl
    | 1, _ => rw [h1]; rfl
  · rw [List.getElem?_eq_none (by omega), List.getElem?_eq_none (by simp; omega)]
theorem tupOf3 {x : AV} {l : List AV} {a b c : AV} (hl : x.asT = some l) (hn : l.length = 3) (h0 : l[0]? = some a) (h1 : l[1]? = some b) (h2 : l[2]? = some c) : x = .tup [a, b, c] := by
  rw [asT_eq hl]
  congr 1
  apply List.ext_getElem?
  intro i
  by_cases hi : i < 3
  · match i, hi with
    | 0, _ => rw [h0]; rfl
    | 1, _ => rw [h1]; rfl
    | 2, _ => rw [h2]; rfl
  · rw [List.getElem?_eq_none (by omega), List.getElem?_eq_none (by simp; omega)]
theorem tupOf4 {x : AV} {l : List AV} {a b c d : AV} (hl : x.asT = some l) (hn : l.length = 4) (h0 : l[0]? = some a) (h1 : l[1]? = some b) (h2 : l[2]? = some c) (h3 : l[3]? = some d) : x = .tup [a, b, c, d] := by
  rw [asT_eq hl]
  congr 1
  apply List.ext_getElem?
  intro i
  by_cases hi : i < 4
  · match i, hi with
    | 0, _ => rw [h0]; rfl
    | 1, _ => rw [h1]; rfl
    | 2, _ => rw [h2]; rfl
    | 3, _ => rw [h3]; rfl
  · rw [List.getElem?_eq_none (by omega), List.getElem?_eq_none (by simp; omega)]
theorem tupOf5 {x : AV} {l : List AV} {a b c d e : AV} (hl : x.asT = some l) (hn : l.length = 5) (h0 : l[0]? = some a) (h1 : l[1]? = some b) (h2 : l[2]? = some c) (h3 : l[3]? = some d) (h4 : l[4]? = some e) : x = .tup [a, b, c, d, e] := by
  rw [asT_eq hl]
  congr 1
  apply List.ext_getElem?
  intro i
  by_cases hi : i < 5
  · match i, hi with
    | 0, _ => rw [h0]; rfl
    | 1, _ => rw [h1]; rfl
    | 2, _ => rw [h2]; rfl
    | 3, _ => rw [h3]; rfl
    | 4, _ => rw [h4]; rfl
  · rw [List.getElem?_eq_none (by omega), List.getElem?_eq_none (by simp; omega)]
theorem tupOf6 {x : AV} {l : List AV} {a b c d e f : AV} (hl : x.asT = some l) (hn : l.length = 6) (h0 : l[0]? = some a) (h1 : l[1]? = some b) (h2 : l[2]? = some c) (h3 : l[3]? = some d) (h4 : l[4]? = some e) (h5 : l[5]? = some f) : x = .tup [a, b, c, d, e, f] := by
  rw [asT_eq hl]
  congr 1
  apply List.ext_getElem?
  intro i
  by_cases hi : i < 6
  · match i, hi with
    | 0, _ => rw [h0]; rfl
    | 1, _ => rw [h1]; rfl
    | 2, _ => rw [h2]; rfl
    | 3, _ => rw [h3]; rfl
    | 4, _ => rw [h4]; rfl
    | 5, _ => rw [h5]; rfl
  · rw [List.getElem?_eq_none (by omega), List.getElem?_eq_none (by simp; omega)]
theorem aggOf1 {x : AV} {l : List AV} {a : AV} (hl : x.asA = some l) (hn : l.length = 1) (h0 : l[0]? = some a) : x = .agg [a] := by
  rw [asA_eq hl]
  congr 1
  apply List.ext_getElem?
  intro i
  by_cases hi : i < 1
  · match i, hi with
    | 0, _ => rw [h0]; rfl
  · rw [List.getElem?_eq_none (by omega), List.getElem?_eq_none (by simp; omega)]
theorem aggOf2 {x : AV} {l : List AV} {a b : AV} (hl : x.asA = some l) (hn : l.length = 2) (h0 : l[0]? = some a) (h1 : l[1]? = some b) : x = .agg [a, b] := by
  rw [asA_eq hl]
  congr 1
  apply List.ext_getElem?
  intro i
  by_cases hi : i < 2
  · match i, hi with
    | 0, _ => rw [h0]; rfl
    | 1, _ => rw [h1]; rfl
  · rw [List.getElem?_eq_none (by omega), List.getElem?_eq_none (by simp; omega)]
theorem aggOf3 {x : AV} {l : List AV} {a b c : AV} (hl : x.asA = some l) (hn : l.length = 3) (h0 : l[0]? = some a) (h1 : l[1]? = some b) (h2 : l[2]? = some c) : x = .agg [a, b, c] := by
  rw [asA_eq hl]
  congr 1
  apply List.ext_getElem?
  intro i
  by_cases hi : i < 3
  · match i, hi with
    | 0, _ => rw [h0]; rfl
    | 1, _ => rw [h1]; rfl
    | 2, _ => rw [h2]; rfl
  · rw [List.getElem?_eq_none (by omega), List.getElem?_eq_none (by simp; omega)]
theorem aggOf4 {x : AV} {l : List AV} {a b c d : AV} (hl : x.asA = some l) (hn : l.length = 4) (h0 : l[0]? = some a) (h1 : l[1]? = some b) (h2 : l[2]? = some c) (h3 : l[3]? = some d) : x = .agg [a, b, c, d] := by
  rw [asA_eq hl]
  congr 1
  apply List.ext_getElem?
  intro i
  by_cases hi : i < 4
  · match i, hi with
    | 0, _ => rw [h0]; rfl
    | 1, _ => rw [h1]; rfl
    | 2, _ => rw [h2]; rfl
    | 3, _ => rw [h3]; rfl
  · rw [List.getElem?_eq_none (by omega), List.getElem?_eq_none (by simp; omega)]
theorem aggOf5 {x : AV} {l : List AV} {a b c d e : AV} (hl : x.asA = some l) (hn : l.length = 5) (h0 : l[0]? = some a) (h1 : l[1]? = some b) (h2 : l[2]? = some c) (h3 : l[3]? = some d) (h4 : l[4]? = some e) : x = .agg [a, b, c, d, e] := by
  rw [asA_eq hl]
  congr 1
  apply List.ext_getElem?
  intro i
  by_cases hi : i < 5
  · match i, hi with
    | 0, _ => rw [h0]; rfl
    | 1, _ => rw [h1]; rfl
    | 2, _ => rw [h2]; rfl
    | 3, _ => rw [h3]; rfl
    | 4, _ => rw [h4]; rfl
  · rw [List.getElem?_eq_none (by omega), List.getElem?_eq_none (by simp; omega)]
theorem aggOf6 {x : AV} {l : List AV} {a b c d e f : AV} (hl : x.asA = some l) (hn : l.length = 6) (h0 : l[0]? = some a) (h1 : l[1]? = some b) (h2 : l[2]? = some c) (h3 : l[3]? = some d) (h4 : l[4]? = some e) (h5 : l[5]? = some f) : x = .agg [a, b, c, d, e, f] := by
  rw [asA_eq hl]
  congr 1
  apply List.ext_getElem?
  intro i
  by_cases hi : i < 6
  · match i, hi with
    | 0, _ => rw [h0]; rfl
    | 1, _ => rw [h1]; rfl
    | 2, _ => rw [h2]; rfl
    | 3, _ => rw [h3]; rfl
    | 4, _ => rw [h4]; rfl
    | 5, _ => rw [h5]; rfl
  · rw [List.getElem?_eq_none (by omega), List.getElem?_eq_none (by simp; omega)]

/-! maps, with the kind of their keys -/
def Hp.mgetT (H : Hp) (kt : KT) (b : Nat) (x : AV) : Option (Option AV) :=
  match H.get b with
  | some (.map kt' es) => if kt' = kt ∧ kt.ok x = true then some ((afind x es).bind fun i => (es[i]?).map (·.2)) else none
  | _ => none
def Hp.msetT (H : Hp) (kt : KT) (b : Nat) (x v : AV) : Option Hp :=
  match H.get b with
  | some (.map kt' _) => if kt' = kt then H.mset b x v else none
  | _ => none
def Hp.mdelT (H : Hp) (kt : KT) (b : Nat) (x : AV) : Option Hp :=
  match H.get b with
  | some (.map kt' _) => if kt' = kt then H.mdel b x else none
  | _ => none
theorem mgetT_eq {H : Hp} {kt : KT} {b : Nat} {x : AV} {r : Option AV} (h : H.mgetT kt b x = some r) : (∃ es, H.get b = some (.map kt es)) ∧ H.mget b x = some r := by
  unfold Hp.mgetT at h
  split at h
  · rename_i kt' es hg
    split at h
    · rename_i hc
      obtain ⟨rfl, hok⟩ := hc
      refine ⟨⟨es, hg⟩, ?_⟩
      unfold Hp.mget
      rw [hg]
      simp only
      rw [if_pos hok]
      exact h
    · cases h
  · cases h
theorem msetT_eq {H H1 : Hp} {kt : KT} {b : Nat} {x v : AV} (h : H.msetT kt b x v = some H1) : (∃ es, H.get b = some (.map kt es)) ∧ H.mset b x v = some H1 := by
  unfold Hp.msetT at h
  split at h
  · rename_i kt' es hg
    split at h
    · rename_i hc; subst hc; exact ⟨⟨es, hg⟩, h⟩
    · cases h
  · cases h
theorem mdelT_eq {H H1 : Hp} {kt : KT} {b : Nat} {x : AV} (h : H.mdelT kt b x = some H1) : (∃ es, H.get b = some (.map kt es)) ∧ H.mdel b x = some H1 := by
  unfold Hp.mdelT at h
  split at h
  · rename_i kt' es hg
    split at h
    · rename_i hc; subst hc; exact ⟨⟨es, hg⟩, h⟩
    · cases h
  · cases h

section
variable {P : Program} {F : Fr} {H : Hp} {d : Option Tmp} {ty : TypeId} {pos : String} {af : Array Edge} {g : Option (Nat × Bool)}
theorem RV.slnil_inv {m : Nat → Loc} {n : Nat} {v : Value} (h : RV m n (.sl ⟨true, 0, 0, 0, 0, 0⟩) v) : v = .slice none 0 0 := by cases h; rfl
theorem eqNilS_run {t e : TypeId} (hu : P.underlying t = some (.slice e)) (a : Option Addr) (l c : Nat) (w : World) :
    (Op.equal t (.slice a l c) (.slice none 0 0)).run P w = .ok a.isNone w := by
  show (Op.equalIn (9999 + 1) t (.slice a l c) (.slice none 0 0)).run P w = _
  rw [Op.equalIn]
  cases a <;> simp [run_und hu]
theorem eqSl_op {op : BinOp} {t : TypeId} (a b : Option Addr) (l c l' c' : Nat) (w : World) (hop : op = .eql) {r : Bool} (h : (Op.equal t (.slice a l c) (.slice b l' c')).run P w = .ok r w) :
    (binOp op t (.slice a l c) (.slice b l' c')).run P w = .ok (.bool r) w := by
  subst hop
  show (do Pure.pure (.bool (← Op.equal t (.slice a l c) (.slice b l' c'))) : Sem Value).run P w = _
  simp [h]
theorem neSl_op {op : BinOp} {t : TypeId} (a b : Option Addr) (l c l' c' : Nat) (w : World) (hop : op = .neq) {r : Bool} (h : (Op.equal t (.slice a l c) (.slice b l' c')).run P w = .ok r w) :
    (binOp op t (.slice a l c) (.slice b l' c')).run P w = .ok (.bool !r) w := by
  subst hop
  show (do Pure.pure (.bool (!(← Op.equal t (.slice a l c) (.slice b l' c')))) : Sem Value).run P w = _
  simp [h]
theorem eqB_run {op : BinOp} {t : TypeId} (hu : P.underlying t = some .bool) (a b : Bool) (w : World) (hop : op = .eql) : (binOp op t (.bool a) (.bool b)).run P w = .ok (.bool (a == b)) w := by
  subst hop
  have : (Op.equal t (.bool a) (.bool b)).run P w = .ok (a == b) w := by
    show (Op.equalIn (9999 + 1) t _ _).run P w = _
    rw [Op.equalIn]; simp [run_und hu]
  show (do Pure.pure (.bool (← Op.equal t (.bool a) (.bool b))) : Sem Value).run P w = _
  simp [this]
theorem neB_run {op : BinOp} {t : TypeId} (hu : P.underlying t = some .bool) (a b : Bool) (w : World) (hop : op = .neq) : (binOp op t (.bool a) (.bool b)).run P w = .ok (.bool !(a == b)) w := by
  subst hop
  have : (Op.equal t (.bool a) (.bool b)).run P w = .ok (a == b) w := by
    show (Op.equalIn (9999 + 1) t _ _).run P w = _
    rw [Op.equalIn]; simp [run_und hu]
  show (do Pure.pure (.bool (!(← Op.equal t (.bool a) (.bool b)))) : Sem Value).run P w = _
  simp [this]
theorem s_eqB {t yt : TypeId} {x y : Operand} {a b : Bool} (hu : P.underlying t = some .bool) (hx' : aeval F x = .bool a) (hy' : aeval F y = .bool b) :
    Step1 P ⟨d, .binOp .eql t x y yt, ty, pos, af, g⟩ F H (.bool (a == b)) H :=
  .pure fun m ac hx => by
    have h1 := hx x (by simp [Op.operands]); rw [hx'] at h1
    have h2 := hx y (by simp [Op.operands]); rw [hy'] at h2
    refine ⟨_, .bool _, fun w => ?_⟩
    simp only [execOp, h1.bool_inv, h2.bool_inv, Sem.run_bind]
    rw [show (eqGuard .eql t x y (.bool a) (.bool b)).run P w = .ok () w by simp [eqGuard]]
    simp only [Result.andThen_ok, eqB_run hu a b w rfl]
    rfl
theorem s_neB {t yt : TypeId} {x y : Operand} {a b : Bool} (hu : P.underlying t = some .bool) (hx' : aeval F x = .bool a) (hy' : aeval F y = .bool b) :
    Step1 P ⟨d, .binOp .neq t x y yt, ty, pos, af, g⟩ F H (.bool !(a == b)) H :=
  .pure fun m ac hx => by
    have h1 := hx x (by simp [Op.operands]); rw [hx'] at h1
    have h2 := hx y (by simp [Op.operands]); rw [hy'] at h2
    refine ⟨_, .bool _, fun w => ?_⟩
    simp only [execOp, h1.bool_inv, h2.bool_inv, Sem.run_bind]
    rw [show (eqGuard .neq t x y (.bool a) (.bool b)).run P w = .ok () w by simp [eqGuard]]
    simp only [Result.andThen_ok, neB_run hu a b w rfl]
    rfl
theorem eqGuard_agg {op : BinOp} {t : TypeId} (hg : P.eqGuardType P.depth t = false) (x y : Operand) (cs ds : Array Value) (w : World) : (eqGuard op t x y (.agg cs) (.agg ds)).run P w = .ok () w := by
  cases op <;> simp [eqGuard, hg]
theorem s_eqArr {t e yt : TypeId} {n b : Nat} {k : IntKind} {z : Value} {x y : Operand} {xs ys : List AV} (hg : P.eqGuardType P.depth t = false) (hu : P.underlying t = some (.array n e)) (he : P.underlying e = some (.int k)) (hs : TyIs P e 1 b z)
    (hx' : aeval F x = .agg xs) (hy' : aeval F y = .agg ys) (hlx : xs.length = n) (hly : ys.length = n) (hax : xs.all (AV.isInt k) = true) (hay : ys.all (AV.isInt k) = true) :
    Step1 P ⟨d, .binOp .eql t x y yt, ty, pos, af, g⟩ F H (.bool (AV.keqs xs ys)) H :=
  .pure fun m ac hx => by
    have h1 := hx x (by simp [Op.operands]); rw [hx'] at h1
    have h2 := hx y (by simp [Op.operands]); rw [hy'] at h2
    obtain ⟨cs, e1, r1⟩ := h1.agg_inv
    obtain ⟨ds, e2, r2⟩ := h2.agg_inv
    refine ⟨_, .bool _, fun w => ?_⟩
    have he : (Op.equal t (.agg cs) (.agg ds)).run P w = .ok (AV.keqs xs ys) w := equalIn_arr hu he hs 9998 hlx hly hax hay r1 r2
    have hb : (binOp .eql t (.agg cs) (.agg ds)).run P w = .ok (.bool (AV.keqs xs ys)) w := by
      show (do Pure.pure (.bool (← Op.equal t (.agg cs) (.agg ds))) : Sem Value).run P w = _
      simp [he]
    simp only [execOp, e1, e2, Sem.run_bind, eqGuard_agg hg, Result.andThen_ok, hb]
    rfl
theorem s_neArr {t e yt : TypeId} {n b : Nat} {k : IntKind} {z : Value} {x y : Operand} {xs ys : List AV} (hg : P.eqGuardType P.depth t = false) (hu : P.underlying t = some (.array n e)) (he : P.underlying e = some (.int k)) (hs : TyIs P e 1 b z)
    (hx' : aeval F x = .agg xs) (hy' : aeval F y = .agg ys) (hlx : xs.length = n) (hly : ys.length = n) (hax : xs.all (AV.isInt k) = true) (hay : ys.all (AV.isInt k) = true) :
    Step1 P ⟨d, .binOp .neq t x y yt, ty, pos, af, g⟩ F H (.bool !(AV.keqs xs ys)) H :=
  .pure fun m ac hx => by
    have h1 := hx x (by simp [Op.operands]); rw [hx'] at h1
    have h2 := hx y (by simp [Op.operands]); rw [hy'] at h2
    obtain ⟨cs, e1, r1⟩ := h1.agg_inv
    obtain ⟨ds, e2, r2⟩ := h2.agg_inv
    refine ⟨_, .bool _, fun w => ?_⟩
    have he : (Op.equal t (.agg cs) (.agg ds)).run P w = .ok (AV.keqs xs ys) w := equalIn_arr hu he hs 9998 hlx hly hax hay r1 r2
    have hb : (binOp .neq t (.agg cs) (.agg ds)).run P w = .ok (.bool !(AV.keqs xs ys)) w := by
      show (do Pure.pure (.bool (!(← Op.equal t (.agg cs) (.agg ds)))) : Sem Value).run P w = _
      simp [he]
    simp only [execOp, e1, e2, Sem.run_bind, eqGuard_agg hg, Result.andThen_ok, hb]
    rfl
/-- a slice held against nil -/
theorem s_eqNil {t e yt : TypeId} {x y : Operand} {s : Sl} (hu : P.underlying t = some (.slice e)) (hx' : aeval F x = .sl s) (hy' : aeval F y = .sl ⟨true, 0, 0, 0, 0, 0⟩) :
    Step1 P ⟨d, .binOp .eql t x y yt, ty, pos, af, g⟩ F H (.bool s.nil) H :=
  .pure fun m a hx => by
    have h1 := hx x (by simp [Op.operands]); rw [hx'] at h1
    have h2 := hx y (by simp [Op.operands]); rw [hy'] at h2
    have e2 := h2.slnil_inv
    refine ⟨_, .bool _, fun w => ?_⟩
    have hg : ∀ (v u : Value), (∃ p q r, v = .slice p q r) → (eqGuard .eql t x y v u).run P w = .ok () w := by
      rintro v u ⟨p, q, r, rfl⟩; simp [eqGuard]
    obtain ⟨ad, c, e1⟩ := h1.sl_len
    have hnil : ad.isNone = s.nil := by
      rcases h1.sl_inv with ⟨rfl, e3⟩ | ⟨ad', hn, _, _, _, e3⟩ | ⟨c', hn, _, _, _, _, _, e3⟩ <;> rw [e1] at e3 <;> injection e3 with e3 _ _ <;> subst e3 <;> simp_all
    simp only [execOp, Sem.run_bind, hg _ _ ⟨_, _, _, e1⟩, Result.andThen_ok]
    rw [e1, e2, eqSl_op _ _ _ _ _ _ w rfl (eqNilS_run hu ad s.len c w), hnil]
    rfl
theorem s_neNil {t e yt : TypeId} {x y : Operand} {s : Sl} (hu : P.underlying t = some (.slice e)) (hx' : aeval F x = .sl s) (hy' : aeval F y = .sl ⟨true, 0, 0, 0, 0, 0⟩) :
    Step1 P ⟨d, .binOp .neq t x y yt, ty, pos, af, g⟩ F H (.bool !s.nil) H :=
  .pure fun m a hx => by
    have h1 := hx x (by simp [Op.operands]); rw [hx'] at h1
    have h2 := hx y (by simp [Op.operands]); rw [hy'] at h2
    have e2 := h2.slnil_inv
    refine ⟨_, .bool _, fun w => ?_⟩
    have hg : ∀ (v u : Value), (∃ p q r, v = .slice p q r) → (eqGuard .neq t x y v u).run P w = .ok () w := by
      rintro v u ⟨p, q, r, rfl⟩; simp [eqGuard]
    obtain ⟨ad, c, e1⟩ := h1.sl_len
    have hnil : ad.isNone = s.nil := by
      rcases h1.sl_inv with ⟨rfl, e3⟩ | ⟨ad', hn, _, _, _, e3⟩ | ⟨c', hn, _, _, _, _, _, e3⟩ <;> rw [e1] at e3 <;> injection e3 with e3 _ _ <;> subst e3 <;> simp_all
    simp only [execOp, Sem.run_bind, hg _ _ ⟨_, _, _, e1⟩, Result.andThen_ok]
    rw [e1, e2, neSl_op _ _ _ _ _ _ w rfl (eqNilS_run hu ad s.len c w), hnil]
    rfl
theorem s_mlen {x : Operand} {t k e : TypeId} {b n : Nat} {ats : Array TypeId} (ha : ats[0]? = some t) (hu : P.underlying t = some (.map k e)) (hx' : aeval F x = .map b) (hm : H.mlen b = some n) :
    Step1 P ⟨d, .call ⟨.builtin .len, #[x], ats⟩, ty, pos, af, g⟩ F H (.int .i64 n) H := by
  unfold Hp.mlen at hm
  split at hm
  · rename_i kt es hg
    injection hm with hm
    subst hm
    exact s_lenM ha hu hx' hg
  · cases hm

theorem s_clear {x : Operand} {t e : TypeId} {s : Sl} {es by' : Nat} {z : Value} {H1 : Hp} {ats : Array TypeId} (ha : ats[0]? = some t) (hu : P.underlying t = some (.slice e)) (ht : TyIs P e es by' z)
    (hx' : aeval F x = .sl s) (hz : (ofVal z).isU = false) (hzl : (ofVal z).cellsA.length = es) (hs : H.sts s.b s.o (zerosA (ofVal z).cellsA (s.len * es)) = some H1) (h0 : 0 < es) (ho : (ofVal z).cellsA.all AV.one = true) :
    Step1 P ⟨d, .call ⟨.builtin .clear, #[x], ats⟩, ty, pos, af, g⟩ F H (.tup []) H1 :=
  .of_run (Nat.le_of_eq (sts_mono hs).symm) fun B w0 m a w hx hi => by
    have h1 := hx x (by simp [Op.operands, Call.operands]); rw [hx'] at h1
    have hcz : z.cells.size = es := by
      have := (cells_rel (RV.ofVal m H.n z) (AV.ne_undef hz)).1
      simp at this; omega
    have hrel := zeros_rel (m := m) (n := H.n) hz (by omega) (s.len * es)
    rcases h1.sl_inv with ⟨rfl, e1⟩ | ⟨ad, _, _, hl, _, e1⟩ | ⟨c, _, _, _, _, _, _, e1⟩
    · simp [zerosA, Hp.sts] at hs
      subst hs
      exact ⟨.tuple #[], w, m, by simp [execOp, resolve, invoke, builtin, Builtin.clear_, ha, e1, run_und hu], .refl _ _, .tup_mk .nil, hi⟩
    · rw [hl, Nat.zero_mul] at hs
      simp [zerosA, Hp.sts] at hs
      subst hs
      exact ⟨.tuple #[], w, m, by simp [execOp, resolve, invoke, builtin, Builtin.clear_, ha, e1, run_und hu], .refl _ _, .tup_mk .nil, hi⟩
    · by_cases hl : s.len = 0
      · rw [hl, Nat.zero_mul] at hs
        simp [zerosA, Hp.sts] at hs
        subst hs
        exact ⟨.tuple #[], w, m, by simp [execOp, resolve, invoke, builtin, Builtin.clear_, ha, e1, hl, run_und hu], .refl _ _, .tup_mk .nil, hi⟩
      · obtain ⟨w', hst, hi', _⟩ := hi.sts (o := s.o) (i := 0) P (H1 := H1) hi (xs := zerosA (ofVal z).cellsA (s.len * es)) hs hrel (fun y hy => zerosA_one ho (by omega) _ y hy)
        refine ⟨.tuple #[], w', m, ?_, .refl _ _, .tup_mk .nil, hi'⟩
        have hzz : (Builtin.zeroCells z.cells s.len).toList = ((Array.range (s.len * es)).map fun i => z.cells[i % z.cells.size]!).toList := by
          unfold Builtin.zeroCells; rw [hcz]
        have hz2 : (storeCells ⟨(m s.b).blk, (m s.b).sh + s.o, none⟩ (Builtin.zeroCells z.cells s.len).toList).run P w = .ok () w' := by rw [hzz]; exact hst
        simp only [execOp, resolve, invoke, builtin, Builtin.clear_, ha, Sem.run_bind, Sem.run_pure, Result.andThen_ok, Array.map_push, List.map_toArray, List.map_cons, List.map_nil, e1, List.getElem?_toArray, List.getElem?_cons_zero, run_und hu]
        obtain ⟨n, hn⟩ : ∃ n, s.len = n + 1 := ⟨s.len - 1, by omega⟩
        rw [hn] at hz2 ⊢
        simp [run_zero ht, hz2]

theorem s_copy {x y : Operand} {t e : TypeId} {s r : Sl} {es by' : Nat} {z : Value} {p : Nat × Hp} {ats : Array TypeId} (ha : ats[0]? = some t) (hu : P.underlying t = some (.slice e)) (ht : TyIs P e es by' z)
    (hx' : aeval F x = .sl s) (hy' : aeval F y = .sl r) (hs : H.cpy es s r = some p) :
    Step1 P ⟨d, .call ⟨.builtin .copy, #[x, y], ats⟩, ty, pos, af, g⟩ F H (.int .i64 p.1) p.2 := by
  unfold Hp.cpy at hs
  simp only [Option.bind_eq_some_iff] at hs
  obtain ⟨vs, hl, hs⟩ := hs
  split at hs
  case isFalse => cases hs
  rename_i hone
  have hmono : H.n ≤ p.2.n := by
    split at hs
    · injection hs with hs; subst hs; exact Nat.le_refl _
    · obtain ⟨H1, h1, h2⟩ := Option.map_eq_some_iff.1 hs
      subst h2
      exact Nat.le_of_eq (sts_mono h1).symm
  refine .of_run hmono fun B w0 m a w hx hi => ?_
  have h1 := hx x (by simp [Op.operands, Call.operands]); rw [hx'] at h1
  have h2 := hx y (by simp [Op.operands, Call.operands]); rw [hy'] at h2
  obtain ⟨us, hf, hrel⟩ := firstCells_run' (P := P) hi h2 (Nat.min_le_left _ _) hl
  obtain ⟨ra, rc, er⟩ := h2.sl_len
  have hlen : (Builtin.lenOf (a.eval y)).run P w = .ok r.len w := by rw [er]; simp [Builtin.lenOf]
  have head : ∀ (sa : Option Addr) (sc : Nat) (w' : World), a.eval x = .slice sa s.len sc → ((match sa with | some ad => storeCells ad us.toList | none => Pure.pure () : Sem Unit).run P w = .ok () w') →
      (execOp a.eval ⟨d, .call ⟨.builtin .copy, #[x, y], ats⟩, ty, pos, af, g⟩).run P w = .ok (.value (.int .i64 ((min r.len s.len : Nat) : Int))) w' := by
    intro sa sc w' e1 hst
    simp only [execOp, resolve, invoke, builtin, Builtin.copy_, ha, Sem.run_bind, Sem.run_pure, Result.andThen_ok, List.map_toArray, List.map_cons, List.map_nil, e1, List.getElem?_toArray, List.getElem?_cons_zero, List.getElem?_cons_succ, run_und hu, hlen, run_size ht]
    have hf' : (Builtin.firstCells es (Nat.min r.len s.len) (a.eval y)).run P w = .ok us w := hf
    rw [hf']
    simp only [Result.andThen_ok]
    cases sa with
    | none => simp at hst; subst hst; simp [goInt]
    | some ad => simp only [Sem.run_bind]; rw [hst]; simp [goInt]
  rcases h1.sl_inv with ⟨rfl, e1⟩ | ⟨ad, hn, _, hl0, _, e1⟩ | ⟨c, hn, _, _, _, _, _, e1⟩
  · simp at hs
    subst hs
    refine ⟨_, w, m, head none 0 w e1 (by simp), .refl _ _, ?_, hi⟩
    simp
    exact .int _ _
  · rw [hn] at hs
    have hv0 : vs = [] := by
      rw [hl0] at hl
      simpa [Hp.lds] using hl.symm
    subst hv0
    simp [Hp.sts] at hs
    subst hs
    have hus : us = #[] := by have := hrel.1; simpa using this.symm
    subst hus
    refine ⟨_, w, m, head (some ad) 0 w (by rw [e1, hl0]) (by simp [storeCells]), .refl _ _, ?_, hi⟩
    exact .int _ _
  · rw [hn] at hs
    simp only [Bool.false_eq_true, if_false] at hs
    obtain ⟨H1, hh, hp⟩ := Option.map_eq_some_iff.1 hs
    subst hp
    obtain ⟨w', hst, hi', _⟩ := hi.sts (o := s.o) (i := 0) P hi (by simpa using hh) hrel (by simpa using hone)
    exact ⟨_, w', m, head _ c w' e1 hst, .refl _ _, .int _ _, hi'⟩
end
end Go.Lt
