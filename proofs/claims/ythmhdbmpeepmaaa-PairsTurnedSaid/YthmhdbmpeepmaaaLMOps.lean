/- THE LIBRARY OF THESE PROOFS, A PART: an abstract heap, and that the model's steps keep to it. Nothing is asked of the input. -/
import Derived.Test.YthmhdbmpeepmaaaLCtl
set_option linter.unusedVariables false
set_option linter.unusedSimpArgs false
namespace Go.Lt
open Go.RowKit

/-- what is known of a type -/
def TyIs (P : Program) (t : TypeId) (size bytes : Nat) (zero : Value) : Prop :=
  (P.info? t).map (fun i => (i.size, i.bytes, i.zero)) = some (size, bytes, some zero)
def aggD : TypeDesc → Bool
  | .struct _ => true
  | .array .. => true
  | _ => false

section runs
variable {P : Program} {w : World}
theorem run_und {t : TypeId} {u : TypeDesc} (h : P.underlying t = some u) : (underlying t).run P w = .ok u w := by simp [underlying, h]
theorem run_isAgg {t : TypeId} {u : TypeDesc} (h : P.underlying t = some u) : (isAgg t).run P w = .ok (aggD u) w := by
  simp only [isAgg, Sem.run_bind, run_und h, Result.andThen_ok]
  cases u <;> simp [aggD]
theorem run_size {t : TypeId} {s b : Nat} {z : Value} (h : TyIs P t s b z) : (sizeOf t).run P w = .ok s w := by
  unfold TyIs at h
  cases hi : P.info? t with
  | none => simp [hi] at h
  | some i => simp [hi] at h; simp [sizeOf, typeInfo, hi, h.1]
theorem run_zero {t : TypeId} {s b : Nat} {z : Value} (h : TyIs P t s b z) : (zeroValue t).run P w = .ok z w := by
  unfold TyIs at h
  cases hi : P.info? t with
  | none => simp [hi] at h
  | some i => simp [hi] at h; simp [zeroValue, typeInfo, hi, h.2.2]
theorem run_info {t : TypeId} {s b : Nat} {z : Value} (h : TyIs P t s b z) : ∃ i, (typeInfo t).run P w = .ok i w ∧ i.size = s ∧ i.bytes = b ∧ i.zero = some z := by
  unfold TyIs at h
  cases hi : P.info? t with
  | none => simp [hi] at h
  | some i => simp [hi] at h; exact ⟨i, by simp [typeInfo, hi], h.1, h.2.1, h.2.2⟩
end runs

theorem cells_rel {m : Nat → Loc} {n : Nat} {x : AV} {v : Value} (h : RV m n x v) (hx : x ≠ .undef) : RVs m n x.cellsA v.cells.toList := by
  cases h with
  | undef v => exact absurd rfl hx
  | agg xs vs hx' h =>
    have : RVs m n xs vs.toList := ⟨by simpa using hx', fun i h1 h2 => by
      have := h i h1 (by simpa using h2)
      rwa [← Array.getElem_toList] at this⟩
    exact this
  | bool b => exact .cons (.bool b) .nil
  | int k i => exact .cons (.int k i) .nil
  | str s => exact .cons (.str s) .nil
  | ptr b o h => exact .cons (.ptr b o h) .nil
  | nilptr => exact .cons .nilptr .nil
  | slnil => exact .cons .slnil .nil
  | sl b o len cap h hl => exact .cons (.sl b o len cap h hl) .nil
  | slo b o len cap p cap' h hl hc hz => exact .cons (.slo b o len cap p cap' h hl hc hz) .nil
  | sle b o p h a => exact .cons (.sle b o p h a) .nil
  | map b h => exact .cons (.map b h) .nil
  | nilmap => exact .cons .nilmap .nil
  | fn f xs ys us vs hx1 hy h h' => exact .cons (.fn f xs ys us vs hx1 hy h h') .nil
  | yld l h => exact .cons (.yld l h) .nil
  | nilfn => exact .cons .nilfn .nil
  | iface t x v h => exact .cons (.iface t x v h) .nil
  | niliface => exact .cons .niliface .nil
  | tup xs vs hx1 h => exact .cons (.tup xs vs hx1 h) .nil
  | gptr g => exact .cons (.gptr g) .nil

def AV.isU : AV → Bool
  | .undef => true
  | _ => false
theorem AV.ne_undef {x : AV} (h : x.isU = false) : x ≠ .undef := by rintro rfl; cases h

section
variable {P : Program} {F : Fr} {H : Hp} {d : Option Tmp} {ty : TypeId} {pos : String} {af : Array Edge} {g : Option (Nat × Bool)}

/-- a new block of cells, in the world -/
theorem Inv.newRow {B : Nat} {w0 w : World} {m : Nat → Loc} (hi : Inv B w0 m H w) {cs : List AV} {vs : Array Value} (t : TypeId) (h : RVs m H.n cs vs.toList) :
    ∃ w' m', (newRow t vs).run P w = .ok ⟨w.heap.size, 0, none⟩ w' ∧ Ext H.n m m' ∧ Inv B w0 m' (H.push (.cells cs false)) w' ∧ m' H.n = ⟨w.heap.size, 0, vs.size⟩ :=
  ⟨w.alloc (.cells vs t), newLoc H m ⟨w.heap.size, 0, vs.size⟩, by simp [Go.newRow], newLoc_ext _ _ _, hi.pushCells t h cs (by simp), newLoc_new _ _ _⟩

theorem s_box {t : TypeId} {x : Operand} {v : AV} (hx' : aeval F x = v) (hu : v.isU = false) : Step1 P ⟨d, .box t x, ty, pos, af, g⟩ F H (.ptr H.n 0) (H.push (.cells v.cellsA false)) :=
  .of_run (by simp) fun B w0 m a w hx hi => by
    have h1 := hx x (by simp [Op.operands]); rw [hx'] at h1
    obtain ⟨w', m', hr, he, hi', hm⟩ := hi.newRow (P := P) t (cells_rel h1 (AV.ne_undef hu))
    refine ⟨.pointer (some ⟨w.heap.size, 0, none⟩), w', m', ?_, he, ?_, hi'⟩
    · simp [execOp, Instr.box, newVar, hr]
    · have := RV.ptr (m := m') (n := (H.push (.cells v.cellsA false)).n) H.n 0 (by simp)
      rw [hm] at this
      exact this

theorem one_cells {v : AV} (h : v.one = true) : v.cellsA = [v] ∧ v.isU = false := by
  cases v <;> simp [AV.one] at h <;> exact ⟨rfl, rfl⟩
theorem s_box1 {t : TypeId} {x : Operand} {v : AV} (hx' : aeval F x = v) (ho : v.one = true) : Step1 P ⟨d, .box t x, ty, pos, af, g⟩ F H (.ptr H.n 0) (H.push (.cells [v] false)) := by
  have := s_box (P := P) (H := H) (d := d) (ty := ty) (pos := pos) (af := af) (g := g) (t := t) hx' (one_cells ho).2
  rwa [(one_cells ho).1] at this

theorem s_alloc {t : TypeId} {s b : Nat} {z : Value} {zs : List AV} (ht : TyIs P t s b z) (hz : (ofVal z).cellsA = zs) (hu : (ofVal z).isU = false) :
    Step1 P ⟨d, .alloc t, ty, pos, af, g⟩ F H (.ptr H.n 0) (H.push (.cells zs false)) :=
  .of_run (by simp) fun B w0 m a w hx hi => by
    subst hz
    obtain ⟨w', m', hr, he, hi', hm⟩ := hi.newRow (P := P) t (cells_rel (RV.ofVal m H.n z) (AV.ne_undef hu))
    refine ⟨.pointer (some ⟨w.heap.size, 0, none⟩), w', m', ?_, he, ?_, hi'⟩
    · simp [execOp, Instr.alloc, run_zero ht, newVar, hr]
    · have := RV.ptr (m := m') (n := (H.push (.cells (ofVal z).cellsA false)).n) H.n 0 (by simp)
      rw [hm] at this
      exact this

theorem s_load {t : TypeId} {u : TypeDesc} {x : Operand} {b o : Nat} {v : AV} (hu : P.underlying t = some u) (hna : aggD u = false) (hx' : aeval F x = .ptr b o) (hl : H.ld b o = some v) :
    Step1 P ⟨d, .load t x, ty, pos, af, g⟩ F H v H :=
  .of_run (Nat.le_refl _) fun B w0 m a w hx hi => by
    have h1 := hx x (by simp [Op.operands]); rw [hx'] at h1
    obtain ⟨hb, e⟩ := h1.ptr_inv
    obtain ⟨v', hc, hv⟩ := hi.ld hl _ rfl
    refine ⟨v', w, m, ?_, .refl _ _, hv, hi⟩
    simp [execOp, e, Instr.loadAt, Instr.sureAddr, loadVar, run_isAgg hu, hna, hc]

theorem s_loads {t : TypeId} {u : TypeDesc} {x : Operand} {b o s by' : Nat} {z : Value} {vs : List AV} (hu : P.underlying t = some u) (hna : aggD u = true) (ht : TyIs P t s by' z)
    (hx' : aeval F x = .ptr b o) (hl : H.lds b o s = some vs) :
    Step1 P ⟨d, .load t x, ty, pos, af, g⟩ F H (.agg vs) H :=
  .of_run (Nat.le_refl _) fun B w0 m a w hx hi => by
    have h1 := hx x (by simp [Op.operands]); rw [hx'] at h1
    obtain ⟨hb, e⟩ := h1.ptr_inv
    obtain ⟨us, hlen, hc, hv⟩ := hi.lds P hl
    subst hlen
    refine ⟨.agg us.toArray, w, m, ?_, .refl _ _, .agg_mk (by simpa using hv), hi⟩
    have := loadCells_run (w := w) P hc
    simp [execOp, e, Instr.loadAt, Instr.sureAddr, loadVar, run_isAgg hu, hna, run_size ht, this]

theorem s_store {t : TypeId} {s by' : Nat} {z : Value} {x y : Operand} {b o : Nat} {v : AV} {H1 : Hp} (ht : TyIs P t 1 by' z)
    (hx' : aeval F x = .ptr b o) (hy' : aeval F y = v) (ho : v.one = true) (hl : H.st b o v = some H1) :
    Step1 P ⟨d, .store t x y, ty, pos, af, g⟩ F H .undef H1 :=
  .of_skip (by
    have : ∀ {H H1 : Hp}, H.st b o v = some H1 → H.n ≤ H1.n := by
      intro H H1 h
      unfold Hp.st at h
      split at h
      · split at h
        · injection h with h; subst h; simp
        · cases h
      · cases h
    exact this hl) fun B w0 m a w hx hi => by
    have h1 := hx x (by simp [Op.operands]); rw [hx'] at h1
    have h2 := hx y (by simp [Op.operands]); rw [hy'] at h2
    obtain ⟨hb, e⟩ := h1.ptr_inv
    obtain ⟨hr, hi', hn⟩ := hi.st hl h2 ho P
    refine ⟨_, m, ?_, .refl _ _, hi'⟩
    have hc : (a.eval y).cells = #[a.eval y] := by
      have := h2.one_conc ho
      cases ha : a.eval y <;> simp [ha, Value.oneCell', Value.cells] at this ⊢
    simp only [execOp, e, Instr.storeAt, Instr.sureAddr, storeVar, hc, Sem.run_bind, Sem.run_pure, Result.andThen_ok, run_size ht]
    simp only [List.size_toArray, List.length_cons, List.length_nil, Nat.zero_add, ne_eq, not_true_eq_false, if_false, storeCells, Sem.run_bind, Sem.run_pure]
    rw [addr_add, Nat.add_zero, hr]
    rfl

theorem s_stores {t : TypeId} {s by' : Nat} {z : Value} {x y : Operand} {b o : Nat} {vs : List AV} {H1 : Hp} (ht : TyIs P t s by' z)
    (hx' : aeval F x = .ptr b o) (hy' : aeval F y = .agg vs) (hlen : vs.length = s) (ho : vs.all AV.one = true) (hl : H.sts b o vs = some H1) (hn : H.n ≤ H1.n) :
    Step1 P ⟨d, .store t x y, ty, pos, af, g⟩ F H .undef H1 :=
  .of_skip hn fun B w0 m a w hx hi => by
    have h1 := hx x (by simp [Op.operands]); rw [hx'] at h1
    have h2 := hx y (by simp [Op.operands]); rw [hy'] at h2
    obtain ⟨hb, e⟩ := h1.ptr_inv
    obtain ⟨us, e2, hr⟩ := h2.agg_inv
    obtain ⟨w', hrun, hi', _⟩ := hi.sts (o := o) (i := 0) P hi hl hr (by simpa using ho)
    refine ⟨w', m, ?_, .refl _ _, hi'⟩
    have hsz : us.size = s := by have := hr.1; simp at this; omega
    simp [execOp, e, Instr.storeAt, Instr.sureAddr, storeVar, e2, Value.cells, run_size ht, hsz, hrun]

theorem s_nilCheck {x : Operand} {b o : Nat} (hx' : aeval F x = .ptr b o) : Step1 P ⟨d, .nilCheck x, ty, pos, af, g⟩ F H (.ptr b o) H :=
  .pure fun m a hx => by
    have h1 := hx x (by simp [Op.operands]); rw [hx'] at h1
    exact ⟨_, h1, fun w => by rw [h1.ptr_inv.2]; simp [execOp, h1.ptr_inv.2]⟩
theorem s_nilCheckF {x : Operand} {f : FuncId} {xs ys : List AV} (hx' : aeval F x = .fn f xs ys) : Step1 P ⟨d, .nilCheck x, ty, pos, af, g⟩ F H (.fn f xs ys) H :=
  .pure fun m a hx => by
    have h1 := hx x (by simp [Op.operands]); rw [hx'] at h1
    obtain ⟨us, vs, e, _, _⟩ := h1.fn_inv
    exact ⟨_, h1, fun w => by rw [e]; simp [execOp, e]⟩

theorem s_makeFunc {f : FuncId} {xs ys : Array Operand} {us vs : List AV} (hu : xs.toList.map (aeval F) = us) (hv : ys.toList.map (aeval F) = vs) :
    Step1 P ⟨d, .makeFunc (.func f) xs ys, ty, pos, af, g⟩ F H (.fn f us vs) H :=
  .pure fun m a hx => by
    subst hu; subst hv
    refine ⟨.func (.func f) (xs.map a.eval) (ys.map a.eval), .fn f _ _ _ _ (by simp) (by simp) (fun i h1 h2 => ?_) (fun i h1 h2 => ?_), fun w => by simp [execOp, Instr.makeFunc]⟩
    · simp only [List.getElem_map, Array.getElem_map, Array.getElem_toList]
      exact hx _ (by simp [Op.operands])
    · simp only [List.getElem_map, Array.getElem_map, Array.getElem_toList]
      exact hx _ (by simp [Op.operands])

theorem s_makeMap (kt : KT) {t : TypeId} {r : Option Operand} (hr : r = none) : Step1 P ⟨d, .makeMap t r, ty, pos, af, g⟩ F H (.map H.n) (H.push (.map kt [])) :=
  .of_run (by simp) fun B w0 m a w hx hi => by
    subst hr
    refine ⟨.map (some w.heap.size), w.alloc (.map #[] 0), newLoc H m ⟨w.heap.size, 0, 0⟩, ?_, newLoc_ext _ _ _, ?_, hi.push _ _ _ rfl ?_⟩
    · simp [execOp, Instr.makeMap]
    · have := RV.map (m := newLoc H m ⟨w.heap.size, 0, 0⟩) (n := (H.push (.map kt [])).n) H.n (by simp)
      rw [newLoc_new] at this
      exact this
    · refine ⟨#[], 0, ?_, ?_, rfl, fun e h => absurd h (by simp), fun i h1 => absurd h1 (by simp)⟩
      · show (w.heap.push _)[(newLoc H m _ H.n).blk]? = _
        rw [newLoc_new]; simp
      · rw [newLoc_new]; exact hi.hB
end
end Go.Lt
