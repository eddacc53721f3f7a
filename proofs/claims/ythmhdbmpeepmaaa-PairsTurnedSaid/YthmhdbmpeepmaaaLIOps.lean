/- THE LIBRARY OF THESE PROOFS, A PART: an abstract heap, and that the model's steps keep to it. Nothing is asked of the input. -/
import Derived.Test.YthmhdbmpeepmaaaLMOps
import GoSem.Core.Layout
set_option linter.unusedVariables false
set_option linter.unusedSimpArgs false
namespace Go.Lt
open Go.RowKit

theorem RV.sl_inv {m : Nat → Loc} {n : Nat} {s : Sl} {v : Value} (h : RV m n (.sl s) v) :
    (s = ⟨true, 0, 0, 0, 0, 0⟩ ∧ v = .slice none 0 0) ∨ (∃ a, s.nil = false ∧ s.b < n ∧ s.len = 0 ∧ s.cap = 0 ∧ v = .slice (some a) 0 0) ∨
    (∃ cap', s.nil = false ∧ s.b < n ∧ s.len ≤ s.cap ∧ s.cap ≤ cap' ∧ (s.opn = 0 → cap' = s.cap) ∧ (∀ p, s.opn = p + 1 → (m s.b).sh + s.o + cap' * (p + 1) ≤ (m s.b).sz) ∧
      v = .slice (some ⟨(m s.b).blk, (m s.b).sh + s.o, none⟩) s.len cap') := by
  cases h with
  | slnil => exact .inl ⟨rfl, rfl⟩
  | sle b o p h a => exact .inr (.inl ⟨a, rfl, h, rfl, rfl, rfl⟩)
  | sl b o len cap h hl => exact .inr (.inr ⟨cap, rfl, h, hl, Nat.le_refl _, fun _ => rfl, fun p hp => (by cases hp), rfl⟩)
  | slo b o len cap p cap' h hl hc hz => exact .inr (.inr ⟨cap', rfl, h, hl, hc, fun hp => (by cases hp), fun p' hp => (by cases hp; exact hz), rfl⟩)
theorem RV.sl_len {m : Nat → Loc} {n : Nat} {s : Sl} {v : Value} (h : RV m n (.sl s) v) : ∃ a c, v = .slice a s.len c := by
  rcases h.sl_inv with ⟨rfl, e⟩ | ⟨a, _, _, h1, _, e⟩ | ⟨c, _, _, _, _, _, _, e⟩
  · exact ⟨_, _, e⟩
  · exact ⟨_, _, by rw [h1]; exact e⟩
  · exact ⟨_, _, e⟩

theorem RV.sl_mk {m : Nat → Loc} {n : Nat} {s : Sl} {cap' : Nat} (h1 : s.nil = false) (h2 : s.b < n) (h3 : s.len ≤ s.cap) (h4 : s.cap ≤ cap') (h5 : s.opn = 0 → cap' = s.cap)
    (h6 : ∀ p, s.opn = p + 1 → (m s.b).sh + s.o + cap' * (p + 1) ≤ (m s.b).sz) : RV m n (.sl s) (.slice (some ⟨(m s.b).blk, (m s.b).sh + s.o, none⟩) s.len cap') := by
  obtain ⟨nil, b, o, len, cap, opn⟩ := s
  simp only at h1 h2 h3 h4 h5 h6 ⊢
  subst h1
  cases opn with
  | zero => rw [h5 rfl]; exact .sl b o len cap h2 h3
  | succ p => exact .slo b o len cap p cap' h2 h3 h4 (h6 p rfl)

section
variable {P : Program} {F : Fr} {H : Hp} {d : Option Tmp} {ty : TypeId} {pos : String} {af : Array Edge} {g : Option (Nat × Bool)}

theorem s_idx {t e : TypeId} {s by' : Nat} {z : Value} {x i : Operand} {l : Sl} {k : IntKind} {iv : Int} (hu : P.underlying t = some (.slice e)) (ht : TyIs P e s by' z)
    (hx' : aeval F x = .sl l) (hi' : aeval F i = .int k iv) (h : 0 ≤ iv ∧ iv < l.len) :
    Step1 P ⟨d, .indexAddr t x i, ty, pos, af, g⟩ F H (.ptr l.b (l.o + iv.toNat * s)) H :=
  .pure fun m a hx => by
    have h1 := hx x (by simp [Op.operands]); rw [hx'] at h1
    have h2 := hx i (by simp [Op.operands]); rw [hi'] at h2
    have h2 := h2.int_inv
    rcases h1.sl_inv with ⟨rfl, _⟩ | ⟨_, _, _, h0, _, _⟩ | ⟨cap', hn, hb, _, _, _, _, e1⟩
    · simp at h; omega
    · omega
    · refine ⟨_, .ptr l.b (l.o + iv.toNat * s) hb, fun w => ?_⟩
      simp only [execOp, e1, h2, Instr.indexAt, asIntOf, Sem.run_bind, Sem.run_pure, Result.andThen_ok, run_und hu]
      simp only [Bool.and_false]
      simp [h.1, h.2, run_size ht, addr_add, Nat.add_assoc]

theorem s_idxA {t e : TypeId} {s by' n b o : Nat} {z : Value} {x i : Operand} {k : IntKind} {iv : Int} (hu : P.underlying t = some (.array n e)) (ht : TyIs P e s by' z)
    (hx' : aeval F x = .ptr b o) (hi' : aeval F i = .int k iv) (h : 0 ≤ iv ∧ iv < n) :
    Step1 P ⟨d, .indexAddr t x i, ty, pos, af, g⟩ F H (.ptr b (o + iv.toNat * s)) H :=
  .pure fun m a hx => by
    have h1 := hx x (by simp [Op.operands]); rw [hx'] at h1
    have h2 := hx i (by simp [Op.operands]); rw [hi'] at h2
    have h2 := h2.int_inv
    obtain ⟨hb, e1⟩ := h1.ptr_inv
    refine ⟨_, .ptr b (o + iv.toNat * s) hb, fun w => ?_⟩
    simp only [execOp, e1, h2, Instr.indexAt, asIntOf, Sem.run_bind, Sem.run_pure, Result.andThen_ok, run_und hu, Instr.sureAddr]
    simp [h.1, h.2, run_size ht, addr_add, Nat.add_assoc]

theorem part_run {e : TypeId} {u : TypeDesc} {s by' : Nat} {z : Value} {m : Nat → Loc} {n : Nat} {xs : List AV} {cs : Array Value} (hu : P.underlying e = some u) (ht : TyIs P e s by' z)
    (hr : RVs m n xs cs.toList) {off : Nat} {v : AV}
    (hv : (if aggD u then (if off + s ≤ xs.length then some (AV.agg ((xs.drop off).take s)) else none) else xs[off]?) = some v) :
    ∃ v', RV m n v v' ∧ ∀ w, (part e cs off).run P w = .ok v' w := by
  have hl : xs.length = cs.size := by simpa using hr.1
  by_cases ha : aggD u = true
  · rw [if_pos ha] at hv
    split at hv
    case isFalse => cases hv
    rename_i hle
    injection hv with hv
    subst hv
    refine ⟨.agg (cs.extract off (off + s)), .agg_mk ⟨by simp; omega, fun i h1 h2 => ?_⟩, fun w => by simp [part, run_isAgg hu, ha, run_size ht]⟩
    have h3 : i < s := by simp at h1; omega
    have := hr.2 (off + i) (by omega) (by simp; omega)
    simpa using this
  · rw [if_neg ha] at hv
    obtain ⟨hlt, rfl⟩ := List.getElem?_eq_some_iff.1 hv
    have h2 : off < cs.size := by omega
    have hv := hr.2 off hlt (by simpa using h2)
    rw [Array.getElem_toList] at hv
    refine ⟨cs[off], hv, fun w => ?_⟩
    simp at ha
    simp [part, run_isAgg hu, ha, h2]

/-- a part of an aggregate -/
def apart (agg : Bool) (s : Nat) (xs : List AV) (off : Nat) : Option AV :=
  if agg then (if off + s ≤ xs.length then some (AV.agg ((xs.drop off).take s)) else none) else xs[off]?

theorem s_field {t : TypeId} {x : Operand} {i : Nat} {fs : Array Field} {f : Field} {u : TypeDesc} {s by' : Nat} {z : Value} {xs : List AV} {v : AV} (hu : P.underlying t = some (.struct fs)) (hf : fs[i]? = some f)
    (hfu : P.underlying f.type = some u) (ht : TyIs P f.type s by' z) (hx' : aeval F x = .agg xs) (hv : apart (aggD u) s xs f.offset = some v) :
    Step1 P ⟨d, .field t x i, ty, pos, af, g⟩ F H v H :=
  .pure fun m a hx => by
    have h1 := hx x (by simp [Op.operands]); rw [hx'] at h1
    obtain ⟨cs, e1, hr⟩ := h1.agg_inv
    obtain ⟨v', hv', hrun⟩ := part_run hfu ht hr hv
    refine ⟨v', hv', fun w => ?_⟩
    simp [execOp, e1, Instr.field, run_und hu, hf, asAgg, hrun]

theorem s_index {t e : TypeId} {x i : Operand} {n : Nat} {u : TypeDesc} {s by' : Nat} {z : Value} {xs : List AV} {v : AV} {k : IntKind} {iv : Int} (hu : P.underlying t = some (.array n e))
    (hfu : P.underlying e = some u) (ht : TyIs P e s by' z) (hx' : aeval F x = .agg xs) (hi' : aeval F i = .int k iv) (h : 0 ≤ iv ∧ iv < n) (hv : apart (aggD u) s xs (iv.toNat * s) = some v) :
    Step1 P ⟨d, .index t x i, ty, pos, af, g⟩ F H v H :=
  .pure fun m a hx => by
    have h1 := hx x (by simp [Op.operands]); rw [hx'] at h1
    have h2 := hx i (by simp [Op.operands]); rw [hi'] at h2
    have h2 := h2.int_inv
    obtain ⟨cs, e1, hr⟩ := h1.agg_inv
    obtain ⟨v', hv', hrun⟩ := part_run hfu ht hr hv
    refine ⟨v', hv', fun w => ?_⟩
    simp [execOp, e1, h2, Instr.index, run_und hu, asIntOf, h.1, h.2, run_size ht, hrun]

/-- a byte of a string -/
def bt (s : ByteArray) (i : Int) : Int := ((s.get! i.toNat).toNat : Int)
theorem s_indexStr {t : TypeId} {x i : Operand} {s : ByteArray} {k : IntKind} {iv : Int} (hu : P.underlying t = some .string) (hx' : aeval F x = .str s) (hi' : aeval F i = .int k iv)
    (h : 0 ≤ iv ∧ iv < s.size) : Step1 P ⟨d, .index t x i, ty, pos, af, g⟩ F H (.int .u8 (bt s iv)) H :=
  .pure fun m a hx => by
    have h1 := hx x (by simp [Op.operands]); rw [hx'] at h1
    have h2 := hx i (by simp [Op.operands]); rw [hi'] at h2
    have h2 := h2.int_inv
    have h1 := h1.str_inv
    refine ⟨_, .int _ _, fun w => ?_⟩
    have hlt : iv.toNat < s.size := by omega
    have hb : s[iv.toNat]? = some (s.get! iv.toNat) := by
      rw [getElem?_pos s iv.toNat hlt]
      congr 1
      simp [ByteArray.get!, getElem!_pos, hlt]
      rfl
    simp [execOp, h1, h2, Instr.index, run_und hu, asIntOf, h.1, hb, bt]

theorem s_fieldAddr {t : TypeId} {x : Operand} {i : Nat} {fs : Array Field} {f : Field} {s by' b o : Nat} {z : Value} (hu : P.underlying t = some (.struct fs)) (hf : fs[i]? = some f)
    (ht : TyIs P f.type (s + 1) by' z) (hx' : aeval F x = .ptr b o) :
    Step1 P ⟨d, .fieldAddr t x i, ty, pos, af, g⟩ F H (.ptr b (o + f.offset)) H :=
  .pure fun m a hx => by
    have h1 := hx x (by simp [Op.operands]); rw [hx'] at h1
    obtain ⟨hb, e1⟩ := h1.ptr_inv
    refine ⟨_, .ptr b (o + f.offset) hb, fun w => ?_⟩
    simp [execOp, e1, Instr.fieldAt, run_und hu, hf, Instr.sureAddr, fieldPlace, run_size ht, addr_add, Nat.add_assoc]

/-! lengths -/
theorem s_lenS {x : Operand} {t e : TypeId} {l : Sl} {ats : Array TypeId} (ha : ats[0]? = some t) (hu : P.underlying t = some (.slice e)) (hx' : aeval F x = .sl l) :
    Step1 P ⟨d, .call ⟨.builtin .len, #[x], ats⟩, ty, pos, af, g⟩ F H (.int .i64 l.len) H :=
  .pure fun m a hx => by
    have h1 := hx x (by simp [Op.operands, Call.operands]); rw [hx'] at h1
    obtain ⟨_, _, e1⟩ := h1.sl_len
    exact ⟨_, .int _ _, fun w => by simp [execOp, resolve, invoke, builtin, Builtin.len_, ha, e1, run_und hu, goInt]⟩
theorem s_lenStr {x : Operand} {t : TypeId} {l : ByteArray} {ats : Array TypeId} (ha : ats[0]? = some t) (hu : P.underlying t = some .string) (hx' : aeval F x = .str l) :
    Step1 P ⟨d, .call ⟨.builtin .len, #[x], ats⟩, ty, pos, af, g⟩ F H (.int .i64 l.size) H :=
  .pure fun m a hx => by
    have h1 := hx x (by simp [Op.operands, Call.operands]); rw [hx'] at h1
    have h1 := h1.str_inv
    exact ⟨_, .int _ _, fun w => by simp [execOp, resolve, invoke, builtin, Builtin.len_, ha, h1, run_und hu, goInt]⟩
theorem s_lenA {x : Operand} {t e : TypeId} {n : Nat} {ats : Array TypeId} (ha : ats[0]? = some t) (hu : P.underlying t = some (.array n e)) :
    Step1 P ⟨d, .call ⟨.builtin .len, #[x], ats⟩, ty, pos, af, g⟩ F H (.int .i64 n) H :=
  .pure fun m a hx =>
    ⟨_, .int _ _, fun w => by simp [execOp, resolve, invoke, builtin, Builtin.len_, ha, run_und hu, goInt]⟩
theorem s_lenM {x : Operand} {t k e : TypeId} {b : Nat} {kt : KT} {es : List (AV × AV)} {ats : Array TypeId} (ha : ats[0]? = some t) (hu : P.underlying t = some (.map k e)) (hx' : aeval F x = .map b) (hm : H.get b = some (.map kt es)) :
    Step1 P ⟨d, .call ⟨.builtin .len, #[x], ats⟩, ty, pos, af, g⟩ F H (.int .i64 es.length) H :=
  .of_run (Nat.le_refl _) fun B w0 m a w hx hi => by
    have h1 := hx x (by simp [Op.operands, Call.operands]); rw [hx'] at h1
    obtain ⟨hb, e1⟩ := h1.map_inv
    obtain ⟨ents, clock, hh, _, hs, _⟩ := hi.rel b _ hm
    refine ⟨_, w, m, ?_, .refl _ _, .int .i64 es.length, hi⟩
    have hg : (getObj (m b).blk).run P w = .ok (.map ents clock) w := by simp [getObj, Sem.run, hh]
    simp [execOp, resolve, invoke, builtin, Builtin.len_, ha, e1, run_und hu, goInt, hg, hs]
theorem s_capS {x : Operand} {t e : TypeId} {l : Sl} {ats : Array TypeId} (ha : ats[0]? = some t) (hu : P.underlying t = some (.slice e)) (hx' : aeval F x = .sl l) (ho : l.opn = 0) :
    Step1 P ⟨d, .call ⟨.builtin .cap, #[x], ats⟩, ty, pos, af, g⟩ F H (.int .i64 l.cap) H :=
  .pure fun m a hx => by
    have h1 := hx x (by simp [Op.operands, Call.operands]); rw [hx'] at h1
    rcases h1.sl_inv with ⟨rfl, e1⟩ | ⟨a0, _, _, _, hc, e1⟩ | ⟨cap', hn, hb, _, _, h0, _, e1⟩
    · exact ⟨_, .int _ _, fun w => by simp [execOp, resolve, invoke, builtin, Builtin.cap_, ha, e1, run_und hu, goInt]⟩
    · rw [hc]
      exact ⟨_, .int _ _, fun w => by simp [execOp, resolve, invoke, builtin, Builtin.cap_, ha, e1, run_und hu, goInt]⟩
    · rw [h0 ho] at e1
      exact ⟨_, .int _ _, fun w => by simp [execOp, resolve, invoke, builtin, Builtin.cap_, ha, e1, run_und hu, goInt]⟩

theorem s_min2 {x y : Operand} {k : IntKind} {i j : Int} {ats : Array TypeId} (hx' : aeval F x = .int k i) (hy' : aeval F y = .int k j) :
    Step1 P ⟨d, .call ⟨.builtin .min, #[x, y], ats⟩, ty, pos, af, g⟩ F H (.int k (if j < i then j else i)) H :=
  .pure fun m a hx => by
    have h1 := hx x (by simp [Op.operands, Call.operands]); rw [hx'] at h1
    have h2 := hx y (by simp [Op.operands, Call.operands]); rw [hy'] at h2
    exact ⟨_, .int _ _, fun w => by simp [execOp, resolve, invoke, builtin, Builtin.min_, Builtin.min2, h1.int_inv, h2.int_inv]⟩
theorem s_max2 {x y : Operand} {k : IntKind} {i j : Int} {ats : Array TypeId} (hx' : aeval F x = .int k i) (hy' : aeval F y = .int k j) :
    Step1 P ⟨d, .call ⟨.builtin .max, #[x, y], ats⟩, ty, pos, af, g⟩ F H (.int k (if i < j then j else i)) H :=
  .pure fun m a hx => by
    have h1 := hx x (by simp [Op.operands, Call.operands]); rw [hx'] at h1
    have h2 := hx y (by simp [Op.operands, Call.operands]); rw [hy'] at h2
    exact ⟨_, .int _ _, fun w => by simp [execOp, resolve, invoke, builtin, Builtin.max_, Builtin.max2, h1.int_inv, h2.int_inv]⟩
theorem s_convInt {src dst : TypeId} {u : TypeDesc} {x : Operand} {k k' : IntKind} {i : Int} (hs : P.underlying src = some u) (hd : P.underlying dst = some (.int k')) (hx' : aeval F x = .int k i) :
    Step1 P ⟨d, .convert src dst x, ty, pos, af, g⟩ F H (.int k' (k'.wrap i)) H :=
  .pure fun m a hx => by
    have h1 := hx x (by simp [Op.operands]); rw [hx'] at h1
    exact ⟨_, .int _ _, fun w => by simp [execOp, h1.int_inv, convert, run_und hs, run_und hd, Conv.intToInt]⟩
theorem s_convStr {src dst : TypeId} {u : TypeDesc} {x : Operand} {s : ByteArray} (hs : P.underlying src = some u) (hd : P.underlying dst = some .string) (hx' : aeval F x = .str s) :
    Step1 P ⟨d, .convert src dst x, ty, pos, af, g⟩ F H (.str s) H :=
  .pure fun m a hx => by
    have h1 := hx x (by simp [Op.operands]); rw [hx'] at h1
    exact ⟨_, .str _, fun w => by simp [execOp, h1.str_inv, convert, run_und hs, run_und hd]⟩
end
end Go.Lt
