/- THE LIBRARY OF THESE PROOFS, A PART: an abstract heap, and that the model's steps keep to it. Nothing is asked of the input. -/
import Derived.Test.YthmhdbmpeepmaaaLIOps
set_option linter.unusedVariables false
set_option linter.unusedSimpArgs false
namespace Go.Lt
open Go.RowKit

/-! ### slices -/
def opI (F : Fr) (x : Option Operand) (d : Int) : Option Int :=
  match x with
  | none => some d
  | some x => match aeval F x with
    | .int _ i => some i
    | _ => none
def OpI (x : Option Value) (d i : Nat) : Prop := (x = none ∧ i = d) ∨ ∃ k, x = some (.int k i)
theorem opI_rel {F : Fr} {m : Nat → Loc} {n : Nat} {a : Act} {x : Option Operand} {d : Nat} {i : Int} (h : opI F x d = some i) (h0 : 0 ≤ i)
    (hx : ∀ y, x = some y → RV m n (aeval F y) (a.eval y)) : OpI (x.map a.eval) d i.toNat := by
  cases x with
  | none => simp [opI] at h; exact .inl ⟨rfl, by omega⟩
  | some y =>
    have hr := hx y rfl
    simp only [opI] at h
    split at h
    · rename_i k j e
      injection h with h
      subst h
      rw [e] at hr
      exact .inr ⟨k, by simp [hr.int_inv]; omega⟩
    · cases h

section
variable {P : Program} {w : World}
theorem bound_run {k : IntKind} {i y : Nat} (h : i ≤ y) (c : BoundsCode) : (Instr.sliceBound (.int k i) y c).run P w = .ok i w := by
  simp [Instr.sliceBound, asIntOf, Int.ofNat_le.2 h]
theorem bounds_run2 {isS : Bool} {len cap l h : Nat} {lo hi : Option Value} (hlo : OpI lo 0 l) (hhi : OpI hi len h) (hl : l ≤ h) (hh : h ≤ cap) :
    (Instr.sliceBounds isS len cap lo hi none).run P w = .ok (l, h, cap) w := by
  rcases hlo with ⟨rfl, rfl⟩ | ⟨k, rfl⟩ <;> rcases hhi with ⟨rfl, rfl⟩ | ⟨k', rfl⟩ <;>
    simp [Instr.sliceBounds, bound_run hl, bound_run hh]
theorem bounds_run3 {isS : Bool} {len cap l h mx : Nat} {lo : Option Value} {k1 k2 : IntKind} (hlo : OpI lo 0 l) (hl : l ≤ h) (hh : h ≤ mx) (hm : mx ≤ cap) :
    (Instr.sliceBounds isS len cap lo (some (.int k1 h)) (some (.int k2 mx))).run P w = .ok (l, h, mx) w := by
  rcases hlo with ⟨rfl, rfl⟩ | ⟨k, rfl⟩ <;>
    simp [Instr.sliceBounds, bound_run hl, bound_run hh, bound_run hm]
end

/-- a part of a slice; es: the cells of an element -/
def Sl.cut (s : Sl) (es lo hi : Nat) : Sl := if s.nil then s else ⟨false, s.b, s.o + lo * es, hi - lo, s.cap - lo, s.opn⟩
def Sl.cut3 (s : Sl) (es lo hi mx : Nat) : Sl := if s.nil then s else ⟨false, s.b, s.o + lo * es, hi - lo, mx - lo, 0⟩

section
variable {P : Program} {F : Fr} {H : Hp} {d : Option Tmp} {ty : TypeId} {pos : String} {af : Array Edge} {g : Option (Nat × Bool)}

theorem cut_rel {m : Nat → Loc} {n : Nat} {s : Sl} {v : Value} {es lo hi : Nat} (h : RV m n (.sl s) v) (h1 : lo ≤ hi) (h2 : hi ≤ s.cap) (hes : s.opn = 0 ∨ s.opn = es) :
    ∃ a len cap, v = .slice a len cap ∧ hi ≤ cap ∧ RV m n (.sl (s.cut es lo hi)) (.slice (if cap = lo then a else a.map (·.add (lo * es))) (hi - lo) (cap - lo)) := by
  rcases h.sl_inv with ⟨rfl, e⟩ | ⟨a, hn, hb, hl, hc, e⟩ | ⟨cap', hn, hb, hl, hc, h0, hp, e⟩
  · simp only at h2
    refine ⟨_, _, _, e, h2, ?_⟩
    have : hi = 0 := by omega
    have : lo = 0 := by omega
    subst hi; subst lo
    simp [Sl.cut]
    exact .slnil
  · refine ⟨_, _, _, e, by omega, ?_⟩
    have : hi = 0 := by omega
    have : lo = 0 := by omega
    subst hi; subst lo
    simp only [Sl.cut, hn, hc]
    exact .sle _ _ _ hb _
  · refine ⟨_, _, _, e, by omega, ?_⟩
    have hcut : s.cut es lo hi = ⟨false, s.b, s.o + lo * es, hi - lo, s.cap - lo, s.opn⟩ := by simp [Sl.cut, hn]
    by_cases hz : cap' = lo
    · rw [if_pos hz]
      have e1 : hi - lo = 0 := by omega
      have e2 : s.cap - lo = 0 := by omega
      have e3 : cap' - lo = 0 := by omega
      rw [hcut, e1, e2, e3]
      exact .sle _ _ _ hb _
    · rw [if_neg hz]
      have ha : (some (⟨(m s.b).blk, (m s.b).sh + s.o, none⟩ : Addr)).map (·.add (lo * es)) = some ⟨(m s.b).blk, (m s.b).sh + (s.o + lo * es), none⟩ := by
        simp [addr_add, Nat.add_assoc]
      rw [ha, hcut]
      refine RV.sl_mk (s := ⟨false, s.b, s.o + lo * es, hi - lo, s.cap - lo, s.opn⟩) rfl hb (by simp only; omega) (by simp only; omega) (fun h => by simp only at h ⊢; rw [h0 h]) (fun p hp' => ?_)
      simp only at hp' ⊢
      have hes' : es = p + 1 := by omega
      subst hes'
      have := hp p hp'
      have : lo * (p + 1) + (cap' - lo) * (p + 1) = cap' * (p + 1) := by rw [← Nat.add_mul]; congr 1; omega
      omega

theorem cut3_rel {m : Nat → Loc} {n : Nat} {s : Sl} {v : Value} {es lo hi mx : Nat} (h : RV m n (.sl s) v) (h1 : lo ≤ hi) (h2 : hi ≤ mx) (h3 : mx ≤ s.cap) :
    ∃ a len cap, v = .slice a len cap ∧ mx ≤ cap ∧ RV m n (.sl (s.cut3 es lo hi mx)) (.slice (if mx = lo then a else a.map (·.add (lo * es))) (hi - lo) (mx - lo)) := by
  rcases h.sl_inv with ⟨rfl, e⟩ | ⟨a, hn, hb, hl, hc, e⟩ | ⟨cap', hn, hb, hl, hc, h0, hp, e⟩
  · simp only at h3
    refine ⟨_, _, _, e, h3, ?_⟩
    have : mx = 0 := by omega
    have : hi = 0 := by omega
    have : lo = 0 := by omega
    subst hi; subst lo; subst mx
    simp [Sl.cut3]
    exact .slnil
  · refine ⟨_, _, _, e, by omega, ?_⟩
    have : mx = 0 := by omega
    have : hi = 0 := by omega
    have : lo = 0 := by omega
    subst hi; subst lo; subst mx
    simp only [Sl.cut3, hn]
    exact .sle _ _ _ hb _
  · refine ⟨_, _, _, e, by omega, ?_⟩
    have hcut : s.cut3 es lo hi mx = ⟨false, s.b, s.o + lo * es, hi - lo, mx - lo, 0⟩ := by simp [Sl.cut3, hn]
    by_cases hz : mx = lo
    · rw [if_pos hz]
      have e1 : hi - lo = 0 := by omega
      have e2 : mx - lo = 0 := by omega
      rw [hcut, e1, e2]
      exact .sle _ _ _ hb _
    · rw [if_neg hz]
      have ha : (some (⟨(m s.b).blk, (m s.b).sh + s.o, none⟩ : Addr)).map (·.add (lo * es)) = some ⟨(m s.b).blk, (m s.b).sh + (s.o + lo * es), none⟩ := by
        simp [addr_add, Nat.add_assoc]
      rw [ha, hcut]
      exact .sl _ _ _ _ hb (by omega)

theorem s_slice {t e : TypeId} {s by' : Nat} {z : Value} {x : Operand} {lo hi : Option Operand} {l : Sl} {lv hv : Int} (hu : P.underlying t = some (.slice e)) (ht : TyIs P e s by' z)
    (hx' : aeval F x = .sl l) (hlo : opI F lo 0 = some lv) (hhi : opI F hi l.len = some hv) (h : 0 ≤ lv ∧ lv ≤ hv ∧ hv ≤ l.cap) (hes : l.opn = 0 ∨ l.opn = s) :
    Step1 P ⟨d, .slice t x lo hi none, ty, pos, af, g⟩ F H (.sl (l.cut s lv.toNat hv.toNat)) H :=
  .pure fun m a hx => by
    have h1 := hx x (by simp [Op.operands]); rw [hx'] at h1
    have h2 := opI_rel (m := m) (n := H.n) (a := a) (d := 0) hlo h.1 (fun y hy => hx y (by simp [Op.operands, hy]))
    have h3 := opI_rel (m := m) (n := H.n) (a := a) hhi (by omega) (fun y hy => hx y (by simp [Op.operands, hy]))
    obtain ⟨ad, len, cap, e1, hcap, hr⟩ := cut_rel (es := s) (lo := lv.toNat) (hi := hv.toNat) h1 (by omega) (by omega) hes
    refine ⟨_, hr, fun w => ?_⟩
    obtain ⟨a', c', e2⟩ := h1.sl_len
    rw [e1] at e2
    injection e2 with _ e3 _
    subst e3
    simp only [execOp, e1, Instr.sliceAt, Sem.run_bind, run_und hu, Result.andThen_ok, Instr.slice, Option.map_none]
    rw [bounds_run2 h2 h3 (by omega) hcap]
    simp [run_size ht]

theorem s_slice3 {t e : TypeId} {s by' : Nat} {z : Value} {x : Operand} {lo : Option Operand} {hi mx : Operand} {l : Sl} {lv hv mv : Int} {k1 k2 : IntKind} (hu : P.underlying t = some (.slice e)) (ht : TyIs P e s by' z)
    (hx' : aeval F x = .sl l) (hlo : opI F lo 0 = some lv) (hhi : aeval F hi = .int k1 hv) (hmx : aeval F mx = .int k2 mv) (h : 0 ≤ lv ∧ lv ≤ hv ∧ hv ≤ mv ∧ mv ≤ l.cap) :
    Step1 P ⟨d, .slice t x lo (some hi) (some mx), ty, pos, af, g⟩ F H (.sl (l.cut3 s lv.toNat hv.toNat mv.toNat)) H :=
  .pure fun m a hx => by
    have h1 := hx x (by simp [Op.operands]); rw [hx'] at h1
    have h2 := opI_rel (m := m) (n := H.n) (a := a) (d := 0) hlo h.1 (fun y hy => hx y (by simp [Op.operands, hy]))
    have h3 := hx hi (by simp [Op.operands]); rw [hhi] at h3
    have h4 := hx mx (by simp [Op.operands]); rw [hmx] at h4
    obtain ⟨ad, len, cap, e1, hcap, hr⟩ := cut3_rel (es := s) (lo := lv.toNat) (hi := hv.toNat) (mx := mv.toNat) h1 (by omega) (by omega) (by omega)
    refine ⟨_, hr, fun w => ?_⟩
    have h3' : a.eval hi = .int k1 hv.toNat := by rw [h3.int_inv]; congr 1; omega
    have h4' : a.eval mx = .int k2 mv.toNat := by rw [h4.int_inv]; congr 1; omega
    simp only [execOp, e1, Instr.sliceAt, Sem.run_bind, run_und hu, Result.andThen_ok, Instr.slice, Option.map_some, h3', h4']
    rw [bounds_run3 h2 (by omega) (by omega) hcap]
    simp [run_size ht]

/-- a whole array, through its address -/
theorem s_sliceA {t e : TypeId} {s by' n b o : Nat} {z : Value} {x : Operand} {lo hi : Option Operand} {lv hv : Int} (hu : P.underlying t = some (.array n e)) (ht : TyIs P e s by' z)
    (hx' : aeval F x = .ptr b o) (hlo : opI F lo 0 = some lv) (hhi : opI F hi n = some hv) (h : 0 ≤ lv ∧ lv ≤ hv ∧ hv ≤ n) :
    Step1 P ⟨d, .slice t x lo hi none, ty, pos, af, g⟩ F H (.sl ⟨false, b, o + lv.toNat * s, hv.toNat - lv.toNat, n - lv.toNat, 0⟩) H :=
  .pure fun m a hx => by
    have h1 := hx x (by simp [Op.operands]); rw [hx'] at h1
    obtain ⟨hb, e1⟩ := h1.ptr_inv
    have h2 := opI_rel (m := m) (n := H.n) (a := a) (d := 0) hlo h.1 (fun y hy => hx y (by simp [Op.operands, hy]))
    have h3 := opI_rel (m := m) (n := H.n) (a := a) hhi (by omega) (fun y hy => hx y (by simp [Op.operands, hy]))
    refine ⟨.slice (some (if n = lv.toNat then ⟨(m b).blk, (m b).sh + o, none⟩ else ⟨(m b).blk, (m b).sh + (o + lv.toNat * s), none⟩)) (hv.toNat - lv.toNat) (n - lv.toNat), ?_, fun w => ?_⟩
    · by_cases hz : n = lv.toNat
      · rw [if_pos hz]
        have e2 : hv.toNat - lv.toNat = 0 := by omega
        have e3 : n - lv.toNat = 0 := by omega
        rw [e2, e3]
        exact .sle _ _ _ hb _
      · rw [if_neg hz]
        exact .sl _ _ _ _ hb (by omega)
    · simp only [execOp, e1, Instr.sliceAt, Sem.run_bind, run_und hu, Result.andThen_ok, Instr.sureAddr, Sem.run_pure, Option.map_none]
      rw [bounds_run2 h2 h3 (by omega) (by omega)]
      simp [run_size ht, addr_add, Nat.add_assoc]

theorem s_sliceStr {t : TypeId} {x : Operand} {lo hi : Option Operand} {s : ByteArray} {lv hv : Int} (hu : P.underlying t = some .string)
    (hx' : aeval F x = .str s) (hlo : opI F lo 0 = some lv) (hhi : opI F hi s.size = some hv) (h : 0 ≤ lv ∧ lv ≤ hv ∧ hv ≤ s.size) :
    Step1 P ⟨d, .slice t x lo hi none, ty, pos, af, g⟩ F H (.str (s.extract lv.toNat hv.toNat)) H :=
  .pure fun m a hx => by
    have h1 := hx x (by simp [Op.operands]); rw [hx'] at h1
    have h1 := h1.str_inv
    have h2 := opI_rel (m := m) (n := H.n) (a := a) (d := 0) hlo h.1 (fun y hy => hx y (by simp [Op.operands, hy]))
    have h3 := opI_rel (m := m) (n := H.n) (a := a) hhi (by omega) (fun y hy => hx y (by simp [Op.operands, hy]))
    refine ⟨_, .str _, fun w => ?_⟩
    simp only [execOp, h1, Instr.sliceAt, Sem.run_bind, run_und hu, Result.andThen_ok, Instr.slice, Option.map_none]
    simp only [Option.isSome_none, Bool.false_eq_true, if_false, Sem.run_bind, Sem.run_pure]
    rw [bounds_run2 h2 h3 (by omega) (by omega)]
    simp

/-! parts put together -/
def fillA (place : Nat → Option (Nat × Nat)) (cells : List AV) : List (Nat × AV) → Option (List AV)
  | [] => some cells
  | (i, v) :: rest =>
    match place i with
    | none => none
    | some (off, size) =>
      if v.isU || v.cellsA.length != size || decide (cells.length < off + size) then none
      else fillA place (cells.take off ++ v.cellsA ++ cells.drop (off + size)) rest

theorem foldl_set (vs : List Value) : ∀ (cells : Array Value) (off : Nat), off + vs.length ≤ cells.size →
    (vs.zipIdx 0).foldl (fun cs (c, j) => cs.setIfInBounds (off + j) c) cells = (cells.toList.take off ++ vs ++ cells.toList.drop (off + vs.length)).toArray := by
  suffices h : ∀ (vs : List Value) (cells : Array Value) (off k : Nat), off + k + vs.length ≤ cells.size →
      (vs.zipIdx k).foldl (fun cs (c, j) => cs.setIfInBounds (off + j) c) cells = (cells.toList.take (off + k) ++ vs ++ cells.toList.drop (off + k + vs.length)).toArray by
    intro cells off hle
    simpa using h vs cells off 0 (by simpa using hle)
  intro vs
  induction vs with
  | nil => intro cells off k h; simp
  | cons v vs ih =>
    intro cells off k h
    simp only [List.zipIdx_cons, List.foldl_cons]
    simp only [List.length_cons] at h
    rw [ih _ off (k + 1) (by simp; omega)]
    congr 1
    have hlt : off + k < cells.toList.length := by simp; omega
    rw [Array.toList_setIfInBounds]
    rw [show off + (k + 1) = off + k + 1 by omega]
    rw [List.take_succ_eq_append_getElem (by simp; omega)]
    rw [List.drop_set_of_lt (by omega)]
    simp [List.take_set_of_le]
    omega

theorem fill_rel {m : Nat → Loc} {n : Nat} {place : Nat → Option (Nat × Nat)} : ∀ {parts : List (Nat × AV)} {parts' : List (Nat × Value)} {cells cells' : List AV} {vs : Array Value},
    fillA place cells parts = some cells' → RVs m n cells vs.toList → parts.length = parts'.length →
    (∀ i (h1 : i < parts.length) (h2 : i < parts'.length), parts[i].1 = parts'[i].1 ∧ RV m n parts[i].2 parts'[i].2) →
    ∃ vs', Instr.fill place vs parts' = some vs' ∧ RVs m n cells' vs'.toList := by
  intro parts
  induction parts with
  | nil =>
    intro parts' cells cells' vs h hv hl _
    cases parts' with
    | nil => simp [fillA] at h; subst h; exact ⟨vs, rfl, hv⟩
    | cons _ _ => simp at hl
  | cons p parts ih =>
    intro parts' cells cells' vs h hv hl hp
    cases parts' with
    | nil => simp at hl
    | cons q parts' =>
      obtain ⟨i, x⟩ := p
      obtain ⟨j, v⟩ := q
      obtain ⟨e, hr⟩ := hp 0 (by simp) (by simp)
      simp only [List.getElem_cons_zero] at e hr
      subst e
      simp only [fillA] at h
      cases hpl : place i with
      | none => simp [hpl] at h
      | some os =>
        obtain ⟨off, size⟩ := os
        simp only [hpl] at h
        split at h
        · cases h
        · rename_i hc
          simp only [Bool.or_eq_true, bne_iff_ne, ne_eq, decide_eq_true_eq, not_or, Decidable.not_not, Bool.not_eq_true] at hc
          obtain ⟨⟨hu, hs⟩, hle⟩ := hc
          have hcr := cells_rel hr (AV.ne_undef hu)
          have hvl : v.cells.size = size := by have := hcr.1; simp at this; omega
          have hcl : cells.length = vs.size := by simpa using hv.1
          have hfold := foldl_set v.cells.toList vs off (by simp; omega)
          obtain ⟨vs', hf, hr'⟩ := ih (vs := (vs.toList.take off ++ v.cells.toList ++ vs.toList.drop (off + v.cells.toList.length)).toArray) h
            (by
              simp only [List.toList_toArray]
              have htake : RVs m n (cells.take off) (vs.toList.take off) := ⟨by simp [hcl], fun i h1 h2 => by
                have h3 := hv.2 i (by simp at h1; omega) (by simp at h2 ⊢; omega)
                simpa using h3⟩
              have hdrop : RVs m n (cells.drop (off + size)) (vs.toList.drop (off + size)) := ⟨by simp [hcl], fun i h1 h2 => by
                have h3 := hv.2 (off + size + i) (by simp at h1; omega) (by simp at h2 ⊢; omega)
                simpa using h3⟩
              rw [show v.cells.toList.length = size by simpa using hvl]
              exact (htake.append hcr).append hdrop)
            (by simpa using hl) (fun i h1 h2 => by
              have := hp (i + 1) (by simpa using h1) (by simpa using h2)
              simp only [List.getElem_cons_succ] at this
              exact this)
          refine ⟨vs', ?_, hr'⟩
          simp only [Instr.fill, hpl]
          rw [if_neg (by simp; omega)]
          rw [← hf]
          congr 1
          rw [← hfold]
          rw [← Array.foldl_toList]
          simp

theorem zeros_rel {m : Nat → Loc} {n : Nat} {z : Value} (hu : (ofVal z).isU = false) (hz : 0 < (ofVal z).cellsA.length) (k : Nat) :
    RVs m n ((List.range k).map fun i => (ofVal z).cellsA[i % (ofVal z).cellsA.length]!) ((Array.range k).map fun i => z.cells[i % z.cells.size]!).toList := by
  have hc := cells_rel (RV.ofVal m n z) (AV.ne_undef hu)
  have hl : (ofVal z).cellsA.length = z.cells.size := by simpa using hc.1
  refine ⟨by simp, fun i h1 h2 => ?_⟩
  have hi : i % (ofVal z).cellsA.length < (ofVal z).cellsA.length := Nat.mod_lt _ hz
  have h3 := hc.2 (i % (ofVal z).cellsA.length) hi (by simp; omega)
  simp only [List.getElem_map, List.getElem_range, Array.toList_map, Array.toList_range]
  rw [getElem!_pos (ofVal z).cellsA _ hi]
  have hi2 : i % z.cells.size < z.cells.size := by rw [← hl]; exact hi
  rw [getElem!_pos z.cells _ hi2]
  have e : z.cells.toList[i % (ofVal z).cellsA.length]'(by simp; omega) = z.cells[i % z.cells.size] := by
    rw [Array.getElem_toList]
    congr 1
    rw [hl]
  rw [← e]
  exact h3

/-- an array's zeros, put one behind the other -/
def zerosA (zs : List AV) (k : Nat) : List AV := (List.range k).map fun i => zs[i % zs.length]!

theorem s_buildSlice {t e : TypeId} {n s by' : Nat} {z : Value} {parts : Array (Nat × Operand)} {cs : List AV} (hu : P.underlying t = some (.slice e)) (ht : TyIs P e s by' z)
    (hn : n * s ≤ 2 ^ 24) (hs : 0 < n * s) (hz : (ofVal z).isU = false) (hzl : 0 < (ofVal z).cellsA.length)
    (hf : fillA (fun i => some (i * s, s)) (zerosA (ofVal z).cellsA (n * s)) (parts.toList.map fun p => (p.1, aeval F p.2)) = some cs) :
    Step1 P ⟨d, .buildSlice t n parts, ty, pos, af, g⟩ F H (.sl ⟨false, H.n, 0, n, n, 0⟩) (H.push (.cells cs false)) :=
  .of_run (by simp) fun B w0 m a w hx hi => by
    obtain ⟨vs, hfill, hr⟩ := fill_rel (m := m) (n := H.n) (parts' := (parts.map fun p => (p.1, a.eval p.2)).toList) hf (zeros_rel hz hzl (n * s)) (by simp) (fun i h1 h2 => by
      have h3 : i < parts.size := by simpa using h1
      refine ⟨by simp, ?_⟩
      simp only [List.getElem_map, Array.getElem_toList, Array.toList_map]
      exact hx _ (by
        simp only [Op.operands, List.mem_toArray, List.mem_map, Array.mem_toList_iff]
        exact ⟨parts[i], by simp, rfl⟩))
    obtain ⟨w', m', hrun, he, hi', hm⟩ := hi.newRow (P := P) e hr
    refine ⟨.slice (some ⟨w.heap.size, 0, none⟩) n n, w', m', ?_, he, ?_, hi'⟩
    · have hnz : ¬ n * s = 0 := by omega
      have hnb : ¬ n * s > 2 ^ 24 := by omega
      simp only [execOp, Instr.buildSlice, Sem.run_bind, run_und hu, Result.andThen_ok, run_size ht]
      rw [if_neg hnb]
      simp only [Sem.run_bind, Sem.run_pure, Result.andThen_ok]
      rw [if_neg hnz]
      simp only [Sem.run_bind, run_zero ht, Result.andThen_ok, Sem.run_pure]
      rw [hfill]
      simp only [Sem.run_bind, hrun, Result.andThen_ok, Sem.run_pure]
    · have := RV.sl (m := m') (n := (H.push (.cells cs false)).n) H.n 0 n n (by simp) (Nat.le_refl _)
      rw [hm] at this
      exact this

theorem s_buildSlice0 {t e : TypeId} {s by' : Nat} {z : Value} (hu : P.underlying t = some (.slice e)) (ht : TyIs P e s by' z) :
    Step1 P ⟨d, .buildSlice t 0 #[], ty, pos, af, g⟩ F H (.sl ⟨false, H.n, 0, 0, 0, 0⟩) (H.push (.cells [] false)) :=
  .of_run (by simp) fun B w0 m a w hx hi => by
    obtain ⟨w', m', hrun, he, hi', hm⟩ := hi.newRow (P := P) (cs := []) (vs := #[]) e .nil
    refine ⟨.slice (some ⟨w.heap.size, 0, none⟩) 0 0, w', m', ?_, he, ?_, hi'⟩
    · have e0 : ∀ f : Nat → Value, (Array.range (0 * s)).map f = #[] := fun f => by apply Array.eq_empty_of_size_eq_zero; simp
      simp only [execOp, Instr.buildSlice, Sem.run_bind, run_und hu, Result.andThen_ok, run_size ht]
      rw [if_neg (by omega)]
      simp only [Sem.run_bind, Sem.run_pure, Result.andThen_ok]
      rw [if_pos (by omega)]
      simp only [Sem.run_pure, Result.andThen_ok, e0]
      simp [Instr.fill, hrun]
    · have := RV.sl (m := m') (n := (H.push (.cells [] false)).n) H.n 0 0 0 (by simp) (Nat.le_refl _)
      rw [hm] at this
      exact this

theorem s_build {t : TypeId} {s by' : Nat} {z : Value} {fs : Array Field} {parts : Array (Nat × Operand)} {cs : List AV} {pl : Array (Nat × Nat)} (hu : P.underlying t = some (.struct fs)) (ht : TyIs P t s by' z)
    (hz : (ofVal z).isU = false) (hpl : ∀ w, (fs.mapM (fun f => do Pure.pure (f.offset, ← sizeOf f.type)) : Sem (Array (Nat × Nat))).run P w = .ok pl w)
    (hf : fillA (pl[·]?) (ofVal z).cellsA (parts.toList.map fun p => (p.1, aeval F p.2)) = some cs) :
    Step1 P ⟨d, .build t parts, ty, pos, af, g⟩ F H (.agg cs) H :=
  .pure fun m a hx => by
    obtain ⟨vs, hfill, hr⟩ := fill_rel (m := m) (n := H.n) (parts' := (parts.map fun p => (p.1, a.eval p.2)).toList) hf (cells_rel (RV.ofVal m H.n z) (AV.ne_undef hz)) (by simp) (fun i h1 h2 => by
      have h3 : i < parts.size := by simpa using h1
      refine ⟨by simp, ?_⟩
      simp only [List.getElem_map, Array.getElem_toList, Array.toList_map]
      exact hx _ (by
        simp only [Op.operands, List.mem_toArray, List.mem_map, Array.mem_toList_iff]
        exact ⟨parts[i], by simp, rfl⟩))
    refine ⟨.agg vs, .agg_mk hr, fun w => ?_⟩
    simp only [execOp, Instr.build, Sem.run_bind, run_und hu, Result.andThen_ok, run_zero ht, hpl]
    rw [hfill]
    simp only [Sem.run_pure, Result.andThen_ok]

theorem s_buildA {t e : TypeId} {n s by' s' by2 : Nat} {z z' : Value} {parts : Array (Nat × Operand)} {cs : List AV} (hu : P.underlying t = some (.array n e)) (ht : TyIs P t s by' z)
    (hte : TyIs P e s' by2 z') (hz : (ofVal z).isU = false)
    (hf : fillA (fun i => some (i * s', s')) (ofVal z).cellsA (parts.toList.map fun p => (p.1, aeval F p.2)) = some cs) :
    Step1 P ⟨d, .build t parts, ty, pos, af, g⟩ F H (.agg cs) H :=
  .pure fun m a hx => by
    obtain ⟨vs, hfill, hr⟩ := fill_rel (m := m) (n := H.n) (parts' := (parts.map fun p => (p.1, a.eval p.2)).toList) hf (cells_rel (RV.ofVal m H.n z) (AV.ne_undef hz)) (by simp) (fun i h1 h2 => by
      have h3 : i < parts.size := by simpa using h1
      refine ⟨by simp, ?_⟩
      simp only [List.getElem_map, Array.getElem_toList, Array.toList_map]
      exact hx _ (by
        simp only [Op.operands, List.mem_toArray, List.mem_map, Array.mem_toList_iff]
        exact ⟨parts[i], by simp, rfl⟩))
    refine ⟨.agg vs, .agg_mk hr, fun w => ?_⟩
    simp only [execOp, Instr.build, Sem.run_bind, run_und hu, Result.andThen_ok, run_zero ht, run_size hte]
    rw [hfill]
    simp only [Sem.run_pure, Result.andThen_ok]

/-- make -/
theorem s_makeSlice {t e : TypeId} {s by' : Nat} {z : Value} {x y : Operand} {n c : Int} {k1 k2 : IntKind} (hu : P.underlying t = some (.slice e)) (ht : TyIs P e s by' z)
    (hz : (ofVal z).isU = false) (hzl : (ofVal z).cellsA.length = s) (hs : 0 < s) (hb : by' ≤ 4096) (hx' : aeval F x = .int k1 n) (hy' : aeval F y = .int k2 c) (h : 0 ≤ n ∧ n ≤ c ∧ c ≤ 4294967296) :
    Step1 P ⟨d, .makeSlice t x y, ty, pos, af, g⟩ F H (.sl ⟨false, H.n, 0, n.toNat, c.toNat, 0⟩) (H.push (.cells (zerosA (ofVal z).cellsA (c.toNat * s)) false)) :=
  .of_run (by simp) fun B w0 m a w hx hi => by
    have h1 := hx x (by simp [Op.operands]); rw [hx'] at h1
    have h2 := hx y (by simp [Op.operands]); rw [hy'] at h2
    have h1 := h1.int_inv
    have h2 := h2.int_inv
    have hr := zeros_rel (m := m) (n := H.n) hz (by omega) (c.toNat * s)
    obtain ⟨w', m', hrun, he, hi', hm⟩ := hi.newRow (P := P) e hr
    refine ⟨.slice (some ⟨w.heap.size, 0, none⟩) n.toNat c.toNat, w', m', ?_, he, ?_, hi'⟩
    · obtain ⟨i, hinfo, hi1, hi2, hi3⟩ := run_info (w := w) ht
      have wn : IntKind.i64.wrap n = n := by simp [IntKind.wrap, IntKind.bits, IntKind.signed]; omega
      have wc : IntKind.i64.wrap c = c := by simp [IntKind.wrap, IntKind.bits, IntKind.signed]; omega
      have hbig : (by' : Int) * c ≤ 2 ^ 48 := by
        have : (by' : Int) * c ≤ 4096 * 4294967296 := Int.mul_le_mul (by omega) h.2.2 (by omega) (by omega)
        omega
      simp only [execOp, Instr.makeSlice, h1, h2, Sem.run_bind, run_und hu, Result.andThen_ok, asInt, asIntOf, Sem.run_pure, hinfo, hi2, wn, wc]
      rw [if_neg (by simp; omega)]
      simp only [Sem.run_bind, Sem.run_pure, Result.andThen_ok, run_askRoom, run_size ht]
      by_cases h0 : c.toNat * s = 0
      · have hc0 : c.toNat = 0 := by
          rcases Nat.mul_eq_zero.1 h0 with h | h <;> omega
        have e0 : ∀ f : Nat → Value, (Array.range (c.toNat * s)).map f = #[] := fun f => by apply Array.eq_empty_of_size_eq_zero; simp [h0]
        rw [if_pos h0]
        simp only [e0] at hrun ⊢
        simp only [Sem.run_bind, Sem.run_pure, Result.andThen_ok, hrun]
      · rw [if_neg h0]
        simp only [Sem.run_bind, run_zero ht, Result.andThen_ok, Sem.run_pure, hrun]
    · have := RV.sl (m := m') (n := (H.push (.cells (zerosA (ofVal z).cellsA (c.toNat * s)) false)).n) H.n 0 n.toNat c.toNat (by simp) (by omega)
      rw [hm] at this
      exact this
end
end Go.Lt
