/- THE LIBRARY OF THESE PROOFS, A PART: an abstract heap, and that the model's steps keep to it. Nothing is asked of the input. -/
import Derived.Test.YthmhdbmpeepmaaaLMaps2
set_option linter.unusedVariables false
set_option linter.unusedSimpArgs false
namespace Go.Lt
open Go.RowKit

/-! ### a region whose order is open -/
structure Rec where
  kind : Nat
  want : Bool
  v : AV
  F : Fr
  H : Hp

/-- a run in the order of the text: 0: looks at nothing, 1: reads, 2: may write -/
inductive Trc (P : Program) (N : Nat) (ops : Array Oper) (Φ : Hp → Prop) : Nat → Fr → Hp → List Rec → Fr → Hp → Prop where
  | nil {F : Fr} {H : Hp} (hp : Φ H) : Trc P N ops Φ ops.size F H [] F H
  | pure {i : Nat} {F F' : Fr} {H H' : Hp} {op : Oper} {v : AV} {rs : List Rec} (hi : ops[i]? = some op) (hw : wantedA ops F op = some true) (hd : dstOk N op.dst = true)
      (hs : ∀ H, Φ H → Step1 P op F H v H) (r : Trc P N ops Φ (i + 1) (putF F op.dst v) H rs F' H') : Trc P N ops Φ i F H (⟨0, true, v, F, H⟩ :: rs) F' H'
  | read {i : Nat} {F F' : Fr} {H H' : Hp} {op : Oper} {v : AV} {rs : List Rec} (hi : ops[i]? = some op) (hw : wantedA ops F op = some true) (hd : dstOk N op.dst = true)
      (hs : Step1 P op F H v H) (r : Trc P N ops Φ (i + 1) (putF F op.dst v) H rs F' H') : Trc P N ops Φ i F H (⟨1, true, v, F, H⟩ :: rs) F' H'
  | eff {i : Nat} {F F' : Fr} {H H1 H' : Hp} {op : Oper} {v : AV} {rs : List Rec} (hi : ops[i]? = some op) (hw : wantedA ops F op = some true) (hd : dstOk N op.dst = true)
      (hp : Φ H) (hs : Step1 P op F H v H1) (r : Trc P N ops Φ (i + 1) (putF F op.dst v) H1 rs F' H') : Trc P N ops Φ i F H (⟨2, true, v, F, H⟩ :: rs) F' H'
  | no {i : Nat} {F F' : Fr} {H H' : Hp} {op : Oper} {rs : List Rec} (hi : ops[i]? = some op) (hw : wantedA ops F op = some false) (hd : dstOk N op.dst = true)
      (r : Trc P N ops Φ (i + 1) (putF F op.dst (.tup [])) H rs F' H') : Trc P N ops Φ i F H (⟨0, false, .tup [], F, H⟩ :: rs) F' H'
  | know {i : Nat} {F F' : Fr} {H H' : Hp} {rs : List Rec} (t : Nat) {x y : AV} (hx : lookup F t = x) (he : x = y) (r : Trc P N ops Φ i ((t, y) :: F) H rs F' H') : Trc P N ops Φ i F H rs F' H'

def recK (rs : List Rec) (j : Nat) : Nat := (rs[j]?).elim 0 (·.kind)
def recF (rs : List Rec) (F' : Fr) (j : Nat) : Fr := (rs[j]?).elim F' (·.F)
def recH (rs : List Rec) (H' : Hp) (j : Nat) : Hp := (rs[j]?).elim H' (·.H)
def recV (rs : List Rec) (j : Nat) : AV := (rs[j]?).elim .undef (·.v)
def recW (rs : List Rec) (j : Nat) : Bool := (rs[j]?).elim false (·.want)

structure Facts (P : Program) (N : Nat) (ops : Array Oper) (Φ : Hp → Prop) (i : Nat) (F : Fr) (H : Hp) (rs : List Rec) (F' : Fr) (H' : Hp) : Prop where
  len : i + rs.length = ops.size
  f0 : ∀ t, lookup (recF rs F' 0) t = lookup F t
  h0 : recH rs H' 0 = H
  phi : ∀ j, j ≤ rs.length → Φ (recH rs H' j)
  op : ∀ j, j < rs.length → ∃ op, ops[i + j]? = some op ∧ wantedA ops (recF rs F' j) op = some (recW rs j) ∧ dstOk N op.dst = true ∧
    (∀ t, lookup (recF rs F' (j + 1)) t = lookup (putF (recF rs F' j) op.dst (recV rs j)) t) ∧
    (recK rs j ≠ 2 → recH rs H' (j + 1) = recH rs H' j) ∧
    (recW rs j = false → recV rs j = .tup [] ∧ recK rs j = 0) ∧
    (recW rs j = true → (recK rs j = 0 → ∀ H, Φ H → Step1 P op (recF rs F' j) H (recV rs j) H) ∧ (recK rs j ≠ 0 → Step1 P op (recF rs F' j) (recH rs H' j) (recV rs j) (recH rs H' (j + 1))))

theorem lookup_putF_congr {F G : Fr} (h : ∀ t, lookup F t = lookup G t) (d : Option Tmp) (v : AV) (t : Nat) : lookup (putF F d v) t = lookup (putF G d v) t := by
  cases d with
  | none => exact h t
  | some d => simp only [putF]; rw [lookup_cons, lookup_cons, h t]

theorem Facts.cons {P : Program} {N : Nat} {ops : Array Oper} {Φ : Hp → Prop} {i : Nat} {F F' : Fr} {H H1 H' : Hp} {r : Rec} {rs : List Rec} {op : Oper} (hF : r.F = F) (hH : r.H = H) (hi : ops[i]? = some op) (hw : wantedA ops F op = some r.want) (hd : dstOk N op.dst = true)
    (hk : r.kind ≠ 2 → H1 = H) (hp2 : r.kind = 2 → Φ H) (hno : r.want = false → r.v = .tup [] ∧ r.kind = 0) (hs : r.want = true → (r.kind = 0 → ∀ H, Φ H → Step1 P op F H r.v H) ∧ (r.kind ≠ 0 → Step1 P op F H r.v H1))
    (h : Facts P N ops Φ (i + 1) (putF F op.dst r.v) H1 rs F' H') : Facts P N ops Φ i F H (r :: rs) F' H' where
  len := by have := h.len; simp; omega
  f0 := fun t => by simp [recF, hF]
  h0 := by simp [recH, hH]
  phi := fun j hj => by
    cases j with
    | zero =>
      by_cases hk2 : r.kind = 2
      · simpa [recH, hH] using hp2 hk2
      · have := h.phi 0 (by omega)
        rw [h.h0, hk hk2] at this
        simpa [recH, hH] using this
    | succ j =>
      have := h.phi j (by simpa using hj)
      simpa only [recH, List.getElem?_cons_succ] using this
  op := fun j hj => by
    cases j with
    | zero =>
      refine ⟨op, hi, by simpa [recF, recW, hF] using hw, hd, fun t => ?_, fun hk2 => ?_, fun hw2 => by simpa [recV, recK, recW] using hno (by simpa [recW] using hw2), fun hw2 => ?_⟩
      · have := h.f0 t
        simp only [recF, List.getElem?_cons_succ, List.getElem?_cons_zero, recV, Option.elim] at this ⊢
        rw [hF]
        exact this
      · have := h.h0
        simp only [recH, List.getElem?_cons_succ, List.getElem?_cons_zero, recK, Option.elim] at this hk2 ⊢
        rw [hH, ← hk hk2]
        exact this
      · have := hs (by simpa [recW] using hw2)
        have hh := h.h0
        simp only [recH, recF, recV, recK, List.getElem?_cons_succ, List.getElem?_cons_zero, Option.elim] at this hh ⊢
        rw [hF, hH]
        refine ⟨this.1, fun hk0 => ?_⟩
        have := this.2 hk0
        rw [← hh] at this
        exact this
    | succ j =>
      obtain ⟨op', h1⟩ := h.op j (by simpa using hj)
      refine ⟨op', ?_⟩
      rw [show i + (j + 1) = i + 1 + j by omega]
      simpa only [recF, recH, recV, recK, recW, List.getElem?_cons_succ] using h1

theorem Trc.facts {P : Program} {N : Nat} {ops : Array Oper} {Φ : Hp → Prop} {i : Nat} {F F' : Fr} {H H' : Hp} {rs : List Rec} (h : Trc P N ops Φ i F H rs F' H') : Facts P N ops Φ i F H rs F' H' := by
  induction h with
  | nil hp => exact ⟨by simp, fun t => rfl, rfl, fun j hj => by simpa [recH] using hp, fun j hj => absurd hj (by simp)⟩
  | pure hi hw hd hs r ih => exact .cons rfl rfl hi hw hd (fun _ => rfl) (fun h => by cases h) (fun h => by cases h) (fun _ => ⟨fun _ => hs, fun h => absurd rfl h⟩) ih
  | read hi hw hd hs r ih => exact .cons rfl rfl hi hw hd (fun _ => rfl) (fun h => by cases h) (fun h => by cases h) (fun _ => ⟨fun h => (by cases h), fun _ => hs⟩) ih
  | eff hi hw hd hp hs r ih => exact .cons rfl rfl hi hw hd (fun h => absurd rfl h) (fun _ => hp) (fun h => by cases h) (fun _ => ⟨fun h => (by cases h), fun _ => hs⟩) ih
  | no hi hw hd r ih => exact .cons rfl rfl hi hw hd (fun _ => rfl) (fun h => by cases h) (fun _ => ⟨rfl, rfl⟩) (fun h => by cases h) ih
  | know t hx he r ih =>
    rename_i F _ _ _ _ x y
    refine ⟨ih.len, fun t' => ?_, ih.h0, ih.phi, ih.op⟩
    rw [ih.f0, lookup_cons]
    by_cases e : t = t'
    · subst e; rw [if_pos rfl, hx, he]
    · rw [if_neg e]

/-! who must come before whom -/
def maskOf (o : Oper) (acc : List Nat) : Nat :=
  o.after.toList.foldl (fun s e => if Region.binds .any e then s ||| 1 <<< e.on ||| acc.getD e.on 0 else s) 0
def masks : List Oper → List Nat → List Nat
  | [], acc => acc
  | o :: r, acc => masks r (acc ++ [maskOf o acc])

def Closed (ops : Array Oper) (L : Nat → Prop) : Prop := ∀ j op, ops[j]? = some op → L j → ∀ e, e ∈ op.after.toList → Region.binds .any e = true → L e.on

theorem maskOf_bit {acc : List Nat} {i : Nat} : ∀ (es : List Edge) (s : Nat),
    (es.foldl (fun s e => if Region.binds .any e then s ||| 1 <<< e.on ||| acc.getD e.on 0 else s) s).testBit i = true →
    s.testBit i = true ∨ ∃ e, e ∈ es ∧ Region.binds .any e = true ∧ (i = e.on ∨ (acc.getD e.on 0).testBit i = true) := by
  intro es
  induction es with
  | nil => intro s h; exact .inl h
  | cons e es ih =>
    intro s h
    simp only [List.foldl_cons] at h
    rcases ih _ h with h | ⟨e', h1, h2⟩
    · by_cases hb : Region.binds .any e = true
      · rw [if_pos hb] at h
        simp only [Nat.testBit_or, Bool.or_eq_true] at h
        rcases h with (h | h) | h
        · exact .inl h
        · refine .inr ⟨e, by simp, hb, .inl ?_⟩
          rw [Nat.one_shiftLeft, Nat.testBit_two_pow] at h
          simp at h; exact h.symm
        · exact .inr ⟨e, by simp, hb, .inr h⟩
      · rw [if_neg hb] at h
        exact .inl h
    · exact .inr ⟨e', by simp [h1], h2⟩

theorem masks_closed {ops : Array Oper} {L : Nat → Prop} (hL : Closed ops L) : ∀ (l : List Oper) (acc : List Nat), (∀ j, l[j]? = ops[acc.length + j]?) →
    (∀ j i, (acc.getD j 0).testBit i = true → L j → L i) → ∀ j i, ((masks l acc).getD j 0).testBit i = true → L j → L i := by
  intro l
  induction l with
  | nil => intro acc _ h; exact h
  | cons o l ih =>
    intro acc hl h
    refine ih _ (fun j => ?_) (fun j i hb hj => ?_)
    · have := hl (j + 1)
      simp only [List.getElem?_cons_succ] at this
      rw [this]
      simp
      congr 1
      omega
    · by_cases hlt : j < acc.length
      · have e : (acc ++ [maskOf o acc]).getD j 0 = acc.getD j 0 := by simp [List.getElem?_append_left hlt]
        rw [e] at hb
        exact h j i hb hj
      · by_cases he : j = acc.length
        · subst he
          have e : (acc ++ [maskOf o acc]).getD acc.length 0 = maskOf o acc := by simp
          rw [e] at hb
          have ho : ops[acc.length]? = some o := by have := hl 0; simpa using this.symm
          rcases maskOf_bit _ _ hb with h0 | ⟨ed, h1, h2, h3⟩
          · simp at h0
          · have hon := hL _ _ ho hj ed h1 h2
            rcases h3 with rfl | h3
            · exact hon
            · exact h _ _ h3 hon
        · have e : (acc ++ [maskOf o acc]).getD j 0 = 0 := by
            have : acc.length + 1 ≤ j := by omega
            simp [List.getElem?_eq_none, this]
          rw [e] at hb
          simp at hb

def hConf (a b : Nat) : Bool := (a == 2 && b != 0) || (b == 2 && a != 0)
def confAt (ops : Array Oper) (x y : Oper) (kx ky : Nat) : Bool := !(x.apart ops y) || hConf kx ky
/-- nothing that stands in nobody's way is in anybody's -/
def drawOk (ops : Array Oper) (ks : List Nat) : Bool :=
  let ms := masks ops.toList []
  (List.range ops.size).all fun j =>
    match ops[j]? with
    | none => false
    | some y =>
      (y.after.toList.all fun e => !Region.binds .any e || Nat.blt e.on j) &&
      (List.range j).all fun i =>
        match ops[i]? with
        | none => false
        | some x => !(confAt ops x y (ks.getD i 0) (ks.getD j 0)) || (ms.getD j 0).testBit i

theorem drawOk_spec {ops : Array Oper} {ks : List Nat} (h : drawOk ops ks = true) : (∀ j y, ops[j]? = some y → ∀ e, e ∈ y.after.toList → Region.binds .any e = true → e.on < j) ∧
    (∀ L : Nat → Prop, Closed ops L → ∀ i j x y, i < j → ops[i]? = some x → ops[j]? = some y → confAt ops x y (ks.getD i 0) (ks.getD j 0) = true → L j → L i) := by
  unfold drawOk at h
  simp only [List.all_eq_true, List.mem_range] at h
  constructor
  · intro j y hy e he hb
    have hj : j < ops.size := (Array.getElem?_eq_some_iff.1 hy).1
    have := h j hj
    rw [hy] at this
    simp only [Bool.and_eq_true, List.all_eq_true] at this
    have := this.1 e he
    rw [hb] at this
    have h2 : e.on + 1 ≤ j := by simpa [Nat.blt] using this
    exact h2
  · intro L hL i j x y hij hx hy hc hj
    have hjs : j < ops.size := (Array.getElem?_eq_some_iff.1 hy).1
    have := h j hjs
    rw [hy] at this
    simp only [Bool.and_eq_true, List.all_eq_true, List.mem_range] at this
    have := this.2 i hij
    rw [hx] at this
    simp only [hc, Bool.not_true, Bool.false_or] at this
    exact masks_closed hL ops.toList [] (fun k => by simp) (fun j i hb => by simp at hb) j i this hj

/-! what holds when some of them have run -/
def cur (ops : Array Oper) (rs : List Rec) (F : Fr) (L : Nat → Bool) : Nat → Nat → AV
  | 0, t => lookup F t
  | j + 1, t => if L j = true ∧ (ops[j]?).bind (·.dst) = some t then recV rs j else cur ops rs F L j t

section main
variable {P : Program} {N : Nat} {ops : Array Oper} {Φ : Hp → Prop} {F F' : Fr} {H H' : Hp} {rs : List Rec}

theorem operands_looks {o : Oper} {t : Nat} (h : Operand.tmp t ∈ o.op.operands) : t ∈ o.looksAt ops :=
  List.mem_append_left _ (List.mem_filterMap.2 ⟨.tmp t, by simpa using h, rfl⟩)
theorem guard_looks {o : Oper} {g : Nat} {b : Bool} {t : Nat} (h : o.guard = some (g, b)) (ht : (ops[g]?).bind (·.dst) = some t) : t ∈ o.looksAt ops := by
  unfold Oper.looksAt
  rw [h]
  exact List.mem_append_right _ (by simp [ht])

/-- if x comes into y's way at a place -/
theorem conf_of {x y : Oper} {kx ky : Nat} (h : ¬ (x.apart ops y = true)) : confAt ops x y kx ky = true := by
  unfold confAt; simp at h; simp [h]

theorem cur_at (hf : Facts P N ops Φ 0 F H rs F' H') (hc : drawOk ops (rs.map (·.kind)) = true) {L : Nat → Bool} (hL : Closed ops (fun j => L j = true)) {i : Nat} {op : Oper} (hi : ops[i]? = some op)
    (hni : L i = false) {t : Nat} (ht : t ∈ op.looksAt ops ∨ op.dst = some t) (hen : ∀ j x, j < i → ops[j]? = some x → confAt ops x op ((rs.map (·.kind)).getD j 0) ((rs.map (·.kind)).getD i 0) = true → L j = true) :
    ∀ j, j ≤ i → cur ops rs F L j t = lookup (recF rs F' j) t := by
  have hlen : rs.length = ops.size := by have := hf.len; omega
  have his : i < ops.size := (Array.getElem?_eq_some_iff.1 hi).1
  intro j
  induction j with
  | zero => intro _; exact (hf.f0 t).symm
  | succ j ih =>
    intro hj
    obtain ⟨x, hx, _, _, hput, _⟩ := hf.op j (by omega)
    rw [Nat.zero_add] at hx
    simp only [cur]
    rw [hput t]
    by_cases hd : x.dst = some t
    · have hcf : confAt ops x op ((rs.map (·.kind)).getD j 0) ((rs.map (·.kind)).getD i 0) = true := by
        apply conf_of
        intro hap
        have hs := Oper.apart_spec hap
        rcases ht with ht | ht
        · exact hs.1 t hd ht
        · exact hs.2.1 t hd ht
      have := hen j x (by omega) hx hcf
      rw [if_pos ⟨this, by simp [hx, hd]⟩, hd]
      simp only [putF]
      rw [lookup_cons, if_pos rfl]
    · rw [if_neg (by simp [hx, hd])]
      rw [ih (by omega)]
      cases hdd : x.dst with
      | none => rfl
      | some d =>
        simp only [putF]
        rw [lookup_cons, if_neg (fun e => hd (by rw [hdd, e]))]

theorem cur_after (hf : Facts P N ops Φ 0 F H rs F' H') (hc : drawOk ops (rs.map (·.kind)) = true) {L : Nat → Bool} (hL : Closed ops (fun j => L j = true)) {i : Nat} {op : Oper} (hi : ops[i]? = some op)
    (hni : L i = false) {t : Nat} (ht : t ∈ op.looksAt ops ∨ op.dst = some t) : ∀ j, i ≤ j → j ≤ ops.size → cur ops rs F L j t = cur ops rs F L i t := by
  intro j
  induction j with
  | zero => intro h _; have : i = 0 := by omega
            subst this; rfl
  | succ j ih =>
    intro hij hj
    by_cases e : i = j + 1
    · rw [e]
    · rw [← ih (by omega) (by omega)]
      simp only [cur]
      by_cases hd : L j = true ∧ (ops[j]?).bind (·.dst) = some t
      · exfalso
        obtain ⟨y, hy⟩ : ∃ y, ops[j]? = some y := ⟨_, Array.getElem?_eq_getElem (by omega)⟩
        have hyd : y.dst = some t := by simpa [hy] using hd.2
        by_cases eij : i = j
        · subst eij; rw [hni] at hd; simp at hd
        · have := (drawOk_spec hc).2 (fun j => L j = true) hL i j op y (by omega) hi hy (by
            apply conf_of
            intro hap
            have hs := Oper.apart_spec hap
            rcases ht with ht | ht
            · exact hs.2.2 t hyd ht
            · exact hs.2.1 t ht hyd) hd.1
          rw [hni] at this
          cases this
      · rw [if_neg hd]

theorem recH_const (hf : Facts P N ops Φ 0 F H rs F' H') : ∀ (j k : Nat), j ≤ k → k ≤ ops.size → (∀ l, j ≤ l → l < k → recK rs l ≠ 2) → recH rs H' k = recH rs H' j := by
  have hlen : rs.length = ops.size := by have := hf.len; omega
  intro j k
  induction k with
  | zero => intro h _ _; have : j = 0 := by omega
            subst this; rfl
  | succ k ih =>
    intro hjk hk h
    by_cases e : j = k + 1
    · rw [e]
    · obtain ⟨x, _, _, _, _, hH, _⟩ := hf.op k (by omega)
      rw [hH (h k (by omega) (by omega))]
      exact ih (by omega) (by omega) fun l h1 h2 => h l h1 (by omega)

/-- what holds when those of L have run -/
structure SR (P : Program) (N : Nat) (ops : Array Oper) (F : Fr) (rs : List Rec) (H' : Hp) (B : Nat) (w0 : World) (n0 : Nat) (m0 : Nat → Loc) (L : Nat → Bool) (a : Act) (w : World) : Prop where
  closed : Closed ops (fun j => L j = true)
  ex : ∃ m k, k ≤ ops.size ∧ (∀ j, j < ops.size → recK rs j = 2 → (j < k ↔ L j = true)) ∧ n0 ≤ (recH rs H' k).n ∧ Ext n0 m0 m ∧ Inv B w0 m (recH rs H' k) w ∧
    ∀ t, RV m (recH rs H' k).n (cur ops rs F L ops.size t) (a.tmps.getD t undef)
  sz : a.tmps.size = N
  df : a.defers = []

theorem ready_spec {ops : Array Oper} {listed : Array Bool} {i : Nat} (h : i ∈ Region.ready .any ops listed) : ∃ op, ops[i]? = some op ∧ listed.getD i true = false ∧
    ∀ e, e ∈ op.after.toList → Region.binds .any e = true → listed.getD e.on false = true := by
  unfold Region.ready at h
  simp only [List.mem_filter, List.mem_range, Bool.and_eq_true] at h
  obtain ⟨hi, h1, h2⟩ := h
  refine ⟨ops[i], by simp [hi], by simpa using h1, fun e he hb => ?_⟩
  simp only [Array.getElem?_eq_getElem hi, Option.map_some, Option.getD_some, Array.all_eq_true_iff_forall_mem] at h2
  have := h2 e (by simpa using he)
  rw [hb] at this
  simpa using this

theorem wantedA_congr {F G : Fr} {op : Oper} (h : ∀ t, t ∈ op.looksAt ops → lookup F t = lookup G t) : wantedA ops F op = wantedA ops G op := by
  unfold wantedA
  cases hg : op.guard with
  | none => rfl
  | some gw =>
    obtain ⟨g, b⟩ := gw
    simp only
    cases ht : (ops[g]?).bind (·.dst) with
    | none => rfl
    | some t => simp only [h t (guard_looks hg ht)]

/-- a frame that reads as a function does, at some places -/
def frOf (f : Nat → AV) (ts : List Nat) : Fr := ts.map fun t => (t, f t)
theorem lookup_frOf (f : Nat → AV) : ∀ (ts : List Nat) (t : Nat), t ∈ ts → lookup (frOf f ts) t = f t := by
  intro ts
  induction ts with
  | nil => intro t h; simp at h
  | cons x ts ih =>
    intro t h
    have hl : lookup (frOf f (x :: ts)) t = if x = t then f x else lookup (frOf f ts) t := lookup_cons _ _ _ _
    rw [hl]
    by_cases e : x = t
    · subst e; rw [if_pos rfl]
    · rw [if_neg e]; exact ih t (by simpa [Ne.symm e] using h)

theorem getD_set (listed : Array Bool) (i : Nat) (hi : i < listed.size) (j : Nat) (d : Bool) : (listed.setIfInBounds i true).getD j d = if j = i then true else listed.getD j d := by
  by_cases e : j = i
  · subst e; simp [hi]
  · rw [if_neg e]; simp [Array.getElem?_setIfInBounds_ne (Ne.symm e)]

theorem draw_all (hf : Facts P N ops Φ 0 F H rs F' H') (hc : drawOk ops (rs.map (·.kind)) = true) {B : Nat} {w0 : World} {n0 : Nat} {m0 : Nat → Loc} {Q : Exit → Act → World → Prop}
    (hQ : ∀ m a w, n0 ≤ H'.n → Ext n0 m0 m → St B w0 N m F' H' a w → Q .normal a w) : ∀ (fuel : Nat) (listed : Array Bool) (a : Act) (w : World), listed.size = ops.size →
      ((List.range ops.size).countP fun j => !listed.getD j true) ≤ fuel →
      SR P N ops F rs H' B w0 n0 m0 (fun j => listed.getD j false) a w → wpAny P .any ops Q fuel listed a w := by
  have hlen : rs.length = ops.size := by have := hf.len; omega
  have hdone : ∀ (listed : Array Bool) (a : Act) (w : World), listed.size = ops.size → Region.ready .any ops listed = [] → SR P N ops F rs H' B w0 n0 m0 (fun j => listed.getD j false) a w → Q .normal a w := by
    intro listed a w hls hr hS
    -- all have run
    have hall : ∀ j, j < ops.size → listed.getD j false = true := by
      intro j
      induction j using Nat.strongRecOn with
      | _ j ih =>
        intro hj
        cases hjl : listed.getD j false with
        | true => rfl
        | false =>
          exfalso
          have hmem : j ∈ Region.ready .any ops listed := by
            unfold Region.ready
            simp only [List.mem_filter, List.mem_range, Bool.and_eq_true]
            refine ⟨hj, ?_, ?_⟩
            · have : listed.getD j true = false := by
                simp [show j < listed.size by omega] at hjl ⊢
                exact hjl
              simp [this]
            · simp only [Array.getElem?_eq_getElem hj, Option.map_some, Option.getD_some, Array.all_eq_true_iff_forall_mem]
              intro e he
              by_cases hb : Region.binds .any e = true
              · have := (drawOk_spec hc).1 j ops[j] (by simp [hj]) e (by simpa using he) hb
                rw [ih e.on this (by omega)]
                simp
              · simp at hb; simp [hb]
          rw [hr] at hmem
          cases hmem
    obtain ⟨m, k, hk, hkk, hn, he, hinv, hrv⟩ := hS.ex
    have hHk : recH rs H' k = H' := by
      have h1 := recH_const hf k ops.size hk (Nat.le_refl _) fun l h1 h2 h3 => by
        have := (hkk l h2 h3).2 (hall l h2)
        omega
      rw [← h1]
      simp [recH, ← hlen]
    rw [hHk] at hn hinv hrv
    refine hQ m a w hn he ⟨hS.sz, hS.df, fun t => ?_, hinv⟩
    have hcur : ∀ j, j ≤ ops.size → cur ops rs F (fun j => listed.getD j false) j t = lookup (recF rs F' j) t := by
      intro j
      induction j with
      | zero => intro _; exact (hf.f0 t).symm
      | succ j ih =>
        intro hj
        obtain ⟨x, hx, _, _, hput, _⟩ := hf.op j (by omega)
        rw [Nat.zero_add] at hx
        simp only [cur]
        rw [hput t, ih (by omega)]
        cases hdd : x.dst with
        | none => rw [if_neg (by simp [hx, hdd])]; rfl
        | some d =>
          simp only [putF]
          rw [lookup_cons]
          by_cases e : d = t
          · subst e; rw [if_pos ⟨hall j (by omega), by simp [hx, hdd]⟩, if_pos rfl]
          · rw [if_neg (by simp [hx, hdd, e]), if_neg e]
    have := hrv t
    rw [hcur ops.size (Nat.le_refl _)] at this
    have e : recF rs F' ops.size = F' := by simp [recF, ← hlen]
    rw [e] at this
    exact this
  intro fuel
  induction fuel with
  | zero =>
    intro listed a w hls hcnt hS
    have hr : Region.ready .any ops listed = [] := by
      apply List.eq_nil_iff_forall_not_mem.2
      intro i hi
      obtain ⟨op, hop, hl, _⟩ := ready_spec hi
      have his : i < ops.size := (Array.getElem?_eq_some_iff.1 hop).1
      have : 0 < (List.range ops.size).countP fun j => !listed.getD j true := List.countP_pos_iff.2 ⟨i, by simpa using his, by simp only [hl]; rfl⟩
      omega
    exact ⟨hr, hdone listed a w hls hr hS⟩
  | succ fuel ih =>
    intro listed a w hls hcnt hS
    refine ⟨fun hr => hdone listed a w hls hr hS, fun i hi => ?_⟩
    obtain ⟨op, hop, hl, hen⟩ := ready_spec hi
    have his : i < ops.size := (Array.getElem?_eq_some_iff.1 hop).1
    have hli : listed.getD i false = false := by
      simp [show i < listed.size by omega] at hl ⊢
      exact hl
    obtain ⟨m, k, hk, hkk, hn, he, hinv, hrv⟩ := hS.ex
    obtain ⟨op', hop', hw, hd, hput, hHc, hno, hyes⟩ := hf.op i (by omega)
    rw [Nat.zero_add, hop] at hop'
    injection hop' with hop'
    subst hop'
    -- after it, too, what has run is closed
    have hclosed' : Closed ops (fun j => (if j = i then true else listed.getD j false) = true) := by
      intro j opj hj hlj e hme hb
      by_cases ej : j = i
      · subst ej
        rw [hop] at hj
        injection hj with hj
        subst hj
        by_cases e2 : e.on = j
        · rw [if_pos e2]
        · rw [if_neg e2]; exact hen e hme hb
      · rw [if_neg ej] at hlj
        by_cases e2 : e.on = i
        · rw [if_pos e2]
        · rw [if_neg e2]; exact hS.closed j opj hj hlj e hme hb
    have hbefore : ∀ j x, j < i → ops[j]? = some x → confAt ops x op ((rs.map (·.kind)).getD j 0) ((rs.map (·.kind)).getD i 0) = true → listed.getD j false = true := by
      intro j x hji hx hcf
      have := (drawOk_spec hc).2 _ hclosed' j i x op hji hx hop hcf (by simp)
      rw [if_neg (by omega)] at this
      exact this
    -- what it looks at reads as in the text
    have hcur : ∀ t, (t ∈ op.looksAt ops ∨ op.dst = some t) → cur ops rs F (fun j => listed.getD j false) ops.size t = lookup (recF rs F' i) t := by
      intro t ht
      rw [cur_after hf hc hS.closed hop hli ht ops.size (by omega) (Nat.le_refl _)]
      exact cur_at hf hc hS.closed hop hli ht hbefore i (Nat.le_refl _)
    have hmapk : ∀ j, (rs.map (·.kind)).getD j 0 = recK rs j := by
      intro j
      unfold recK
      simp only [List.getD_eq_getElem?_getD, List.getElem?_map]
      cases rs[j]? <;> rfl
    -- the heap is the text's, where it looks at it
    have hheap : recK rs i ≠ 0 → recH rs H' k = recH rs H' i := by
      intro hk0
      rcases Nat.le_total k i with hki | hki
      · refine (recH_const hf k i hki (by omega) fun l h1 h2 h3 => ?_).symm
        obtain ⟨x, hx⟩ : ∃ x, ops[l]? = some x := ⟨_, Array.getElem?_eq_getElem (by omega)⟩
        have := hbefore l x h2 hx (by
          unfold confAt
          rw [hmapk, hmapk, h3]
          simp [hConf, hk0])
        have := (hkk l (by omega) h3).2 this
        omega
      · refine recH_const hf i k hki hk fun l h1 h2 h3 => ?_
        have hll := (hkk l (by omega) h3).1 h2
        by_cases e : l = i
        · subst e; rw [hli] at hll; cases hll
        · obtain ⟨x, hx⟩ : ∃ x, ops[l]? = some x := ⟨_, Array.getElem?_eq_getElem (by omega)⟩
          have := (drawOk_spec hc).2 _ hS.closed i l op x (by omega) hop hx (by
            unfold confAt
            rw [hmapk, hmapk, h3]
            simp [hConf, hk0]) hll
          rw [hli] at this
          cases this
    have hcnt' : ((List.range ops.size).countP fun j => !(listed.setIfInBounds i true).getD j true) ≤ fuel := by
      have h1 : (fun j => !(listed.setIfInBounds i true).getD j true) = fun j => (!listed.getD j true) && !(j == i) := by
        funext j
        rw [getD_set listed i (by omega)]
        by_cases e : j = i
        · subst e; simp
        · rw [if_neg e]
          have : (j == i) = false := by simpa using e
          rw [this]; simp
      rw [h1]
      have h2 : ((List.range ops.size).countP fun j => (!listed.getD j true) && !(j == i)) + 1 ≤ (List.range ops.size).countP fun j => !listed.getD j true := by
        have hsplit := List.countP_eq_countP_filter_add (List.range ops.size) (fun j => !listed.getD j true) (fun j => j == i)
        have e1 : ((List.range ops.size).filter fun j => !(j == i)).countP (fun j => !listed.getD j true) = (List.range ops.size).countP fun j => (!listed.getD j true) && !(j == i) := by
          rw [List.countP_filter]
        have e2 : 0 < ((List.range ops.size).filter fun j => j == i).countP (fun j => !listed.getD j true) := List.countP_pos_iff.2 ⟨i, by simp [his], by simp only [hl]; rfl⟩
        rw [← e1]
        have e4 : (List.range ops.size).countP (fun j => !listed.getD j true) = ((List.range ops.size).filter fun j => j == i).countP (fun j => !listed.getD j true) + ((List.range ops.size).filter fun j => !(j == i)).countP (fun j => !listed.getD j true) := by
          rw [hsplit]
        omega
      omega
    have hlset : (fun j => (listed.setIfInBounds i true).getD j false) = fun j => if j = i then true else listed.getD j false := by
      funext j; exact getD_set listed i (by omega) j false
    -- the state behind it
    have hnext : ∀ (m' : Nat → Loc) (k' : Nat) (a' : Act) (w' : World) (v' : Value), k' ≤ ops.size → (∀ j, j < ops.size → recK rs j = 2 → (j < k' ↔ (if j = i then true else listed.getD j false) = true)) → n0 ≤ (recH rs H' k').n → Ext n0 m0 m' →
        Inv B w0 m' (recH rs H' k') w' → Ext (recH rs H' k).n m m' → (recH rs H' k).n ≤ (recH rs H' k').n → RV m' (recH rs H' k').n (recV rs i) v' → a' = a.put op.dst v' →
        wpAny P .any ops Q fuel (listed.setIfInBounds i true) a' w' := by
      intro m' k' a' w' v' hk' hkk' hn' he' hinv' hext hnn hv ha'
      subst ha'
      refine ih _ _ _ (by simpa using hls) hcnt' ?_
      rw [hlset]
      refine ⟨hclosed', ⟨m', k', hk', hkk', hn', he', hinv', fun t => ?_⟩, ?_, ?_⟩
      · by_cases hdt : op.dst = some t
        · -- the place that it writes
          have hcur' : cur ops rs F (fun j => if j = i then true else listed.getD j false) ops.size t = recV rs i := by
            have key : ∀ j, i + 1 ≤ j → j ≤ ops.size → cur ops rs F (fun j => if j = i then true else listed.getD j false) j t = recV rs i := by
              intro j
              induction j with
              | zero => intro h; omega
              | succ j ihj =>
                intro h1 h2
                by_cases e : j = i
                · subst e
                  simp only [cur]
                  rw [if_pos ⟨by simp, by simp [hop, hdt]⟩]
                · simp only [cur]
                  rw [if_neg, ihj (by omega) (by omega)]
                  rintro ⟨h3, h4⟩
                  rw [if_neg e] at h3
                  obtain ⟨y, hy⟩ : ∃ y, ops[j]? = some y := ⟨_, Array.getElem?_eq_getElem (by omega)⟩
                  have hyd : y.dst = some t := by simpa [hy] using h4
                  have := (drawOk_spec hc).2 _ hS.closed i j op y (by omega) hop hy (by
                    apply conf_of
                    intro hap
                    exact (Oper.apart_spec hap).2.1 t hdt hyd) h3
                  rw [hli] at this
                  cases this
            exact key ops.size (by omega) (Nat.le_refl _)
          rw [hcur', hdt]
          have htn : t < a.tmps.size := by
            rw [hS.sz]
            rw [hdt] at hd
            have h2 : t + 1 ≤ N := by simpa [dstOk, Nat.blt] using hd
            exact h2
          simpa [Act.put, htn] using hv
        · have hcur' : cur ops rs F (fun j => if j = i then true else listed.getD j false) ops.size t = cur ops rs F (fun j => listed.getD j false) ops.size t := by
            have key : ∀ j, cur ops rs F (fun j => if j = i then true else listed.getD j false) j t = cur ops rs F (fun j => listed.getD j false) j t := by
              intro j
              induction j with
              | zero => rfl
              | succ j ihj =>
                simp only [cur]
                rw [ihj]
                by_cases e : j = i
                · subst e
                  rw [if_neg (by simp [hop, hdt]), if_neg (by simp [hop, hdt])]
                · have e5 : (if j = i then true else listed.getD j false) = listed.getD j false := if_neg e
                  simp only [e5]
            exact key _
          rw [hcur']
          have := (hrv t).mono hext hnn
          have e : (a.put op.dst v').tmps.getD t undef = a.tmps.getD t undef := by
            cases hdd : op.dst with
            | none => rfl
            | some d =>
              have : d ≠ t := fun e => hdt (by rw [hdd, e])
              simp [Act.put, Array.getElem?_setIfInBounds_ne this]
          rw [e]
          exact this
      · cases op.dst <;> simp [Act.put, hS.sz]
      · cases op.dst <;> simp [Act.put, hS.df]
    -- its own step
    unfold wpOp
    rw [hop]
    simp only
    -- the frame of the text, as far as it looks
    let G : Fr := frOf (fun t => lookup (recF rs F' i) t) (op.looksAt ops)
    have hG : ∀ t, t ∈ op.looksAt ops → lookup G t = lookup (recF rs F' i) t := fun t ht => lookup_frOf _ _ t ht
    have hGF : FrRel m (recH rs H' k).n G a := by
      intro t
      by_cases ht : t ∈ op.looksAt ops
      · rw [hG t ht]
        have := hrv t
        rw [hcur t (.inl ht)] at this
        exact this
      · have : lookup G t = .undef := by
          have : ∀ (ts : List Nat), t ∉ ts → lookup (frOf (fun t => lookup (recF rs F' i) t) ts) t = .undef := by
            intro ts
            induction ts with
            | nil => intro _; rfl
            | cons x ts ih =>
              intro h
              have hl : lookup (frOf (fun t => lookup (recF rs F' i) t) (x :: ts)) t = if x = t then lookup (recF rs F' i) x else lookup (frOf (fun t => lookup (recF rs F' i) t) ts) t := lookup_cons _ _ _ _
              rw [hl, if_neg (fun e => h (by simp [e]))]
              exact ih (fun h2 => h (by simp [h2]))
          exact this _ ht
        rw [this]
        exact .undef _
    have hwant : Region.wanted op (yielded ops a.tmps) = recW rs i := wanted_of hGF (by rw [wantedA_congr (G := recF rs F' i) (fun t ht => hG t ht)]; exact hw)
    rw [hwant]
    cases hwi : recW rs i with
    | false =>
      simp only [Bool.false_eq_true, if_false]
      obtain ⟨hv0, hk0⟩ := hno hwi
      refine hnext m k _ _ undef hk (fun j hj hj2 => ?_) hn he hinv (.refl _ _) (Nat.le_refl _) (by rw [hv0]; exact .tup_mk .nil) rfl
      have hne : j ≠ i := fun e => by rw [e, hk0] at hj2; cases hj2
      rw [if_neg hne]
      exact hkk j hj hj2
    | true =>
      simp only [if_true]
      left
      obtain ⟨hs0, hs1⟩ := hyes hwi
      have hop_rel : ∀ x, x ∈ op.op.operands → RV m (recH rs H' k).n (aeval (recF rs F' i) x) (a.eval x) := by
        intro x hx
        have := hGF.eval x
        cases x with
        | tmp t =>
          have e : aeval G (.tmp t) = aeval (recF rs F' i) (.tmp t) := hG t (operands_looks hx)
          rw [← e]; exact this
        | const v => exact this
        | global g => exact this
        | func f => exact this
      by_cases hk0 : recK rs i = 0
      · refine (hs0 hk0 (recH rs H' k) (hf.phi k (by omega))).run B w0 m a w hop_rel hinv _ _ fun v' w' ⟨m', he', hv, hi'⟩ => ?_
        refine hnext m' k _ _ v' hk (fun j hj hj2 => ?_) hn (he.trans he' hn) hi' he' (Nat.le_refl _) hv rfl
        have hne : j ≠ i := fun e => by rw [e, hk0] at hj2; cases hj2
        rw [if_neg hne]
        exact hkk j hj hj2
      · have hHk := hheap hk0
        have hst := hs1 hk0
        rw [← hHk] at hst
        refine hst.run B w0 m a w hop_rel hinv _ _ fun v' w' ⟨m', he', hv, hi'⟩ => ?_
        -- no effect stands between k and i
        have hmono := hst.mono
        refine hnext m' (if recK rs i = 2 then i + 1 else k) _ _ v' (by split <;> omega) (fun j hj hj2 => ?_) ?_ (he.trans he' hn) ?_ he' ?_ ?_ rfl
        · by_cases h2 : recK rs i = 2
          · rw [if_pos h2]
            by_cases e : j = i
            · subst e; simp
            · rw [if_neg e]
              constructor
              · intro hjl
                obtain ⟨x, hx⟩ : ∃ x, ops[j]? = some x := ⟨_, Array.getElem?_eq_getElem hj⟩
                exact hbefore j x (by omega) hx (by unfold confAt; rw [hmapk, hmapk, hj2, h2]; simp [hConf])
              · intro hjl
                rcases Nat.lt_or_ge j (i + 1) with h | h
                · exact h
                · exfalso
                  obtain ⟨x, hx⟩ : ∃ x, ops[j]? = some x := ⟨_, Array.getElem?_eq_getElem hj⟩
                  have := (drawOk_spec hc).2 _ hS.closed i j op x (by omega) hop hx (by unfold confAt; rw [hmapk, hmapk, hj2, h2]; simp [hConf]) hjl
                  rw [hli] at this
                  cases this
          · rw [if_neg h2]
            have hne : j ≠ i := fun e => by rw [e] at hj2; exact h2 hj2
            rw [if_neg hne]
            exact hkk j hj hj2
        all_goals
          by_cases h2 : recK rs i = 2
          · rw [if_pos h2]
            first
              | exact hi'
              | exact hv
              | exact hmono
              | exact Nat.le_trans hn hmono
          · rw [if_neg h2]
            have e : recH rs H' (i + 1) = recH rs H' k := by rw [hHc h2, hHk]
            rw [e] at hi' hv
            first
              | exact hi'
              | exact hv
              | exact Nat.le_refl _
              | exact hn

theorem Trc.mono {i : Nat} (h : Trc P N ops Φ i F H rs F' H') : H.n ≤ H'.n := by
  induction h with
  | nil => exact Nat.le_refl _
  | pure _ _ _ _ _ ih => exact ih
  | read _ _ _ _ _ ih => exact ih
  | eff _ _ _ _ hs _ ih => exact Nat.le_trans hs.mono ih
  | no _ _ _ _ ih => exact ih
  | know _ _ _ _ ih => exact ih

/-- a region whose order is open -/
theorem f_draw {α : Type} {fn : Func} {ret : α → AV} {k : List Item} {o : Option (α × Hp)} {id : Nat} (ks : List Nat) (ht : Trc P N ops Φ 0 F H rs F' H') (hks : rs.map (·.kind) = ks) (hc : drawOk ops ks = true) (hm : P.follows .mixedOrders = true)
    (h : Fin P fn ret N k F' H' o) : Fin P fn ret N (.code (.region id ops true) :: k) F H o := fun r H1 ho => by
  subst hks
  obtain ⟨hle, h⟩ := h r H1 ho
  have hf := ht.facts
  refine ⟨Nat.le_trans ht.mono hle, fun B w0 n0 m0 m a w hn he st => .of_wp (wp_region_any hm ?_)⟩
  refine draw_all hf hc (B := B) (w0 := w0) (n0 := n0) (m0 := m0) (fun m' a' w' hn' he' st' => ⟨rfl, h B w0 n0 m0 m' a' w' hn' he' st'⟩) ops.size _ _ _ (by simp) (by
    refine Nat.le_trans (List.countP_le_length) (by simp)) ?_
  have hL : (fun j => (Array.replicate ops.size false).getD j false) = fun _ => false := by
    funext j
    by_cases hj : j < ops.size <;> simp [hj]
  rw [hL]
  refine ⟨fun j op hj hl => (by cases hl), ⟨m, 0, Nat.zero_le _, fun j hj h2 => by simp, ?_, he, ?_, fun t => ?_⟩, st.sz, st.df⟩
  · rw [hf.h0]; exact hn
  · rw [hf.h0]; exact st.inv.drew
  · rw [hf.h0]
    have : ∀ j, cur ops rs F (fun _ => false) j t = lookup F t := by
      intro j
      induction j with
      | zero => rfl
      | succ j ih => simp only [cur]; rw [if_neg (by simp), ih]
    rw [this]
    exact st.fr t
end main
end Go.Lt
