/- THE LIBRARY OF THESE PROOFS, A PART: an abstract heap, and that the model's steps keep to it. Nothing is asked of the input. -/
import Derived.Test.YthmhdbmpeepmaaaLMem
import Derived.Eval
set_option linter.unusedVariables false
set_option linter.unusedSimpArgs false
namespace Go.Lt
open Go.RowKit

/-! ### control: what is left to do -/
def TWp (P : Program) (todo : List Item) (R : Act → World → Prop) (a : Act) (w : World) : Prop :=
  ∀ (b : Frame) (cs : List Frame), ∃ a' w' t', R a' w' ∧ Steps P (lone (b.at a todo) cs w) (lone { b.at a' t' with mode := .returning } cs w')

section twp
variable {P : Program} {R : Act → World → Prop} {a : Act} {w : World} {k : List Item}
theorem TWp.step {todo todo' : List Item} {a' : Act} {w' : World} (hs : ∀ (b : Frame) cs, step P (lone (b.at a todo) cs w) = .next (lone (b.at a' todo') cs w'))
    (h : TWp P todo' R a' w') : TWp P todo R a w := fun b cs =>
  let ⟨a2, w2, t2, hr, h2⟩ := h b cs
  ⟨a2, w2, t2, hr, .head (hs b cs) h2⟩
theorem TWp.ret (h : R a w) : TWp P (.code .ret :: k) R a w := fun b cs => ⟨a, w, _, h, .one step_ret⟩
theorem TWp.end (h : R a w) : TWp P [] R a w := fun b cs => ⟨a, w, _, h, .one step_end⟩
theorem TWp.of_wp {c : Code} (h : c.wp P (fun e a' w' => e = .normal ∧ TWp P k R a' w') a w) : TWp P (.code c :: k) R a w := fun b cs => by
  obtain ⟨e, a1, w1, ⟨rfl, hq⟩, harr⟩ := h b k cs
  obtain ⟨a2, w2, t2, hr, h2⟩ := hq b cs
  exact ⟨a2, w2, t2, hr, Steps.trans harr h2⟩
theorem TWp.mono {todo : List Item} {R' : Act → World → Prop} (h : TWp P todo R a w) (hr : ∀ a w, R a w → R' a w) : TWp P todo R' a w := fun b cs =>
  let ⟨a2, w2, t2, r, h2⟩ := h b cs
  ⟨a2, w2, t2, hr _ _ r, h2⟩
end twp

/-- what a call leaves -/
def CallSim (P : Program) (f : FuncId) (args : List AV) (H : Hp) (v : AV) (H1 : Hp) : Prop :=
  H.n ≤ H1.n ∧ ∀ B w0 m w (args' : Array Value), RVs m H.n args args'.toList → Inv B w0 m H w →
    Calls P f args' w fun e w' => ∃ v' m', e = .returned v' ∧ Ext H.n m m' ∧ RV m' H1.n v v' ∧ Inv B w0 m' H1 w'

structure St (B : Nat) (w0 : World) (N : Nat) (m : Nat → Loc) (F : Fr) (H : Hp) (a : Act) (w : World) : Prop where
  sz : a.tmps.size = N
  df : a.defers = []
  fr : FrRel m H.n F a
  inv : Inv B w0 m H w

/-- operations one behind the other -/
def wpL (P : Program) (ops : Array Oper) (Q : Exit → Act → World → Prop) : List Oper → Act → World → Prop
  | [], a, w => Q .normal a w
  | o :: r, a, w => if Region.wanted o (yielded ops a.tmps) then o.wp P a w (wpL P ops Q r) Q else wpL P ops Q r (a.put o.dst undef) w
theorem wpL_ops {P : Program} {ops : Array Oper} {Q : Exit → Act → World → Prop} : ∀ (l : List Oper) (k : Nat) (a : Act) (w : World), (∀ j, l[j]? = ops[k + j]?) → wpL P ops Q l a w → wpOps P ops Q (List.range' k l.length) a w := by
  intro l
  induction l with
  | nil => intro k a w _ h; exact h
  | cons o l ih =>
    intro k a w hl h
    have ho : ops[k]? = some o := by have := hl 0; simpa using this.symm
    have hr : ∀ j, l[j]? = ops[k + 1 + j]? := fun j => by
      have := hl (j + 1)
      rw [show k + 1 + j = k + (j + 1) by omega, ← this]
      rfl
    simp only [List.length_cons, List.range'_succ, wpOps, ho]
    simp only [wpL] at h
    split
    · rename_i hw
      rw [if_pos hw] at h
      exact .inl (Oper.wp_mono (fun a w => ih (k + 1) a w hr) h)
    · rename_i hw
      rw [if_neg hw] at h
      exact ih (k + 1) _ _ hr h

/-- how a call ends -/
def Post {α : Type} (P : Program) (fn : Func) (ret : α → AV) (B : Nat) (w0 : World) (n0 : Nat) (m0 : Nat → Loc) (r : α) (H1 : Hp) (a : Act) (w : World) : Prop :=
  a.defers = [] ∧ ∃ v, (results fn a.tmps).run P w = .ok v w ∧ ∃ m, Ext n0 m0 m ∧ RV m H1.n (ret r) v ∧ Inv B w0 m H1 w

/-- The rest of a call of a function that gives its results as ret says, in a frame of N places that is as F says and a heap that is as H says, comes to what o says. -/
def Fin {α : Type} (P : Program) (fn : Func) (ret : α → AV) (N : Nat) (todo : List Item) (F : Fr) (H : Hp) (o : Option (α × Hp)) : Prop :=
  ∀ r H1, o = some (r, H1) → H.n ≤ H1.n ∧ ∀ B w0 n0 m0 m a w, n0 ≤ H.n → Ext n0 m0 m → St B w0 N m F H a w → TWp P todo (Post P fn ret B w0 n0 m0 r H1) a w

/-- the same, within a region: the operations l are left -/
def OFin {α : Type} (P : Program) (fn : Func) (ret : α → AV) (N : Nat) (ops : Array Oper) (l : List Oper) (k : List Item) (F : Fr) (H : Hp) (o : Option (α × Hp)) : Prop :=
  ∀ r H1, o = some (r, H1) → H.n ≤ H1.n ∧ ∀ B w0 n0 m0 m a w, n0 ≤ H.n → Ext n0 m0 m → St B w0 N m F H a w →
    wpL P ops (fun e a' w' => e = .normal ∧ TWp P k (Post P fn ret B w0 n0 m0 r H1) a' w') l a w

section fin
variable {α : Type} {P : Program} {fn : Func} {ret : α → AV} {N : Nat} {k : List Item} {F : Fr} {H : Hp} {o : Option (α × Hp)}

theorem Fin.step {todo todo' : List Item} (hs : ∀ (b : Frame) (a : Act) cs w, step P (lone (b.at a todo) cs w) = .next (lone (b.at a todo') cs w))
    (h : Fin P fn ret N todo' F H o) : Fin P fn ret N todo F H o := fun r H1 ho =>
  ⟨(h r H1 ho).1, fun B w0 n0 m0 m a w hn he st => .step (fun b cs => hs b a cs w) ((h r H1 ho).2 B w0 n0 m0 m a w hn he st)⟩

theorem f_seq {x y : Code} (h : Fin P fn ret N (.code x :: .code y :: k) F H o) : Fin P fn ret N (.code (.seq x y) :: k) F H o :=
  .step (fun _ _ _ _ => step_seq) h
theorem f_skip (h : Fin P fn ret N k F H o) : Fin P fn ret N (.code .skip :: k) F H o := .step (fun _ _ _ _ => step_skip) h
theorem f_label {l : Nat} (h : Fin P fn ret N k F H o) : Fin P fn ret N (.code (.label l) :: k) F H o := .step (fun _ _ _ _ => step_label) h
theorem f_block {id : Nat} {c : Code} (h : Fin P fn ret N (.code c :: .inBlock id :: k) F H o) : Fin P fn ret N (.code (.block id c) :: k) F H o :=
  .step (fun _ _ _ _ => step_block) h
theorem f_inBlock {id : Nat} (h : Fin P fn ret N k F H o) : Fin P fn ret N (.inBlock id :: k) F H o := .step (fun _ _ _ _ => step_inBlock) h
theorem f_loop {c : Code} (h : Fin P fn ret N (.code c :: .inLoop c :: k) F H o) : Fin P fn ret N (.code (.loop c) :: k) F H o :=
  .step (fun _ _ _ _ => step_loop) h
theorem f_inLoop {c : Code} (h : Fin P fn ret N (.code c :: .inLoop c :: k) F H o) : Fin P fn ret N (.inLoop c :: k) F H o :=
  .step (fun _ _ _ _ => step_inLoop) h
theorem f_exit {id : Nat} {k' : List Item} (hk : exitTo id k = some k') (h : Fin P fn ret N k' F H o) : Fin P fn ret N (.code (.exit id) :: k) F H o :=
  .step (fun _ _ _ _ => step_exit hk) h
theorem f_region {id : Nat} {ops : Array Oper} (h : OFin P fn ret N ops ops.toList k F H o) : Fin P fn ret N (.code (.region id ops false) :: k) F H o := fun r H1 ho =>
  ⟨(h r H1 ho).1, fun B w0 n0 m0 m a w hn he st => .of_wp (wp_region (by
    have := wpL_ops ops.toList 0 a w (fun j => by simp) ((h r H1 ho).2 B w0 n0 m0 m a w hn he st)
    rwa [Array.length_toList, ← List.range_eq_range'] at this))⟩
theorem f_nil {ops : Array Oper} (h : Fin P fn ret N k F H o) : OFin P fn ret N ops [] k F H o := fun r H1 ho =>
  ⟨(h r H1 ho).1, fun B w0 n0 m0 m a w hn he st => ⟨rfl, (h r H1 ho).2 B w0 n0 m0 m a w hn he st⟩⟩
theorem f_cond {c : Operand} {x y : Code} {t : Bool} (hc : aeval F c = .bool t) (h : Fin P fn ret N (.code (if t then x else y) :: k) F H o) :
    Fin P fn ret N (.code (.cond c x y) :: k) F H o := fun r H1 ho =>
  ⟨(h r H1 ho).1, fun B w0 n0 m0 m a w hn he st => .step (fun b cs => step_cond (by
    have := st.fr.eval c; rw [hc] at this; exact this.bool_inv)) ((h r H1 ho).2 B w0 n0 m0 m a w hn he st)⟩
theorem f_condT {c : Operand} {x y : Code} (hc : aeval F c = .bool true) (h : Fin P fn ret N (.code x :: k) F H o) : Fin P fn ret N (.code (.cond c x y) :: k) F H o := f_cond hc h
theorem f_condF {c : Operand} {x y : Code} (hc : aeval F c = .bool false) (h : Fin P fn ret N (.code y :: k) F H o) : Fin P fn ret N (.code (.cond c x y) :: k) F H o := f_cond hc h

/-! results -/
def aggT : TypeDesc → Bool
  | .struct _ => true
  | .array .. => true
  | _ => false
inductive ResRel (P : Program) (F : Fr) (H : Hp) : List ResultVar → List AV → Prop where
  | nil : ResRel P F H [] []
  | tmp {t : Tmp} {x : AV} {rs : List ResultVar} {xs : List AV} (h : lookup F t = x) (r : ResRel P F H rs xs) : ResRel P F H (.tmp t :: rs) (x :: xs)
  | cell {t : Tmp} {ty : TypeId} {u : TypeDesc} {b o : Nat} {x : AV} {rs : List ResultVar} {xs : List AV} (hu : P.underlying ty = some u) (ha : aggT u = false) (h : lookup F t = .ptr b o) (hl : H.ld b o = some x) (r : ResRel P F H rs xs) :
      ResRel P F H (.cell t ty :: rs) (x :: xs)
  | cells {t : Tmp} {ty : TypeId} {u : TypeDesc} {b o s : Nat} {ys : List AV} {rs : List ResultVar} {xs : List AV} (hu : P.underlying ty = some u) (ha : aggT u = true) (hs : (P.info? ty).map (·.size) = some s) (h : lookup F t = .ptr b o)
      (hl : H.lds b o s = some ys) (r : ResRel P F H rs xs) : ResRel P F H (.cell t ty :: rs) (.agg ys :: xs)
def tupOf : List AV → AV
  | [x] => x
  | xs => .tup xs

def resV (a : Act) : ResultVar → Sem Value
  | .tmp t => Pure.pure (a.tmps.getD t undef)
  | .cell b t => do loadVar t (← asAddr (a.tmps.getD b undef))
theorem results_eq (a : Act) : results fn a.tmps = (do let vs ← fn.results.mapM (resV a); Pure.pure (if h : vs.size = 1 then vs[0] else .tuple vs)) := by
  unfold results
  refine congrArg (fun f => (Array.mapM f fn.results >>= _)) ?_
  funext r
  cases r <;> rfl
theorem results_run {B : Nat} {w0 : World} {m : Nat → Loc} {a : Act} {w : World} (hf : FrRel m H.n F a) (hi : Inv B w0 m H w) : ∀ {rs : List ResultVar} {xs : List AV}, ResRel P F H rs xs →
    ∃ vs : List Value, (rs.mapM (resV a)).run P w = .ok vs w ∧ RVs m H.n xs vs := by
  intro rs xs h
  have agg : ∀ {ty : TypeId} {u : TypeDesc}, P.underlying ty = some u → (isAgg ty).run P w = .ok (aggT u) w := by
    intro ty u hu
    simp only [isAgg, underlying, Sem.run_bind, run_program, Result.andThen_ok, hu, Sem.run_pure]
    cases u <;> simp [aggT]
  induction h with
  | nil => exact ⟨[], by simp, .nil⟩
  | @tmp t x rs xs h r ih =>
    obtain ⟨vs, hr, hv⟩ := ih
    exact ⟨a.tmps.getD t undef :: vs, by simp only [List.mapM_cons, Sem.run_bind, Sem.run_pure, Result.andThen_ok, hr, resV], .cons (h ▸ hf t) hv⟩
  | @cell t ty u b o x rs xs hu ha h hl r ih =>
    obtain ⟨vs, hr, hv⟩ := ih
    have hp := hf t
    rw [h] at hp
    obtain ⟨_, e⟩ := hp.ptr_inv
    obtain ⟨v, hc, hrv⟩ := hi.ld hl _ rfl
    refine ⟨v :: vs, ?_, .cons hrv hv⟩
    simp only [List.mapM_cons, Sem.run_bind, resV, e, asAddr, Sem.run_pure, Result.andThen_ok, loadVar, agg hu, ha, hr]
    simp [hc, hr]
  | @cells t ty u b o s ys rs xs hu ha hs h hl r ih =>
    obtain ⟨vs, hr, hv⟩ := ih
    have hp := hf t
    rw [h] at hp
    obtain ⟨_, e⟩ := hp.ptr_inv
    obtain ⟨us, hlen, hc, hru⟩ := hi.lds P hl
    subst hlen
    have hld := loadCells_run (w := w) P hc
    have hsz : (sizeOf ty).run P w = .ok us.length w := by
      cases hinf : P.info? ty with
      | none => simp [hinf] at hs
      | some i => simp [hinf] at hs; simp [sizeOf, typeInfo, hinf, hs]
    refine ⟨.agg us.toArray :: vs, ?_, .cons (.agg_mk (by simpa using hru)) hv⟩
    simp only [List.mapM_cons, Sem.run_bind, resV, e, asAddr, Sem.run_pure, Result.andThen_ok, loadVar, agg hu, ha, hr, if_true, hsz, hld]

theorem results_ok {B : Nat} {w0 : World} {m : Nat → Loc} {a : Act} {w : World} {xs : List AV} (hf : FrRel m H.n F a) (hi : Inv B w0 m H w) (h : ResRel P F H fn.results.toList xs) :
    ∃ v, (results fn a.tmps).run P w = .ok v w ∧ RV m H.n (tupOf xs) v := by
  obtain ⟨vs, hr, hv⟩ := results_run (P := P) (H := H) (w := w) hf hi h
  rw [results_eq, Sem.run_bind, Array.mapM_eq_mapM_toList, Sem.run_map, hr]
  simp only [Result.andThen_ok, Sem.run_pure]
  clear h hr
  match xs, vs, hv with
  | [], [], hv => exact ⟨_, rfl, .tup_mk hv⟩
  | [x], [v], hv => exact ⟨v, rfl, by
      obtain ⟨v', vs', e, h1, _⟩ := hv.cons_inv
      cases e
      exact h1⟩
  | x :: y :: xs, v :: u :: vs, hv => exact ⟨_, rfl, .tup_mk hv⟩
  | [], _ :: _, hv => exact absurd hv.1 (by simp)
  | [_], [], hv => exact absurd hv.1 (by simp)
  | [_], _ :: _ :: _, hv => exact absurd hv.1 (by simp)
  | _ :: _ :: _, [], hv => exact absurd hv.1 (by simp)
  | _ :: _ :: _, [_], hv => exact absurd hv.1 (by simp)

theorem Fin.fin {todo : List Item} {r : α} {xs : List AV} (hs : ∀ R (a : Act) w, R a w → TWp P todo R a w) (h : ResRel P F H fn.results.toList xs) (hr : tupOf xs = ret r) :
    Fin P fn ret N todo F H (some (r, H)) := fun r' H1 ho => by
  injection ho with ho
  injection ho with h1 h2
  subst h1; subst h2
  refine ⟨Nat.le_refl _, fun B w0 n0 m0 m a w hn he st => hs _ _ _ ?_⟩
  obtain ⟨v, hv, hrv⟩ := results_ok (P := P) (fn := fn) (w := w) st.fr st.inv h
  exact ⟨st.df, v, hv, m, he, hr ▸ hrv, st.inv⟩
theorem f_ret {r : α} {xs : List AV} (h : ResRel P F H fn.results.toList xs) (hr : tupOf xs = ret r) : Fin P fn ret N (.code .ret :: k) F H (some (r, H)) :=
  .fin (fun _ _ _ h => .ret h) h hr
theorem f_end {r : α} {xs : List AV} (h : ResRel P F H fn.results.toList xs) (hr : tupOf xs = ret r) : Fin P fn ret N [] F H (some (r, H)) :=
  .fin (fun _ _ _ h => .end h) h hr

/-! what a text of ours says -/
theorem f_none {todo : List Item} : Fin P fn ret N todo F H (none : Option (α × Hp)) := fun _ _ h => by cases h
theorem f_bind {β : Type} {todo : List Item} {e : Option β} {K : β → Option (α × Hp)} (h : ∀ x, e = some x → Fin P fn ret N todo F H (K x)) :
    Fin P fn ret N todo F H (e.bind K) := by
  cases e with
  | none => exact f_none
  | some x => exact h x rfl
theorem f_if {todo : List Item} {c : Prop} [Decidable c] {o1 o2 : Option (α × Hp)} (h1 : c → Fin P fn ret N todo F H o1) (h2 : ¬ c → Fin P fn ret N todo F H o2) :
    Fin P fn ret N todo F H (if c then o1 else o2) := by
  split
  · exact h1 ‹_›
  · exact h2 ‹_›
theorem f_chk {todo : List Item} {c : Prop} [Decidable c] {o1 : Option (α × Hp)} (h1 : c → Fin P fn ret N todo F H o1) :
    Fin P fn ret N todo F H (if c then o1 else none) := f_if h1 fun _ => f_none

/-- some places may be forgotten -/
def LeF (F' F : Fr) : Prop := ∀ t, lookup F' t = .undef ∨ lookup F' t = lookup F t
theorem Fin.weak {todo : List Item} {F' : Fr} (hl : LeF F' F) (h : Fin P fn ret N todo F' H o) : Fin P fn ret N todo F H o := fun r H1 ho =>
  ⟨(h r H1 ho).1, fun B w0 n0 m0 m a w hn he st => (h r H1 ho).2 B w0 n0 m0 m a w hn he ⟨st.sz, st.df, fun t => by
    rcases hl t with e | e
    · rw [e]; exact .undef _
    · rw [e]; exact st.fr t, st.inv⟩⟩
def restrict (F : Fr) (ts : List Nat) : Fr := ts.map fun t => (t, lookup F t)
theorem lookup_restrict (F : Fr) (ts : List Nat) (t : Nat) : lookup (restrict F ts) t = .undef ∨ lookup (restrict F ts) t = lookup F t := by
  induction ts with
  | nil => exact .inl rfl
  | cons x ts ih =>
    have hl : lookup (restrict F (x :: ts)) t = if x = t then lookup F x else lookup (restrict F ts) t := lookup_cons _ _ _ _
    rw [hl]
    by_cases e : x = t
    · subst e; rw [if_pos rfl]; exact .inr rfl
    · rw [if_neg e]; exact ih
theorem f_keep {todo : List Item} (ts : List Nat) (h : Fin P fn ret N todo (restrict F ts) H o) : Fin P fn ret N todo F H o := .weak (lookup_restrict F ts) h
/-- a place is known anew -/
theorem f_know {todo : List Item} (t : Nat) {x y : AV} (hx : lookup F t = x) (he : x = y) (h : Fin P fn ret N todo ((t, y) :: F) H o) : Fin P fn ret N todo F H o :=
  .weak (fun t' => by
    rw [lookup_cons]
    by_cases e : t = t'
    · subst e; rw [if_pos rfl, hx, he]; exact .inr rfl
    · rw [if_neg e]; exact .inr rfl) h
theorem dec_true {c : Prop} [Decidable c] (h : c) : AV.bool (decide c) = .bool true := by rw [decide_eq_true h]
theorem dec_false {c : Prop} [Decidable c] (h : ¬ c) : AV.bool (decide c) = .bool false := by rw [decide_eq_false h]
theorem f_knowT {todo : List Item} (t : Nat) {c : Prop} [Decidable c] (hc : c) (hx : lookup F t = .bool (decide c)) (h : Fin P fn ret N todo ((t, .bool true) :: F) H o) :
    Fin P fn ret N todo F H o := f_know t hx (dec_true hc) h
theorem f_knowF {todo : List Item} (t : Nat) {c : Prop} [Decidable c] (hc : ¬ c) (hx : lookup F t = .bool (decide c)) (h : Fin P fn ret N todo ((t, .bool false) :: F) H o) :
    Fin P fn ret N todo F H o := f_know t hx (dec_false hc) h
theorem f_knowBT {todo : List Item} (t : Nat) {c : Bool} (hc : c = true) (hx : lookup F t = .bool c) (h : Fin P fn ret N todo ((t, .bool true) :: F) H o) :
    Fin P fn ret N todo F H o := f_know t hx (by rw [hc]) h
theorem f_knowBF {todo : List Item} (t : Nat) {c : Bool} (hc : ¬ c = true) (hx : lookup F t = .bool c) (h : Fin P fn ret N todo ((t, .bool false) :: F) H o) :
    Fin P fn ret N todo F H o := f_know t hx (by simp at hc; rw [hc]) h

/-! operations, in the order of the text -/
def wantedA (ops : Array Oper) (F : Fr) (o : Oper) : Option Bool :=
  match o.guard with
  | none => some true
  | some (g, want) =>
    match (ops[g]?).bind (·.dst) with
    | none => none
    | some t =>
      match lookup F t with
      | .bool b => some (b == want)
      | .tup [] => some false
      | _ => none

theorem yielded_of {m : Nat → Loc} {n : Nat} {a : Act} {ops : Array Oper} (hf : FrRel m n F a) {t g : Nat} (ht : (ops[g]?).bind (·.dst) = some t) :
    (∀ b, lookup F t = .bool b → yielded ops a.tmps g = some b) ∧ (lookup F t = .tup [] → yielded ops a.tmps g = none) := by
  have h := hf t
  constructor
  · intro b hb
    rw [hb] at h
    have h := h.bool_inv
    unfold yielded
    rw [ht]
    cases hg : a.tmps[t]? with
    | none => simp [hg] at h; cases h
    | some v => simp [hg] at h; subst h; simp [hg]
  · intro hb
    rw [hb] at h
    obtain ⟨vs, e, _⟩ := h.tup_inv
    unfold yielded
    rw [ht]
    cases hg : a.tmps[t]? with
    | none => simp [hg]
    | some v => simp [hg] at e; subst e; simp [hg]

theorem wanted_of {m : Nat → Loc} {n : Nat} {a : Act} {ops : Array Oper} {op : Oper} {t : Bool} (hf : FrRel m n F a) (h : wantedA ops F op = some t) :
    Region.wanted op (yielded ops a.tmps) = t := by
  unfold wantedA at h
  unfold Region.wanted
  cases hg : op.guard with
  | none => simp [hg] at h; simp [h]
  | some gw =>
    obtain ⟨g, want⟩ := gw
    simp only [hg] at h
    cases ht : (ops[g]?).bind (·.dst) with
    | none => simp [ht] at h
    | some x =>
      simp only [ht] at h
      have hy := yielded_of (F := F) hf ht
      cases hl : lookup F x with
      | bool b => simp only [hl] at h; injection h with h; subst h; simp [hy.1 b hl]
      | tup vs =>
        cases vs with
        | nil => simp only [hl] at h; injection h with h; subst h; simp [hy.2 hl]
        | cons _ _ => simp [hl] at h
      | _ => simp [hl] at h

theorem f_op {ops : Array Oper} {l : List Oper} {op : Oper} {v : AV} {H' : Hp} (hw : wantedA ops F op = some true) (hd : dstOk N op.dst = true)
    (hs : Step1 P op F H v H') (h : OFin P fn ret N ops l k (putF F op.dst v) H' o) : OFin P fn ret N ops (op :: l) k F H o := fun r H1 ho => by
  obtain ⟨hle, h⟩ := h r H1 ho
  refine ⟨Nat.le_trans hs.mono hle, fun B w0 n0 m0 m a w hn he st => ?_⟩
  simp only [wpL, wanted_of st.fr hw, if_true]
  refine hs.run B w0 m a w (fun x _ => st.fr.eval x) st.inv _ _ fun v' w' ⟨m', he', hv, hi'⟩ => ?_
  have hdst : dstOk a.tmps.size op.dst = true := by rw [st.sz]; exact hd
  exact h B w0 n0 m0 m' _ w' (Nat.le_trans hn hs.mono) (he.trans he' hn)
    ⟨by cases op.dst <;> simp [Act.put, st.sz], by cases op.dst <;> simp [Act.put, st.df], (st.fr.mono he' hs.mono).put hv hdst, hi'⟩
/-- an operation whose guard says no -/
theorem f_no {ops : Array Oper} {l : List Oper} {op : Oper} (hw : wantedA ops F op = some false) (hd : dstOk N op.dst = true)
    (h : OFin P fn ret N ops l k (putF F op.dst (.tup [])) H o) : OFin P fn ret N ops (op :: l) k F H o := fun r H1 ho => by
  obtain ⟨hle, h⟩ := h r H1 ho
  refine ⟨hle, fun B w0 n0 m0 m a w hn he st => ?_⟩
  simp only [wpL, wanted_of st.fr hw, if_false, Bool.false_eq_true]
  have hdst : dstOk a.tmps.size op.dst = true := by rw [st.sz]; exact hd
  exact h B w0 n0 m0 m _ w hn he
    ⟨by cases op.dst <;> simp [Act.put, st.sz], by cases op.dst <;> simp [Act.put, st.df], st.fr.put (.tup_mk .nil) hdst, st.inv⟩

/-! the same words within a region -/
theorem OFin.weak {ops : Array Oper} {l : List Oper} {F' : Fr} (hl : LeF F' F) (h : OFin P fn ret N ops l k F' H o) : OFin P fn ret N ops l k F H o := fun r H1 ho =>
  ⟨(h r H1 ho).1, fun B w0 n0 m0 m a w hn he st => (h r H1 ho).2 B w0 n0 m0 m a w hn he ⟨st.sz, st.df, fun t => by
    rcases hl t with e | e
    · rw [e]; exact .undef _
    · rw [e]; exact st.fr t, st.inv⟩⟩
theorem o_none {ops : Array Oper} {l : List Oper} : OFin P fn ret N ops l k F H (none : Option (α × Hp)) := fun _ _ h => by cases h
theorem o_bind {β : Type} {ops : Array Oper} {l : List Oper} {e : Option β} {K : β → Option (α × Hp)} (h : ∀ x, e = some x → OFin P fn ret N ops l k F H (K x)) :
    OFin P fn ret N ops l k F H (e.bind K) := by
  cases e with
  | none => exact o_none
  | some x => exact h x rfl
theorem o_if {ops : Array Oper} {l : List Oper} {c : Prop} [Decidable c] {o1 o2 : Option (α × Hp)} (h1 : c → OFin P fn ret N ops l k F H o1) (h2 : ¬ c → OFin P fn ret N ops l k F H o2) :
    OFin P fn ret N ops l k F H (if c then o1 else o2) := by
  split
  · exact h1 ‹_›
  · exact h2 ‹_›
theorem o_chk {ops : Array Oper} {l : List Oper} {c : Prop} [Decidable c] {o1 : Option (α × Hp)} (h1 : c → OFin P fn ret N ops l k F H o1) :
    OFin P fn ret N ops l k F H (if c then o1 else none) := o_if h1 fun _ => o_none
theorem o_know {ops : Array Oper} {l : List Oper} (t : Nat) {x y : AV} (hx : lookup F t = x) (he : x = y) (h : OFin P fn ret N ops l k ((t, y) :: F) H o) : OFin P fn ret N ops l k F H o :=
  .weak (fun t' => by
    rw [lookup_cons]
    by_cases e : t = t'
    · subst e; rw [if_pos rfl, hx, he]; exact .inr rfl
    · rw [if_neg e]; exact .inr rfl) h
theorem o_knowT {ops : Array Oper} {l : List Oper} (t : Nat) {c : Prop} [Decidable c] (hc : c) (hx : lookup F t = .bool (decide c)) (h : OFin P fn ret N ops l k ((t, .bool true) :: F) H o) :
    OFin P fn ret N ops l k F H o := o_know t hx (dec_true hc) h
theorem o_knowF {ops : Array Oper} {l : List Oper} (t : Nat) {c : Prop} [Decidable c] (hc : ¬ c) (hx : lookup F t = .bool (decide c)) (h : OFin P fn ret N ops l k ((t, .bool false) :: F) H o) :
    OFin P fn ret N ops l k F H o := o_know t hx (dec_false hc) h
theorem o_knowBT {ops : Array Oper} {l : List Oper} (t : Nat) {c : Bool} (hc : c = true) (hx : lookup F t = .bool c) (h : OFin P fn ret N ops l k ((t, .bool true) :: F) H o) :
    OFin P fn ret N ops l k F H o := o_know t hx (by rw [hc]) h
theorem o_knowBF {ops : Array Oper} {l : List Oper} (t : Nat) {c : Bool} (hc : ¬ c = true) (hx : lookup F t = .bool c) (h : OFin P fn ret N ops l k ((t, .bool false) :: F) H o) :
    OFin P fn ret N ops l k F H o := o_know t hx (by simp at hc; rw [hc]) h
end fin

/-! ### places in a text -/
def todoAt : Code → List Nat → List Item → List Item
  | c, [], k => .code c :: k
  | .seq a b, 0 :: p, k => todoAt a p (.code b :: k)
  | .seq _ b, _ :: p, k => todoAt b p k
  | .cond _ x _, 0 :: p, k => todoAt x p k
  | .cond _ _ y, _ :: p, k => todoAt y p k
  | .block id c, _ :: p, k => todoAt c p (.inBlock id :: k)
  | .loop c, _ :: p, k => todoAt c p (.inLoop c :: k)
  | c, _, k => .code c :: k
def bodyOf (fn : Func) : Code := fn.body.getD .skip

/-! ### a call -/
def entryF : List AV → Nat → Fr
  | [], _ => []
  | x :: xs, i => (i, x) :: entryF xs (i + 1)
theorem lookup_entryF : ∀ (xs : List AV) (i t : Nat), lookup (entryF xs i) t = if i ≤ t then xs.getD (t - i) .undef else .undef := by
  intro xs
  induction xs with
  | nil => intro i t; simp [entryF, lookup]
  | cons x xs ih =>
    intro i t
    simp only [entryF]
    rw [lookup_cons, ih]
    by_cases e : i = t
    · subst e; simp
    · rw [if_neg e]
      by_cases h : i + 1 ≤ t
      · rw [if_pos h, if_pos (by omega)]
        rw [show t - i = (t - (i + 1)) + 1 by omega]
        simp
      · rw [if_neg h, if_neg (by omega)]

theorem callSim {α : Type} {P : Program} {f : FuncId} {fn : Func} {args : List AV} {H : Hp} {ret : α → AV} {o : Option (α × Hp)} {r : α} {H1 : Hp}
    (hf : P.funcs[f]? = some fn) (hbs : fn.body.isSome = true) {N : Nat} (hN : fn.ntmps = N) (hn : Nat.ble args.length N = true)
    (h : Fin P fn ret N [.code (bodyOf fn)] (entryF args 0) H o) (ho : o = some (r, H1)) : CallSim P f args H (ret r) H1 := by
  subst hN
  obtain ⟨c, hb⟩ := Option.isSome_iff_exists.1 hbs
  have hc : bodyOf fn = c := by simp [bodyOf, hb]
  rw [hc] at h
  have hn : args.length ≤ fn.ntmps := Nat.le_of_ble_eq_true hn
  obtain ⟨hle, h⟩ := h r H1 ho
  refine ⟨hle, fun B w0 m w args' ha hi cs => ?_⟩
  let a0 : Act := { tmps := args' ++ Array.replicate (fn.ntmps - args'.size) undef, defers := [] }
  let b : Frame := { (default : Frame) with fn := f, kind := .normal }
  have henter : Frame.enter P f args' .normal = b.at a0 [.code c] := by
    simp [Frame.enter, Frame.at, hf, hb, b, a0]
  have hal : args.length = args'.size := by simpa using ha.1
  have st : St B w0 fn.ntmps m (entryF args 0) H a0 w := by
    refine ⟨by simp [a0]; omega, rfl, fun t => ?_, hi⟩
    rw [lookup_entryF]
    simp only [Nat.zero_le, if_true, Nat.sub_zero]
    by_cases ht : t < args.length
    · have h2 := ha.2 t ht (by simpa using (hal ▸ ht))
      have e1 : args.getD t .undef = args[t] := by simp [ht]
      have e2 : a0.tmps.getD t undef = args'.toList[t]'(by simpa using (hal ▸ ht)) := by
        have : t < args'.size := hal ▸ ht
        simp [a0, Array.getElem?_append, this]
      rw [e1, e2]
      exact h2
    · have e1 : args.getD t .undef = .undef := by simp [Nat.le_of_not_lt ht]
      rw [e1]
      exact .undef _
  obtain ⟨a', w', t', ⟨hd, v, hr, m', he, hv, hi'⟩, hs⟩ := h B w0 H.n m m a0 w (Nat.le_refl _) (.refl _ _) st b cs
  exact ⟨.returned v, w', _, ⟨v, m', rfl, he, hv, hi'⟩, by rw [henter]; exact hs, rfl, rfl, hd, rfl, fn, hf, hr⟩

/-- a function with a body -/
structure FnOk (P : Program) (f : FuncId) : Prop where
  ex : ∃ fn : Func, P.funcs[f]? = some fn ∧ (fn.name == "runtime.NumGoroutine") = false ∧ fn.body.isNone = false
theorem callFunc_run {P : Program} {f : FuncId} {fn : Func} {args : Array Value} (hf : P.funcs[f]? = some fn) (hn : (fn.name == "runtime.NumGoroutine") = false) (hb : fn.body.isNone = false) (w : World) :
    (callFunc f args).run P w = .ok (.enter f args) w := by
  have hn' : ¬ fn.name = "runtime.NumGoroutine" := by simpa using hn
  have hb' : ¬ fn.body = none := by
    cases h : fn.body with
    | none => simp [h] at hb
    | some c => simp
  simp [callFunc, hf, hn', hb']

/-- a function value, in the world -/
theorem RV.fn_inv {m : Nat → Loc} {n : Nat} {f : FuncId} {xs ys : List AV} {v : Value} (h : RV m n (.fn f xs ys) v) :
    ∃ us vs, v = .func (.func f) us vs ∧ RVs m n xs us.toList ∧ RVs m n ys vs.toList := by
  cases h with
  | fn _ _ _ us vs hx1 hy1 hu hv =>
    refine ⟨us, vs, rfl, ⟨by simpa using hx1, fun i h1 h2 => ?_⟩, ⟨by simpa using hy1, fun i h1 h2 => ?_⟩⟩
    · have := hu i h1 (by simpa using h2)
      rwa [← Array.getElem_toList] at this
    · have := hv i h1 (by simpa using h2)
      rwa [← Array.getElem_toList] at this

section callops
variable {P : Program} {F : Fr} {H H1 : Hp} {d : Option Tmp} {ty : TypeId} {pos : String} {af : Array Edge} {g : Option (Nat × Bool)} {ats : Array TypeId}

/-- a function value is called -/
theorem s_call {x : Operand} {xs : Array Operand} {f : FuncId} {first caps : List AV} {args : List AV} {v : AV} (hx : aeval F x = .fn f first caps)
    (ha : xs.toList.map (aeval F) = args) (hf : FnOk P f)
    (h : CallSim P f (first ++ args ++ caps) H v H1) : Step1 P ⟨d, .call ⟨.value x, xs, ats⟩, ty, pos, af, g⟩ F H v H1 := by
  obtain ⟨fn, hf, hn, hb⟩ := hf.ex
  refine ⟨h.1, fun B w0 m a w hop hi next Q hq => ?_⟩
  have h1 := hop x (by simp [Op.operands, Call.operands])
  rw [hx] at h1
  have hargs : RVs m H.n args (xs.map a.eval).toList := by
    subst ha
    refine ⟨by simp, fun i h1 h2 => ?_⟩
    simp only [List.getElem_map, Array.toList_map]
    exact hop _ (by
      have h3 : i < xs.size := by simpa using h1
      simp [Op.operands, Call.operands])
  obtain ⟨us, vs, e, hus, hvs⟩ := h1.fn_inv
  have hrun : (execOp a.eval ⟨d, .call ⟨.value x, xs, ats⟩, ty, pos, af, g⟩).run P w = .ok (.enter f (us ++ xs.map a.eval ++ vs)) w := by
    simp only [execOp, resolve, e, Deferred.ofValue, Sem.run_bind, Sem.run_pure, Result.andThen_ok, invoke]
    exact callFunc_run hf hn hb w
  unfold Oper.wp
  rw [hrun, Oper.upon_enter]
  refine (h.2 B w0 m w _ (by simpa using (hus.append hargs).append hvs) hi).mono fun e w' hR => ?_
  obtain ⟨v', m', rfl, he, hv, hi'⟩ := hR
  exact hq v' w' ⟨m', he, hv, hi'⟩
/-- a function that is named -/
theorem s_callF {xs : Array Operand} {f : FuncId} {args : List AV} {v : AV} (ha : xs.toList.map (aeval F) = args) (hf : FnOk P f) (h : CallSim P f args H v H1) :
    Step1 P ⟨d, .call ⟨.value (.func f), xs, ats⟩, ty, pos, af, g⟩ F H v H1 := s_call (x := .func f) (first := []) (caps := []) rfl ha hf (by simpa using h)

/-- what is called by its number -/
abbrev App := FuncId → List AV → Hp → Option (AV × Hp)
def AppSim (P : Program) (app : App) : Prop := ∀ f xs H v H1, app f xs H = some (v, H1) → FnOk P f ∧ CallSim P f xs H v H1
def callv (app : App) (fv : AV) (args : List AV) (H : Hp) : Option (AV × Hp) :=
  match fv with
  | .fn f first caps => app f (first ++ args ++ caps) H
  | _ => none
theorem s_callv {app : App} (hs : AppSim P app) {x : Operand} {xs : Array Operand} {fv : AV} {args : List AV} {v : AV} (hx : aeval F x = fv) (ha : xs.toList.map (aeval F) = args)
    (h : callv app fv args H = some (v, H1)) : Step1 P ⟨d, .call ⟨.value x, xs, ats⟩, ty, pos, af, g⟩ F H v H1 := by
  unfold callv at h
  split at h
  · rename_i f first caps
    obtain ⟨h1, h2⟩ := hs _ _ _ _ _ h
    exact s_call hx ha h1 h2
  · cases h
theorem s_callA {app : App} (hs : AppSim P app) {xs : Array Operand} {f : FuncId} {args : List AV} {v : AV} (ha : xs.toList.map (aeval F) = args)
    (h : app f args H = some (v, H1)) : Step1 P ⟨d, .call ⟨.value (.func f), xs, ats⟩, ty, pos, af, g⟩ F H v H1 :=
  s_callF ha (hs _ _ _ _ _ h).1 (hs _ _ _ _ _ h).2
end callops
end Go.Lt
