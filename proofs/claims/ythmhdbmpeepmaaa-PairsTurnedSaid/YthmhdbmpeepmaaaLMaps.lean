/- THE LIBRARY OF THESE PROOFS, A PART: an abstract heap, and that the model's steps keep to it. Nothing is asked of the input. -/
import Derived.Test.YthmhdbmpeepmaaaLAOps2
set_option linter.unusedVariables false
set_option linter.unusedSimpArgs false
namespace Go.Lt
open Go.RowKit

/-! ### keys -/
def AV.keq1 : AV → AV → Bool
  | .int _ a, .int _ b => a == b
  | .str a, .str b => a == b
  | _, _ => false
def AV.keqs : List AV → List AV → Bool
  | [], [] => true
  | x :: xs, y :: ys => x.keq1 y && AV.keqs xs ys
  | _, _ => false
def AV.keq : AV → AV → Bool
  | .agg xs, .agg ys => AV.keqs xs ys
  | x, y => x.keq1 y

def KT.is (P : Program) : KT → TypeId → Prop
  | .int k, t => P.underlying t = some (.int k)
  | .str, t => P.underlying t = some .string
  | .arr n k, t => ∃ e b z, P.underlying t = some (.array n e) ∧ P.underlying e = some (.int k) ∧ TyIs P e 1 b z

theorem isInt_inv {k : IntKind} {x : AV} (h : x.isInt k = true) : ∃ i, x = .int k i := by
  cases x <;> simp [AV.isInt] at h
  subst h; exact ⟨_, rfl⟩

section
variable {P : Program} {w : World} {m : Nat → Loc} {n : Nat}

theorem part_int {e : TypeId} {k : IntKind} {b : Nat} {z : Value} (he : P.underlying e = some (.int k)) {cs : Array Value} {i : Nat} {v : Value} (h : cs[i]? = some v) :
    (part e cs i).run P w = .ok v w := by simp [part, run_isAgg he, aggD, h]

theorem ints_conc {k : IntKind} {xs : List AV} {cs : Array Value} (ha : xs.all (AV.isInt k) = true) (hr : RVs m n xs cs.toList) (i : Nat) (h : i < xs.length) :
    ∃ a, xs[i] = .int k a ∧ cs[i]? = some (.int k a) := by
  obtain ⟨a, e⟩ := isInt_inv (List.all_eq_true.1 ha _ (List.getElem_mem h))
  have hl : xs.length = cs.size := by simpa using hr.1
  have := hr.2 i h (by simp; omega)
  rw [e, Array.getElem_toList] at this
  exact ⟨a, e, by rw [Array.getElem?_eq_getElem (by omega), this.int_inv]⟩

theorem checkKey_run' {kt : KT} {t : TypeId} (ht : kt.is P t) {x : AV} {v : Value} (hk : kt.ok x = true) (hr : RV m n x v) (em : Bool) (d : Nat) :
    (Instr.checkKey em (d + 2) t v).run P w = .ok () w := by
  cases kt with
  | int k =>
    obtain ⟨i, rfl⟩ := isInt_inv hk
    rw [hr.int_inv]
    have ht : P.underlying t = some (.int k) := ht
    rw [Instr.checkKey]; simp [run_und ht]
  | str =>
    cases x <;> simp [KT.ok] at hk
    rw [hr.str_inv]
    have ht : P.underlying t = some .string := ht
    rw [Instr.checkKey]; simp [run_und ht]
  | arr len k =>
    cases x <;> simp [KT.ok] at hk
    rename_i xs
    obtain ⟨hlen, hall⟩ := hk
    obtain ⟨cs, rfl, hcs⟩ := hr.agg_inv
    obtain ⟨e, b, z, hu, he, hs⟩ := ht
    have hall' : xs.all (AV.isInt k) = true := by simpa using hall
    rw [Instr.checkKey]
    simp only [Sem.run_bind, run_und hu, Result.andThen_ok]
    have key : ∀ (l : List Nat), (∀ i ∈ l, i < len) → (forIn l PUnit.unit (fun i _ => do
        let s ← sizeOf e
        let p ← part e cs (i * s)
        Instr.checkKey em (d + 1) e p
        Pure.pure (ForInStep.yield PUnit.unit)) : Sem PUnit).run P w = .ok () w := by
      intro l
      induction l with
      | nil => intro _; simp
      | cons i l ih =>
        intro hl
        obtain ⟨a, _, hc⟩ := ints_conc hall' hcs i (by have := hl i (by simp); omega)
        have h1 : (Instr.checkKey em (d + 1) e (.int k a)).run P w = .ok () w := by rw [Instr.checkKey]; simp [run_und he]
        simp only [List.forIn_cons, bind_assoc, Sem.run_bind, run_size hs, Result.andThen_ok, Nat.mul_one, part_int (b := b) (z := z) he hc, h1, Sem.run_pure]
        exact ih fun j hj => hl j (by simp [hj])
    have := key (List.range' 0 len) (fun i hi => by simp at hi; omega)
    simp only [Std.Legacy.Range.forIn_eq_forIn_range', Std.Legacy.Range.size, Nat.sub_zero, Nat.add_sub_cancel, Nat.div_one, Sem.run_bind]
    rw [this]
    simp

theorem checkKey_run {kt : KT} {t : TypeId} (ht : kt.is P t) {x : AV} {v : Value} (hk : kt.ok x = true) (hr : RV m n x v) (em : Bool) :
    (Instr.checkKey em 10000 t v).run P w = .ok () w := checkKey_run' ht hk hr em 9998

theorem equalIn_int {t : TypeId} {k : IntKind} (ht : P.underlying t = some (.int k)) (d : Nat) (a b : Int) :
    (Op.equalIn (d + 1) t (.int k a) (.int k b)).run P w = .ok (a == b) w := by
  rw [Op.equalIn]; simp [run_und ht]
theorem equalIn_str {t : TypeId} (ht : P.underlying t = some .string) (d : Nat) (a b : ByteArray) :
    (Op.equalIn (d + 1) t (.string a) (.string b)).run P w = .ok (a == b) w := by
  rw [Op.equalIn]; simp [run_und ht]

theorem keqs_take {k : IntKind} : ∀ (xs ys : List AV), xs.length = ys.length → xs.all (AV.isInt k) = true → ys.all (AV.isInt k) = true →
    AV.keqs xs ys = (List.range xs.length).all fun i => (xs.getD i .undef).keq1 (ys.getD i .undef) := by
  intro xs
  induction xs with
  | nil => intro ys h _ _; cases ys <;> simp_all [AV.keqs]
  | cons x xs ih =>
    intro ys h hx hy
    cases ys with
    | nil => simp at h
    | cons y ys =>
      simp only [List.all_cons, Bool.and_eq_true] at hx hy
      simp only [AV.keqs, List.length_cons, List.range_succ_eq_map, List.all_cons, List.getD_cons_zero, List.all_map]
      rw [ih ys (by simpa using h) hx.2 hy.2]
      congr 1

theorem equalIn_arr {t e : TypeId} {len b : Nat} {k : IntKind} {z : Value} (hu : P.underlying t = some (.array len e)) (he : P.underlying e = some (.int k)) (hs : TyIs P e 1 b z) (d : Nat)
    {xs ys : List AV} {cs ds : Array Value} (hlx : xs.length = len) (hly : ys.length = len) (hax : xs.all (AV.isInt k) = true) (hay : ys.all (AV.isInt k) = true)
    (hrx : RVs m n xs cs.toList) (hry : RVs m n ys ds.toList) : (Op.equalIn (d + 2) t (.agg cs) (.agg ds)).run P w = .ok (AV.keqs xs ys) w := by
  rw [keqs_take xs ys (by omega) hax hay, hlx]
  rw [Op.equalIn]
  simp only [Sem.run_bind, run_und hu, Result.andThen_ok, run_size hs, Nat.mul_one]
  have key : ∀ (l : List Nat), (∀ i ∈ l, i < len) → ∀ (K : Option Bool × Unit → Sem Bool), (∀ r, r.1 = none → (K r).run P w = .ok true w) → (∀ r c, r.1 = some c → (K r).run P w = .ok c w) →
      ((forIn l ((none, ()) : Option Bool × Unit) (fun i _ => do
        if !(← Op.equalIn (d + 1) e (← part e cs i) (← part e ds i)) then Pure.pure (ForInStep.done (some false, ())) else Pure.pure (ForInStep.yield (none, ()))) >>= K : Sem Bool)).run P w
        = .ok (l.all fun i => (xs.getD i .undef).keq1 (ys.getD i .undef)) w := by
    intro l
    induction l with
    | nil => intro _ K h0 _; simp [h0]
    | cons i l ih =>
      intro hl K h0 h1
      have hi := hl i (by simp)
      obtain ⟨a, ea, ha⟩ := ints_conc hax hrx i (by omega)
      obtain ⟨c, ec, hc⟩ := ints_conc hay hry i (by omega)
      have e1 : xs.getD i .undef = .int k a := by rw [← ea]; simp [show i < xs.length by omega]
      have e2 : ys.getD i .undef = .int k c := by rw [← ec]; simp [show i < ys.length by omega]
      simp only [List.forIn_cons, bind_assoc, Sem.run_bind, part_int (b := b) (z := z) he ha, part_int (b := b) (z := z) he hc, Result.andThen_ok, equalIn_int he, List.all_cons, e1, e2, AV.keq1]
      cases hac : (a == c) with
      | false =>
        simp only [Bool.not_false, if_true, Sem.run_pure, Result.andThen_ok, Bool.false_and]
        exact h1 _ _ rfl
      | true =>
        simp only [Bool.not_true, Bool.false_eq_true, if_false, Sem.run_pure, Result.andThen_ok, Bool.true_and]
        have := ih (fun j hj => hl j (by simp [hj])) K h0 h1
        rw [Sem.run_bind] at this
        exact this
  have := key (List.range' 0 len) (fun i hi => by simp at hi; omega) (fun r => match r.1 with | some c => Pure.pure c | none => Pure.pure true) (fun r h => by simp [h]) (fun r c h => by simp [h])
  rw [show List.range len = List.range' 0 len by rw [List.range_eq_range']]
  rw [← this]
  simp only [Std.Legacy.Range.forIn_eq_forIn_range', Std.Legacy.Range.size, Nat.sub_zero, Nat.add_sub_cancel, Nat.div_one, Sem.run_bind]
  congr 1
  funext a w'
  cases a.1 <;> rfl

theorem equal_run {kt : KT} {t : TypeId} (ht : kt.is P t) {x y : AV} {v u : Value} (hx : kt.ok x = true) (hy : kt.ok y = true) (hrx : RV m n x v) (hry : RV m n y u) :
    (Op.equal t v u).run P w = .ok (x.keq y) w := by
  unfold Op.equal Op.maxDepth
  cases kt with
  | int k =>
    obtain ⟨i, rfl⟩ := isInt_inv hx
    obtain ⟨j, rfl⟩ := isInt_inv hy
    rw [hrx.int_inv, hry.int_inv]
    exact equalIn_int ht _ _ _
  | str =>
    cases x <;> simp [KT.ok] at hx
    cases y <;> simp [KT.ok] at hy
    rw [hrx.str_inv, hry.str_inv]
    exact equalIn_str ht _ _ _
  | arr len k =>
    cases x <;> simp [KT.ok] at hx
    cases y <;> simp [KT.ok] at hy
    obtain ⟨cs, rfl, hcs⟩ := hrx.agg_inv
    obtain ⟨ds, rfl, hds⟩ := hry.agg_inv
    obtain ⟨e, b, z, hu, he, hs⟩ := ht
    exact equalIn_arr hu he hs 9998 hx.1 hy.1 (by simpa using hx.2) (by simpa using hy.2) hcs hds
end
end Go.Lt
