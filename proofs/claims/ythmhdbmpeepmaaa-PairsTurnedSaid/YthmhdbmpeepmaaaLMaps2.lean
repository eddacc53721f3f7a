/- THE LIBRARY OF THESE PROOFS, A PART: an abstract heap, and that the model's steps keep to it. Nothing is asked of the input. -/
import Derived.Test.YthmhdbmpeepmaaaLMaps
set_option linter.unusedVariables false
set_option linter.unusedSimpArgs false
namespace Go.Lt
open Go.RowKit

theorem ba_beq (a b : ByteArray) : (a == b) = decide (a = b) := by
  obtain ⟨x⟩ := a
  obtain ⟨y⟩ := b
  have h : ((⟨x⟩ : ByteArray) == ⟨y⟩) = (x == y) := rfl
  rw [h]
  by_cases e : x = y
  · subst e; simp
  · have : ¬ (⟨x⟩ : ByteArray) = ⟨y⟩ := fun h => e (ByteArray.mk.inj h)
    simp [e, this]

def afind (x : AV) (es : List (AV × AV)) : Option Nat := es.findIdx? fun e => x.keq e.1
def Hp.mget (H : Hp) (b : Nat) (x : AV) : Option (Option AV) :=
  match H.get b with
  | some (.map kt es) => if kt.ok x then some ((afind x es).bind fun i => (es[i]?).map (·.2)) else none
  | _ => none
def Hp.mset (H : Hp) (b : Nat) (x v : AV) : Option Hp :=
  match H.get b with
  | some (.map kt es) => if kt.ok x then
      match afind x es with
      | some i => some (H.set b (.map kt (es.set i (x, v))))
      | none => some (H.set b (.map kt (es ++ [(x, v)])))
    else none
  | _ => none
def Hp.mdel (H : Hp) (b : Nat) (x : AV) : Option Hp :=
  match H.get b with
  | some (.map kt es) => if kt.ok x then
      match afind x es with
      | some i => some (H.set b (.map kt (es.eraseIdx i)))
      | none => some (H.set b (.map kt es))
    else none
  | _ => none

section
variable {P : Program} {w : World} {m : Nat → Loc} {n : Nat}

def EntsRel (m : Nat → Loc) (n : Nat) (kt : KT) (es : List (AV × AV)) (l : List MapEntry) : Prop :=
  l.length = es.length ∧ (∀ e, e ∈ es → kt.ok e.1 = true) ∧ ∀ i (h1 : i < es.length) (h2 : i < l.length), RV m n es[i].1 l[i].key ∧ RV m n es[i].2 l[i].val
theorem EntsRel.tail {kt : KT} {e : AV × AV} {es : List (AV × AV)} {c : MapEntry} {l : List MapEntry} (h : EntsRel m n kt (e :: es) (c :: l)) :
    RV m n e.1 c.key ∧ RV m n e.2 c.val ∧ kt.ok e.1 = true ∧ EntsRel m n kt es l :=
  ⟨(h.2.2 0 (by simp) (by simp)).1, (h.2.2 0 (by simp) (by simp)).2, h.2.1 e (by simp), by simpa using h.1, fun e' h' => h.2.1 e' (by simp [h']), fun i h1 h2 => by
    have := h.2.2 (i + 1) (by simpa using h1) (by simpa using h2)
    simpa using this⟩

def found (x : AV) (es : List (AV × AV)) (l : List MapEntry) (j : Nat) : Option (Nat × Value) :=
  match afind x es with
  | none => none
  | some i => (l[i]?).map fun e => (i + j, e.val)

theorem found_cons {x : AV} {e : AV × AV} {es : List (AV × AV)} {c : MapEntry} {l : List MapEntry} {j : Nat} :
    found x (e :: es) (c :: l) j = if x.keq e.1 = true then some (j, c.val) else found x es l (j + 1) := by
  unfold found afind
  simp only [List.findIdx?_cons]
  by_cases h : x.keq e.1 = true
  · simp [h]
  · simp only [h, if_false, Bool.false_eq_true]
    cases hf : es.findIdx? (fun e => x.keq e.1) with
    | none => simp
    | some i => simp; congr 1; funext a; congr 1; omega

theorem findAsking_run {kt : KT} {t : TypeId} (ht : kt.is P t) {x : AV} {v : Value} (hx : kt.ok x = true) (hr : RV m n x v) : ∀ (es : List (AV × AV)) (l : List MapEntry) (j : Nat), EntsRel m n kt es l →
    (Instr.findAsking t v l j).run P w = .ok (found x es l j) w := by
  intro es
  induction es with
  | nil =>
    intro l j h
    have : l = [] := by apply List.eq_nil_of_length_eq_zero; simpa using h.1
    subst this
    simp [Instr.findAsking, found, afind]
  | cons e es ih =>
    intro l j h
    cases l with
    | nil => have := h.1; simp at this
    | cons c l =>
      obtain ⟨h1, h2, h3, h4⟩ := h.tail
      rw [found_cons]
      simp only [Instr.findAsking, Sem.run_bind, equal_run ht hx h3 hr h1, Result.andThen_ok]
      by_cases hk : x.keq e.1 = true
      · simp [hk]
      · simp only [hk, if_false, Bool.false_eq_true]
        exact ih l (j + 1) h4

theorem findNow_eq {kt : KT} {t : TypeId} {u : TypeDesc} (ht : kt.is P t) (hu : P.underlying t = some u) {x : AV} {v : Value} (hx : kt.ok x = true) (hr : RV m n x v) : ∀ (es : List (AV × AV)) (l : List MapEntry) (j : Nat), EntsRel m n kt es l →
    Instr.findNow u v l j = some (found x es l j) ∨ Instr.findNow u v l j = none := by
  intro es
  induction es with
  | nil =>
    intro l j h
    have : l = [] := by apply List.eq_nil_of_length_eq_zero; simpa using h.1
    subst this
    simp [Instr.findNow, found, afind]
  | cons e es ih =>
    intro l j h
    cases l with
    | nil => have := h.1; simp at this
    | cons c l =>
      obtain ⟨h1, h2, h3, h4⟩ := h.tail
      rw [found_cons]
      have hs : Instr.sameNow u v c.key = some (x.keq e.1) ∨ Instr.sameNow u v c.key = none := by
        cases kt with
        | int k =>
          obtain ⟨i, rfl⟩ := isInt_inv hx
          obtain ⟨i', e'⟩ := isInt_inv h3
          rw [e'] at h1
          have ht : P.underlying t = some (.int k) := ht
          rw [hu] at ht
          injection ht with ht
          subst ht
          rw [hr.int_inv, h1.int_inv, e']
          exact .inl (by simp [Instr.sameNow, AV.keq, AV.keq1])
        | str =>
          cases x <;> simp [KT.ok] at hx
          obtain ⟨e1, e2⟩ := e
          cases e1 <;> simp [KT.ok] at h3
          have ht : P.underlying t = some .string := ht
          rw [hu] at ht
          injection ht with ht
          subst ht
          simp only at h1
          rw [hr.str_inv, h1.str_inv]
          exact .inl rfl
        | arr len k =>
          obtain ⟨e', b, z, ha, _⟩ := ht
          rw [hu] at ha
          injection ha with ha
          subst ha
          right
          cases x <;> simp [KT.ok] at hx
          obtain ⟨cs, rfl, _⟩ := hr.agg_inv
          simp [Instr.sameNow]
      rcases hs with hs | hs
      · simp only [Instr.findNow, hs]
        cases hk : x.keq e.1 with
        | true => left; simp
        | false => simpa using ih l (j + 1) h4
      · right; simp [Instr.findNow, hs]

theorem findKey_run {kt : KT} {t : TypeId} {u : TypeDesc} (ht : kt.is P t) (hu : P.underlying t = some u) {x : AV} {v : Value} (hx : kt.ok x = true) (hr : RV m n x v) {es : List (AV × AV)} {l : List MapEntry} (h : EntsRel m n kt es l) :
    (Instr.findKey t v l).run P w = .ok (found x es l 0) w := by
  simp only [Instr.findKey, Sem.run_bind, run_und hu, Result.andThen_ok]
  rcases findNow_eq ht hu hx hr es l 0 h with h1 | h1
  · rw [h1]; simp
  · rw [h1]; exact findAsking_run ht hx hr es l 0 h

theorem kt_und {kt : KT} {t : TypeId} (ht : kt.is P t) : ∃ u, P.underlying t = some u := by
  cases kt with
  | int k => exact ⟨_, ht⟩
  | str => exact ⟨_, ht⟩
  | arr len k => obtain ⟨e, b, z, hu, _⟩ := ht; exact ⟨_, hu⟩

theorem afind_lt {x : AV} {es : List (AV × AV)} {i : Nat} (h : afind x es = some i) : i < es.length := by
  unfold afind at h
  rw [List.findIdx?_eq_some_iff_getElem] at h
  exact h.1
theorem afind_keq {x : AV} {es : List (AV × AV)} {i : Nat} (h : afind x es = some i) : x.keq (es[i]'(afind_lt h)).1 = true := by
  have h' := h
  unfold afind at h'
  rw [List.findIdx?_eq_some_iff_getElem] at h'
  exact h'.2.1

/-- an equal key is the same key -/
theorem sameBits_int (d : Nat) (k : IntKind) (a : Int) : Instr.sameBits (d + 1) (.int k a) (.int k a) = true := by simp [Instr.sameBits]
theorem sameBits_self {kt : KT} {x y : AV} {v u : Value} (hx : kt.ok x = true) (hy : kt.ok y = true) (hk : x.keq y = true) (hrx : RV m n x v) (hry : RV m n y u) : v = u := by
  cases kt with
  | int k =>
    obtain ⟨i, rfl⟩ := isInt_inv hx
    obtain ⟨j, rfl⟩ := isInt_inv hy
    simp [AV.keq, AV.keq1] at hk
    rw [hrx.int_inv, hry.int_inv, hk]
  | str =>
    cases x <;> simp [KT.ok] at hx
    cases y <;> simp [KT.ok] at hy
    simp [AV.keq, AV.keq1, ba_beq] at hk
    rw [hrx.str_inv, hry.str_inv, hk]
  | arr len k =>
    cases x <;> simp [KT.ok] at hx
    cases y <;> simp [KT.ok] at hy
    rename_i xs ys
    obtain ⟨cs, rfl, hcs⟩ := hrx.agg_inv
    obtain ⟨ds, rfl, hds⟩ := hry.agg_inv
    congr 1
    have hl1 : xs.length = cs.size := by simpa using hcs.1
    have hl2 : ys.length = ds.size := by simpa using hds.1
    have hkk : AV.keqs xs ys = true := hk
    rw [keqs_take xs ys (by omega) (by simpa using hx.2) (by simpa using hy.2)] at hkk
    apply Array.ext
    · omega
    · intro i h1 h2
      obtain ⟨a, ea, ha⟩ := ints_conc (by simpa using hx.2) hcs i (by omega)
      obtain ⟨c, ec, hc⟩ := ints_conc (by simpa using hy.2) hds i (by omega)
      have := List.all_eq_true.1 hkk i (by simp; omega)
      have e1 : xs.getD i .undef = .int k a := by rw [← ea]; simp [show i < xs.length by omega]
      have e2 : ys.getD i .undef = .int k c := by rw [← ec]; simp [show i < ys.length by omega]
      rw [e1, e2] at this
      simp [AV.keq1] at this
      rw [Array.getElem?_eq_getElem h1] at ha
      rw [Array.getElem?_eq_getElem h2] at hc
      injection ha with ha
      injection hc with hc
      rw [ha, hc, this]
theorem sameBits_refl {kt : KT} {x : AV} {v : Value} (hx : kt.ok x = true) (hr : RV m n x v) : Instr.sameBits 10000 v v = true := by
  cases kt with
  | int k => obtain ⟨i, rfl⟩ := isInt_inv hx; rw [hr.int_inv]; exact sameBits_int 9999 _ _
  | str =>
    cases x <;> simp [KT.ok] at hx
    rw [hr.str_inv]; simp [Instr.sameBits, ba_beq]
  | arr len k =>
    cases x <;> simp [KT.ok] at hx
    rename_i xs
    obtain ⟨cs, rfl, hcs⟩ := hr.agg_inv
    show Instr.sameBits (9999 + 1) _ _ = true
    rw [Instr.sameBits]
    simp only [BEq.rfl, Bool.true_and, List.all_eq_true]
    intro p hp
    obtain ⟨i, hi, e⟩ := List.mem_iff_getElem.1 hp
    simp only [List.getElem_zip] at e
    subst e
    have hl1 : xs.length = cs.size := by simpa using hcs.1
    have hi' : i < cs.size := by simpa using hi
    obtain ⟨a, ea, ha⟩ := ints_conc (by simpa using hx.2) hcs i (by omega)
    rw [Array.getElem?_eq_getElem hi'] at ha
    injection ha with ha
    simp only [Array.getElem_toList, ha]
    exact sameBits_int 9998 _ _
end

section
variable {P : Program} {F : Fr} {H : Hp} {d : Option Tmp} {ty : TypeId} {pos : String} {af : Array Edge} {g : Option (Nat × Bool)}

theorem getObj_run {w : World} {r : Nat} {o : Obj} (h : w.heap[r]? = some o) (hc : ∀ c e f, o ≠ .cells c e f) : (getObj r).run P w = .ok o w := by
  cases o <;> first | exact absurd rfl (hc _ _ _) | simp [getObj, Sem.run, h]
theorem setObj_run {w : World} {r : Nat} {o o' : Obj} (h : w.heap[r]? = some o) (hc : ∀ c e f, o ≠ .cells c e f) : (setObj r o').run P w = .ok () { w with heap := w.heap.setIfInBounds r o' } := by
  cases o <;> first | exact absurd rfl (hc _ _ _) | simp [setObj, Sem.run, h]

theorem Inv.ents {B : Nat} {w0 w : World} {m : Nat → Loc} (hi : Inv B w0 m H w) {b : Nat} {kt : KT} {es : List (AV × AV)} (hg : H.get b = some (.map kt es)) :
    ∃ ents clock, w.heap[(m b).blk]? = some (.map ents clock) ∧ B ≤ (m b).blk ∧ EntsRel m H.n kt es ents.toList := by
  obtain ⟨ents, clock, hh, hB, hs, hk, hp⟩ := hi.rel b _ hg
  exact ⟨ents, clock, hh, hB, by simpa using hs, hk, fun i h1 h2 => by
    have := hp i h1 (by simpa using h2)
    simpa using this⟩

theorem s_lookup {t kty e : TypeId} {x i : Operand} {b s by' : Nat} {z : Value} {kt : KT} {key : AV} {r : Option AV} {ok : Bool} (hu : P.underlying t = some (.map kty e)) (hk : kt.is P kty) (ht : TyIs P e s by' z)
    (hx' : aeval F x = .map b) (hi' : aeval F i = key) (hkt : ∃ es, H.get b = some (.map kt es)) (hm : H.mget b key = some r) :
    Step1 P ⟨d, .lookup t x i ok, ty, pos, af, g⟩ F H (if ok then .tup [r.getD (ofVal z), .bool r.isSome] else r.getD (ofVal z)) H :=
  .of_run (Nat.le_refl _) fun B w0 m a w hx hi => by
    have h1 := hx x (by simp [Op.operands]); rw [hx'] at h1
    have h2 := hx i (by simp [Op.operands]); rw [hi'] at h2
    obtain ⟨hb, e1⟩ := h1.map_inv
    obtain ⟨es, hg⟩ := hkt
    unfold Hp.mget at hm
    rw [hg] at hm
    simp only at hm
    split at hm
    case isFalse => cases hm
    rename_i hok
    injection hm with hm
    obtain ⟨ents, clock, hh, hB, hrel⟩ := hi.ents hg
    obtain ⟨u, hku⟩ := kt_und hk
    have hget : (getObj (m b).blk).run P w = .ok (.map ents clock) w := getObj_run hh (fun _ _ _ h => by cases h)
    have hrun : ∃ v, RV m H.n (r.getD (ofVal z)) v ∧ (Instr.lookup t (.map (some (m b).blk)) (a.eval i) ok).run P w = .ok (if ok then .tuple #[v, .bool r.isSome] else v) w := by
      simp only [Instr.lookup, Sem.run_bind, run_und hu, Result.andThen_ok, hget, Sem.run_pure, checkKey_run hk hok h2, findKey_run hk hku hok h2 hrel]
      unfold found
      cases hf : afind key es with
      | none =>
        rw [hf] at hm
        simp at hm
        subst hm
        exact ⟨z, RV.ofVal _ _ _, by simp [run_zero ht]⟩
      | some j =>
        have hj := afind_lt hf
        have hj2 : j < ents.toList.length := by have := hrel.1; omega
        rw [hf] at hm
        simp only [Option.bind_some, List.getElem?_eq_getElem hj, Option.map_some] at hm
        subst hm
        have hj3 : j < ents.size := by simpa using hj2
        refine ⟨ents.toList[j].val, (hrel.2.2 j hj hj2).2, ?_⟩
        simp [hj3]
    obtain ⟨v, hv, hrun⟩ := hrun
    refine ⟨if ok then .tuple #[v, .bool r.isSome] else v, w, m, by simp [execOp, e1, hrun], .refl _ _, ?_, hi⟩
    cases ok with
    | false => simpa using hv
    | true =>
      simp only [if_true]
      exact .tup_mk (.cons hv (.cons (.bool _) .nil))

theorem Inv.setMap {B : Nat} {w0 w : World} {m : Nat → Loc} (hi : Inv B w0 m H w) {b : Nat} {kt : KT} {es es' : List (AV × AV)} (hg : H.get b = some (.map kt es)) {ents : Array MapEntry} {clock : Nat}
    (hr : EntsRel m H.n kt es' ents.toList) : Inv B w0 m (H.set b (.map kt es')) { w with heap := w.heap.setIfInBounds (m b).blk (.map ents clock) } := by
  obtain ⟨ents0, clock0, hh, hB, _⟩ := hi.ents hg
  have hlt : (m b).blk < w.heap.size := (Array.getElem?_eq_some_iff.1 hh).1
  have hheap : ∀ k, k ≠ (m b).blk → (w.heap.setIfInBounds (m b).blk (.map ents clock))[k]? = w.heap[k]? := fun k hk => Array.getElem?_setIfInBounds_ne (by omega)
  have hi2 : Inv B w0 m (H.set b .dead) { w with heap := w.heap.setIfInBounds (m b).blk (.map ents clock) } := by
    have hk := hi.kill hg
    refine ⟨?_, by simpa using hi.hB, fun b' k' h' => ?_, hk.excl⟩
    · refine hi.below.trans ⟨rfl, rfl, rfl, by simp, fun k hk => hheap k (by omega)⟩
    · by_cases e : b' = b
      · subst e
        rw [Hp.get_set_same H _ (Hp.get_lt hg)] at h'
        injection h' with h'
        subst h'
        trivial
      · have h2 := h'
        rw [Hp.get_set_other H _ e] at h2
        exact (hk.rel b' k' h').mono (.refl _ _) (Nat.le_refl _) (Hp.get_lt h') (fun hl' => hheap _ (fun e2 => hi.excl b b' _ _ (Ne.symm e) hg h2 rfl hl' e2.symm))
  refine ⟨hi2.below, hi2.hB, fun b' k' h' => ?_, fun b1 b2 k1 k2 hne h1 h2 ho1 hl2 => ?_⟩
  · by_cases e : b' = b
    · subst e
      rw [Hp.get_set_same H _ (Hp.get_lt hg)] at h'
      injection h' with h'
      subst h'
      refine ⟨ents, clock, by simp [hlt], hB, by simpa using hr.1, hr.2.1, fun i h1 h2 => ?_⟩
      rw [Hp.n_set]
      have := hr.2.2 i h1 (by simpa using h2)
      simpa using this
    · rw [Hp.get_set_other H _ e] at h'
      have := hi2.rel b' k' (by rw [Hp.get_set_other H _ e]; exact h')
      simpa using this
  · have old : ∀ b' k', (H.set b (.map kt es')).get b' = some k' → ∃ k'', H.get b' = some k'' ∧ (k'.owned = true → k''.owned = true) ∧ (k'.live = true → k''.live = true) := by
      intro b' k' h'
      by_cases e : b' = b
      · subst e
        rw [Hp.get_set_same H _ (Hp.get_lt hg)] at h'
        injection h' with h'
        subst h'
        exact ⟨_, hg, fun _ => rfl, fun _ => rfl⟩
      · rw [Hp.get_set_other H _ e] at h'
        exact ⟨k', h', id, id⟩
    obtain ⟨k1', g1, o1, _⟩ := old _ _ h1
    obtain ⟨k2', g2, _, l2⟩ := old _ _ h2
    exact hi.excl b1 b2 k1' k2' hne g1 g2 (o1 ho1) (l2 hl2)

theorem s_mapUpdate {t kty e : TypeId} {x i y : Operand} {b : Nat} {kt : KT} {key v : AV} {H1 : Hp} (hu : P.underlying t = some (.map kty e)) (hk : kt.is P kty)
    (hx' : aeval F x = .map b) (hi' : aeval F i = key) (hy' : aeval F y = v) (hkt : ∃ es, H.get b = some (.map kt es)) (hm : H.mset b key v = some H1) :
    Step1 P ⟨d, .mapUpdate t x i y, ty, pos, af, g⟩ F H .undef H1 := by
  obtain ⟨es, hg⟩ := hkt
  unfold Hp.mset at hm
  rw [hg] at hm
  simp only at hm
  split at hm
  case isFalse => cases hm
  rename_i hok
  have hn : H1.n = H.n := by
    split at hm <;> injection hm with hm <;> subst hm <;> simp
  refine .of_skip (by omega) fun B w0 m a w hx hi => ?_
  have h1 := hx x (by simp [Op.operands]); rw [hx'] at h1
  have h2 := hx i (by simp [Op.operands]); rw [hi'] at h2
  have h3 := hx y (by simp [Op.operands]); rw [hy'] at h3
  obtain ⟨hb, e1⟩ := h1.map_inv
  obtain ⟨ents, clock, hh, hB, hrel⟩ := hi.ents hg
  obtain ⟨u, hku⟩ := kt_und hk
  have hget : (getObj (m b).blk).run P w = .ok (.map ents clock) w := getObj_run hh (fun _ _ _ h => by cases h)
  have hset : ∀ o', (setObj (m b).blk o').run P w = .ok () { w with heap := w.heap.setIfInBounds (m b).blk o' } := fun o' => setObj_run hh (fun _ _ _ h => by cases h)
  cases hf : afind key es with
  | none =>
    rw [hf] at hm
    injection hm with hm
    subst hm
    refine ⟨_, m, ?_, .refl _ _, hi.setMap (ents := ents.push { key := a.eval i, val := a.eval y, born := clock }) (clock := clock + 1) hg ?_⟩
    · simp [execOp, e1, Instr.mapUpdate, run_und hu, hget, checkKey_run hk hok h2, findKey_run hk hku hok h2 hrel, found, hf, hset]
    · refine ⟨by have := hrel.1; simp at this ⊢; omega, fun e' h' => ?_, fun j hj1 hj2 => ?_⟩
      · rcases List.mem_append.1 h' with h' | h'
        · exact hrel.2.1 _ h'
        · simp at h'; subst h'; exact hok
      · have hl := hrel.1
        simp only [Array.toList_push]
        by_cases hj : j < es.length
        · rw [List.getElem_append_left hj, List.getElem_append_left (by omega)]
          exact hrel.2.2 j hj (by omega)
        · have hj' : j = es.length := by simp at hj1; omega
          subst hj'
          rw [List.getElem_append_right (Nat.le_refl _), List.getElem_append_right (by omega)]
          simp [h2, h3]
  | some j =>
    rw [hf] at hm
    injection hm with hm
    subst hm
    have hj := afind_lt hf
    have hj2 : j < ents.toList.length := by have := hrel.1; omega
    have hj3 : j < ents.size := by simpa using hj2
    have hkey : ents[j].key = a.eval i := by
      have := sameBits_self hok (hrel.2.1 _ (List.getElem_mem hj)) (afind_keq hf) h2 (hrel.2.2 j hj hj2).1
      rw [this]; simp
    refine ⟨_, m, ?_, .refl _ _, hi.setMap (ents := ents.modify j fun e => { e with key := a.eval i, val := a.eval y }) (clock := clock) hg ?_⟩
    · have hstay : (Instr.keyThatStays (a.eval i) (a.eval i)).run P w = .ok (a.eval i) w := by
        simp [Instr.keyThatStays, sameBits_refl hok h2]
      simp [execOp, e1, Instr.mapUpdate, run_und hu, hget, checkKey_run hk hok h2, findKey_run hk hku hok h2 hrel, found, hf, hj3, hkey, hstay, hset]
    · refine ⟨by have := hrel.1; simp at this ⊢; omega, fun e' h' => ?_, fun l hl1 hl2 => ?_⟩
      · obtain ⟨l, hl, e⟩ := List.mem_iff_getElem.1 h'
        by_cases hlj : l = j
        · subst hlj; rw [List.getElem_set_self] at e; subst e; exact hok
        · rw [List.getElem_set_ne (Ne.symm hlj)] at e
          subst e
          exact hrel.2.1 _ (List.getElem_mem _)
      · have hl3 : l < es.length := by simpa using hl1
        simp only [Array.getElem_toList, Array.getElem_modify]
        by_cases hlj : j = l
        · subst hlj
          simp [h2, h3]
        · rw [List.getElem_set_ne hlj]
          simp only [hlj, if_false]
          have := hrel.2.2 l hl3 (by have := hrel.1; omega)
          simpa using this

theorem s_delete {t kty e : TypeId} {x i : Operand} {b : Nat} {kt : KT} {key : AV} {H1 : Hp} {ats : Array TypeId} (ha : ats[0]? = some t) (hu : P.underlying t = some (.map kty e)) (hk : kt.is P kty)
    (hx' : aeval F x = .map b) (hi' : aeval F i = key) (hkt : ∃ es, H.get b = some (.map kt es)) (hm : H.mdel b key = some H1) :
    Step1 P ⟨d, .call ⟨.builtin .delete, #[x, i], ats⟩, ty, pos, af, g⟩ F H (.tup []) H1 := by
  obtain ⟨es, hg⟩ := hkt
  unfold Hp.mdel at hm
  rw [hg] at hm
  simp only at hm
  split at hm
  case isFalse => cases hm
  rename_i hok
  have hn : H1.n = H.n := by
    split at hm <;> injection hm with hm <;> subst hm <;> simp
  refine .of_run (by omega) fun B w0 m a w hx hi => ?_
  have h1 := hx x (by simp [Op.operands, Call.operands]); rw [hx'] at h1
  have h2 := hx i (by simp [Op.operands, Call.operands]); rw [hi'] at h2
  obtain ⟨hb, e1⟩ := h1.map_inv
  obtain ⟨ents, clock, hh, hB, hrel⟩ := hi.ents hg
  obtain ⟨u, hku⟩ := kt_und hk
  have hget : (getObj (m b).blk).run P w = .ok (.map ents clock) w := getObj_run hh (fun _ _ _ h => by cases h)
  have hset : ∀ o', (setObj (m b).blk o').run P w = .ok () { w with heap := w.heap.setIfInBounds (m b).blk o' } := fun o' => setObj_run hh (fun _ _ _ h => by cases h)
  cases hf : afind key es with
  | none =>
    rw [hf] at hm
    injection hm with hm
    subst hm
    refine ⟨.tuple #[], _, m, ?_, .refl _ _, .tup_mk .nil, hi.setMap (ents := ents) (clock := clock) hg hrel⟩
    simp [execOp, resolve, invoke, builtin, ha, e1, Builtin.delete_, run_und hu, hget, checkKey_run hk hok h2, findKey_run hk hku hok h2 hrel, found, hf, hset]
  | some j =>
    rw [hf] at hm
    injection hm with hm
    subst hm
    have hj := afind_lt hf
    have hj2 : j < ents.toList.length := by have := hrel.1; omega
    have hj3 : j < ents.size := by simpa using hj2
    refine ⟨.tuple #[], _, m, ?_, .refl _ _, .tup_mk .nil, hi.setMap (ents := ents.eraseIdxIfInBounds j) (clock := clock) hg ?_⟩
    · simp [execOp, resolve, invoke, builtin, ha, e1, Builtin.delete_, run_und hu, hget, checkKey_run hk hok h2, findKey_run hk hku hok h2 hrel, found, hf, hj3, hset]
    · have hl := hrel.1
      have he : (ents.eraseIdxIfInBounds j).toList = ents.toList.eraseIdx j := by simp
      rw [he]
      refine ⟨by simp [List.length_eraseIdx, hj, hj2, hl, hj3], fun e' h' => hrel.2.1 _ (List.mem_of_mem_eraseIdx h'), fun l hl1 hl2 => ?_⟩
      rw [List.getElem_eraseIdx, List.getElem_eraseIdx]
      rw [List.length_eraseIdx] at hl1 hl2
      rw [if_pos hj] at hl1
      split
      · exact hrel.2.2 l (by omega) (by omega)
      · exact hrel.2.2 (l + 1) (by omega) (by omega)
end
end Go.Lt
