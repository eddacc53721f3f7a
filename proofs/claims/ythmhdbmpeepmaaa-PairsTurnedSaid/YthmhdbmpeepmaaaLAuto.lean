/- THE LIBRARY OF THESE PROOFS, A PART: an abstract heap, and that the model's steps keep to it. Nothing is asked of the input. -/
import Derived.Test.YthmhdbmpeepmaaaLPrs
set_option linter.unusedVariables false
namespace Go.Lt
open Go.RowKit

/-! ### runs -/
/-- the run comes to something of which Q holds -/
def Ok {α : Type} (x : Option (α × Hp)) (Q : α → Hp → Prop) : Prop := ∃ a H', x = some (a, H') ∧ Q a H'
section
variable {α β : Type} {Q : α → Hp → Prop}
theorem Ok.ret {a : α} {H : Hp} (h : Q a H) : Ok (some (a, H)) Q := ⟨a, H, rfl, h⟩
theorem Ok.bind {x : Option (β × Hp)} {f : β × Hp → Option (α × Hp)} {P : β → Hp → Prop} (h : Ok x P) (k : ∀ a H', P a H' → Ok (f (a, H')) Q) : Ok (x.bind f) Q := by
  obtain ⟨a, H', rfl, hp⟩ := h
  exact k a H' hp
theorem Ok.ld {x : Option β} {b : β} {f : β → Option (α × Hp)} (h : x = some b) (k : Ok (f b) Q) : Ok (x.bind f) Q := by
  subst h; exact k
theorem Ok.mono {x : Option (α × Hp)} {P : α → Hp → Prop} (h : Ok x P) (k : ∀ a H', P a H' → Q a H') : Ok x Q := by
  obtain ⟨a, H', e, hp⟩ := h
  exact ⟨a, H', e, k a H' hp⟩
theorem Ok.ck {c : Prop} [Decidable c] {x : Option (α × Hp)} (hc : c) (h : Ok x Q) : Ok (ck c x) Q := by
  rw [Lt.ck, if_pos hc]; exact h
theorem Ok.lt {e : Hp} {f : Hp → Option (α × Hp)} (h : Ok (f e) Q) : Ok (lt e f) Q := h
theorem Ok.ite {c : Prop} [Decidable c] {x y : Option (α × Hp)} (h : c → Ok x Q) (k : ¬ c → Ok y Q) : Ok (if c then x else y) Q := by
  split
  · exact h ‹_›
  · exact k ‹_›
theorem Ok.pos {c : Prop} [Decidable c] {x y : Option (α × Hp)} (hc : c) (h : Ok x Q) : Ok (if c then x else y) Q := by rw [if_pos hc]; exact h
theorem Ok.neg {c : Prop} [Decidable c] {x y : Option (α × Hp)} (hc : ¬ c) (h : Ok y Q) : Ok (if c then x else y) Q := by rw [if_neg hc]; exact h
/-- a loop: what is left grows less -/
theorem Ok.loop {σ : Type} {L : Nat → σ → Hp → Option (α × Hp)} (I : Nat → σ → Hp → Prop)
    (step : ∀ K m s H, I m s H → (∀ m' s' H', m' < m → I m' s' H' → Ok (L K s' H') Q) → Ok (L (K + 1) s H) Q) : ∀ K m s H, m < K → I m s H → Ok (L K s H) Q := by
  intro K
  induction K with
  | zero => intro m s H h; omega
  | succ K ih => intro m s H h hi; exact step K m s H hi fun m' s' H' hm hi' => ih m' s' H' (by omega) hi'
end
theorem w64_succ {i : Nat} (h : i < 4611686018427387904) : w64 ((i : Int) + 1) = ((i + 1 : Nat) : Int) := by rw [w64_id (by omega) (by omega)]; push_cast; rfl

/-! ### things in cells -/
class El (T : Type) where
  sz : Nat
  enc : T → List AV
  len : ∀ x, (enc x).length = sz
  one : ∀ x, (enc x).all AV.one = true
  pos : 0 < sz
instance elInt : El Int := ⟨1, fun x => [.int .i64 x], fun _ => rfl, fun _ => rfl, by decide⟩
instance elBool : El Bool := ⟨1, fun x => [.bool x], fun _ => rfl, fun _ => rfl, by decide⟩
instance elStr : El ByteArray := ⟨1, fun x => [.str x], fun _ => rfl, fun _ => rfl, by decide⟩
instance elProd {T U : Type} [El T] [El U] : El (T × U) := ⟨El.sz T + El.sz U, fun p => El.enc p.1 ++ El.enc p.2, fun p => by rw [List.length_append, El.len, El.len], fun p => by rw [List.all_append, El.one, El.one]; rfl, by have := El.pos (T := T); omega⟩
section
variable {T : Type} [El T]
def encs (l : List T) : List AV := l.flatMap El.enc
@[simp] theorem encs_nil : encs ([] : List T) = [] := rfl
theorem encs_cons (x : T) (l : List T) : encs (x :: l) = El.enc x ++ encs l := rfl
theorem encs_append (a b : List T) : encs (a ++ b) = encs a ++ encs b := by unfold encs; rw [List.flatMap_append]
theorem encs_one (x : T) : encs [x] = El.enc x := by simp [encs]
theorem encs_len (l : List T) : (encs l).length = l.length * El.sz T := by
  induction l with
  | nil => simp [encs]
  | cons x l ih => rw [encs_cons, List.length_append, El.len, ih, List.length_cons, Nat.add_mul]; omega
theorem encs_all (l : List T) : (encs l).all AV.one = true := by
  induction l with
  | nil => rfl
  | cons x l ih => rw [encs_cons, List.all_append, El.one, ih]; rfl
theorem encs_get : ∀ (l : List T) (i j : Nat) (h : i < l.length), j < El.sz T → (encs l)[i * El.sz T + j]? = (El.enc l[i])[j]? := by
  intro l
  induction l with
  | nil => intro i j h; simp at h
  | cons x l ih =>
    intro i j h hj
    cases i with
    | zero => rw [encs_cons, List.getElem?_append_left (by rw [El.len]; omega)]; simp
    | succ i =>
      rw [encs_cons, List.getElem?_append_right (by rw [El.len, Nat.add_mul]; omega), El.len]
      have := ih i j (by simpa using h) hj
      rw [show (i + 1) * El.sz T + j - El.sz T = i * El.sz T + j by rw [Nat.add_mul]; omega, this]
      rfl
theorem encs_drop : ∀ (i : Nat) (l : List T), (encs l).drop (i * El.sz T) = encs (l.drop i) := by
  intro i
  induction i with
  | zero => intro l; simp
  | succ i ih =>
    intro l
    cases l with
    | nil => simp
    | cons x l => rw [encs_cons, List.drop_succ_cons, ← ih l, Nat.add_mul, Nat.one_mul, Nat.add_comm, List.drop_append, El.len, List.drop_of_length_le (by rw [El.len]; omega)]; simp
theorem encs_take : ∀ (i : Nat) (l : List T), (encs l).take (i * El.sz T) = encs (l.take i) := by
  intro i
  induction i with
  | zero => intro l; simp
  | succ i ih =>
    intro l
    cases l with
    | nil => simp
    | cons x l => rw [encs_cons, List.take_succ_cons, encs_cons, ← ih l, Nat.add_mul, Nat.one_mul, Nat.add_comm, List.take_append, El.len, List.take_of_length_le (by rw [El.len]; omega)]; simp

/-- a slice as one meets it -/
structure SL (H : Hp) (v : Sl) (l : List T) : Prop where
  cs : Cs H (El.sz T) v (encs l)
  cap : v.len ≤ v.cap
  opn : v.opn = 0 ∨ v.opn = El.sz T
  nil : v.nil = true → v = nilS ∧ l = []
theorem SL.len {H : Hp} {v : Sl} {l : List T} (h : SL H v l) : v.len = l.length := by
  have := h.cs.1
  rw [encs_len] at this
  exact (Nat.eq_of_mul_eq_mul_right El.pos this).symm
theorem SL.gr {H H' : Hp} {v : Sl} {l : List T} (h : SL H v l) (g : Gr H H') : SL H' v l := ⟨h.cs.gr g, h.cap, h.opn, h.nil⟩
theorem SL.ld {H : Hp} {v : Sl} {l : List T} (h : SL H v l) {i j : Nat} {x : AV} (hi : i < l.length) (e : (El.enc l[i])[j]? = some x) : H.ld v.b (v.o + i * El.sz T + j) = some x := by
  obtain ⟨hj, _⟩ := List.getElem?_eq_some_iff.1 e
  rw [El.len] at hj
  have h1 := encs_get l i j hi hj
  rw [e] at h1
  obtain ⟨h2, h3⟩ := List.getElem?_eq_some_iff.1 h1
  have := (lds_get h.cs.2).2 _ h2
  rw [h3] at this
  rw [Nat.add_assoc]
  exact this
theorem SL.ldI {H : Hp} {v : Sl} {l : List T} (h : SL H v l) {i j : Nat} {n : Int} (hi : i < l.length) (e : (El.enc l[i])[j]? = some (.int .i64 n)) : H.ldI .i64 v.b (v.o + i * El.sz T + j) = some n := by
  simp [Hp.ldI, h.ld hi e, AV.asI]
theorem SL.nonnil {H : Hp} {v : Sl} {l : List T} (h : SL H v l) (h0 : l ≠ []) : v.nil = false := by
  cases hn : v.nil with
  | false => rfl
  | true => exact absurd (h.nil hn).2 h0
theorem SL.nilS {H : Hp} : SL (T := T) H ⟨true, 0, 0, 0, 0, 0⟩ [] := ⟨⟨by simp, rfl⟩, Nat.le_refl _, .inl rfl, fun _ => ⟨rfl, rfl⟩⟩
theorem SL.lds {H : Hp} {v : Sl} {l : List T} (h : SL H v l) : H.lds v.b v.o (v.len * El.sz T) = some (encs l) := h.cs.lds
/-- a part of a slice -/
theorem SL.cut {H : Hp} {v : Sl} {l : List T} (h : SL H v l) {lo hi : Nat} (h1 : lo ≤ hi) (h2 : hi ≤ l.length) : SL H (v.cut (El.sz T) lo hi) ((l.drop lo).take (hi - lo)) := by
  have hlen := h.len
  cases hn : v.nil with
  | true =>
    obtain ⟨rfl, rfl⟩ := h.nil hn
    simp [Sl.cut, Lt.nilS]
    exact SL.nilS
  | false =>
    have hcap := h.cap
    refine ⟨⟨by rw [encs_len]; simp only [Sl.cut, hn, Bool.false_eq_true, if_false, List.length_take, List.length_drop]; congr 1; omega, ?_⟩, by simp [Sl.cut, hn]; omega, by simp [Sl.cut, hn]; exact h.opn, by simp [Sl.cut, hn]⟩
    have e : encs ((l.drop lo).take (hi - lo)) = ((encs l).drop (lo * El.sz T)).take ((hi - lo) * El.sz T) := by rw [encs_drop, encs_take]
    rw [e]
    refine lds_of_get fun i hi' => ?_
    simp only [List.length_take, List.length_drop] at hi'
    have hb : (v.cut (El.sz T) lo hi).b = v.b := by simp [Sl.cut, hn]
    have ho : (v.cut (El.sz T) lo hi).o = v.o + lo * El.sz T := by simp [Sl.cut, hn]
    rw [hb, ho, Nat.add_assoc, h.cs.ld (i := lo * El.sz T + i) (by omega)]
    simp
theorem SL.cut3 {H : Hp} {v : Sl} {l : List T} (h : SL H v l) {lo hi mx : Nat} (h1 : lo ≤ hi) (h2 : hi ≤ l.length) (hm : hi ≤ mx) : SL H (v.cut3 (El.sz T) lo hi mx) ((l.drop lo).take (hi - lo)) := by
  have h3 := h.cut h1 h2
  cases hn : v.nil with
  | true =>
    obtain ⟨rfl, rfl⟩ := h.nil hn
    simp [Sl.cut3, Lt.nilS]
    exact SL.nilS
  | false =>
    have e : v.cut3 (El.sz T) lo hi mx = ⟨false, v.b, v.o + lo * El.sz T, hi - lo, mx - lo, 0⟩ := by simp [Sl.cut3, hn]
    have e' : v.cut (El.sz T) lo hi = ⟨false, v.b, v.o + lo * El.sz T, hi - lo, v.cap - lo, v.opn⟩ := by simp [Sl.cut, hn]
    rw [e]
    rw [e'] at h3
    exact ⟨h3.cs, by simp; omega, .inl rfl, fun h => by simp at h⟩
theorem SL.of_get {H : Hp} {v : Sl} {l : List T} {ro : Bool} (h : H.get v.b = some (.cells (encs l) ro)) (ho : v.o = 0) (hl : v.len = l.length) (hc : v.len ≤ v.cap) (hp : v.opn = 0 ∨ v.opn = El.sz T) (hn : v.nil = false) : SL H v l :=
  ⟨.of_get h ho (by rw [encs_len, hl]), hc, hp, fun e => by rw [hn] at e; cases e⟩

/-! ### what one appends to -/
def AccL (n0 : Nat) (H : Hp) (v : Sl) (l : List T) : Prop := Acc n0 (El.sz T) H v (encs l)
theorem AccL.nilS {n0 : Nat} {H : Hp} : AccL (T := T) n0 H ⟨true, 0, 0, 0, 0, 0⟩ [] := Acc.nilS
theorem AccL.gr {n0 : Nat} {H H' : Hp} {v : Sl} {l : List T} (h : AccL n0 H v l) (g : Gr H H') : AccL n0 H' v l := Acc.gr g h
theorem AccL.sl {n0 : Nat} {H : Hp} {v : Sl} {l : List T} (h : AccL n0 H v l) : SL H v l := by
  refine ⟨h.cs, ?_, ?_, ?_⟩ <;> rcases h with ⟨rfl, e⟩ | ⟨h1, h2, h3, h4, h5, h6, h7⟩
  · simp [Lt.nilS]
  · omega
  · simp [Lt.nilS]
  · exact .inr h3
  · intro _
    refine ⟨rfl, ?_⟩
    cases l with
    | nil => rfl
    | cons x l =>
      have h1 := congrArg List.length e
      rw [encs_len, List.length_cons, List.length_nil, Nat.add_mul] at h1
      have := El.pos (T := T)
      omega
  · intro e; rw [h1] at e; cases e
theorem AccL.len {n0 : Nat} {H : Hp} {v : Sl} {l : List T} (h : AccL n0 H v l) : v.len = l.length := h.sl.len
theorem AccL.app {H0 H : Hp} {v : Sl} {l : List T} (h : AccL H0.n H v l) (g : Gr H0 H) (x : List T) {es n : Nat} {cs : List AV} (hes : es = El.sz T) (hcs : cs = encs x) (hn : n = x.length) (hb : l.length + x.length ≤ 4294967296) :
    Ok (H.apN es v cs n) fun v' H' => AccL H0.n H' v' (l ++ x) ∧ Gr H0 H' ∧ But v H H' ∧ (v' = v ∨ H.n ≤ v'.b) ∧ (x ≠ [] → v'.nil = false) := by
  subst hes; subst hcs; subst hn
  have hl := h.len
  obtain ⟨v', H', h1, h2, h3, h4, h5, h6, h7⟩ := Acc.apN (k := x.length) h El.pos (encs_len x) (by rw [hl]; exact hb) g.1
  refine ⟨v', H', h1, ?_, h3.gr h g, h3, h4, fun hx => h6 (by have := List.length_pos_iff.2 hx; exact this)⟩
  unfold AccL
  rw [encs_append]
  exact h2
theorem AccL.push {H0 H : Hp} {v : Sl} {l : List T} (h : AccL H0.n H v l) (g : Gr H0 H) (x : T) {es : Nat} {cs : List AV} (hes : es = El.sz T) (hcs : cs = El.enc x) (hb : l.length < 4294967296) :
    Ok (H.apN es v cs 1) fun v' H' => AccL H0.n H' v' (l ++ [x]) ∧ Gr H0 H' ∧ But v H H' ∧ (v' = v ∨ H.n ≤ v'.b) ∧ v'.nil = false :=
  (h.app g [x] hes (by rw [hcs, encs_one]) rfl (by simp; omega)).mono fun _ _ ⟨a, b, c, d, e⟩ => ⟨a, b, c, d, e (by simp)⟩
end

theorem ldI_get {H : Hp} {b o : Nat} {cs : List AV} {ro : Bool} {n : Int} (h : H.get b = some (.cells cs ro)) (e : cs[o]? = some (.int .i64 n)) : H.ldI .i64 b o = some n := by
  simp [Hp.ldI, ld_of_get h, e, AV.asI]
theorem ldB_get {H : Hp} {b o : Nat} {cs : List AV} {ro : Bool} {n : Bool} (h : H.get b = some (.cells cs ro)) (e : cs[o]? = some (.bool n)) : H.ldB b o = some n := by
  simp [Hp.ldB, ld_of_get h, e, AV.asB]
theorem ldSl_get {H : Hp} {b o : Nat} {cs : List AV} {ro : Bool} {n : Sl} (h : H.get b = some (.cells cs ro)) (e : cs[o]? = some (.sl n)) : H.ldSl b o = some n := by
  simp [Hp.ldSl, ld_of_get h, e, AV.asSl]
theorem ldV_get {H : Hp} {b o : Nat} {cs : List AV} {ro : Bool} {x : AV} (h : H.get b = some (.cells cs ro)) (e : cs[o]? = some x) (hu : x.isU = false) : H.ldV b o = some x := by
  simp [Hp.ldV, ld_of_get h, e, hu]
/-- a store in a block of one's own -/
theorem Gr.set {H0 H : Hp} (g : Gr H0 H) {b : Nat} {k : Blk} (hb : H0.n ≤ b) : Gr H0 (H.set b k) :=
  ⟨by have := g.1; simp; omega, fun c hc => by rw [Hp.get_set_other _ _ (by omega), g.2 c hc]⟩
theorem Ok.st {α : Type} {Q : α → Hp → Prop} {H : Hp} {b o : Nat} {cs : List AV} {x : AV} {f : Hp → Option (α × Hp)} (h : H.get b = some (.cells cs false)) (ho : o < cs.length)
    (k : ∀ H', H' = H.set b (.cells (cs.set o x) false) → H'.get b = some (.cells (cs.set o x) false) → Ok (f H') Q) : Ok ((H.st b o x).bind f) Q := by
  rw [st_eq h ho]
  exact k _ rfl (Hp.get_set_same _ _ (Hp.get_lt h))
end Go.Lt
