/- THE LIBRARY OF THESE PROOFS, A PART: an abstract heap, and that the model's steps keep to it. Nothing is asked of the input. -/
import Derived.Test.YtopildlfbhfghaaGreatDoorLC
import Derived.ProofKit
import Derived.OpenShut
import Derived.WideKeyArgs
import Derived.Deep.Slices
import Derived.Test.YtopildlfbhfghaaGreatDoorLA
import Derived.Lib.ConvBytes
import Derived.Laws.Externs
import Derived.Laws.BytesArg
set_option linter.unusedVariables false
set_option linter.unusedSimpArgs false
namespace Go.Lt
open Go.ChangeShapes Go.WideShapes Go.ChangeAt Go.RowKit

variable {K : Type} {enc : TypeId × Value → K} {P : Program}

theorem trodAll_stays (hl : laidOutB P = true) {W W' : World} (hb : Below W.heap.size W W') {sp : Nat → Bool} : ∀ {ts : List TypeId} {vs : List Value} {ds : List (DataW K)} {ps : List MemPlace},
  (∀ t ∈ ts, P.readableRec t = true ∧ t < P.types.size) → (∀ x ∈ ps, x.block < W.heap.size) → (∀ p ∈ ps, sp p.block = true) →
  DataW.TrodAll enc P W 0 (fun _ => true) true ts vs ds ps → DataW.TrodAll enc P W' 0 sp true ts vs ds ps
 | [], [], [], _, _, _, _, h => h
 | t :: ts, v :: vs, d :: ds, ps, hr, hlt, hs, h => by
  obtain ⟨p, q, h1, h2, rfl⟩ := h
  refine ⟨p, q, ?_, ?_, rfl⟩
  ·exact WideElems.Trod_stays hl (hr t (by simp)).1 (hr t (by simp)).2 h1 (fun x hx => hb.same (hlt x (by simp [hx]))) (fun x hx => hs x (by simp [hx]))
  ·exact trodAll_stays hl hb (fun t ht => hr t (by simp [ht])) (fun x hx => hlt x (by simp [hx])) (fun x hx => hs x (by simp [hx])) h2
 | [], _ :: _, _, _, _, _, _, h => h.elim
 | [], [], _ :: _, _, _, _, _, h => h.elim
 | _ :: _, [], _, _, _, _, _, h => h.elim
 | _ :: _, _ :: _, [], _, _, _, _, h => h.elim

def parOk (P : Program) (ts : List TypeId) : Bool := ts.all fun t => P.readableRec t && decide (t < P.types.size)

theorem law_post {f : Func} {s : ChangeSpec} {apart fresh handsOn again : Bool} {W W' : World} {args : Array Value} {ds gs : List (DataW K)} {before : List MemPlace} {b : TypeId}
  (hvars : s.vars = []) (hfn : ∀ ds : List (DataW K), ds.length = f.params.size → s.fn K ds = { results := [.lit (.bool true)], args := ds })
  (hres : f.resultTypes = #[b]) (hb : P.underlying b = some .bool) (hl : laidOutB P = true) (hp : parOk P f.params.toList = true)
  (hW : DataW.Whole enc P f.params.toList s.vars apart W args.toList ds gs before) (hbel : Below W.heap.size W W') :
  s.post enc P f apart fresh handsOn again W args (.bool true) W' := by
 have hW' := hW
 obtain ⟨p, q, hA, hV, rfl, hfz, hnd⟩ := hW
 rw [hvars] at hV
 obtain ⟨rfl, rfl⟩ := trodVars_none hV
 have hlen : ∀ {ts : List TypeId} {vs : List Value} {ds : List (DataW K)} {ps : List MemPlace}, DataW.TrodAll enc P W 0 (fun _ => true) true ts vs ds ps → ds.length = ts.length := by
  intro ts
  induction ts with
  | nil => intro vs ds ps h; cases vs <;> cases ds <;> simp_all [DataW.TrodAll]
  | cons t ts ih =>
   intro vs ds ps h
   cases vs <;> cases ds <;> simp only [DataW.TrodAll] at h
   obtain ⟨_, _, _, h2, _⟩ := h
   simp [ih h2]
 have hd : ds.length = f.params.size := by rw [hlen hA]; simp
 have hlt := hW'.lt
 simp only [List.append_nil] at hW' hlt
 have e := hfn ds hd
 have harg : ∀ sp : Nat → Bool, (∀ x ∈ p, sp x.block = true) → DataW.TrodAll enc P W' 0 sp true f.params.toList args.toList (s.fn K (ds ++ [])).args p := fun sp hsp => by
  rw [List.append_nil, e]
  refine trodAll_stays hl hbel (fun t ht => ?_) hlt hsp hA
  have := List.all_eq_true.1 hp t ht
  simpa using this
 have hr : ∀ (b : Nat) (sp : Nat → Bool) (hd : Bool), DataW.TrodAll enc P W' b sp hd f.resultTypes.toList ((Value.bool true).resultList f.resultTypes.size) (s.fn K (ds ++ [])).results [] := fun _ _ _ => by
  rw [List.append_nil, e, hres]
  exact trodAll_cons_mk (shut_bool hb _) trodAll_mk0
 have hv : ∀ sp : Nat → Bool, DataW.TrodVars enc P W' sp s.vars (s.fn K (ds ++ [])).vars [] := fun _ => by
  rw [List.append_nil, e, hvars]
  rfl
 have hold : ∀ x ∈ p, (fun b => decide (b < W.heap.size)) x.block = true := fun x hx => by simpa using hlt x hx
 refine ⟨ds, [], p, [], p, [], hW', hr _ _ _, harg _ hold, hv _, World.keptBut_mono (fun x hx => ⟨hx, .inr (.inl hx)⟩) (hbel.frame (· ∈ p)), fun _ => ?_⟩
 obtain ⟨_, _, _, _, hpq, hz, hn⟩ := hW'
 refine ⟨ok_one hres rfl (okWide_bool_mk hb _), _, _, ([] ++ p) ++ [], ⟨[] ++ p, [], trodAll_append (harg _ (fun _ _ => rfl)) (hr _ _ _), hv _, rfl, ?_, ?_⟩, ?_⟩
 ·intro b off hx
  have hx' : MemPlace.cell b off ∈ p := by simpa using hx
  rw [hbel.frozen (show (⟨b, off, none⟩ : Addr).block < _ from hlt _ hx')]
  exact hz b off hx'
 ·intro ha
  simpa using hn ha
 ·intro x hx _
  simpa using hx
end Go.Lt

namespace Go.Lt
open Go.ChangeShapes Go.WideShapes Go.ChangeAt Go.RowKit

inductive Sh where
 | bool
 | int (k : IntKind)
 | str
 | sl (s : Sh)
 | rep (n : Nat) (s : Sh)
 | unit
 | pair (a b : Sh)
def Sh.cells : Sh → Nat
 | .rep n s => n * s.cells
 | .unit => 0
 | .pair a b => a.cells + b.cells
 | _ => 1
def Sh.agg : Sh → Bool
 | .rep .. => true
 | .unit => true
 | .pair .. => true
 | _ => false

def Gr (H H' : Hp) : Prop := H.n ≤ H'.n ∧ ∀ b, b < H.n → H'.get b = H.get b
theorem Gr.refl (H : Hp) : Gr H H := ⟨Nat.le_refl _, fun _ _ => rfl⟩
theorem Gr.trans {a b c : Hp} (h : Gr a b) (k : Gr b c) : Gr a c := ⟨Nat.le_trans h.1 k.1, fun i hi => (k.2 i (Nat.lt_of_lt_of_le hi h.1)).trans (h.2 i hi)⟩
theorem Gr.push (H : Hp) (k : Blk) : Gr H (H.push k) := ⟨by simp, fun b hb => Hp.get_push_old H k hb⟩
theorem ld_lt {H : Hp} {b o : Nat} {x : AV} (h : H.ld b o = some x) : b < H.n := by
 unfold Hp.ld at h
 split at h
 ·rename_i hg; exact Hp.get_lt hg
 ·cases h
theorem Gr.ld {H H' : Hp} (g : Gr H H') {b o : Nat} {x : AV} (h : H.ld b o = some x) : H'.ld b o = some x := by
 have hb := ld_lt h
 unfold Hp.ld at h ⊢
 rw [g.2 b hb]
 exact h
theorem Gr.lds {H H' : Hp} (g : Gr H H') {b : Nat} : ∀ {n o : Nat} {xs : List AV}, H.lds b o n = some xs → H'.lds b o n = some xs := by
 intro n
 induction n with
 | zero => intro o xs h; exact h
 | succ n ih =>
  intro o xs h
  simp only [Hp.lds, Option.bind_eq_some_iff, Option.map_eq_some_iff] at h ⊢
  obtain ⟨x, h1, y, h2, e⟩ := h
  exact ⟨x, g.ld h1, y, ih h2, e⟩
def shFields (P : Program) (f : TypeId → Option Sh) : Nat → List Field → Option Sh
 | _, [] => some .unit
 | off, x :: xs => (f x.type).bind fun s => if x.offset = off ∧ P.cellsOf x.type = s.cells then (shFields P f (off + s.cells) xs).map (.pair s) else none
def shOf (P : Program) : Nat → TypeId → Option Sh
 | 0, _ => none
 | n + 1, t =>
  match P.underlying t with
  | some .bool => some .bool
  | some (.int k) => some (.int k)
  | some .string => some .str
  | some (.slice e) => (shOf P n e).bind fun s => if P.cellsOf e = s.cells ∧ 0 < s.cells then some (.sl s) else none
  | some (.array k e) => (shOf P n e).bind fun s => if P.cellsOf e = s.cells ∧ P.cellsOf t = k * s.cells then some (.rep k s) else none
  | some (.struct fs) => (shFields P (shOf P n) 0 fs.toList).bind fun s => if P.cellsOf t = s.cells then some s else none
  | _ => none
def shsOf (P : Program) (n : Nat) : List TypeId → Option (List Sh)
 | [] => some []
 | t :: ts => (shOf P n t).bind fun s => (shsOf P n ts).map (s :: ·)

/-! ### reading -/
def NoOwn (H : Hp) : Prop := ∀ b k, H.get b = some k → k.owned = false
structure In0 (W : World) (m : Nat → Loc) (H : Hp) : Prop where
 inv : Inv (Kp.args W) W m H W
 own : NoOwn H

theorem In0.push {W : World} {m : Nat → Loc} {H : Hp} (h : In0 W m H) (k : Blk) (l : Loc) (ho : k.owned = false) (hk : BlkRel (Kp.args W) (newLoc H m l) (H.n + 1) W H.n k) : In0 W (newLoc H m l) (H.push k) where
 inv :=
  {below := h.inv.below
   glob := h.inv.glob
   hB := h.inv.hB
   hid := fun _ _ _ _ h => h
   rel := fun b k' hg => by
    rw [Hp.get_push] at hg
    by_cases e : b = H.n
    ·subst e
     rw [if_pos rfl] at hg
     cases hg
     exact hk
    ·rw [if_neg e] at hg
     exact (h.inv.rel b k' hg).mono (newLoc_ext H m l) (by simp) (Hp.get_lt hg) (fun _ => rfl)
   excl := fun b b' k1 k2 hne h1 h2 ho1 hl2 => by
    exfalso
    rw [Hp.get_push] at h1
    by_cases e : b = H.n
    ·rw [if_pos e] at h1
     cases h1
     rw [ho] at ho1
     cases ho1
    ·rw [if_neg e] at h1
     have := h.own b k1 h1
     rw [this] at ho1
     cases ho1 }
 own := fun b k' hg => by
  rw [Hp.get_push] at hg
  by_cases e : b = H.n
  ·rw [if_pos e] at hg; cases hg; exact ho
  ·rw [if_neg e] at hg; exact h.own b k' hg

theorem lds_cells {H : Hp} {b : Nat} {ro : Bool} : ∀ (cs pre : List AV), H.get b = some (.cells (pre ++ cs) ro) → H.lds b pre.length cs.length = some cs := by
 intro cs
 induction cs with
 | nil => intro pre h; rfl
 | cons c cs ih =>
  intro pre h
  refine lds_cons ?_ ?_
  ·simp [Hp.ld, h]
  ·have := ih (pre ++ [c]) (by simpa using h)
   simpa using this

theorem chunks {α : Type} (c : Nat) : ∀ (k : Nat) (cs : List α), cs.length = k * c → ((List.range k).map fun i => (cs.drop (i * c)).take c).flatten = cs := by
 intro k
 induction k with
 | zero => intro cs h; simp at h; simp [h]
 | succ k ih =>
  intro cs h
  rw [List.range_succ_eq_map, List.map_cons, List.map_map, List.flatten_cons]
  have h1 := ih (cs.drop c) (by rw [List.length_drop, h, Nat.succ_mul]; omega)
  have e : ((fun i => (cs.drop (i * c)).take c) ∘ Nat.succ) = fun i => ((cs.drop c).drop (i * c)).take c := by
   funext i
   simp only [Function.comp, List.drop_drop, Nat.succ_mul]
   rw [Nat.add_comm]
  rw [e, h1]
  simp

variable {K : Type} {enc : TypeId × Value → K} {P : Program} {W : World}
theorem cell_add {W : World} {a : Addr} {i : Nat} {v : Value} {c : Array Value} {e : TypeId} {fr : Nat × Nat} (h : W.cell? (a.add i) = some v) (hb : W.heap[a.block]? = some (.cells c e fr)) (hs : a.spot = none) : c[a.off + i]? = some v := by
 have eb : (a.add i).block = a.block := by unfold Addr.add; split <;> rfl
 have eo : (a.add i).off = a.off + i := by unfold Addr.add; split <;> simp_all
 have es : (a.add i).spot = none := by unfold Addr.add; split <;> simp_all
 unfold World.cell? at h
 rw [eb, hb] at h
 simp only [es, eo] at h
 exact h

theorem shFields_agg {f : TypeId → Option Sh} : ∀ {fs : List Field} {off : Nat} {s : Sh}, shFields P f off fs = some s → s.agg = true := by
 intro fs off s h
 cases fs with
 | nil => simp only [shFields, Option.some.injEq] at h; subst h; rfl
 | cons x xs =>
  simp only [shFields, Option.bind_eq_some_iff] at h
  obtain ⟨s0, h0, h⟩ := h
  split at h
  ·simp only [Option.map_eq_some_iff] at h
   obtain ⟨s1, h1, rfl⟩ := h
   rfl
  ·cases h

theorem shOf_one {n : Nat} {t : TypeId} {s : Sh} {b : Nat} {v : Value} (h : shOf P n t = some s) (hv : Value.okWide P W .any b t v) : if s.agg = true then ∃ cs, v = .agg cs else v.cells = #[v] := by
 cases n with
 | zero => simp [shOf] at h
 | succ n =>
  unfold shOf at h
  split at h
  ·rename_i hu
   cases h
   obtain ⟨_, rfl⟩ := okWide_bool hu hv
   rfl
  ·rename_i k hu
   cases h
   obtain ⟨_, rfl⟩ := okWide_int hu hv
   rfl
  ·rename_i hu
   cases h
   obtain ⟨_, rfl⟩ := okWide_string hu hv
   rfl
  ·rename_i e hu
   simp only [Option.bind_eq_some_iff] at h
   obtain ⟨s0, h0, h⟩ := h
   split at h
   ·cases h
    obtain ⟨_, _, _, rfl⟩ := okWide_slice hu hv
    rfl
   ·cases h
  ·rename_i k e hu
   simp only [Option.bind_eq_some_iff] at h
   obtain ⟨s0, h0, h⟩ := h
   split at h
   ·cases h
    simp only [Value.okWide, hu] at hv
    obtain ⟨cs, rfl, _⟩ := hv
    exact ⟨cs, rfl⟩
   ·cases h
  ·rename_i fs hu
   simp only [Option.bind_eq_some_iff] at h
   obtain ⟨s0, h0, h⟩ := h
   split at h
   ·cases h
    rw [if_pos (shFields_agg h0)]
    simp only [Value.okWide, hu] at hv
    obtain ⟨cs, rfl, _⟩ := hv
    exact ⟨cs, rfl⟩
   ·cases h
  ·cases h

def H0 : Hp := ⟨[]⟩
theorem In0.empty (W : World) (m : Nat → Loc) (hg : GlbOk (Kp.args W) W) : In0 W m H0 where
 inv :=
  {below := .refl _ _
   glob := hg
   hB := fun _ hk => hk
   hid := fun _ _ _ _ h => h
   rel := fun b k h => by have := Hp.get_lt h; simp [H0, Hp.n] at this
   excl := fun b b' k k' _ h => by have := Hp.get_lt h; simp [H0, Hp.n] at this }
 own := fun b k h => by have := Hp.get_lt h; simp [H0, Hp.n] at this

end Go.Lt

namespace Go.Lt
open Go.RowKit

theorem w64_id {n : Int} (h : -9223372036854775808 ≤ n) (h' : n < 9223372036854775808) : w64 n = n := by
 simp only [w64, IntKind.wrap, IntKind.signed, IntKind.bits]
 simp
 omega

def Cs (H : Hp) (es : Nat) (v : Sl) (cs : List AV) : Prop := cs.length = v.len * es ∧ H.lds v.b v.o cs.length = some cs
def Ints (H : Hp) (v : Sl) (l : List Int) : Prop := Cs H 1 v (l.map (.int .i64))

theorem lds_get {H : Hp} {b : Nat} : ∀ {n o : Nat} {cs : List AV}, H.lds b o n = some cs → cs.length = n ∧ ∀ i (h : i < cs.length), H.ld b (o + i) = some cs[i] := by
 intro n
 induction n with
 | zero => intro o cs h; cases h; exact ⟨rfl, fun i h => absurd h (by simp)⟩
 | succ n ih =>
  intro o cs h
  simp only [Hp.lds, Option.bind_eq_some_iff, Option.map_eq_some_iff] at h
  obtain ⟨x, h1, y, h2, rfl⟩ := h
  obtain ⟨hl, hg⟩ := ih h2
  refine ⟨by simp [hl], fun i hi => ?_⟩
  cases i with
  | zero => exact h1
  | succ i =>
   have := hg i (by simpa using hi)
   rw [show o + 1 + i = o + (i + 1) by omega] at this
   simpa using this
theorem lds_of_get {H : Hp} {b : Nat} : ∀ {cs : List AV} {o : Nat}, (∀ i (h : i < cs.length), H.ld b (o + i) = some cs[i]) → H.lds b o cs.length = some cs := by
 intro cs
 induction cs with
 | nil => intro o h; rfl
 | cons c cs ih =>
  intro o h
  refine lds_cons (by have := h 0 (by simp); rwa [Nat.add_zero] at this) (ih fun i hi => ?_)
  have := h (i + 1) (by simpa using hi)
  rw [show o + 1 + i = o + (i + 1) by omega]
  simpa using this

theorem Ints.len {H : Hp} {v : Sl} {l : List Int} (h : Ints H v l) : v.len = l.length := by
 have := h.1; simp at this; omega
theorem Ints.ld {H : Hp} {v : Sl} {l : List Int} (h : Ints H v l) {i : Nat} (hi : i < l.length) : H.ld v.b (v.o + i) = some (.int .i64 l[i]) := by
 have := (lds_get h.2).2 i (by simpa using hi)
 simpa using this
theorem Ints.ldI {H : Hp} {v : Sl} {l : List Int} (h : Ints H v l) {i : Nat} (hi : i < l.length) : H.ldI .i64 v.b (v.o + i) = some l[i] := by
 simp [Hp.ldI, h.ld hi, AV.asI]
theorem Ints.lds {H : Hp} {v : Sl} {l : List Int} (h : Ints H v l) : H.lds v.b v.o v.len = some (l.map (.int .i64)) := by
 have := h.2
 rw [List.length_map, ← h.len] at this
 exact this
theorem Ints.mk {H : Hp} {v : Sl} {l : List Int} (hl : v.len = l.length) (h : ∀ i (hi : i < l.length), H.ld v.b (v.o + i) = some (.int .i64 l[i])) : Ints H v l :=
 ⟨by simp [hl], lds_of_get fun i hi => by simpa using h i (by simpa using hi)⟩
theorem Ints.gr {H H' : Hp} (g : Gr H H') {v : Sl} {l : List Int} (h : Ints H v l) : Ints H' v l := ⟨h.1, g.lds h.2⟩
theorem Ints.nil {H : Hp} {v : Sl} (h : v.len = 0) : Ints H v [] := ⟨by simp [h], rfl⟩

/-! ### a call on its own heap -/
def AV.plain : AV → Bool
 | .bool _ => true
 | .int .. => true
 | .str _ => true
 | .nilptr => true
 | .nilmap => true
 | .nilfn => true
 | .niliface => true
 | _ => false
theorem RV.plain {m m' : Nat → Loc} {n n' : Nat} {x : AV} {v : Value} (h : RV m n x v) (hx : x.plain = true) : RV m' n' x v := by
 cases h <;> first | (simp [AV.plain] at hx; done) | constructor
theorem CallSim.own {P : Program} {f : FuncId} {args : List AV} {v : AV} {H1 : Hp} (h : CallSim P f args H0 v H1) (ha : args.all AV.plain = true) (hv : v.plain = true) (H : Hp) : CallSim P f args H v H := by
 refine ⟨Nat.le_refl _, fun B w0 m w args' hr hi => ?_⟩
 have hr0 : RVs m H0.n args args'.toList := ⟨hr.1, fun i h1 h2 => (hr.2 i h1 h2).plain (List.all_eq_true.1 ha _ (List.getElem_mem h1))⟩
 refine (h.2 (Kp.args w) w m w args' hr0 (In0.empty w m (hi.glob.turn hi.below hi.hB)).inv).mono fun e W' ⟨v', m', he, _, hv', hi'⟩ => ?_
 refine ⟨v', m, he, .refl _ _, hv'.plain hv, ?_⟩
 have hb := hi'.below
 exact ⟨hi.below.trans (hb.mono hi.hB), hi.glob, fun k hk => Nat.lt_of_lt_of_le (hi.hB k hk) hb.size, fun b k hg => by
  by_cases hl : k.live = true
  ·exact (hi.rel b k hg).mono (.refl _ _) (Nat.le_refl _) (Hp.get_lt hg) (fun _ => hb.block _ (hi.blk_lt hg hl))
  ·cases k <;> simp_all [Blk.live, BlkRel], hi.hid, hi.excl⟩
end Go.Lt

namespace Go.Lt
open Go.RowKit
/-! ### structs of numbers held against each other -/
section
variable {P : Program} {w : World}
end
section
variable {P : Program} {F : Fr} {H : Hp} {d : Option Tmp} {ty : TypeId} {pos : String} {af : Array Edge} {g : Option (Nat × Bool)}
end
mutual
def AV.flat : AV → Bool
 | .bool _ => true
 | .int .. => true
 | .str _ => true
 | .agg cs => flats cs
 | .tup cs => flats cs
 | _ => false
def flats : List AV → Bool
 | [] => true
 | x :: xs => x.flat && flats xs
end
theorem flats_get : ∀ {xs : List AV}, flats xs = true → ∀ i (h : i < xs.length), xs[i].flat = true := by
 intro xs
 induction xs with
 | nil => intro _ i h; simp at h
 | cons x xs ih =>
  intro h i hi
  simp only [flats, Bool.and_eq_true] at h
  cases i with
  | zero => exact h.1
  | succ i => exact ih h.2 i (by simpa using hi)
theorem RV.flat {m m' : Nat → Loc} {n n' : Nat} {x : AV} {v : Value} (h : RV m n x v) : x.flat = true → RV m' n' x v := by
 induction h with
 | bool b => intro _; exact .bool b
 | int k i => intro _; exact .int k i
 | str s => intro _; exact .str s
 | agg xs vs hx h ih => intro hf; simp only [AV.flat] at hf; exact .agg xs vs hx fun i h1 h2 => ih i h1 h2 (flats_get hf i h1)
 | tup xs vs hx h ih => intro hf; simp only [AV.flat] at hf; exact .tup xs vs hx fun i h1 h2 => ih i h1 h2 (flats_get hf i h1)
 | _ => intro hf; simp [AV.flat] at hf
theorem CallSim.flat {P : Program} {f : FuncId} {args : List AV} {v : AV} {H1 : Hp} (h : CallSim P f args H0 v H1) (ha : flats args = true) (hv : v.flat = true) (H : Hp) : CallSim P f args H v H := by
 refine ⟨Nat.le_refl _, fun B w0 m w args' hr hi => ?_⟩
 have hr0 : RVs m H0.n args args'.toList := ⟨hr.1, fun i h1 h2 => (hr.2 i h1 h2).flat (flats_get ha i h1)⟩
 refine (h.2 (Kp.args w) w m w args' hr0 (In0.empty w m (hi.glob.turn hi.below hi.hB)).inv).mono fun e W' ⟨v', m', he, _, hv', hi'⟩ => ?_
 refine ⟨v', m, he, .refl _ _, hv'.flat hv, ?_⟩
 have hb := hi'.below
 exact ⟨hi.below.trans (hb.mono hi.hB), hi.glob, fun k hk => Nat.lt_of_lt_of_le (hi.hB k hk) hb.size, fun b k hg => by
  by_cases hl : k.live = true
  ·exact (hi.rel b k hg).mono (.refl _ _) (Nat.le_refl _) (Hp.get_lt hg) (fun _ => hb.block _ (hi.blk_lt hg hl))
  ·cases k <;> simp_all [Blk.live, BlkRel], hi.hid, hi.excl⟩
end Go.Lt

namespace Go.Lt

theorem st_eq {H : Hp} {b o : Nat} {cs : List AV} {v : AV} (h : H.get b = some (.cells cs false)) (ho : o < cs.length) : H.st b o v = some (H.set b (.cells (cs.set o v) false)) := by
 unfold Hp.st; rw [h]; simp [ho]
theorem ld_of_get {H : Hp} {b o : Nat} {cs : List AV} {ro : Bool} (h : H.get b = some (.cells cs ro)) : H.ld b o = cs[o]? := by unfold Hp.ld; rw [h]
theorem ld_congr {H H' : Hp} {b : Nat} (o : Nat) (h : H'.get b = H.get b) : H'.ld b o = H.ld b o := by unfold Hp.ld; rw [h]
theorem Cs.of_get {H : Hp} {es : Nat} {v : Sl} {cs : List AV} {ro : Bool} (h : H.get v.b = some (.cells cs ro)) (ho : v.o = 0) (hl : cs.length = v.len * es) : Cs H es v cs :=
 ⟨hl, lds_of_get fun i hi => by rw [ld_of_get h, ho]; simp [hi]⟩
theorem Cs.congr {H H' : Hp} {es : Nat} {v : Sl} {cs : List AV} (h : Cs H es v cs) (hg : H'.get v.b = H.get v.b) : Cs H' es v cs :=
 ⟨h.1, lds_of_get fun i hi => by rw [ld_congr _ hg]; exact (lds_get h.2).2 i hi⟩
theorem Cs.gr {H H' : Hp} (g : Gr H H') {es : Nat} {v : Sl} {cs : List AV} (h : Cs H es v cs) : Cs H' es v cs := ⟨h.1, g.lds h.2⟩
theorem Cs.lds {H : Hp} {es : Nat} {v : Sl} {cs : List AV} (h : Cs H es v cs) : H.lds v.b v.o (v.len * es) = some cs := by rw [← h.1]; exact h.2
theorem Cs.ld {H : Hp} {es : Nat} {v : Sl} {cs : List AV} (h : Cs H es v cs) {i : Nat} (hi : i < cs.length) : H.ld v.b (v.o + i) = some cs[i] := (lds_get h.2).2 i hi

def nilS : Sl := ⟨true, 0, 0, 0, 0, 0⟩
def Acc (n0 es : Nat) (H : Hp) (v : Sl) (cs : List AV) : Prop :=
 (v = nilS ∧ cs = []) ∨ (v.nil = false ∧ v.o = 0 ∧ v.opn = es ∧ v.cap = v.len ∧ n0 ≤ v.b ∧ H.get v.b = some (.cells cs false) ∧ cs.length = v.len * es)
theorem Acc.nilS {n0 es : Nat} {H : Hp} : Acc n0 es H ⟨true, 0, 0, 0, 0, 0⟩ [] := .inl ⟨rfl, rfl⟩
theorem Acc.cs {n0 es : Nat} {H : Hp} {v : Sl} {cs : List AV} (h : Acc n0 es H v cs) : Cs H es v cs := by
 rcases h with ⟨rfl, rfl⟩ | ⟨_, ho, _, _, _, hg, hl⟩
 ·exact ⟨by simp [Lt.nilS], rfl⟩
 ·exact .of_get hg ho hl
theorem Acc.lt {n0 es : Nat} {H : Hp} {v : Sl} {cs : List AV} (h : Acc n0 es H v cs) (hn : v.nil = false) : v.b < H.n := by
 rcases h with ⟨rfl, rfl⟩ | ⟨_, _, _, _, _, hg, _⟩
 ·simp [Lt.nilS] at hn
 ·exact Hp.get_lt hg
theorem Acc.keep {n0 es : Nat} {H H' : Hp} {v : Sl} {cs : List AV} (h : Acc n0 es H v cs) (hg : v.nil = false → H'.get v.b = H.get v.b) : Acc n0 es H' v cs := by
 rcases h with h | ⟨h1, h2, h3, h4, h5, h6, h7⟩
 ·exact .inl h
 ·exact .inr ⟨h1, h2, h3, h4, h5, by rw [hg h1]; exact h6, h7⟩
theorem Acc.gr {n0 es : Nat} {H H' : Hp} (g : Gr H H') {v : Sl} {cs : List AV} (h : Acc n0 es H v cs) : Acc n0 es H' v cs := h.keep fun hn => g.2 _ (h.lt hn)

def But (v : Sl) (H H' : Hp) : Prop := H.n ≤ H'.n ∧ ∀ b, b < H.n → (v.nil = false → b ≠ v.b) → H'.get b = H.get b
theorem Acc.app {n0 es : Nat} {H : Hp} {v : Sl} {cs xs : List AV} {k : Nat} (h : Acc n0 es H v cs) (hes : 0 < es) (hx : xs.length = k * es) (hb : v.len + k ≤ 4294967296) (hn : n0 ≤ H.n) :
  ∃ v' H', H.app es v xs k = some (v', H') ∧ Acc n0 es H' v' (cs ++ xs) ∧ But v H H' ∧ (v' = v ∨ H.n ≤ v'.b) ∧ v'.len = v.len + k ∧ (0 < k → v'.nil = false) ∧ (v.nil = false → v'.nil = false) := by
 unfold Hp.app
 rw [if_pos hb]
 rcases h with ⟨rfl, rfl⟩ | ⟨h1, h2, h3, h4, h5, h6, h7⟩
 ·simp only [Lt.nilS, Nat.zero_add]
  by_cases hk : k ≤ 0
  ·have hk : k = 0 := by omega
   subst hk
   have : xs = [] := List.length_eq_zero_iff.1 (by omega)
   subst this
   exact ⟨_, _, rfl, .inl ⟨rfl, rfl⟩, ⟨Nat.le_refl _, fun _ _ _ => rfl⟩, .inl rfl, rfl, fun h => absurd h (by omega), fun h => by cases h⟩
  ·rw [if_neg hk]
   simp only [Nat.zero_mul, Hp.lds, Option.bind_some, if_true, List.nil_append]
   exact ⟨_, _, rfl, .inr ⟨rfl, rfl, rfl, rfl, hn, by simp, hx⟩, ⟨by simp, fun b hb _ => Hp.get_push_old _ _ hb⟩, .inr (Nat.le_refl _), rfl, fun _ => rfl, fun _ => rfl⟩
 ·by_cases hk : k = 0
  ·subst hk
   have : xs = [] := List.length_eq_zero_iff.1 (by omega)
   subst this
   rw [if_pos (by omega), if_neg (by simp [h1])]
   simp only [Hp.sts, Option.map_some, Nat.add_zero, List.append_nil]
   have e : (⟨false, v.b, v.o, v.len, v.cap, v.opn⟩ : Sl) = v := by cases v; simp_all
   rw [e]
   exact ⟨_, _, rfl, .inr ⟨h1, h2, h3, h4, h5, h6, h7⟩, ⟨Nat.le_refl _, fun _ _ _ => rfl⟩, .inl rfl, rfl, fun h => absurd h (by omega), fun _ => h1⟩
  ·rw [if_neg (by omega)]
   have hl := (Cs.of_get (es := es) h6 h2 h7).lds
   rw [hl]
   simp only [Option.bind_some]
   rw [if_neg (by omega), if_pos h3, h6]
   simp only
   refine ⟨_, _, rfl, .inr ⟨rfl, rfl, rfl, rfl, hn, ?_, by simp only [List.length_append, h7, hx, Nat.add_mul]⟩, ⟨by simp, fun b hb hne => ?_⟩, .inr (Nat.le_refl _), rfl, fun _ => rfl, fun _ => rfl⟩
   ·rw [Hp.get_push, if_pos (by simp)]
   ·rw [Hp.get_push_old _ _ (by simpa using hb), Hp.get_set_other _ _ (hne h1)]
theorem Acc.apN {n0 es : Nat} {H : Hp} {v : Sl} {cs xs : List AV} {k : Nat} (h : Acc n0 es H v cs) (hes : 0 < es) (hx : xs.length = k * es) (hb : v.len + k ≤ 4294967296) (hn : n0 ≤ H.n) :
  ∃ v' H', H.apN es v xs k = some (v', H') ∧ Acc n0 es H' v' (cs ++ xs) ∧ But v H H' ∧ (v' = v ∨ H.n ≤ v'.b) ∧ v'.len = v.len + k ∧ (0 < k → v'.nil = false) ∧ (v.nil = false → v'.nil = false) := by
 have g := Gr.push H (.cells xs false)
 obtain ⟨v', H', h1, h2, h3, h4, h5⟩ := (h.gr g).app hes hx hb (by have := g.1; omega)
 refine ⟨v', H', h1, h2, ⟨by have := g.1; have := h3.1; omega, fun b hb hne => by rw [h3.2 b (by simp; omega) hne, g.2 b hb]⟩, ?_, h5⟩
 rcases h4 with h4 | h4
 ·exact .inl h4
 ·simp at h4; exact .inr (by omega)
theorem But.gr {es : Nat} {H0 H H' : Hp} {v : Sl} {cs : List AV} (h : But v H H') (ha : Acc H0.n es H v cs) (g : Gr H0 H) : Gr H0 H' :=
 ⟨Nat.le_trans g.1 h.1, fun b hb => by
  rw [h.2 b (Nat.lt_of_lt_of_le hb g.1) (fun hn => ?_), g.2 b hb]
  rcases ha with ⟨rfl, rfl⟩ | ⟨_, _, _, _, h5, _⟩
  ·simp [Lt.nilS] at hn
  ·omega⟩

theorem Ints.cut {H : Hp} {v : Sl} {l : List Int} (h : Ints H v l) (hn : v.nil = false) {lo hi : Nat} (h1 : lo ≤ hi) (h2 : hi ≤ l.length) : Ints H (v.cut 1 lo hi) ((l.drop lo).take (hi - lo)) := by
 unfold Sl.cut
 rw [if_neg (by simp [hn])]
 refine .mk (by simp; omega) fun i hi' => ?_
 simp at hi'
 simp only [Nat.mul_one]
 rw [Nat.add_assoc, h.ld (i := lo + i) (by omega)]
 simp

end Go.Lt

namespace Go.Lt

end Go.Lt

namespace Go.Lt
def prC (ps : List (Int × Int)) : List AV := ps.flatMap fun p => [.int .i64 p.1, .int .i64 p.2]
theorem prC_length (ps : List (Int × Int)) : (prC ps).length = ps.length * 2 := by
 induction ps with
 | nil => rfl
 | cons p ps ih => simp only [prC, List.flatMap_cons, List.length_append, List.length_cons, List.length_nil] at *; omega
def Prs (H : Hp) (v : Sl) (ps : List (Int × Int)) : Prop := Cs H 2 v (prC ps)
theorem Prs.len {H : Hp} {v : Sl} {ps : List (Int × Int)} (h : Prs H v ps) : v.len = ps.length := by
 have := h.1; rw [prC_length] at this; omega
theorem Prs.gr {H H' : Hp} (g : Gr H H') {v : Sl} {ps : List (Int × Int)} (h : Prs H v ps) : Prs H' v ps := Cs.gr g h

end Go.Lt

namespace Go.Lt
end Go.Lt

namespace Go.Lt
open Go.RowKit

/-! ### runs -/
def Ok {α : Type} (x : Option (α × Hp)) (Q : α → Hp → Prop) : Prop := ∃ a H', x = some (a, H') ∧ Q a H'
section
variable {α β : Type} {Q : α → Hp → Prop}
theorem Ok.ret {a : α} {H : Hp} (h : Q a H) : Ok (some (a, H)) Q := ⟨a, H, rfl, h⟩
theorem Ok.bind {x : Option (β × Hp)} {f : β × Hp → Option (α × Hp)} {P : β → Hp → Prop} (h : Ok x P) (k : ∀ a H', P a H' → Ok (f (a, H')) Q) : Ok (x.bind f) Q := by
 obtain ⟨a, H', rfl, hp⟩ := h
 exact k a H' hp
theorem Ok.ld {x : Option β} {b : β} {f : β → Option (α × Hp)} (h : x = some b) (k : Ok (f b) Q) : Ok (x.bind f) Q := by
 subst h; exact k
theorem Ok.mono {x : Option (α × Hp)} {P : α → Hp → Prop} (h : Ok x P) (k : ∀ a H', P a H' → Q a H') : Ok x Q := by
 obtain ⟨a, H', e, hp⟩ := h
 exact ⟨a, H', e, k a H' hp⟩
theorem Ok.ck {c : Prop} [Decidable c] {x : Option (α × Hp)} (hc : c) (h : Ok x Q) : Ok (ck c x) Q := by
 rw [Lt.ck, if_pos hc]; exact h
theorem Ok.lt {e : Hp} {f : Hp → Option (α × Hp)} (h : Ok (f e) Q) : Ok (lt e f) Q := h
theorem Ok.ite {c : Prop} [Decidable c] {x y : Option (α × Hp)} (h : c → Ok x Q) (k : ¬ c → Ok y Q) : Ok (if c then x else y) Q := by
 split
 ·exact h ‹_›
 ·exact k ‹_›
theorem Ok.pos {c : Prop} [Decidable c] {x y : Option (α × Hp)} (hc : c) (h : Ok x Q) : Ok (if c then x else y) Q := by rw [if_pos hc]; exact h
theorem Ok.neg {c : Prop} [Decidable c] {x y : Option (α × Hp)} (hc : ¬ c) (h : Ok y Q) : Ok (if c then x else y) Q := by rw [if_neg hc]; exact h
theorem Ok.loop {σ : Type} {L : Nat → σ → Hp → Option (α × Hp)} (I : Nat → σ → Hp → Prop)
  (step : ∀ K m s H, I m s H → (∀ m' s' H', m' < m → I m' s' H' → Ok (L K s' H') Q) → Ok (L (K + 1) s H) Q) : ∀ K m s H, m < K → I m s H → Ok (L K s H) Q := by
 intro K
 induction K with
 | zero => intro m s H h; omega
 | succ K ih => intro m s H h hi; exact step K m s H hi fun m' s' H' hm hi' => ih m' s' H' (by omega) hi'
end
theorem w64_succ {i : Nat} (h : i < 9223372036854775807) : w64 ((i : Int) + 1) = ((i + 1 : Nat) : Int) := by rw [w64_id (by omega) (by omega)]; push_cast; rfl

/-! ### things in cells -/
class El (T : Type) where
 sz : Nat
 enc : T → List AV
 len : ∀ x, (enc x).length = sz
 one : ∀ x, (enc x).all AV.one = true
 pos : 0 < sz
instance elInt : El Int := ⟨1, fun x => [.int .i64 x], fun _ => rfl, fun _ => rfl, by decide⟩
instance elBool : El Bool := ⟨1, fun x => [.bool x], fun _ => rfl, fun _ => rfl, by decide⟩
instance elStr : El ByteArray := ⟨1, fun x => [.str x], fun _ => rfl, fun _ => rfl, by decide⟩
instance elProd {T U : Type} [El T] [El U] : El (T × U) := ⟨El.sz T + El.sz U, fun p => El.enc p.1 ++ El.enc p.2, fun p => by rw [List.length_append, El.len, El.len], fun p => by rw [List.all_append, El.one, El.one]; rfl, by have := El.pos (T := T); omega⟩
section
variable {T : Type} [El T]
def encs (l : List T) : List AV := l.flatMap El.enc
@[simp] theorem encs_nil : encs ([] : List T) = [] := rfl
theorem encs_cons (x : T) (l : List T) : encs (x :: l) = El.enc x ++ encs l := rfl
theorem encs_append (a b : List T) : encs (a ++ b) = encs a ++ encs b := by unfold encs; rw [List.flatMap_append]
theorem encs_one (x : T) : encs [x] = El.enc x := by simp [encs]
theorem encs_len (l : List T) : (encs l).length = l.length * El.sz T := by
 induction l with
 | nil => simp [encs]
 | cons x l ih => rw [encs_cons, List.length_append, El.len, ih, List.length_cons, Nat.add_mul]; omega
theorem encs_all (l : List T) : (encs l).all AV.one = true := by
 induction l with
 | nil => rfl
 | cons x l ih => rw [encs_cons, List.all_append, El.one, ih]; rfl
theorem encs_get : ∀ (l : List T) (i j : Nat) (h : i < l.length), j < El.sz T → (encs l)[i * El.sz T + j]? = (El.enc l[i])[j]? := by
 intro l
 induction l with
 | nil => intro i j h; simp at h
 | cons x l ih =>
  intro i j h hj
  cases i with
  | zero => rw [encs_cons, List.getElem?_append_left (by rw [El.len]; omega)]; simp
  | succ i =>
   rw [encs_cons, List.getElem?_append_right (by rw [El.len, Nat.add_mul]; omega), El.len]
   have := ih i j (by simpa using h) hj
   rw [show (i + 1) * El.sz T + j - El.sz T = i * El.sz T + j by rw [Nat.add_mul]; omega, this]
   rfl
theorem encs_drop : ∀ (i : Nat) (l : List T), (encs l).drop (i * El.sz T) = encs (l.drop i) := by
 intro i
 induction i with
 | zero => intro l; simp
 | succ i ih =>
  intro l
  cases l with
  | nil => simp
  | cons x l => rw [encs_cons, List.drop_succ_cons, ← ih l, Nat.add_mul, Nat.one_mul, Nat.add_comm, List.drop_append, El.len, List.drop_of_length_le (by rw [El.len]; omega)]; simp
theorem encs_take : ∀ (i : Nat) (l : List T), (encs l).take (i * El.sz T) = encs (l.take i) := by
 intro i
 induction i with
 | zero => intro l; simp
 | succ i ih =>
  intro l
  cases l with
  | nil => simp
  | cons x l => rw [encs_cons, List.take_succ_cons, encs_cons, ← ih l, Nat.add_mul, Nat.one_mul, Nat.add_comm, List.take_append, El.len, List.take_of_length_le (by rw [El.len]; omega)]; simp

structure SL (H : Hp) (v : Sl) (l : List T) : Prop where
 cs : Cs H (El.sz T) v (encs l)
 cap : v.len ≤ v.cap
 opn : v.opn = 0 ∨ v.opn = El.sz T
 nil : v.nil = true → v = nilS ∧ l = []
theorem SL.len {H : Hp} {v : Sl} {l : List T} (h : SL H v l) : v.len = l.length := by
 have := h.cs.1
 rw [encs_len] at this
 exact (Nat.eq_of_mul_eq_mul_right El.pos this).symm
theorem SL.gr {H H' : Hp} {v : Sl} {l : List T} (h : SL H v l) (g : Gr H H') : SL H' v l := ⟨h.cs.gr g, h.cap, h.opn, h.nil⟩
theorem SL.ld {H : Hp} {v : Sl} {l : List T} (h : SL H v l) {i j : Nat} {x : AV} (hi : i < l.length) (e : (El.enc l[i])[j]? = some x) : H.ld v.b (v.o + i * El.sz T + j) = some x := by
 obtain ⟨hj, _⟩ := List.getElem?_eq_some_iff.1 e
 rw [El.len] at hj
 have h1 := encs_get l i j hi hj
 rw [e] at h1
 obtain ⟨h2, h3⟩ := List.getElem?_eq_some_iff.1 h1
 have := (lds_get h.cs.2).2 _ h2
 rw [h3] at this
 rw [Nat.add_assoc]
 exact this
theorem SL.ldI {H : Hp} {v : Sl} {l : List T} (h : SL H v l) {i j : Nat} {n : Int} (hi : i < l.length) (e : (El.enc l[i])[j]? = some (.int .i64 n)) : H.ldI .i64 v.b (v.o + i * El.sz T + j) = some n := by
 simp [Hp.ldI, h.ld hi e, AV.asI]
theorem SL.nonnil {H : Hp} {v : Sl} {l : List T} (h : SL H v l) (h0 : l ≠ []) : v.nil = false := by
 cases hn : v.nil with
 | false => rfl
 | true => exact absurd (h.nil hn).2 h0
theorem SL.nilS {H : Hp} : SL (T := T) H ⟨true, 0, 0, 0, 0, 0⟩ [] := ⟨⟨by simp, rfl⟩, Nat.le_refl _, .inl rfl, fun _ => ⟨rfl, rfl⟩⟩
theorem SL.lds {H : Hp} {v : Sl} {l : List T} (h : SL H v l) : H.lds v.b v.o (v.len * El.sz T) = some (encs l) := h.cs.lds
theorem SL.cut {H : Hp} {v : Sl} {l : List T} (h : SL H v l) {lo hi : Nat} (h1 : lo ≤ hi) (h2 : hi ≤ l.length) : SL H (v.cut (El.sz T) lo hi) ((l.drop lo).take (hi - lo)) := by
 have hlen := h.len
 cases hn : v.nil with
 | true =>
  obtain ⟨rfl, rfl⟩ := h.nil hn
  simp [Sl.cut, Lt.nilS]
  exact SL.nilS
 | false =>
  have hcap := h.cap
  refine ⟨⟨by rw [encs_len]; simp only [Sl.cut, hn, Bool.false_eq_true, if_false, List.length_take, List.length_drop]; congr 1; omega, ?_⟩, by simp [Sl.cut, hn]; omega, by simp [Sl.cut, hn]; exact h.opn, by simp [Sl.cut, hn]⟩
  have e : encs ((l.drop lo).take (hi - lo)) = ((encs l).drop (lo * El.sz T)).take ((hi - lo) * El.sz T) := by rw [encs_drop, encs_take]
  rw [e]
  refine lds_of_get fun i hi' => ?_
  simp only [List.length_take, List.length_drop] at hi'
  have hb : (v.cut (El.sz T) lo hi).b = v.b := by simp [Sl.cut, hn]
  have ho : (v.cut (El.sz T) lo hi).o = v.o + lo * El.sz T := by simp [Sl.cut, hn]
  rw [hb, ho, Nat.add_assoc, h.cs.ld (i := lo * El.sz T + i) (by omega)]
  simp
theorem SL.cut3 {H : Hp} {v : Sl} {l : List T} (h : SL H v l) {lo hi mx : Nat} (h1 : lo ≤ hi) (h2 : hi ≤ l.length) (hm : hi ≤ mx) : SL H (v.cut3 (El.sz T) lo hi mx) ((l.drop lo).take (hi - lo)) := by
 have h3 := h.cut h1 h2
 cases hn : v.nil with
 | true =>
  obtain ⟨rfl, rfl⟩ := h.nil hn
  simp [Sl.cut3, Lt.nilS]
  exact SL.nilS
 | false =>
  have e : v.cut3 (El.sz T) lo hi mx = ⟨false, v.b, v.o + lo * El.sz T, hi - lo, mx - lo, 0⟩ := by simp [Sl.cut3, hn]
  have e' : v.cut (El.sz T) lo hi = ⟨false, v.b, v.o + lo * El.sz T, hi - lo, v.cap - lo, v.opn⟩ := by simp [Sl.cut, hn]
  rw [e]
  rw [e'] at h3
  exact ⟨h3.cs, by simp; omega, .inl rfl, fun h => by simp at h⟩
theorem SL.of_get {H : Hp} {v : Sl} {l : List T} {ro : Bool} (h : H.get v.b = some (.cells (encs l) ro)) (ho : v.o = 0) (hl : v.len = l.length) (hc : v.len ≤ v.cap) (hp : v.opn = 0 ∨ v.opn = El.sz T) (hn : v.nil = false) : SL H v l :=
 ⟨.of_get h ho (by rw [encs_len, hl]), hc, hp, fun e => by rw [hn] at e; cases e⟩

/-! ### what one appends to -/
def AccL (n0 : Nat) (H : Hp) (v : Sl) (l : List T) : Prop := Acc n0 (El.sz T) H v (encs l)
theorem AccL.nilS {n0 : Nat} {H : Hp} : AccL (T := T) n0 H ⟨true, 0, 0, 0, 0, 0⟩ [] := Acc.nilS
theorem AccL.gr {n0 : Nat} {H H' : Hp} {v : Sl} {l : List T} (h : AccL n0 H v l) (g : Gr H H') : AccL n0 H' v l := Acc.gr g h
theorem AccL.sl {n0 : Nat} {H : Hp} {v : Sl} {l : List T} (h : AccL n0 H v l) : SL H v l := by
 refine ⟨h.cs, ?_, ?_, ?_⟩ <;> rcases h with ⟨rfl, e⟩ | ⟨h1, h2, h3, h4, h5, h6, h7⟩
 ·simp [Lt.nilS]
 ·omega
 ·simp [Lt.nilS]
 ·exact .inr h3
 ·intro _
  refine ⟨rfl, ?_⟩
  cases l with
  | nil => rfl
  | cons x l =>
   have h1 := congrArg List.length e
   rw [encs_len, List.length_cons, List.length_nil, Nat.add_mul] at h1
   have := El.pos (T := T)
   omega
 ·intro e; rw [h1] at e; cases e
theorem AccL.len {n0 : Nat} {H : Hp} {v : Sl} {l : List T} (h : AccL n0 H v l) : v.len = l.length := h.sl.len
theorem AccL.app {H0 H : Hp} {v : Sl} {l : List T} (h : AccL H0.n H v l) (g : Gr H0 H) (x : List T) {es n : Nat} {cs : List AV} (hes : es = El.sz T) (hcs : cs = encs x) (hn : n = x.length) (hb : l.length + x.length ≤ 4294967296) :
  Ok (H.apN es v cs n) fun v' H' => AccL H0.n H' v' (l ++ x) ∧ Gr H0 H' ∧ But v H H' ∧ (v' = v ∨ H.n ≤ v'.b) ∧ (x ≠ [] → v'.nil = false) := by
 subst hes; subst hcs; subst hn
 have hl := h.len
 obtain ⟨v', H', h1, h2, h3, h4, h5, h6, h7⟩ := Acc.apN (k := x.length) h El.pos (encs_len x) (by rw [hl]; exact hb) g.1
 refine ⟨v', H', h1, ?_, h3.gr h g, h3, h4, fun hx => h6 (by have := List.length_pos_iff.2 hx; exact this)⟩
 unfold AccL
 rw [encs_append]
 exact h2
theorem AccL.push {H0 H : Hp} {v : Sl} {l : List T} (h : AccL H0.n H v l) (g : Gr H0 H) (x : T) {es : Nat} {cs : List AV} (hes : es = El.sz T) (hcs : cs = El.enc x) (hb : l.length < 4294967296) :
  Ok (H.apN es v cs 1) fun v' H' => AccL H0.n H' v' (l ++ [x]) ∧ Gr H0 H' ∧ But v H H' ∧ (v' = v ∨ H.n ≤ v'.b) ∧ v'.nil = false :=
 (h.app g [x] hes (by rw [hcs, encs_one]) rfl (by simp; omega)).mono fun _ _ ⟨a, b, c, d, e⟩ => ⟨a, b, c, d, e (by simp)⟩
end

theorem ldI_get {H : Hp} {b o : Nat} {cs : List AV} {ro : Bool} {n : Int} (h : H.get b = some (.cells cs ro)) (e : cs[o]? = some (.int .i64 n)) : H.ldI .i64 b o = some n := by
 simp [Hp.ldI, ld_of_get h, e, AV.asI]
theorem ldSl_get {H : Hp} {b o : Nat} {cs : List AV} {ro : Bool} {n : Sl} (h : H.get b = some (.cells cs ro)) (e : cs[o]? = some (.sl n)) : H.ldSl b o = some n := by
 simp [Hp.ldSl, ld_of_get h, e, AV.asSl]
theorem Gr.set {H0 H : Hp} (g : Gr H0 H) {b : Nat} {k : Blk} (hb : H0.n ≤ b) : Gr H0 (H.set b k) :=
 ⟨by have := g.1; simp; omega, fun c hc => by rw [Hp.get_set_other _ _ (by omega), g.2 c hc]⟩
theorem Ok.st {α : Type} {Q : α → Hp → Prop} {H : Hp} {b o : Nat} {cs : List AV} {x : AV} {f : Hp → Option (α × Hp)} (h : H.get b = some (.cells cs false)) (ho : o < cs.length)
  (k : ∀ H', H' = H.set b (.cells (cs.set o x) false) → H'.get b = some (.cells (cs.set o x) false) → Ok (f H') Q) : Ok ((H.st b o x).bind f) Q := by
 rw [st_eq h ho]
 exact k _ rfl (Hp.get_set_same _ _ (Hp.get_lt h))
end Go.Lt

namespace Go.Lt
open Go.RowKit
/-! ### slices of slices -/
def Sub (A B : Hp) : Prop := ∀ b cs ro, A.get b = some (.cells cs ro) → B.get b = some (.cells cs ro)
theorem Sub.refl (A : Hp) : Sub A A := fun _ _ _ h => h
theorem Sub.trans {A B C : Hp} (h : Sub A B) (k : Sub B C) : Sub A C := fun b cs ro e => k b cs ro (h b cs ro e)
theorem Gr.sub {A B : Hp} (g : Gr A B) : Sub A B := fun b cs ro e => by rw [g.2 b (Hp.get_lt e)]; exact e
theorem Sub.ld {A B : Hp} (h : Sub A B) {b o : Nat} {x : AV} (e : A.ld b o = some x) : B.ld b o = some x := by
 unfold Hp.ld at *
 split at e
 ·rename_i cs ro hg; rw [h b cs ro hg]; exact e
 ·cases e
theorem Sub.lds {A B : Hp} (h : Sub A B) {b : Nat} : ∀ {n o : Nat} {xs : List AV}, A.lds b o n = some xs → B.lds b o n = some xs := by
 intro n
 induction n with
 | zero => intro o xs e; exact e
 | succ n ih =>
  intro o xs e
  obtain ⟨x, ys, rfl, h1, h2⟩ := lds_cons_inv e
  exact lds_cons (h.ld h1) (ih h2)
theorem SL.sub {T : Type} [El T] {A B : Hp} {v : Sl} {l : List T} (h : SL A v l) (s : Sub A B) : SL B v l := ⟨⟨h.cs.1, s.lds h.cs.2⟩, h.cap, h.opn, h.nil⟩
def Hp.hide (H : Hp) (v : Sl) : Hp := if v.nil then H else H.set v.b .dead
theorem hide_get {H : Hp} {v : Sl} {b : Nat} {cs : List AV} {ro : Bool} (h : (H.hide v).get b = some (.cells cs ro)) : H.get b = some (.cells cs ro) ∧ (v.nil = false → b ≠ v.b) := by
 unfold Hp.hide at h
 split at h
 ·rename_i hn; exact ⟨h, fun e => by rw [hn] at e; cases e⟩
 ·by_cases e : b = v.b
  ·subst e
   have hlt := Hp.get_lt h
   simp only [Hp.n_set] at hlt
   rw [Hp.get_set_same _ _ hlt] at h
   cases h
  ·rw [Hp.get_set_other _ _ e] at h
   exact ⟨h, fun _ => e⟩
theorem hide_sub {H : Hp} {v : Sl} : Sub (H.hide v) H := fun b cs ro h => (hide_get h).1
theorem get_hide {H : Hp} {v : Sl} {b : Nat} (h : v.nil = false → b ≠ v.b) : (H.hide v).get b = H.get b := by
 unfold Hp.hide
 split
 ·rfl
 ·rename_i hn
  rw [Hp.get_set_other _ _ (h (by simpa using hn))]
theorem ld_hide {H : Hp} {v : Sl} {b o : Nat} (h : v.nil = false → b ≠ v.b) : (H.hide v).ld b o = H.ld b o := by unfold Hp.ld; rw [get_hide h]
theorem lds_hide {H : Hp} {v : Sl} {b : Nat} (h : v.nil = false → b ≠ v.b) : ∀ {n o : Nat}, (H.hide v).lds b o n = H.lds b o n := by
 intro n
 induction n with
 | zero => intro o; rfl
 | succ n ih => intro o; simp only [Hp.lds, ld_hide h, ih]
section
variable {T : Type} [El T]
theorem SL.hide {H : Hp} {v w : Sl} {l : List T} (h : SL H w l) (hne : v.nil = false → w.nil = false → w.b ≠ v.b) : SL (H.hide v) w l := by
 cases hn : w.nil with
 | true => obtain ⟨rfl, rfl⟩ := h.nil hn; exact SL.nilS
 | false => exact ⟨⟨h.cs.1, by rw [lds_hide (fun e => hne e hn)]; exact h.cs.2⟩, h.cap, h.opn, h.nil⟩
theorem Gr.hide {H H' : Hp} (g : Gr H H') {v : Sl} (hb : v.nil = false → v.b < H.n) : Gr (H.hide v) (H'.hide v) := by
 unfold Hp.hide
 split
 ·exact g
 ·rename_i hn
  have hlt := hb (by simpa using hn)
  refine ⟨by simpa using g.1, fun b h => ?_⟩
  simp only [Hp.n_set] at h
  by_cases e : b = v.b
  ·subst e; rw [Hp.get_set_same _ _ hlt, Hp.get_set_same _ _ (by have := g.1; omega)]
  ·rw [Hp.get_set_other _ _ e, Hp.get_set_other _ _ e, g.2 b h]
def All (H : Hp) (vs : List Sl) (ls : List (List T)) : Prop := vs.length = ls.length ∧ ∀ i (h : i < vs.length) (h' : i < ls.length), SL H vs[i] ls[i]
theorem All.sub {A B : Hp} {vs : List Sl} {ls : List (List T)} (h : All A vs ls) (s : Sub A B) : All B vs ls := ⟨h.1, fun i a b => (h.2 i a b).sub s⟩
theorem All.nil {H : Hp} : All (T := T) H [] [] := ⟨rfl, fun i h => absurd h (by simp)⟩
theorem All.append {H : Hp} {vs ws : List Sl} {ls ms : List (List T)} (h : All H vs ls) (k : All H ws ms) : All H (vs ++ ws) (ls ++ ms) := by
 refine ⟨by simp [h.1, k.1], fun i h1 h2 => ?_⟩
 by_cases hlt : i < vs.length
 ·rw [List.getElem_append_left hlt, List.getElem_append_left (by have := h.1; omega)]
  exact h.2 i hlt (by have := h.1; omega)
 ·have e := h.1
  have h1' := h1
  have h2' := h2
  simp only [List.length_append] at h1' h2'
  rw [List.getElem_append_right (by omega), List.getElem_append_right (by omega)]
  have := k.2 (i - vs.length) (by omega) (by omega)
  simp only [e] at this ⊢
  exact this
theorem All.one {H : Hp} {w : Sl} {l : List T} (h : SL H w l) : All H [w] [l] := ⟨rfl, fun i h1 h2 => by
 have : i = 0 := by simpa using h1
 subst this; exact h⟩
structure SLL (H : Hp) (v : Sl) (vs : List Sl) (ls : List (List T)) : Prop where
 cs : Cs H 1 v (vs.map .sl)
 cap : v.len ≤ v.cap
 opn : v.opn = 0 ∨ v.opn = 1
 nil : v.nil = true → v = nilS ∧ vs = []
 all : All H vs ls
theorem SLL.sub {A B : Hp} {v : Sl} {vs : List Sl} {ls : List (List T)} (h : SLL A v vs ls) (s : Sub A B) : SLL B v vs ls := ⟨⟨h.cs.1, s.lds h.cs.2⟩, h.cap, h.opn, h.nil, h.all.sub s⟩
theorem SLL.gr {A B : Hp} {v : Sl} {vs : List Sl} {ls : List (List T)} (h : SLL A v vs ls) (g : Gr A B) : SLL B v vs ls := h.sub g.sub
theorem SLL.len {H : Hp} {v : Sl} {vs : List Sl} {ls : List (List T)} (h : SLL H v vs ls) : v.len = ls.length := by
 have h1 := h.cs.1
 have h2 := h.all.1
 simp at h1
 omega
theorem SLL.vlen {H : Hp} {v : Sl} {vs : List Sl} {ls : List (List T)} (h : SLL H v vs ls) : vs.length = ls.length := h.all.1
theorem SLL.ldSl {H : Hp} {v : Sl} {vs : List Sl} {ls : List (List T)} (h : SLL H v vs ls) {i : Nat} (hi : i < ls.length) : H.ldSl v.b (v.o + i * 1) = some (vs[i]'(by rw [h.vlen]; exact hi)) := by
 have hl := h.vlen
 have := h.cs.ld (i := i) (by simp; omega)
 simp only [List.getElem_map] at this
 simp [Hp.ldSl, this, AV.asSl]
theorem SLL.get {H : Hp} {v : Sl} {vs : List Sl} {ls : List (List T)} (h : SLL H v vs ls) {i : Nat} (hi : i < ls.length) : SL H (vs[i]'(by rw [h.vlen]; exact hi)) ls[i] := h.all.2 i _ hi
theorem SLL.lds {H : Hp} {v : Sl} {vs : List Sl} {ls : List (List T)} (h : SLL H v vs ls) : H.lds v.b v.o (v.len * 1) = some (vs.map .sl) := h.cs.lds
theorem SLL.nilS {H : Hp} : SLL (T := T) H ⟨true, 0, 0, 0, 0, 0⟩ [] [] := ⟨⟨rfl, rfl⟩, Nat.le_refl _, .inl rfl, fun _ => ⟨rfl, rfl⟩, .nil⟩
def AccS (n0 : Nat) (H : Hp) (v : Sl) (vs : List Sl) (ls : List (List T)) : Prop := Acc n0 1 H v (vs.map .sl) ∧ All (H.hide v) vs ls
theorem AccS.nilS {n0 : Nat} {H : Hp} : AccS (T := T) n0 H ⟨true, 0, 0, 0, 0, 0⟩ [] [] := ⟨Acc.nilS, .nil⟩
theorem AccS.gr {n0 : Nat} {H H' : Hp} {v : Sl} {vs : List Sl} {ls : List (List T)} (h : AccS n0 H v vs ls) (g : Gr H H') : AccS n0 H' v vs ls :=
 ⟨Acc.gr g h.1, h.2.sub (Gr.hide g (h.1.lt)).sub⟩
theorem AccS.sll {n0 : Nat} {H : Hp} {v : Sl} {vs : List Sl} {ls : List (List T)} (h : AccS n0 H v vs ls) : SLL H v vs ls := by
 refine ⟨h.1.cs, ?_, ?_, ?_, h.2.sub hide_sub⟩ <;> rcases h.1 with ⟨rfl, e⟩ | ⟨h1, h2, h3, h4, h5, h6, h7⟩
 ·simp [Lt.nilS]
 ·omega
 ·simp [Lt.nilS]
 ·exact .inr h3
 ·intro _; exact ⟨rfl, List.map_eq_nil_iff.1 e⟩
 ·intro e; rw [h1] at e; cases e
theorem AccS.app {H0 H : Hp} {v : Sl} {vs ws : List Sl} {ls ms : List (List T)} (h : AccS H0.n H v vs ls) (g : Gr H0 H) (hw : All (H.hide v) ws ms) {cs : List AV} {n : Nat} (hcs : cs = ws.map .sl) (hn : n = ws.length) (hb : ls.length + ms.length ≤ 4294967296) :
  Ok (H.app 1 v cs n) fun v' H' => AccS H0.n H' v' (vs ++ ws) (ls ++ ms) ∧ Gr H0 H' ∧ But v H H' ∧ (v' = v ∨ H.n ≤ v'.b) := by
 subst hcs; subst hn
 have hl := h.sll.len
 obtain ⟨v', H', h1, h2, h3, h4, h5, h6, h7⟩ := Acc.app (k := ws.length) (xs := ws.map .sl) h.1 (by omega) (by simp) (by have := hw.1; omega) g.1
 have s : Sub (H.hide v) (H'.hide v') := fun b cs ro e => by
  obtain ⟨e1, e2⟩ := hide_get e
  have hlt := Hp.get_lt e1
  rw [get_hide, h3.2 b hlt e2, e1]
  intro hn
  rcases h4 with rfl | h4
  ·exact e2 hn
  ·omega
 refine ⟨v', H', h1, ⟨?_, (h.2.append hw).sub s⟩, h3.gr h.1 g, h3, h4⟩
 rw [List.map_append]
 exact h2
theorem AccS.push {H0 H : Hp} {v w : Sl} {vs : List Sl} {ls : List (List T)} {l : List T} (h : AccS H0.n H v vs ls) (g : Gr H0 H) (hw : SL (H.hide v) w l) (hb : ls.length < 4294967296) :
  Ok (H.apN 1 v [.sl w] 1) fun v' H' => AccS H0.n H' v' (vs ++ [w]) (ls ++ [l]) ∧ Gr H0 H' ∧ But v H H' ∧ (v' = v ∨ H.n ≤ v'.b) := by
 have gp := Gr.push H (.cells [.sl w] false)
 have hw' : All ((H.push (.cells [.sl w] false)).hide v) [w] [l] := (All.one hw).sub (Gr.hide gp h.1.lt).sub
 refine ((h.gr gp).app (g.trans gp) hw' (cs := [.sl w]) (n := 1) rfl rfl (by simp; omega)).mono fun v' H' ⟨a, b, c, d⟩ => ⟨a, b, ⟨by have := gp.1; have := c.1; omega, fun x hx hne => by rw [c.2 x (by simp; omega) hne, gp.2 x hx]⟩, ?_⟩
 rcases d with d | d
 ·exact .inl d
 ·simp at d; exact .inr (by omega)
end
end Go.Lt

namespace Go.Lt
open Go.RowKit
/-! ### slices of one's own -/
theorem sts_blk {b : Nat} : ∀ (xs : List AV) (o : Nat) (H : Hp) (cs : List AV), H.get b = some (.cells cs false) → o + xs.length ≤ cs.length →
  ∃ H', H.sts b o xs = some H' ∧ H'.get b = some (.cells (cs.take o ++ xs ++ cs.drop (o + xs.length)) false) ∧ H'.n = H.n ∧ ∀ c, c ≠ b → H'.get c = H.get c := by
 intro xs
 induction xs with
 | nil => intro o H cs hg h; exact ⟨H, rfl, by simpa using hg, rfl, fun _ _ => rfl⟩
 | cons x xs ih =>
  intro o H cs hg h
  simp only [List.length_cons] at h
  simp only [Hp.sts]
  rw [st_eq hg (by omega)]
  simp only [Option.bind_some]
  obtain ⟨H', h1, h2, h3, h4⟩ := ih (o + 1) (H.set b (.cells (cs.set o x) false)) (cs.set o x) (Hp.get_set_same _ _ (Hp.get_lt hg)) (by simp; omega)
  refine ⟨H', h1, ?_, by rw [h3]; simp, fun c hc => by rw [h4 c hc, Hp.get_set_other _ _ hc]⟩
  rw [h2]
  congr 2
  rw [List.drop_set_of_lt (by omega), List.take_succ_eq_append_getElem (by simp; omega), List.getElem_set_self, List.take_set_of_le (Nat.le_refl _)]
  simp only [List.append_assoc, List.cons_append, List.nil_append, List.length_cons]
  rw [show o + 1 + xs.length = o + (xs.length + 1) by omega]
section
variable {T : Type} [El T]
theorem encs_set (q : List T) (j : Nat) (x : T) (h : j < q.length) : (encs q).take (j * El.sz T) ++ El.enc x ++ (encs q).drop (j * El.sz T + (El.enc x).length) = encs (q.set j x) := by
 rw [El.len, show j * El.sz T + El.sz T = (j + 1) * El.sz T by rw [Nat.add_mul, Nat.one_mul], encs_drop, encs_take, List.set_eq_take_append_cons_drop, if_pos h, encs_append, encs_cons, List.append_assoc]
structure Own (H : Hp) (v : Sl) (q : List T) : Prop where
 nn : v.nil = false
 o : v.o = 0
 len : v.len = q.length
 cap : v.len ≤ v.cap
 opn : v.opn = 0 ∨ v.opn = El.sz T
 get : H.get v.b = some (.cells (encs q) false)
theorem Own.sl {H : Hp} {v : Sl} {q : List T} (h : Own H v q) : SL H v q := .of_get h.get h.o h.len h.cap h.opn h.nn
theorem Own.keep {H H' : Hp} {v : Sl} {q : List T} (h : Own H v q) (e : H'.get v.b = H.get v.b) : Own H' v q := ⟨h.nn, h.o, h.len, h.cap, h.opn, by rw [e]; exact h.get⟩
theorem Own.gr {H H' : Hp} {v : Sl} {q : List T} (h : Own H v q) (g : Gr H H') : Own H' v q := h.keep (g.2 _ (Hp.get_lt h.get))
def Only (b : Nat) (H H' : Hp) : Prop := H.n ≤ H'.n ∧ ∀ c, c < H.n → c ≠ b → H'.get c = H.get c
theorem Only.refl (b : Nat) (H : Hp) : Only b H H := ⟨Nat.le_refl _, fun _ _ _ => rfl⟩
theorem Only.trans {b : Nat} {A B C : Hp} (h : Only b A B) (k : Only b B C) : Only b A C := ⟨Nat.le_trans h.1 k.1, fun c hc hne => by rw [k.2 c (Nat.lt_of_lt_of_le hc h.1) hne, h.2 c hc hne]⟩
theorem Gr.only {b : Nat} {A B : Hp} (g : Gr A B) : Only b A B := ⟨g.1, fun c hc _ => g.2 c hc⟩
theorem Only.gr {b : Nat} {A B H0 : Hp} (h : Only b A B) (g : Gr H0 A) (hb : H0.n ≤ b) : Gr H0 B := ⟨Nat.le_trans g.1 h.1, fun c hc => by rw [h.2 c (Nat.lt_of_lt_of_le hc g.1) (by omega), g.2 c hc]⟩
theorem Own.put {α : Type} {Q : α → Hp → Prop} {H : Hp} {v : Sl} {q : List T} (h : Own H v q) {j o : Nat} {xs : List AV} {f : Hp → Option (α × Hp)} (hj : j < q.length) (x : T) (ho : o = v.o + j * El.sz T) (hx : xs = El.enc x)
  (k : ∀ H', Own H' v (q.set j x) → Only v.b H H' → H'.n = H.n → Ok (f H') Q) : Ok ((H.sts v.b o xs).bind f) Q := by
 subst ho; subst hx
 have hl : j * El.sz T + El.sz T ≤ (encs q).length := by
  rw [encs_len, ← Nat.succ_mul]
  exact Nat.mul_le_mul_right _ hj
 rw [h.o, Nat.zero_add]
 obtain ⟨H', h1, h2, h3, h4⟩ := sts_blk (El.enc x) (j * El.sz T) H (encs q) h.get (by rw [El.len]; exact hl)
 rw [encs_set q j x hj] at h2
 exact Ok.ld h1 (k H' ⟨h.nn, h.o, by simp [h.len], h.cap, h.opn, h2⟩ ⟨by omega, fun c _ hc => h4 c hc⟩ h3)
noncomputable def cloneR (es : Nat) (a0 : Sl) (H : Hp) : Option (Sl × Hp) :=
 if a0.nil = true then
  (some (⟨true, 0, 0, 0, 0, 0⟩, H))
 else
  (((H.push (.cells [] false)).lds a0.b a0.o (a0.len * es)).bind fun x2 =>
  ck (x2.all AV.one = true) (
  ((H.push (.cells [] false)).app es ⟨false, H.n, 0, 0, 0, 0⟩ x2 a0.len).bind fun x4 =>
  some (x4.1, x4.2)))
end
end Go.Lt

namespace Go.Lt
open Go.RowKit
section
variable {T : Type} [El T]
def Buf (n0 : Nat) (H : Hp) (v : Sl) (l : List T) : Prop :=
 (v = nilS ∧ l = []) ∨ (v.nil = false ∧ v.o = 0 ∧ v.opn = El.sz T ∧ n0 ≤ v.b ∧ v.len = l.length ∧ v.len ≤ v.cap ∧ ∃ cs, H.get v.b = some (.cells (encs l ++ cs) false) ∧ (encs l ++ cs).length = v.cap * El.sz T)
theorem Buf.sl {n0 : Nat} {H : Hp} {v : Sl} {l : List T} (h : Buf n0 H v l) : SL H v l := by
 rcases h with ⟨rfl, rfl⟩ | ⟨h1, h2, h3, h4, h5, h6, cs, h7, h8⟩
 ·exact SL.nilS
 ·refine ⟨⟨by rw [encs_len, h5], lds_of_get fun i hi => ?_⟩, h6, .inr h3, fun e => by rw [h1] at e; cases e⟩
  rw [ld_of_get h7, h2, Nat.zero_add, List.getElem?_append_left hi, List.getElem?_eq_getElem hi]
theorem Buf.len {n0 : Nat} {H : Hp} {v : Sl} {l : List T} (h : Buf n0 H v l) : v.len = l.length := h.sl.len
theorem Buf.keep {n0 : Nat} {H H' : Hp} {v : Sl} {l : List T} (h : Buf n0 H v l) (e : v.nil = false → H'.get v.b = H.get v.b) : Buf n0 H' v l := by
 rcases h with h | ⟨h1, h2, h3, h4, h5, h6, cs, h7, h8⟩
 ·exact .inl h
 ·exact .inr ⟨h1, h2, h3, h4, h5, h6, cs, by rw [e h1]; exact h7, h8⟩
theorem Buf.lt {n0 : Nat} {H : Hp} {v : Sl} {l : List T} (h : Buf n0 H v l) (hn : v.nil = false) : v.b < H.n ∧ n0 ≤ v.b := by
 rcases h with ⟨rfl, _⟩ | ⟨h1, h2, h3, h4, h5, h6, cs, h7, h8⟩
 ·simp [nilS] at hn
 ·exact ⟨Hp.get_lt h7, h4⟩
theorem Buf.gr {n0 : Nat} {H H' : Hp} {v : Sl} {l : List T} (h : Buf n0 H v l) (g : Gr H H') : Buf n0 H' v l := h.keep fun hn => g.2 _ (h.lt hn).1
def BufTo (H : Hp) (v : Sl) (H' : Hp) (v' : Sl) : Prop := But v H H' ∧ (v'.nil = false → (v.nil = false ∧ v'.b = v.b) ∨ H.n ≤ v'.b)
theorem Buf.push {n0 : Nat} {H : Hp} {v : Sl} {l : List T} (h : Buf n0 H v l) (hn0 : n0 ≤ H.n) (x : T) {es : Nat} {cs : List AV} (hes : es = El.sz T) (hcs : cs = El.enc x) (hb : l.length < 4294967296) :
  Ok (H.apN es v cs 1) fun v' H' => Buf n0 H' v' (l ++ [x]) ∧ BufTo H v H' v' ∧ v'.nil = false := by
 subst hes; subst hcs
 have hlen := h.len
 have hsz := El.pos (T := T)
 have gp := Gr.push H (.cells (El.enc x) false)
 have hp := h.gr gp
 have n1 : (H.push (.cells (El.enc x) false)).n = H.n + 1 := by simp
 unfold Hp.apN Hp.app
 rw [if_pos (by omega)]
 rcases h with ⟨rfl, rfl⟩ | ⟨h1, h2, h3, h4, h5, h6, cs, h7, h8⟩
 ·rw [if_neg (by simp [nilS])]
  simp only [nilS, Nat.zero_mul, Hp.lds, Option.bind_some, if_true, List.nil_append, Nat.zero_add]
  refine Ok.ret ⟨.inr ⟨rfl, rfl, rfl, by simp; omega, rfl, Nat.le_refl _, [], by rw [Hp.get_push, if_pos rfl]; simp [encs_one], by simp [encs_one, El.len]⟩, ⟨⟨by simp; omega, fun b hb _ => ?_⟩, fun _ => .inr (by simp)⟩, rfl⟩
  rw [Hp.get_push_old _ _ (by simp; omega), Hp.get_push_old _ _ hb]
 ·have hg : (H.push (.cells (El.enc x) false)).get v.b = some (.cells (encs l ++ cs) false) := by rw [gp.2 _ (Hp.get_lt h7)]; exact h7
  by_cases hc : v.len + 1 ≤ v.cap
  ·rw [if_pos hc, if_neg (by simp [h1])]
   have hl1 : (v.len + 1) * El.sz T ≤ v.cap * El.sz T := Nat.mul_le_mul_right _ hc
   rw [Nat.add_mul, Nat.one_mul] at hl1
   obtain ⟨H', e1, e2, e3, e4⟩ := sts_blk (El.enc x) (v.o + v.len * El.sz T) _ _ hg (by rw [El.len, h2, h8]; omega)
   rw [e1]
   simp only [Option.map_some]
   have el : encs l = encs l ∧ (encs l).length = v.len * El.sz T := ⟨rfl, by rw [encs_len, h5]⟩
   refine Ok.ret ⟨.inr ⟨rfl, h2, h3, h4, by simp; omega, hc, cs.drop (El.sz T), ?_, ?_⟩, ⟨⟨by rw [e3]; omega, fun b hb hne => ?_⟩, fun _ => .inl ⟨h1, rfl⟩⟩, rfl⟩
   ·rw [e2, h2, Nat.zero_add, encs_append, encs_one, El.len]
    congr 2
    rw [List.take_append_of_le_length (by rw [el.2]; exact Nat.le_refl _), List.take_of_length_le (by rw [el.2]; exact Nat.le_refl _), show v.len * El.sz T + El.sz T = (encs l).length + El.sz T by rw [el.2], List.drop_append, List.drop_of_length_le (by omega), show (encs l).length + El.sz T - (encs l).length = El.sz T by omega]; rfl
   ·rw [List.length_append, encs_len]
    rw [List.length_append, el.2] at h8
    simp only [List.length_append, List.length_singleton, List.length_drop]
    rw [← h5, Nat.add_mul, Nat.one_mul]
    omega
   ·rw [e4 b (hne h1), gp.2 b hb]
  ·rw [if_neg hc, hp.sl.lds]
   simp only [Option.bind_some]
   rw [if_neg (by omega), if_pos h3, hg]
   simp only
   refine Ok.ret ⟨.inr ⟨rfl, rfl, rfl, by simp; omega, by simp; omega, Nat.le_refl _, [], by simp [Hp.get_push, encs_append, encs_one], by rw [List.append_nil, encs_len, List.length_append, h5]; rfl⟩, ⟨⟨by simp; omega, fun b hb hne => ?_⟩, fun _ => .inr (by simp)⟩, rfl⟩
   rw [Hp.get_push_old _ _ (by simp; omega), Hp.get_set_other _ _ (hne h1), Hp.get_push_old _ _ hb]
end
end Go.Lt

namespace Go.Lt
open Go.RowKit
theorem zerosA_len (zs : List AV) (k : Nat) : (zerosA zs k).length = k := by simp [zerosA]
section
variable {T : Type} [El T]
theorem SL.blk {H : Hp} {v : Sl} {l : List T} (h : SL H v l) (h0 : l ≠ []) : v.b < H.n := by
 cases l with
 | nil => exact absurd rfl h0
 | cons x l =>
  have hp := El.pos (T := T)
  have hj : 0 < (El.enc x).length := by rw [El.len]; exact hp
  have h1 := h.ld (i := 0) (j := 0) (x := (El.enc x)[0]) (by simp) (by simp [List.getElem?_eq_getElem hj])
  unfold Hp.ld at h1
  split at h1
  ·rename_i cs ro hg; exact Hp.get_lt hg
  ·cases h1
theorem lds_same {H H' : Hp} {b : Nat} (e : H'.get b = H.get b) : ∀ {n o : Nat}, H'.lds b o n = H.lds b o n := by
 intro n
 induction n with
 | zero => intro o; rfl
 | succ n ih =>
  intro o
  have : H'.ld b o = H.ld b o := by unfold Hp.ld; rw [e]
  simp only [Hp.lds, this, ih]
theorem SL.same {H H' : Hp} {v : Sl} {l : List T} (h : SL H v l) (e : v.nil = false → H'.get v.b = H.get v.b) : SL H' v l := by
 cases hn : v.nil with
 | true => obtain ⟨rfl, rfl⟩ := h.nil hn; exact SL.nilS
 | false => exact ⟨⟨h.cs.1, by rw [lds_same (e hn)]; exact h.cs.2⟩, h.cap, h.opn, h.nil⟩
end
end Go.Lt

namespace Go.Lt
open Go.RowKit
/-! ### arguments that are slices -/
section
variable {T : Type} [El T]
end
end Go.Lt

namespace Go.Lt
/-! ### arguments of a bounded bulk -/
mutual
def dBulk {H : Type} : DataW H → Nat
 | .lit (.string bytes) => bytes.length + 1
 | .lit _ => 1
 | .nil => 1
 | .ptr d => dBulk d + 1
 | .slice elems spare => dBulkAll elems + dBulkAll spare + 1
 | .agg parts => dBulkAll parts + 1
 | .iface _ d => dBulk d + 1
 | .map entries => dBulkEntries entries + 1
 | .held _ => 1
def dBulkAll {H : Type} : List (DataW H) → Nat
 | [] => 0
 | d :: r => dBulk d + dBulkAll r
def dBulkEntries {H : Type} : List (Lit × DataW H) → Nat
 | [] => 0
 | x :: r => dBulkEntry x + dBulkEntries r
def dBulkEntry {H : Type} : Lit × DataW H → Nat
 | (.string bytes, d) => bytes.length + dBulk d + 1
 | (_, d) => dBulk d + 1
end
theorem bulk_pos {H : Type} (d : DataW H) : 1 ≤ dBulk d := by
 cases d with
 | lit l => cases l <;> simp [dBulk]
 | nil => simp [dBulk]
 | ptr d => simp [dBulk]
 | slice elems spare => simp [dBulk]
 | agg parts => simp [dBulk]
 | iface t d => simp [dBulk]
 | map entries => simp [dBulk]
 | held h => simp [dBulk]
theorem bulk_part {H : Type} {d : DataW H} : ∀ {l : List (DataW H)}, d ∈ l → dBulk d ≤ dBulkAll l := by
 intro l
 induction l with
 | nil => intro h; cases h
 | cons x r ih =>
  intro h
  simp only [dBulkAll]
  rcases List.mem_cons.1 h with e | e
  ·subst e; omega
  ·have := ih e; omega
theorem bulk_len {H : Type} : ∀ (l : List (DataW H)), l.length ≤ dBulkAll l := by
 intro l
 induction l with
 | nil => simp [dBulkAll]
 | cons x r ih => have := bulk_pos x; simp only [dBulkAll, List.length_cons]; omega
theorem bulk_slice {H : Type} {N len cap : Nat} {D : Nat → DataW H} (hl : len ≤ cap) {q : List MemPlace} (h : dBulk (Prod.fst ((.slice ((List.range len).map D) ((List.range (cap - len)).map fun j => D (len + j)), q) : DataW H × List MemPlace)) ≤ N) : cap ≤ N ∧ ∀ i, i < cap → dBulk (D i) ≤ N := by
 simp only [dBulk] at h
 have h1 := bulk_len ((List.range len).map D)
 have h2 := bulk_len ((List.range (cap - len)).map fun j => D (len + j))
 simp only [List.length_map, List.length_range] at h1 h2
 refine ⟨by omega, fun i hi => ?_⟩
 by_cases hil : i < len
 ·have := bulk_part (d := D i) (l := (List.range len).map D) (List.mem_map.2 ⟨i, by simpa using hil, rfl⟩)
  omega
 ·have := bulk_part (d := D i) (l := (List.range (cap - len)).map fun j => D (len + j)) (List.mem_map.2 ⟨i - len, by simp; omega, by congr 1; omega⟩)
  omega
theorem bulk_agg {H : Type} {N : Nat} {xs : List (DataW H × List MemPlace)} {q : List MemPlace} (h : dBulk (Prod.fst ((.agg (xs.map (·.1)), q) : DataW H × List MemPlace)) ≤ N) : ∀ x ∈ xs, dBulk x.1 ≤ N := by
 intro x hx
 simp only [dBulk] at h
 have := bulk_part (d := x.1) (l := xs.map (·.1)) (List.mem_map.2 ⟨x, hx, rfl⟩)
 omega
end Go.Lt
namespace Go.Lt.B
open Go.Lt
variable {N : Nat}
def SlOk (N : Nat) (H : Hp) (v : Sl) : Prop := v = ⟨true, 0, 0, 0, 0, 0⟩ ∨ (v.nil = false ∧ v.opn = 0 ∧ v.o = 0 ∧ v.len ≤ v.cap ∧ v.cap ≤ N ∧ v.b < H.n)
def Rd (N : Nat) (H : Hp) : Sh → List AV → Prop
 | .bool, xs => ∃ b, xs = [.bool b]
 | .int k, xs => ∃ n, xs = [.int k n] ∧ (Lit.int k n).wf = true
 | .str, xs => ∃ s, xs = [.str s] ∧ s.size ≤ N
 | .unit, xs => xs = []
 | .pair a b, xs => ∃ ys zs, xs = ys ++ zs ∧ Rd N H a ys ∧ Rd N H b zs
 | .rep n s, xs => ∃ l : List (List AV), l.length = n ∧ xs = l.flatten ∧ ∀ y ∈ l, Rd N H s y
 | .sl s, xs => ∃ v : Sl, xs = [.sl v] ∧ SlOk N H v ∧ ∃ l : List (List AV), l.length = v.len ∧ H.lds v.b v.o (v.len * s.cells) = some l.flatten ∧ ∀ y ∈ l, Rd N H s y
def RdA (N : Nat) (H : Hp) (s : Sh) (x : AV) : Prop := if s.agg = true then ∃ xs, x = .agg xs ∧ Rd N H s xs else Rd N H s [x]
def RdAs (N : Nat) (H : Hp) : List Sh → List AV → Prop
 | [], xs => xs = []
 | s :: ss, xs => ∃ y ys, xs = y :: ys ∧ RdA N H s y ∧ RdAs N H ss ys

theorem Rd.mono {H H' : Hp} (g : Gr H H') : ∀ {s : Sh} {xs : List AV}, Rd N H s xs → Rd N H' s xs := by
 intro s
 induction s with
 | bool => intro xs h; exact h
 | int k => intro xs h; exact h
 | str => intro xs h; exact h
 | unit => intro xs h; exact h
 | pair a b iha ihb => rintro xs ⟨ys, zs, rfl, h1, h2⟩; exact ⟨ys, zs, rfl, iha h1, ihb h2⟩
 | rep n s ih => rintro xs ⟨l, hl, rfl, h⟩; exact ⟨l, hl, rfl, fun y hy => ih (h y hy)⟩
 | sl s ih =>
  rintro xs ⟨v, rfl, hv, l, hl, hd, h⟩
  refine ⟨v, rfl, ?_, l, hl, g.lds hd, fun y hy => ih (h y hy)⟩
  rcases hv with hv | ⟨a, b, c, d, e, f⟩
  ·exact .inl hv
  ·exact .inr ⟨a, b, c, d, e, Nat.lt_of_lt_of_le f g.1⟩
theorem RdA.mono {H H' : Hp} (g : Gr H H') {s : Sh} {x : AV} (h : RdA N H s x) : RdA N H' s x := by
 unfold RdA at h ⊢
 split
 ·rw [if_pos (by assumption)] at h
  obtain ⟨xs, e, h⟩ := h
  exact ⟨xs, e, h.mono g⟩
 ·rw [if_neg (by assumption)] at h
  exact h.mono g

def Readable (N : Nat) (W : World) (s : Sh) (cs : List Value) : Prop := ∀ m H, In0 W m H → ∃ m' H' xs, Gr H H' ∧ Ext H.n m m' ∧ In0 W m' H' ∧ RVs m' H'.n xs cs ∧ Rd N H' s xs

theorem readable_many {W : World} {s : Sh} : ∀ (L : List (List Value)), (∀ cs ∈ L, Readable N W s cs) → ∀ m H, In0 W m H →
  ∃ (m' : Nat → Loc) (H' : Hp) (l : List (List AV)), Gr H H' ∧ Ext H.n m m' ∧ In0 W m' H' ∧ l.length = L.length ∧ RVs m' H'.n l.flatten L.flatten ∧ (∀ y ∈ l, Rd N H' s y) := by
 intro L
 induction L with
 | nil => intro _ m H h; exact ⟨m, H, [], .refl _, .refl _ _, h, rfl, .nil, by simp⟩
 | cons cs L ih =>
  intro hL m H h
  obtain ⟨m1, H1, xs, g1, e1, i1, r1, d1⟩ := hL cs (by simp) m H h
  obtain ⟨m2, H2, l, g2, e2, i2, hl, r2, d2⟩ := ih (fun c hc => hL c (by simp [hc])) m1 H1 i1
  refine ⟨m2, H2, xs :: l, g1.trans g2, e1.trans e2 g1.1, i2, by simp [hl], (r1.mono e2 g2.1).append r2, fun y hy => ?_⟩
  rcases List.mem_cons.1 hy with rfl | hy
  ·exact d1.mono g2
  ·exact d2 y hy
theorem readable_pair {W : World} {a b : Sh} {cs ds : List Value} (h1 : Readable N W a cs) (h2 : Readable N W b ds) : Readable N W (.pair a b) (cs ++ ds) := by
 intro m H h
 obtain ⟨m1, H1, xs, g1, e1, i1, r1, d1⟩ := h1 m H h
 obtain ⟨m2, H2, ys, g2, e2, i2, r2, d2⟩ := h2 m1 H1 i1
 exact ⟨m2, H2, xs ++ ys, g1.trans g2, e1.trans e2 g1.1, i2, (r1.mono e2 g2.1).append r2, xs, ys, rfl, d1.mono g2, d2⟩
theorem readable_rep {W : World} {n : Nat} {s : Sh} {L : List (List Value)} (hn : L.length = n) (h : ∀ cs ∈ L, Readable N W s cs) : Readable N W (.rep n s) L.flatten := by
 intro m H hi
 obtain ⟨m', H', l, g, e, i, hl, r, d⟩ := readable_many L h m H hi
 exact ⟨m', H', l.flatten, g, e, i, r, l, by omega, rfl, d⟩
theorem readable_sl {W : World} {s : Sh} {a : Addr} {len cap : Nat} {L : List (List Value)} (hc : 0 < s.cells) (hn : L.length = len) (hlc : len ≤ cap) (hm : cap ≤ N) (hL : ∀ cs ∈ L, cs.length = s.cells)
  (h : ∀ cs ∈ L, Readable N W s cs) (hcell : 0 < cap → ∃ c e fr, W.heap[a.block]? = some (.cells c e fr) ∧ a.spot = none ∧ a.off + len * s.cells ≤ c.size ∧ ∀ i (hi : i < L.flatten.length), c[a.off + i]? = some L.flatten[i]) :
  Readable N W (.sl s) [.slice (some a) len cap] := by
 intro m H hi
 obtain ⟨m1, H1, l, g, e, i1, hl, r, d⟩ := readable_many L h m H hi
 by_cases h0 : cap = 0
 ·subst h0
  have hl0 : len = 0 := by omega
  subst hl0
  have hp := i1.push .dead ⟨0, 0, 0⟩ rfl trivial
  refine ⟨_, _, [.sl ⟨false, H1.n, 0, 0, 0, 0⟩], g.trans (.push _ _), e.trans (newLoc_ext H1 m1 _) g.1, hp, .cons (.sle _ _ _ (by simp) a) .nil, _, rfl, .inr ⟨rfl, rfl, rfl, by simp, by simp, by simp⟩, [], rfl, by simp [Hp.lds], by simp⟩
 ·obtain ⟨c, el, fr, hb, hs, hsz, hcs⟩ := hcell (by omega)
  have hlen : l.flatten.length = L.flatten.length := r.1
  have hfl : L.flatten.length = len * s.cells := by
   rw [← hn]
   clear hcell h hn r d i1 hl hcs hsz hlen
   induction L with
   | nil => simp
   | cons x L ih => simp only [List.flatten_cons, List.length_append, List.length_cons]; rw [ih (fun c hc => hL c (by simp [hc])), hL x (by simp)]; rw [Nat.succ_mul]; omega
  have hp := i1.push (.cells l.flatten true) ⟨a.block, a.off, c.size⟩ rfl (by
   refine ⟨c, el, fr, by rw [newLoc_new]; exact hb, by rw [newLoc_new], by rw [newLoc_new]; simp only; omega, ?_, by simp⟩
   intro i hi'
   rw [newLoc_new]
   exact ⟨_, hcs i (by omega), (r.2 i hi' (by omega)).mono (newLoc_ext H1 m1 _) (Nat.le_succ _)⟩)
  have g1 : Gr H1 (H1.push (.cells l.flatten true)) := .push _ _
  refine ⟨_, _, [.sl ⟨false, H1.n, 0, len, cap, 0⟩], g.trans g1, e.trans (newLoc_ext H1 m1 _) g.1, hp, .cons ?_ .nil, _, rfl, .inr ⟨rfl, rfl, rfl, hlc, hm, by simp⟩, l, by simp; omega, ?_, fun y hy => (d y hy).mono g1⟩
  ·have := RV.sl (m := newLoc H1 m1 ⟨a.block, a.off, c.size⟩) (n := (H1.push (.cells l.flatten true)).n) H1.n 0 len cap (by simp) hlc
   rw [newLoc_new] at this
   obtain ⟨blk, off, spot⟩ := a
   simp only at hs
   subst hs
   exact this
  ·have := lds_cells (H := H1.push (.cells l.flatten true)) (b := H1.n) (ro := true) l.flatten [] (by simp)
   rw [hlen, hfl] at this
   exact this

variable {K : Type} {enc : TypeId × Value → K} {P : Program} {W : World}
theorem fields_readable {n : Nat} {cs : List Value} (ih : ∀ (t : TypeId) (s : Sh) (fuel : Nat) (cs : List Value) (x : DataW K × List MemPlace), shOf P n t = some s → dBulk x.1 ≤ N → DataW.trod enc P W 0 (fun _ => true) true fuel t cs = some x → cs.length = s.cells ∧ Readable N W s cs) :
  ∀ (fs : List Field) (off : Nat) (s : Sh), shFields P (shOf P n) off fs = some s → cs.length = off + s.cells →
   (∀ f ∈ fs, ∃ fuel x, dBulk (Prod.fst x) ≤ N ∧ DataW.trod enc P W 0 (fun _ => true) true fuel f.type ((cs.drop f.offset).take (P.cellsOf f.type)) = some x) → Readable N W s (cs.drop off) := by
 intro fs
 induction fs with
 | nil =>
  intro off s h hl _
  simp only [shFields, Option.some.injEq] at h
  subst h
  simp only [Sh.cells, Nat.add_zero] at hl
  rw [← hl, List.drop_length]
  exact fun m H hi => ⟨m, H, [], .refl _, .refl _ _, hi, .nil, rfl⟩
 | cons f fs ihf =>
  intro off s h hl hf
  simp only [shFields, Option.bind_eq_some_iff] at h
  obtain ⟨s0, h0, h⟩ := h
  split at h
  ·rename_i hc
   simp only [Option.map_eq_some_iff] at h
   obtain ⟨s1, h1, rfl⟩ := h
   obtain ⟨fuel, x, hbx, hx⟩ := hf f (by simp)
   rw [hc.1, hc.2] at hx
   have r0 := (ih _ _ _ _ _ h0 hbx hx).2
   have r1 := ihf (off + s0.cells) s1 h1 (by simp only [Sh.cells] at hl; omega) (fun g hg => hf g (by simp [hg]))
   have e : cs.drop off = (cs.drop off).take s0.cells ++ cs.drop (off + s0.cells) := by
    rw [← List.drop_drop, List.take_append_drop]
   rw [e]
   exact readable_pair r0 r1
  ·cases h

theorem trod_readable : ∀ (n : Nat) (t : TypeId) (s : Sh) (fuel : Nat) (cs : List Value) (x : DataW K × List MemPlace), shOf P n t = some s → dBulk x.1 ≤ N → DataW.trod enc P W 0 (fun _ => true) true fuel t cs = some x → cs.length = s.cells ∧ Readable N W s cs := by
 intro n
 induction n with
 | zero => intro t s fuel cs x h; simp [shOf] at h
 | succ n ih =>
  intro t s fuel cs x h hbk hx
  unfold shOf at h
  split at h
  ·rename_i hu
   cases h
   obtain ⟨b, rfl, _⟩ := DataW.trod_bool hu hx
   exact ⟨rfl, fun m H hi => ⟨m, H, [.bool b], .refl _, .refl _ _, hi, .cons (.bool b) .nil, b, rfl⟩⟩
  ·rename_i k hu
   cases h
   obtain ⟨b, rfl, _, hw⟩ := DataW.trod_int hu hx
   exact ⟨rfl, fun m H hi => ⟨m, H, [.int k b], .refl _, .refl _ _, hi, .cons (.int k b) .nil, b, rfl, hw⟩⟩
  ·rename_i hu
   cases h
   obtain ⟨b, rfl, rfl, _⟩ := DataW.trod_string hu hx
   have hw : b.size ≤ N := by
    simp only [dBulk, Array.length_toList] at hbk
    have : b.data.size = b.size := rfl
    omega
   exact ⟨rfl, fun m H hi => ⟨m, H, [.str b], .refl _, .refl _ _, hi, .cons (.str b) .nil, b, rfl, hw⟩⟩
  ·rename_i e hu
   simp only [Option.bind_eq_some_iff] at h
   obtain ⟨s0, h0, h⟩ := h
   split at h
   ·rename_i hc
    cases h
    rcases Deep.open_slice hu hx with ⟨rfl, _⟩ | ⟨a, len, cap, m, n', D, Pl, rfl, _, hlc, _, hmm, rfl, hel⟩
    ·exact ⟨rfl, fun m H hi => ⟨m, H, [.sl ⟨true, 0, 0, 0, 0, 0⟩], .refl _, .refl _ _, hi, .cons .slnil .nil, _, rfl, .inl rfl, [], rfl, by simp [Hp.lds], by simp⟩⟩
    ·simp only [if_true] at hmm
     subst hmm
     obtain ⟨hm, hbD⟩ := bulk_slice hlc hbk
     refine ⟨rfl, ?_⟩
     obtain ⟨C, hC⟩ := Deep.choose_lt hel
     rw [hc.1] at hC
     refine readable_sl (L := (List.range len).map C) hc.2 (by simp) hlc hm ?_ ?_ ?_
     ·intro cs hcs
      simp only [List.mem_map, List.mem_range] at hcs
      obtain ⟨i, hi, rfl⟩ := hcs
      exact (ih _ _ _ _ _ h0 (hbD i (by omega)) (hC i (by omega)).2).1
     ·intro cs hcs
      simp only [List.mem_map, List.mem_range] at hcs
      obtain ⟨i, hi, rfl⟩ := hcs
      exact (ih _ _ _ _ _ h0 (hbD i (by omega)) (hC i (by omega)).2).2
     ·intro hpos
      have key : ∀ i, i < m → ∀ j, j < s0.cells → W.cell? (a.add (i * s0.cells + j)) = (C i)[j]? ∧ (C i).length = s0.cells := by
       intro i hi j hj
       obtain ⟨_, hl, hcell⟩ := World.cells?_some (hC i hi).1
       rw [← Deep.add_add]
       exact ⟨hcell j hj, hl⟩
      have h00 := key 0 hpos 0 hc.2
      have hv : ∃ v, W.cell? a = some v := by
       have e0 : a.add (0 * s0.cells + 0) = a := by simp [Addr.add]
       rw [e0] at h00
       exact ⟨(C 0)[0]'(by have := h00.2; have := hc.2; omega), h00.1.trans (List.getElem?_eq_getElem _)⟩
      obtain ⟨v, hv⟩ := hv
      have hsp := World.cell?_spot hv
      unfold World.cell? at hv
      split at hv
      ·rename_i c el fr hblk
       refine ⟨c, el, fr, hblk, hsp, ?_, ?_⟩
       ·by_cases hz : len = 0
        ·subst hz
         simp only [Nat.zero_mul, Nat.add_zero]
         rw [hsp] at hv
         simp only [Option.isSome_none, Bool.false_eq_true, if_false] at hv
         have := (Array.getElem?_eq_some_iff.1 hv).1
         omega
        ·have hk := key (len - 1) (by omega) (s0.cells - 1) (by omega)
         have hk2 := cell_add (hk.1.trans (List.getElem?_eq_getElem (by have := hk.2; have := hc.2; omega))) hblk hsp
         have := (Array.getElem?_eq_some_iff.1 hk2).1
         have e3 : (len - 1) * s0.cells + s0.cells = len * s0.cells := by rw [← Nat.succ_mul]; congr 1; omega
         have := hc.2
         omega
       ·intro i hi
        have hflat : ∀ (k : Nat) (hk : k ≤ m), ∀ i (hi : i < ((List.range k).map C).flatten.length), W.cell? (a.add i) = some (((List.range k).map C).flatten[i]) ∧ ((List.range k).map C).flatten.length = k * s0.cells := by
         intro k
         induction k with
         | zero => intro _ i hi; simp at hi
         | succ k ihk =>
          intro hk i hi
          have hlen : ((List.range k).map C).flatten.length = k * s0.cells := by
           cases k with
           | zero => simp
           | succ k =>
            refine (ihk (by omega) 0 ?_).2
            have := (key 0 (by omega) 0 hc.2).2
            rw [List.range_succ_eq_map]
            simp only [List.map_cons, List.flatten_cons, List.length_append]
            have := hc.2
            omega
          have hke := fun j hj => key k (by omega) j hj
          have hCk : (C k).length = s0.cells := (hke 0 hc.2).2
          have e : ((List.range (k + 1)).map C).flatten = ((List.range k).map C).flatten ++ C k := by
           rw [List.range_succ]; simp
          simp only [e] at hi ⊢
          refine ⟨?_, by rw [List.length_append, hlen, hCk, Nat.succ_mul]⟩
          by_cases hlt : i < ((List.range k).map C).flatten.length
          ·rw [List.getElem_append_left hlt]
           exact (ihk (by omega) i hlt).1
          ·rw [List.length_append] at hi
           rw [List.getElem_append_right (by omega)]
           have := (hke (i - ((List.range k).map C).flatten.length) (by omega)).1
           rw [← hlen] at this
           rw [show ((List.range k).map C).flatten.length + (i - ((List.range k).map C).flatten.length) = i by omega] at this
           rw [this, List.getElem?_eq_getElem]
        exact cell_add (hflat len hlc i hi).1 hblk hsp
      ·cases hv
   ·cases h
  ·rename_i k e hu
   simp only [Option.bind_eq_some_iff] at h
   obtain ⟨s0, h0, h⟩ := h
   split at h
   ·rename_i hc
    cases h
    obtain ⟨xs, m, _, rfl, hl, hxl, hel⟩ := DataW.trod_array hu hx
    have hbp := bulk_agg hbk
    rw [hc.2] at hl
    refine ⟨hl, ?_⟩
    rw [← chunks s0.cells k cs hl]
    refine readable_rep (by simp) fun c hcm => ?_
    simp only [List.mem_map, List.mem_range] at hcm
    obtain ⟨i, hi, rfl⟩ := hcm
    have := hel i hi
    rw [hc.1, List.getElem?_eq_getElem (by omega)] at this
    exact (ih _ _ _ _ _ h0 (hbp _ (List.getElem_mem _)) this).2
   ·cases h
  ·rename_i fs hu
   simp only [Option.bind_eq_some_iff] at h
   obtain ⟨s0, h0, h⟩ := h
   split at h
   ·rename_i hc
    cases h
    obtain ⟨xs, m, _, rfl, hl, hxl, hel⟩ := DataW.trod_struct hu hx
    have hbp := bulk_agg hbk
    rw [hc] at hl
    refine ⟨hl, ?_⟩
    have := fields_readable (cs := cs) ih fs.toList 0 _ h0 (by omega) (fun f hf => by
     obtain ⟨i, hi, rfl⟩ := List.mem_iff_getElem.1 hf
     have hi' : i < fs.size := by simpa using hi
     have h2 := hel i _ (Array.getElem?_eq_getElem hi')
     rw [List.getElem?_eq_getElem (l := xs) (by omega)] at h2
     exact ⟨m, _, hbp _ (List.getElem_mem _), by simpa using h2⟩)
    simpa using this
   ·cases h
  ·cases h

theorem arg_read {n : Nat} {t : TypeId} {s : Sh} {b : Nat} {v : Value} {d : DataW K} {ps : List MemPlace} (h : shOf P n t = some s) (hv : Value.okWide P W .any b t v)
  (ht : DataW.Trod enc P W 0 (fun _ => true) true t v d ps) (hbk : dBulk d ≤ N) (m : Nat → Loc) (H : Hp) (hi : In0 W m H) :
  ∃ m' H' x, Gr H H' ∧ Ext H.n m m' ∧ In0 W m' H' ∧ RV m' H'.n x v ∧ RdA N H' s x := by
 obtain ⟨fuel, ht⟩ := ht
 obtain ⟨_, hr⟩ := trod_readable _ _ _ _ _ _ h hbk ht
 obtain ⟨m', H', xs, g, e, i, r, d⟩ := hr m H hi
 have h1 := shOf_one h hv
 unfold RdA
 by_cases ha : s.agg = true
 ·rw [if_pos ha] at h1
  obtain ⟨cs, rfl⟩ := h1
  refine ⟨m', H', .agg xs, g, e, i, .agg xs cs (by simpa [Value.cells] using r.1) (fun i h1 h2 => by simpa [Value.cells] using r.2 i h1 (by simpa [Value.cells] using h2)), ?_⟩
  rw [if_pos ha]
  exact ⟨xs, rfl, d⟩
 ·rw [if_neg ha] at h1
  rw [h1] at r
  have hl := r.1
  match xs, hl with
  | [x], _ =>
   refine ⟨m', H', x, g, e, i, ?_, ?_⟩
   ·obtain ⟨_, _, e, hx, _⟩ := r.cons_inv
    simp only [List.cons.injEq] at e
    rw [e.1]
    exact hx
   ·rw [if_neg ha]
    exact d

theorem RdAs.mono {H H' : Hp} (g : Gr H H') : ∀ {ss : List Sh} {xs : List AV}, RdAs N H ss xs → RdAs N H' ss xs := by
 intro ss
 induction ss with
 | nil => intro xs h; exact h
 | cons s ss ih =>
  rintro xs ⟨y, ys, rfl, h1, h2⟩
  exact ⟨y, ys, rfl, h1.mono g, ih h2⟩

theorem args_read {n : Nat} {b : Nat} : ∀ {ts : List TypeId} {ss : List Sh} {vs : List Value} {ds : List (DataW K)} {ps : List MemPlace}, shsOf P n ts = some ss →
  (∀ (j : Nat) t v, ts[j]? = some t → vs[j]? = some v → Value.okWide P W .any b t v) → DataW.TrodAll enc P W 0 (fun _ => true) true ts vs ds ps → dBulkAll ds ≤ N →
  ∀ m H, In0 W m H → ∃ m' H' xs, Gr H H' ∧ Ext H.n m m' ∧ In0 W m' H' ∧ RVs m' H'.n xs vs ∧ RdAs N H' ss xs := by
 intro ts
 induction ts with
 | nil =>
  intro ss vs ds ps h hv ht _ m H hi
  simp only [shsOf, Option.some.injEq] at h
  subst h
  cases vs <;> cases ds <;> simp only [DataW.TrodAll] at ht
  exact ⟨m, H, [], .refl _, .refl _ _, hi, .nil, rfl⟩
 | cons t ts ih =>
  intro ss vs ds ps h hv ht hbk m H hi
  simp only [shsOf, Option.bind_eq_some_iff, Option.map_eq_some_iff] at h
  obtain ⟨s0, h0, ss1, h1, rfl⟩ := h
  cases vs <;> cases ds <;> simp only [DataW.TrodAll] at ht
  rename_i v vs d ds
  obtain ⟨p, q, h2, h3, rfl⟩ := ht
  have hb1 : dBulk d ≤ N := by simp only [dBulkAll] at hbk; omega
  obtain ⟨m1, H1, x, g1, e1, i1, r1, d1⟩ := arg_read h0 (hv 0 t v rfl rfl) h2 hb1 m H hi
  obtain ⟨m2, H2, xs, g2, e2, i2, r2, d2⟩ := ih h1 (fun j t v a b => hv (j + 1) t v (by simpa using a) (by simpa using b)) h3 (by simp only [dBulkAll] at hbk; omega) m1 H1 i1
  exact ⟨m2, H2, x :: xs, g1.trans g2, e1.trans e2 g1.1, i2, .cons (r1.mono e2 g2.1) r2, x, xs, rfl, d1.mono g2, d2⟩

theorem law_contract {fi : FuncId} {f : Func} {s : ChangeSpec} {apart fresh handsOn again : Bool} {args : Array Value} {ds gs : List (DataW K)} {before : List MemPlace} {b : TypeId} {base n : Nat} {ss : List Sh}
  (hvars : s.vars = []) (hfn : ∀ ds : List (DataW K), ds.length = f.params.size → s.fn K ds = { results := [.lit (.bool true)], args := ds })
  (hres : f.resultTypes = #[b]) (hb : P.underlying b = some .bool) (hl : laidOutB P = true) (hp : parOk P f.params.toList = true) (hs : shsOf P n f.params.toList = some ss)
  (hlaw : ∀ (H : Hp) (xs : List AV), NoOwn H → RdAs N H ss xs → ∃ H1, CallSim P fi xs H (.bool true) H1)
  (hval : ∀ (j : Nat) t v, f.params[j]? = some t → args[j]? = some v → Value.okWide P W .any base t v)
  (hW : DataW.Whole enc P f.params.toList s.vars apart W args.toList ds gs before) (hbk : dBulkAll ds ≤ N) (hG : GlbOk (Kp.args W) W) :
  Calls P fi args W fun e W' => ∃ v, e = .returned v ∧ s.post enc P f apart fresh handsOn again W args v W' := by
 have hW' := hW
 obtain ⟨p, q, hA, _⟩ := hW
 obtain ⟨m, H, xs, _, _, hi, hr, hd⟩ := args_read hs (fun j t v a b => hval j t v (by simpa using a) (by simpa using b)) hA hbk (fun _ => ⟨0, 0, 0⟩) H0 (.empty W _ hG)
 obtain ⟨H1, hle, hc⟩ := hlaw H xs hi.own hd
 refine (hc _ _ _ _ _ hr hi.inv).mono fun e W' ⟨v', m', he, _, hv, hi'⟩ => ?_
 subst he
 rw [hv.bool_inv]
 exact ⟨_, rfl, law_post hvars hfn hres hb hl hp hW' hi'.below.below⟩

theorem bulk_append {H : Type} (l r : List (DataW H)) : dBulkAll (l ++ r) = dBulkAll l + dBulkAll r := by
 induction l with
 | nil => simp [dBulkAll]
 | cons x l ih => simp only [List.cons_append, dBulkAll, ih]; omega
end Go.Lt.B

namespace Go.Lt
open Go.RowKit
/-! ### strings and bytes -/
def bytesAV (s : ByteArray) : List AV := s.data.toList.map fun b => .int .u8 (b.toNat : Int)
theorem bytesAV_len (s : ByteArray) : (bytesAV s).length = s.size := by unfold bytesAV; rw [List.length_map, Array.length_toList]; rfl
section
variable {P : Program} {F : Fr} {H : Hp} {d : Option Tmp} {ty : TypeId} {pos : String} {af : Array Edge} {g : Option (Nat × Bool)}
end
end Go.Lt

namespace Go.Lt
open Go.RowKit
def strEq (a b : ByteArray) : Bool := a.data.toList == b.data.toList
theorem strEq_eq (a b : ByteArray) : strEq a b = (a.toList == b.toList) := by unfold strEq; rw [ByteArray.toList_eq, ByteArray.toList_eq]
section
variable {P : Program} {F : Fr} {H : Hp} {d : Option Tmp} {ty : TypeId} {pos : String} {af : Array Edge} {g : Option (Nat × Bool)}
theorem s_strOp {op : BinOp} {t yt : TypeId} {x y : Operand} {a b : ByteArray} {r : AV} (hi : aeval F x = .str a) (hj : aeval F y = .str b)
  (h : ∃ v', (∀ m n, RV m n r v') ∧ ∀ w, (binOp op t (.string a) (.string b)).run P w = .ok v' w) :
  Step1 P ⟨d, .binOp op t x y yt, ty, pos, af, g⟩ F H r H :=
 .pure fun m ac hx => by
  have h1 := hx x (by simp [Op.operands]); rw [hi] at h1
  have h2 := hx y (by simp [Op.operands]); rw [hj] at h2
  obtain ⟨v', hv, hr⟩ := h
  refine ⟨v', hv _ _, fun w => ?_⟩
  have e : (execOp ac.eval ⟨d, .binOp op t x y yt, ty, pos, af, g⟩).run P w = ((binOp op t (.string a) (.string b)).run P w).andThen fun v w' => .ok (.value v) w' := by
   simp only [execOp, h1.str_inv, h2.str_inv]
   cases op <;> simp [eqGuard]
  rw [e, hr]
  rfl
section
variable {t yt : TypeId} {x y : Operand} {a b : ByteArray} (hi : aeval F x = .str a) (hj : aeval F y = .str b)
include hi hj
theorem s_eqStr : Step1 P ⟨d, .binOp .eql t x y yt, ty, pos, af, g⟩ F H (.bool (strEq a b)) H :=
 s_strOp hi hj ⟨_, fun _ _ => .bool _, fun w => by simp [binOp, Op.stringOp, strEq_eq]⟩
theorem s_neStr : Step1 P ⟨d, .binOp .neq t x y yt, ty, pos, af, g⟩ F H (.bool (!strEq a b)) H :=
 s_strOp hi hj ⟨_, fun _ _ => .bool _, fun w => by simp [binOp, Op.stringOp, strEq_eq]⟩
theorem s_addStr (hs : a.size + b.size ≤ 9223372036854775807) : Step1 P ⟨d, .binOp .add t x y yt, ty, pos, af, g⟩ F H (.str (a ++ b)) H :=
 s_strOp hi hj ⟨_, fun _ _ => .str _, fun w => by
  have : ¬ ((a.size + b.size : Nat) : Int) > IntKind.i64.max := by simp [IntKind.max, IntKind.signed, IntKind.bits]; omega
  simp only [binOp, Op.stringOp]
  rw [if_neg this]
  rfl⟩
end
theorem s_strBytes {src dst e : TypeId} {u : TypeDesc} {x : Operand} {s : ByteArray} (hs : P.underlying src = some u) (hd : P.underlying dst = some (.slice e)) (he : P.underlying e = some (.int .u8)) (hx' : aeval F x = .str s) :
  Step1 P ⟨d, .convert src dst x, ty, pos, af, g⟩ F H (.sl ⟨false, H.n, 0, s.size, s.size, 1⟩) (H.push (.cells (bytesAV s) false)) :=
 .of_run (by simp) fun B w0 m a w hx hi => by
  have h1 := hx x (by simp [Op.operands]); rw [hx'] at h1
  have hnc : s.size ≤ grownCap w s.size 0 e := by simp [grownCap, Question.cut]
  have hsz : (Lib.bytesCells w e s).size = grownCap w s.size 0 e := by
   simp [Lib.bytesCells]
   have : s.data.size = s.size := rfl
   omega
  have hheap : (Lib.bytesWorld w e s).heap = w.heap.push (.cells (Lib.bytesCells w e s) e ((Lib.bytesCells w e s).size, (Lib.bytesCells w e s).size + 1)) := by
   have hz := Lib.bytesWorld_size w e s
   refine Array.ext_getElem? fun i => ?_
   rcases Nat.lt_trichotomy i w.heap.size with h | h | h
   ·rw [Lib.bytesWorld_at_old w e s i h, Array.getElem?_push, if_neg (by omega)]
   ·subst h; rw [Lib.bytesWorld_at_new, Array.getElem?_push, if_pos rfl]
   ·rw [Array.getElem?_eq_none (by omega), Array.getElem?_eq_none (by simp; omega)]
  have hw : Lib.bytesWorld w e s = w.drew.alloc (.cells (Lib.bytesCells w e s) e ((Lib.bytesCells w e s).size, (Lib.bytesCells w e s).size + 1)) := by
   have key : ∀ (a b : World), a.heap = b.heap → a.tape = b.tape → a.drawn = b.drawn → a.os = b.os → a.output = b.output → a = b := by
    rintro ⟨_, _, _, _, _⟩ ⟨_, _, _, _, _⟩ h1 h2 h3 h4 h5
    simp only at h1 h2 h3 h4 h5
    subst h1; subst h2; subst h3; subst h4; subst h5
    rfl
   exact key _ _ hheap rfl rfl rfl rfl
  refine ⟨.slice (some ⟨w.heap.size, 0, none⟩) s.size (grownCap w s.size 0 e), Lib.bytesWorld w e s, newLoc H m ⟨w.heap.size, 0, grownCap w s.size 0 e⟩, by simp [execOp, h1.str_inv, Lib.run_convert_string_bytes w src dst e s hs hd he], newLoc_ext _ _ _, ?_, ?_⟩
  ·have := RV.sl_mk (m := newLoc H m ⟨w.heap.size, 0, grownCap w s.size 0 e⟩) (n := H.n + 1) (s := ⟨false, H.n, 0, s.size, s.size, 1⟩) (cap' := grownCap w s.size 0 e) rfl (by simp) (Nat.le_refl _) hnc
    (fun h => absurd h (show ¬ (1 : Nat) = 0 by decide)) (fun p hp => by
     have hp : 1 = p + 1 := hp
     have h0 : p = 0 := by omega
     subst h0
     rw [newLoc_new]
     simp)
   rw [newLoc_new] at this
   exact this
  ·rw [hw]
   refine hi.drew.push _ (.cells (bytesAV s) false) ⟨w.heap.size, 0, grownCap w s.size 0 e⟩ rfl ?_
   unfold BlkRel
   rw [newLoc_new]
   refine ⟨Lib.bytesCells w e s, e, _, by show (w.heap.push _)[w.heap.size]? = _; rw [Array.getElem?_push, if_pos rfl], hsz, by rw [bytesAV_len, hsz]; simp only; omega, fun i h => ?_, fun _ => ⟨fun i h1 h2 => by simp at h2; omega, hi.fresh (Nat.le_refl _)⟩⟩
   have hi' : i < s.size := by simpa [bytesAV_len] using h
   refine ⟨.int .u8 ((s.data[i]'hi').toNat : Int), ?_, ?_⟩
   ·show (Lib.bytesCells w e s)[0 + i]? = _
    rw [Nat.zero_add]
    unfold Lib.bytesCells
    rw [Array.getElem?_append_left (by simpa using hi'), Array.getElem?_map, Array.getElem?_eq_getElem hi']
    rfl
   ·simp only [bytesAV, List.getElem_map, Array.getElem_toList]
    exact .int _ _
end
end Go.Lt

namespace Go.Lt
open Go.RowKit
/-! ### functions without a body, pointers and nil, ranges over strings -/
structure ExtOk (P : Program) (f : FuncId) (e : Array Value → Sem Value) : Prop where
 ex : ∃ fn : Func, P.funcs[f]? = some fn ∧ (fn.name == "runtime.NumGoroutine") = false ∧ fn.body.isNone = true ∧ Extern.findNext fn = none ∧ Extern.find fn = some e
def strIdx (s : ByteArray) (c : Int) : Int := match (List.range s.size).find? fun i => s[i]! == c.toNat.toUInt8 with | some i => (i : Int) | none => -1
def strCnt (s : ByteArray) (c : Int) : Int := s.foldl (fun n x => if x == c.toNat.toUInt8 then n + 1 else n) ((0 : Nat) : Int)
section
variable {P : Program} {F : Fr} {H : Hp} {d : Option Tmp} {ty : TypeId} {pos : String} {af : Array Edge} {g : Option (Nat × Bool)} {ats : Array TypeId}
theorem s_ext {xs : Array Operand} {f : FuncId} {e : Array Value → Sem Value} {args : List AV} {v : AV} (ha : xs.toList.map (aeval F) = args) (hf : ExtOk P f e)
  (h : ∀ m n (vs : Array Value), RVs m n args vs.toList → ∃ v', RV m n v v' ∧ ∀ w, (e vs).run P w = .ok v' w) :
  Step1 P ⟨d, .call ⟨.value (.func f), xs, ats⟩, ty, pos, af, g⟩ F H v H :=
 .pure fun m a hop => by
  obtain ⟨fn, hf, hn, hb, hfn, he⟩ := hf.ex
  have hargs : RVs m H.n args (xs.map a.eval).toList := by
   subst ha
   refine ⟨by simp, fun i h1 h2 => ?_⟩
   simp only [List.getElem_map, Array.toList_map]
   exact hop _ (by
    have h3 : i < xs.size := by simpa using h1
    simp [Op.operands, Call.operands])
  obtain ⟨v', hv, hr⟩ := h _ _ _ hargs
  refine ⟨v', hv, fun w => ?_⟩
  have e1 : a.eval (.func f) = .func (.func f) #[] #[] := rfl
  simp only [execOp, resolve, e1, Deferred.ofValue, Sem.run_bind, Sem.run_pure, Result.andThen_ok, invoke]
  rw [run_callFunc_extern hf hn hb hfn he]
  simp [hr]
theorem s_idxByte {xs : Array Operand} {f : FuncId} {s : ByteArray} {c : Int} (ha : xs.toList.map (aeval F) = [.str s, .int .u8 c]) (hf : ExtOk P f Extern.BytealgIndexByte.indexByte) :
  Step1 P ⟨d, .call ⟨.value (.func f), xs, ats⟩, ty, pos, af, g⟩ F H (.int .i64 (strIdx s c)) H :=
 s_ext ha hf fun m n vs hr => by
  obtain ⟨v1, r1, e1, h1, hr1⟩ := hr.cons_inv
  obtain ⟨v2, r2, e2, h2, hr2⟩ := hr1.cons_inv
  have e0 := hr2.nil_inv
  rw [e2, e0] at e1
  have hvs : vs = #[.string s, .int .u8 c] := by
   rw [← Array.toList_inj, e1, h1.str_inv, h2.int_inv]
  subst hvs
  refine ⟨.int .i64 (strIdx s c), .int _ _, fun w => ?_⟩
  have e5 : Extern.BytealgIndexByte.indexByte #[.string s, .int .u8 c] = (do
   let b ← Extern.Bytes.bytesOf (.string s)
   let c ← Extern.Bytes.asByte (.int .u8 c)
   match (List.range b.size).find? fun i => b[i]! == c with
   | some i => Pure.pure (goInt i)
   | none => Pure.pure (goInt (-1))) := rfl
  rw [e5]
  unfold strIdx
  simp only [Extern.Bytes.bytesOf, Extern.Bytes.asByte, Sem.run_bind, Sem.run_pure, Result.andThen_ok]
  split <;> simp_all [goInt]
theorem s_cntByte {xs : Array Operand} {f : FuncId} {s : ByteArray} {c : Int} (ha : xs.toList.map (aeval F) = [.str s, .int .u8 c]) (hf : ExtOk P f Extern.BytealgCount.count) :
  Step1 P ⟨d, .call ⟨.value (.func f), xs, ats⟩, ty, pos, af, g⟩ F H (.int .i64 (strCnt s c)) H :=
 s_ext ha hf fun m n vs hr => by
  obtain ⟨v1, r1, e1, h1, hr1⟩ := hr.cons_inv
  obtain ⟨v2, r2, e2, h2, hr2⟩ := hr1.cons_inv
  have e0 := hr2.nil_inv
  rw [e2, e0] at e1
  have hvs : vs = #[.string s, .int .u8 c] := by
   rw [← Array.toList_inj, e1, h1.str_inv, h2.int_inv]
  subst hvs
  refine ⟨.int .i64 (strCnt s c), .int _ _, fun w => ?_⟩
  have e5 : Extern.BytealgCount.count #[.string s, .int .u8 c] = (do
   let b ← Extern.Bytes.bytesOf (.string s)
   let c ← Extern.Bytes.asByte (.int .u8 c)
   Pure.pure (goInt (b.foldl (fun n x => if x == c then n + 1 else n) (0 : Nat)))) := rfl
  rw [e5]
  unfold strCnt
  simp only [Extern.Bytes.bytesOf, Extern.Bytes.asByte, Sem.run_bind, Sem.run_pure, Result.andThen_ok, goInt]
theorem nilptr_inv {m : Nat → Loc} {n : Nat} {v : Value} (h : RV m n .nilptr v) : v = .pointer none := by cases h; rfl
theorem eqPN_run {t e : TypeId} (hu : P.underlying t = some (.pointer e)) (a : Addr) (w : World) : (Op.equal t (.pointer (some a)) (.pointer none)).run P w = .ok false w := by
 show (Op.equalIn (9999 + 1) t _ _).run P w = _
 rw [Op.equalIn]; simp [run_und hu]
theorem binOp_ptr {op : BinOp} {t yt : TypeId} {x y : Operand} {a : Act} {p q : Option Addr} (hop : op = .eql ∨ op = .neq) (hi : a.eval x = .pointer p) (hj : a.eval y = .pointer q) (w : World) :
  (execOp a.eval ⟨d, .binOp op t x y yt, ty, pos, af, g⟩).run P w = ((binOp op t (.pointer p) (.pointer q)).run P w).andThen fun v w' => .ok (.value v) w' := by
 simp only [execOp, hi, hj]
 rcases hop with rfl | rfl <;> simp [eqGuard]
theorem s_eqPN {t e yt : TypeId} {x y : Operand} {b o : Nat} (hu : P.underlying t = some (.pointer e)) (hx' : aeval F x = .ptr b o) (hy' : aeval F y = .nilptr) : Step1 P ⟨d, .binOp .eql t x y yt, ty, pos, af, g⟩ F H (.bool false) H :=
 .pure fun m a hx => by
  have h1 := hx x (by simp [Op.operands]); rw [hx'] at h1
  have h2 := hx y (by simp [Op.operands]); rw [hy'] at h2
  obtain ⟨_, e1⟩ := h1.ptr_inv
  have e2 := nilptr_inv h2
  refine ⟨.bool false, .bool _, fun w => ?_⟩
  rw [binOp_ptr (.inl rfl) e1 e2]
  have e3 : binOp .eql t (.pointer (some ⟨(m b).blk, (m b).sh + o, none⟩)) (.pointer none) = (do Pure.pure (.bool (← Op.equal t (.pointer (some ⟨(m b).blk, (m b).sh + o, none⟩)) (.pointer none)))) := rfl
  rw [e3, Sem.run_bind, eqPN_run hu]
  rfl
def AV.ifc : AV → Option Bool
 | .niliface => some false
 | .iface _ _ => some true
 | _ => none
theorem ifc_run {t : TypeId} {ms : Array (String × TypeId)} (hu : P.underlying t = some (.interface ms)) {v : AV} {b : Bool} (hv : v.ifc = some b) {m : Nat → Loc} {n : Nat} {x : Value} (h : RV m n v x) (w : World) :
  ((x = .nilIface ∧ b = false) ∨ ∃ tx vx, x = .iface tx vx ∧ b = true) ∧ (Op.equal t x .nilIface).run P w = .ok (!b) w := by
 have key : (x = .nilIface ∧ b = false) ∨ ∃ tx vx, x = .iface tx vx ∧ b = true := by
  cases h <;> simp [AV.ifc] at hv
  ·exact .inr ⟨_, _, rfl, hv⟩
  ·exact .inl ⟨rfl, hv⟩
 refine ⟨key, ?_⟩
 show (Op.equalIn (9999 + 1) t _ _).run P w = _
 rw [Op.equalIn]
 rcases key with ⟨rfl, rfl⟩ | ⟨tx, vx, rfl, rfl⟩ <;> simp [run_und hu]
theorem s_eqIfN {t yt : TypeId} {x y : Operand} {ms : Array (String × TypeId)} {v : AV} {b : Bool} (hu : P.underlying t = some (.interface ms)) (hx' : aeval F x = v) (hy : y = .const .nilIface) (hk : True) (hv : v.ifc = some b) : Step1 P ⟨d, .binOp .eql t x y yt, ty, pos, af, g⟩ F H (.bool !b) H :=
 .pure fun m a hx => by
  have h1 := hx x (by simp [Op.operands]); rw [hx'] at h1
  subst hy
  refine ⟨.bool !b, .bool _, fun w => ?_⟩
  obtain ⟨hk, hr⟩ := ifc_run (t := t) hu hv h1 w
  have e : a.eval (.const .nilIface) = .nilIface := rfl
  have hg : (eqGuard .eql t x (.const .nilIface) (a.eval x) .nilIface).run P w = .ok () w := by
   rcases hk with ⟨e1, _⟩ | ⟨tx, vx, e1, _⟩ <;> rw [e1] <;> simp [eqGuard]
  have hb : (binOp .eql t (a.eval x) .nilIface).run P w = .ok (.bool !b) w := by
   have e3 : binOp .eql t (a.eval x) .nilIface = (do Pure.pure (.bool (← Op.equal t (a.eval x) .nilIface))) := by
    rcases hk with ⟨e1, _⟩ | ⟨tx, vx, e1, _⟩ <;> rw [e1] <;> rfl
   rw [e3, Sem.run_bind, hr]
   rfl
  simp only [execOp, e, Sem.run_bind, hg, Result.andThen_ok, hb]
  rfl
theorem s_neIfN {t yt : TypeId} {x y : Operand} {ms : Array (String × TypeId)} {v : AV} {b : Bool} (hu : P.underlying t = some (.interface ms)) (hx' : aeval F x = v) (hy : y = .const .nilIface) (hk : True) (hv : v.ifc = some b) : Step1 P ⟨d, .binOp .neq t x y yt, ty, pos, af, g⟩ F H (.bool b) H :=
 .pure fun m a hx => by
  have h1 := hx x (by simp [Op.operands]); rw [hx'] at h1
  subst hy
  refine ⟨.bool b, .bool _, fun w => ?_⟩
  obtain ⟨hk, hr⟩ := ifc_run (t := t) hu hv h1 w
  have e : a.eval (.const .nilIface) = .nilIface := rfl
  have hg : (eqGuard .neq t x (.const .nilIface) (a.eval x) .nilIface).run P w = .ok () w := by
   rcases hk with ⟨e1, _⟩ | ⟨tx, vx, e1, _⟩ <;> rw [e1] <;> simp [eqGuard]
  have hb : (binOp .neq t (a.eval x) .nilIface).run P w = .ok (.bool b) w := by
   have e3 : binOp .neq t (a.eval x) .nilIface = (do Pure.pure (.bool (!(← Op.equal t (a.eval x) .nilIface)))) := by
    rcases hk with ⟨e1, _⟩ | ⟨tx, vx, e1, _⟩ <;> rw [e1] <;> rfl
   rw [e3, Sem.run_bind, hr]
   simp
  simp only [execOp, e, Sem.run_bind, hg, Result.andThen_ok, hb]
  rfl
theorem s_rangeStr {t : TypeId} {x : Operand} {s : ByteArray} (hu : P.underlying t = some .string) (hx' : aeval F x = .str s) :
  Step1 P ⟨d, .range t x, ty, pos, af, g⟩ F H (.ptr H.n 0) (H.push (.iter s 0)) :=
 .of_run (by simp) fun B w0 m a w hx hi => by
  have h1 := hx x (by simp [Op.operands]); rw [hx'] at h1
  refine ⟨.pointer (some ⟨w.heap.size, 0, none⟩), w.alloc (.stringIter s 0), newLoc H m ⟨w.heap.size, 0, 0⟩, ?_, newLoc_ext _ _ _, ?_, ?_⟩
  ·simp [execOp, h1.str_inv, Instr.range, run_und hu, run_newObj]
  ·have := RV.ptr (m := newLoc H m ⟨w.heap.size, 0, 0⟩) (n := (H.push (.iter s 0)).n) H.n 0 (by simp)
   rw [newLoc_new] at this
   exact this
  ·refine hi.push _ (.iter s 0) ⟨w.heap.size, 0, 0⟩ rfl ?_
   unfold BlkRel
   rw [newLoc_new]
   exact ⟨by show (w.heap.push _)[w.heap.size]? = _; rw [Array.getElem?_push, if_pos rfl], hi.fresh (Nat.le_refl _), rfl⟩
def nextAV : Option (Int × Int) → AV
 | some p => .tup [.bool true, .int .i64 p.1, .int .i32 p.2]
 | none => .tup [.bool false]
def Hp.nxt (H : Hp) (b : Nat) : Option (Option (Int × Int) × Hp) :=
 match H.get b with
 | some (.iter s p) => if p < s.size then some (some ((p : Int), (Utf8.decode s p).1), H.set b (.iter s (p + (Utf8.decode s p).2))) else some (none, H)
 | _ => none
theorem s_nextStr {x : Operand} {b : Nat} {t2 : Bool} {r : Option (Int × Int) × Hp} (ht : t2 = true) (hx' : aeval F x = .ptr b 0) (hn : H.nxt b = some r) :
  Step1 P ⟨d, .next x t2, ty, pos, af, g⟩ F H (nextAV r.1) r.2 :=
 .of_run (by
  unfold Hp.nxt at hn
  split at hn
  ·split at hn <;> (injection hn with hn; subst hn; simp)
  ·cases hn) fun B w0 m a w hx hi => by
  subst ht
  have h1 := hx x (by simp [Op.operands]); rw [hx'] at h1
  obtain ⟨hb, e1⟩ := h1.ptr_inv
  unfold Hp.nxt at hn
  split at hn
  ·rename_i s p hg
   obtain ⟨hh, hB, hs0⟩ := hi.rel b _ hg
   have hob : (getObj (m b).blk).run P w = .ok (.stringIter s p) w := by simp [getObj, Sem.run, hh]
   have hlt : (m b).blk < w.heap.size := (Array.getElem?_eq_some_iff.1 hh).1
   have e2 : a.eval x = .pointer (some ⟨(m b).blk, 0, none⟩) := by rw [e1, hs0]
   split at hn
   ·rename_i hp
    injection hn with hn
    subst hn
    refine ⟨.tuple #[.bool true, .int .i64 p, .int .i32 (Utf8.decode s p).1], w.putObj (m b).blk (.stringIter s (p + (Utf8.decode s p).2)), m, ?_, .refl _ _, ?_, ?_⟩
    ·simp only [execOp, e2, Instr.next, Sem.run_bind, hob, Result.andThen_ok, hp, if_true]
     have hset : (setObj (m b).blk (.stringIter s (p + (Utf8.decode s p).2))).run P w = .ok () (w.putObj (m b).blk (.stringIter s (p + (Utf8.decode s p).2))) := by simp [setObj, Sem.run, hh, World.putObj]
     simp [hset, goInt]
    ·simp only [Hp.n_set]
     exact .tup _ _ rfl fun i h1 h2 => by
      match i, h1 with
      | 0, _ => exact .bool _
      | 1, _ => exact .int _ _
      | 2, _ => exact .int _ _
    ·refine hi.putObj hg rfl rfl hB ?_
     unfold BlkRel
     exact ⟨by simp [World.putObj, hlt], hB, hs0⟩
   ·rename_i hp
    injection hn with hn
    subst hn
    refine ⟨.tuple #[.bool false], w, m, ?_, .refl _ _, ?_, hi⟩
    ·simp only [execOp, e2, Instr.next, Sem.run_bind, hob, Result.andThen_ok, if_neg hp, Sem.run_pure]
    ·exact .tup _ _ rfl fun i h1 h2 => by
      match i, h1 with
      | 0, _ => exact .bool _
  ·cases hn
theorem s_next0 {x : Operand} {o : Option (Int × Int)} (hx' : aeval F x = nextAV o) : Step1 P ⟨d, .extract x 0, ty, pos, af, g⟩ F H (.bool o.isSome) H := by
 cases o with
 | none => exact s_extract (xs := [.bool false]) hx' rfl
 | some p => exact s_extract (xs := [.bool true, .int .i64 p.1, .int .i32 p.2]) hx' rfl
theorem s_next2 {x : Operand} {o : Option (Int × Int)} {p : Int × Int} (hx' : aeval F x = nextAV o) (ho : o = some p) : Step1 P ⟨d, .extract x 2, ty, pos, af, g⟩ F H (.int .i32 p.2) H := by
 subst ho
 exact s_extract (xs := [.bool true, .int .i64 p.1, .int .i32 p.2]) hx' rfl
end
end Go.Lt

namespace Go.Lt
open Go.RowKit
section
variable {P : Program} {F : Fr} {H : Hp} {d : Option Tmp} {ty : TypeId} {pos : String} {af : Array Edge} {g : Option (Nat × Bool)}
theorem s_allocB {t : TypeId} {s b : Nat} (hB : t = bldT) (ht : TyIs P t s b (.agg #[.pointer none, .slice none 0 0])) :
  Step1 P ⟨d, .alloc t, ty, pos, af, g⟩ F H (.ptr H.n 0) (H.push (.bld none 0)) :=
 .of_run (by simp) fun B w0 m a w hx hi => by
  subst hB
  refine ⟨.pointer (some ⟨w.heap.size, 0, none⟩), w.alloc (.cells #[.pointer none, .slice none 0 0] bldT), newLoc H m ⟨w.heap.size, 0, 2⟩, ?_, newLoc_ext _ _ _, ?_, ?_⟩
  ·simp only [execOp, Instr.alloc, Sem.run_bind, run_zero ht, Result.andThen_ok, newVar]
   simp only [Go.newRow, Sem.run_bind, run_newObj, Result.andThen_ok, Sem.run_pure, Value.cells]
   rfl
  ·have := RV.ptr (m := newLoc H m ⟨w.heap.size, 0, 2⟩) (n := (H.push (.bld none 0)).n) H.n 0 (by simp)
   rw [newLoc_new] at this
   exact this
  ·refine hi.push _ (.bld none 0) ⟨w.heap.size, 0, 2⟩ rfl ?_
   unfold BlkRel
   rw [newLoc_new]
   exact ⟨_, _, by show (w.heap.push _)[w.heap.size]? = _; rw [Array.getElem?_push, if_pos rfl], rfl, hi.fresh (Nat.le_refl _), .inl rfl, .inl ⟨rfl, rfl, rfl⟩⟩
theorem append_mk0 {st e it : TypeId} {es by' : Nat} {z : Value} {k : IntKind} {ats : Array TypeId} (h0 : ats[0]? = some st) (h1 : ats[1]? = some it) (hu : P.underlying st = some (.slice e)) (hiu : P.underlying it = some (.int k))
  (ht : TyIs P e es by' z) (hes : 0 < es) (hby : by' ≤ 4096) {w : World} {n : Int} (hn : 1 ≤ n ∧ n ≤ 1048576) :
  ∃ nc, n.toNat ≤ nc ∧ (Builtin.append_ ats ty #[.slice none 0 0, .int .i64 n]).run P w =
   .ok (.slice (some ⟨w.heap.size, 0, none⟩) n.toNat nc) (w.drew.alloc (.cells (Builtin.zeroCells z.cells n.toNat ++ Builtin.zeroCells z.cells (nc - n.toNat)) e)) := by
 refine ⟨(Question.appendCap (0 + n.toNat) 0 e).cut (w.tape w.drawn (.appendCap (0 + n.toNat) 0 e)), by simp [Question.cut], ?_⟩
 obtain ⟨i, hinfo, hi1, hi2, hi3⟩ := run_info (w := w) ht
 obtain ⟨i', hinfo', _, hi2', _⟩ := run_info (w := w.drew) ht
 have wn : IntKind.i64.wrap n = n := by simp [IntKind.wrap, IntKind.bits, IntKind.signed]; omega
 have hbig : n * (by' : Int) ≤ 2 ^ 48 := by
  have : n * (by' : Int) ≤ 1048576 * 4096 := Int.mul_le_mul hn.2 (by omega) (by omega) (by omega)
  omega
 have hcap : Builtin.nextslicecap (0 + n.toNat) 0 * by' ≤ 2 ^ 48 := by
  have h2 : Builtin.nextslicecap (0 + n.toNat) 0 ≤ 2 * 4294967296 + 1000 := Nat.le_trans (nextcap_le (by omega)) (by omega)
  exact Nat.le_trans (Nat.mul_le_mul h2 hby) (by omega)
 have hnz : ¬ n.toNat * es = 0 := by
  intro h
  rcases Nat.mul_eq_zero.1 h with h | h <;> omega
 unfold Builtin.append_
 simp only [h0, h1, Sem.run_bind, run_und hu, run_size ht, run_und hiu, Result.andThen_ok, Sem.run_pure, List.getElem?_toArray, List.getElem?_cons_zero, List.getElem?_cons_succ]
 simp only [if_true, Sem.run_bind, asInt, asIntOf, Sem.run_pure, Result.andThen_ok, wn]
 rw [if_neg (by omega)]
 simp only [Sem.run_bind, hinfo, Result.andThen_ok, hi2]
 rw [if_neg (by simpa using hbig)]
 simp only [Sem.run_bind, Sem.run_pure, Result.andThen_ok]
 rw [if_neg (by omega)]
 simp only [Sem.run_bind, hinfo, Result.andThen_ok, hi2]
 rw [if_neg (by simp [IntKind.max, IntKind.signed, IntKind.bits]; omega)]
 simp only [Sem.run_bind, hinfo, Result.andThen_ok, hi2]
 rw [if_neg (by simpa using hcap)]
 simp only [Sem.run_bind, run_choose, Question.forced, Bool.false_eq_true, if_false, Result.andThen_ok, World.drew_eq, hinfo', run_askRoom, Builtin.firstCells, Bool.not_true, if_neg hnz, run_zero ht, Sem.run_pure]
 simp only [Go.newRow, Sem.run_bind, run_newObj, Result.andThen_ok, Sem.run_pure, Array.empty_append, Nat.zero_add]
 rfl
theorem s_appendMk0 {st e it : TypeId} {es by' : Nat} {z : Value} {k : IntKind} {ats : Array TypeId} {xs : Array Operand} {x y : Operand} {n : Int} {s : Sl} (hxs : xs = #[x, y]) (h0 : ats[0]? = some st) (h1 : ats[1]? = some it) (hu : P.underlying st = some (.slice e)) (hiu : P.underlying it = some (.int k))
  (ht : TyIs P e es by' z) (hz : (ofVal z).isU = false) (hzl : (ofVal z).cellsA.length = es) (hes : 0 < es) (hby : by' ≤ 4096) (hx' : aeval F x = .sl s) (hy' : aeval F y = .int .i64 n) (hs : s = ⟨true, 0, 0, 0, 0, 0⟩) (hn : 1 ≤ n ∧ n ≤ 1048576) :
  Step1 P ⟨d, .call ⟨.builtin .append, xs, ats⟩, ty, pos, af, g⟩ F H (.sl ⟨false, H.n, 0, n.toNat, n.toNat, es⟩) (H.push (.cells (zerosA (ofVal z).cellsA (n.toNat * es)) false)) :=
 .of_run (by simp) fun B w0 m a w hx hi => by
  subst hxs; subst hs
  have h2 := hx x (by simp [Op.operands, Call.operands]); rw [hx'] at h2
  have h3 := hx y (by simp [Op.operands, Call.operands]); rw [hy'] at h3
  have h3 := h3.int_inv
  have h2 : a.eval x = .slice none 0 0 := by
   rcases h2.sl_inv with ⟨_, e⟩ | ⟨_, hn, _⟩ | ⟨_, hn, _⟩
   ·exact e
   ·cases hn
   ·cases hn
  obtain ⟨nc, hnc, hr⟩ := append_mk0 (ty := ty) h0 h1 hu hiu ht hes hby (w := w) hn
  have hzs : z.cells.size = es := by
   have := (cells_rel (RV.ofVal m H.n z) (AV.ne_undef hz)).1
   simp at this; omega
  have hsz : (Builtin.zeroCells z.cells n.toNat ++ Builtin.zeroCells z.cells (nc - n.toNat)).size = nc * es := by
   simp only [Array.size_append, zeroCells_size, hzs]
   rw [← Nat.add_mul]; congr 1; omega
  have hrel : RVs m H.n (zerosA (ofVal z).cellsA (n.toNat * es) ++ List.replicate ((nc - n.toNat) * es) .undef) (Builtin.zeroCells z.cells n.toNat ++ Builtin.zeroCells z.cells (nc - n.toNat)).toList := by
   simp only [Array.toList_append]
   refine RVs.append ?_ ⟨by simp [zeroCells_size, hzs], fun i h1 h2 => ?_⟩
   ·have := zeros_rel (m := m) (n := H.n) hz (by omega) (n.toNat * es)
    unfold Builtin.zeroCells
    rw [hzs] at this ⊢
    exact this
   ·simp only [List.getElem_replicate]
    exact .undef _
  have hinv := hi.drew.pushCells e hrel (zerosA (ofVal z).cellsA (n.toNat * es)) (by simp)
  rw [hsz] at hinv
  have hwn : w.drew.heap.size = w.heap.size := rfl
  rw [hwn] at hinv
  refine ⟨.slice (some ⟨w.heap.size, 0, none⟩) n.toNat nc, w.drew.alloc (.cells (Builtin.zeroCells z.cells n.toNat ++ Builtin.zeroCells z.cells (nc - n.toNat)) e), newLoc H m ⟨w.heap.size, 0, nc * es⟩, by simp [execOp, resolve, invoke, builtin, h2, h3, hr], newLoc_ext _ _ _, ?_, hinv⟩
  have := RV.sl_mk (m := newLoc H m ⟨w.heap.size, 0, nc * es⟩) (n := H.n + 1) (s := ⟨false, H.n, 0, n.toNat, n.toNat, es⟩) (cap' := nc) rfl (by simp) (Nat.le_refl _) hnc
   (fun h => by simp only at h; omega) (fun p hp => by simp only at hp; rw [newLoc_new]; simp only; rw [← hp]; omega)
  rw [newLoc_new] at this
  exact this
end
end Go.Lt

namespace Go.Lt
open Go.RowKit
/-! ### bytes as a string -/
section
variable {P : Program} {F : Fr} {H : Hp} {d : Option Tmp} {ty : TypeId} {pos : String} {af : Array Edge} {g : Option (Nat × Bool)}
end
end Go.Lt


namespace Go.Lt.B
open Go.Lt Go.RowKit
variable {N : Nat}
/-! ### arguments of a bounded bulk that hold strings -/
def EncP (N : Nat) (s : Sh) (T : Type) [El T] (p : T → Prop) : Prop := s.cells = El.sz T ∧ ∀ H xs, Rd N H s xs → ∃ x : T, xs = El.enc x ∧ p x
theorem encP_int : EncP N (.int .i64) Int (fun _ => True) := ⟨rfl, fun H xs ⟨n, h, _⟩ => ⟨n, h, trivial⟩⟩
theorem encP_str : EncP N .str ByteArray (fun s => s.size ≤ N) := ⟨rfl, fun H xs ⟨s, h, hs⟩ => ⟨s, h, hs⟩⟩
theorem encP_pair {a b : Sh} {A B : Type} [El A] [El B] {p : A → Prop} {q : B → Prop} (ha : EncP N a A p) (hb : EncP N b B q) : EncP N (.pair a b) (A × B) (fun x => p x.1 ∧ q x.2) :=
 ⟨by simp only [Sh.cells, ha.1, hb.1]; rfl, fun H xs ⟨ys, zs, e, h1, h2⟩ => by
  obtain ⟨x, rfl, hx⟩ := ha.2 H ys h1
  obtain ⟨y, rfl, hy⟩ := hb.2 H zs h2
  exact ⟨(x, y), e, hx, hy⟩⟩
theorem encP_unit {a : Sh} {A : Type} [El A] {p : A → Prop} (ha : EncP N a A p) : EncP N (.pair a .unit) A p :=
 ⟨by simp only [Sh.cells, ha.1]; rfl, fun H xs ⟨ys, zs, e, h1, h2⟩ => by
  obtain ⟨x, rfl, hx⟩ := ha.2 H ys h1
  have h2 : zs = [] := h2
  subst h2
  exact ⟨x, by rw [e, List.append_nil], hx⟩⟩
theorem encP_flat {T : Type} [El T] {p : T → Prop} {s : Sh} (hs : EncP N s T p) {H : Hp} : ∀ (l : List (List AV)), (∀ y ∈ l, Rd N H s y) → ∃ r : List T, l.flatten = encs r ∧ r.length = l.length ∧ ∀ x ∈ r, p x := by
 intro l
 induction l with
 | nil => intro _; exact ⟨[], rfl, rfl, by simp⟩
 | cons y l ih =>
  intro h
  obtain ⟨r, h1, h2, h3⟩ := ih fun z hz => h z (by simp [hz])
  obtain ⟨x, rfl, hx⟩ := hs.2 H y (h y (by simp))
  refine ⟨x :: r, by rw [List.flatten_cons, h1, encs_cons], by simp [h2], fun z hz => ?_⟩
  rcases List.mem_cons.1 hz with rfl | hz
  ·exact hx
  ·exact h3 z hz
theorem rd_slP {T : Type} [El T] {p : T → Prop} {s : Sh} (hs : EncP N s T p) (hN : N ≤ maxLen) {H : Hp} {x : AV} (h : Rd N H (.sl s) [x]) : ∃ v, ∃ l : List T, x = .sl v ∧ SL H v l ∧ l.length ≤ N ∧ ∀ a ∈ l, p a := by
 obtain ⟨v, e, hok, l, hl, hd, hr⟩ := h
 injection e with e
 obtain ⟨r, h1, h2, h3⟩ := encP_flat hs l hr
 rw [hs.1, h1] at hd
 rcases hok with rfl | ⟨a, b, c, d, e', f⟩
 ·have : r = [] := List.length_eq_zero_iff.1 (by rw [h2, hl])
  subst this
  exact ⟨_, [], e, .nilS, by simp, by simp⟩
 ·exact ⟨v, r, e, ⟨⟨by rw [encs_len, h2, hl], by rw [encs_len, h2, hl]; exact hd⟩, d, .inl b, fun e => by rw [a] at e; cases e⟩, by omega, h3⟩
end Go.Lt.B
