/- PLAIN LAWS OF WHAT IS COMPUTED, for the statement 'TopHeavy'. Nothing is asked of the input. -/
import Derived.Test.YtopildlfbhfghaaGreatDoorU5Cx
import Derived.Test.YtopildlfbhfghaaGreatDoorU5CGw
import Derived.Test.YtopildlfbhfghaaGreatDoorU5CLw
import Derived.Test.YtopildlfbhfghaaGreatDoorU5CIx
set_option linter.unusedVariables false
set_option linter.unusedSimpArgs false
set_option maxHeartbeats 4000000
namespace Go.Lt.P10
open Go Go.Lt Go.Proofs
/-! ### doing the changes of a way, in plain Lean -/
theorem last_app (q x : Nat) (l : List Nat) : (q :: (l ++ [x])).getLast (by simp) = x := by
 have e : q :: (l ++ [x]) = (q :: l) ++ [x] := rfl
 simp only [e]
 exact List.getLast_concat
def Chs.Chain (C : Chs) : Nat → List Nat → Prop
 | _, [] => True
 | q, x :: l => 0 < x ∧ x < C.pages.length ∧ C.par x = q ∧ C.Chain x l
theorem Chs.chain_append {C : Chs} : ∀ (l : List Nat) (q x : Nat), C.Chain q l → 0 < x → x < C.pages.length → C.par x = (q :: l).getLast (by simp) → C.Chain q (l ++ [x])
 | [], q, x, _, h0, hx, hp => ⟨h0, hx, hp, trivial⟩
 | y :: l, q, x, h, h0, hx, hp => ⟨h.1, h.2.1, h.2.2.1, Chs.chain_append l y x h.2.2.2 h0 hx (by rw [hp, List.getLast_cons_cons])⟩
theorem Chs.ways_last' {C : Chs} (hC : C.Ok) {p : Nat} (hp : p < C.pages.length) : (0 :: C.way p).getLast (by simp) = p := by
 by_cases h0 : p = 0
 ·subst h0; simp [Chs.way_zero hC]
 ·simp only [Chs.way_step hC h0 hp]; exact last_app _ _ _
theorem Chs.way_chain {C : Chs} (hC : C.Ok) : ∀ (n p : Nat), p ≤ n → p < C.pages.length → C.Chain 0 (C.way p)
 | n, p, hn, hp => by
  by_cases h0 : p = 0
  ·subst h0; rw [Chs.way_zero hC]; trivial
  ·have hup := hC.up p (by omega) hp
   obtain ⟨n, rfl⟩ : ∃ n', n = n' + 1 := ⟨n - 1, by omega⟩
   rw [Chs.way_step hC h0 hp]
   exact Chs.chain_append _ _ _ (Chs.way_chain hC n _ (by omega) (by omega)) (by omega) hp (Chs.ways_last' hC (by omega)).symm
def Chs.path (C : Chs) (p : Nat) : List ByteArray := (C.way p).map C.chg
structure Along (C : Chs) (p i : Nat) (D : Chs) : Prop where
 ok : D.Ok
 len : D.pages.length = i + 1
 cur : D.at' = i
 st : ∀ q, (0 :: C.way p)[i]? = some q → D.now i = C.now q
 lnk : ∀ j x, j < i → (C.way p)[j]? = some x → D.par (j + 1) = j ∧ D.chg (j + 1) = C.chg x
theorem Along.new {C : Chs} (hC : C.Ok) (p : Nat) : Along C p 0 Chs.new where
 ok := Chs.new_ok
 len := rfl
 cur := rfl
 st := fun q hq => by
  have : q = 0 := by simpa using hq.symm
  subst this
  rw [hC.root.2]; rfl
 lnk := fun j x h => by omega
theorem Chs.way_len_le {C : Chs} (hC : C.Ok) {p : Nat} (hp : p < C.pages.length) : (C.way p).length ≤ p := by
 rw [Chs.way_eq hC hp, List.length_reverse]; exact Chs.ups_len hC _ _
theorem Chs.chain_get {C : Chs} : ∀ (l : List Nat) (q i : Nat) (h : i < l.length), C.Chain q l → 0 < l[i] ∧ l[i] < C.pages.length ∧ C.par l[i] = (q :: l)[i]'(by simp; omega)
 | x :: l, q, 0, _, h => ⟨h.1, h.2.1, h.2.2.1⟩
 | x :: l, q, i + 1, hi, h => Chs.chain_get l x i (by simpa using hi) h.2.2.2
theorem Along.child {C D : Chs} {p i : Nat} (h : Along C p i D) (ch : ByteArray) : D.child i ch = none := by
 unfold Chs.child
 rw [List.findIdx?_eq_none_iff]
 intro q hq
 obtain ⟨j, hj, rfl⟩ := List.mem_iff_getElem.1 hq
 have hl := h.len
 have hpar : D.pages[j].parent = D.par j := par_get hj
 have hchg : D.pages[j].change = D.chg j := chg_get hj
 rw [hpar, hchg]
 by_cases h0 : j = 0
 ·subst h0
  rw [h.ok.rc]
  have : strEq (ByteArray.mk #[]) (ByteArray.mk #[]) = true := by decide +kernel
  rw [this]; simp
 ·have := h.ok.up j (by omega) hj
  rw [decide_eq_false (by omega)]; simp
theorem Along.step {C D : Chs} {p i : Nat} (hC : C.Ok) (hp : p < C.pages.length) (h : Along C p i D) (hi : i < (C.way p).length) :
  (D.do (C.chg ((C.way p)[i]))).2.2 = 0 ∧ Along C p (i + 1) (D.do (C.chg ((C.way p)[i]))).1 := by
 have hch := Chs.way_chain hC p p (Nat.le_refl _) hp
 obtain ⟨h0, hx, hpar⟩ := Chs.chain_get _ _ i hi hch
 obtain ⟨w, hd⟩ := hC.did _ h0 hx
 have hst := h.st _ (List.getElem?_eq_getElem (by simp; omega))
 rw [hpar] at hd
 have hcur := h.cur
 have hl := h.len
 have hwl := Chs.way_len_le hC hp
 have hm := hC.most
 have hdo : D.do (C.chg ((C.way p)[i])) = (⟨D.pages ++ [⟨C.chg ((C.way p)[i]), i, C.now ((C.way p)[i])⟩], i + 1⟩, w, 0) := by
  unfold Chs.do
  rw [hcur, hst, hd]
  dsimp only
  rw [h.child]
  dsimp only
  rw [if_neg (by omega), hl]
 have hok := Chs.do_ok h.ok (C.chg ((C.way p)[i]))
 rw [hdo] at hok ⊢
 refine ⟨rfl, hok, by simp; omega, rfl, fun q hq => ?_, fun j x hj hq => ?_⟩
 ·have : q = (C.way p)[i] := by
   rw [List.getElem?_cons_succ, List.getElem?_eq_getElem hi] at hq
   injection hq with hq; exact hq.symm
  subst this
  unfold Chs.now
  dsimp only
  rw [List.getElem?_append_right (by omega)]
  simp [hl]
 ·by_cases he : j = i
  ·subst he
   rw [List.getElem?_eq_getElem hi] at hq
   injection hq with hq
   subst hq
   unfold Chs.par Chs.chg
   dsimp only
   rw [List.getElem?_append_right (by omega)]
   simp [hl]
  ·obtain ⟨k1, k2⟩ := h.lnk j x (by omega) hq
   have e : (D.pages ++ [(⟨C.chg ((C.way p)[i]), i, C.now ((C.way p)[i])⟩ : Pg)])[j + 1]? = D.pages[j + 1]? := List.getElem?_append_left (by omega)
   exact ⟨by show (Option.map _ _).getD 0 = j; rw [e]; exact k1, by show (Option.map _ _).getD (ByteArray.mk #[]) = _; rw [e]; exact k2⟩
theorem Along.path {C D : Chs} {p i : Nat} (hC : C.Ok) (h : Along C p i D) (hi : i ≤ (C.way p).length) : ∀ j, j ≤ i → (D.way j).map D.chg = ((C.way p).take j).map C.chg
 | 0, _ => by rw [Chs.way_zero h.ok]; rfl
 | j + 1, hj => by
  have hl := h.len
  obtain ⟨k1, k2⟩ := h.lnk j ((C.way p)[j]'(by omega)) (by omega) (List.getElem?_eq_getElem (by omega))
  rw [Chs.way_step h.ok (by omega) (by omega), k1, List.map_append, Along.path hC h hi j (by omega), List.take_succ_eq_append_getElem (by omega), List.map_append]
  simp [k2]
section
variable {C : Chs}
def stepS (s : St) (line : ByteArray) : St := match (doS s line).1 with | .inr t => t | .inl _ => s
theorem now_fold (hC : C.Ok) : ∀ (n p : Nat), p ≤ n → p < C.pages.length → (C.path p).foldl stepS St.new = C.now p := by
 intro n
 induction n with
 | zero =>
  intro p h hp
  have : p = 0 := by omega
  subst this
  unfold Chs.path
  rw [Chs.way_zero hC, hC.root.2]; rfl
 | succ n ih =>
  intro p h hp
  by_cases h0 : p = 0
  ·subst h0
   unfold Chs.path
   rw [Chs.way_zero hC, hC.root.2]; rfl
  ·have hup := hC.up p (by omega) hp
   have := ih (C.par p) (by omega) (by omega)
   unfold Chs.path at this ⊢
   rw [Chs.way_step hC h0 hp, List.map_append, List.foldl_append, this]
   obtain ⟨w, hw⟩ := hC.did p (by omega) hp
   show stepS (C.now (C.par p)) (C.chg p) = C.now p
   unfold stepS
   rw [hw]
theorem stepS_ok {s : St} (h : s.Ok) (line : ByteArray) : (stepS s line).Ok := by
 unfold stepS
 split
 ·rename_i t ht
  exact doS_ok (w := (doS s line).2) h (by rw [← ht])
 ·exact h
theorem path_did (hC : C.Ok) : ∀ (n p : Nat), p ≤ n → p < C.pages.length → ∀ i (h : i < (C.path p).length), ∃ w, doS (((C.path p).take i).foldl stepS St.new) (C.path p)[i] = (.inr (((C.path p).take (i + 1)).foldl stepS St.new), w) := by
 intro n
 induction n with
 | zero =>
  intro p h hp i hi
  have : p = 0 := by omega
  subst this
  unfold Chs.path at hi
  rw [Chs.way_zero hC] at hi
  simp at hi
 | succ n ih =>
  intro p h hp i hi
  by_cases h0 : p = 0
  ·subst h0
   unfold Chs.path at hi
   rw [Chs.way_zero hC] at hi
   simp at hi
  ·have hup := hC.up p (by omega) hp
   have hpath : C.path p = C.path (C.par p) ++ [C.chg p] := by
    unfold Chs.path
    rw [Chs.way_step hC h0 hp, List.map_append]; rfl
   have hf := now_fold hC n (C.par p) (by omega) (by omega)
   obtain ⟨w, hw⟩ := hC.did p (by omega) hp
   have ihp := ih (C.par p) (by omega) (by omega)
   generalize C.path (C.par p) = q at *
   simp only [hpath] at hi ⊢
   rw [List.length_append] at hi
   by_cases hlt : i < q.length
   ·obtain ⟨w', hw'⟩ := ihp i hlt
    refine ⟨w', ?_⟩
    rw [List.getElem_append_left hlt, List.take_append_of_le_length (by omega), List.take_append_of_le_length (by omega)]
    exact hw'
   ·have : i = q.length := by simp at hi; omega
    subst this
    refine ⟨w, ?_⟩
    have e1 : (q ++ [C.chg p]).take q.length = q := by simp
    have e2 : (q ++ [C.chg p]).take (q.length + 1) = q ++ [C.chg p] := by rw [List.take_of_length_le (by simp)]
    rw [e1, e2, List.foldl_append, hf, List.getElem_append_right (Nat.le_refl _)]
    simp only [Nat.sub_self, List.getElem_cons_zero, List.foldl_cons, List.foldl_nil]
    rw [hw]
    unfold stepS
    rw [hw]
theorem fold_ok (l : List ByteArray) : ∀ {s : St}, s.Ok → (l.foldl stepS s).Ok := by
 induction l with
 | nil => intro s h; exact h
 | cons x l ih => intro s h; exact ih (stepS_ok h x)
end
end Go.Lt.P10

namespace Go.Lt
/-! ### slices that grow, among blocks of one's own -/
section
variable {H0 A A' : Hp} {E E' : List (Nat × List AV)}
theorem Cx.perm (c : Cx H0 A E) (p : E.Perm E') : Cx H0 A E' :=
 ⟨c.g, fun q hq => c.e q (p.mem_iff.2 hq), (p.pairwise_iff fun h q => h q.symm).1 c.nd, fun q hq => c.lo q (p.mem_iff.2 hq)⟩
def sub (v : Sl) (cs : List AV) : List (Nat × List AV) := if v.nil = true then [] else [(v.b, cs)]
def AS (es : Nat) (v : Sl) (n : Nat) : Prop := (v = nilS ∧ n = 0) ∨ (v.nil = false ∧ v.o = 0 ∧ v.opn = es ∧ v.cap = v.len ∧ v.len = n)
theorem AS.nil {es : Nat} : AS es ⟨true, 0, 0, 0, 0, 0⟩ 0 := .inl ⟨rfl, rfl⟩
theorem AS.len {es n : Nat} {v : Sl} (a : AS es v n) : v.len = n := by
 rcases a with ⟨rfl, rfl⟩ | ⟨_, _, _, _, h⟩
 ·rfl
 ·exact h
theorem Cx.acc {T : Type} [El T] (c : Cx H0 A E) {v : Sl} {l : List T} (a : AS (El.sz T) v l.length) (h : ∀ p ∈ sub v (encs l), p ∈ E) : AccL H0.n A v l := by
 rcases a with ⟨rfl, hn⟩ | ⟨h1, h2, h3, h4, h5⟩
 ·obtain rfl := List.length_eq_zero_iff.1 hn
  exact AccL.nilS
 ·have hm : (v.b, encs l) ∈ E := h _ (by simp [sub, h1])
  exact .inr ⟨h1, h2, h3, h4, c.lo _ hm, c.e _ hm, by rw [encs_len, h5]⟩
theorem Cx.sl {T : Type} [El T] (c : Cx H0 A E) {v : Sl} {l : List T} (a : AS (El.sz T) v l.length) (h : ∀ p ∈ sub v (encs l), p ∈ E) : SL A v l := (c.acc a h).sl
theorem Cx.app1 {T : Type} [El T] {v : Sl} {l : List T} (c : Cx H0 A (sub v (encs l) ++ E)) (a : AS (El.sz T) v l.length) (x : T) {es : Nat} {cs : List AV} (hes : es = El.sz T) (hcs : cs = El.enc x) (hb : l.length < 4294967296) :
  Ok (A.apN es v cs 1) fun v' A' => Cx H0 A' (sub v' (encs (l ++ [x])) ++ E) ∧ AS (El.sz T) v' (l ++ [x]).length := by
 have hacc := c.acc a fun p hp => List.mem_append_left _ hp
 refine (P10.AccL.push0 hacc c.g.1 x hes hcs hb).mono fun v' A' ⟨h1, h2, h3, h4⟩ => ?_
 have hE : ∀ p ∈ E, p ∈ sub v (encs l) ++ E := fun p hp => List.mem_append_right _ hp
 have hne : ∀ p ∈ E, v.nil = false → p.1 ≠ v.b := fun p hp hn e => by
  have := (List.pairwise_append.1 c.nd).2.2 (v.b, encs l) (by simp [sub, hn]) p hp
  exact this e.symm
 have hn1 := h2.1
 rcases h1 with ⟨e, _⟩ | ⟨k1, k2, k3, k4, k5, k6, k7⟩
 ·rw [e] at h4; cases h4
 ·refine ⟨⟨h2.gr hacc c.g, fun p hp => ?_, ?_, fun p hp => ?_⟩, .inr ⟨k1, k2, k3, k4, ?_⟩⟩
  ·rcases List.mem_append.1 hp with hp | hp
   ·simp [sub, h4] at hp; subst hp; exact k6
   ·rw [h2.2 _ (c.lt (hE p hp)) fun hn => hne p hp hn]
    exact c.e p (hE p hp)
  ·rw [List.pairwise_append]
   refine ⟨by unfold sub; split <;> simp, (List.pairwise_append.1 c.nd).2.1, fun q hq p hp => ?_⟩
   simp [sub, h4] at hq
   subst hq
   rcases h3 with e | e
   ·subst e
    exact fun z => hne p hp h4 z.symm
   ·have := c.lt (hE p hp)
    dsimp only; omega
  ·rcases List.mem_append.1 hp with hp | hp
   ·simp [sub, h4] at hp; subst hp; exact k5
   ·exact c.lo p (hE p hp)
  ·rw [encs_len] at k7
   exact (Nat.eq_of_mul_eq_mul_right El.pos k7).symm
theorem Cx.putI {α : Type} {Q : α → Hp → Prop} {v : Sl} {l : List Int} (c : Cx H0 A (sub v (encs l) ++ E)) (a : AS 1 v l.length) {i : Nat} (n : Int) (hi : i < l.length) {f : Hp → Option (α × Hp)}
  (k : ∀ A', Cx H0 A' (sub v (encs (l.set i n)) ++ E) → Ok (f A') Q) : Ok ((A.st v.b (v.o + i * 1) (.int .i64 n)).bind f) Q := by
 rcases a with ⟨rfl, hn⟩ | ⟨h1, h2, h3, h4, h5⟩
 ·omega
 ·have e : sub v (encs l) ++ E = (v.b, encs l) :: E := by simp [sub, h1]
  have e2 : sub v (encs (l.set i n)) ++ E = (v.b, encs (l.set i n)) :: E := by simp [sub, h1]
  rw [e] at c
  rw [h2, Nat.zero_add, Nat.mul_one]
  refine Ok.cst1 c 0 rfl (by rw [encs_len]; exact Nat.lt_of_lt_of_le hi (by show l.length ≤ l.length * 1; omega)) fun A' _ _ c' => k A' ?_
  rw [e2]
  simpa [P10.encs_ints] using c'
end
end Go.Lt

namespace Go.Lt.P10
open Go Go.Lt Go.Proofs
section
variable {H : Hp} {c : Nat} {pv : Sl} {C : Chs} {t : Nat}
theorem path_ok (h : ChAt H c pv C t) (hC : C.Ok) : Lt.Ok (r43 c 0 H) fun r A => Gr H A ∧ AccN H.n A r (C.path C.at') := by
 unfold r43
 refine is (none_ok h hC) (Lt.Ok.neg (by simp) ?_)
 dsimp only
 have hm := hC.most
 refine Lt.Ok.ld (ldI_get h.get rfl) (Lt.Ok.bind (way_ok h hC hC.cur) fun v A ⟨g, hv⟩ => ?_)
 have hA := h.gr g
 have hvs := hv.sl
 have hl := hv.len
 rw [ints_len] at hl
 have hwl := C.way_len hC C.at'
 dsimp only
 refine Lt.Ok.loop (L := fun K (s : Sl × Int) B => r43_l0 K c 0 s.1 v (v.len : Int) s.2 B) (fun m s B => ∃ i : Nat, s.2 = (i : Int) ∧ i + m = (C.way C.at').length ∧ Gr A B ∧ AccN A.n B s.1 (((C.way C.at').take i).map C.chg)) ?_ FUEL (C.way C.at').length (⟨true, 0, 0, 0, 0, 0⟩, 0) A (by unfold FUEL; omega) ⟨0, rfl, by omega, .refl _, ⟨AccL.nilS, fun _ => rfl⟩⟩
 rintro K m ⟨r, i'⟩ B ⟨i, hi, him, gB, ha⟩ ih
 dsimp only at *
 subst hi
 have hB := hA.gr gB
 have hlen := hB.len
 rw [r43_l0]
 refine Lt.Ok.ite (fun hlt => ?_) fun hlt => ?_
 ·have hil : i < (C.way C.at').length := by omega
  have hx : (C.way C.at')[i] < C.pages.length := by
   have := (Chs.way_mem hC (List.getElem_mem hil)).2
   have := hC.cur
   omega
  refine Lt.Ok.ck (by omega) (Lt.Ok.ld ((hvs.gr gB).ldI (i := i) (j := 0) (n := ((C.way C.at')[i] : Int)) (by rw [ints_len]; exact hil) (by simp only [ints, List.getElem_map]; rfl)) (Lt.Ok.ld (ldSl_get hB.get rfl) (Lt.Ok.ck (by omega) (Lt.Ok.ld (hB.ldCh hx) ?_))))
  rw [chg_get hx]
  refine Lt.Ok.bind (AccN.push ha gB.1 (C.chg (C.way C.at')[i]) rfl rfl (by simp; omega)) fun r' D ⟨k1, k2, k3, k4⟩ => ?_
  dsimp only
  rw [w64_succ (by omega)]
  refine ih (m - 1) (r', _) D (by omega) ⟨i + 1, rfl, by omega, But.gr k2 ha.1 gB, ?_⟩
  rw [List.take_succ_eq_append_getElem hil, List.map_append]
  exact k1
 ·have : i = (C.way C.at').length := by omega
  subst this
  rw [List.take_length] at ha
  have e : AccN H.n B r (C.path C.at') := by
   refine ⟨?_, ha.2⟩
   rcases ha.1 with h | ⟨h1, h2, h3, h4, h5, h6, h7⟩
   ·exact .inl h
   ·exact .inr ⟨h1, h2, h3, h4, Nat.le_trans g.1 h5, h6, h7⟩
  exact Lt.Ok.ret ⟨g.trans gB, e⟩
end
end Go.Lt.P10

namespace Go.Lt
theorem Cx.add {T : Type} [El T] {H0 H A : Hp} {E : List (Nat × List AV)} (c : Cx H0 H E) (g : Gr H A) {v : Sl} {l : List T} (h : AccL H.n A v l) : Cx H0 A (sub v (encs l) ++ E) ∧ AS (El.sz T) v l.length := by
 have hl := h.len
 rcases h with ⟨rfl, e⟩ | ⟨h1, h2, h3, h4, h5, h6, h7⟩
 ·exact ⟨c.gr g, .inl ⟨rfl, hl.symm⟩⟩
 ·have cA := c.gr g
  refine ⟨⟨cA.g, fun p hp => ?_, ?_, fun p hp => ?_⟩, .inr ⟨h1, h2, h3, h4, hl⟩⟩
  ·rcases List.mem_append.1 hp with hp | hp
   ·simp [sub, h1] at hp; subst hp; exact h6
   ·exact cA.e p hp
  ·rw [List.pairwise_append]
   refine ⟨by unfold sub; split <;> simp, cA.nd, fun q hq p hp => ?_⟩
   simp [sub, h1] at hq
   subst hq
   have := c.lt hp
   dsimp only; omega
  ·rcases List.mem_append.1 hp with hp | hp
   ·simp [sub, h1] at hp; subst hp; have := c.g.1; dsimp only; omega
   ·exact cA.lo p hp
def SLn {T : Type} [El T] (n0 : Nat) (A : Hp) (v : Sl) (l : List T) : Prop := SL A v l ∧ (v.nil = false → n0 ≤ v.b)
theorem SLn.gr {T : Type} [El T] {n0 : Nat} {A B : Hp} {v : Sl} {l : List T} (h : SLn n0 A v l) (g : Gr A B) : SLn n0 B v l := ⟨h.1.gr g, h.2⟩
theorem Cx.sln {T : Type} [El T] {H0 A : Hp} {E : List (Nat × List AV)} (c : Cx H0 A E) {v : Sl} {l : List T} (a : AS (El.sz T) v l.length) (h : ∀ p ∈ sub v (encs l), p ∈ E) : SLn H0.n A v l :=
 ⟨c.sl a h, fun hn => c.lo (v.b, encs l) (h _ (by simp [sub, hn]))⟩
end Go.Lt
namespace Go.Lt.P10
open Go Go.Lt Go.Proofs
theorem SLn.sp {T : Type} [El T] {n0 : Nat} {A B : Hp} {v : Sl} {l : List T} {c p p' : Nat} (h : SLn n0 A v l) (s : Sp c p p' A B) (hc : c < n0) (hp : p < n0) : SLn n0 B v l := by
 refine ⟨SL.sp h.1 fun hne => ?_, h.2⟩
 have := h.2 (h.1.nonnil hne)
 exact s.e _ (SL.lt h.1 hne) (by omega) (by omega)
/-! ### what the statements across layers read of a path -/
theorem strEq_comm (a b : ByteArray) : strEq a b = strEq b a := by
 rw [Bool.eq_iff_iff, strEq_iff, strEq_iff]
 exact ⟨Eq.symm, Eq.symm⟩
def nmsS (s : St) : List ByteArray := s.leaves.map (·.1)
def stksS (s : St) : List Int := s.leaves.map (·.2)
theorem find_nms (s : St) (x : ByteArray) : (nmsS s).findIdx? (fun y => strEq x y) = s.find x := by
 unfold nmsS St.find
 rw [List.findIdx?_map]
 congr 1
 funext l
 exact strEq_comm _ _
theorem stks_len (s : St) : (stksS s).length = s.leaves.length := by simp [stksS]
theorem nms_len (s : St) : (nmsS s).length = s.leaves.length := by simp [nmsS]
theorem stks_get {s : St} {i : Nat} (h : i < (stksS s).length) : (stksS s)[i] = stock s i := by
 rw [stks_len] at h
 rw [stock_eq h]; simp [stksS]
theorem nms_set (s : St) (i : Nat) (n : Int) : nmsS (setStock s i n) = nmsS s := by
 unfold nmsS
 rw [setStock_leaves]
 apply List.ext_getElem
 ·simp
 ·intro j h1 h2
  simp only [List.getElem_map, List.getElem_modify]
  split <;> rfl
theorem stks_set (s : St) (i : Nat) (n : Int) : stksS (setStock s i n) = (stksS s).set i n := by
 unfold stksS
 rw [setStock_leaves]
 apply List.ext_getElem
 ·simp
 ·intro j h1 h2
  simp only [List.getElem_map, List.getElem_modify, List.getElem_set]
  split <;> simp_all
theorem atoi_any (s : ByteArray) (hs : s.size ≤ 4194304) (H : Hp) : ∃ n e, atoiP s H = some (.tup [.int .i64 n, e], H) := by
 unfold atoiP
 rw [if_pos (by omega)]
 unfold atoiV
 cases Lib.atoiAll s.data.toList with
 | «syntax» => exact ⟨_, _, rfl⟩
 | range => exact ⟨_, _, rfl⟩
 | ok v => exact ⟨_, _, rfl⟩
theorem atoi_num {s : ByteArray} {n : Int} (hs : s.size ≤ 4194304) (h : numS s = some n) (H : Hp) : ∃ e, atoiP s H = some (.tup [.int .i64 n, e], H) := by
 unfold atoiP
 rw [if_pos (by omega)]
 unfold atoiV
 rw [(numS_atoi h).1]
 exact ⟨_, rfl⟩
def tsC (s : St) : List AV := [.int .i64 s.t0, .int .i64 s.t1, .int .i64 s.t2, .int .i64 s.t3]
def z4 : List AV := [.int .i64 0, .int .i64 0, .int .i64 0, .int .i64 0]
structure LrI (H D : Hp) (b1 b5 : Nat) (s : St) (vp vn vs vo vf : Sl) (path : List ByteArray) : Prop where
 cx : Cx H D (sub vf (encs s.offers) ++ (sub vo (encs s.orders) ++ (sub vs (encs (stksS s)) ++ (sub vn (encs (nmsS s)) ++ (sub vp (encs path) ++ [(b5, tsC s), (b1, z4)])))))
 ap : AS 1 vp path.length
 an : AS 1 vn (nmsS s).length
 as' : AS 1 vs (stksS s).length
 ao : AS 1 vo s.orders.length
 af : AS 2 vf s.offers.length
section
variable {H D : Hp} {b1 b5 : Nat} {s : St} {vp vn vs vo vf : Sl} {path : List ByteArray}
theorem LrI.gr {A : Hp} (h : LrI H D b1 b5 s vp vn vs vo vf path) (g : Gr D A) : LrI H A b1 b5 s vp vn vs vo vf path := ⟨h.cx.gr g, h.ap, h.an, h.as', h.ao, h.af⟩
theorem LrI.slp (h : LrI H D b1 b5 s vp vn vs vo vf path) : SL D vp path := h.cx.sl h.ap fun p hp => by simp [hp]
theorem LrI.sln (h : LrI H D b1 b5 s vp vn vs vo vf path) : SL D vn (nmsS s) := h.cx.sl h.an fun p hp => by simp [hp]
theorem LrI.sls (h : LrI H D b1 b5 s vp vn vs vo vf path) : SL D vs (stksS s) := h.cx.sl h.as' fun p hp => by simp [hp]
theorem LrI.slo (h : LrI H D b1 b5 s vp vn vs vo vf path) : SL D vo s.orders := h.cx.sl h.ao fun p hp => by simp [hp]
theorem perm3 {α : Type} (a b c : List α) : (a ++ (b ++ c)).Perm (b ++ (a ++ c)) := by
 rw [← List.append_assoc, ← List.append_assoc]
 exact List.Perm.append_right _ List.perm_append_comm
theorem permS {α : Type} (a b c d : List α) : (a ++ (b ++ (c ++ d))).Perm (c ++ (a ++ (b ++ d))) := ((perm3 b c d).append_left a).trans (perm3 a c (b ++ d))
theorem permN {α : Type} (a b c d e : List α) : (a ++ (b ++ (c ++ (d ++ e)))).Perm (d ++ (a ++ (b ++ (c ++ e)))) := (((perm3 c d e).append_left b).append_left a).trans (permS a b d (c ++ e))
theorem permT {α : Type} (a b c d e : List α) (x y : α) : (a ++ (b ++ (c ++ (d ++ (e ++ [x, y]))))).Perm (x :: (a ++ (b ++ (c ++ (d ++ (e ++ [y])))))) := by
 have e1 : a ++ (b ++ (c ++ (d ++ (e ++ [x, y])))) = (a ++ (b ++ (c ++ (d ++ e)))) ++ x :: [y] := by simp
 have e2 : a ++ (b ++ (c ++ (d ++ (e ++ [y])))) = (a ++ (b ++ (c ++ (d ++ e)))) ++ [y] := by simp
 rw [e1, e2]
 exact List.perm_middle
variable {α : Type} {Q : α → Hp → Prop}
theorem lr_head {k : Nat} {A : Hp} {v : Sl} {ws : List ByteArray} {x : ByteArray} (hv : SL A v (ws ++ [x])) (h1 : 1 ≤ ws.length) (hb : ws.length ≤ 8) (hx : x.size ≤ 4194304) {f : Int → Hp → Option (α × Hp)} {g : Option (α × Hp)} (K : ∀ n, (∀ m, numS x = some m → n = m) → Lt.Ok (f n A) Q) :
  Lt.Ok (if 1 < (v.len : Int) then ck ((0 : Int) ≤ (w64 ((v.len : Int) - 1)) ∧ (w64 ((v.len : Int) - 1)) < (v.len : Int)) ((A.ldStr v.b (v.o + (w64 ((v.len : Int) - 1) : Int).toNat * 1)).bind fun x7 => (appA (k + 1) 53 [.str x7] A).bind fun p8 => (p8.1.asT).bind fun x9 => ck (x9.length = 2) ((x9[0]?).bind fun x11 => (x11.asI .i64).bind fun x12 => (x9[1]?).bind fun x13 => f x12 p8.2)) else g) Q := by
 have hl := hv.len
 rw [List.length_append, List.length_singleton] at hl
 have ew : w64 ((v.len : Int) - 1) = (ws.length : Int) := by rw [w64_id (by omega) (by omega)]; omega
 have e0 : A.ldStr v.b (v.o + ((ws.length : Nat) : Int).toNat * 1) = some x := SL.ldStr hv (i := ws.length) (j := 0) (by simp) (by simp [El.enc])
 rw [ew]
 refine Lt.Ok.pos (by omega) (Lt.Ok.ck (by omega) (Lt.Ok.ld e0 ?_))
 rw [app53]
 have key : ∃ n e, atoiP x A = some (.tup [.int .i64 n, e], A) ∧ ∀ m, numS x = some m → n = m := by
  cases hn : numS x with
  | none =>
   obtain ⟨n, e, h⟩ := atoi_any x hx A
   exact ⟨n, e, h, fun m q => by cases q⟩
  | some m =>
   obtain ⟨e, h⟩ := atoi_num hx hn A
   exact ⟨m, e, h, fun m' q => by injection q⟩
 obtain ⟨n, e, h, hn⟩ := key
 rw [h]
 exact K n hn
theorem ws_ld {A : Hp} {v : Sl} {ws : List ByteArray} (hv : SL A v ws) {i : Nat} (hi : i < ws.length) : A.ldStr v.b (v.o + ((i : Int)).toNat * 1) = some ws[i] := SL.ldStr hv (i := i) (j := 0) hi rfl
theorem r11_step {k : Nat} {A : Hp} {t : St} {line : ByteArray} {v : Sl} {pl : Int} {i : Int} (I : LrI H A b1 b5 s vp vn vs vo vf path) (hs : s.Ok) (hd : Did s t line) (hv : SL A v (words line)) (hsz : ∀ x ∈ words line, x.size ≤ 4194304)
  {kt : Nat → Sl → Sl → Sl → Nat → Sl → Sl → Int → Int → Hp → Option ((Sl × Sl × Sl × Int × Int × Int × Int × Sl) × Hp)} {R : (Sl × Sl × Sl × Int × Int × Int × Int × Sl) → Hp → Prop}
  (K : ∀ D' vn' vs' vo' vf', LrI H D' b1 b5 t vp vn' vs' vo' vf' path → Lt.Ok (kt b1 vn' vs' vo' b5 vf' vp pl (w64 (i + 1)) D') R) :
  Lt.Ok (if 1 < (v.len : Int) then ck ((0 : Int) ≤ (w64 ((v.len : Int) - 1)) ∧ (w64 ((v.len : Int) - 1)) < (v.len : Int)) ((A.ldStr v.b (v.o + (w64 ((v.len : Int) - 1) : Int).toNat * 1)).bind fun x7 => (appA (k + 1) 53 [.str x7] A).bind fun p8 => (p8.1.asT).bind fun x9 => ck (x9.length = 2) ((x9[0]?).bind fun x11 => (x11.asI .i64).bind fun x12 => (x9[1]?).bind fun x13 => r11_j7 (appA (k + 1)) kt b1 vn vs vo b5 vf v x12 vp pl i p8.2)) else r11_j7 (appA (k + 1)) kt b1 vn vs vo b5 vf v 0 vp pl i A) R := by
 have hl := hv.len
 have l6 := hs.l6; have o40 := hs.o40; have f8 := hs.f8
 cases hd with
 | leaf a x n hw hn hf ht =>
  rw [hw] at hv hl hsz
  refine lr_head (ws := [wLeaf, a]) hv (by simp) (by simp) (hsz _ (by simp)) fun m hm => ?_
  have hm := hm n hn
  subst hm
  simp only [List.length_cons, List.length_nil] at hl
  have z0 : A.ldStr v.b (v.o + (0 : Int).toNat * 1) = some wLeaf := ws_ld hv (i := 0) (by simp)
  have z1 : A.ldStr v.b (v.o + (1 : Int).toNat * 1) = some a := ws_ld hv (i := 1) (by simp)
  unfold r11_j7
  refine Lt.Ok.ck (by omega) (Lt.Ok.ld z0 (Lt.Ok.pos (by decide +kernel) ?_))
  unfold r11_j6
  refine Lt.Ok.pos (decide_eq_true (by omega)) (Lt.Ok.ck (by omega) (Lt.Ok.ld z1 ?_))
  refine Lt.Ok.bind ((I.cx.perm (permN _ _ _ _ _)).app1 I.an a rfl rfl (by rw [nms_len]; omega)) fun vn' B ⟨c1, a1⟩ => ?_
  dsimp only
  refine Lt.Ok.bind (((c1.perm (permN _ _ _ _ _).symm).perm (permS _ _ _ _)).app1 (l := stksS s) I.as' m rfl rfl (by rw [stks_len]; omega)) fun vs' D ⟨c2, a2⟩ => ?_
  refine K _ _ _ _ _ ?_
  have e1 : nmsS t = nmsS s ++ [a] := by rw [ht]; simp [nmsS]
  have e2 : stksS t = stksS s ++ [m] := by rw [ht]; simp [stksS]
  have e3 : t.orders = s.orders := by rw [ht]
  have e4 : t.offers = s.offers := by rw [ht]
  have e5 : tsC t = tsC s := by rw [ht]; rfl
  have c3 := c2.perm (permS _ _ _ _).symm
  exact ⟨by rw [e1, e2, e3, e4, e5]; exact c3, I.ap, by rw [e1]; exact a1, by rw [e2]; exact a2, by rw [e3]; exact I.ao, by rw [e4]; exact I.af⟩
 | give a b x n p q hw hn hp hq hpq h1 h20 hd ht =>
  rw [hw] at hv hl hsz
  refine lr_head (ws := [wGive, a, b]) hv (by simp) (by simp) (hsz _ (by simp)) fun m hm => ?_
  have hm := hm n hn
  subst hm
  simp only [List.length_cons, List.length_nil] at hl
  have z0 : A.ldStr v.b (v.o + (0 : Int).toNat * 1) = some wGive := ws_ld hv (i := 0) (by simp)
  have z1 : A.ldStr v.b (v.o + (1 : Int).toNat * 1) = some a := ws_ld hv (i := 1) (by simp)
  have z2 : A.ldStr v.b (v.o + (2 : Int).toNat * 1) = some b := ws_ld hv (i := 2) (by simp)
  have lp := find_lt hp
  have lq := find_lt hq
  have rp := stock_rng hs lp
  have rq := stock_rng hs lq
  unfold r11_j7
  refine Lt.Ok.ck (by omega) (Lt.Ok.ld z0 (Lt.Ok.neg (by decide +kernel) ?_))
  unfold r11_j6
  refine Lt.Ok.neg (by simp) (Lt.Ok.ck (by omega) (Lt.Ok.ld z0 (Lt.Ok.pos (by decide +kernel) ?_)))
  unfold r11_j5
  refine Lt.Ok.pos (decide_eq_true (by omega)) (Lt.Ok.ck (by omega) (Lt.Ok.ld z1 ?_))
  refine Lt.Ok.bind (r23_ok I.sln (by rw [nms_len]; omega) a) fun r B ⟨gB, hr⟩ => ?_
  rw [find_nms, hp] at hr
  subst hr
  have z2B : B.ldStr v.b (v.o + (2 : Int).toNat * 1) = some b := ws_ld (hv.gr gB) (i := 2) (by simp)
  refine Lt.Ok.ck (by omega) (Lt.Ok.ld z2B ?_)
  refine Lt.Ok.bind (r23_ok (I.sln.gr gB) (by rw [nms_len]; omega) b) fun r D ⟨gD, hr⟩ => ?_
  rw [find_nms, hq] at hr
  subst hr
  have ID := (I.gr gB).gr gD
  have hls := ID.sls.len
  rw [stks_len] at hls
  dsimp only [idxI]
  refine Lt.Ok.ck z2 (Lt.Ok.pos (by omega) ?_)
  unfold r11_j1
  have e0 : D.ldI .i64 vs.b (vs.o + ((p : Int)).toNat * 1) = some (stock s p) := ID.sls.ldI (i := p) (j := 0) (by rw [stks_len]; exact lp) (by rw [stks_get (by rw [stks_len]; exact lp)]; rfl)
  refine Lt.Ok.pos (decide_eq_true (by omega)) (Lt.Ok.ck (by omega) (Lt.Ok.ld e0 (Lt.Ok.ck (by omega) ?_)))
  rw [w64_id (n := stock s p - m) (by omega) (by omega)]
  refine Cx.putI (ID.cx.perm (permS _ _ _ _)) ID.as' (i := p) (stock s p - m) (by rw [stks_len]; exact lp) fun E c1 => ?_
  have a1 : AS 1 vs ((stksS s).set p (stock s p - m)).length := by rw [List.length_set]; exact ID.as'
  have s1 : SL E vs ((stksS s).set p (stock s p - m)) := c1.sl a1 fun z hz => by simp [hz]
  have lq' : q < ((stksS s).set p (stock s p - m)).length := by rw [List.length_set, stks_len]; exact lq
  have e1 : E.ldI .i64 vs.b (vs.o + ((q : Int)).toNat * 1) = some (stock s q) := s1.ldI (i := q) (j := 0) lq' (by
   rw [List.getElem_set_ne hpq, stks_get (by rw [stks_len]; exact lq)]; rfl)
  refine Lt.Ok.ck (by omega) (Lt.Ok.ld e1 (Lt.Ok.ck (by omega) ?_))
  rw [w64_id (n := stock s q + m) (by omega) (by omega)]
  refine Cx.putI c1 a1 (i := q) (stock s q + m) lq' fun F c2 => ?_
  refine K _ _ _ _ _ ?_
  have f1 : nmsS t = nmsS s := by rw [ht, nms_set, nms_set]
  have f2 : stksS t = ((stksS s).set p (stock s p - m)).set q (stock s q + m) := by rw [ht, stks_set, stks_set]
  have f3 : t.orders = s.orders := by rw [ht]; rfl
  have f4 : t.offers = s.offers := by rw [ht]; rfl
  have f5 : tsC t = tsC s := by rw [ht]; rfl
  have c3 := c2.perm (permS _ _ _ _).symm
  exact ⟨by rw [f1, f2, f3, f4, f5]; exact c3, ID.ap, by rw [f1]; exact ID.an, by rw [f2]; simpa using ID.as', by rw [f3]; exact ID.ao, by rw [f4]; exact ID.af⟩
 | order a p hw hp h0 ho ht =>
  rw [hw] at hv hl hsz
  refine lr_head (ws := [wOrder]) hv (by simp) (by simp) (hsz _ (by simp)) fun m _ => ?_
  simp only [List.length_cons, List.length_nil] at hl
  have z0 : A.ldStr v.b (v.o + (0 : Int).toNat * 1) = some wOrder := ws_ld hv (i := 0) (by simp)
  have z1 : A.ldStr v.b (v.o + (1 : Int).toNat * 1) = some a := ws_ld hv (i := 1) (by simp)
  have lp := find_lt hp
  have rp := stock_rng hs lp
  unfold r11_j7
  refine Lt.Ok.ck (by omega) (Lt.Ok.ld z0 (Lt.Ok.neg (by decide +kernel) ?_))
  unfold r11_j6
  refine Lt.Ok.neg (by simp) (Lt.Ok.ck (by omega) (Lt.Ok.ld z0 (Lt.Ok.neg (by decide +kernel) ?_)))
  unfold r11_j5
  refine Lt.Ok.neg (by simp) (Lt.Ok.ck (by omega) (Lt.Ok.ld z0 (Lt.Ok.pos (by decide +kernel) ?_)))
  unfold r11_j4
  refine Lt.Ok.pos (decide_eq_true (by omega)) (Lt.Ok.ck (by omega) (Lt.Ok.ld z1 ?_))
  refine Lt.Ok.bind (r23_ok I.sln (by rw [nms_len]; omega) a) fun r D ⟨gD, hr⟩ => ?_
  rw [find_nms, hp] at hr
  subst hr
  have ID := I.gr gD
  have hls := ID.sls.len
  rw [stks_len] at hls
  dsimp only [idxI]
  have e0 : D.ldI .i64 vs.b (vs.o + ((p : Int)).toNat * 1) = some (stock s p) := ID.sls.ldI (i := p) (j := 0) (by rw [stks_len]; exact lp) (by rw [stks_get (by rw [stks_len]; exact lp)]; rfl)
  refine Lt.Ok.pos (by omega) (Lt.Ok.ck (by omega) (Lt.Ok.ld e0 (Lt.Ok.ck (by omega) ?_)))
  rw [w64_id (n := stock s p - 1) (by omega) (by omega)]
  refine Cx.putI (ID.cx.perm (permS _ _ _ _)) ID.as' (i := p) (stock s p - 1) (by rw [stks_len]; exact lp) fun E c1 => ?_
  refine Lt.Ok.bind (((c1.perm (permS _ _ _ _).symm).perm (perm3 _ _ _)).app1 (l := s.orders) ID.ao (p : Int) rfl rfl (by omega)) fun vo' F ⟨c2, a2⟩ => ?_
  refine K _ _ _ _ _ ?_
  have f1 : nmsS t = nmsS s := by rw [ht]; exact nms_set _ _ _
  have f2 : stksS t = (stksS s).set p (stock s p - 1) := by rw [ht]; exact stks_set _ _ _
  have f3 : t.orders = s.orders ++ [(p : Int)] := by rw [ht]
  have f4 : t.offers = s.offers := by rw [ht]; rfl
  have f5 : tsC t = tsC s := by rw [ht]; rfl
  have c3 := c2.perm (perm3 _ _ _).symm
  exact ⟨by rw [f1, f2, f3, f4, f5]; exact c3, ID.ap, by rw [f1]; exact ID.an, by rw [f2]; simpa using ID.as', by rw [f3]; exact a2, by rw [f4]; exact ID.af⟩
 | taste x y p q hw hx hy h1 h2 ht =>
  rw [hw] at hv hl hsz
  refine lr_head (ws := [wTaste, x]) hv (by simp) (by simp) (hsz _ (by simp)) fun m hm => ?_
  have hm := hm q hy
  subst hm
  simp only [List.length_cons, List.length_nil] at hl
  have z0 : A.ldStr v.b (v.o + (0 : Int).toNat * 1) = some wTaste := ws_ld hv (i := 0) (by simp)
  have z1 : A.ldStr v.b (v.o + (1 : Int).toNat * 1) = some x := ws_ld hv (i := 1) (by simp)
  have p0 := numS_nonneg hx
  have m0 := numS_nonneg hy
  obtain ⟨t0, t1, t2, t3, t4⟩ := hs.ts
  unfold r11_j7
  refine Lt.Ok.ck (by omega) (Lt.Ok.ld z0 (Lt.Ok.neg (by decide +kernel) ?_))
  unfold r11_j6
  refine Lt.Ok.neg (by simp) (Lt.Ok.ck (by omega) (Lt.Ok.ld z0 (Lt.Ok.neg (by decide +kernel) ?_)))
  unfold r11_j5
  refine Lt.Ok.neg (by simp) (Lt.Ok.ck (by omega) (Lt.Ok.ld z0 (Lt.Ok.neg (by decide +kernel) ?_)))
  unfold r11_j4
  refine Lt.Ok.neg (by simp) (Lt.Ok.ck (by omega) (Lt.Ok.ld z0 (Lt.Ok.pos (by decide +kernel) ?_)))
  unfold r11_j3
  refine Lt.Ok.pos (decide_eq_true (by omega)) (Lt.Ok.ck (by omega) (Lt.Ok.ld z1 ?_))
  rw [app53]
  obtain ⟨e, he⟩ := atoi_num (hsz x (by simp)) hx A
  rw [he]
  simp only [Option.bind_some, AV.asT, List.length_cons, List.length_nil]
  refine Lt.Ok.ck (by simp) ?_
  simp only [List.getElem?_cons_zero, List.getElem?_cons_succ, Option.bind_some, AV.asI, if_true]
  refine Lt.Ok.pos p0 (Lt.Ok.pos (by omega) (Lt.Ok.pos m0 ?_))
  unfold r11_j8
  refine Lt.Ok.pos (decide_eq_true (by omega)) ?_
  have c0 := I.cx.perm (permT _ _ _ _ _ _ _)
  have fin : ∀ (j : Nat) (z : Int) (D' : Hp) (u : St), u = t → u.leaves = s.leaves → u.orders = s.orders → u.offers = s.offers → tsC u = (tsC s).set j (.int .i64 z) → Cx H D' ((b5, (tsC s).set j (.int .i64 z)) :: (sub vf (encs s.offers) ++ (sub vo (encs s.orders) ++ (sub vs (encs (stksS s)) ++ (sub vn (encs (nmsS s)) ++ (sub vp (encs path) ++ [(b1, z4)])))))) → Lt.Ok (kt b1 vn vs vo b5 vf vp pl (w64 (i + 1)) D') R := by
   intro j z D' u hu f1 f3 f4 f5 c1
   subst hu
   have g1 : nmsS u = nmsS s := by unfold nmsS; rw [f1]
   have g2 : stksS u = stksS s := by unfold stksS; rw [f1]
   have c3 := c1.perm (permT _ _ _ _ _ _ _).symm
   exact K _ _ _ _ _ ⟨by rw [g1, g2, f3, f4, f5]; exact c3, I.ap, by rw [g1]; exact I.an, by rw [g2]; exact I.as', by rw [f3]; exact I.ao, by rw [f4]; exact I.af⟩
  have wu : ∀ z : Int, 0 ≤ z ∧ z ≤ 16 → w64 (z + 1) = z + 1 := fun z hz => w64_id (by omega) (by omega)
  rcases (show p = 0 ∨ p = 1 by omega) with rfl | rfl <;> rcases (show m = 0 ∨ m = 1 by omega) with rfl | rfl
  ·rw [show w64 ((w64 (2 * (0 : Int))) + (0 : Int)) = 0 by decide +kernel]
   refine Lt.Ok.ck (by decide) (Lt.Ok.cld c0 (.head _) (n := s.t0) rfl (Lt.Ok.ck (by decide) (Lt.Ok.cst1 c0 0 rfl (by simp [tsC]) fun D' _ _ c1 => ?_)))
   rw [wu s.t0 (by omega)] at c1
   exact fin 0 (s.t0 + 1) D' { s with t0 := s.t0 + 1 } ht.symm rfl rfl rfl rfl c1
  ·rw [show w64 ((w64 (2 * (0 : Int))) + (1 : Int)) = 1 by decide +kernel]
   refine Lt.Ok.ck (by decide) (Lt.Ok.cld c0 (.head _) (n := s.t1) rfl (Lt.Ok.ck (by decide) (Lt.Ok.cst1 c0 0 rfl (by simp [tsC]) fun D' _ _ c1 => ?_)))
   rw [wu s.t1 (by omega)] at c1
   exact fin 1 (s.t1 + 1) D' { s with t1 := s.t1 + 1 } ht.symm rfl rfl rfl rfl c1
  ·rw [show w64 ((w64 (2 * (1 : Int))) + (0 : Int)) = 2 by decide +kernel]
   refine Lt.Ok.ck (by decide) (Lt.Ok.cld c0 (.head _) (n := s.t2) rfl (Lt.Ok.ck (by decide) (Lt.Ok.cst1 c0 0 rfl (by simp [tsC]) fun D' _ _ c1 => ?_)))
   rw [wu s.t2 (by omega)] at c1
   exact fin 2 (s.t2 + 1) D' { s with t2 := s.t2 + 1 } ht.symm rfl rfl rfl rfl c1
  ·rw [show w64 ((w64 (2 * (1 : Int))) + (1 : Int)) = 3 by decide +kernel]
   refine Lt.Ok.ck (by decide) (Lt.Ok.cld c0 (.head _) (n := s.t3) rfl (Lt.Ok.ck (by decide) (Lt.Ok.cst1 c0 0 rfl (by simp [tsC]) fun D' _ _ c1 => ?_)))
   rw [wu s.t3 (by omega)] at c1
   exact fin 3 (s.t3 + 1) D' { s with t3 := s.t3 + 1 } ht.symm rfl rfl rfl rfl c1
 | offer x y p q hw hx hy ht =>
  rw [hw] at hv hl hsz
  refine lr_head (ws := [wOffer, x]) hv (by simp) (by simp) (hsz _ (by simp)) fun m hm => ?_
  have hm := hm q hy
  subst hm
  simp only [List.length_cons, List.length_nil] at hl
  have z0 : A.ldStr v.b (v.o + (0 : Int).toNat * 1) = some wOffer := ws_ld hv (i := 0) (by simp)
  have z1 : A.ldStr v.b (v.o + (1 : Int).toNat * 1) = some x := ws_ld hv (i := 1) (by simp)
  unfold r11_j7
  refine Lt.Ok.ck (by omega) (Lt.Ok.ld z0 (Lt.Ok.neg (by decide +kernel) ?_))
  unfold r11_j6
  refine Lt.Ok.neg (by simp) (Lt.Ok.ck (by omega) (Lt.Ok.ld z0 (Lt.Ok.neg (by decide +kernel) ?_)))
  unfold r11_j5
  refine Lt.Ok.neg (by simp) (Lt.Ok.ck (by omega) (Lt.Ok.ld z0 (Lt.Ok.neg (by decide +kernel) ?_)))
  unfold r11_j4
  refine Lt.Ok.neg (by simp) (Lt.Ok.ck (by omega) (Lt.Ok.ld z0 (Lt.Ok.neg (by decide +kernel) ?_)))
  unfold r11_j3
  refine Lt.Ok.neg (by simp) (Lt.Ok.ck (by omega) (Lt.Ok.ld z0 (Lt.Ok.pos (by decide +kernel) ?_)))
  unfold r11_j2
  refine Lt.Ok.pos (decide_eq_true (by omega)) (Lt.Ok.ck (by omega) (Lt.Ok.ld z1 ?_))
  rw [app53]
  obtain ⟨e, he⟩ := atoi_num (hsz x (by simp)) hx A
  rw [he]
  simp only [Option.bind_some, AV.asT, List.length_cons, List.length_nil]
  refine Lt.Ok.ck (by simp) ?_
  simp only [List.getElem?_cons_zero, List.getElem?_cons_succ, Option.bind_some, AV.asI, if_true]
  refine Lt.Ok.bind (I.cx.app1 (l := s.offers) I.af (p, m) rfl rfl (by omega)) fun vf' D ⟨c1, a1⟩ => ?_
  refine K _ _ _ _ _ ?_
  have f1 : nmsS t = nmsS s := by rw [ht]; rfl
  have f2 : stksS t = stksS s := by rw [ht]; rfl
  have f3 : t.orders = s.orders := by rw [ht]
  have f4 : t.offers = s.offers ++ [(p, m)] := by rw [ht]
  have f5 : tsC t = tsC s := by rw [ht]; rfl
  exact ⟨by rw [f1, f2, f3, f4, f5]; exact c1, I.ap, by rw [f1]; exact I.an, by rw [f2]; exact I.as', by rw [f3]; exact I.ao, by rw [f4]; exact a1⟩
end
def LrQ (n0 : Nat) (s : St) (r : Sl × Sl × Sl × Int × Int × Int × Int × Sl) (A : Hp) : Prop :=
 SLn n0 A r.1 (nmsS s) ∧ SLn n0 A r.2.1 (stksS s) ∧ SLn n0 A r.2.2.1 s.orders ∧ r.2.2.2 = (s.t0, s.t1, s.t2, s.t3, r.2.2.2.2.2.2.2) ∧ SLn n0 A r.2.2.2.2.2.2.2 s.offers
theorem LrQ.gr {n0 : Nat} {s : St} {r : Sl × Sl × Sl × Int × Int × Int × Int × Sl} {A B : Hp} (h : LrQ n0 s r A) (g : Gr A B) : LrQ n0 s r B := ⟨h.1.gr g, h.2.1.gr g, h.2.2.1.gr g, h.2.2.2.1, h.2.2.2.2.gr g⟩
theorem lread_ok {k : Nat} {H : Hp} {c : Nat} {pv : Sl} {C : Chs} {t : Nat} (h : ChAt H c pv C t) (hC : C.Ok) : Lt.Ok (r11 (appA (k + 1)) c 0 H) fun r A => Gr H A ∧ LrQ H.n (C.now C.at') r A := by
 have hcur := hC.cur
 have hnow := now_fold hC C.at' C.at' (Nat.le_refl _) hcur
 have hdid := path_did hC C.at' C.at' (Nat.le_refl _) hcur
 have hpl : (C.path C.at').length ≤ 200 := by
  have := Chs.way_len_le hC hcur
  have := hC.most
  unfold Chs.path; rw [List.length_map]; omega
 have hpsz : ∀ x ∈ C.path C.at', x.size ≤ 4194304 := fun x hx => by
  unfold Chs.path at hx
  obtain ⟨p, _, rfl⟩ := List.mem_map.1 hx
  exact chg_size hC p
 unfold r11
 refine Lt.Ok.box (.nil H) fun A1 g1 c1 => ?_
 refine Lt.Ok.box c1 fun A2 g2 c2 => ?_
 have h2 := (h.gr g1).gr g2
 refine Lt.Ok.bind (path_ok h2 hC) fun vp B ⟨gB, hp⟩ => ?_
 dsimp only
 obtain ⟨c3, a3⟩ := c2.add gB hp.1
 generalize C.path C.at' = path at *
 have I0 : LrI H B H.n A1.n St.new vp ⟨true, 0, 0, 0, 0, 0⟩ ⟨true, 0, 0, 0, 0, 0⟩ ⟨true, 0, 0, 0, 0, 0⟩ ⟨true, 0, 0, 0, 0, 0⟩ path := ⟨c3, a3, AS.nil, AS.nil, AS.nil, AS.nil⟩
 refine Lt.Ok.loop (L := fun K (s : Sl × Sl × Sl × Sl × Int) D => r11_l0 (appA (k + 1)) K H.n s.1 s.2.1 s.2.2.1 A1.n s.2.2.2.1 vp (vp.len : Int) s.2.2.2.2 D) (fun m s D => ∃ i : Nat, s.2.2.2.2 = (i : Int) ∧ i + m = path.length ∧ LrI H D H.n A1.n ((path.take i).foldl stepS St.new) vp s.1 s.2.1 s.2.2.1 s.2.2.2.1 path) ?_ FUEL path.length (_, _, _, _, _) B (by unfold FUEL; omega) ⟨0, rfl, by omega, I0⟩
 rintro K m ⟨vn, vs, vo, vf, i'⟩ D ⟨i, hi', him, I⟩ ih
 dsimp only at hi' I ⊢
 subst hi'
 have hvl := I.slp.len
 rw [r11_l0]
 refine Lt.Ok.ite (fun hlt => ?_) fun hlt => ?_
 ·have hil : i < path.length := by omega
  obtain ⟨w, hw⟩ := hdid i hil
  have hsz := hpsz _ (List.getElem_mem hil)
  refine Lt.Ok.ck (by omega) (Lt.Ok.ld (ws_ld I.slp hil) ?_)
  refine Lt.Ok.bind (r52_ok hsz) fun v A ⟨hv, _, _, gA⟩ => ?_
  dsimp only
  refine r11_step (k := k) (I.gr gA) (fold_ok _ St.new_ok) (did_of hw) hv (fun x hx => Nat.le_trans (wordsN_size _ _ x hx) hsz) fun D' vn' vs' vo' vf' I' => ?_
  rw [w64_succ (by omega)]
  exact ih (m - 1) (vn', vs', vo', vf', _) D' (by omega) ⟨i + 1, rfl, by omega, I'⟩
 ·have hie : i = path.length := by omega
  subst hie
  rw [List.take_length, hnow] at I
  generalize C.now C.at' = s at *
  have c := I.cx
  have m5 : (A1.n, tsC s) ∈ sub vf (encs s.offers) ++ (sub vo (encs s.orders) ++ (sub vs (encs (stksS s)) ++ (sub vn (encs (nmsS s)) ++ (sub vp (encs path) ++ [(A1.n, tsC s), (H.n, z4)])))) := by simp
  refine Lt.Ok.cld c m5 (n := s.t0) rfl (Lt.Ok.cld c m5 (n := s.t1) rfl (Lt.Ok.cld c m5 (n := s.t2) rfl (Lt.Ok.cld c m5 (n := s.t3) rfl ?_)))
  have cp : Cx H D ((H.n, z4) :: (sub vf (encs s.offers) ++ (sub vo (encs s.orders) ++ (sub vs (encs (stksS s)) ++ (sub vn (encs (nmsS s)) ++ (sub vp (encs path) ++ [(A1.n, tsC s)])))))) := by
   refine c.perm ?_
   refine List.Perm.trans ?_ (permT _ _ _ _ _ _ _)
   exact ((((List.Perm.swap _ _ _).append_left _).append_left _).append_left _ |>.append_left _).append_left _
  refine Lt.Ok.cst cp 0 rfl rfl fun E _ _ c' => ?_
  have m1 : (H.n, tsC s) ∈ (((H.n, z4) :: (sub vf (encs s.offers) ++ (sub vo (encs s.orders) ++ (sub vs (encs (stksS s)) ++ (sub vn (encs (nmsS s)) ++ (sub vp (encs path) ++ [(A1.n, tsC s)])))))).set 0 (H.n, tsC s)) := .head _
  refine Lt.Ok.cld c' m1 (n := s.t0) rfl (Lt.Ok.cld c' m1 (n := s.t1) rfl (Lt.Ok.cld c' m1 (n := s.t2) rfl (Lt.Ok.cld c' m1 (n := s.t3) rfl (Lt.Ok.ret ⟨c'.g, ?_, ?_, ?_, rfl, ?_⟩))))
  ·exact c'.sln I.an fun p hp => by simp [hp]
  ·exact c'.sln I.as' fun p hp => by simp [hp]
  ·exact c'.sln I.ao fun p hp => by simp [hp]
  ·exact c'.sln I.af fun p hp => by simp [hp]
/-! ### strings.Split by a byte -/
def wordsNC (c : UInt8) : Nat → ByteArray → List ByteArray
 | 0, s => [s]
 | k + 1, s => if strIdx s (c.toNat : Int) < 0 then [s] else s.extract 0 (strIdx s (c.toNat : Int)).toNat :: wordsNC c k (s.extract ((strIdx s (c.toNat : Int)).toNat + 1) s.size)
def wordsC (c : UInt8) (s : ByteArray) : List ByteArray := wordsNC c (strCnt s (c.toNat : Int)).toNat s
theorem wordsN_C : ∀ k s, wordsNC 32 k s = wordsN k s
 | 0, _ => rfl
 | k + 1, s => by
  unfold wordsNC wordsN
  rw [show (((32 : UInt8).toNat : Nat) : Int) = 32 from rfl]
  split
  ·rfl
  ·rw [wordsN_C k]
theorem words_C (s : ByteArray) : wordsC 32 s = words s := by
 unfold wordsC words
 rw [show (((32 : UInt8).toNat : Nat) : Int) = 32 from rfl, wordsN_C]
/-! ### what stands between bytes, as lists -/
def spl (c : UInt8) : List UInt8 → List (List UInt8)
 | [] => [[]]
 | x :: l => if x = c then [] :: spl c l else match spl c l with
  | [] => [[x]]
  | w :: r => (x :: w) :: r
theorem spl_ne (c : UInt8) : ∀ l, spl c l ≠ []
 | [] => by simp [spl]
 | x :: l => by
  unfold spl
  split
  ·simp
  ·split <;> simp
theorem spl_no {c : UInt8} : ∀ {l : List UInt8}, c ∉ l → spl c l = [l]
 | [], _ => rfl
 | x :: l, h => by
  unfold spl
  rw [if_neg (fun e => h (by simp [e])), spl_no (l := l) fun e => h (by simp [e])]
theorem spl_cons (c x : UInt8) (l : List UInt8) : spl c (x :: l) = if x = c then [] :: spl c l else match spl c l with
  | [] => [[x]]
  | w :: r => (x :: w) :: r := by
 conv => lhs; unfold spl
theorem spl_cut {c : UInt8} : ∀ {a b : List UInt8}, c ∉ a → spl c (a ++ c :: b) = a :: spl c b
 | [], b, _ => by rw [List.nil_append, spl_cons, if_pos rfl]
 | x :: a, b, h => by
  rw [List.cons_append, spl_cons, if_neg (fun e => h (by simp [e])), spl_cut (a := a) fun e => h (by simp [e])]
theorem spl_append (c : UInt8) : ∀ (a b : List UInt8), spl c (a ++ c :: b) = spl c a ++ spl c b
 | [], b => by rw [List.nil_append, spl_cons, if_pos rfl]; rfl
 | x :: a, b => by
  rw [List.cons_append, spl_cons, spl_cons, spl_append c a b]
  split
  ·rfl
  ·cases h : spl c a with
   | nil => exact absurd h (spl_ne c a)
   | cons w r => rfl
def Bs (l : List UInt8) : ByteArray := ⟨l.toArray⟩
def Lb (b : ByteArray) : List UInt8 := b.data.toList
theorem Bs_Lb (b : ByteArray) : Bs (Lb b) = b := by
 unfold Bs Lb
 rw [Array.toArray_toList]
theorem Lb_app (a b : ByteArray) : Lb (a ++ b) = Lb a ++ Lb b := by simp [Lb]
theorem Lb_size (b : ByteArray) : (Lb b).length = b.size := by unfold Lb; rw [Array.length_toList]; rfl
theorem Lb_inj {a b : ByteArray} (h : Lb a = Lb b) : a = b := by rw [← Bs_Lb a, ← Bs_Lb b, h]
theorem Lb_ext (b : ByteArray) (i j : Nat) : Lb (b.extract i j) = (Lb b).extract i j := by
 unfold Lb
 rw [ByteArray.data_extract, Array.toList_extract]
theorem get_bang {s : ByteArray} {i : Nat} (h : i < s.size) : s[i]! = (Lb s)[i]'(by rw [Lb_size]; exact h) := by
 rw [getElem!_pos s i h]
 exact bget s i h
theorem byte_back (c : UInt8) : ((c.toNat : Int)).toNat.toUInt8 = c := by simp
theorem strIdx_is {s : ByteArray} {c : UInt8} {i : Nat} (h : strIdx s (c.toNat : Int) = i) : ∃ a b, Lb s = a ++ c :: b ∧ c ∉ a ∧ a.length = i := by
 unfold strIdx at h
 split at h
 ·rename_i j hj
  have hji : j = i := by omega
  subst hji
  rw [List.find?_range_eq_some] at hj
  obtain ⟨h1, h2, h3⟩ := hj
  rw [byte_back] at h1
  have hs := List.mem_range.1 h2
  rw [get_bang hs, beq_iff_eq] at h1
  have hl : j < (Lb s).length := by rw [Lb_size]; exact hs
  refine ⟨(Lb s).take j, (Lb s).drop (j + 1), ?_, fun hm => ?_, by rw [List.length_take]; omega⟩
  ·rw [← h1, ← List.drop_eq_getElem_cons hl, List.take_append_drop]
  ·obtain ⟨k, hk, e⟩ := List.mem_iff_getElem.1 hm
   rw [List.length_take] at hk
   rw [List.getElem_take] at e
   have := h3 k (by omega)
   rw [byte_back, get_bang (by omega), e] at this
   simp at this
 ·omega
theorem strIdx_neg {s : ByteArray} {c : UInt8} (h : strIdx s (c.toNat : Int) < 0) : c ∉ Lb s := by
 intro hm
 obtain ⟨k, hk, e⟩ := List.mem_iff_getElem.1 hm
 unfold strIdx at h
 split at h
 ·omega
 ·rename_i hn
  have := List.find?_eq_none.1 hn k (List.mem_range.2 (by rw [← Lb_size]; exact hk))
  rw [byte_back, get_bang (by rw [← Lb_size]; exact hk), e] at this
  simp at this
theorem strCnt_eqC (s : ByteArray) (c : UInt8) : strCnt s (c.toNat : Int) = ((Lb s).count c : Nat) := by
 unfold strCnt
 rw [Lib.foldl_data, Lib.count_foldl]
 unfold Lib.countByte
 rw [byte_back]
 simp [Lb]
theorem wordsNC_spl (c : UInt8) : ∀ (k : Nat) (s : ByteArray), (Lb s).count c = k → (wordsNC c k s).map Lb = spl c (Lb s)
 | 0, s, h => by
  unfold wordsNC
  rw [spl_no (List.count_eq_zero.1 h)]; rfl
 | k + 1, s, h => by
  unfold wordsNC
  split
  ·rename_i hn
   have := strIdx_neg hn
   rw [List.count_eq_zero.2 this] at h
   cases h
  ·rename_i hn
   rcases strIdx_cases s (c.toNat : Int) with e | ⟨i, e, hi⟩
   ·omega
   ·obtain ⟨a, b, e1, e2, e3⟩ := strIdx_is e
    rw [e, Int.toNat_natCast]
    have x1 : Lb (s.extract 0 i) = a := by
     rw [Lb_ext, e1, List.extract_eq_take_drop]
     simp [← e3]
    have x2 : Lb (s.extract (i + 1) s.size) = b := by
     rw [Lb_ext, e1, List.extract_eq_take_drop, ← Lb_size, e1, ← e3]
     have : (a ++ c :: b).drop (a.length + 1) = b := by rw [List.drop_append]; simp
     rw [this, List.take_of_length_le (by simp; omega)]
    rw [List.map_cons, x1, wordsNC_spl c k _ (by
     rw [x2]
     rw [e1, List.count_append, List.count_cons, List.count_eq_zero.2 e2] at h
     simp at h; omega), x2, e1, spl_cut e2]
theorem wordsC_spl (c : UInt8) (s : ByteArray) : (wordsC c s).map Lb = spl c (Lb s) := by
 unfold wordsC
 exact wordsNC_spl c _ s (by rw [strCnt_eqC]; simp)
theorem words_spl (s : ByteArray) : (words s).map Lb = spl 32 (Lb s) := by
 rw [← words_C, wordsC_spl]
theorem map_Lb_inj {a b : List ByteArray} (h : a.map Lb = b.map Lb) : a = b := by
 have : ∀ l : List ByteArray, (l.map Lb).map Bs = l := fun l => by
  rw [List.map_map]
  conv => rhs; rw [← List.map_id l]
  exact List.map_congr_left fun x _ => Bs_Lb x
 rw [← this a, ← this b, h]
theorem words_append (a b : ByteArray) : words ((a ++ ByteArray.mk #[32]) ++ b) = words a ++ words b := by
 apply map_Lb_inj
 rw [words_spl, List.map_append, words_spl, words_spl, Lb_app, Lb_app]
 have : Lb (ByteArray.mk #[32]) = [32] := rfl
 rw [this, List.append_assoc]
 exact spl_append 32 _ _
/-! ### a give, by its words -/
def sp1 : ByteArray := ByteArray.mk #[32]
theorem Lb_join (w : ByteArray) (l : List ByteArray) : Lb (joinA (w :: l) sp1) = Lb w ++ (l.map fun x => (32 : UInt8) :: Lb x).flatten := by
 unfold joinA Lb sp1
 simp only [List.map_cons, Lib.join_cons, Lib.joinTail, List.map_map]
 congr 1
theorem join_two (w x : ByteArray) : joinA [w, x] sp1 = w ++ (sp1 ++ x) := by
 apply Lb_inj
 rw [Lb_join, Lb_app, Lb_app]
 simp [sp1]
 rfl
theorem copied {B : Hp} {x y z w : Int} {α : Type} {Q : α → Hp → Prop} {f : Hp → Option (α × Hp)} (k : ∀ D, Gr B D → Lt.Ok (f D) Q) : Lt.Ok (((B.push (.cells [.int .i64 0, .int .i64 0, .int .i64 0, .int .i64 0] false)).sts B.n 0 [.int .i64 x, .int .i64 y, .int .i64 z, .int .i64 w]).bind f) Q :=
 Lt.Ok.alo (.nil B) fun D g _ => k D g
/-! ### a word and one more, asked -/
theorem name_Lb {x : ByteArray} (h : isNameS x = true) : (∀ c ∈ Lb x, 97 ≤ c.toNat ∧ c.toNat ≤ 122) ∧ 1 ≤ x.size ∧ x.size ≤ 8 := by
 rw [isNameS_eq] at h
 simp only [Bool.and_eq_true, decide_eq_true_eq, List.all_eq_true] at h
 exact ⟨fun c hc => by have := h.2 c hc; unfold lowB at this; simpa using this, h.1⟩
theorem words_no {x : ByteArray} (h : (32 : UInt8) ∉ Lb x) : words x = [x] := map_Lb_inj (by rw [words_spl, spl_no h]; rfl)
theorem words_two {w x : ByteArray} (hw : (32 : UInt8) ∉ Lb w) (hx : (32 : UInt8) ∉ Lb x) : words (w ++ (sp1 ++ x)) = [w, x] := by
 have e : w ++ (sp1 ++ x) = (w ++ ByteArray.mk #[32]) ++ x := by apply Lb_inj; simp only [Lb_app, List.append_assoc]; rfl
 rw [e, words_append, words_no hw, words_no hx]; rfl
def Plain (w : ByteArray) : Prop := 1 ≤ w.size ∧ w.size ≤ 20 ∧ ∀ c ∈ Lb w, 33 ≤ c.toNat ∧ c.toNat ≤ 126
theorem Plain.no {w : ByteArray} (h : Plain w) : (32 : UInt8) ∉ Lb w := fun hc => by have := h.2.2 _ hc; simp at this
theorem name_plain {x : ByteArray} (h : isNameS x = true) : Plain x := ⟨(name_Lb h).2.1, by have := (name_Lb h).2.2; omega, fun c hc => by have := (name_Lb h).1 c hc; omega⟩
theorem line_two {w x : ByteArray} (hw : Plain w) (hx : Plain x) : isLineS (w ++ (sp1 ++ x)) = true := by
 unfold isLineS
 rw [words_two hw.no hx.no]
 have z1 : sp1.size = 1 := rfl
 have ne : ∀ y : ByteArray, 1 ≤ y.size → strEq (ByteArray.mk #[]) y = false := fun y hy => by
  cases h : strEq (ByteArray.mk #[]) y with
  | false => rfl
  | true => have : ByteArray.mk #[] = y := strEq_iff.1 h
            subst this; exact absurd hy (by decide)
 simp only [Bool.and_eq_true, decide_eq_true_eq, List.all_eq_true, Bool.not_eq_true', List.any_cons, List.any_nil, Bool.or_false, ne _ hw.1, ne _ hx.1]
 refine ⟨⟨by simp only [ByteArray.size_append]; have := hw.2.1; have := hx.2.1; omega, trivial⟩, fun c hc => ?_⟩
 have hc : c ∈ Lb (w ++ (sp1 ++ x)) := hc
 simp only [Lb_app, List.mem_append] at hc
 rcases hc with h | h | h
 ·have := hw.2.2 c h; omega
 ·have : c = 32 := by simpa [Lb, sp1] using h
  subst this; decide
 ·have := hx.2.2 c h; omega
theorem read_two {f w x : ByteArray} (hf : f.size = 1) (hw : Plain w) (hx : Plain x) : readS f (w ++ (sp1 ++ x)) = parseS f.data.toList [x] := by
 unfold readS
 rw [words_two hw.no hx.no, if_pos ⟨by rw [hf]; rfl, line_two hw hx⟩]; rfl
theorem wordS_two {w x : ByteArray} (hw : Plain w) (hx : Plain x) : wordS (w ++ (sp1 ++ x)) = w := by
 have hl := line_two hw hx
 have hw2 := words_two hw.no hx.no
 have e : wordS (w ++ (sp1 ++ x)) = w := by
  unfold wordS
  unfold words at hw2
  obtain ⟨k, hk, hs⟩ := strCnt_eq (w ++ (sp1 ++ x)) 32
  rw [hk, Int.toNat_natCast] at hw2
  cases k with
  | zero => unfold wordsN at hw2; simp at hw2
  | succ k =>
   unfold wordsN at hw2
   split at hw2
   ·simp at hw2
   ·rename_i h
    rw [if_pos (by omega)]
    injection hw2
 exact e
theorem heavy_text {m : Int} (h0 : 0 ≤ m) (h1 : m < 10) (s : St) : wordS (wHeavy ++ (sp1 ++ itoaA m)) = wHeavy ∧ askV fD (wHeavy ++ (sp1 ++ itoaA m)) wHeavy (fHeavy s) = if 1 ≤ m ∧ m ≤ 8 then (joinA (wHeavy :: (heavyL m s.orders).map (nameOf s)) sp1, 0) else (ByteArray.mk #[], 2) := by
 obtain ⟨n, rfl⟩ := Int.eq_ofNat_of_zero_le h0
 have key : ∀ n : Nat, n < 10 → wordS (wHeavy ++ (sp1 ++ itoaA (n : Int))) = wHeavy ∧ readS fD (wHeavy ++ (sp1 ++ itoaA (n : Int))) = some ([], [(n : Int)]) := by decide +kernel
 obtain ⟨k1, k2⟩ := key n (by omega)
 refine ⟨k1, ?_⟩
 unfold askV
 rw [k2]
 dsimp only
 unfold fHeavy
 dsimp only
 split <;> rfl
theorem fOften_eq {s : St} {a : ByteArray} {i : Nat} {nu : List Int} (h : s.find a = some i) : fOften s ([a], nu) = ([itoaA ((cntI (i : Int) s.orders : Nat) : Int)], 0) := by
 unfold fOften
 dsimp only
 rw [h]
theorem often_text {s : St} (hs : s.Ok) {i : Nat} (hi : i < s.leaves.length) : wordS (wOften ++ (sp1 ++ (s.leaves[i]).1)) = wOften ∧ askV fN (wOften ++ (sp1 ++ (s.leaves[i]).1)) wOften (fOften s) = (wOften ++ (sp1 ++ itoaA ((cntI (i : Int) s.orders : Nat) : Int)), 0) := by
 have hn := hs.na _ (List.getElem_mem hi)
 have hp := name_plain hn
 have hw : Plain wOften := ⟨by decide, by decide, by decide⟩
 refine ⟨wordS_two hw hp, ?_⟩
 unfold askV
 have e : parseS fN.data.toList [(s.leaves[i]).1] = some ([(s.leaves[i]).1], []) := by
  show (if (110 : UInt8) = 110 then if isNameS (s.leaves[i]).1 = true then (parseS [] []).map fun p => ((s.leaves[i]).1 :: p.1, p.2) else none else _) = _
  rw [if_pos rfl, if_pos hn]; rfl
 rw [read_two (by rfl) hw hp, e]
 dsimp only
 have ef : s.find (s.leaves[i]).1 = some i := by
  unfold St.find
  rw [List.findIdx?_eq_some_iff_getElem]
  refine ⟨hi, strEq_iff.2 rfl, fun j hj hc => ?_⟩
  have hc := strEq_iff.1 hc
  have hji : j < s.leaves.length := by omega
  have := (List.getElem?_inj (l := s.leaves.map (·.1)) (i := j) (j := i) (by rw [List.length_map]; omega) hs.un).1 (by rw [List.getElem?_map, List.getElem?_map, List.getElem?_eq_getElem hji, List.getElem?_eq_getElem hi]; simpa using hc)
  omega
 rw [fOften_eq ef]
 dsimp only
 rw [if_pos rfl]
 exact congrArg (fun x => (x, (0 : Int))) (join_two _ _)
def joinS (w : ByteArray) (l : List ByteArray) : ByteArray := l.foldl (fun a x => a ++ (sp1 ++ x)) w
theorem joinS_snoc (w : ByteArray) (l : List ByteArray) (x : ByteArray) : joinS w (l ++ [x]) = joinS w l ++ (sp1 ++ x) := by
 unfold joinS; rw [List.foldl_append]; rfl
theorem joinS_eq (w : ByteArray) (l : List ByteArray) : joinS w l = joinA (w :: l) sp1 := by
 apply Lb_inj
 rw [Lb_join]
 refine snocInd (P := fun l => Lb (joinS w l) = Lb w ++ (l.map fun x => (32 : UInt8) :: Lb x).flatten) (by simp [joinS]) (fun l x ih => ?_) l
 rw [joinS_snoc, Lb_app, Lb_app, ih]
 simp [sp1, Lb]
theorem joinS_size {B : Nat} (w : ByteArray) (l : List ByteArray) (h : ∀ x ∈ l, x.size ≤ B) : (joinS w l).size ≤ w.size + l.length * (B + 1) := by
 revert h
 refine snocInd (P := fun l => (∀ x ∈ l, x.size ≤ B) → (joinS w l).size ≤ w.size + l.length * (B + 1)) (by simp [joinS]) (fun l x ih h => ?_) l
 rw [joinS_snoc, List.length_append]
 have := ih fun y hy => h y (by simp [hy])
 have := h x (by simp)
 have z1 : sp1.size = 1 := rfl
 simp only [ByteArray.size_append, List.length_cons, List.length_nil, Nat.add_mul]
 omega
end Go.Lt.P10
