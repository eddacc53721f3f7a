/- PLAIN LAWS OF WHAT IS COMPUTED, for the statement 'ChestPages'. Nothing is asked of the input. -/
import Derived.Test.YtnigfapfghgmnaaGreatDoorU4CMv
import Derived.Test.YtnigfapfghgmnaaGreatDoorU4CGw
set_option linter.unusedVariables false
set_option linter.unusedSimpArgs false
namespace Go.Lt.P10
open Go Go.Lt Go.Proofs
/-! ### the path, in plain Lean -/
def Chs.path (C : Chs) (p : Nat) : List ByteArray := (C.way p).map C.chg
/-- a new chest that has done the first changes of a path -/
structure Along (C : Chs) (p i : Nat) (D : Chs) : Prop where
  ok : D.Ok
  len : D.pages.length = i + 1
  cur : D.at' = i
  st : ∀ q, (0 :: C.way p)[i]? = some q → D.now i = C.now q
  lnk : ∀ j x, j < i → (C.way p)[j]? = some x → D.par (j + 1) = j ∧ D.chg (j + 1) = C.chg x
theorem Along.new {C : Chs} (hC : C.Ok) (p : Nat) : Along C p 0 Chs.new where
  ok := Chs.new_ok
  len := rfl
  cur := rfl
  st := fun q hq => by
    have : q = 0 := by simpa using hq.symm
    subst this
    rw [hC.root.2]; rfl
  lnk := fun j x h => by omega
theorem Chs.way_len_le {C : Chs} (hC : C.Ok) {p : Nat} (hp : p < C.pages.length) : (C.way p).length ≤ p := by
  rw [Chs.way_eq hC hp, List.length_reverse]; exact Chs.ups_len hC _ _
theorem Chs.chain_get {C : Chs} : ∀ (l : List Nat) (q i : Nat) (h : i < l.length), C.Chain q l → 0 < l[i] ∧ l[i] < C.pages.length ∧ C.par l[i] = (q :: l)[i]'(by simp; omega)
  | x :: l, q, 0, _, h => ⟨h.1, h.2.1, h.2.2.1⟩
  | x :: l, q, i + 1, hi, h => Chs.chain_get l x i (by simpa using hi) h.2.2.2
theorem Along.child {C D : Chs} {p i : Nat} (h : Along C p i D) (ch : ByteArray) : D.child i ch = none := by
  unfold Chs.child
  rw [List.findIdx?_eq_none_iff]
  intro q hq
  obtain ⟨j, hj, rfl⟩ := List.mem_iff_getElem.1 hq
  have hl := h.len
  have hpar : D.pages[j].parent = D.par j := par_get hj
  have hchg : D.pages[j].change = D.chg j := chg_get hj
  rw [hpar, hchg]
  by_cases h0 : j = 0
  · subst h0
    rw [h.ok.rc]
    have : strEq (ByteArray.mk #[]) (ByteArray.mk #[]) = true := by decide +kernel
    rw [this]; simp
  · have := h.ok.up j (by omega) hj
    rw [decide_eq_false (by omega)]; simp
theorem Along.step {C D : Chs} {p i : Nat} (hC : C.Ok) (hp : p < C.pages.length) (h : Along C p i D) (hi : i < (C.way p).length) :
    (D.do (C.chg ((C.way p)[i]))).2.2 = 0 ∧ Along C p (i + 1) (D.do (C.chg ((C.way p)[i]))).1 := by
  have hch := Chs.way_chain hC p p (Nat.le_refl _) hp
  obtain ⟨h0, hx, hpar⟩ := Chs.chain_get _ _ i hi hch
  obtain ⟨w, hd⟩ := hC.did _ h0 hx
  have hst := h.st _ (List.getElem?_eq_getElem (by simp; omega))
  rw [hpar] at hd
  have hcur := h.cur
  have hl := h.len
  have hwl := Chs.way_len_le hC hp
  have hm := hC.most
  have hdo : D.do (C.chg ((C.way p)[i])) = (⟨D.pages ++ [⟨C.chg ((C.way p)[i]), i, C.now ((C.way p)[i])⟩], i + 1⟩, w, 0) := by
    unfold Chs.do
    rw [hcur, hst, hd]
    dsimp only
    rw [h.child]
    dsimp only
    rw [if_neg (by omega), hl]
  have hok := Chs.do_ok h.ok (C.chg ((C.way p)[i]))
  rw [hdo] at hok ⊢
  refine ⟨rfl, hok, by simp; omega, rfl, fun q hq => ?_, fun j x hj hq => ?_⟩
  · have : q = (C.way p)[i] := by
      rw [List.getElem?_cons_succ, List.getElem?_eq_getElem hi] at hq
      injection hq with hq; exact hq.symm
    subst this
    unfold Chs.now
    dsimp only
    rw [List.getElem?_append_right (by omega)]
    simp [hl]
  · by_cases he : j = i
    · subst he
      rw [List.getElem?_eq_getElem hi] at hq
      injection hq with hq
      subst hq
      unfold Chs.par Chs.chg
      dsimp only
      rw [List.getElem?_append_right (by omega)]
      simp [hl]
    · obtain ⟨k1, k2⟩ := h.lnk j x (by omega) hq
      have e : (D.pages ++ [(⟨C.chg ((C.way p)[i]), i, C.now ((C.way p)[i])⟩ : Pg)])[j + 1]? = D.pages[j + 1]? := List.getElem?_append_left (by omega)
      exact ⟨by show (Option.map _ _).getD 0 = j; rw [e]; exact k1, by show (Option.map _ _).getD (ByteArray.mk #[]) = _; rw [e]; exact k2⟩
theorem Along.path {C D : Chs} {p i : Nat} (hC : C.Ok) (h : Along C p i D) (hi : i ≤ (C.way p).length) : ∀ j, j ≤ i → (D.way j).map D.chg = ((C.way p).take j).map C.chg
  | 0, _ => by rw [Chs.way_zero h.ok]; rfl
  | j + 1, hj => by
    have hl := h.len
    obtain ⟨k1, k2⟩ := h.lnk j ((C.way p)[j]'(by omega)) (by omega) (List.getElem?_eq_getElem (by omega))
    rw [Chs.way_step h.ok (by omega) (by omega), k1, List.map_append, Along.path hC h hi j (by omega), List.take_succ_eq_append_getElem (by omega), List.map_append]
    simp [k2]
/-- the whole path done -/
theorem Along.full {C D : Chs} {p : Nat} (hC : C.Ok) (hp : p < C.pages.length) (h : Along C p (C.way p).length D) : D.now D.at' = C.now p ∧ D.path D.at' = C.path p := by
  rw [h.cur]
  refine ⟨h.st p ?_, ?_⟩
  · have := Chs.ways_last' hC hp
    rw [List.getLast_eq_getElem] at this
    rw [List.getElem?_eq_getElem (by simp)]
    simpa using this
  · have := h.path hC (Nat.le_refl _) _ (Nat.le_refl _)
    rw [List.take_length] at this
    exact this
theorem Chs.anc_way {C : Chs} (hC : C.Ok) : ∀ (n p : Nat), p ≤ n → p < C.pages.length → C.anc (C.way p).length p = 0
  | n, p, hn, hp => by
    by_cases h0 : p = 0
    · subst h0; rw [Chs.way_zero hC]; rfl
    · have hup := hC.up p (by omega) hp
      obtain ⟨n, rfl⟩ : ∃ n', n = n' + 1 := ⟨n - 1, by omega⟩
      rw [Chs.way_step hC h0 hp, List.length_append]
      exact Chs.anc_way hC n _ (by omega) (by omega)
/-- going back all of the way -/
theorem Chs.back_all {C : Chs} (hC : C.Ok) : C.back ((C.way C.at').length : Int) = (⟨C.pages, 0⟩, 0) := by
  unfold Chs.back
  rw [if_neg (by omega), if_neg (by omega)]
  simp only [Int.toNat_natCast]
  rw [Chs.anc_way hC _ _ (Nat.le_refl _) hC.cur]
theorem Chs.path_at (C : Chs) (q p : Nat) : Chs.path ⟨C.pages, q⟩ p = C.path p := by
  unfold Chs.path
  rw [Chs.way_at]; rfl
theorem actS_inl {s : St} {w text form r : ByteArray} {f : St → List ByteArray × List Int → Act} {e : Int} (hf : ∀ p e, f s p = .inl e → e ≠ 0) (h : actS s w text form f = (.inl e, r)) : e ≠ 0 ∧ r = ByteArray.mk #[] := by
  unfold actS at h
  split at h
  · injection h with h1 h2
    injection h1 with h1
    subst h1
    exact ⟨by decide, h2.symm⟩
  · split at h
    · rename_i e' he
      injection h with h1 h2
      injection h1 with h1
      subst h1
      exact ⟨hf _ _ he, h2.symm⟩
    · injection h with h1 h2
      cases h1
theorem inl_ne {a b : Int} {h : b ≠ 0} (e : (Sum.inl b : Act) = .inl a) : a ≠ 0 := by injection e with e; omega
/-- an error is none of the documented ones' zero -/
theorem doS_inl {s : St} {text r : ByteArray} {e : Int} (h : doS s text = (.inl e, r)) : e ≠ 0 ∧ r = ByteArray.mk #[] := by
  unfold doS at h
  split at h
  · refine actS_inl (fun p e hp => ?_) h
    unfold fLeaf at hp
    split at hp
    · unfold leafS at hp
      split at hp
      · exact inl_ne (h := by decide) hp
      split at hp
      · exact inl_ne (h := by decide) hp
      split at hp
      · exact inl_ne (h := by decide) hp
      · cases hp
    · exact inl_ne (h := by decide) hp
  split at h
  · refine actS_inl (fun p e hp => ?_) h
    unfold fGive at hp
    split at hp
    · unfold giveS at hp
      split at hp
      · split at hp
        · cases hp
        · exact inl_ne (h := by decide) hp
      · exact inl_ne (h := by decide) hp
    · exact inl_ne (h := by decide) hp
  split at h
  · refine actS_inl (fun p e hp => ?_) h
    unfold fOrder at hp
    split at hp
    · unfold orderS at hp
      split at hp
      · exact inl_ne (h := by decide) hp
      split at hp
      · exact inl_ne (h := by decide) hp
      split at hp
      · exact inl_ne (h := by decide) hp
      · cases hp
    · exact inl_ne (h := by decide) hp
  split at h
  · refine actS_inl (fun p e hp => ?_) h
    unfold fTaste at hp
    split at hp
    · unfold tasteS at hp
      split at hp
      · exact inl_ne (h := by decide) hp
      split at hp
      · exact inl_ne (h := by decide) hp
      · cases hp
    · exact inl_ne (h := by decide) hp
  split at h
  · refine actS_inl (fun p e hp => ?_) h
    unfold fOffer at hp
    split at hp
    · unfold offerS at hp
      split at hp
      · exact inl_ne (h := by decide) hp
      split at hp
      · exact inl_ne (h := by decide) hp
      split at hp
      · exact inl_ne (h := by decide) hp
      · cases hp
    · exact inl_ne (h := by decide) hp
  · injection h with h1 h2
    exact ⟨inl_ne (h := by decide) h1, h2.symm⟩
/-- a change that is not made -/
theorem Chs.do_not {C : Chs} {line : ByteArray} (h : (C.do line).2.2 ≠ 0) : (C.do line).1 = C ∧ (C.do line).2.1 = ByteArray.mk #[] := by
  unfold Chs.do at h ⊢
  split
  · exact ⟨rfl, rfl⟩
  · rename_i s w hd
    rw [hd] at h
    dsimp only at h
    split
    · rename_i i hi
      rw [hi] at h
      exact absurd rfl h
    · rename_i hi
      rw [hi] at h
      dsimp only at h
      split
      · exact ⟨rfl, rfl⟩
      · rename_i h2
        rw [if_neg h2] at h
        exact absurd rfl h
theorem Chs.child_pos {C : Chs} (hC : C.Ok) {p i : Nat} {ch : ByteArray} (h : C.child p ch = some i) : 0 < i := by
  obtain ⟨hi, hp, _⟩ := List.findIdx?_eq_some_iff_getElem.1 h
  rcases Nat.eq_zero_or_pos i with h0 | h0
  · subst h0
    rw [chg_get hi, hC.rc] at hp
    have : strEq (ByteArray.mk #[]) (ByteArray.mk #[]) = true := by decide +kernel
    rw [this] at hp
    simp at hp
  · exact h0
/-- after a change one page back -/
theorem Chs.do_then {C : Chs} (hC : C.Ok) {line : ByteArray} (h : (C.do line).2.2 = 0) :
    (C.do line).1.at' ≠ 0 ∧ (C.do line).1.par (C.do line).1.at' = C.at' ∧ (C.do line).1.chg (C.do line).1.at' = line ∧ (∀ i, i < C.pages.length → (C.do line).1.now i = C.now i ∧ (C.do line).1.par i = C.par i ∧ (C.do line).1.chg i = C.chg i) ∧
    (⟨(C.do line).1.pages, C.at'⟩ : Chs).do line = C.do line ∧ C.pages.length ≤ (C.do line).1.pages.length := by
  have hok := Chs.do_ok hC line
  rcases hd : doS (C.now C.at') line with ⟨e | s, w⟩
  · have e1 : C.do line = (C, ByteArray.mk #[], e) := by unfold Chs.do; rw [hd]
    rw [e1] at h
    exact absurd h (doS_inl hd).1
  cases hi : C.child C.at' line with
  | some i =>
    have e1 : C.do line = (⟨C.pages, i⟩, w, 0) := by unfold Chs.do; rw [hd]; dsimp only; rw [hi]
    rw [e1]
    obtain ⟨h1, h2⟩ := Chs.child_is hi
    have h0 := Chs.child_pos hC hi
    exact ⟨by dsimp only; omega, h1, h2, fun i hi => ⟨rfl, rfl, rfl⟩, e1, Nat.le_refl _⟩
  | none =>
    by_cases h2 : C.pages.length = 200
    · have e1 : C.do line = (C, ByteArray.mk #[], 7) := by unfold Chs.do; rw [hd]; dsimp only; rw [hi]; dsimp only; rw [if_pos h2]
      rw [e1] at h
      exact absurd h (by dsimp only; decide)
    have e1 : C.do line = (⟨C.pages ++ [⟨line, C.at', s⟩], C.pages.length⟩, w, 0) := by unfold Chs.do; rw [hd]; dsimp only; rw [hi]; dsimp only; rw [if_neg h2]
    rw [e1] at hok ⊢
    dsimp only at hok ⊢
    have hone := hC.one
    generalize hD : (⟨C.pages ++ [(⟨line, C.at', s⟩ : Pg)], C.pages.length⟩ : Chs) = D at hok
    have hDp : C.pages ++ [(⟨line, C.at', s⟩ : Pg)] = D.pages := by rw [← hD]
    have old : ∀ i, i < C.pages.length → D.pages[i]? = C.pages[i]? := fun i hi => by rw [← hDp]; exact List.getElem?_append_left hi
    have new : D.pages[C.pages.length]? = some ⟨line, C.at', s⟩ := by rw [← hDp]; simp
    have hp : D.par C.pages.length = C.at' := by unfold Chs.par; rw [new]; rfl
    have hc : D.chg C.pages.length = line := by unfold Chs.chg; rw [new]; rfl
    have hlen : C.pages.length < D.pages.length := by rw [← hDp]; simp
    have hu := hok.uq C.pages.length (by omega) hlen
    rw [hp, hc] at hu
    refine ⟨by omega, hp, hc, fun i hi => ⟨by unfold Chs.now; rw [old i hi], by unfold Chs.par; rw [old i hi], by unfold Chs.chg; rw [old i hi]⟩, ?_, by simp⟩
    rw [hDp]
    have e2 : (⟨D.pages, C.at'⟩ : Chs).now C.at' = C.now C.at' := by unfold Chs.now; dsimp only; rw [old _ hC.cur]
    have e3 : (⟨D.pages, C.at'⟩ : Chs).child C.at' line = some C.pages.length := hu
    unfold Chs.do
    dsimp only
    rw [e2, hd]
    dsimp only
    rw [e3]
    dsimp only
    rw [← hD]
/-- the path behind a change -/
theorem Chs.path_do {C D : Chs} (hC : C.Ok) (hD : D.Ok) {line : ByteArray} (h0 : D.at' ≠ 0) (hp : D.par D.at' = C.at') (hc : D.chg D.at' = line) (hold : ∀ i, i < C.pages.length → D.now i = C.now i ∧ D.par i = C.par i ∧ D.chg i = C.chg i) (hl : C.pages.length ≤ D.pages.length) : D.path D.at' = C.path C.at' ++ [line] := by
  have hw : ∀ (n p : Nat), p ≤ n → p < C.pages.length → D.way p = C.way p := by
    intro n
    induction n with
    | zero => intro p hp _; have : p = 0 := by omega
              subst this; rw [Chs.way_zero hD, Chs.way_zero hC]
    | succ n ih =>
      intro p hp hpl
      by_cases hz : p = 0
      · subst hz; rw [Chs.way_zero hD, Chs.way_zero hC]
      · have hup := hC.up p (by omega) hpl
        rw [Chs.way_step hD hz (by omega), Chs.way_step hC hz hpl, (hold p hpl).2.1, ih _ (by omega) (by omega)]
  unfold Chs.path
  rw [Chs.way_step hD h0 hD.cur, hp, hw C.at' C.at' (Nat.le_refl _) hC.cur, List.map_append, List.map_cons, hc]
  congr 1
  refine List.map_congr_left fun x hx => ?_
  have := (Chs.way_mem hC hx).2
  have := hC.cur
  exact (hold x (by omega)).2.2
end Go.Lt.P10

namespace Go.Lt.P10
open Go Go.Lt Go.Proofs
section
variable {H : Hp} {c : Nat} {pv : Sl} {C : Chs} {t : Nat}
/-- Path -/
theorem path_ok (h : ChAt H c pv C t) (hC : C.Ok) : Lt.Ok (r16 c 0 H) fun r A => Gr H A ∧ AccN H.n A r (C.path C.at') := by
  unfold r16
  refine is (none_ok h hC) (Lt.Ok.neg (by simp) ?_)
  dsimp only
  have hm := hC.most
  refine Lt.Ok.ld (ldI_get h.get rfl) (Lt.Ok.bind (way_ok h hC hC.cur) fun v A ⟨g, hv⟩ => ?_)
  have hA := h.gr g
  have hvs := hv.sl
  have hl := hv.len
  rw [ints_len] at hl
  have hwl := C.way_len hC C.at'
  dsimp only
  refine Lt.Ok.loop (L := fun K (s : Sl × Int) B => r16_l0 K c 0 s.1 v (v.len : Int) s.2 B) (fun m s B => ∃ i : Nat, s.2 = (i : Int) ∧ i + m = (C.way C.at').length ∧ Gr A B ∧ AccN A.n B s.1 (((C.way C.at').take i).map C.chg)) ?_ FUEL (C.way C.at').length (⟨true, 0, 0, 0, 0, 0⟩, 0) A (by unfold FUEL; omega) ⟨0, rfl, by omega, .refl _, ⟨AccL.nilS, fun _ => rfl⟩⟩
  rintro K m ⟨r, i'⟩ B ⟨i, hi, him, gB, ha⟩ ih
  dsimp only at *
  subst hi
  have hB := hA.gr gB
  have hlen := hB.len
  rw [r16_l0]
  refine Lt.Ok.ite (fun hlt => ?_) fun hlt => ?_
  · have hil : i < (C.way C.at').length := by omega
    have hx : (C.way C.at')[i] < C.pages.length := by
      have := (Chs.way_mem hC (List.getElem_mem hil)).2
      have := hC.cur
      omega
    refine Lt.Ok.ck (by omega) (Lt.Ok.ld ((hvs.gr gB).ldI (i := i) (j := 0) (n := ((C.way C.at')[i] : Int)) (by rw [ints_len]; exact hil) (by simp only [ints, List.getElem_map]; rfl)) (Lt.Ok.ld (ldSl_get hB.get rfl) (Lt.Ok.ck (by omega) (Lt.Ok.ld (hB.ldCh hx) ?_))))
    rw [chg_get hx]
    refine Lt.Ok.bind (AccN.push ha gB.1 (C.chg (C.way C.at')[i]) rfl rfl (by simp; omega)) fun r' D ⟨k1, k2, k3, k4⟩ => ?_
    dsimp only
    rw [w64_succ (by omega)]
    refine ih (m - 1) (r', _) D (by omega) ⟨i + 1, rfl, by omega, But.gr k2 ha.1 gB, ?_⟩
    rw [List.take_succ_eq_append_getElem hil, List.map_append]
    exact k1
  · have : i = (C.way C.at').length := by omega
    subst this
    rw [List.take_length] at ha
    have e : AccN H.n B r (C.path C.at') := by
      refine ⟨?_, ha.2⟩
      rcases ha.1 with h | ⟨h1, h2, h3, h4, h5, h6, h7⟩
      · exact .inl h
      · exact .inr ⟨h1, h2, h3, h4, Nat.le_trans g.1 h5, h6, h7⟩
    exact Lt.Ok.ret ⟨g.trans gB, e⟩
end
end Go.Lt.P10

namespace Go.Lt.P10
open Go Go.Lt Go.Proofs
/-! ### numbers by a length -/
theorem wrapU {n : Int} : 0 ≤ IntKind.wrap .u64 n := by
  unfold IntKind.wrap
  simp [IntKind.signed, IntKind.bits]
  omega
theorem wrapU_id {n : Int} (h0 : 0 ≤ n) (h : n < 9223372036854775808) : IntKind.wrap .u64 n = n := by
  unfold IntKind.wrap
  simp [IntKind.signed, IntKind.bits]
  omega
theorem umod (a : Int) {n : Nat} (h0 : 1 ≤ n) (h1 : n ≤ 1000000) : IntKind.wrap .u64 (n : Int) ≠ 0 ∧ ∃ q : Nat, q < n ∧ w64 (Int.tmod (IntKind.wrap .u64 a) (IntKind.wrap .u64 (n : Int))) = (q : Int) := by
  rw [wrapU_id (n := (n : Int)) (by omega) (by omega)]
  have hm0 : 0 ≤ Int.tmod (IntKind.wrap .u64 a) (n : Int) := Int.tmod_nonneg _ wrapU
  have hm1 : Int.tmod (IntKind.wrap .u64 a) (n : Int) < n := Int.tmod_lt_of_pos _ (by omega)
  rw [w64_id (by omega) (by omega)]
  exact ⟨by omega, (Int.tmod (IntKind.wrap .u64 a) (n : Int)).toNat, by omega, by omega⟩
theorem ints_get {l : List Nat} {i : Nat} (h : i < l.length) : (ints l)[i]'(by rw [ints_len]; exact h) = (l[i] : Int) := by simp [ints]
theorem ints_ld {H : Hp} {v : Sl} {l : List Nat} (h : SL H v (ints l)) {i : Nat} (hi : i < l.length) : H.ldI .i64 v.b (v.o + i * 1) = some (l[i] : Int) := by
  have := h.ldI (i := i) (j := 0) (n := (l[i] : Int)) (by rw [ints_len]; exact hi) (by rw [ints_get hi]; rfl)
  exact this
theorem Chs.go_in (D : Chs) {q : Nat} (hq : q < D.pages.length) : D.go (q : Int) = (⟨D.pages, q⟩, 0) := by
  unfold Chs.go
  rw [if_pos (by omega)]; simp only [Int.toNat_natCast]
theorem strEq_self (s : ByteArray) : strEq s s = true := strEq_iff.2 rfl
theorem now_at (C : Chs) (q i : Nat) : (⟨C.pages, q⟩ : Chs).now i = C.now i := rfl
end Go.Lt.P10

namespace Go.Lt.P10
open Go Go.Lt Go.Proofs
/-- slices.Equal of strings that are the same -/
theorem equal_ok {H : Hp} {v w : Sl} {l : List ByteArray} (hv : SL H v l) (hw : SL H w l) (hb : l.length ≤ 1048577) : Lt.Ok (r21 v w H) fun r A => A = H ∧ r = true := by
  unfold r21
  have hl := hv.len
  have hl2 := hw.len
  refine Lt.Ok.neg (by omega) ?_
  refine Lt.Ok.loop (L := fun K (i : Int) A => r21_l0 K v w (v.len : Int) i A) (fun m i A => ∃ j : Nat, i = (j : Int) ∧ j + m = l.length ∧ A = H) ?_ FUEL l.length 0 H (by unfold FUEL; omega) ⟨0, rfl, by omega, rfl⟩
  rintro K m i A ⟨j, rfl, hj, rfl⟩ ih
  rw [r21_l0]
  refine Lt.Ok.ite (fun hlt => ?_) fun hlt => Lt.Ok.ret ⟨rfl, rfl⟩
  have hjl : j < l.length := by omega
  refine Lt.Ok.ck (by omega) (Lt.Ok.ld (SL.ldStr hv (i := j) (j := 0) hjl rfl) (Lt.Ok.ck (by omega) (Lt.Ok.ld (SL.ldStr hw (i := j) (j := 0) hjl rfl) ?_)))
  refine Lt.Ok.pos (strEq_self _) ?_
  rw [w64_id (n := (j : Int) + 1) (by omega) (by omega)]
  exact ih (m - 1) _ A (by omega) ⟨j + 1, by omega, by omega, rfl⟩
end Go.Lt.P10

namespace Go.Lt.P10
open Go Go.Lt Go.Proofs
def Chs.kids (C : Chs) (p : Nat) : List Nat := (List.range C.pages.length).filter fun i => decide (0 < i ∧ C.par i = p)
section
variable {H : Hp} {c : Nat} {pv : Sl} {C : Chs} {t : Nat}
/-- Children -/
theorem kids_ok (h : ChAt H c pv C t) (hC : C.Ok) : Lt.Ok (r22 c 0 H) fun r A => Gr H A ∧ AccN H.n A r (ints (C.kids C.at')) := by
  unfold r22
  refine is (none_ok h hC) (Lt.Ok.neg (by simp) ?_)
  dsimp only
  have hm := hC.most
  have hplen := h.len
  refine Lt.Ok.ld (ldSl_get h.get rfl) ?_
  have e0 : ∀ i, i ≤ C.pages.length → (ints ((List.range i).filter fun i => decide (0 < i ∧ C.par i = C.at'))).length ≤ i := fun i hi => by
    rw [ints_len]
    have := List.length_filter_le (fun i => decide (0 < i ∧ C.par i = C.at')) (List.range i)
    rw [List.length_range] at this
    exact this
  refine Lt.Ok.loop (L := fun K (s : Sl × Int) B => r22_l0 K c 0 s.1 pv (pv.len : Int) s.2 B) (fun m s B => ∃ i : Nat, s.2 = (i : Int) ∧ i + m = C.pages.length ∧ Gr H B ∧ AccN H.n B s.1 (ints ((List.range i).filter fun i => decide (0 < i ∧ C.par i = C.at')))) ?_ FUEL C.pages.length (⟨true, 0, 0, 0, 0, 0⟩, 0) H (by unfold FUEL; omega) ⟨0, rfl, by omega, .refl _, ⟨AccL.nilS, fun _ => rfl⟩⟩
  rintro K m ⟨r, i'⟩ B ⟨i, hi, him, g, ha⟩ ih
  dsimp only at *
  subst hi
  have hB := h.gr g
  rw [r22_l0]
  refine Lt.Ok.ite (fun hlt => ?_) fun hlt => ?_
  · have hil : i < C.pages.length := by omega
    obtain ⟨b, hb, _⟩ := hB.ldSt hil
    have q0 := hB.ldCh hil
    have q1 := hB.ldPar hil
    refine Lt.Ok.ck (by omega) (Lt.Ok.ld q0 (Lt.Ok.ld q1 (Lt.Ok.ld hb ?_)))
    rw [par_get hil, chg_get hil]
    obtain ⟨F, k1, k2, k3, k4⟩ := sts_blk [.str (C.chg i), .int .i64 (C.par i : Int), .ptr b 0] 0 (B.push (.cells [.str (ByteArray.mk #[]), .int .i64 0, .nilptr] false)) _ (Hp.get_push_new _ _) (by simp)
    have k2' : F.get B.n = some (.cells [.str (C.chg i), .int .i64 (C.par i : Int), .ptr b 0] false) := by rw [k2]; simp
    have gF : Gr B F := ⟨by rw [k3]; simp, fun c hc => by rw [k4 c (by omega), Hp.get_push_old _ _ hc]⟩
    have hF := hB.gr gF
    have haF := ha.gr gF
    have gHF := g.trans gF
    refine Lt.Ok.ld k1 ?_
    have er : List.range (i + 1) = List.range i ++ [i] := List.range_succ
    have skip : ¬ (0 < i ∧ C.par i = C.at') → Lt.Ok (r22_j1 (fun v1_ v2_ v3_ v4_ v5_ v6_ H_ => r22_l0 K v1_ v2_ v3_ v4_ v5_ v6_ H_) c 0 r (i : Int) pv (pv.len : Int) (i : Int) false F) (fun r A => Gr H A ∧ AccN H.n A r (ints (C.kids C.at'))) := fun hn => by
      unfold r22_j1
      refine Lt.Ok.neg (by simp) ?_
      rw [w64_succ (by omega)]
      refine ih (m - 1) (r, _) F (by omega) ⟨i + 1, rfl, by omega, gHF, ?_⟩
      rw [er, List.filter_append]
      have : [i].filter (fun i => decide (0 < i ∧ C.par i = C.at')) = [] := by
        rw [List.filter_cons, if_neg (by simpa using hn)]; rfl
      rw [this, List.append_nil]
      exact haF
    refine Lt.Ok.ite (fun h0 => ?_) fun h0 => ?_
    · refine Lt.Ok.ld (ldI_get k2' rfl) (Lt.Ok.ld (ldI_get hF.get rfl) ?_)
      by_cases hp : C.par i = C.at'
      · rw [decide_eq_true (by omega)]
        unfold r22_j1
        refine Lt.Ok.pos rfl (Lt.Ok.bind (AccN.push haF gHF.1 (i : Int) rfl rfl (by have := e0 i (by omega); omega)) fun r' D ⟨j1, j2, j3, j4⟩ => ?_)
        dsimp only
        rw [w64_succ (by omega)]
        refine ih (m - 1) (r', _) D (by omega) ⟨i + 1, rfl, by omega, But.gr j2 haF.1 gHF, ?_⟩
        rw [er, List.filter_append]
        have e1 : [i].filter (fun i => decide (0 < i ∧ C.par i = C.at')) = [i] := by
          rw [List.filter_cons, if_pos (by simp; omega)]; rfl
        rw [e1]
        have e2 : ∀ l : List Nat, ints (l ++ [i]) = ints l ++ [(i : Int)] := fun l => by simp [ints]
        rw [e2]
        exact j1
      · rw [decide_eq_false (by omega)]
        exact skip (fun h => hp h.2)
    · exact skip (fun h => h0 (by omega))
  · have : i = C.pages.length := by omega
    subst this
    exact Lt.Ok.ret ⟨g, ha⟩
end
/-- slices.Contains of what is there -/
theorem contains_ok {H : Hp} {v : Sl} {l : List Int} (hv : SL H v l) (hb : l.length ≤ 1048577) (n : Int) (hn : n ∈ l) : Lt.Ok (r23 v n H) fun r A => A = H ∧ r = true := by
  unfold r23 r37
  have hl := hv.len
  refine Lt.Ok.bind (P := fun r A => A = H ∧ 0 ≤ r) ?_ fun r A ⟨e, h⟩ => Lt.Ok.ret ⟨e, decide_eq_true h⟩
  refine Lt.Ok.loop (L := fun K (i : Int) A => r37_l0 K v n (v.len : Int) i A) (fun m i A => ∃ j : Nat, i = (j : Int) ∧ j + m = l.length ∧ A = H ∧ n ∈ l.drop j) ?_ FUEL l.length 0 H (by unfold FUEL; omega) ⟨0, rfl, by omega, rfl, hn⟩
  rintro K m i A ⟨j, rfl, hj, rfl, hmem⟩ ih
  rw [r37_l0]
  have hjl : j < l.length := by
    rcases Nat.lt_or_ge j l.length with h | h
    · exact h
    · rw [List.drop_of_length_le h] at hmem; cases hmem
  refine Lt.Ok.pos (by omega) (Lt.Ok.ck (by omega) (Lt.Ok.ld (hv.ldI (i := j) (j := 0) (n := l[j]) hjl rfl) ?_))
  by_cases e : n = l[j]
  · exact Lt.Ok.pos (by omega) (Lt.Ok.ret ⟨rfl, by omega⟩)
  · refine Lt.Ok.neg (by omega) ?_
    rw [w64_id (n := (j : Int) + 1) (by omega) (by omega)]
    refine ih (m - 1) _ A (by omega) ⟨j + 1, by omega, by omega, rfl, ?_⟩
    rw [List.drop_eq_getElem_cons hjl] at hmem
    rcases List.mem_cons.1 hmem with h | h
    · exact absurd h e
    · exact h
theorem Chs.kids_mem {C : Chs} {p q : Nat} (h0 : 0 < q) (hq : q < C.pages.length) (hp : C.par q = p) : q ∈ C.kids p := by
  unfold Chs.kids
  rw [List.mem_filter]
  exact ⟨List.mem_range.2 hq, by simp [h0, hp]⟩
theorem kids_len (C : Chs) (p : Nat) : (C.kids p).length ≤ C.pages.length := by
  have := List.length_filter_le (fun i => decide (0 < i ∧ C.par i = p)) (List.range C.pages.length)
  rw [List.length_range] at this
  exact this
end Go.Lt.P10

namespace Go.Lt.P10
open Go Go.Lt Go.Proofs
/-! ### the books -/
def pgB (p : Pg) : List UInt8 := UInt8.ofNat p.parent :: UInt8.ofNat p.change.size :: p.change.data.toList
def bytesP (l : List Pg) : List UInt8 := (l.map pgB).flatten
def Chs.bytes (C : Chs) : List UInt8 := bytesP (C.pages.drop 1)
theorem pgB_len (p : Pg) : (pgB p).length = 2 + p.change.size := by
  have : p.change.data.toList.length = p.change.size := by rw [Array.length_toList]; rfl
  simp only [pgB, List.length_cons, this]; omega
theorem bytesP_append (a b : List Pg) : bytesP (a ++ b) = bytesP a ++ bytesP b := by simp [bytesP]
theorem bytesP_len : ∀ (l : List Pg), (∀ p ∈ l, p.change.size ≤ 60) → (bytesP l).length ≤ 62 * l.length
  | [], _ => by simp [bytesP]
  | p :: l, h => by
    have h1 := bytesP_len l fun q hq => h q (by simp [hq])
    have h2 := h p (by simp)
    have h3 : (bytesP (p :: l)).length = (pgB p).length + (bytesP l).length := by simp [bytesP]
    rw [h3, pgB_len]
    simp only [List.length_cons]; omega
theorem chg_le {C : Chs} (hC : C.Ok) {i : Nat} (hi : i < C.pages.length) : (C.chg i).size ≤ 60 := by
  by_cases h0 : i = 0
  · subst h0; rw [hC.rc]; decide
  · obtain ⟨w, hd⟩ := hC.did i (by omega) hi
    exact doS_size hd
theorem wrap8 {n : Nat} (h : n < 256) : IntKind.wrap .u8 (n : Int) = ((UInt8.ofNat n).toNat : Int) := by
  have e : (UInt8.ofNat n).toNat = n := by simp [UInt8.toNat_ofNat]; omega
  rw [e]
  unfold IntKind.wrap
  simp [IntKind.signed, IntKind.bits]
  omega
section
variable {H : Hp} {c : Nat} {pv : Sl} {C : Chs} {t : Nat}
/-- Bytes -/
theorem bytes_ok (h : ChAt H c pv C t) (hC : C.Ok) : Lt.Ok (r17 c 0 H) fun r A => Gr H A ∧ AccN H.n A r C.bytes := by
  unfold r17
  refine is (none_ok h hC) (Lt.Ok.neg (by simp) ?_)
  dsimp only
  have hm := hC.most; have h1 := hC.one
  have hplen := h.len; have hcap := h.cap; have ho := h.o
  have hopn : pv.opn = 0 ∨ pv.opn = 3 := h.opn
  refine Lt.Ok.ld (ldSl_get h.get rfl) (Lt.Ok.ck (by refine ⟨?_, hopn⟩; omega) ?_)
  have e1 : pv.cut 3 (1 : Int).toNat (pv.len : Int).toNat = ⟨false, pv.b, pv.o + 1 * 3, pv.len - 1, pv.cap - 1, pv.opn⟩ := by
    unfold Sl.cut
    rw [h.nn]; rfl
  rw [e1]
  refine Lt.Ok.loop (L := fun K (s : Sl × Int) B => r17_l0 K s.1 ⟨false, pv.b, pv.o + 1 * 3, pv.len - 1, pv.cap - 1, pv.opn⟩ (((pv.len - 1 : Nat)) : Int) s.2 B) (fun m s B => ∃ i : Nat, s.2 = (i : Int) ∧ i + m = C.pages.length - 1 ∧ Gr H B ∧ AccN H.n B s.1 (bytesP ((C.pages.drop 1).take i))) ?_ FUEL (C.pages.length - 1) (⟨true, 0, 0, 0, 0, 0⟩, 0) H (by unfold FUEL; omega) ⟨0, rfl, by omega, .refl _, ⟨AccL.nilS, fun _ => rfl⟩⟩
  rintro K m ⟨r, i'⟩ B ⟨i, hi, him, g, ha⟩ ih
  dsimp only at *
  subst hi
  have hB := h.gr g
  rw [r17_l0]
  refine Lt.Ok.ite (fun hlt => ?_) fun hlt => ?_
  · have hil : i + 1 < C.pages.length := by omega
    obtain ⟨b, hb, _⟩ := hB.ldSt hil
    have q0 : B.ldStr pv.b (pv.o + 1 * 3 + ((i : Int)).toNat * 3) = some C.pages[i + 1].change := by
      rw [← hB.ldCh hil]; congr 1; simp only [Int.toNat_natCast]; omega
    have q1 : B.ldI .i64 pv.b (pv.o + 1 * 3 + ((i : Int)).toNat * 3 + 1) = some (C.pages[i + 1].parent : Int) := by
      rw [← hB.ldPar hil]; congr 1; simp only [Int.toNat_natCast]; omega
    have q2 : B.ldP pv.b (pv.o + 1 * 3 + ((i : Int)).toNat * 3 + 2) = some (b, 0) := by
      rw [← hb]; congr 1; simp only [Int.toNat_natCast]; omega
    refine Lt.Ok.ck (by first | omega | (dsimp only; omega)) (Lt.Ok.ld q0 (Lt.Ok.ld q1 (Lt.Ok.ld q2 ?_)))
    obtain ⟨F, k1, k2, k3, k4⟩ := sts_blk [.str C.pages[i + 1].change, .int .i64 (C.pages[i + 1].parent : Int), .ptr b 0] 0 (B.push (.cells [.str (ByteArray.mk #[]), .int .i64 0, .nilptr] false)) _ (Hp.get_push_new _ _) (by simp)
    have k2' : F.get B.n = some (.cells [.str C.pages[i + 1].change, .int .i64 (C.pages[i + 1].parent : Int), .ptr b 0] false) := by rw [k2]; simp
    have gF : Gr B F := ⟨by rw [k3]; simp, fun c hc => by rw [k4 c (by omega), Hp.get_push_old _ _ hc]⟩
    have haF := ha.gr gF
    have gHF := g.trans gF
    have hBn := Hp.get_lt k2'
    have q5 : F.ldStr B.n (0 + 0) = some C.pages[i + 1].change := by simp [Hp.ldStr, ld_of_get k2', AV.asStr]
    refine Lt.Ok.ld k1 (Lt.Ok.ld (ldI_get k2' rfl) (Lt.Ok.ld q5 ?_))
    have hpar : C.pages[i + 1].parent < 256 := by
      have := hC.up (i + 1) (by omega) hil
      rw [par_get hil]; omega
    have hchg : C.pages[i + 1].change.size ≤ 60 := by
      have := chg_le hC hil
      rw [← chg_get hil] at this; exact this
    rw [wrap8 hpar, wrap8 (by omega)]
    have hlen1 : (bytesP ((C.pages.drop 1).take i)).length ≤ 62 * 200 := by
      have := bytesP_len ((C.pages.drop 1).take i) fun p hp => by
        have hp := List.mem_of_mem_drop (List.mem_of_mem_take hp)
        obtain ⟨j, hj, rfl⟩ := List.mem_iff_getElem.1 hp
        rw [chg_get hj]; exact chg_le hC hj
      rw [List.length_take, List.length_drop] at this
      omega
    have hsl := haF.1.len
    obtain ⟨r1, D, e1, a1, b1, c1, d1, _, _⟩ := Acc.apN (xs := [AV.int .u8 ((UInt8.ofNat C.pages[i + 1].parent).toNat : Int), .int .u8 ((UInt8.ofNat C.pages[i + 1].change.size).toNat : Int)]) (k := 2) haF.1 (by decide) rfl (by omega) gHF.1
    have e1' : F.apN 1 r [.int .u8 ((UInt8.ofNat C.pages[i + 1].parent).toNat : Int), .int .u8 ((UInt8.ofNat C.pages[i + 1].change.size).toNat : Int)] 2 = some (r1, D) := e1
    rw [e1']
    simp only [Option.bind_some]
    have hrB : r.nil = false → r.b ≠ B.n := fun hn => by
      have := SL.lt ha.1.sl (fun e => by
        have h2 := ha.2 e
        rw [h2] at hn; cases hn)
      omega
    have q6 : D.ldStr B.n (0 + 0) = some C.pages[i + 1].change := by
      have hg : D.get B.n = some (.cells [.str C.pages[i + 1].change, .int .i64 (C.pages[i + 1].parent : Int), .ptr b 0] false) := by
        rw [b1.2 _ hBn (fun hn => (hrB hn).symm)]; exact k2'
      simp [Hp.ldStr, ld_of_get hg, AV.asStr]
    rw [q6]
    simp only [Option.bind_some]
    have gHD : Gr H D := But.gr b1 haF.1 gHF
    obtain ⟨r2, E, e2, a2, b2, c2, d2, f2, _⟩ := Acc.app (xs := bytesAV C.pages[i + 1].change) (k := C.pages[i + 1].change.size) a1 (by decide) (by rw [bytesAV_len]; exact (Nat.mul_one _).symm) (by omega) gHD.1
    have e2' : D.app 1 r1 (bytesAV C.pages[i + 1].change) C.pages[i + 1].change.size = some (r2, E) := e2
    rw [e2']
    simp only [Option.bind_some]
    rw [w64_succ (by omega)]
    have hdr : ((C.pages.drop 1).take (i + 1)) = ((C.pages.drop 1).take i) ++ [C.pages[i + 1]] := by
      rw [List.take_succ_eq_append_getElem (by rw [List.length_drop]; omega), List.getElem_drop]
      congr 2
      congr 1
      omega
    refine ih (m - 1) (r2, _) E (by omega) ⟨i + 1, rfl, by omega, But.gr b2 a1 gHD, ?_, ?_⟩
    · unfold AccL
      rw [hdr, bytesP_append, encs_append]
      have e3 : encs (bytesP [C.pages[i + 1]]) = [AV.int .u8 ((UInt8.ofNat C.pages[i + 1].parent).toNat : Int), .int .u8 ((UInt8.ofNat C.pages[i + 1].change.size).toNat : Int)] ++ bytesAV C.pages[i + 1].change := by
        rw [bytes_encs]
        have : bytesP [C.pages[i + 1]] = UInt8.ofNat C.pages[i + 1].parent :: UInt8.ofNat C.pages[i + 1].change.size :: C.pages[i + 1].change.data.toList := by simp [bytesP, pgB]
        rw [this, encs_cons, encs_cons]
        rfl
      rw [e3, ← List.append_assoc]
      exact a2
    · intro e
      rw [hdr, bytesP_append] at e
      have := congrArg List.length e
      rw [List.length_append] at this
      simp [bytesP, pgB] at this
  · have : i = C.pages.length - 1 := by omega
    subst this
    have e : (C.pages.drop 1).take (C.pages.length - 1) = C.pages.drop 1 := by
      rw [List.take_of_length_le]; rw [List.length_drop]; exact Nat.le_refl _
    rw [e] at ha
    exact Lt.Ok.ret ⟨g, ha⟩
end
theorem bInts_encs : ∀ l : List UInt8, bInts (encs l) = some (l.map fun b => (b.toNat : Int))
  | [] => rfl
  | b :: l => by
    rw [encs_cons]
    show bInts (.int .u8 (b.toNat : Int) :: encs l) = _
    unfold bInts
    rw [bInts_encs l]; rfl
/-- bytes.Equal of the same bytes -/
theorem bEq_ok {H : Hp} {v w : Sl} {l : List UInt8} (hv : SL H v l) (hw : SL H w l) : r36 v w H = some (true, H) := by
  unfold r36
  have e1 := hv.lds
  have e2 := hw.lds
  have z1 : v.len * El.sz UInt8 = v.len := Nat.mul_one _
  have z2 : w.len * El.sz UInt8 = w.len := Nat.mul_one _
  rw [z1] at e1; rw [z2] at e2
  rw [e1]
  simp only [Option.bind_some, bInts_encs]
  rw [e2]
  simp only [Option.bind_some, bInts_encs]
  rw [strEq_self]
/-- bytes.HasPrefix of what begins so -/
theorem hasPre_ok {H : Hp} {v w : Sl} {l r : List UInt8} (hv : SL H v (l ++ r)) (hw : SL H w l) : Lt.Ok (r20 v w H) fun b A => A = H ∧ b = true := by
  unfold r20
  have h1 := hv.len; have h2 := hw.len; have hc := hv.cap
  have hopn : v.opn = 0 ∨ v.opn = 1 := hv.opn
  rw [List.length_append] at h1
  refine Lt.Ok.pos (by omega) (Lt.Ok.ck (by refine ⟨?_, hopn⟩; omega) ?_)
  have e : v.cut 1 (0 : Int).toNat ((w.len : Int)).toNat = v.cut (El.sz UInt8) 0 w.len := rfl
  rw [e]
  have hcut := hv.cut (lo := 0) (hi := w.len) (by omega) (by rw [List.length_append]; omega)
  rw [List.drop_zero, Nat.sub_zero, h2, List.take_left] at hcut
  rw [h2, bEq_ok hcut hw]
  exact Lt.Ok.ret ⟨rfl, rfl⟩
end Go.Lt.P10

namespace Go.Lt.P10
open Go Go.Lt Go.Proofs
/-- strings lie in no block of a chest -/
theorem ChAt.offStr {H H' : Hp} {c : Nat} {pv : Sl} {C : Chs} {t d : Nat} {l : List ByteArray} {ro : Bool} (h : ChAt H c pv C t) (hC : C.Ok) (hd : H.get d = some (.cells (encs l) ro)) (hn : H.n ≤ H'.n) (e : ∀ b, b < H.n → b ≠ d → H'.get b = H.get b) : ChAt H' c pv C t := by
  have hstr : ∀ o x, (encs l)[o]? = some x → ∃ s, x = AV.str s := fun o x hx => by
    rw [enc_str, List.getElem?_map] at hx
    obtain ⟨s, _, rfl⟩ := Option.map_eq_some_iff.1 hx
    exact ⟨s, rfl⟩
  have hld : ∀ o x, H.ld d o = some x → ∃ s, x = AV.str s := fun o x hx => by
    rw [ld_of_get hd] at hx
    exact hstr o x hx
  have hcd : c ≠ d := fun h0 => by
    subst h0
    obtain ⟨s, hs⟩ := hld 0 (.sl pv) (by rw [ld_of_get h.get]; rfl)
    cases hs
  obtain ⟨bs, h1, h2, h3⟩ := h.ex
  have hpd : pv.b ≠ d := fun h0 => by
    obtain ⟨bs', hbl, hsl, _⟩ := h.sl
    have hone := hC.one
    have := hsl.ld (i := 0) (j := 1) (x := .int .i64 (C.pages[0].parent : Int)) (by rw [pgCells_len hbl]; omega) (by rw [pgCells_get (by omega) (by omega)]; rfl)
    rw [h0] at this
    obtain ⟨s, hs⟩ := hld _ _ this
    cases hs
  refine ⟨by rw [e _ (Hp.get_lt h.get) hcd]; exact h.get, h.nn, h.o, h.len, h.cap, h.opn, h.ne, h.tc, h.tp, Nat.le_trans h.tn hn, bs, h1, by rw [e _ (Hp.get_lt h2) hpd]; exact h2, fun i a b => ?_⟩
  obtain ⟨hp, v1, v2, v3, hg, k1, k2, k3⟩ := h3 i a b
  have hbd : bs[i] ≠ d := fun h0 => by
    obtain ⟨s, hs⟩ := hld 0 (.sl v1) (by rw [← h0, ld_of_get hg]; rfl)
    cases hs
  have int : ∀ {T : Type} [El T] {v : Sl} {q : List T} {P : Nat → Prop} (j : Nat), j < El.sz T → (∀ x : T, ∃ n, (El.enc x)[j]? = some (.int .i64 n)) → LAt H P v q → LAt H' P v q := by
    intro T _ v q P j hj hint hq
    by_cases hq0 : q = []
    · have := hq.nil hq0
      subst this; subst hq0
      exact ⟨SL.nilS, fun _ => rfl, fun h => by cases h⟩
    · have hvd : v.b ≠ d := fun h0 => by
        obtain ⟨x, r, rfl⟩ := List.exists_cons_of_ne_nil hq0
        obtain ⟨n, hn⟩ := hint x
        have := hq.sl.ld (i := 0) (j := j) (x := .int .i64 n) (by simp) hn
        rw [h0] at this
        obtain ⟨s, hs⟩ := hld _ _ this
        cases hs
      exact ⟨slcg hq.sl (e _ (SL.lt hq.sl hq0) hvd), hq.nil, hq.p⟩
  exact ⟨hp, v1, v2, v3, by rw [e _ (Hp.get_lt hg) hbd]; exact hg, int 1 (by decide) (fun x => ⟨x.2, rfl⟩) k1, int 0 (by decide) (fun x => ⟨x, rfl⟩) k2, int 0 (by decide) (fun x => ⟨x.1, rfl⟩) k3⟩
/-- what an act of this law does to a chest -/
structure Did (C C' : Chs) (kind e : Int) (line : ByteArray) : Prop where
  ok : C'.Ok
  pre : ∃ ex, C'.bytes = C.bytes ++ ex
  oth : kind ≠ 0 → C'.bytes = C.bytes
  err : e ≠ 0 → C'.at' = C.at' ∧ C'.bytes = C.bytes
  did : kind = 0 → e = 0 → C.at' < C'.at' ∧ C'.at' ≤ C.pages.length ∧ C'.bytes.length ≤ C.bytes.length + 2 + line.size ∧ C'.path C'.at' = C.path C.at' ++ [line] ∧ C'.pages.length = max C.pages.length (C'.at' + 1)
  len : ¬ (kind = 0 ∧ e = 0) → C'.pages.length = C.pages.length
theorem bytes_pages {C D : Chs} (h : D.pages = C.pages) : D.bytes = C.bytes := by unfold Chs.bytes; rw [h]
theorem did_do {C : Chs} (hC : C.Ok) (line : ByteArray) : Did C (C.do line).1 0 (C.do line).2.2 line := by
  have hok := Chs.do_ok hC line
  by_cases hz : (C.do line).2.2 = 0
  · obtain ⟨d1, d2, d3, d4, d5, d6⟩ := Chs.do_then hC hz
    have hpath := Chs.path_do hC hok d1 d2 d3 d4 d6
    have hone := hC.one
    rcases hd : doS (C.now C.at') line with ⟨e | s, w⟩
    · have e1 : C.do line = (C, ByteArray.mk #[], e) := by unfold Chs.do; rw [hd]
      rw [e1] at hz
      exact absurd hz (doS_inl hd).1
    cases hi : C.child C.at' line with
    | some i =>
      have e1 : C.do line = (⟨C.pages, i⟩, w, 0) := by unfold Chs.do; rw [hd]; dsimp only; rw [hi]
      rw [e1] at hok hpath ⊢
      have hlt := Chs.child_lt hi
      have hpar := (Chs.child_is hi).1
      have h0 := Chs.child_pos hC hi
      have hup := hC.up i h0 hlt
      rw [hpar] at hup
      exact ⟨hok, ⟨[], by rw [List.append_nil]; rfl⟩, fun _ => rfl, fun h => absurd rfl h, fun _ _ => ⟨hup, Nat.le_of_lt hlt, (by have hbb : (⟨C.pages, i⟩ : Chs).bytes = C.bytes := rfl; dsimp only; rw [hbb]; omega), hpath, by dsimp only; omega⟩, fun _ => rfl⟩
    | none =>
      by_cases h2 : C.pages.length = 200
      · have e1 : C.do line = (C, ByteArray.mk #[], 7) := by unfold Chs.do; rw [hd]; dsimp only; rw [hi]; dsimp only; rw [if_pos h2]
        rw [e1] at hz
        exact absurd hz (by dsimp only; decide)
      have e1 : C.do line = (⟨C.pages ++ [⟨line, C.at', s⟩], C.pages.length⟩, w, 0) := by unfold Chs.do; rw [hd]; dsimp only; rw [hi]; dsimp only; rw [if_neg h2]
      rw [e1] at hok hpath ⊢
      have hcur := hC.cur
      have hb : (⟨C.pages ++ [⟨line, C.at', s⟩], C.pages.length⟩ : Chs).bytes = C.bytes ++ pgB ⟨line, C.at', s⟩ := by
        unfold Chs.bytes
        dsimp only
        rw [List.drop_append_of_le_length hone, bytesP_append]
        congr 1
        simp [bytesP]
      refine ⟨hok, ⟨_, hb⟩, fun h => absurd rfl h, fun h => absurd rfl h, fun _ _ => ⟨hcur, Nat.le_refl _, ?_, hpath, ?_⟩, fun h => absurd ⟨rfl, rfl⟩ h⟩
      · rw [hb, List.length_append, pgB_len]; dsimp only; omega
      · dsimp only; rw [List.length_append]; simp
  · obtain ⟨d1, d2⟩ := Chs.do_not hz
    exact ⟨by rw [d1]; exact hC, ⟨[], by rw [d1]; simp⟩, fun _ => by rw [d1], fun _ => by rw [d1]; exact ⟨rfl, rfl⟩, fun _ h => absurd h hz, fun _ => by rw [d1]⟩
theorem did_same {C C' : Chs} (hC : C'.Ok) {kind e : Int} {line : ByteArray} (h0 : kind ≠ 0) (hp : C'.pages = C.pages) (he : e ≠ 0 → C'.at' = C.at') : Did C C' kind e line :=
  ⟨hC, ⟨[], by rw [List.append_nil, bytes_pages hp]⟩, fun _ => bytes_pages hp, fun h => ⟨he h, bytes_pages hp⟩, fun h => absurd h h0, fun _ => by rw [hp]⟩
section
variable {k : Nat} {c : Nat} {K : Nat → Nat → Int → Sl → Int → Int → Hp → Option (Bool × Hp)} {va : Sl} {vl vi : Int}
/-- the end of an act -/
theorem j7_ok {H : Hp} {pv : Sl} {C C' : Chs} {t : Nat} {kind e : Int} {line : ByteArray} {bf : Sl} (h : ChAt H c pv C' t) (hd : Did C C' kind e line) (hbf : bf.len = C.bytes.length)
    (kk : ∀ A, Gr H A → Lt.Ok (K c 0 (C'.pages.length : Int) va vl (w64 (vi + 1)) A) fun r _ => r = true) :
    Lt.Ok (r4_j7 (appA (k + 2)) K c 0 (C'.pages.length : Int) (C.at' : Int) bf e va vl vi H) fun r _ => r = true := by
  unfold r4_j7
  have hC := hd.ok
  refine Lt.Ok.ite (fun he => ?_) fun he => ?_
  · obtain ⟨e1, e2⟩ := hd.err he
    refine is (at_ok h hC) (Lt.Ok.neg (by rw [e1]; simp) ?_)
    dsimp only
    refine Lt.Ok.bind (bytes_ok h hC) fun r A ⟨g, hr⟩ => ?_
    dsimp only at hr ⊢
    have hl := hr.1.len
    rw [e2] at hl
    unfold r4_j2
    rw [decide_eq_false (by omega)]
    exact Lt.Ok.neg (by simp) (kk A g)
  · unfold r4_j2
    exact Lt.Ok.neg (by simp) (kk H (.refl _))
theorem j3_ok {H : Hp} {pv : Sl} {C C' : Chs} {t n0 ab : Nat} {kind e : Int} {n m : Int} {line : ByteArray} {bf pa : Sl} (h : ChAt H c pv C' t) (hC : C.Ok) (hd : Did C C' kind e line) (hbf : bf.len = C.bytes.length) (hpa : AccN n0 H pa (C.path C.at')) (hn0 : n0 ≤ H.n) (hab : H.get ab = some (.cells [.int .i64 kind, .int .i64 n, .int .i64 m, .str line] false)) (hlt : ab < n0) (hs : line.size ≤ 1048576) (hbl : C.bytes.length ≤ 1000000)
    {b : Bool} (hb : b = decide (kind = 0 ∧ e = 0))
    (kk : ∀ A, H.n ≤ A.n → (∀ x, x < n0 → A.get x = H.get x) → ChAt A c pv C' t → Lt.Ok (K c 0 (C'.pages.length : Int) va vl (w64 (vi + 1)) A) fun r _ => r = true) :
    Lt.Ok (r4_j3 (appA (k + 2)) K c 0 (C.pages.length : Int) ab (C.at' : Int) pa bf e va vl vi b H) fun r _ => r = true := by
  unfold r4_j3
  have hC' := hd.ok
  by_cases hc : kind = 0 ∧ e = 0
  · rw [hb, decide_eq_true hc]
    obtain ⟨rfl, rfl⟩ := hc
    obtain ⟨d1, d2, d3, d4, d5⟩ := hd.did rfl rfl
    have hm' := hC'.most
    have q3 : ∀ A : Hp, A.get ab = some (.cells [.int .i64 0, .int .i64 n, .int .i64 m, .str line] false) → A.ldStr ab (0 + 3) = some line := fun A h => by simp [Hp.ldStr, ld_of_get h, AV.asStr]
    refine Lt.Ok.pos rfl (is (at_ok h hC') (Lt.Ok.neg (by dsimp only; omega) (is (at_ok h hC') (Lt.Ok.neg (by dsimp only; omega) ?_))))
    dsimp only
    refine Lt.Ok.bind (bytes_ok h hC') fun r A ⟨g, hr⟩ => ?_
    dsimp only at hr ⊢
    have habn := Hp.get_lt hab
    have habA := (g.2 _ habn).trans hab
    have hl := hr.1.len
    refine Lt.Ok.ld (q3 A habA) (Lt.Ok.neg (by
      rw [w64_id (n := (bf.len : Int) + 2) (by omega) (by omega), w64_id (by omega) (by omega)]
      omega) ?_)
    have hA := h.gr g
    refine Lt.Ok.bind (path_ok hA hC') fun p B ⟨gB, hp⟩ => ?_
    have gHB := g.trans gB
    have habB := (gHB.2 _ habn).trans hab
    dsimp only at hp ⊢
    have hpB : AccN n0 B pa (C.path C.at') := hpa.gr gHB
    have hwl := C.way_len hC C.at'
    have hplen : (C.path C.at').length = (C.way C.at').length := by unfold Chs.path; rw [List.length_map]
    have hm := hC.most
    refine Lt.Ok.ld (q3 B habB) (Lt.Ok.bind (AccN.push hpB (by have := gHB.1; omega) line rfl rfl (by omega)) fun p4 D ⟨k1, k2, k3, k4⟩ => ?_)
    dsimp only at k1 ⊢
    have hBD : B.n ≤ D.n := k2.1
    have hpD : SL D p (C'.path C'.at') := SL.sp hp.1.sl fun hne => by
      refine k2.2 _ (SL.lt hp.1.sl hne) fun hn e => ?_
      have h1 : A.n ≤ p.b := Acc.ge hp.1 (hp.1.sl.nonnil hne)
      have h2 : pa.b < H.n := SL.lt hpa.1.sl fun e0 => by
        have := hpa.2 e0
        rw [this] at hn; cases hn
      have := g.1
      omega
    rw [d4] at hpD
    refine Lt.Ok.bind (equal_ok hpD k1.1.sl (by simp; omega)) fun x E ⟨eE, ex⟩ => ?_
    subst eE; subst ex
    have q := q3 H hab
    have qA := q3 A habA
    have qB := q3 B habB
    refine Lt.Ok.ck q (Lt.Ok.ck q (Lt.Ok.ck q (Lt.Ok.ck q (Lt.Ok.ck q (Lt.Ok.ck q (Lt.Ok.ck qA (Lt.Ok.ck qB ?_)))))))
    have hE : ChAt E c pv C' t := by
      cases hnil : pa.nil with
      | true =>
        exact (h.gr gHB).keep hBD fun x hx => k2.2 x (by have := (h.gr gHB).tn; omega) fun hn => by rw [hn] at hnil; cases hnil
      | false =>
        rcases hpB.1 with ⟨e0, _⟩ | ⟨z1, z2, z3, z4, z5, z6, z7⟩
        · rw [e0] at hnil; cases hnil
        · exact (h.gr gHB).offStr hC' z6 hBD fun x hx hxd => k2.2 x hx fun _ => hxd
    have hfr : ∀ x, x < n0 → E.get x = H.get x := fun x hx => by
      rw [k2.2 x (by have := gHB.1; omega) fun hn => by have := Acc.ge hpB.1 hn; omega]
      exact gHB.2 x (by omega)
    unfold r4_j1
    refine Lt.Ok.neg (by simp) (is (at_ok hE hC') ?_)
    dsimp only
    have e5 : (if (C.pages.length : Int) < w64 ((C'.at' : Int) + 1) then w64 ((C'.at' : Int) + 1) else (C.pages.length : Int)) = (C'.pages.length : Int) := by
      have := hC'.cur
      rw [w64_id (by omega) (by omega)]
      split <;> omega
    rw [e5]
    exact j7_ok (k := k) hE hd hbf fun Z gZ => kk Z (by have := gHB.1; have := gZ.1; omega) (fun x hx => by
      rw [gZ.2 x (by have := gHB.1; omega)]; exact hfr x hx) (hE.gr gZ)
  · rw [hb, decide_eq_false hc]
    have hlen := hd.len hc
    have := j7_ok (k := k) (K := K) (va := va) (vl := vl) (vi := vi) h hd hbf fun Z gZ => kk Z gZ.1 (fun x hx => gZ.2 x (by omega)) (h.gr gZ)
    rw [hlen] at this
    exact Lt.Ok.neg (by simp) this
end
end Go.Lt.P10
