/- PLAIN LAWS OF WHAT IS COMPUTED, for the statement 'ChestBooks'. Nothing is asked of the input. -/
import Derived.Test.YtopildlfbhfghaaGreatDoorU7CMv
import Derived.Test.YtopildlfbhfghaaGreatDoorU7CGw
set_option linter.unusedVariables false
set_option linter.unusedSimpArgs false
namespace Go.Lt.P10
open Go Go.Lt Go.Proofs
/-! ### the path, in plain Lean -/
def Chs.path (C : Chs) (p : Nat) : List ByteArray := (C.way p).map C.chg
/-- a new chest that has done the first changes of a path -/
structure Along (C : Chs) (p i : Nat) (D : Chs) : Prop where
  ok : D.Ok
  len : D.pages.length = i + 1
  cur : D.at' = i
  st : ∀ q, (0 :: C.way p)[i]? = some q → D.now i = C.now q
  lnk : ∀ j x, j < i → (C.way p)[j]? = some x → D.par (j + 1) = j ∧ D.chg (j + 1) = C.chg x
theorem Along.new {C : Chs} (hC : C.Ok) (p : Nat) : Along C p 0 Chs.new where
  ok := Chs.new_ok
  len := rfl
  cur := rfl
  st := fun q hq => by
    have : q = 0 := by simpa using hq.symm
    subst this
    rw [hC.root.2]; rfl
  lnk := fun j x h => by omega
theorem Chs.way_len_le {C : Chs} (hC : C.Ok) {p : Nat} (hp : p < C.pages.length) : (C.way p).length ≤ p := by
  rw [Chs.way_eq hC hp, List.length_reverse]; exact Chs.ups_len hC _ _
theorem Chs.chain_get {C : Chs} : ∀ (l : List Nat) (q i : Nat) (h : i < l.length), C.Chain q l → 0 < l[i] ∧ l[i] < C.pages.length ∧ C.par l[i] = (q :: l)[i]'(by simp; omega)
  | x :: l, q, 0, _, h => ⟨h.1, h.2.1, h.2.2.1⟩
  | x :: l, q, i + 1, hi, h => Chs.chain_get l x i (by simpa using hi) h.2.2.2
theorem Along.child {C D : Chs} {p i : Nat} (h : Along C p i D) (ch : ByteArray) : D.child i ch = none := by
  unfold Chs.child
  rw [List.findIdx?_eq_none_iff]
  intro q hq
  obtain ⟨j, hj, rfl⟩ := List.mem_iff_getElem.1 hq
  have hl := h.len
  have hpar : D.pages[j].parent = D.par j := par_get hj
  have hchg : D.pages[j].change = D.chg j := chg_get hj
  rw [hpar, hchg]
  by_cases h0 : j = 0
  · subst h0
    rw [h.ok.rc]
    have : strEq (ByteArray.mk #[]) (ByteArray.mk #[]) = true := by decide +kernel
    rw [this]; simp
  · have := h.ok.up j (by omega) hj
    rw [decide_eq_false (by omega)]; simp
theorem Along.step {C D : Chs} {p i : Nat} (hC : C.Ok) (hp : p < C.pages.length) (h : Along C p i D) (hi : i < (C.way p).length) :
    (D.do (C.chg ((C.way p)[i]))).2.2 = 0 ∧ Along C p (i + 1) (D.do (C.chg ((C.way p)[i]))).1 := by
  have hch := Chs.way_chain hC p p (Nat.le_refl _) hp
  obtain ⟨h0, hx, hpar⟩ := Chs.chain_get _ _ i hi hch
  obtain ⟨w, hd⟩ := hC.did _ h0 hx
  have hst := h.st _ (List.getElem?_eq_getElem (by simp; omega))
  rw [hpar] at hd
  have hcur := h.cur
  have hl := h.len
  have hwl := Chs.way_len_le hC hp
  have hm := hC.most
  have hdo : D.do (C.chg ((C.way p)[i])) = (⟨D.pages ++ [⟨C.chg ((C.way p)[i]), i, C.now ((C.way p)[i])⟩], i + 1⟩, w, 0) := by
    unfold Chs.do
    rw [hcur, hst, hd]
    dsimp only
    rw [h.child]
    dsimp only
    rw [if_neg (by omega), hl]
  have hok := Chs.do_ok h.ok (C.chg ((C.way p)[i]))
  rw [hdo] at hok ⊢
  refine ⟨rfl, hok, by simp; omega, rfl, fun q hq => ?_, fun j x hj hq => ?_⟩
  · have : q = (C.way p)[i] := by
      rw [List.getElem?_cons_succ, List.getElem?_eq_getElem hi] at hq
      injection hq with hq; exact hq.symm
    subst this
    unfold Chs.now
    dsimp only
    rw [List.getElem?_append_right (by omega)]
    simp [hl]
  · by_cases he : j = i
    · subst he
      rw [List.getElem?_eq_getElem hi] at hq
      injection hq with hq
      subst hq
      unfold Chs.par Chs.chg
      dsimp only
      rw [List.getElem?_append_right (by omega)]
      simp [hl]
    · obtain ⟨k1, k2⟩ := h.lnk j x (by omega) hq
      have e : (D.pages ++ [(⟨C.chg ((C.way p)[i]), i, C.now ((C.way p)[i])⟩ : Pg)])[j + 1]? = D.pages[j + 1]? := List.getElem?_append_left (by omega)
      exact ⟨by show (Option.map _ _).getD 0 = j; rw [e]; exact k1, by show (Option.map _ _).getD (ByteArray.mk #[]) = _; rw [e]; exact k2⟩
theorem Along.path {C D : Chs} {p i : Nat} (hC : C.Ok) (h : Along C p i D) (hi : i ≤ (C.way p).length) : ∀ j, j ≤ i → (D.way j).map D.chg = ((C.way p).take j).map C.chg
  | 0, _ => by rw [Chs.way_zero h.ok]; rfl
  | j + 1, hj => by
    have hl := h.len
    obtain ⟨k1, k2⟩ := h.lnk j ((C.way p)[j]'(by omega)) (by omega) (List.getElem?_eq_getElem (by omega))
    rw [Chs.way_step h.ok (by omega) (by omega), k1, List.map_append, Along.path hC h hi j (by omega), List.take_succ_eq_append_getElem (by omega), List.map_append]
    simp [k2]
/-- the whole path done -/
theorem Along.full {C D : Chs} {p : Nat} (hC : C.Ok) (hp : p < C.pages.length) (h : Along C p (C.way p).length D) : D.now D.at' = C.now p ∧ D.path D.at' = C.path p := by
  rw [h.cur]
  refine ⟨h.st p ?_, ?_⟩
  · have := Chs.ways_last' hC hp
    rw [List.getLast_eq_getElem] at this
    rw [List.getElem?_eq_getElem (by simp)]
    simpa using this
  · have := h.path hC (Nat.le_refl _) _ (Nat.le_refl _)
    rw [List.take_length] at this
    exact this
theorem Chs.anc_way {C : Chs} (hC : C.Ok) : ∀ (n p : Nat), p ≤ n → p < C.pages.length → C.anc (C.way p).length p = 0
  | n, p, hn, hp => by
    by_cases h0 : p = 0
    · subst h0; rw [Chs.way_zero hC]; rfl
    · have hup := hC.up p (by omega) hp
      obtain ⟨n, rfl⟩ : ∃ n', n = n' + 1 := ⟨n - 1, by omega⟩
      rw [Chs.way_step hC h0 hp, List.length_append]
      exact Chs.anc_way hC n _ (by omega) (by omega)
/-- going back all of the way -/
theorem Chs.back_all {C : Chs} (hC : C.Ok) : C.back ((C.way C.at').length : Int) = (⟨C.pages, 0⟩, 0) := by
  unfold Chs.back
  rw [if_neg (by omega), if_neg (by omega)]
  simp only [Int.toNat_natCast]
  rw [Chs.anc_way hC _ _ (Nat.le_refl _) hC.cur]
theorem Chs.path_at (C : Chs) (q p : Nat) : Chs.path ⟨C.pages, q⟩ p = C.path p := by
  unfold Chs.path
  rw [Chs.way_at]; rfl
theorem actS_inl {s : St} {w text form r : ByteArray} {f : St → List ByteArray × List Int → Act} {e : Int} (hf : ∀ p e, f s p = .inl e → e ≠ 0) (h : actS s w text form f = (.inl e, r)) : e ≠ 0 ∧ r = ByteArray.mk #[] := by
  unfold actS at h
  split at h
  · injection h with h1 h2
    injection h1 with h1
    subst h1
    exact ⟨by decide, h2.symm⟩
  · split at h
    · rename_i e' he
      injection h with h1 h2
      injection h1 with h1
      subst h1
      exact ⟨hf _ _ he, h2.symm⟩
    · injection h with h1 h2
      cases h1
theorem inl_ne {a b : Int} {h : b ≠ 0} (e : (Sum.inl b : Act) = .inl a) : a ≠ 0 := by injection e with e; omega
/-- an error is none of the documented ones' zero -/
theorem doS_inl {s : St} {text r : ByteArray} {e : Int} (h : doS s text = (.inl e, r)) : e ≠ 0 ∧ r = ByteArray.mk #[] := by
  unfold doS at h
  split at h
  · refine actS_inl (fun p e hp => ?_) h
    unfold fLeaf at hp
    split at hp
    · unfold leafS at hp
      split at hp
      · exact inl_ne (h := by decide) hp
      split at hp
      · exact inl_ne (h := by decide) hp
      split at hp
      · exact inl_ne (h := by decide) hp
      · cases hp
    · exact inl_ne (h := by decide) hp
  split at h
  · refine actS_inl (fun p e hp => ?_) h
    unfold fGive at hp
    split at hp
    · unfold giveS at hp
      split at hp
      · split at hp
        · cases hp
        · exact inl_ne (h := by decide) hp
      · exact inl_ne (h := by decide) hp
    · exact inl_ne (h := by decide) hp
  split at h
  · refine actS_inl (fun p e hp => ?_) h
    unfold fOrder at hp
    split at hp
    · unfold orderS at hp
      split at hp
      · exact inl_ne (h := by decide) hp
      split at hp
      · exact inl_ne (h := by decide) hp
      split at hp
      · exact inl_ne (h := by decide) hp
      · cases hp
    · exact inl_ne (h := by decide) hp
  split at h
  · refine actS_inl (fun p e hp => ?_) h
    unfold fTaste at hp
    split at hp
    · unfold tasteS at hp
      split at hp
      · exact inl_ne (h := by decide) hp
      split at hp
      · exact inl_ne (h := by decide) hp
      · cases hp
    · exact inl_ne (h := by decide) hp
  split at h
  · refine actS_inl (fun p e hp => ?_) h
    unfold fOffer at hp
    split at hp
    · unfold offerS at hp
      split at hp
      · exact inl_ne (h := by decide) hp
      split at hp
      · exact inl_ne (h := by decide) hp
      split at hp
      · exact inl_ne (h := by decide) hp
      · cases hp
    · exact inl_ne (h := by decide) hp
  · injection h with h1 h2
    exact ⟨inl_ne (h := by decide) h1, h2.symm⟩
/-- a change that is not made -/
theorem Chs.do_not {C : Chs} {line : ByteArray} (h : (C.do line).2.2 ≠ 0) : (C.do line).1 = C ∧ (C.do line).2.1 = ByteArray.mk #[] := by
  unfold Chs.do at h ⊢
  split
  · exact ⟨rfl, rfl⟩
  · rename_i s w hd
    rw [hd] at h
    dsimp only at h
    split
    · rename_i i hi
      rw [hi] at h
      exact absurd rfl h
    · rename_i hi
      rw [hi] at h
      dsimp only at h
      split
      · exact ⟨rfl, rfl⟩
      · rename_i h2
        rw [if_neg h2] at h
        exact absurd rfl h
theorem Chs.child_pos {C : Chs} (hC : C.Ok) {p i : Nat} {ch : ByteArray} (h : C.child p ch = some i) : 0 < i := by
  obtain ⟨hi, hp, _⟩ := List.findIdx?_eq_some_iff_getElem.1 h
  rcases Nat.eq_zero_or_pos i with h0 | h0
  · subst h0
    rw [chg_get hi, hC.rc] at hp
    have : strEq (ByteArray.mk #[]) (ByteArray.mk #[]) = true := by decide +kernel
    rw [this] at hp
    simp at hp
  · exact h0
/-- after a change one page back -/
theorem Chs.do_then {C : Chs} (hC : C.Ok) {line : ByteArray} (h : (C.do line).2.2 = 0) :
    (C.do line).1.at' ≠ 0 ∧ (C.do line).1.par (C.do line).1.at' = C.at' ∧ (C.do line).1.chg (C.do line).1.at' = line ∧ (∀ i, i < C.pages.length → (C.do line).1.now i = C.now i ∧ (C.do line).1.par i = C.par i ∧ (C.do line).1.chg i = C.chg i) ∧
    (⟨(C.do line).1.pages, C.at'⟩ : Chs).do line = C.do line ∧ C.pages.length ≤ (C.do line).1.pages.length := by
  have hok := Chs.do_ok hC line
  rcases hd : doS (C.now C.at') line with ⟨e | s, w⟩
  · have e1 : C.do line = (C, ByteArray.mk #[], e) := by unfold Chs.do; rw [hd]
    rw [e1] at h
    exact absurd h (doS_inl hd).1
  cases hi : C.child C.at' line with
  | some i =>
    have e1 : C.do line = (⟨C.pages, i⟩, w, 0) := by unfold Chs.do; rw [hd]; dsimp only; rw [hi]
    rw [e1]
    obtain ⟨h1, h2⟩ := Chs.child_is hi
    have h0 := Chs.child_pos hC hi
    exact ⟨by dsimp only; omega, h1, h2, fun i hi => ⟨rfl, rfl, rfl⟩, e1, Nat.le_refl _⟩
  | none =>
    by_cases h2 : C.pages.length = 200
    · have e1 : C.do line = (C, ByteArray.mk #[], 7) := by unfold Chs.do; rw [hd]; dsimp only; rw [hi]; dsimp only; rw [if_pos h2]
      rw [e1] at h
      exact absurd h (by dsimp only; decide)
    have e1 : C.do line = (⟨C.pages ++ [⟨line, C.at', s⟩], C.pages.length⟩, w, 0) := by unfold Chs.do; rw [hd]; dsimp only; rw [hi]; dsimp only; rw [if_neg h2]
    rw [e1] at hok ⊢
    dsimp only at hok ⊢
    have hone := hC.one
    generalize hD : (⟨C.pages ++ [(⟨line, C.at', s⟩ : Pg)], C.pages.length⟩ : Chs) = D at hok
    have hDp : C.pages ++ [(⟨line, C.at', s⟩ : Pg)] = D.pages := by rw [← hD]
    have old : ∀ i, i < C.pages.length → D.pages[i]? = C.pages[i]? := fun i hi => by rw [← hDp]; exact List.getElem?_append_left hi
    have new : D.pages[C.pages.length]? = some ⟨line, C.at', s⟩ := by rw [← hDp]; simp
    have hp : D.par C.pages.length = C.at' := by unfold Chs.par; rw [new]; rfl
    have hc : D.chg C.pages.length = line := by unfold Chs.chg; rw [new]; rfl
    have hlen : C.pages.length < D.pages.length := by rw [← hDp]; simp
    have hu := hok.uq C.pages.length (by omega) hlen
    rw [hp, hc] at hu
    refine ⟨by omega, hp, hc, fun i hi => ⟨by unfold Chs.now; rw [old i hi], by unfold Chs.par; rw [old i hi], by unfold Chs.chg; rw [old i hi]⟩, ?_, by simp⟩
    rw [hDp]
    have e2 : (⟨D.pages, C.at'⟩ : Chs).now C.at' = C.now C.at' := by unfold Chs.now; dsimp only; rw [old _ hC.cur]
    have e3 : (⟨D.pages, C.at'⟩ : Chs).child C.at' line = some C.pages.length := hu
    unfold Chs.do
    dsimp only
    rw [e2, hd]
    dsimp only
    rw [e3]
    dsimp only
    rw [← hD]
/-- the path behind a change -/
theorem Chs.path_do {C D : Chs} (hC : C.Ok) (hD : D.Ok) {line : ByteArray} (h0 : D.at' ≠ 0) (hp : D.par D.at' = C.at') (hc : D.chg D.at' = line) (hold : ∀ i, i < C.pages.length → D.now i = C.now i ∧ D.par i = C.par i ∧ D.chg i = C.chg i) (hl : C.pages.length ≤ D.pages.length) : D.path D.at' = C.path C.at' ++ [line] := by
  have hw : ∀ (n p : Nat), p ≤ n → p < C.pages.length → D.way p = C.way p := by
    intro n
    induction n with
    | zero => intro p hp _; have : p = 0 := by omega
              subst this; rw [Chs.way_zero hD, Chs.way_zero hC]
    | succ n ih =>
      intro p hp hpl
      by_cases hz : p = 0
      · subst hz; rw [Chs.way_zero hD, Chs.way_zero hC]
      · have hup := hC.up p (by omega) hpl
        rw [Chs.way_step hD hz (by omega), Chs.way_step hC hz hpl, (hold p hpl).2.1, ih _ (by omega) (by omega)]
  unfold Chs.path
  rw [Chs.way_step hD h0 hD.cur, hp, hw C.at' C.at' (Nat.le_refl _) hC.cur, List.map_append, List.map_cons, hc]
  congr 1
  refine List.map_congr_left fun x hx => ?_
  have := (Chs.way_mem hC hx).2
  have := hC.cur
  exact (hold x (by omega)).2.2
end Go.Lt.P10

namespace Go.Lt.P10
open Go Go.Lt Go.Proofs
section
variable {H : Hp} {c : Nat} {pv : Sl} {C : Chs} {t : Nat}
/-- Path -/
theorem path_ok (h : ChAt H c pv C t) (hC : C.Ok) : Lt.Ok (r43 c 0 H) fun r A => Gr H A ∧ AccN H.n A r (C.path C.at') := by
  unfold r43
  refine is (none_ok h hC) (Lt.Ok.neg (by simp) ?_)
  dsimp only
  have hm := hC.most
  refine Lt.Ok.ld (ldI_get h.get rfl) (Lt.Ok.bind (way_ok h hC hC.cur) fun v A ⟨g, hv⟩ => ?_)
  have hA := h.gr g
  have hvs := hv.sl
  have hl := hv.len
  rw [ints_len] at hl
  have hwl := C.way_len hC C.at'
  dsimp only
  refine Lt.Ok.loop (L := fun K (s : Sl × Int) B => r43_l0 K c 0 s.1 v (v.len : Int) s.2 B) (fun m s B => ∃ i : Nat, s.2 = (i : Int) ∧ i + m = (C.way C.at').length ∧ Gr A B ∧ AccN A.n B s.1 (((C.way C.at').take i).map C.chg)) ?_ FUEL (C.way C.at').length (⟨true, 0, 0, 0, 0, 0⟩, 0) A (by unfold FUEL; omega) ⟨0, rfl, by omega, .refl _, ⟨AccL.nilS, fun _ => rfl⟩⟩
  rintro K m ⟨r, i'⟩ B ⟨i, hi, him, gB, ha⟩ ih
  dsimp only at *
  subst hi
  have hB := hA.gr gB
  have hlen := hB.len
  rw [r43_l0]
  refine Lt.Ok.ite (fun hlt => ?_) fun hlt => ?_
  · have hil : i < (C.way C.at').length := by omega
    have hx : (C.way C.at')[i] < C.pages.length := by
      have := (Chs.way_mem hC (List.getElem_mem hil)).2
      have := hC.cur
      omega
    refine Lt.Ok.ck (by omega) (Lt.Ok.ld ((hvs.gr gB).ldI (i := i) (j := 0) (n := ((C.way C.at')[i] : Int)) (by rw [ints_len]; exact hil) (by simp only [ints, List.getElem_map]; rfl)) (Lt.Ok.ld (ldSl_get hB.get rfl) (Lt.Ok.ck (by omega) (Lt.Ok.ld (hB.ldCh hx) ?_))))
    rw [chg_get hx]
    refine Lt.Ok.bind (AccN.push ha gB.1 (C.chg (C.way C.at')[i]) rfl rfl (by simp; omega)) fun r' D ⟨k1, k2, k3, k4⟩ => ?_
    dsimp only
    rw [w64_succ (by omega)]
    refine ih (m - 1) (r', _) D (by omega) ⟨i + 1, rfl, by omega, But.gr k2 ha.1 gB, ?_⟩
    rw [List.take_succ_eq_append_getElem hil, List.map_append]
    exact k1
  · have : i = (C.way C.at').length := by omega
    subst this
    rw [List.take_length] at ha
    have e : AccN H.n B r (C.path C.at') := by
      refine ⟨?_, ha.2⟩
      rcases ha.1 with h | ⟨h1, h2, h3, h4, h5, h6, h7⟩
      · exact .inl h
      · exact .inr ⟨h1, h2, h3, h4, Nat.le_trans g.1 h5, h6, h7⟩
    exact Lt.Ok.ret ⟨g.trans gB, e⟩
end
end Go.Lt.P10

namespace Go.Lt.P10
open Go Go.Lt Go.Proofs
/-! ### numbers by a length -/
theorem wrapU {n : Int} : 0 ≤ IntKind.wrap .u64 n := by
  unfold IntKind.wrap
  simp [IntKind.signed, IntKind.bits]
  omega
theorem wrapU_id {n : Int} (h0 : 0 ≤ n) (h : n < 9223372036854775808) : IntKind.wrap .u64 n = n := by
  unfold IntKind.wrap
  simp [IntKind.signed, IntKind.bits]
  omega
theorem umod (a : Int) {n : Nat} (h0 : 1 ≤ n) (h1 : n ≤ 1000000) : IntKind.wrap .u64 (n : Int) ≠ 0 ∧ ∃ q : Nat, q < n ∧ w64 (Int.tmod (IntKind.wrap .u64 a) (IntKind.wrap .u64 (n : Int))) = (q : Int) := by
  rw [wrapU_id (n := (n : Int)) (by omega) (by omega)]
  have hm0 : 0 ≤ Int.tmod (IntKind.wrap .u64 a) (n : Int) := Int.tmod_nonneg _ wrapU
  have hm1 : Int.tmod (IntKind.wrap .u64 a) (n : Int) < n := Int.tmod_lt_of_pos _ (by omega)
  rw [w64_id (by omega) (by omega)]
  exact ⟨by omega, (Int.tmod (IntKind.wrap .u64 a) (n : Int)).toNat, by omega, by omega⟩
theorem ints_get {l : List Nat} {i : Nat} (h : i < l.length) : (ints l)[i]'(by rw [ints_len]; exact h) = (l[i] : Int) := by simp [ints]
theorem ints_ld {H : Hp} {v : Sl} {l : List Nat} (h : SL H v (ints l)) {i : Nat} (hi : i < l.length) : H.ldI .i64 v.b (v.o + i * 1) = some (l[i] : Int) := by
  have := h.ldI (i := i) (j := 0) (n := (l[i] : Int)) (by rw [ints_len]; exact hi) (by rw [ints_get hi]; rfl)
  exact this
theorem Chs.go_in (D : Chs) {q : Nat} (hq : q < D.pages.length) : D.go (q : Int) = (⟨D.pages, q⟩, 0) := by
  unfold Chs.go
  rw [if_pos (by omega)]; simp only [Int.toNat_natCast]
theorem strEq_self (s : ByteArray) : strEq s s = true := strEq_iff.2 rfl
theorem now_at (C : Chs) (q i : Nat) : (⟨C.pages, q⟩ : Chs).now i = C.now i := rfl
end Go.Lt.P10

namespace Go.Lt.P10
open Go Go.Lt Go.Proofs
/-- slices.Equal of strings that are the same -/
theorem equal_ok {H : Hp} {v w : Sl} {l : List ByteArray} (hv : SL H v l) (hw : SL H w l) (hb : l.length ≤ 1048577) : Lt.Ok (r42 v w H) fun r A => A = H ∧ r = true := by
  unfold r42
  have hl := hv.len
  have hl2 := hw.len
  refine Lt.Ok.neg (by omega) ?_
  refine Lt.Ok.loop (L := fun K (i : Int) A => r42_l0 K v w (v.len : Int) i A) (fun m i A => ∃ j : Nat, i = (j : Int) ∧ j + m = l.length ∧ A = H) ?_ FUEL l.length 0 H (by unfold FUEL; omega) ⟨0, rfl, by omega, rfl⟩
  rintro K m i A ⟨j, rfl, hj, rfl⟩ ih
  rw [r42_l0]
  refine Lt.Ok.ite (fun hlt => ?_) fun hlt => Lt.Ok.ret ⟨rfl, rfl⟩
  have hjl : j < l.length := by omega
  refine Lt.Ok.ck (by omega) (Lt.Ok.ld (SL.ldStr hv (i := j) (j := 0) hjl rfl) (Lt.Ok.ck (by omega) (Lt.Ok.ld (SL.ldStr hw (i := j) (j := 0) hjl rfl) ?_)))
  refine Lt.Ok.pos (strEq_self _) ?_
  rw [w64_id (n := (j : Int) + 1) (by omega) (by omega)]
  exact ih (m - 1) _ A (by omega) ⟨j + 1, by omega, by omega, rfl⟩
end Go.Lt.P10

namespace Go.Lt.P10
open Go Go.Lt Go.Proofs
def Chs.kids (C : Chs) (p : Nat) : List Nat := (List.range C.pages.length).filter fun i => decide (0 < i ∧ C.par i = p)
section
variable {H : Hp} {c : Nat} {pv : Sl} {C : Chs} {t : Nat}
/-- Children -/
theorem kids_ok (h : ChAt H c pv C t) (hC : C.Ok) : Lt.Ok (r44 c 0 H) fun r A => Gr H A ∧ AccN H.n A r (ints (C.kids C.at')) := by
  unfold r44
  refine is (none_ok h hC) (Lt.Ok.neg (by simp) ?_)
  dsimp only
  have hm := hC.most
  have hplen := h.len
  refine Lt.Ok.ld (ldSl_get h.get rfl) ?_
  have e0 : ∀ i, i ≤ C.pages.length → (ints ((List.range i).filter fun i => decide (0 < i ∧ C.par i = C.at'))).length ≤ i := fun i hi => by
    rw [ints_len]
    have := List.length_filter_le (fun i => decide (0 < i ∧ C.par i = C.at')) (List.range i)
    rw [List.length_range] at this
    exact this
  refine Lt.Ok.loop (L := fun K (s : Sl × Int) B => r44_l0 K c 0 s.1 pv (pv.len : Int) s.2 B) (fun m s B => ∃ i : Nat, s.2 = (i : Int) ∧ i + m = C.pages.length ∧ Gr H B ∧ AccN H.n B s.1 (ints ((List.range i).filter fun i => decide (0 < i ∧ C.par i = C.at')))) ?_ FUEL C.pages.length (⟨true, 0, 0, 0, 0, 0⟩, 0) H (by unfold FUEL; omega) ⟨0, rfl, by omega, .refl _, ⟨AccL.nilS, fun _ => rfl⟩⟩
  rintro K m ⟨r, i'⟩ B ⟨i, hi, him, g, ha⟩ ih
  dsimp only at *
  subst hi
  have hB := h.gr g
  rw [r44_l0]
  refine Lt.Ok.ite (fun hlt => ?_) fun hlt => ?_
  · have hil : i < C.pages.length := by omega
    obtain ⟨b, hb, _⟩ := hB.ldSt hil
    have q0 := hB.ldCh hil
    have q1 := hB.ldPar hil
    refine Lt.Ok.ck (by omega) (Lt.Ok.ld q0 (Lt.Ok.ld q1 (Lt.Ok.ld hb ?_)))
    rw [par_get hil, chg_get hil]
    obtain ⟨F, k1, k2, k3, k4⟩ := sts_blk [.str (C.chg i), .int .i64 (C.par i : Int), .ptr b 0] 0 (B.push (.cells [.str (ByteArray.mk #[]), .int .i64 0, .nilptr] false)) _ (Hp.get_push_new _ _) (by simp)
    have k2' : F.get B.n = some (.cells [.str (C.chg i), .int .i64 (C.par i : Int), .ptr b 0] false) := by rw [k2]; simp
    have gF : Gr B F := ⟨by rw [k3]; simp, fun c hc => by rw [k4 c (by omega), Hp.get_push_old _ _ hc]⟩
    have hF := hB.gr gF
    have haF := ha.gr gF
    have gHF := g.trans gF
    refine Lt.Ok.ld k1 ?_
    have er : List.range (i + 1) = List.range i ++ [i] := List.range_succ
    have skip : ¬ (0 < i ∧ C.par i = C.at') → Lt.Ok (r44_j1 (fun v1_ v2_ v3_ v4_ v5_ v6_ H_ => r44_l0 K v1_ v2_ v3_ v4_ v5_ v6_ H_) c 0 r (i : Int) pv (pv.len : Int) (i : Int) false F) (fun r A => Gr H A ∧ AccN H.n A r (ints (C.kids C.at'))) := fun hn => by
      unfold r44_j1
      refine Lt.Ok.neg (by simp) ?_
      rw [w64_succ (by omega)]
      refine ih (m - 1) (r, _) F (by omega) ⟨i + 1, rfl, by omega, gHF, ?_⟩
      rw [er, List.filter_append]
      have : [i].filter (fun i => decide (0 < i ∧ C.par i = C.at')) = [] := by
        rw [List.filter_cons, if_neg (by simpa using hn)]; rfl
      rw [this, List.append_nil]
      exact haF
    refine Lt.Ok.ite (fun h0 => ?_) fun h0 => ?_
    · refine Lt.Ok.ld (ldI_get k2' rfl) (Lt.Ok.ld (ldI_get hF.get rfl) ?_)
      by_cases hp : C.par i = C.at'
      · rw [decide_eq_true (by omega)]
        unfold r44_j1
        refine Lt.Ok.pos rfl (Lt.Ok.bind (AccN.push haF gHF.1 (i : Int) rfl rfl (by have := e0 i (by omega); omega)) fun r' D ⟨j1, j2, j3, j4⟩ => ?_)
        dsimp only
        rw [w64_succ (by omega)]
        refine ih (m - 1) (r', _) D (by omega) ⟨i + 1, rfl, by omega, But.gr j2 haF.1 gHF, ?_⟩
        rw [er, List.filter_append]
        have e1 : [i].filter (fun i => decide (0 < i ∧ C.par i = C.at')) = [i] := by
          rw [List.filter_cons, if_pos (by simp; omega)]; rfl
        rw [e1]
        have e2 : ∀ l : List Nat, ints (l ++ [i]) = ints l ++ [(i : Int)] := fun l => by simp [ints]
        rw [e2]
        exact j1
      · rw [decide_eq_false (by omega)]
        exact skip (fun h => hp h.2)
    · exact skip (fun h => h0 (by omega))
  · have : i = C.pages.length := by omega
    subst this
    exact Lt.Ok.ret ⟨g, ha⟩
end
theorem Chs.kids_mem {C : Chs} {p q : Nat} (h0 : 0 < q) (hq : q < C.pages.length) (hp : C.par q = p) : q ∈ C.kids p := by
  unfold Chs.kids
  rw [List.mem_filter]
  exact ⟨List.mem_range.2 hq, by simp [h0, hp]⟩
theorem kids_len (C : Chs) (p : Nat) : (C.kids p).length ≤ C.pages.length := by
  have := List.length_filter_le (fun i => decide (0 < i ∧ C.par i = p)) (List.range C.pages.length)
  rw [List.length_range] at this
  exact this
end Go.Lt.P10

namespace Go.Lt.P10
open Go Go.Lt Go.Proofs
/-! ### the books -/
def pgB (p : Pg) : List UInt8 := UInt8.ofNat p.parent :: UInt8.ofNat p.change.size :: p.change.data.toList
def bytesP (l : List Pg) : List UInt8 := (l.map pgB).flatten
def Chs.bytes (C : Chs) : List UInt8 := bytesP (C.pages.drop 1)
theorem pgB_len (p : Pg) : (pgB p).length = 2 + p.change.size := by
  have : p.change.data.toList.length = p.change.size := by rw [Array.length_toList]; rfl
  simp only [pgB, List.length_cons, this]; omega
theorem bytesP_append (a b : List Pg) : bytesP (a ++ b) = bytesP a ++ bytesP b := by simp [bytesP]
theorem bytesP_len : ∀ (l : List Pg), (∀ p ∈ l, p.change.size ≤ 60) → (bytesP l).length ≤ 62 * l.length
  | [], _ => by simp [bytesP]
  | p :: l, h => by
    have h1 := bytesP_len l fun q hq => h q (by simp [hq])
    have h2 := h p (by simp)
    have h3 : (bytesP (p :: l)).length = (pgB p).length + (bytesP l).length := by simp [bytesP]
    rw [h3, pgB_len]
    simp only [List.length_cons]; omega
theorem chg_le {C : Chs} (hC : C.Ok) {i : Nat} (hi : i < C.pages.length) : (C.chg i).size ≤ 60 := by
  by_cases h0 : i = 0
  · subst h0; rw [hC.rc]; decide
  · obtain ⟨w, hd⟩ := hC.did i (by omega) hi
    exact doS_size hd
theorem wrap8 {n : Nat} (h : n < 256) : IntKind.wrap .u8 (n : Int) = ((UInt8.ofNat n).toNat : Int) := by
  have e : (UInt8.ofNat n).toNat = n := by simp [UInt8.toNat_ofNat]; omega
  rw [e]
  unfold IntKind.wrap
  simp [IntKind.signed, IntKind.bits]
  omega
section
variable {H : Hp} {c : Nat} {pv : Sl} {C : Chs} {t : Nat}
/-- Bytes -/
theorem bytes_ok (h : ChAt H c pv C t) (hC : C.Ok) : Lt.Ok (r35 c 0 H) fun r A => Gr H A ∧ AccN H.n A r C.bytes := by
  unfold r35
  refine is (none_ok h hC) (Lt.Ok.neg (by simp) ?_)
  dsimp only
  have hm := hC.most; have h1 := hC.one
  have hplen := h.len; have hcap := h.cap; have ho := h.o
  have hopn : pv.opn = 0 ∨ pv.opn = 3 := h.opn
  refine Lt.Ok.ld (ldSl_get h.get rfl) (Lt.Ok.ck (by refine ⟨?_, hopn⟩; omega) ?_)
  have e1 : pv.cut 3 (1 : Int).toNat (pv.len : Int).toNat = ⟨false, pv.b, pv.o + 1 * 3, pv.len - 1, pv.cap - 1, pv.opn⟩ := by
    unfold Sl.cut
    rw [h.nn]; rfl
  rw [e1]
  refine Lt.Ok.loop (L := fun K (s : Sl × Int) B => r35_l0 K s.1 ⟨false, pv.b, pv.o + 1 * 3, pv.len - 1, pv.cap - 1, pv.opn⟩ (((pv.len - 1 : Nat)) : Int) s.2 B) (fun m s B => ∃ i : Nat, s.2 = (i : Int) ∧ i + m = C.pages.length - 1 ∧ Gr H B ∧ AccN H.n B s.1 (bytesP ((C.pages.drop 1).take i))) ?_ FUEL (C.pages.length - 1) (⟨true, 0, 0, 0, 0, 0⟩, 0) H (by unfold FUEL; omega) ⟨0, rfl, by omega, .refl _, ⟨AccL.nilS, fun _ => rfl⟩⟩
  rintro K m ⟨r, i'⟩ B ⟨i, hi, him, g, ha⟩ ih
  dsimp only at *
  subst hi
  have hB := h.gr g
  rw [r35_l0]
  refine Lt.Ok.ite (fun hlt => ?_) fun hlt => ?_
  · have hil : i + 1 < C.pages.length := by omega
    obtain ⟨b, hb, _⟩ := hB.ldSt hil
    have q0 : B.ldStr pv.b (pv.o + 1 * 3 + ((i : Int)).toNat * 3) = some C.pages[i + 1].change := by
      rw [← hB.ldCh hil]; congr 1; simp only [Int.toNat_natCast]; omega
    have q1 : B.ldI .i64 pv.b (pv.o + 1 * 3 + ((i : Int)).toNat * 3 + 1) = some (C.pages[i + 1].parent : Int) := by
      rw [← hB.ldPar hil]; congr 1; simp only [Int.toNat_natCast]; omega
    have q2 : B.ldP pv.b (pv.o + 1 * 3 + ((i : Int)).toNat * 3 + 2) = some (b, 0) := by
      rw [← hb]; congr 1; simp only [Int.toNat_natCast]; omega
    refine Lt.Ok.ck (by first | omega | (dsimp only; omega)) (Lt.Ok.ld q0 (Lt.Ok.ld q1 (Lt.Ok.ld q2 ?_)))
    obtain ⟨F, k1, k2, k3, k4⟩ := sts_blk [.str C.pages[i + 1].change, .int .i64 (C.pages[i + 1].parent : Int), .ptr b 0] 0 (B.push (.cells [.str (ByteArray.mk #[]), .int .i64 0, .nilptr] false)) _ (Hp.get_push_new _ _) (by simp)
    have k2' : F.get B.n = some (.cells [.str C.pages[i + 1].change, .int .i64 (C.pages[i + 1].parent : Int), .ptr b 0] false) := by rw [k2]; simp
    have gF : Gr B F := ⟨by rw [k3]; simp, fun c hc => by rw [k4 c (by omega), Hp.get_push_old _ _ hc]⟩
    have haF := ha.gr gF
    have gHF := g.trans gF
    have hBn := Hp.get_lt k2'
    have q5 : F.ldStr B.n (0 + 0) = some C.pages[i + 1].change := by simp [Hp.ldStr, ld_of_get k2', AV.asStr]
    refine Lt.Ok.ld k1 (Lt.Ok.ld (ldI_get k2' rfl) (Lt.Ok.ld q5 ?_))
    have hpar : C.pages[i + 1].parent < 256 := by
      have := hC.up (i + 1) (by omega) hil
      rw [par_get hil]; omega
    have hchg : C.pages[i + 1].change.size ≤ 60 := by
      have := chg_le hC hil
      rw [← chg_get hil] at this; exact this
    rw [wrap8 hpar, wrap8 (by omega)]
    have hlen1 : (bytesP ((C.pages.drop 1).take i)).length ≤ 62 * 200 := by
      have := bytesP_len ((C.pages.drop 1).take i) fun p hp => by
        have hp := List.mem_of_mem_drop (List.mem_of_mem_take hp)
        obtain ⟨j, hj, rfl⟩ := List.mem_iff_getElem.1 hp
        rw [chg_get hj]; exact chg_le hC hj
      rw [List.length_take, List.length_drop] at this
      omega
    have hsl := haF.1.len
    obtain ⟨r1, D, e1, a1, b1, c1, d1, _, _⟩ := Acc.apN (xs := [AV.int .u8 ((UInt8.ofNat C.pages[i + 1].parent).toNat : Int), .int .u8 ((UInt8.ofNat C.pages[i + 1].change.size).toNat : Int)]) (k := 2) haF.1 (by decide) rfl (by omega) gHF.1
    have e1' : F.apN 1 r [.int .u8 ((UInt8.ofNat C.pages[i + 1].parent).toNat : Int), .int .u8 ((UInt8.ofNat C.pages[i + 1].change.size).toNat : Int)] 2 = some (r1, D) := e1
    rw [e1']
    simp only [Option.bind_some]
    have hrB : r.nil = false → r.b ≠ B.n := fun hn => by
      have := SL.lt ha.1.sl (fun e => by
        have h2 := ha.2 e
        rw [h2] at hn; cases hn)
      omega
    have q6 : D.ldStr B.n (0 + 0) = some C.pages[i + 1].change := by
      have hg : D.get B.n = some (.cells [.str C.pages[i + 1].change, .int .i64 (C.pages[i + 1].parent : Int), .ptr b 0] false) := by
        rw [b1.2 _ hBn (fun hn => (hrB hn).symm)]; exact k2'
      simp [Hp.ldStr, ld_of_get hg, AV.asStr]
    rw [q6]
    simp only [Option.bind_some]
    have gHD : Gr H D := But.gr b1 haF.1 gHF
    obtain ⟨r2, E, e2, a2, b2, c2, d2, f2, _⟩ := Acc.app (xs := bytesAV C.pages[i + 1].change) (k := C.pages[i + 1].change.size) a1 (by decide) (by rw [bytesAV_len]; exact (Nat.mul_one _).symm) (by omega) gHD.1
    have e2' : D.app 1 r1 (bytesAV C.pages[i + 1].change) C.pages[i + 1].change.size = some (r2, E) := e2
    rw [e2']
    simp only [Option.bind_some]
    rw [w64_succ (by omega)]
    have hdr : ((C.pages.drop 1).take (i + 1)) = ((C.pages.drop 1).take i) ++ [C.pages[i + 1]] := by
      rw [List.take_succ_eq_append_getElem (by rw [List.length_drop]; omega), List.getElem_drop]
      congr 2
      congr 1
      omega
    refine ih (m - 1) (r2, _) E (by omega) ⟨i + 1, rfl, by omega, But.gr b2 a1 gHD, ?_, ?_⟩
    · unfold AccL
      rw [hdr, bytesP_append, encs_append]
      have e3 : encs (bytesP [C.pages[i + 1]]) = [AV.int .u8 ((UInt8.ofNat C.pages[i + 1].parent).toNat : Int), .int .u8 ((UInt8.ofNat C.pages[i + 1].change.size).toNat : Int)] ++ bytesAV C.pages[i + 1].change := by
        rw [bytes_encs]
        have : bytesP [C.pages[i + 1]] = UInt8.ofNat C.pages[i + 1].parent :: UInt8.ofNat C.pages[i + 1].change.size :: C.pages[i + 1].change.data.toList := by simp [bytesP, pgB]
        rw [this, encs_cons, encs_cons]
        rfl
      rw [e3, ← List.append_assoc]
      exact a2
    · intro e
      rw [hdr, bytesP_append] at e
      have := congrArg List.length e
      rw [List.length_append] at this
      simp [bytesP, pgB] at this
  · have : i = C.pages.length - 1 := by omega
    subst this
    have e : (C.pages.drop 1).take (C.pages.length - 1) = C.pages.drop 1 := by
      rw [List.take_of_length_le]; rw [List.length_drop]; exact Nat.le_refl _
    rw [e] at ha
    exact Lt.Ok.ret ⟨g, ha⟩
end
theorem bInts_encs : ∀ l : List UInt8, bInts (encs l) = some (l.map fun b => (b.toNat : Int))
  | [] => rfl
  | b :: l => by
    rw [encs_cons]
    show bInts (.int .u8 (b.toNat : Int) :: encs l) = _
    unfold bInts
    rw [bInts_encs l]; rfl
/-- bytes.Equal of the same bytes -/
theorem bEq_ok {H : Hp} {v w : Sl} {l : List UInt8} (hv : SL H v l) (hw : SL H w l) : r39 v w H = some (true, H) := by
  unfold r39
  have e1 := hv.lds
  have e2 := hw.lds
  have z1 : v.len * El.sz UInt8 = v.len := Nat.mul_one _
  have z2 : w.len * El.sz UInt8 = w.len := Nat.mul_one _
  rw [z1] at e1; rw [z2] at e2
  rw [e1]
  simp only [Option.bind_some, bInts_encs]
  rw [e2]
  simp only [Option.bind_some, bInts_encs]
  rw [strEq_self]
end Go.Lt.P10

namespace Go.Lt.P10
open Go Go.Lt Go.Proofs
/-! ### reading books, in plain Lean -/
/-- what Read makes of bytes: none where they are no books -/
def Chs.rd : Nat → Chs → List UInt8 → Option Chs
  | 0, _, _ => none
  | _ + 1, C, [] => some ⟨C.pages, 0⟩
  | _ + 1, _, [_] => none
  | k + 1, C, p :: n :: r =>
    if r.length < n.toNat then none else if (C.go (p.toNat : Int)).2 ≠ 0 then none
    else if ((C.go (p.toNat : Int)).1.do ⟨(r.take n.toNat).toArray⟩).2.2 ≠ 0 ∨ ((C.go (p.toNat : Int)).1.do ⟨(r.take n.toNat).toArray⟩).1.pages.length = C.pages.length then none
    else Chs.rd k ((C.go (p.toNat : Int)).1.do ⟨(r.take n.toNat).toArray⟩).1 (r.drop n.toNat)
theorem u8_nat {n : Nat} (h : n < 256) : (UInt8.ofNat n).toNat = n := by simp [UInt8.toNat_ofNat]; omega
/-- a chest reads its own books -/
theorem Chs.rd_own {C : Chs} (hC : C.Ok) : ∀ (m i q k : Nat), 1 ≤ i → i + m = C.pages.length → m < k → Chs.rd k ⟨C.pages.take i, q⟩ (bytesP (C.pages.drop i)) = some ⟨C.pages, 0⟩
  | 0, i, q, k, h1, hi, hk => by
    obtain ⟨k, rfl⟩ : ∃ k', k = k' + 1 := ⟨k - 1, by omega⟩
    have e : C.pages.drop i = [] := List.drop_of_length_le (by omega)
    rw [e, List.take_of_length_le (by omega)]
    rfl
  | m + 1, i, q, k, h1, hi, hk => by
    obtain ⟨k, rfl⟩ : ∃ k', k = k' + 1 := ⟨k - 1, by omega⟩
    have hil : i < C.pages.length := by omega
    have hm := hC.most
    have hlen : (C.pages.take i).length = i := by rw [List.length_take]; omega
    have hup := hC.up i (by omega) hil
    have hsz := chg_le hC hil
    have ep : C.pages[i].parent = C.par i := par_get hil
    have ec : C.pages[i].change = C.chg i := chg_get hil
    have en : C.pages[i].st = C.now i := now_get hil
    have eb : bytesP (C.pages.drop i) = UInt8.ofNat (C.par i) :: UInt8.ofNat (C.chg i).size :: ((C.chg i).data.toList ++ bytesP (C.pages.drop (i + 1))) := by
      rw [List.drop_eq_getElem_cons hil]
      show pgB C.pages[i] ++ bytesP _ = _
      unfold pgB
      rw [ep, ec]; rfl
    have hcl : (C.chg i).data.toList.length = (C.chg i).size := by rw [Array.length_toList]; rfl
    have u1 := u8_nat (n := C.par i) (by omega)
    have u2 := u8_nat (n := (C.chg i).size) (by omega)
    have hgo : Chs.go ⟨C.pages.take i, q⟩ (C.par i : Int) = (⟨C.pages.take i, C.par i⟩, 0) := by
      unfold Chs.go
      rw [if_pos (by dsimp only; rw [hlen]; omega)]; simp only [Int.toNat_natCast]
    have hget : ∀ j, j < i → (C.pages.take i)[j]? = C.pages[j]? := fun j hj => List.getElem?_take_of_lt hj
    have hnow : (⟨C.pages.take i, C.par i⟩ : Chs).now (C.par i) = C.now (C.par i) := by unfold Chs.now; dsimp only; rw [hget _ hup]
    obtain ⟨w, hd⟩ := hC.did i (by omega) hil
    have hchild : (⟨C.pages.take i, C.par i⟩ : Chs).child (C.par i) (C.chg i) = none := by
      have hu := hC.uq i (by omega) hil
      unfold Chs.child at hu ⊢
      dsimp only
      obtain ⟨_, _, hlt⟩ := List.findIdx?_eq_some_iff_getElem.1 hu
      rw [List.findIdx?_eq_none_iff]
      intro x hx
      obtain ⟨j, hj, rfl⟩ := List.mem_iff_getElem.1 hx
      rw [hlen] at hj
      have := hlt j hj
      rw [List.getElem_take]
      simpa using this
    have hdo : Chs.do ⟨C.pages.take i, C.par i⟩ (C.chg i) = (⟨C.pages.take (i + 1), i⟩, w, 0) := by
      unfold Chs.do
      dsimp only
      rw [hnow, hd]
      dsimp only
      rw [hchild]
      dsimp only
      rw [hlen, if_neg (by omega), List.take_succ_eq_append_getElem hil]
      congr 4
      rw [← ep, ← ec, ← en]
    rw [eb]
    unfold Chs.rd
    have htk : ((C.chg i).data.toList ++ bytesP (C.pages.drop (i + 1))).take (UInt8.ofNat (C.chg i).size).toNat = (C.chg i).data.toList := by
      rw [u2, ← hcl, List.take_left]
    have hdr : ((C.chg i).data.toList ++ bytesP (C.pages.drop (i + 1))).drop (UInt8.ofNat (C.chg i).size).toNat = bytesP (C.pages.drop (i + 1)) := by
      rw [u2, ← hcl, List.drop_left]
    have hst : (⟨(C.chg i).data.toList.toArray⟩ : ByteArray) = C.chg i := by simp
    rw [htk, hdr, hst, u1, hgo]
    dsimp only
    rw [hdo]
    dsimp only
    rw [if_neg (by rw [List.length_append, u2, hcl]; omega), if_neg (by decide), if_neg (by rw [List.length_take, hlen]; omega)]
    exact Chs.rd_own hC m (i + 1) i k (by omega) (by omega) (by omega)
theorem Chs.rd_bytes {C : Chs} (hC : C.Ok) {k : Nat} (hk : C.pages.length ≤ k) : Chs.rd k Chs.new C.bytes = some ⟨C.pages, 0⟩ := by
  have hone := hC.one
  have h := Chs.rd_own hC (C.pages.length - 1) 1 0 k (Nat.le_refl _) (by omega) (by omega)
  have e : C.pages.take 1 = Chs.new.pages := by
    rw [List.take_succ_eq_append_getElem (by omega), List.take_zero]
    have ep : C.pages[0].parent = C.par 0 := par_get (by omega)
    have ec : C.pages[0].change = C.chg 0 := chg_get (by omega)
    have en : C.pages[0].st = C.now 0 := now_get (by omega)
    have e3 : C.pages[0] = ⟨ByteArray.mk #[], 0, St.new⟩ := by
      have h1 := hC.rc; have h2 := hC.root
      rw [h1] at ec; rw [h2.1] at ep; rw [h2.2] at en
      cases hx : C.pages[0] with
      | mk a b d =>
        rw [hx] at ep ec en
        dsimp only at ep ec en
        rw [ep, ec, en]
    rw [e3]; rfl
  rw [e] at h
  exact h
end Go.Lt.P10

namespace Go.Lt.P10
open Go Go.Lt Go.Proofs
/-! ### Read -/
theorem Chs.rd_two : ∀ (k k' : Nat) (C : Chs) (l : List UInt8), l.length < k → l.length < k' → Chs.rd k C l = Chs.rd k' C l
  | 0, _, C, l, h, _ => by omega
  | _ + 1, 0, C, l, _, h => by omega
  | k + 1, k' + 1, C, [], _, _ => rfl
  | k + 1, k' + 1, C, [x], _, _ => rfl
  | k + 1, k' + 1, C, p :: n :: r, h, h' => by
    simp only [List.length_cons] at h h'
    have hl : (r.drop n.toNat).length ≤ r.length := by rw [List.length_drop]; omega
    unfold Chs.rd
    rw [Chs.rd_two k k' _ (r.drop n.toNat) (by omega) (by omega)]
theorem Chs.rd_fuel (k : Nat) (C : Chs) (l : List UInt8) (h : l.length < k) : Chs.rd k C l = Chs.rd (l.length + 1) C l := Chs.rd_two _ _ _ _ h (by omega)
theorem SL.ldU8 {H : Hp} {v : Sl} {l : List UInt8} (h : SL H v l) {i : Nat} (hi : i < l.length) : H.ldI .u8 v.b (v.o + i * 1) = some (l[i].toNat : Int) := by
  have := h.ld (i := i) (j := 0) (x := .int .u8 (l[i].toNat : Int)) hi rfl
  have e : v.o + i * El.sz UInt8 + 0 = v.o + i * 1 := rfl
  rw [e] at this
  show (H.ld v.b (v.o + i * 1)).bind (AV.asI .u8) = _
  rw [this]; rfl
theorem strNums (l : List UInt8) : strOfNums (l.map fun b => (b.toNat : Int)) = ⟨l.toArray⟩ := by
  unfold strOfNums
  congr 2
  rw [List.map_map]
  conv => rhs; rw [← List.map_id l]
  refine List.map_congr_left fun b _ => ?_
  simp
theorem read_ok {k : Nat} {H : Hp} {v : Sl} {l : List UInt8} (hv : SL H v l) (hb : l.length ≤ 1000000) :
    Lt.Ok (r36 (appA (k + 2)) v H) fun r A => Gr H A ∧ match Chs.rd (l.length + 1) Chs.new l with
      | none => r = (.nilptr, 3)
      | some X => ∃ d pw t, r = (.ptr d 0, 0) ∧ ChAt A d pw X t ∧ X.Ok ∧ H.n ≤ d ∧ H.n ≤ pw.b := by
  unfold r36
  refine Lt.Ok.bind new_ok fun r A ⟨h0, g, hc, pv, t0, hA, hp⟩ => ?_
  obtain ⟨c, o⟩ := r
  dsimp only at h0 hc hA ⊢
  subst h0
  have hbv : l ≠ [] → v.b < H.n := fun hne => SL.lt hv hne
  refine Lt.Ok.loop (L := fun K (s : Sl) D => r36_l0 (appA (k + 2)) K s c 0 D) (fun m s D => ∃ (q : List UInt8) (pe : Sl) (E : Chs) (te : Nat), q.length = m ∧ Gr H D ∧ ChAt D c pe E te ∧ E.Ok ∧ H.n ≤ pe.b ∧ SL D s q ∧ (q ≠ [] → s.b < H.n) ∧ q.length ≤ l.length ∧ Chs.rd (q.length + 1) E q = Chs.rd (l.length + 1) Chs.new l) ?_ FUEL l.length v A (by unfold FUEL; omega) ⟨l, pv, Chs.new, t0, rfl, g, hA, Chs.new_ok, hp, hv.gr g, hbv, Nat.le_refl _, rfl⟩
  rintro K m s D ⟨q, pe, E, te, hqm, gD, hD, hE, hpe, hs, hsb, hql, hrd⟩ ih
  have hsl := hs.len
  rw [← hrd]
  rw [r36_l0]
  have fail : ∀ (KK) (A : Hp), Gr H A → Chs.rd (q.length + 1) E q = none → Lt.Ok (r36_j1 (appA (k + 2)) KK s c 0 true A) (fun r A => Gr H A ∧ match Chs.rd (q.length + 1) E q with
      | none => r = (.nilptr, 3)
      | some X => ∃ d pw t, r = (.ptr d 0, 0) ∧ ChAt A d pw X t ∧ X.Ok ∧ H.n ≤ d ∧ H.n ≤ pw.b) := fun KK A gA e => by
    unfold r36_j1
    rw [e]
    exact Lt.Ok.pos rfl (Lt.Ok.ret ⟨gA, rfl⟩)
  match q, hqm, hs, hsl, hsb, hql, hrd, fail with
  | [], hqm, hs, hsl, hsb, hql, hrd, fail =>
    refine Lt.Ok.neg (by simp at hsl; omega) ?_
    have e : Chs.rd (([] : List UInt8).length + 1) E [] = some ⟨E.pages, 0⟩ := rfl
    rw [e]
    refine hD.setAt fun F hF sF => Lt.Ok.ret ⟨sF.gr gD hc hpe, c, pe, te, rfl, hF, ⟨hE.one, hE.most, by dsimp only; have := hE.one; omega, hE.root, hE.up, hE.st, hE.did, hE.uq, hE.rc⟩, hc, hpe⟩
  | [x], hqm, hs, hsl, hsb, hql, hrd, fail =>
    simp only [List.length_cons, List.length_nil] at hsl
    exact Lt.Ok.pos (by omega) (Lt.Ok.pos (by omega) (fail _ D gD rfl))
  | p :: n :: r, hqm, hs, hsl, hsb, hql, hrd, fail =>
    simp only [List.length_cons] at hsl hqm hql
    have hn8 : n.toNat < 256 := n.toNat_lt
    have hp8 : p.toNat < 256 := p.toNat_lt
    have u1 : D.ldI .u8 s.b (s.o + (1 : Int).toNat * 1) = some (n.toNat : Int) := SL.ldU8 hs (i := 1) (by simp)
    have u0 : D.ldI .u8 s.b (s.o + (0 : Int).toNat * 1) = some (p.toNat : Int) := SL.ldU8 hs (i := 0) (by simp)
    have w1 : w64 (2 + w64 (n.toNat : Int)) = ((2 + n.toNat : Nat) : Int) := by rw [w64_id (n := (n.toNat : Int)) (by omega) (by omega), w64_id (by omega) (by omega)]; omega
    refine Lt.Ok.pos (by omega) (Lt.Ok.neg (by omega) (Lt.Ok.ck (by omega) (Lt.Ok.ld u1 ?_)))
    rw [w1]
    refine Lt.Ok.ite (fun hlt => ?_) fun hlt => ?_
    · refine fail _ D gD ?_
      unfold Chs.rd
      rw [if_pos (by omega)]
    have hrl : n.toNat ≤ r.length := by omega
    refine Lt.Ok.ck (by omega) (Lt.Ok.ld u0 ?_)
    rw [w64_id (n := (p.toNat : Int)) (by omega) (by omega)]
    refine Lt.Ok.bind (go_ok (k := k + 1) hD hE (p.toNat : Int)) fun rg F ⟨hrg, hF, sF⟩ => ?_
    have gF := sF.gr gD hc hpe
    have hsne := hsb (by simp)
    have hsF : SL F s (p :: n :: r) := SL.sp hs fun _ => sF.e _ (by have := gD.1; omega) (by omega) (by omega)
    by_cases hgo : (E.go (p.toNat : Int)).2 ≠ 0
    · rw [decide_eq_true (by dsimp only; rw [hrg]; exact hgo)]
      refine fail _ F gF ?_
      unfold Chs.rd
      rw [if_neg (by omega), if_pos hgo]
    rw [decide_eq_false (by dsimp only; rw [hrg]; exact hgo)]
    dsimp only
    unfold r36_j1
    have hE2 := Chs.go_ok hE (p.toNat : Int)
    have hgp : (E.go (p.toNat : Int)).1.pages = E.pages := by unfold Chs.go; split <;> rfl
    have hFl := hF.len
    rw [hgp] at hFl
    have u1' : F.ldI .u8 s.b (s.o + (1 : Int).toNat * 1) = some (n.toNat : Int) := SL.ldU8 hsF (i := 1) (by simp)
    have hcap := hsF.cap
    have hopn : s.opn = 0 ∨ s.opn = 1 := hsF.opn
    refine Lt.Ok.neg (by simp) (Lt.Ok.ld (ldSl_get hF.get rfl) (Lt.Ok.ck (by omega) (Lt.Ok.ld u1' ?_)))
    rw [w1]
    refine Lt.Ok.ck (by refine ⟨?_, hopn⟩; omega) ?_
    have ec : s.cut 1 (2 : Int).toNat (((2 + n.toNat : Nat) : Int)).toNat = s.cut (El.sz UInt8) 2 (2 + n.toNat) := rfl
    rw [ec]
    have hcut := hsF.cut (lo := 2) (hi := 2 + n.toNat) (by omega) (by simp only [List.length_cons]; omega)
    have e2 : 2 + n.toNat - 2 = n.toNat := by omega
    rw [e2] at hcut
    have e3 : (p :: n :: r).drop 2 = r := rfl
    rw [e3] at hcut
    have hlds := hcut.lds
    have z1 : (s.cut (El.sz UInt8) 2 (2 + n.toNat)).len * El.sz UInt8 = (s.cut (El.sz UInt8) 2 (2 + n.toNat)).len := Nat.mul_one _
    rw [z1] at hlds
    rw [hlds]
    simp only [Option.bind_some, bInts_encs]
    rw [strNums]
    have hlsz : (ByteArray.mk (r.take n.toNat).toArray).size = n.toNat := by
      show (r.take n.toNat).toArray.size = _
      simp; omega
    generalize hline : (ByteArray.mk (r.take n.toNat).toArray) = line at *
    refine Lt.Ok.bind (do_ok (k := k) hF hE2 (line := line) (by omega)) fun rd G ⟨hr, pe', te', hG, sG⟩ => ?_
    have hE3 := Chs.do_ok hE2 line
    have gG := sG.gr gF hc hpe
    have hsG : SL G s (p :: n :: r) := SL.sp hsF fun _ => sG.e _ (by have := gF.1; omega) (by omega) (by omega)
    have hpe' : H.n ≤ pe'.b := by have := gF.1; rcases sG.q with e | e <;> omega
    have hGl := hG.len
    have gd : ∀ b, (r36_j2 (appA (k + 2)) (fun v1_ v2_ v3_ H_ => r36_l0 (appA (k + 2)) K v1_ v2_ v3_ H_) s c 0 line b G) = (r36_j2 (appA (k + 2)) (fun v1_ v2_ v3_ H_ => r36_l0 (appA (k + 2)) K v1_ v2_ v3_ H_) s c 0 line b G) := fun _ => rfl
    by_cases hz : ((E.go (p.toNat : Int)).1.do line).2.2 ≠ 0 ∨ ((E.go (p.toNat : Int)).1.do line).1.pages.length = E.pages.length
    · have en : Chs.rd ((p :: n :: r).length + 1) E (p :: n :: r) = none := by
        unfold Chs.rd
        rw [if_neg (by omega), if_neg hgo, hline, if_pos hz]
      rw [en]
      dsimp only
      have stop : Lt.Ok (r36_j2 (appA (k + 2)) (fun v1_ v2_ v3_ H_ => r36_l0 (appA (k + 2)) K v1_ v2_ v3_ H_) s c 0 line true G) (fun r A => Gr H A ∧ r = (.nilptr, 3)) := by
        unfold r36_j2
        exact Lt.Ok.pos rfl (Lt.Ok.ret ⟨gG, rfl⟩)
      by_cases hz1 : ((E.go (p.toNat : Int)).1.do line).2.2 ≠ 0
      · exact Lt.Ok.pos (by rw [hr]; exact hz1) stop
      · refine Lt.Ok.neg (by rw [hr]; exact hz1) (Lt.Ok.ld (ldSl_get hG.get rfl) ?_)
        rw [decide_eq_true (by rcases hz with hz | hz; exact absurd hz hz1; omega)]
        exact stop
    · have hz1 : ¬ ((E.go (p.toNat : Int)).1.do line).2.2 ≠ 0 := fun h => hz (.inl h)
      have hz2 : ¬ ((E.go (p.toNat : Int)).1.do line).1.pages.length = E.pages.length := fun h => hz (.inr h)
      refine Lt.Ok.neg (by dsimp only; rw [hr]; exact hz1) (Lt.Ok.ld (ldSl_get hG.get rfl) ?_)
      rw [decide_eq_false (by omega)]
      unfold r36_j2
      have w2 : w64 (2 + (line.size : Int)) = ((2 + n.toNat : Nat) : Int) := by rw [w64_id (by omega) (by omega)]; omega
      rw [w2]
      refine Lt.Ok.neg (by simp) (Lt.Ok.ck (by refine ⟨?_, hopn⟩; omega) ?_)
      have ec2 : s.cut 1 (((2 + n.toNat : Nat) : Int)).toNat ((s.len : Int)).toNat = s.cut (El.sz UInt8) (2 + n.toNat) s.len := rfl
      rw [ec2]
      have hcut2 := hsG.cut (lo := 2 + n.toNat) (hi := s.len) (by omega) (by simp only [List.length_cons]; omega)
      have e4 : (p :: n :: r).drop (2 + n.toNat) = r.drop n.toNat := by
        rw [Nat.add_comm]; rfl
      rw [e4, List.take_of_length_le (by rw [List.length_drop]; omega)] at hcut2
      have hnn : s.nil = false := hs.nonnil (by simp)
      have hen : Chs.rd ((p :: n :: r).length + 1) E (p :: n :: r) = Chs.rd ((r.drop n.toNat).length + 1) ((E.go (p.toNat : Int)).1.do line).1 (r.drop n.toNat) := by
        have hl : (r.drop n.toNat).length ≤ r.length := by rw [List.length_drop]; omega
        conv => lhs; unfold Chs.rd
        rw [if_neg (by omega), if_neg hgo, hline, if_neg hz, Chs.rd_fuel _ _ _ (by simp only [List.length_cons]; omega)]
      have := ih (r.drop n.toNat).length (s.cut (El.sz UInt8) (2 + n.toNat) s.len) G (by rw [List.length_drop]; omega) ⟨r.drop n.toNat, pe', _, te', rfl, gG, hG, hE3, hpe', hcut2, fun _ => by
        have : (s.cut (El.sz UInt8) (2 + n.toNat) s.len).b = s.b := by simp [Sl.cut, hnn]
        rw [this]; exact hsne, by rw [List.length_drop]; omega, by rw [← hen]; exact hrd⟩
      rw [hrd]
      exact this
end Go.Lt.P10

namespace Go.Lt.P10
open Go Go.Lt Go.Proofs
/-! ### the state as a string -/
theorem asStrs_map : ∀ l : List ByteArray, asStrs (l.map .str) = some l
  | [] => rfl
  | x :: l => by simp only [List.map_cons, asStrs, asStrs_map l, Option.map_some]
/-- the bytes of many strings -/
def szs (l : List ByteArray) : Nat := (l.map (·.size)).sum
theorem szs_le {K : Nat} : ∀ {l : List ByteArray}, (∀ x ∈ l, x.size ≤ K) → szs l ≤ l.length * K
  | [], _ => by simp [szs]
  | x :: l, h => by
    have h1 := h x (by simp)
    have h2 := szs_le (l := l) fun y hy => h y (by simp [hy])
    simp only [szs, List.map_cons, List.sum_cons, List.length_cons, Nat.add_mul, Nat.one_mul] at h2 ⊢
    omega
theorem join_size (xs : List ByteArray) (sep : ByteArray) : (joinA xs sep).size ≤ szs xs + xs.length * sep.size := by
  have hj : (joinA xs sep).size = (Lib.join (xs.map (·.data.toList)) sep.data.toList).length := by simp [joinA, ByteArray.size]
  rw [hj]
  cases xs with
  | nil => simp [Lib.join_nil]
  | cons x r =>
    rw [List.map_cons, Lib.join_cons, List.length_append]
    have ht : ∀ l : List ByteArray, (Lib.joinTail sep.data.toList (l.map (·.data.toList))).length = szs l + l.length * sep.size := by
      intro l
      induction l with
      | nil => simp [Lib.joinTail, szs]
      | cons y l ih =>
        have e : (Lib.joinTail sep.data.toList ((y :: l).map (·.data.toList))).length = (sep.data.toList.length + y.data.toList.length) + (Lib.joinTail sep.data.toList (l.map (·.data.toList))).length := by
          simp [Lib.joinTail]; omega
        have e1 : sep.data.toList.length = sep.size := by rw [Array.length_toList]; rfl
        have e2 : y.data.toList.length = y.size := by rw [Array.length_toList]; rfl
        rw [e, ih, e1, e2]
        simp only [szs, List.map_cons, List.sum_cons, List.length_cons, Nat.add_mul, Nat.one_mul]
        omega
    have e2 : x.data.toList.length = x.size := by rw [Array.length_toList]; rfl
    rw [ht, e2]
    simp only [szs, List.map_cons, List.sum_cons, List.length_cons, Nat.add_mul, Nat.one_mul]
    omega
theorem app109 (k : Nat) (v : Sl) (sep : ByteArray) (H : Hp) : appA (k + 1) 109 [.sl v, .str sep] H = joinP v sep H := rfl
theorem app131 (k : Nat) (b : Nat) (s : ByteArray) (H : Hp) : appA (k + 1) 131 [.ptr b 0, .str s] H = wsP b s H := rfl
theorem app136 (k : Nat) (b : Nat) (H : Hp) : appA (k + 1) 136 [.ptr b 0] H = strP b H := rfl
theorem app132 (k : Nat) (b : Nat) (w : ByteArray) (v : Sl) (H : Hp) : callv (appA (k + 1)) (.fn 132 [] [.ptr b 0]) [.str w, .sl v] H = (r132 (appA k) w v b H).map fun p => (.tup [], p.2) := rfl
theorem join_ok {H : Hp} {v : Sl} {l : List ByteArray} (h : SL H v l) (sep : ByteArray) (hl : l.length ≤ 1048577) (hs : szs l + l.length * sep.size ≤ 140737488355328) : joinP v sep H = some (.str (joinA l sep), H) := by
  unfold joinP
  have e := h.lds
  have e1 : v.len * El.sz ByteArray = v.len := Nat.mul_one _
  rw [e1, enc_str] at e
  rw [e]
  simp only [Option.bind_some, asStrs_map]
  have := join_size l sep
  rw [if_pos ⟨by omega, by omega⟩]
/-- a builder that holds something, or nothing yet -/
def BldAt (n0 : Nat) (H : Hp) (b : Nat) (o : Option ByteArray) : Prop :=
  n0 ≤ b ∧ ((o = none ∧ H.get b = some (.bld none 0)) ∨ ∃ l q, o = some l ∧ n0 ≤ q ∧ b ≠ q ∧ H.get b = some (.bld (some q) l.size) ∧ H.get q = some (.buf l))
theorem BldAt.gr {n0 b : Nat} {H H' : Hp} {o : Option ByteArray} (h : BldAt n0 H b o) (g : Gr H H') : BldAt n0 H' b o := by
  obtain ⟨h0, h⟩ := h
  refine ⟨h0, ?_⟩
  rcases h with ⟨h1, h2⟩ | ⟨l, q, h1, h2, h3, h4, h5⟩
  · exact .inl ⟨h1, by rw [g.2 _ (Hp.get_lt h2)]; exact h2⟩
  · exact .inr ⟨l, q, h1, h2, h3, by rw [g.2 _ (Hp.get_lt h4)]; exact h4, by rw [g.2 _ (Hp.get_lt h5)]; exact h5⟩
def accO (o : Option ByteArray) (s : ByteArray) : ByteArray := match o with | none => s | some l => l ++ s
def szO (o : Option ByteArray) : Nat := match o with | none => 0 | some l => l.size
theorem szO_acc (o : Option ByteArray) (s : ByteArray) : (accO o s).size = szO o + s.size := by
  cases o with
  | none => simp [accO, szO]
  | some l => simp [accO, szO, ByteArray.size_append]
/-- blocks below are kept -/
structure Lo (n0 : Nat) (H H' : Hp) : Prop where
  n : H.n ≤ H'.n
  e : ∀ c, c < n0 → H'.get c = H.get c
theorem Lo.refl (n0 : Nat) (H : Hp) : Lo n0 H H := ⟨Nat.le_refl _, fun _ _ => rfl⟩
theorem Lo.trans {n0 : Nat} {A B C : Hp} (h : Lo n0 A B) (k : Lo n0 B C) : Lo n0 A C := ⟨Nat.le_trans h.n k.n, fun c hc => (k.e c hc).trans (h.e c hc)⟩
theorem Lo.of_gr {n0 : Nat} {A B : Hp} (g : Gr A B) (h : n0 ≤ A.n) : Lo n0 A B := ⟨g.1, fun c hc => g.2 c (by omega)⟩
theorem ws_ok {n0 b : Nat} {H : Hp} {o : Option ByteArray} (h : BldAt n0 H b o) {s : ByteArray} (h1 : 1 ≤ s.size) (h2 : szO o + s.size ≤ 16777216) :
    ∃ A, wsP b s H = some (.tup [.int .i64 s.size, .niliface], A) ∧ BldAt n0 A b (some (accO o s)) ∧ Lo n0 H A := by
  obtain ⟨h0, h⟩ := h
  rcases h with ⟨rfl, hg⟩ | ⟨l, q, rfl, hq0, hbq, hg, hgq⟩
  · have hb := Hp.get_lt hg
    refine ⟨_, by unfold wsP; rw [hg]; simp only; rw [if_pos ⟨h1, by simp only [szO] at h2; omega⟩], ⟨h0, .inr ⟨s, H.n, rfl, by omega, by omega, ?_, ?_⟩⟩, ⟨by simp, fun c hc => ?_⟩⟩
    · exact Hp.get_set_same _ _ (by simp; omega)
    · rw [Hp.get_set_other _ _ (by omega)]
      have : H.n = (H.set b .dead).n := by simp
      conv => lhs; arg 2; rw [this]
      exact Hp.get_push_new _ _
    · rw [Hp.get_set_other _ _ (by omega), Hp.get_push_old _ _ (by simp; omega), Hp.get_set_other _ _ (by omega)]
  · have hb := Hp.get_lt hg
    have hqn := Hp.get_lt hgq
    have hsz : (l ++ s).size = l.size + s.size := ByteArray.size_append ..
    refine ⟨_, by unfold wsP; rw [hg]; simp only; rw [hgq]; simp only; rw [if_pos ⟨trivial, h1, by simp only [szO] at h2; omega, hbq⟩], ⟨h0, .inr ⟨l ++ s, H.n, rfl, by omega, by omega, ?_, ?_⟩⟩, ⟨by simp, fun c hc => ?_⟩⟩
    · rw [hsz]; exact Hp.get_set_same _ _ (by simp; omega)
    · rw [Hp.get_set_other _ _ (by omega)]
      have : H.n = ((H.set q .dead).set b .dead).n := by simp
      conv => lhs; arg 2; rw [this]
      exact Hp.get_push_new _ _
    · rw [Hp.get_set_other _ _ (by omega), Hp.get_push_old _ _ (by simp; omega), Hp.get_set_other _ _ (by omega), Hp.get_set_other _ _ (by omega)]
theorem str_ok {n0 b : Nat} {H : Hp} {l : ByteArray} (h : BldAt n0 H b (some l)) (h1 : 1 ≤ l.size) : ∃ A, strP b H = some (.str l, A) ∧ Lo n0 H A := by
  obtain ⟨h0, h⟩ := h
  rcases h with ⟨e, _⟩ | ⟨l', q, e, hq0, hbq, hg, hgq⟩
  · cases e
  injection e with e
  subst e
  refine ⟨_, by unfold strP; rw [hg]; simp only; rw [hgq]; simp only; rw [if_pos ⟨trivial, h1, hbq⟩], ⟨by simp, fun c hc => ?_⟩⟩
  rw [Hp.get_set_other _ _ (by omega), Hp.get_set_other _ _ (by omega)]
/-- a line of words -/
def lineA (w : ByteArray) (l : List ByteArray) : ByteArray := joinA (w :: l) (ByteArray.mk #[32]) ++ ByteArray.mk #[10]
theorem line_size (w : ByteArray) (l : List ByteArray) : 1 ≤ (lineA w l).size ∧ (lineA w l).size ≤ w.size + szs l + l.length + 2 := by
  have h := join_size (w :: l) (ByteArray.mk #[32])
  have e : (ByteArray.mk #[32]).size = 1 := rfl
  have e2 : (ByteArray.mk #[10]).size = 1 := rfl
  unfold lineA
  rw [ByteArray.size_append, e2]
  rw [e] at h
  simp only [szs, List.map_cons, List.sum_cons, List.length_cons, Nat.mul_one] at h ⊢
  omega
theorem r132_ok {k n0 b : Nat} {H : Hp} {o : Option ByteArray} {v : Sl} {l : List ByteArray} (h : BldAt n0 H b o) (hn : n0 ≤ H.n) (hv : SL H v l) (w : ByteArray) (hl : l.length ≤ 1000) (hs : szO o + w.size + szs l + l.length + 2 ≤ 16777216) :
    Lt.Ok (r132 (appA (k + 1)) w v b H) fun _ A => BldAt n0 A b (some (accO o (lineA w l))) ∧ Lo n0 H A := by
  unfold r132
  have g0 := Gr.push H (.cells [.str w] false)
  have hg := Hp.get_push_new H (.cells [.str w] false)
  have hnn := Hp.n_push H (.cells [.str w] false)
  generalize H.push (.cells [.str w] false) = A at *
  have hvA := hv.gr g0
  have hlen := hvA.len
  have hlds := hvA.lds
  have e1 : v.len * El.sz ByteArray = v.len * 1 := rfl
  rw [e1] at hlds
  refine Lt.Ok.ld hlds (Lt.Ok.ck ?_ ?_)
  · rw [enc_str, List.all_map, List.all_eq_true]; intro x _; rfl
  have key : Lt.Ok (A.app 1 ⟨false, H.n, 0, 1, 1, 0⟩ (encs l) v.len) fun r B => Gr A B ∧ SL B r (w :: l) := by
    unfold Hp.app
    rw [if_pos (by dsimp only; omega)]
    by_cases h0 : v.len = 0
    · have : l = [] := List.length_eq_zero_iff.1 (by omega)
      subst this
      rw [if_pos (by dsimp only; omega), if_neg (by simp)]
      simp only [encs, List.flatMap_nil, Hp.sts, Option.map_some]
      exact Lt.Ok.ret ⟨.refl _, .of_get (ro := false) hg rfl (by simp [h0]) (by simp [h0]) (.inl rfl) rfl⟩
    · rw [if_neg (by dsimp only; omega)]
      have hld : A.lds H.n (0 + 0) 1 = some [.str w] := by
        have := lds_cells (H := A) (b := H.n) (ro := false) [.str w] [] hg
        exact this
      have : A.lds (⟨false, H.n, 0, 1, 1, 0⟩ : Sl).b (⟨false, H.n, 0, 1, 1, 0⟩ : Sl).o ((⟨false, H.n, 0, 1, 1, 0⟩ : Sl).len * 1) = some [.str w] := hld
      rw [this]
      simp only [Option.bind_some, if_true]
      refine Lt.Ok.ret ⟨Gr.push _ _, .of_get (ro := false) (Hp.get_push_new _ _) rfl (by simp [hlen]; omega) (Nat.le_refl _) (.inr rfl) rfl⟩
  refine Lt.Ok.bind key fun r B ⟨gB, hr⟩ => ?_
  dsimp only
  rw [app109, join_ok hr _ (by simp; omega) (by
    have : (ByteArray.mk #[32]).size = 1 := rfl
    rw [this]
    simp only [szs, List.map_cons, List.sum_cons, List.length_cons]
    unfold szs at hs
    omega)]
  simp only [Option.bind_some, AV.asStr]
  have hls := line_size w l
  have hjs : (joinA (w :: l) (ByteArray.mk #[32])).size + (ByteArray.mk #[10]).size = (lineA w l).size := by unfold lineA; rw [ByteArray.size_append]
  refine Lt.Ok.ck (by omega) ?_
  rw [app131]
  obtain ⟨D, e, hD, lD⟩ := ws_ok (h.gr (g0.trans gB)) (s := lineA w l) hls.1 (by omega)
  have e' : wsP b (joinA (w :: l) (ByteArray.mk #[32]) ++ ByteArray.mk #[10]) B = some (.tup [.int .i64 (lineA w l).size, .niliface], D) := e
  rw [e']
  simp only [Option.bind_some, AV.asT, List.length_cons, List.length_nil]
  refine Lt.Ok.ck (by simp) ?_
  simp only [List.getElem?_cons_zero, List.getElem?_cons_succ, Option.bind_some, AV.asI, if_true]
  exact Lt.Ok.ret ⟨hD, (Lo.of_gr (g0.trans gB) hn).trans lD⟩
/-- names of leaves -/
def nameOf (s : St) (i : Int) : ByteArray := (s.leaves.getD i.toNat (ByteArray.mk #[], 0)).1
theorem names_ok {H : Hp} {P : Nat → Prop} {b : Nat} {s : St} (h : StAt H P b s) {v : Sl} {l : List Int} (hv : SL H v l) (hl : l.length ≤ 1000) (hr : ∀ i ∈ l, 0 ≤ i ∧ i < s.leaves.length) :
    Lt.Ok (r133 b 0 v H) fun r A => Gr H A ∧ SL A r (l.map (nameOf s)) := by
  unfold r133
  obtain ⟨hb, v1, v2, v3, hg, h1, _, _⟩ := h
  have hlen := hv.len
  have h1len := h1.sl.len
  refine Lt.Ok.loop (L := fun K (t : Sl × Int) A => r133_l0 K b 0 t.1 v (v.len : Int) t.2 A) (fun m t A => ∃ i : Nat, t.2 = (i : Int) ∧ i + m = l.length ∧ Gr H A ∧ AccN H.n A t.1 ((l.take i).map (nameOf s))) ?_ FUEL l.length (⟨true, 0, 0, 0, 0, 0⟩, 0) H (by unfold FUEL; omega) ⟨0, rfl, by omega, .refl _, ⟨AccL.nilS, fun _ => rfl⟩⟩
  rintro K m ⟨r, i'⟩ A ⟨i, hi, him, g, ha⟩ ih
  dsimp only at *
  subst hi
  rw [r133_l0]
  refine Lt.Ok.ite (fun hlt => ?_) fun hlt => ?_
  · have hil : i < l.length := by omega
    obtain ⟨k0, k1⟩ := hr l[i] (List.getElem_mem hil)
    obtain ⟨q, hq⟩ := Int.eq_ofNat_of_zero_le k0
    have hql : q < s.leaves.length := by omega
    refine Lt.Ok.ck (by omega) (Lt.Ok.ld ((hv.gr g).ldI (i := i) (j := 0) (n := (q : Int)) hil (by rw [hq]; rfl)) (Lt.Ok.ld (ldSl_get (n := v1) ((g.2 _ (Hp.get_lt hg)).trans hg) rfl) (Lt.Ok.ck (by omega) (Lt.Ok.ld (SL.ldStr (h1.sl.gr g) (i := q) (j := 0) hql rfl) ?_))))
    refine Lt.Ok.bind (AccN.push ha g.1 s.leaves[q].1 rfl rfl (by simp; omega)) fun r' B ⟨k1, k2, k3, k4⟩ => ?_
    dsimp only
    rw [w64_succ (by omega)]
    refine ih (m - 1) (r', _) B (by omega) ⟨i + 1, rfl, by omega, But.gr k2 ha.1 g, ?_⟩
    rw [List.take_succ_eq_append_getElem hil, List.map_append]
    have e : [l[i]].map (nameOf s) = [s.leaves[q].1] := by
      simp only [List.map_cons, List.map_nil, nameOf, hq, Int.toNat_natCast, List.getD_eq_getElem?_getD, List.getElem?_eq_getElem hql, Option.getD_some]
    rw [e]; exact k1
  · have : i = l.length := by omega
    subst this
    rw [List.take_length] at ha
    exact Lt.Ok.ret ⟨g, ha.1.sl⟩
/-- numbers as words -/
theorem numbers_ok {k : Nat} {H : Hp} {v : Sl} {l : List Int} (hv : SL H v l) (hl : l.length ≤ 1000) (hr : ∀ i ∈ l, -9223372036854775808 ≤ i ∧ i ≤ 9223372036854775807) :
    Lt.Ok (r134 (appA (k + 1)) v H) fun r A => Gr H A ∧ SL A r (l.map itoaA) := by
  unfold r134
  have hlen := hv.len
  refine Lt.Ok.loop (L := fun K (t : Sl × Int) A => r134_l0 (appA (k + 1)) K t.1 v (v.len : Int) t.2 A) (fun m t A => ∃ i : Nat, t.2 = (i : Int) ∧ i + m = l.length ∧ Gr H A ∧ AccN H.n A t.1 ((l.take i).map itoaA)) ?_ FUEL l.length (⟨true, 0, 0, 0, 0, 0⟩, 0) H (by unfold FUEL; omega) ⟨0, rfl, by omega, .refl _, ⟨AccL.nilS, fun _ => rfl⟩⟩
  rintro K m ⟨r, i'⟩ A ⟨i, hi, him, g, ha⟩ ih
  dsimp only at *
  subst hi
  rw [r134_l0]
  refine Lt.Ok.ite (fun hlt => ?_) fun hlt => ?_
  · have hil : i < l.length := by omega
    refine Lt.Ok.ck (by omega) (Lt.Ok.ld ((hv.gr g).ldI (i := i) (j := 0) (n := l[i]) hil rfl) ?_)
    rw [app33]
    unfold itoaP
    rw [if_pos (hr _ (List.getElem_mem hil))]
    simp only [Option.bind_some, AV.asStr]
    refine Lt.Ok.bind (AccN.push ha g.1 (itoaA l[i]) rfl rfl (by simp; omega)) fun r' B ⟨k1, k2, k3, k4⟩ => ?_
    dsimp only
    rw [w64_succ (by omega)]
    refine ih (m - 1) (r', _) B (by omega) ⟨i + 1, rfl, by omega, But.gr k2 ha.1 g, ?_⟩
    rw [List.take_succ_eq_append_getElem hil, List.map_append]
    exact k1
  · have : i = l.length := by omega
    subst this
    rw [List.take_length] at ha
    exact Lt.Ok.ret ⟨g, ha.1.sl⟩
/-- slices.Concat of two slices -/
theorem concat_ok {H : Hp} {b : Nat} {x y : Sl} {l1 l2 : List Int} (hg : H.get b = some (.cells [.sl x, .sl y] false)) (hx : SL H x l1) (hy : SL H y l2) (h0 : 1 ≤ l1.length + l2.length) (hl : l1.length + l2.length ≤ 1000) :
    Lt.Ok (r135 ⟨false, b, 0, 2, 2, 0⟩ H) fun r A => Gr H A ∧ SL A r (l1 ++ l2) := by
  unfold r135
  have e : ∃ k, FUEL = k + 3 := ⟨FUEL - 3, by unfold FUEL; omega⟩
  obtain ⟨k, e⟩ := e
  have hxl := hx.len; have hyl := hy.len
  have q1 : ∀ A : Hp, A.get b = some (.cells [.sl x, .sl y] false) → A.ldSl b (0 + (0 : Int).toNat * 1) = some x := fun A h => ldSl_get (n := x) h rfl
  have q2 : ∀ A : Hp, A.get b = some (.cells [.sl x, .sl y] false) → A.ldSl b (0 + (1 : Int).toNat * 1) = some y := fun A h => ldSl_get (n := y) h rfl
  rw [e, r135_l0]
  dsimp only
  refine Lt.Ok.pos (by first | omega | (dsimp only; omega)) (Lt.Ok.ck (by first | omega | (dsimp only; omega)) (Lt.Ok.ld (q1 H hg) ?_))
  rw [w64_id (n := 0 + (x.len : Int)) (by omega) (by omega), w64_id (n := (0 : Int) + 1) (by omega) (by omega)]
  refine Lt.Ok.neg (by omega) ?_
  rw [r135_l0]
  refine Lt.Ok.pos (by first | omega | (dsimp only; omega)) (Lt.Ok.ck (by first | omega | (dsimp only; omega)) (Lt.Ok.ld (q2 H hg) ?_))
  rw [w64_id (n := 0 + (x.len : Int) + (y.len : Int)) (by omega) (by omega), w64_id (n := (0 : Int) + 1 + 1) (by omega) (by omega)]
  refine Lt.Ok.neg (by omega) ?_
  rw [r135_l0]
  refine Lt.Ok.neg (by first | omega | (dsimp only; omega)) ?_
  have hN : 0 + (x.len : Int) + (y.len : Int) = ((l1.length + l2.length : Nat) : Int) := by omega
  rw [hN]
  generalize hNN : l1.length + l2.length = N at *
  have hgrow : Lt.Ok (r186 ⟨true, 0, 0, 0, 0, 0⟩ (N : Int) H) fun r A => r = ⟨false, H.n, 0, 0, N, 1⟩ ∧ A = H.push (.cells (zerosA [.int .i64 0] (N * 1)) false) := by
    unfold r186
    have e1 : w64 ((N : Int) - w64 (((0 : Nat) : Int) - ((0 : Nat) : Int))) = (N : Int) := by rw [w64_id (n := ((0 : Nat) : Int) - ((0 : Nat) : Int)) (by omega) (by omega), w64_id (by omega) (by omega)]; omega
    dsimp only
    rw [e1]
    simp only [Int.toNat_natCast]
    exact Lt.Ok.neg (by omega) (Lt.Ok.ck trivial (Lt.Ok.pos (by omega) (Lt.Ok.ck trivial (Lt.Ok.ck (by simp) (Lt.Ok.ck rfl (Lt.Ok.ck (by omega) (Lt.Ok.ck (by simp) (Lt.Ok.lt (Lt.Ok.ret ⟨rfl, rfl⟩)))))))))
  refine Lt.Ok.bind hgrow fun r A ⟨er, eA⟩ => ?_
  subst er
  have g0 : Gr H A := by rw [eA]; exact Gr.push _ _
  have hbn := Hp.get_lt hg
  have hAg : A.get H.n = some (.cells (zerosA [.int .i64 0] (N * 1)) false) := by rw [eA]; exact Hp.get_push_new _ _
  have hAb := (g0.2 b hbn).trans hg
  have hAn : H.n < A.n := Hp.get_lt hAg
  rw [e, r135_l1]
  dsimp only
  have hz : (zerosA [.int .i64 0] (N * 1)).length = N := by rw [zerosA_len]; omega
  generalize zerosA [AV.int .i64 0] (N * 1) = zs at *
  have e1 : x.len * El.sz Int = x.len * 1 := rfl
  have e2 : y.len * El.sz Int = y.len * 1 := rfl
  have one : ∀ l : List Int, (encs l).all AV.one = true := fun l => by
    rw [List.all_eq_true]
    intro z hz
    have : ∀ l : List Int, ∀ z ∈ encs l, AV.one z = true := by
      intro l
      induction l with
      | nil => intro z hz; cases hz
      | cons a l ih =>
        intro z hz
        rw [encs_cons] at hz
        rcases List.mem_append.1 hz with hz | hz
        · have : z = .int .i64 a := by simpa [El.enc] using hz
          subst this; rfl
        · exact ih z hz
    exact this l z hz
  have el : ∀ l : List Int, (encs l).length = l.length := fun l => by rw [encs_len]; exact Nat.mul_one _
  refine Lt.Ok.pos (by first | omega | (dsimp only; omega)) (Lt.Ok.ck (by first | omega | (dsimp only; omega)) (Lt.Ok.ld (q1 A hAb) (Lt.Ok.ld (by have := (hx.gr g0).lds; rw [e1] at this; exact this) (Lt.Ok.ck (one _) ?_))))
  obtain ⟨B, b1, b2, b3, b4⟩ := sts_blk (encs l1) 0 A zs hAg (by rw [el]; omega)
  have hap : A.app 1 ⟨false, H.n, 0, 0, N, 1⟩ (encs l1) x.len = some (⟨false, H.n, 0, x.len, N, 1⟩, B) := by
    unfold Hp.app
    rw [if_pos (by first | omega | (dsimp only; omega)), if_pos (by first | omega | (dsimp only; omega)), if_neg (by simp)]
    dsimp only
    rw [Nat.zero_mul, Nat.zero_add, b1]
    simp
  rw [hap]
  simp only [Option.bind_some]
  rw [w64_id (n := (0 : Int) + 1) (by omega) (by omega), r135_l1]
  have gB : Gr H B := ⟨by rw [b3]; omega, fun c hc => by rw [b4 c (by omega)]; exact g0.2 c hc⟩
  have hBb := (gB.2 b hbn).trans hg
  refine Lt.Ok.pos (by first | omega | (dsimp only; omega)) (Lt.Ok.ck (by first | omega | (dsimp only; omega)) (Lt.Ok.ld (q2 B hBb) (Lt.Ok.ld (by have := (hy.gr gB).lds; rw [e2] at this; exact this) (Lt.Ok.ck (one _) ?_))))
  obtain ⟨D, d1, d2, d3, d4⟩ := sts_blk (encs l2) l1.length B _ b2 (by simp only [List.take_zero, List.nil_append, List.length_append, List.length_drop, el, hz, Nat.zero_add]; omega)
  have hap : B.app 1 ⟨false, H.n, 0, x.len, N, 1⟩ (encs l2) y.len = some (⟨false, H.n, 0, N, N, 1⟩, D) := by
    unfold Hp.app
    rw [if_pos (by first | omega | (dsimp only; omega)), if_pos (by first | omega | (dsimp only; omega)), if_neg (by simp)]
    dsimp only
    rw [Nat.zero_add, Nat.mul_one, hxl, d1]
    simp only [Option.map_some]
    congr 3
    omega
  rw [hap]
  simp only [Option.bind_some]
  rw [w64_id (n := (0 : Int) + 1 + 1) (by omega) (by omega), r135_l1]
  refine Lt.Ok.neg (by first | omega | (dsimp only; omega)) (Lt.Ok.ret ⟨⟨by rw [d3, b3]; omega, fun c hc => by rw [d4 c (by omega)]; exact gB.2 c hc⟩, ?_⟩)
  refine .of_get (ro := false) (v := ⟨false, H.n, 0, N, N, 1⟩) (l := l1 ++ l2) ?_ rfl (by simp [hNN]) (Nat.le_refl _) (.inr rfl) rfl
  rw [d2]
  congr 2
  rw [encs_append]
  have t1 : (List.take 0 zs ++ encs l1 ++ List.drop (0 + (encs l1).length) zs).take l1.length = encs l1 := by
    simp only [List.take_zero, List.nil_append]
    rw [List.take_append_of_le_length (by rw [el]; exact Nat.le_refl _), List.take_of_length_le (by rw [el]; exact Nat.le_refl _)]
  have t2 : (List.take 0 zs ++ encs l1 ++ List.drop (0 + (encs l1).length) zs).drop (l1.length + (encs l2).length) = [] := by
    apply List.drop_eq_nil_of_le
    simp only [List.take_zero, List.nil_append, List.length_append, List.length_drop, el, hz, Nat.zero_add]
    omega
  rw [t1, t2, List.append_nil]
end Go.Lt.P10

namespace Go.Lt.P10
open Go Go.Lt Go.Proofs
/-! ### text -/
def wLeafSp : ByteArray := ByteArray.mk #[108, 101, 97, 102, 32]
def wOrders : ByteArray := ByteArray.mk #[111, 114, 100, 101, 114, 115]
def wTastes : ByteArray := ByteArray.mk #[116, 97, 115, 116, 101, 115]
def wOffers : ByteArray := ByteArray.mk #[111, 102, 102, 101, 114, 115]
def leafLn (l : ByteArray × Int) : ByteArray := (((wLeafSp ++ l.1) ++ ByteArray.mk #[32]) ++ itoaA l.2) ++ ByteArray.mk #[10]
def offW (p : Int × Int) : ByteArray := (itoaA p.1 ++ ByteArray.mk #[44]) ++ itoaA p.2
def leavesO (l : List (ByteArray × Int)) : Option ByteArray := l.foldl (fun o x => some (accO o (leafLn x))) none
/-- the state as a string -/
def textS (s : St) : ByteArray :=
  accO (some (accO (some (accO (leavesO s.leaves) (lineA wOrders (s.orders.map (nameOf s))))) (lineA wTastes ([s.t0, s.t1, s.t2, s.t3].map itoaA)))) (lineA wOffers (s.offers.map offW))
theorem itoa_small {n : Int} (h0 : 0 ≤ n) (h1 : n ≤ 40) : (itoaA n).size ≤ 4 := by
  obtain ⟨k, rfl⟩ := Int.eq_ofNat_of_zero_le h0
  have key : ∀ k : Nat, k < 41 → (itoaA (k : Int)).size ≤ 4 := by decide +kernel
  exact key k (by omega)
theorem leafLn_size {l : ByteArray × Int} (h1 : l.1.size ≤ 8) (h2 : 0 ≤ l.2 ∧ l.2 ≤ 20) : 1 ≤ (leafLn l).size ∧ (leafLn l).size ≤ 19 := by
  have := itoa_small h2.1 (by omega)
  unfold leafLn wLeafSp
  simp only [ByteArray.size_append]
  have e1 : (ByteArray.mk #[108, 101, 97, 102, 32]).size = 5 := rfl
  have e2 : (ByteArray.mk #[32]).size = 1 := rfl
  have e3 : (ByteArray.mk #[10]).size = 1 := rfl
  omega
theorem leavesO_size : ∀ (l : List (ByteArray × Int)), (∀ x ∈ l, x.1.size ≤ 8 ∧ 0 ≤ x.2 ∧ x.2 ≤ 20) → szO (leavesO l) ≤ 19 * l.length := by
  intro l
  have key : ∀ (l : List (ByteArray × Int)) (o : Option ByteArray), (∀ x ∈ l, x.1.size ≤ 8 ∧ 0 ≤ x.2 ∧ x.2 ≤ 20) → szO (l.foldl (fun o x => some (accO o (leafLn x))) o) ≤ szO o + 19 * l.length := by
    intro l
    induction l with
    | nil => intro o _; simp
    | cons x l ih =>
      intro o h
      have h1 := ih (some (accO o (leafLn x))) fun y hy => h y (by simp [hy])
      have h2 := leafLn_size (h x (by simp)).1 (h x (by simp)).2
      have h3 : szO (some (accO o (leafLn x))) = szO o + (leafLn x).size := szO_acc o _
      rw [h3] at h1
      simp only [List.foldl_cons, List.length_cons]
      omega
  intro h
  have := key l none h
  have e : szO none = 0 := rfl
  unfold leavesO
  omega
theorem szs_names {s : St} (hs : s.Ok) : szs (s.orders.map (nameOf s)) ≤ 40 * 8 := by
  have h := szs_le (K := 8) (l := s.orders.map (nameOf s)) fun x hx => by
    obtain ⟨i, hi, rfl⟩ := List.mem_map.1 hx
    obtain ⟨h0, h1⟩ := hs.ol i hi
    unfold nameOf
    have hlt : i.toNat < s.leaves.length := by omega
    rw [List.getD_eq_getElem?_getD, List.getElem?_eq_getElem hlt]
    exact hs.nm _ (List.getElem_mem hlt)
  have := hs.o40
  rw [List.length_map] at h
  omega
theorem szs_tastes {s : St} (hs : s.Ok) : szs ([s.t0, s.t1, s.t2, s.t3].map itoaA) ≤ 16 := by
  obtain ⟨a0, a1, a2, a3, a4⟩ := hs.ts
  exact szs_le (K := 4) (l := [s.t0, s.t1, s.t2, s.t3].map itoaA) fun x hx => by
    obtain ⟨i, hi, rfl⟩ := List.mem_map.1 hx
    simp only [List.mem_cons, List.not_mem_nil, or_false] at hi
    rcases hi with rfl | rfl | rfl | rfl <;> exact itoa_small (by omega) (by omega)
theorem offW_size {p : Int × Int} (h : 0 ≤ p.1 ∧ p.1 ≤ 30 ∧ 0 ≤ p.2 ∧ p.2 ≤ 30) : (offW p).size ≤ 9 := by
  have h1 := itoa_small h.1 (by omega)
  have h2 := itoa_small h.2.2.1 (by omega)
  unfold offW
  simp only [ByteArray.size_append]
  have e2 : (ByteArray.mk #[44]).size = 1 := rfl
  omega
/-- the end of a text: the offers -/
theorem r80_l1_ok {k n0 bb b o : Nat} {H A : Hp} {s : St} {v3 : Sl} {o2 : ByteArray} (hs : s.Ok) (h3 : SL H v3 s.offers) (hn : n0 = H.n) (lA : Lo n0 H A) (hB : BldAt n0 A bb (some o2)) (h2 : o2.size ≤ 100000) :
    Lt.Ok (r80_l1 (appA (k + 2)) FUEL bb bb ⟨true, 0, 0, 0, 0, 0⟩ v3 (v3.len : Int) 0 A) fun r B => Gr H B ∧ r = accO (some o2) (lineA wOffers (s.offers.map offW)) := by
  subst hn
  have hl := h3.len
  have h8 := hs.f8
  refine Lt.Ok.loop (L := fun K (t : Sl × Int) D => r80_l1 (appA (k + 2)) K bb bb t.1 v3 (v3.len : Int) t.2 D) (fun m t D => ∃ i : Nat, t.2 = (i : Int) ∧ i + m = s.offers.length ∧ Gr A D ∧ AccN A.n D t.1 ((s.offers.take i).map offW)) ?_ FUEL s.offers.length (⟨true, 0, 0, 0, 0, 0⟩, 0) A (by unfold FUEL; omega) ⟨0, rfl, by omega, .refl _, ⟨AccL.nilS, fun _ => rfl⟩⟩
  rintro K m ⟨r, i'⟩ D ⟨i, hi, him, g, ha⟩ ih
  dsimp only at *
  subst hi
  have lD : Lo H.n H D := lA.trans (.of_gr g lA.n)
  have hD := hB.gr g
  have h3D : SL D v3 s.offers := SL.sp h3 fun hne => lD.e _ (SL.lt h3 hne)
  rw [r80_l1]
  refine Lt.Ok.ite (fun hlt => ?_) fun hlt => ?_
  · have hil : i < s.offers.length := by omega
    have hx := hs.fl _ (List.getElem_mem hil)
    have e0 : D.ldI .i64 v3.b (v3.o + ((i : Int)).toNat * 2) = some s.offers[i].1 := h3D.ldI (i := i) (j := 0) hil rfl
    have e1 : D.ldI .i64 v3.b ((v3.o + ((i : Int)).toNat * 2) + 1) = some s.offers[i].2 := h3D.ldI (i := i) (j := 1) hil rfl
    refine Lt.Ok.ck (by omega) (Lt.Ok.ld e0 (Lt.Ok.ld e1 ?_))
    obtain ⟨F, q1, q2, q3, q4⟩ := sts_blk [.int .i64 s.offers[i].1, .int .i64 s.offers[i].2] 0 (D.push (.cells [.int .i64 0, .int .i64 0] false)) _ (Hp.get_push_new _ _) (by simp)
    have q2' : F.get D.n = some (.cells [.int .i64 s.offers[i].1, .int .i64 s.offers[i].2] false) := by rw [q2]; simp
    have gF : Gr D F := ⟨by rw [q3]; simp, fun c hc => by rw [q4 c (by omega), Hp.get_push_old _ _ hc]⟩
    refine Lt.Ok.ld q1 (Lt.Ok.ld (ldI_get q2' rfl) ?_)
    rw [app33]
    unfold itoaP
    rw [if_pos (by omega)]
    simp only [Option.bind_some, AV.asStr]
    have z1 := itoa_small hx.1 (by omega)
    have z2 := itoa_small hx.2.2.1 (by omega)
    have z3 : (ByteArray.mk #[44]).size = 1 := rfl
    refine Lt.Ok.ck (by omega) (Lt.Ok.ld (ldI_get q2' rfl) ?_)
    rw [app33]
    unfold itoaP
    rw [if_pos (by omega)]
    simp only [Option.bind_some, AV.asStr]
    refine Lt.Ok.ck (by rw [ByteArray.size_append]; omega) ?_
    have haF := ha.gr gF
    refine Lt.Ok.bind (AccN.push haF (g.trans gF).1 (offW s.offers[i]) rfl rfl (by simp; omega)) fun r' B ⟨k1, k2, k3, k4⟩ => ?_
    dsimp only
    refine Lt.Ok.ck (ldI_get q2' rfl) ?_
    rw [w64_succ (by omega)]
    refine ih (m - 1) (r', _) B (by omega) ⟨i + 1, rfl, by omega, But.gr k2 haF.1 (g.trans gF), ?_⟩
    rw [List.take_succ_eq_append_getElem hil, List.map_append]; exact k1
  · have : i = s.offers.length := by omega
    subst this
    rw [List.take_length] at ha
    rw [app132]
    have hsz : szs (s.offers.map offW) ≤ 8 * 9 := by
      have := szs_le (K := 9) (l := s.offers.map offW) fun x hx => by
        obtain ⟨p, hp, rfl⟩ := List.mem_map.1 hx
        exact offW_size (hs.fl p hp)
      rw [List.length_map] at this
      omega
    have hw : wOffers.size = 6 := rfl
    refine Lt.Ok.bind (P := fun _ B => BldAt H.n B bb (some (accO (some o2) (lineA wOffers (s.offers.map offW)))) ∧ Lo H.n D B) ?_ fun _ B ⟨hB, lB⟩ => ?_
    · obtain ⟨u, B, e1, h1, h2'⟩ := r132_ok (k := k) hD lD.n ha.1.sl wOffers (by rw [List.length_map]; omega) (by simp only [szO]; rw [List.length_map]; omega)
      have e1 : r132 (appA (k + 1)) wOffers r bb D = some (u, B) := e1
      show Lt.Ok ((r132 (appA (k + 1)) wOffers r bb D).map _) _
      rw [e1]
      exact Lt.Ok.ret ⟨h1, h2'⟩
    · rw [app136]
      obtain ⟨E, e1, lE⟩ := str_ok hB (by have := line_size wOffers (s.offers.map offW); simp only [accO, ByteArray.size_append]; omega)
      dsimp only
      rw [e1]
      simp only [Option.bind_some, AV.asStr]
      have := (lD.trans lB).trans lE
      exact Lt.Ok.ret ⟨⟨this.n, this.e⟩, rfl⟩
/-- text -/
theorem text_ok {k : Nat} {H : Hp} {P : Nat → Prop} {b : Nat} {s : St} (h : StAt H P b s) (hs : s.Ok) : Lt.Ok (r80 (appA (k + 2)) b 0 H) fun r A => Gr H A ∧ r = textS s := by
  unfold r80
  refine Lt.Ok.lt ?_
  have hst := h
  obtain ⟨hb, v1, v2, v3, hg, h1, h2, h3⟩ := h
  have hbn := Hp.get_lt hg
  have g0 := Gr.push H (.bld none 0)
  have hB0 : BldAt H.n (H.push (.bld none 0)) H.n none := ⟨Nat.le_refl _, .inl ⟨rfl, Hp.get_push_new _ _⟩⟩
  have hn0 := Hp.n_push H (.bld none 0)
  generalize H.push (.bld none 0) = A0 at *
  have h6 := hs.l6
  have hl1 := h1.sl.len
  refine Lt.Ok.ld (ldSl_get (n := v1) ((g0.2 _ hbn).trans hg) rfl) ?_
  have hall : ∀ x ∈ s.leaves, x.1.size ≤ 8 ∧ 0 ≤ x.2 ∧ x.2 ≤ 20 := fun x hx => ⟨hs.nm x hx, hs.st x hx⟩
  refine Lt.Ok.loop (L := fun K (i : Int) D => r80_l0 (appA (k + 2)) K b 0 H.n v1 (v1.len : Int) i D) (fun m i' D => ∃ i : Nat, i' = (i : Int) ∧ i + m = s.leaves.length ∧ Lo H.n H D ∧ BldAt H.n D H.n (leavesO (s.leaves.take i))) ?_ FUEL s.leaves.length 0 A0 (by unfold FUEL; omega) ⟨0, rfl, by omega, .of_gr g0 (Nat.le_refl _), hB0⟩
  rintro K m i' D ⟨i, rfl, him, lD, hD⟩ ih
  have h1D : SL D v1 s.leaves := SL.sp h1.sl fun hne => lD.e _ (SL.lt h1.sl hne)
  rw [r80_l0]
  refine Lt.Ok.ite (fun hlt => ?_) fun hlt => ?_
  · have hil : i < s.leaves.length := by omega
    have hx := hall _ (List.getElem_mem hil)
    have e0 : D.ldStr v1.b (v1.o + ((i : Int)).toNat * 2) = some s.leaves[i].1 := SL.ldStr h1D (i := i) (j := 0) hil rfl
    have e1 : D.ldI .i64 v1.b ((v1.o + ((i : Int)).toNat * 2) + 1) = some s.leaves[i].2 := h1D.ldI (i := i) (j := 1) hil rfl
    refine Lt.Ok.ck (by omega) (Lt.Ok.ld e0 (Lt.Ok.ld e1 ?_))
    obtain ⟨F, q1, q2, q3, q4⟩ := sts_blk [.str s.leaves[i].1, .int .i64 s.leaves[i].2] 0 (D.push (.cells [.str (ByteArray.mk #[]), .int .i64 0] false)) _ (Hp.get_push_new _ _) (by simp)
    have q2' : F.get D.n = some (.cells [.str s.leaves[i].1, .int .i64 s.leaves[i].2] false) := by rw [q2]; simp
    have gF : Gr D F := ⟨by rw [q3]; simp, fun c hc => by rw [q4 c (by omega), Hp.get_push_old _ _ hc]⟩
    have q5 : F.ldStr D.n (0 + 0) = some s.leaves[i].1 := by simp [Hp.ldStr, ld_of_get q2', AV.asStr]
    have z0 := itoa_small hx.2.1 (by omega)
    have z1 : (ByteArray.mk #[108, 101, 97, 102, 32]).size = 5 := rfl
    have z2 : (ByteArray.mk #[32]).size = 1 := rfl
    have z3 : (ByteArray.mk #[10]).size = 1 := rfl
    refine Lt.Ok.ld q1 (Lt.Ok.ld q5 (Lt.Ok.ck (by omega) (Lt.Ok.ck (by simp only [ByteArray.size_append]; omega) (Lt.Ok.ld (ldI_get q2' rfl) ?_))))
    rw [app33]
    unfold itoaP
    rw [if_pos (by omega)]
    simp only [Option.bind_some, AV.asStr]
    refine Lt.Ok.ck (by simp only [ByteArray.size_append]; omega) (Lt.Ok.ck (by simp only [ByteArray.size_append]; omega) ?_)
    rw [app131]
    have hsz := leavesO_size (s.leaves.take i) fun x hx => hall x (List.mem_of_mem_take hx)
    rw [List.length_take] at hsz
    have hln := leafLn_size hx.1 hx.2
    obtain ⟨E, e2, hE, lE⟩ := ws_ok (hD.gr gF) (s := leafLn s.leaves[i]) hln.1 (by omega)
    have e2 : wsP H.n (((((ByteArray.mk #[108, 101, 97, 102, 32]) ++ s.leaves[i].1) ++ (ByteArray.mk #[32])) ++ itoaA s.leaves[i].2) ++ (ByteArray.mk #[10])) F = some (.tup [.int .i64 (leafLn s.leaves[i]).size, .niliface], E) := e2
    rw [e2]
    simp only [Option.bind_some, AV.asT, List.length_cons, List.length_nil]
    refine Lt.Ok.ck (by simp) ?_
    simp only [List.getElem?_cons_zero, List.getElem?_cons_succ, Option.bind_some, AV.asI, if_true]
    refine Lt.Ok.ck q5 ?_
    rw [w64_succ (by omega)]
    refine ih (m - 1) _ E (by omega) ⟨i + 1, rfl, by omega, (lD.trans (.of_gr gF lD.n)).trans lE, ?_⟩
    have e3 : leavesO (s.leaves.take (i + 1)) = some (accO (leavesO (s.leaves.take i)) (leafLn s.leaves[i])) := by
      unfold leavesO
      rw [List.take_succ_eq_append_getElem hil, List.foldl_append]; rfl
    rw [e3]; exact hE
  · have : i = s.leaves.length := by omega
    subst this
    rw [List.take_length] at hD
    have hgD : D.get b = some (.cells (stCells v1 v2 v3 s) false) := (lD.e _ hbn).trans hg
    have h2D : SL D v2 s.orders := SL.sp h2.sl fun hne => lD.e _ (SL.lt h2.sl hne)
    have hsD : StAt D P b s := hst.mono (fun c _ hc => lD.e c hc) fun _ _ hc => hc
    refine Lt.Ok.ld (ldSl_get (n := v2) hgD rfl) (Lt.Ok.bind (names_ok hsD h2D (by have := hs.o40; omega) hs.ol) fun r2 E ⟨gE, hr2⟩ => ?_)
    have hDE := hD.gr gE
    have lE := lD.trans (.of_gr gE lD.n)
    have sz0 := leavesO_size s.leaves hall
    have sz1 := szs_names hs
    have o40 := hs.o40
    dsimp only
    rw [app132]
    have hw1 : wOrders.size = 6 := rfl
    have hw2 : wTastes.size = 6 := rfl
    refine Lt.Ok.bind (P := fun _ B => BldAt H.n B H.n (some (accO (leavesO s.leaves) (lineA wOrders (s.orders.map (nameOf s))))) ∧ Lo H.n E B) ?_ fun _ B ⟨hB, lB⟩ => ?_
    · obtain ⟨u, B, e1, k1, k2⟩ := r132_ok (k := k) hDE lE.n hr2 wOrders (by rw [List.length_map]; omega) (by rw [List.length_map]; omega)
      have e1 : r132 (appA (k + 1)) (ByteArray.mk #[111, 114, 100, 101, 114, 115]) r2 H.n E = some (u, B) := e1
      rw [e1]
      exact Lt.Ok.ret ⟨k1, k2⟩
    dsimp only
    have lB' := lE.trans lB
    have hgB : B.get b = some (.cells (stCells v1 v2 v3 s) false) := (lB'.e _ hbn).trans hg
    have n1 := line_size wOrders (s.orders.map (nameOf s))
    rw [List.length_map] at n1
    have n2 := szO_acc (leavesO s.leaves) (lineA wOrders (s.orders.map (nameOf s)))
    generalize ho1 : accO (leavesO s.leaves) (lineA wOrders (s.orders.map (nameOf s))) = o1 at *
    generalize hx1 : (⟨false, b, ((0 + 2) + (0 : Int).toNat * 2) + (0 : Int).toNat * 1, (((2 : Nat) : Int) : Int).toNat - (0 : Int).toNat, 2 - (0 : Int).toNat, 0⟩ : Sl) = x
    generalize hy1 : (⟨false, b, ((0 + 2) + (1 : Int).toNat * 2) + (0 : Int).toNat * 1, (((2 : Nat) : Int) : Int).toNat - (0 : Int).toNat, 2 - (0 : Int).toNat, 0⟩ : Sl) = y
    have g3 := Gr.push B (.cells [.sl x, .sl y] false)
    have hg3 := Hp.get_push_new B (.cells [.sl x, .sl y] false)
    generalize B.push (.cells [.sl x, .sl y] false) = B3 at *
    have hgB3 := (g3.2 b (Hp.get_lt hgB)).trans hgB
    have hx : SL B3 x [s.t0, s.t1] := by
      subst hx1
      refine ⟨⟨rfl, ?_⟩, Nat.le_refl _, .inl rfl, fun h => by cases h⟩
      simp [Hp.lds, ld_of_get hgB3, stCells, encs, El.enc]
    have hy : SL B3 y [s.t2, s.t3] := by
      subst hy1
      refine ⟨⟨rfl, ?_⟩, Nat.le_refl _, .inl rfl, fun h => by cases h⟩
      simp [Hp.lds, ld_of_get hgB3, stCells, encs, El.enc]
    obtain ⟨t0, t1, t2, t3, t4⟩ := hs.ts
    refine Lt.Ok.bind (concat_ok hg3 hx hy (by simp) (by simp)) fun r4 B4 ⟨g4, hr4⟩ => ?_
    dsimp only at hr4 ⊢
    refine Lt.Ok.bind (numbers_ok (k := k + 1) hr4 (by simp) (fun i hi => by
      simp only [List.cons_append, List.nil_append, List.mem_cons, List.not_mem_nil, or_false] at hi
      rcases hi with rfl | rfl | rfl | rfl <;> omega)) fun r5 B5 ⟨g5, hr5⟩ => ?_
    dsimp only at hr5 ⊢
    rw [app132]
    have g35 := (g3.trans g4).trans g5
    have l5 := lB'.trans (.of_gr g35 lB'.n)
    have sz2 := szs_tastes hs
    refine Lt.Ok.bind (P := fun _ C => BldAt H.n C H.n (some (accO (some o1) (lineA wTastes ([s.t0, s.t1, s.t2, s.t3].map itoaA)))) ∧ Lo H.n B5 C) ?_ fun _ C ⟨hC, lC⟩ => ?_
    · obtain ⟨u, C, e1, k1, k2⟩ := r132_ok (k := k) (hB.gr g35) l5.n hr5 wTastes (by simp) (by
        have : szs (([s.t0, s.t1] ++ [s.t2, s.t3]).map itoaA) ≤ 16 := sz2
        have e : (([s.t0, s.t1] ++ [s.t2, s.t3]).map itoaA).length = 4 := by simp
        have e2 : szO (some o1) = o1.size := rfl
        omega)
      have e1 : r132 (appA (k + 1)) (ByteArray.mk #[116, 97, 115, 116, 101, 115]) r5 H.n B5 = some (u, C) := e1
      rw [e1]
      exact Lt.Ok.ret ⟨k1, k2⟩
    dsimp only
    have lC' := l5.trans lC
    have hgC : C.get b = some (.cells (stCells v1 v2 v3 s) false) := (lC'.e _ hbn).trans hg
    have m1 := line_size wTastes ([s.t0, s.t1, s.t2, s.t3].map itoaA)
    have m2 := szO_acc (some o1) (lineA wTastes ([s.t0, s.t1, s.t2, s.t3].map itoaA))
    have m3 : ([s.t0, s.t1, s.t2, s.t3].map itoaA).length = 4 := rfl
    have e2 : szO (some o1) = o1.size := rfl
    refine Lt.Ok.ld (ldSl_get (n := v3) hgC rfl) ((r80_l1_ok (k := k) (b := b) (o := 0) hs h3.sl rfl lC' hC (by omega)).mono fun r Z ⟨gZ, hr⟩ => ⟨gZ, ?_⟩)
    rw [hr]
    unfold textS
    rw [ho1]
/-- State -/
theorem state_ok {k : Nat} {H : Hp} {c : Nat} {pv : Sl} {C : Chs} {t : Nat} (h : ChAt H c pv C t) (hC : C.Ok) : Lt.Ok (r41 (appA (k + 2)) c 0 H) fun r A => Gr H A ∧ r = textS (C.now C.at') := by
  unfold r41
  refine is (none_ok h hC) (Lt.Ok.neg (by simp) ?_)
  obtain ⟨b, e, hst⟩ := now_ok h hC
  refine is e ?_
  exact Lt.Ok.bind (text_ok hst (hC.st _ hC.cur)) fun r A h => Lt.Ok.ret h
end Go.Lt.P10

namespace Go.Lt.P10
open Go Go.Lt Go.Proofs
/-! ### two chests side by side -/
/-- another chest's own block is none of this chest's -/
theorem ChAt.offCh {H H' : Hp} {c d : Nat} {pw pv : Sl} {X : Chs} {t : Nat} {n : Int} (h : ChAt H d pw X t) (hX : X.Ok) (hc : H.get c = some (.cells [.sl pv, .int .i64 n] false)) (hne : c ≠ d) (hn : H.n ≤ H'.n) (e : ∀ b, b < H.n → b ≠ c → H'.get b = H.get b) : ChAt H' d pw X t := by
  have hld : ∀ x, H.ld c 0 = some x → x = .sl pv := fun x hx => by
    rw [ld_of_get hc] at hx
    injection hx with hx
    exact hx.symm
  obtain ⟨bs, h1, h2, h3⟩ := h.ex
  have hpc : pw.b ≠ c := fun h0 => by
    obtain ⟨bs', hbl, hsl, _⟩ := h.sl
    have hone := hX.one
    have := hsl.ld (i := 0) (j := 0) (x := .str X.pages[0].change) (by rw [pgCells_len hbl]; omega) (by rw [pgCells_get (by omega) (by omega)]; rfl)
    rw [h0, h.o] at this
    cases hld _ this
  refine ⟨by rw [e _ (Hp.get_lt h.get) (Ne.symm hne)]; exact h.get, h.nn, h.o, h.len, h.cap, h.opn, h.ne, h.tc, h.tp, Nat.le_trans h.tn hn, bs, h1, by rw [e _ (Hp.get_lt h2) hpc]; exact h2, fun i a b => ?_⟩
  obtain ⟨hp, v1, v2, v3, hg, k1, k2, k3⟩ := h3 i a b
  have hbc : bs[i] ≠ c := fun h0 => by
    rw [h0, hc] at hg
    injection hg with hg
    injection hg with hg _
    have := congrArg List.length hg
    simp [stCells] at this
  have at0 : ∀ {T : Type} [El T] {v : Sl} {q : List T} {P : Nat → Prop}, (∀ x : T, ∃ y, (El.enc x)[0]? = some y ∧ ∀ s, y ≠ .sl s) → LAt H P v q → LAt H' P v q := by
    intro T _ v q P hq0 hq
    by_cases hqe : q = []
    · have := hq.nil hqe
      subst this; subst hqe
      exact ⟨SL.nilS, fun _ => rfl, (fun h => by cases h), rfl⟩
    · have hvc : v.b ≠ c := fun h0 => by
        obtain ⟨x, r, rfl⟩ := List.exists_cons_of_ne_nil hqe
        obtain ⟨y, hy, hys⟩ := hq0 x
        have := hq.sl.ld (i := 0) (j := 0) (x := y) (by simp) hy
        rw [h0, hq.o] at this
        have e0 : 0 + 0 * El.sz T + 0 = 0 := by simp
        rw [e0] at this
        exact hys _ (hld _ this)
      exact ⟨slcg hq.sl (e _ (SL.lt hq.sl hqe) hvc), hq.nil, hq.p, hq.o⟩
  exact ⟨hp, v1, v2, v3, by rw [e _ (Hp.get_lt hg) hbc]; exact hg, at0 (fun x => ⟨.str x.1, rfl, fun s h => by cases h⟩) k1, at0 (fun x => ⟨.int .i64 x, rfl, fun s h => by cases h⟩) k2, at0 (fun x => ⟨.int .i64 x.1, rfl, fun s h => by cases h⟩) k3⟩
section
variable {H : Hp} {c : Nat} {pv : Sl} {C : Chs} {t : Nat}
/-- Go writes in the chest's own block alone -/
theorem go2_ok {k : Nat} (h : ChAt H c pv C t) (hC : C.Ok) (n : Int) : Lt.Ok (r40 (appA (k + 1)) c 0 n H) fun r A => r = (C.go n).2 ∧ ChAt A c pv (C.go n).1 t ∧ H.n ≤ A.n ∧ ∀ b, b < H.n → b ≠ c → A.get b = H.get b := by
  unfold r40 Chs.go
  refine is (none_ok h hC) (Lt.Ok.neg (by simp) ?_)
  dsimp only
  have g0 := Gr.push H (.cells [.int .i64 n] false)
  refine Lt.Ok.bind (has_ok (k := k) (h.gr g0) hC (sl_box1 H n) (by simp)) fun r A ⟨g, e⟩ => ?_
  have hA := h.gr (g0.trans g)
  have gA := g0.trans g
  dsimp only at e ⊢
  subst e
  simp only [List.all_cons, List.all_nil, Bool.and_true, decide_eq_true_eq]
  by_cases hc : 0 ≤ n ∧ n < (C.pages.length : Int)
  · rw [if_pos hc, if_pos hc]
    obtain ⟨m, rfl⟩ := Int.eq_ofNat_of_zero_le hc.1
    refine Lt.Ok.st hA.get (by simp) fun B e hg => ?_
    have oth : ∀ b, b ≠ c → B.get b = A.get b := fun b hb => by rw [e]; exact Hp.get_set_other _ _ hb
    have hn : B.n = A.n := by rw [e]; simp
    obtain ⟨bs, h1, h2, h3⟩ := hA.ex
    refine Lt.Ok.ret ⟨rfl, ⟨by simpa using hg, hA.nn, hA.o, hA.len, hA.cap, hA.opn, hA.ne, hA.tc, hA.tp, by have := hA.tn; omega, bs, h1, by rw [oth _ hA.ne.symm]; exact h2, fun i a b => (h3 i a b).mono (fun x hx _ => oth x hx.1) fun _ _ hx => hx⟩, by have := gA.1; omega, fun b hb hbc => by rw [oth b hbc]; exact gA.2 b hb⟩
  · rw [if_neg hc, if_neg hc]
    exact Lt.Ok.ret ⟨rfl, hA, gA.1, fun b hb _ => gA.2 b hb⟩
end
end Go.Lt.P10
