/- PLAIN LAWS OF WHAT IS COMPUTED, for the statement 'ChestFull'. Nothing is asked of the input. -/
import Derived.Test.YtopildlfbhfghaaGreatDoorU9CQd
set_option linter.unusedVariables false
set_option linter.unusedSimpArgs false
set_option maxHeartbeats 4000000
namespace Go.Lt.P10
open Go Go.Lt Go.Proofs
section
variable {H : Hp} {c : Nat} {pv : Sl} {C : Chs}
theorem new_okR : Lt.Ok (r48 H) fun r A => r.2 = 0 ∧ Gr H A ∧ H.n ≤ r.1 ∧ ∃ pv, RcAt A r.1 pv Chs.new ∧ H.n ≤ pv.b := by
  unfold r48
  refine Lt.Ok.lt (Lt.Ok.ret ⟨rfl, (Gr.push _ _).trans (Gr.push _ _), by show H.n ≤ (H.push (.cells [.int .i64 0, .str (ByteArray.mk #[])] false)).n; simp, ⟨false, H.n, 0, 1, 1, 0⟩, ⟨?_, rfl, rfl, rfl, rfl, .inl rfl, ?_, ?_⟩, Nat.le_refl _⟩)
  · exact Hp.get_push_new _ _
  · show (H.push (.cells [.int .i64 0, .str (ByteArray.mk #[])] false)).n ≠ H.n
    simp
  · show ((H.push (.cells [.int .i64 0, .str (ByteArray.mk #[])] false)).push _).get H.n = _
    rw [Hp.get_push_old _ _ (by simp)]
    exact Hp.get_push_new _ _
theorem RcAt.setAt {α : Type} {Q : α → Hp → Prop} {n : Nat} {f : Hp → Option (α × Hp)} (h : RcAt H c pv C) (k : ∀ A, RcAt A c pv ⟨C.pages, n⟩ → Sp c pv.b pv.b H A → Lt.Ok (f A) Q) : Lt.Ok ((H.st c (0 + 1) (.int .i64 (n : Int))).bind f) Q := by
  refine Lt.Ok.st h.get (by simp) fun A e hg => ?_
  have oth : ∀ b, b ≠ c → A.get b = H.get b := fun b hb => by rw [e]; exact Hp.get_set_other _ _ hb
  refine k A ⟨hg, h.nn, h.o, h.len, h.cap, h.opn, h.ne, by rw [oth _ h.ne.symm]; exact h.pg⟩ ⟨by rw [e]; simp, .inl rfl, fun b _ hb _ => oth b hb⟩
theorem is_okR (h : RcAt H c pv C) (n : Int) : r82 c 0 n H = some (decide (0 ≤ n ∧ n < C.pages.length), H) := by
  unfold r82
  by_cases h0 : 0 ≤ n
  · rw [if_pos h0, ldSl_get h.get rfl]
    simp only [Option.bind_some, h.len, h0, true_and]
  · rw [if_neg h0, decide_eq_false (fun q => h0 q.1)]
theorem rpages_push (h : RcAt H c pv C) (hm : C.pages.length ≤ 200) (ch : ByteArray) (p : Nat) :
    Lt.Ok (H.apN 2 pv [.int .i64 (p : Int), .str ch] 1) fun pv' A => pv' = ⟨false, H.n + 1, 0, C.pages.length + 1, C.pages.length + 1, 2⟩ ∧ A.n = H.n + 2 ∧ (∀ x, x < H.n → x ≠ pv.b → A.get x = H.get x) ∧
      A.get (H.n + 1) = some (.cells (encs (rpg C.pages ++ [((p : Int), ch)])) false) := by
  have hl := h.len; have hcap := h.cap
  have hlt := Hp.get_lt h.pg
  have hnew : encs (rpg C.pages) ++ [.int .i64 (p : Int), .str ch] = encs (rpg C.pages ++ [((p : Int), ch)]) := by
    rw [encs_append, encs_one]; rfl
  unfold Hp.apN Hp.app
  rw [if_pos (by omega), if_neg (by omega)]
  have hlds := (h.sl.gr (Gr.push H (.cells [.int .i64 (p : Int), .str ch] false))).lds
  have e3 : pv.len * El.sz RpC = pv.len * 2 := rfl
  rw [e3] at hlds
  rw [hlds]
  simp only [Option.bind_some]
  rcases h.opn with ho | ho
  · rw [if_pos ho]
    refine Lt.Ok.ret ⟨by rw [hl]; rfl, by simp, fun x hx _ => ?_, ?_⟩
    · rw [Hp.get_push_old _ _ (by simp; omega), Hp.get_push_old _ _ hx]
    · rw [← hnew]; exact Hp.get_push_new _ _
  · rw [if_neg (by omega), if_pos ho, Hp.get_push_old _ _ hlt, h.pg]
    refine Lt.Ok.ret ⟨?_, by simp, fun x hx hne => ?_, ?_⟩
    · simp [hl]
    · rw [Hp.get_push_old _ _ (by simp; omega), Hp.get_set_other _ _ hne, Hp.get_push_old _ _ hx]
    · rw [← hnew]
      have := Hp.get_push_new ((H.push (.cells [.int .i64 (p : Int), .str ch] false)).set pv.b .dead) (.cells (encs (rpg C.pages) ++ [.int .i64 (p : Int), .str ch]) false)
      simpa using this
end
section
variable {H : Hp} {c : Nat} {pv : Sl} {C : Chs}
theorem child_kids (hC : C.Ok) {p i : Nat} {ch : ByteArray} (h : C.child p ch = some i) : i ∈ C.kids p ∧ C.chg i = ch :=
  ⟨Chs.kids_mem (Chs.child_pos hC h) (Chs.child_lt h) (Chs.child_is h).1, (Chs.child_is h).2⟩
theorem kids_child (hC : C.Ok) {p i : Nat} (h : i ∈ C.kids p) : C.child p (C.chg i) = some i ∧ i < C.pages.length := by
  unfold Chs.kids at h
  rw [List.mem_filter] at h
  obtain ⟨h1, h2⟩ := h
  rw [decide_eq_true_eq] at h2
  have hi := List.mem_range.1 h1
  have := hC.uq i h2.1 hi
  rw [h2.2] at this
  exact ⟨this, hi⟩
theorem chdo_okR {k : Nat} (h : RcAt H c pv C) (hC : C.Ok) (hk : C.at' ≤ k + 1) {line : ByteArray} (hs : line.size ≤ 1048576) :
    Lt.Ok (r49 (appA (k + 1)) c 0 line H) fun r A => r = (C.do line).2 ∧ ∃ pv', RcAt A c pv' (C.do line).1 ∧ Sp c pv.b pv'.b H A := by
  have hm := hC.most
  unfold r49
  refine Lt.Ok.ld (ldI_get h.get rfl) ?_
  refine Lt.Ok.bind (state_okR h hC hk hC.cur) fun r A ⟨g1, hst⟩ => ?_
  dsimp only
  refine Lt.Ok.bind (do_okR (k := k) hst (hC.st _ hC.cur) hs) fun q B ⟨g2, _, hq⟩ => ?_
  dsimp only
  obtain ⟨D, e1, g3, e2⟩ := tmpN B [.sl ⟨true, 0, 0, 0, 0, 0⟩, .sl ⟨true, 0, 0, 0, 0, 0⟩, .int .i64 0, .int .i64 0, .int .i64 0, .int .i64 0, .sl ⟨true, 0, 0, 0, 0, 0⟩] [.sl q.1, .sl q.2.1, .int .i64 q.2.2.1, .int .i64 q.2.2.2.1, .int .i64 q.2.2.2.2.1, .int .i64 q.2.2.2.2.2.1, .sl q.2.2.2.2.2.2.1] rfl
  refine Lt.Ok.ld e1 ?_
  have gD := (g1.trans g2).trans g3
  have hD := h.gr gD
  unfold Chs.do
  rcases hd : doS (C.now C.at') line with ⟨e | t, w⟩
  · rw [hd] at hq
    have hw := (doS_inl hd).2
    refine Lt.Ok.pos (by rw [hq.1]; exact hq.2.1) (Lt.Ok.ret ⟨?_, pv, hD, .of_gr gD⟩)
    rw [hq.1]
  · rw [hd] at hq
    dsimp only at hq ⊢
    refine Lt.Ok.neg (by rw [hq.1]; simp) ?_
    rw [hq.2.1]
    refine Lt.Ok.ld (ldI_get hD.get rfl) ?_
    refine Lt.Ok.bind (kids_okR hD hC C.at') fun kv E ⟨g4, hkv⟩ => ?_
    dsimp only
    have gE := gD.trans g4
    have hE := h.gr gE
    have hks := hkv.1.sl
    have hkl := hks.len
    rw [ints_len] at hkl
    have hkn := kids_len C C.at'
    have hl := h.len
    refine Lt.Ok.loop (L := fun K (i : Int) A => r49_l0 (appA (k + 1)) K c 0 line w kv (kv.len : Int) i A) (fun m i' A => ∃ i : Nat, i' = (i : Int) ∧ i + m = (C.kids C.at').length ∧ A = E ∧ ∀ j (hj : j < (C.kids C.at').length), j < i → C.chg (C.kids C.at')[j] ≠ line) ?_ FUEL (C.kids C.at').length 0 E (by unfold FUEL; omega) ⟨0, rfl, by omega, rfl, fun j _ hj => by omega⟩
    rintro K m i' A' ⟨i, rfl, him, rfl, hne⟩ ih
    rw [r49_l0]
    refine Lt.Ok.ite (fun hlt => ?_) fun hlt => ?_
    · have hil : i < (C.kids C.at').length := by omega
      obtain ⟨hc1, hc2⟩ := kids_child hC (List.getElem_mem hil)
      refine Lt.Ok.ck (by omega) (Lt.Ok.ld (ints_ld hks hil) (Lt.Ok.ld (ldSl_get hE.get rfl) (Lt.Ok.ck (by omega) ?_)))
      rw [Int.toNat_natCast]
      refine Lt.Ok.ld (hE.ldCh hc2) ?_
      refine Lt.Ok.ite (fun heq => ?_) fun heq => ?_
      · have hcl := strEq_iff.1 heq
        rw [hcl] at hc1
        rw [hc1]
        refine hE.setAt fun F hF sF => Lt.Ok.ret ⟨rfl, pv, hF, (Sp.of_gr gE).trans sF⟩
      · rw [w64_succ (by omega)]
        refine ih (m - 1) _ A' (by omega) ⟨i + 1, rfl, by omega, rfl, fun j hj hji => ?_⟩
        by_cases hji2 : j < i
        · exact hne j hj hji2
        · have : j = i := by omega
          subst this
          exact fun q => heq (strEq_iff.2 q)
    · have hil : i = (C.kids C.at').length := by omega
      subst hil
      have hnone : C.child C.at' line = none := by
        cases hx : C.child C.at' line with
        | none => rfl
        | some j =>
          exfalso
          obtain ⟨h1, h2⟩ := child_kids hC hx
          obtain ⟨z, hz, e⟩ := List.mem_iff_getElem.1 h1
          exact hne z hz hz (by rw [e]; exact h2)
      rw [hnone]
      dsimp only
      refine Lt.Ok.ld (ldSl_get hE.get rfl) ?_
      refine Lt.Ok.ite (fun hf => ?_) fun hf => ?_
      · rw [if_pos (by omega)]
        exact Lt.Ok.ret ⟨rfl, pv, hE, .of_gr gE⟩
      · rw [if_neg (by omega)]
        refine Lt.Ok.ld (ldSl_get hE.get rfl) (Lt.Ok.ld (ldI_get hE.get rfl) ?_)
        refine Lt.Ok.bind (rpages_push hE hm line C.at') fun pv' F ⟨hpv, nF, oth, hpg⟩ => ?_
        dsimp only
        have hcl := Hp.get_lt hE.get
        have hcF : F.get c = _ := (oth c hcl hE.ne).trans hE.get
        refine Lt.Ok.st hcF (by simp) fun G e hg => ?_
        have hg' : G.get c = some (.cells [.sl pv', .int .i64 (C.at' : Int)] false) := hg
        have othG : ∀ b, b ≠ c → G.get b = F.get b := fun b hb => by rw [e]; exact Hp.get_set_other _ _ hb
        refine Lt.Ok.ld (ldSl_get hg' rfl) ?_
        refine Lt.Ok.st hg' (by simp) fun J e' hj => ?_
        have hpl : pv'.len = C.pages.length + 1 := by rw [hpv]
        have ew : w64 ((pv'.len : Int) - 1) = (C.pages.length : Int) := by rw [hpl, w64_id (by omega) (by omega)]; omega
        have hj' : J.get c = some (.cells [.sl pv', .int .i64 (C.pages.length : Int)] false) := by rw [hj, ew]; rfl
        have othJ : ∀ b, b ≠ c → J.get b = F.get b := fun b hb => by rw [e', Hp.get_set_other _ _ hb, othG b hb]
        have hpb : pv'.b = A'.n + 1 := by rw [hpv]
        have nJ : J.n = F.n := by rw [e', e]; simp
        refine Lt.Ok.ret ⟨rfl, pv', ⟨hj', by rw [hpv], by rw [hpv], by rw [hpl]; simp, by rw [hpv], by rw [hpv]; exact .inr rfl, by omega, ?_⟩, ⟨?_, .inr ?_, fun b hb h1 h2 => ?_⟩⟩
        · rw [othJ _ (by omega), hpb, hpg]
          simp [rpg]
        · have := gE.1; omega
        · have := gE.1; omega
        · have := gE.1
          rw [othJ b h1, oth b (by omega) h2, gE.2 b hb]
end
section
variable {H : Hp} {c : Nat} {pv : Sl} {C : Chs}
theorem go_okR (h : RcAt H c pv C) (n : Int) : Lt.Ok (r50 c 0 n H) fun r A => r = (C.go n).2 ∧ RcAt A c pv (C.go n).1 ∧ Sp c pv.b pv.b H A := by
  unfold r50 Chs.go
  refine is (is_okR h n) ?_
  dsimp only
  by_cases hn : 0 ≤ n ∧ n < C.pages.length
  · rw [if_pos hn]
    refine Lt.Ok.pos (by simpa using hn) ?_
    obtain ⟨q, rfl⟩ := Int.eq_ofNat_of_zero_le hn.1
    refine h.setAt fun A hA sA => Lt.Ok.ret ⟨rfl, ?_, sA⟩
    exact hA
  · rw [if_neg hn]
    exact Lt.Ok.neg (by simpa using hn) (Lt.Ok.ret ⟨rfl, h, .of_gr (.refl _)⟩)
end
/-! ### a chest and one of the reference, in one heap -/
structure Both (H : Hp) (c : Nat) (pv : Sl) (C : Chs) (d : Nat) (pw : Sl) (X : Chs) : Prop where
  ch : ChQ H c pv C (fun x => x ≠ d ∧ x ≠ pw.b)
  rc : RcAt H d pw X
  cd : c ≠ d
  cw : c ≠ pw.b
  pd : pv.b ≠ d
  pp : pv.b ≠ pw.b
section
variable {H : Hp} {c d : Nat} {pv pw : Sl} {C X : Chs}
theorem Both.gr {H' : Hp} (h : Both H c pv C d pw X) (g : Gr H H') : Both H' c pv C d pw X := ⟨h.ch.gr g, h.rc.gr g, h.cd, h.cw, h.pd, h.pp⟩
theorem Both.pvlt (h : Both H c pv C d pw X) : pv.b < H.n := by
  obtain ⟨_, _, q, _⟩ := h.ch.ex
  exact Hp.get_lt q
theorem Both.one {A : Hp} {pv' : Sl} {C' : Chs} (h : Both H c pv C d pw X) (hA : ChQ A c pv' C' (fun x => x ≠ d ∧ x ≠ pw.b)) (s : Sp c pv.b pv'.b H A) : Both A c pv' C' d pw X := by
  have h1 := Hp.get_lt h.rc.get
  have h2 := Hp.get_lt h.rc.pg
  have e := h.cd; have e1 := h.cw; have e2 := h.pd; have e3 := h.pp
  refine ⟨hA, h.rc.keep (s.e _ h1 e.symm e2.symm) (s.e _ h2 e1.symm e3.symm), e, e1, ?_, ?_⟩
  · rcases s.q with q | q <;> omega
  · rcases s.q with q | q <;> omega
theorem Both.two {A : Hp} {pw' : Sl} {X' : Chs} (h : Both H c pv C d pw X) (hA : RcAt A d pw' X') (s : Sp d pw.b pw'.b H A) : Both A c pv C d pw' X' := by
  have h1 := Hp.get_lt h.ch.get
  have h2 := h.pvlt
  have e := h.cd; have e1 := h.cw; have e2 := h.pd; have e3 := h.pp
  refine ⟨h.ch.keep (fun b hb hx => ?_) fun b hb q => ⟨q.1, ?_⟩, hA, e, ?_, e2, ?_⟩
  · rcases hx with rfl | rfl | q
    · exact s.e _ hb e e1
    · exact s.e _ hb e2 e3
    · exact s.e _ hb q.1 q.2
  · rcases s.q with z | z
    · rw [z]; exact q.2
    · omega
  · rcases s.q with z | z <;> omega
  · rcases s.q with z | z <;> omega
theorem Both.do1 {k : Nat} (h : Both H c pv C d pw X) (hC : C.Ok) {line : ByteArray} (hs : line.size ≤ 1048576) : Lt.Ok (r20 (appA (k + 2)) c 0 line H) fun r A => r = (C.do line).2 ∧ ∃ pv', Both A c pv' (C.do line).1 d pw X ∧ Sp c pv.b pv'.b H A :=
  (doQ_ok (k := k) h.ch hC (fun x hx => ⟨by have := Hp.get_lt h.rc.get; omega, by have := Hp.get_lt h.rc.pg; omega⟩) hs).mono fun r A ⟨e, pv', q, s⟩ => ⟨e, pv', h.one q s, s⟩
theorem Both.do2 {k : Nat} (h : Both H c pv C d pw X) (hX : X.Ok) {line : ByteArray} (hs : line.size ≤ 1048576) : Lt.Ok (r49 (appA (k + 200)) d 0 line H) fun r A => r = (X.do line).2 ∧ ∃ pw', Both A c pv C d pw' (X.do line).1 ∧ Sp d pw.b pw'.b H A :=
  (chdo_okR (k := k + 199) h.rc hX (by have := hX.cur; have := hX.most; omega) hs).mono fun r A ⟨e, pw', q, s⟩ => ⟨e, pw', h.two q s, s⟩
theorem Both.go1 {k : Nat} (h : Both H c pv C d pw X) (hC : C.Ok) (n : Int) : Lt.Ok (r40 (appA (k + 1)) c 0 n H) fun r A => r = (C.go n).2 ∧ Both A c pv (C.go n).1 d pw X :=
  (goQ_ok (k := k) h.ch hC n).mono fun r A ⟨e, q, s1, s2⟩ => ⟨e, h.one q ⟨s1, .inl rfl, fun b h1 h2 _ => s2 b h1 h2⟩⟩
theorem Both.go2 (h : Both H c pv C d pw X) (n : Int) : Lt.Ok (r50 d 0 n H) fun r A => r = (X.go n).2 ∧ Both A c pv C d pw (X.go n).1 :=
  (go_okR h.rc n).mono fun r A ⟨e, q, s⟩ => ⟨e, h.two q s⟩
theorem Both.new {α : Type} {Q : α → Hp → Prop} {H : Hp} {f : (Nat × Nat) × (Nat × Nat) × Hp → Option (α × Hp)} (k : ∀ c d A pv pw, Gr H A → H.n ≤ c → H.n ≤ d → Both A c pv Chs.new d pw Chs.new → Lt.Ok (f ((c, 0), (d, 0), A)) Q) :
    Lt.Ok ((r47 H).bind fun p1 => (r48 p1.2).bind fun p2 => f (p1.1, p2.1, p2.2)) Q := by
  refine Lt.Ok.bind new_ok fun r A ⟨h0, g, hc, pv, t, hA, hp⟩ => ?_
  obtain ⟨c, o⟩ := r
  dsimp only at h0 hc hA ⊢
  subst h0
  refine Lt.Ok.bind new_okR fun r B ⟨h0, gB, hd, pw, hB, hpw⟩ => ?_
  obtain ⟨d, o⟩ := r
  dsimp only at h0 hd hB hpw ⊢
  subst h0
  have tn := hA.tn; have tc := hA.tc; have tp := hA.tp; have gn := g.1
  refine k c d B pv pw (g.trans gB) hc (by omega) ⟨hA.q.keep (fun b hb _ => gB.2 b hb) fun b hb q => ⟨by omega, by omega⟩, hB, by omega, by omega, by omega, by omega⟩
end
section
variable {H : Hp} {c : Nat} {pv : Sl} {C : Chs}
theorem bytes_okR (h : RcAt H c pv C) (hC : C.Ok) : Lt.Ok (r51 c 0 H) fun r A => Gr H A ∧ AccN H.n A r C.bytes := by
  unfold r51
  have hm := hC.most; have h1 := hC.one
  have hplen := h.len; have hcap := h.cap; have ho := h.o
  have hopn : pv.opn = 0 ∨ pv.opn = 2 := h.opn
  refine Lt.Ok.ld (ldSl_get h.get rfl) (Lt.Ok.ck (by refine ⟨?_, hopn⟩; omega) ?_)
  have e1 : pv.cut 2 (1 : Int).toNat (pv.len : Int).toNat = ⟨false, pv.b, pv.o + 1 * 2, pv.len - 1, pv.cap - 1, pv.opn⟩ := by
    unfold Sl.cut
    rw [h.nn]; rfl
  rw [e1]
  refine Lt.Ok.loop (L := fun K (s : Sl × Int) B => r51_l0 K s.1 ⟨false, pv.b, pv.o + 1 * 2, pv.len - 1, pv.cap - 1, pv.opn⟩ (((pv.len - 1 : Nat)) : Int) s.2 B) (fun m s B => ∃ i : Nat, s.2 = (i : Int) ∧ i + m = C.pages.length - 1 ∧ Gr H B ∧ AccN H.n B s.1 (bytesP ((C.pages.drop 1).take i))) ?_ FUEL (C.pages.length - 1) (⟨true, 0, 0, 0, 0, 0⟩, 0) H (by unfold FUEL; omega) ⟨0, rfl, by omega, .refl _, ⟨AccL.nilS, fun _ => rfl⟩⟩
  rintro K m ⟨r, i'⟩ B ⟨i, hi, him, g, ha⟩ ih
  dsimp only at *
  subst hi
  have hB := h.gr g
  rw [r51_l0]
  refine Lt.Ok.ite (fun hlt => ?_) fun hlt => ?_
  · have hil : i + 1 < C.pages.length := by omega
    have q0 : B.ldI .i64 pv.b (pv.o + 1 * 2 + ((i : Int)).toNat * 2) = some (C.pages[i + 1].parent : Int) := by
      rw [par_get hil, ← hB.ldPar hil]; congr 1; simp only [Int.toNat_natCast]; omega
    have q1 : B.ldStr pv.b (pv.o + 1 * 2 + ((i : Int)).toNat * 2 + 1) = some C.pages[i + 1].change := by
      rw [chg_get hil, ← hB.ldCh hil]; congr 1; simp only [Int.toNat_natCast]; omega
    refine Lt.Ok.ck (by first | omega | (dsimp only; omega)) (Lt.Ok.ld q0 (Lt.Ok.ld q1 ?_))
    obtain ⟨F, k1, gF, k2'⟩ := tmpN B [.int .i64 0, .str (ByteArray.mk #[])] [.int .i64 (C.pages[i + 1].parent : Int), .str C.pages[i + 1].change] rfl
    have haF := ha.gr gF
    have gHF := g.trans gF
    have hBn := Hp.get_lt k2'
    have q5 : F.ldStr B.n (0 + 1) = some C.pages[i + 1].change := ldStr_get k2' rfl
    refine Lt.Ok.ld k1 (Lt.Ok.ld (ldI_get k2' rfl) (Lt.Ok.ld q5 ?_))
    have hpar : C.pages[i + 1].parent < 256 := by
      have := hC.up (i + 1) (by omega) hil
      rw [par_get hil]; omega
    have hchg : C.pages[i + 1].change.size ≤ 60 := by
      have := chg_le hC hil
      rw [← chg_get hil] at this; exact this
    rw [wrap8 hpar, wrap8 (by omega)]
    have hlen1 : (bytesP ((C.pages.drop 1).take i)).length ≤ 62 * 200 := by
      have := bytesP_len ((C.pages.drop 1).take i) fun p hp => by
        have hp := List.mem_of_mem_drop (List.mem_of_mem_take hp)
        obtain ⟨j, hj, rfl⟩ := List.mem_iff_getElem.1 hp
        rw [chg_get hj]; exact chg_le hC hj
      rw [List.length_take, List.length_drop] at this
      omega
    have hsl := haF.1.len
    obtain ⟨r1, D, e1, a1, b1, c1, d1, _, _⟩ := Acc.apN (xs := [AV.int .u8 ((UInt8.ofNat C.pages[i + 1].parent).toNat : Int), .int .u8 ((UInt8.ofNat C.pages[i + 1].change.size).toNat : Int)]) (k := 2) haF.1 (by decide) rfl (by omega) gHF.1
    have e1' : F.apN 1 r [.int .u8 ((UInt8.ofNat C.pages[i + 1].parent).toNat : Int), .int .u8 ((UInt8.ofNat C.pages[i + 1].change.size).toNat : Int)] 2 = some (r1, D) := e1
    rw [e1']
    simp only [Option.bind_some]
    have hrB : r.nil = false → r.b ≠ B.n := fun hn => by
      have := SL.lt ha.1.sl (fun e => by
        have h2 := ha.2 e
        rw [h2] at hn; cases hn)
      omega
    have q6 : D.ldStr B.n (0 + 1) = some C.pages[i + 1].change :=
      ldStr_get (show D.get B.n = some (.cells [.int .i64 (C.pages[i + 1].parent : Int), .str C.pages[i + 1].change] false) by
        rw [b1.2 _ hBn (fun hn => (hrB hn).symm)]; exact k2') rfl
    rw [q6]
    simp only [Option.bind_some]
    have gHD : Gr H D := But.gr b1 haF.1 gHF
    obtain ⟨r2, E, e2, a2, b2, c2, d2, f2, _⟩ := Acc.app (xs := bytesAV C.pages[i + 1].change) (k := C.pages[i + 1].change.size) a1 (by decide) (by rw [bytesAV_len]; exact (Nat.mul_one _).symm) (by omega) gHD.1
    have e2' : D.app 1 r1 (bytesAV C.pages[i + 1].change) C.pages[i + 1].change.size = some (r2, E) := e2
    rw [e2']
    simp only [Option.bind_some]
    rw [w64_succ (by omega)]
    have hdr : ((C.pages.drop 1).take (i + 1)) = ((C.pages.drop 1).take i) ++ [C.pages[i + 1]] := by
      rw [List.take_succ_eq_append_getElem (by rw [List.length_drop]; omega), List.getElem_drop]
      congr 2
      congr 1
      omega
    refine ih (m - 1) (r2, _) E (by omega) ⟨i + 1, rfl, by omega, But.gr b2 a1 gHD, ?_, ?_⟩
    · unfold AccL
      rw [hdr, bytesP_append, encs_append]
      have e3 : encs (bytesP [C.pages[i + 1]]) = [AV.int .u8 ((UInt8.ofNat C.pages[i + 1].parent).toNat : Int), .int .u8 ((UInt8.ofNat C.pages[i + 1].change.size).toNat : Int)] ++ bytesAV C.pages[i + 1].change := by
        rw [bytes_encs]
        have : bytesP [C.pages[i + 1]] = UInt8.ofNat C.pages[i + 1].parent :: UInt8.ofNat C.pages[i + 1].change.size :: C.pages[i + 1].change.data.toList := by simp [bytesP, pgB]
        rw [this, encs_cons, encs_cons]
        rfl
      rw [e3, ← List.append_assoc]
      exact a2
    · intro e
      rw [hdr, bytesP_append] at e
      have := congrArg List.length e
      rw [List.length_append] at this
      simp [bytesP, pgB] at this
  · have : i = C.pages.length - 1 := by omega
    subst this
    have e : (C.pages.drop 1).take (C.pages.length - 1) = C.pages.drop 1 := by
      rw [List.take_of_length_le]; rw [List.length_drop]; exact Nat.le_refl _
    rw [e] at ha
    exact Lt.Ok.ret ⟨g, ha⟩
end
end Go.Lt.P10
