/- THE LIBRARY OF THESE PROOFS, A PART: an abstract heap, and that the model's steps keep to it. Nothing is asked of the input. -/
import Derived.Test.YthmhdbmpeepmaaaLAOps
set_option linter.unusedVariables false
set_option linter.unusedSimpArgs false
namespace Go.Lt
open Go.RowKit
section
variable {P : Program} {F : Fr} {H : Hp} {d : Option Tmp} {ty : TypeId} {pos : String} {af : Array Edge} {g : Option (Nat × Bool)}

/-- what append does, run on the values -/
theorem app_run {st e xt e2 : TypeId} {es by' : Nat} {z : Value} {ats : Array TypeId} (h0 : ats[0]? = some st) (h1 : ats[1]? = some xt) (hu : P.underlying st = some (.slice e))
    (hxu : P.underlying xt = some (.slice e2)) (ht : TyIs P e es by' z) (hes : 0 < es) (hzl : z.cells.size = es) (hby : 1 ≤ by' ∧ by' ≤ 4096)
    {B : Nat} {w0 w : World} {m : Nat → Loc} (hi : Inv B w0 m H w) {s x s' : Sl} {sv xv : Value} {vs : List AV} {H1 : Hp} (hs : RV m H.n (.sl s) sv) (hx : RV m H.n (.sl x) xv)
    (hl : H.lds x.b x.o (x.len * es) = some vs) (ho : vs.all AV.one = true) (ha : H.app es s vs x.len = some (s', H1)) :
    ∃ v' w' m', (Builtin.append_ ats ty #[sv, xv]).run P w = .ok v' w' ∧ Ext H.n m m' ∧ RV m' H1.n (.sl s') v' ∧ Inv B w0 m' H1 w' := by
  obtain ⟨xa, xc, ex⟩ := hx.sl_len
  have ldslen : ∀ (b n o : Nat) (vs : List AV), H.lds b o n = some vs → vs.length = n := by
    intro b n
    induction n with
    | zero => intro o vs h; simp [Hp.lds] at h; subst h; rfl
    | succ n ih =>
      intro o vs h
      obtain ⟨y, ys, rfl, _, h2⟩ := lds_cons_inv h
      simp [ih _ _ h2]
  have hvl := ldslen _ _ _ _ hl
  have hnz : ∀ k, (Builtin.zeroCells z.cells k).size = k * es := fun k => by rw [zeroCells_size, hzl]
  obtain ⟨us, hfx, hrx⟩ := firstCells_run (P := P) hi hx hl
  rw [ex] at hfx
  -- a new row
  have new : ∀ (sa : Option Addr) (sc : Nat) (old : List AV) (H0 : Hp), sv = .slice sa s.len sc → ¬ s.len + x.len ≤ sc → s.len + x.len ≤ 4294967296 → H.lds s.b s.o (s.len * es) = some old →
      Inv B w0 m H0 w → H0.n = H.n →
      ∃ v' w' m', (Builtin.append_ ats ty #[sv, xv]).run P w = .ok v' w' ∧ Ext H.n m m' ∧ RV m' (H.n + 1) (.sl ⟨false, H.n, 0, s.len + x.len, s.len + x.len, es⟩) v' ∧ Inv B w0 m' (H0.push (.cells (old ++ vs) false)) w' := by
    intro sa sc old H0 e1 hle hsm hold hi0 hn0
    obtain ⟨us', hfx', hrx'⟩ := firstCells_run (P := P) hi.drew hx hl
    obtain ⟨os, hfo, hro⟩ := firstCells_run (P := P) hi.drew hs hold
    rw [ex] at hfx'
    rw [e1] at hfo
    obtain ⟨nc, hnc, hrun⟩ := append_new (ty := ty) h0 h1 hu hxu ht hby.1 (w := w) hle (by
      have h2 : Builtin.nextslicecap (s.len + x.len) sc ≤ 2 * 4294967296 + 1000 := Nat.le_trans (nextcap_le (by omega)) (by omega)
      exact Nat.le_trans (Nat.mul_le_mul h2 hby.2) (by omega)) hfo hfx'
    rw [← e1, ← ex] at hrun
    have hol := ldslen _ _ _ _ hold
    have hos : os.size = s.len * es := by have := hro.1; simp at this; omega
    have hus : us'.size = x.len * es := by have := hrx'.1; simp at this; omega
    have hrel : RVs m H0.n ((old ++ vs) ++ List.replicate ((nc - (s.len + x.len)) * es) .undef) (os ++ us' ++ Builtin.zeroCells z.cells (nc - (s.len + x.len))).toList := by
      rw [hn0]
      simp only [Array.toList_append]
      refine (hro.append hrx').append ⟨by simp [hnz], fun i h1 h2 => ?_⟩
      simp only [List.getElem_replicate]
      exact .undef _
    have hinv := hi0.drew.pushCells e hrel (old ++ vs) (by simp)
    have hsz : (os ++ us' ++ Builtin.zeroCells z.cells (nc - (s.len + x.len))).size = nc * es := by
      simp only [Array.size_append, hos, hus, hnz]
      rw [← Nat.add_mul, ← Nat.add_mul]
      congr 1
      omega
    have hmm : newLoc H0 m ⟨w.drew.heap.size, 0, (os ++ us' ++ Builtin.zeroCells z.cells (nc - (s.len + x.len))).size⟩ = newLoc H m ⟨w.heap.size, 0, nc * es⟩ := by
      rw [hsz]; unfold newLoc; rw [hn0]; rfl
    rw [hmm] at hinv
    refine ⟨_, _, newLoc H m ⟨w.heap.size, 0, nc * es⟩, hrun, newLoc_ext _ _ _, ?_, hinv⟩
    have := RV.sl_mk (m := newLoc H m ⟨w.heap.size, 0, nc * es⟩) (n := H.n + 1) (s := ⟨false, H.n, 0, s.len + x.len, s.len + x.len, es⟩) (cap' := nc) rfl (by simp) (Nat.le_refl _) hnc
      (fun h => by simp only at h; omega) (fun p hp => by simp only at hp; rw [newLoc_new]; simp only; rw [← hp]; omega)
    rw [newLoc_new] at this
    exact this
  unfold Hp.app at ha
  split at ha
  case isFalse => cases ha
  rename_i hsm
  split at ha
  · -- there is room
    rename_i hcap
    rcases hs.sl_inv with ⟨rfl, e1⟩ | ⟨a, hnil, hb, hl0, hc0, e1⟩ | ⟨cap', hnil, hb, hlc, hcc, h00, hp, e1⟩
    · simp at ha
      obtain ⟨rfl, rfl⟩ := ha
      have hx0 : x.len = 0 := by simpa using hcap
      refine ⟨.slice none 0 0, w, m, ?_, .refl _ _, e1 ▸ hs, hi⟩
      rw [e1, ex]
      have := append_place (ty := ty) (w' := w) (sa := none) (sl := 0) (sc := 0) h0 h1 hu hxu ht (by omega) hfx (by simp)
      rw [this, hx0]
    · rw [hnil] at ha
      have hx0 : x.len = 0 := by omega
      have hv0 : vs = [] := by apply List.eq_nil_of_length_eq_zero; rw [hvl, hx0]; simp
      subst hv0
      simp [Hp.sts] at ha
      obtain ⟨rfl, rfl⟩ := ha
      have hus : us = #[] := by have := hrx.1; simpa using this.symm
      subst hus
      refine ⟨.slice (some a) 0 0, w, m, ?_, .refl _ _, ?_, hi⟩
      · rw [e1, ex]
        have := append_place (ty := ty) (w' := w) (sa := some a) (sl := 0) (sc := 0) h0 h1 hu hxu ht (by omega) hfx (by simp [storeCells])
        rw [this, hx0]
      · rw [hl0, hx0, hc0]
        exact .sle _ _ _ hb _
    · rw [hnil] at ha
      simp only [Bool.false_eq_true, if_false, Option.map_eq_some_iff] at ha
      obtain ⟨H2, h2, h3⟩ := ha
      injection h3 with h3 h4
      subst h4; subst h3
      obtain ⟨w', hst, hi', hn'⟩ := hi.sts (o := s.o + s.len * es) (i := 0) P hi h2 hrx (by simpa using ho)
      refine ⟨.slice (some ⟨(m s.b).blk, (m s.b).sh + s.o, none⟩) (s.len + x.len) cap', w', m, ?_, .refl _ _, ?_, hi'⟩
      · rw [e1, ex]
        refine append_place (ty := ty) (w' := w') h0 h1 hu hxu ht (by omega) hfx ?_
        simp only [addr_add]
        rw [show (m s.b).sh + s.o + s.len * es = (m s.b).sh + (s.o + s.len * es) by omega]
        exact hst
      · rw [hn']
        refine RV.sl_mk (s := ⟨false, s.b, s.o, s.len + x.len, s.cap, s.opn⟩) rfl hb hcap hcc (fun h => h00 h) (fun p hp' => hp p hp')
  · -- there may be none
    rename_i hcap
    simp only [Option.bind_eq_some_iff] at ha
    obtain ⟨old, hold, ha⟩ := ha
    split at ha
    · rename_i hex
      injection ha with ha
      injection ha with h3 h4
      subst h3; subst h4
      obtain ⟨sa, sc, e1⟩ := hs.sl_len
      have hsc : ¬ s.len + x.len ≤ sc := by
        rcases hs.sl_inv with ⟨rfl, e2⟩ | ⟨a, _, _, _, hc0, e2⟩ | ⟨cap', _, _, _, _, h00, _, e2⟩ <;> rw [e1] at e2 <;> injection e2 with _ _ e3
        · rw [e3]; exact hcap
        · rw [e3]; omega
        · rw [e3, h00 hex]; exact hcap
      exact new sa sc old H e1 hsc hsm hold hi rfl
    · split at ha
      case isFalse => cases ha
      rename_i hopn0 hopn
      split at ha
      case h_2 => cases ha
      rename_i cs hg
      injection ha with ha
      injection ha with h3 h4
      subst h3; subst h4
      obtain ⟨sa, sc, e1⟩ := hs.sl_len
      by_cases hsc : s.len + x.len ≤ sc
      · -- in its place, behind what was known
        rcases hs.sl_inv with ⟨rfl, e2⟩ | ⟨a, _, _, h00, hc0, e2⟩ | ⟨cap', hnil, hb, hlc, hcc, _, hp, e2⟩
        · simp at hopn0
        · rw [e1] at e2
          injection e2 with _ _ e3
          exact absurd (e3 ▸ hsc) (by omega)
        · rw [e1] at e2
          injection e2 with e3 _ e4
          subst e3; subst e4
          obtain ⟨p, hpe⟩ : ∃ p, es = p + 1 := ⟨es - 1, by omega⟩
          have hz := hp p (by omega)
          rw [← hpe] at hz
          have hneed : (s.len + x.len) * es ≤ sc * es := Nat.mul_le_mul_right _ hsc
          have hexp : (s.len + x.len) * es = s.len * es + x.len * es := Nat.add_mul _ _ _
          -- all places are known
          have ext : ∃ cs2 : List AV, Inv B w0 m (H.set s.b (.cells cs2 false)) w ∧ s.o + (s.len + x.len) * es ≤ cs2.length ∧ (∀ i, i < cs.length → cs2[i]? = cs[i]?) := by
            by_cases hk : s.o + (s.len + x.len) * es ≤ cs.length
            · refine ⟨cs, ?_, hk, fun _ _ => rfl⟩
              exact hi.setBlk hg (fun _ => rfl) (fun _ => rfl) (hi.rel _ _ hg)
            · refine ⟨cs ++ List.replicate (s.o + (s.len + x.len) * es - cs.length) .undef, hi.extend hg (by omega), by simp; omega, fun i h => ?_⟩
              rw [List.getElem?_append_left h]
          obtain ⟨cs2, hi2, hlen2, hsame⟩ := ext
          have hg2 : (H.set s.b (.cells cs2 false)).get s.b = some (.cells cs2 false) := Hp.get_set_same H _ (Hp.get_lt hg)
          -- the stores
          have sts_ok : ∀ (ys : List AV) (o : Nat) (cs2 : List AV) (H2 : Hp), H2.get s.b = some (.cells cs2 false) → o + ys.length ≤ cs2.length →
              ∃ H3 cs3, H2.sts s.b o ys = some H3 ∧ H3.get s.b = some (.cells cs3 false) ∧ cs3.length = cs2.length ∧ (∀ i, i < o → cs3[i]? = cs2[i]?) ∧ (∀ i, i < ys.length → cs3[o + i]? = ys[i]?) ∧
                (∀ b, b ≠ s.b → H3.get b = H2.get b) ∧ H3.n = H2.n ∧ H3.set s.b .dead = H2.set s.b .dead := by
            intro ys
            induction ys with
            | nil => intro o cs2 H2 hg hle; exact ⟨H2, cs2, rfl, hg, rfl, fun _ _ => rfl, fun i h => by simp at h, fun _ _ => rfl, rfl, rfl⟩
            | cons y ys ih =>
              intro o cs2 H2 hg hle
              simp only [List.length_cons] at hle
              have hst : H2.st s.b o y = some (H2.set s.b (.cells (cs2.set o y) false)) := by
                unfold Hp.st; rw [hg]; simp only; rw [if_pos (by omega)]
              obtain ⟨H3, cs3, h3, hg3, hl3, hlo, hhi, hoth, hn3, hd3⟩ := ih (o + 1) (cs2.set o y) (H2.set s.b (.cells (cs2.set o y) false)) (Hp.get_set_same H2 _ (Hp.get_lt hg)) (by simp; omega)
              refine ⟨H3, cs3, by simp only [Hp.sts, hst, Option.bind_some, h3], hg3, by simpa using hl3, fun i h => ?_, fun i h => ?_, fun b h => ?_, by simpa using hn3, ?_⟩
              · rw [hlo i (by omega), List.getElem?_set_ne (by omega)]
              · cases i with
                | zero =>
                  have := hlo o (by omega)
                  simp only [Nat.add_zero]
                  rw [this, List.getElem?_set_self (by omega)]
                  rfl
                | succ i =>
                  have := hhi i (by simpa using h)
                  rw [show o + (i + 1) = o + 1 + i by omega, this]
                  rfl
              · rw [hoth b h, Hp.get_set_other H2 _ h]
              · rw [hd3]
                unfold Hp.set
                by_cases hb : s.b < H2.bs.length
                · simp [hb]
                · simp [hb]
          obtain ⟨H3, cs3, h3, hg3, hl3, hlo, hhi, hoth, hn3, hd3⟩ := sts_ok vs (s.o + s.len * es) cs2 _ hg2 (by omega)
          obtain ⟨w', hst, hi3, hn3'⟩ := hi2.sts (o := s.o + s.len * es) (i := 0) P hi2 h3 (by simpa using hrx) (by simpa using ho)
          have hol := ldslen _ _ _ _ hold
          -- what was there
          have hold' : ∀ i (h : i < old.length), cs[s.o + i]? = some old[i] := by
            have : ∀ (n o : Nat) (l : List AV), H.lds s.b o n = some l → ∀ i (h : i < l.length), cs[o + i]? = some l[i] := by
              intro n
              induction n with
              | zero => intro o l h i hi; simp [Hp.lds] at h; subst h; simp at hi
              | succ n ih =>
                intro o l h i hi
                obtain ⟨y, ys, rfl, h1, h2⟩ := lds_cons_inv h
                cases i with
                | zero => simpa [Hp.ld, hg] using h1
                | succ i =>
                  have := ih (o + 1) ys h2 i (by simpa using hi)
                  rw [show o + (i + 1) = o + 1 + i by omega, this]
                  rfl
            exact this _ _ _ hold
          have hcs : ∀ i (h : i < (old ++ vs).length), cs3[s.o + i]? = some (old ++ vs)[i] := by
            intro i h
            by_cases hlt : i < old.length
            · have h1 := hold' i hlt
              have h2 : s.o + i < cs.length := (List.getElem?_eq_some_iff.1 h1).1
              rw [hlo _ (by omega), hsame _ h2, h1, List.getElem_append_left hlt]
            · have h2 : i < old.length + vs.length := by simpa using h
              have := hhi (i - old.length) (by omega)
              rw [show s.o + s.len * es + (i - old.length) = s.o + i by omega] at this
              rw [this, List.getElem_append_right (by omega)]
              rw [List.getElem?_eq_getElem]
          have hren := hi3.rename (o := s.o) (cs' := old ++ vs) hg3 (by simp; omega) (fun i h => by
            have := hcs i h
            exact (Option.some.inj (by rw [← this, List.getElem?_eq_getElem])).symm)
          have hn30 : H3.n = H.n := by rw [hn3]; simp
          have hd0 : H3.set s.b .dead = H.set s.b .dead := by
            rw [hd3]
            unfold Hp.set
            by_cases hb : s.b < H.bs.length
            · simp [hb]
            · simp [hb]
          rw [hd0] at hren
          have hmm : newLoc H3 m ⟨(m s.b).blk, (m s.b).sh + s.o, (m s.b).sz⟩ = newLoc H m ⟨(m s.b).blk, (m s.b).sh + s.o, (m s.b).sz⟩ := by unfold newLoc; rw [hn30]
          rw [hmm] at hren
          refine ⟨.slice (some ⟨(m s.b).blk, (m s.b).sh + s.o, none⟩) (s.len + x.len) sc, w', _, ?_, newLoc_ext _ _ _, ?_, hren⟩
          · rw [e1, ex]
            refine append_place (ty := ty) (w' := w') h0 h1 hu hxu ht hsc hfx ?_
            simp only [addr_add]
            rw [show (m s.b).sh + s.o + s.len * es = (m s.b).sh + (s.o + s.len * es) by omega]
            exact hst
          · have := RV.sl_mk (m := newLoc H m ⟨(m s.b).blk, (m s.b).sh + s.o, (m s.b).sz⟩) (n := ((H.set s.b .dead).push (.cells (old ++ vs) false)).n) (s := ⟨false, H.n, 0, s.len + x.len, s.len + x.len, es⟩) (cap' := sc) rfl
              (by simp) (Nat.le_refl _) hsc (fun h => by simp only at h; omega) (fun q hq => by simp only at hq; rw [newLoc_new]; simp only; rw [← hq]; omega)
            rw [newLoc_new] at this
            exact this
      · obtain ⟨v', w', m', hr, he, hrv, hinv⟩ := new sa sc old (H.set s.b .dead) e1 hsc hsm hold (hi.kill hg) (by simp)
        exact ⟨v', w', m', hr, he, by simpa using hrv, hinv⟩

theorem s_append {st e xt e2 : TypeId} {es by' : Nat} {z : Value} {ats : Array TypeId} {x y : Operand} {s xs s' : Sl} {vs : List AV} {H1 : Hp} (h0 : ats[0]? = some st) (h1 : ats[1]? = some xt)
    (hu : P.underlying st = some (.slice e)) (hxu : P.underlying xt = some (.slice e2)) (ht : TyIs P e es by' z) (hes : 0 < es) (hzl : z.cells.size = es) (hby : 1 ≤ by' ∧ by' ≤ 4096)
    (hs : aeval F x = .sl s) (hx : aeval F y = .sl xs) (hl : H.lds xs.b xs.o (xs.len * es) = some vs) (ho : vs.all AV.one = true) (ha : H.app es s vs xs.len = some (s', H1)) :
    Step1 P ⟨d, .call ⟨.builtin .append, #[x, y], ats⟩, ty, pos, af, g⟩ F H (.sl s') H1 :=
  .of_run (app_mono ha) fun B w0 m a w hop hi => by
    have r1 := hop x (by simp [Op.operands, Call.operands]); rw [hs] at r1
    have r2 := hop y (by simp [Op.operands, Call.operands]); rw [hx] at r2
    obtain ⟨v', w', m', hr, he, hv, hi'⟩ := app_run (ty := ty) h0 h1 hu hxu ht hes hzl hby hi r1 r2 hl ho ha
    refine ⟨v', w', m', ?_, he, hv, hi'⟩
    simp [execOp, resolve, invoke, builtin, hr]
end
end Go.Lt
