/- PLAIN LAWS OF WHAT IS COMPUTED, for the statement 'DealsOthers'. Nothing is asked of the input. -/
import Derived.Test.YtficeemoekikdaaU14VSo
import Derived.Test.YtficeemoekikdaaLB
set_option linter.unusedVariables false
set_option linter.unusedSimpArgs false
namespace Go.Lt.P5
open Go Go.Lt Go.Proofs
/-- where a walk over a slice that collects it stands -/
structure Col (B : Nat) (H0 H : Hp) (c : Nat) (v w : Sl) (l : List Pr) (i : Nat) : Prop where
  n : B + 3 ≤ H.n
  old : ∀ b, b < B → H.get b = H0.get b
  o : H.get B = some (.cells [.sl w] false)
  d : H.get (B + 1) = some .dfr
  p : H.get (B + 2) = some (.loop .ready none 0 13 [(2, .ptr B 0)])
  a : AccL (B + 3) H w (l.take i)
theorem round_ok {k B : Nat} {H0 H : Hp} {c : Nat} {v w : Sl} {l : List Pr} {i : Nat} (h : Col B H0 H c v w l i) (hi : i < l.length) (hb : l.length ≤ 1000) :
    Ok (callv (app (k + 1)) (.yld (B + 2)) [.agg [.int .i64 l[i].1, .int .i64 l[i].2]] H) fun r H' => r = .bool true ∧ ∃ w', Col B H0 H' c v w' l (i + 1) := by
  show Ok (ydisp (app k) (B + 2) [.agg [.int .i64 l[i].1, .int .i64 l[i].2]] H) _
  unfold ydisp
  rw [h.p]
  simp only
  refine Ok.bind (P := fun r H' => r = none ∧ ∃ w', B + 3 ≤ H'.n ∧ (∀ b, b < B → H'.get b = H0.get b) ∧ H'.get B = some (.cells [.sl w'] false) ∧ H'.get (B + 1) = some .dfr ∧ H'.get (B + 2) = some (.loop .busy none 0 13 [(2, .ptr B 0)]) ∧ AccL (B + 3) H' w' (l.take (i + 1))) ?_ ?_
  · unfold r86q0
    obtain ⟨D, hD, hD', gD, nD⟩ := sts2 H (.int .i64 l[i].1) (.int .i64 l[i].2) (.int .i64 0) (.int .i64 0)
    have hn := h.n
    have pD : D.get (B + 2) = some (.loop .ready none 0 13 [(2, .ptr B 0)]) := by rw [gD.2 _ (by omega)]; exact h.p
    have hbeg : D.lbegin (B + 2) = some (D.set (B + 2) (.loop .busy none 0 13 [(2, .ptr B 0)])) := by unfold Hp.lbegin; rw [pD]
    refine Ok.ld hD (Ok.ld hbeg ?_)
    generalize hE : D.set (B + 2) (.loop .busy none 0 13 [(2, .ptr B 0)]) = E
    have oE : ∀ x, x ≠ B + 2 → E.get x = D.get x := fun x hx => by rw [← hE, Hp.get_set_other _ _ hx]
    have pE : E.get (B + 2) = some (.loop .busy none 0 13 [(2, .ptr B 0)]) := by rw [← hE, Hp.get_set_same _ _ (by omega)]
    have nE : E.n = D.n := by rw [← hE]; simp
    clear hE
    have sE : E.get B = some (.cells [.sl w] false) := by rw [oE _ (by omega), gD.2 _ (by omega)]; exact h.o
    have cE : E.get H.n = some (.cells [.int .i64 l[i].1, .int .i64 l[i].2] false) := by rw [oE _ (by omega)]; exact hD'
    refine Ok.ld (ldSl_get sE rfl) (Ok.ld (ldI_get cE rfl) (Ok.ld (ldI_get cE rfl) ?_))
    have aE : AccL (B + 3) E w (l.take i) := by
      refine Acc.keep (AccL.gr h.a gD) fun hn => ?_
      have h1 := h.a
      unfold AccL at h1
      rcases h1 with ⟨rfl, _⟩ | ⟨_, _, _, _, h5, _⟩
      · simp [nilS] at hn
      · exact oE _ (by omega)
    have hlw := aE.len
    rw [List.length_take] at hlw
    obtain ⟨w', H', e1, a1, b1, c1, _, _, _⟩ := Acc.apN (k := 1) (xs := [.int .i64 l[i].1, .int .i64 l[i].2]) aE (by decide) rfl (by omega) (by omega)
    refine Ok.ld e1 ?_
    have low : w.nil = false → B + 3 ≤ w.b := fun hn => by
      have h1 := h.a
      unfold AccL at h1
      rcases h1 with ⟨rfl, _⟩ | ⟨_, _, _, _, h5, _⟩
      · simp [nilS] at hn
      · exact h5
    have kp : ∀ x, x < B + 3 → H'.get x = E.get x := fun x hx => b1.2 x (by omega) fun hn => by have := low hn; omega
    have sF : H'.get B = some (.cells [.sl w] false) := by rw [kp _ (by omega)]; exact sE
    refine Ok.st sF (by simp) fun G eG hG => Ok.ret ⟨rfl, w', ?_, fun b hb => ?_, hG, ?_, ?_, ?_⟩
    · rw [eG]; have := b1.1; simp; omega
    · rw [eG, Hp.get_set_other _ _ (by omega), kp _ (by omega), oE _ (by omega), gD.2 _ (by omega)]; exact h.old b hb
    · rw [eG, Hp.get_set_other _ _ (by omega), kp _ (by omega), oE _ (by omega), gD.2 _ (by omega)]; exact h.d
    · rw [eG, Hp.get_set_other _ _ (by omega), kp _ (by omega)]; exact pE
    · rw [List.take_succ_eq_append_getElem hi]
      unfold AccL
      rw [encs_append, encs_one]
      refine Acc.keep a1 fun hn => ?_
      rw [eG, Hp.get_set_other]
      have h1 := a1
      rcases h1 with ⟨rfl, _⟩ | ⟨_, _, _, _, h5, _⟩
      · simp [nilS] at hn
      · omega
  · rintro r H' ⟨rfl, w', h1, h2, h3, h4, h5, h6⟩
    have hnx : H'.lnext (B + 2) 0 none = some (H'.set (B + 2) (.loop .ready none 0 13 [(2, .ptr B 0)])) := by
      unfold Hp.lnext; rw [h5]; simp
    dsimp only
    rw [hnx]
    refine Ok.ret ⟨rfl, w', by simpa using h1, fun b hb => ?_, ?_, ?_, ?_, ?_⟩
    · rw [Hp.get_set_other _ _ (by omega)]; exact h2 b hb
    · rw [Hp.get_set_other _ _ (by omega)]; exact h3
    · rw [Hp.get_set_other _ _ (by omega)]; exact h4
    · rw [Hp.get_set_same _ _ (by omega)]
    · refine Acc.keep h6 fun hn => ?_
      rw [Hp.get_set_other]
      unfold AccL at h6
      rcases h6 with ⟨rfl, _⟩ | ⟨_, _, _, _, h5, _⟩
      · simp [nilS] at hn
      · omega
/-- Collect of Values -/
theorem r82_ok {k : Nat} {H : Hp} {c : Nat} {v : Sl} {l : List Pr} (hc : H.get c = some (.cells [.sl v] false)) (hv : SL H v l) (hb : l.length ≤ 1000) (hne : l ≠ []) :
    Ok (r82 (appA (k + 2)) (.fn 84 [] [.ptr c 0]) H) fun w H' => Gr H H' ∧ Own H' w l ∧ H.n ≤ w.b := by
  unfold r82
  refine Ok.bind (P := fun w H' => Gr H H' ∧ Own H' w l ∧ H.n ≤ w.b) ?_ fun w H' h => Ok.ret h
  unfold r86
  refine Ok.lt ?_
  have n1 : (H.push (.cells [.sl ⟨true, 0, 0, 0, 0, 0⟩] false)).n = H.n + 1 := by simp
  rw [n1]
  have hlen := hv.len
  generalize hA : ((H.push (.cells [.sl ⟨true, 0, 0, 0, 0, 0⟩] false)).push .dfr).push (.loop .ready none 0 13 [(2, .ptr H.n 0)]) = A
  have gA : Gr H A := by rw [← hA]; exact (Gr.push _ _).trans ((Gr.push _ _).trans (.push _ _))
  have nA : A.n = H.n + 3 := by rw [← hA]; simp
  have A0 : A.get H.n = some (.cells [.sl ⟨true, 0, 0, 0, 0, 0⟩] false) := by rw [← hA, Hp.get_push_old _ _ (by simp; omega), Hp.get_push_old _ _ (by simp)]; simp
  have A1 : A.get (H.n + 1) = some .dfr := by rw [← hA, Hp.get_push_old _ _ (by simp), ← n1, Hp.get_push_new]
  have A2 : A.get (H.n + 2) = some (.loop .ready none 0 13 [(2, .ptr H.n 0)]) := by
    rw [← hA, show H.n + 2 = ((H.push (.cells [.sl ⟨true, 0, 0, 0, 0, 0⟩] false)).push .dfr).n by simp, Hp.get_push_new]
  clear hA
  have hcl := Hp.get_lt hc
  have C0 : Col H.n H A c v ⟨true, 0, 0, 0, 0, 0⟩ l 0 := ⟨by omega, fun b hb => gA.2 b hb, A0, A1, A2, by simpa using AccL.nilS⟩
  refine Ok.bind (P := fun _ H' => ∃ w, Col H.n H H' c v w l l.length) ?_ ?_
  · show Ok ((r84 (app (k + 1)) (.yld (H.n + 2)) c A).map fun p => (AV.tup [], p.2)) _
    have h1 : Ok (r84 (app (k + 1)) (.yld (H.n + 2)) c A) fun _ H' => ∃ w, Col H.n H H' c v w l l.length := by
      unfold r84
      refine Ok.ld (ldSl_get (by rw [gA.2 _ hcl]; exact hc) rfl) ?_
      rw [hlen]
      refine Ok.loop (L := fun K (s : Int) H' => r84_l0 (app (k + 1)) K (.yld (H.n + 2)) v l.length s H') (fun m s H' => ∃ i : Nat, s = i ∧ i + m = l.length ∧ ∃ w, Col H.n H H' c v w l i) ?_ FUEL l.length 0 A (by unfold FUEL; omega) ⟨0, rfl, by omega, _, C0⟩
      rintro K m s H1 ⟨i, rfl, hm, w, C⟩ ih
      try dsimp only at *
      rw [r84_l0]
      by_cases h : i < l.length
      · have gH : Gr H H1 := ⟨by have := C.n; omega, C.old⟩
        have hg := hv.gr gH
        obtain ⟨E, hE, hE', gE, nE⟩ := sts2 H1 (.int .i64 l[i].1) (.int .i64 l[i].2) (.int .i64 0) (.int .i64 0)
        refine Ok.pos (by omega) (Ok.ck (by omega) (Ok.ld (hg.ldI (i := i) (j := 0) h rfl) (Ok.ld (hg.ldI (i := i) (j := 1) h rfl) (Ok.ld hE (Ok.ld (ldI_get hE' rfl) (Ok.ld (ldI_get hE' rfl) ?_))))))
        have hn := C.n
        have CE : Col H.n H E c v w l i := ⟨by omega, fun b hb => by rw [gE.2 _ (by omega)]; exact C.old b hb, by rw [gE.2 _ (by omega)]; exact C.o, by rw [gE.2 _ (by omega)]; exact C.d, by rw [gE.2 _ (by omega)]; exact C.p, C.a.gr gE⟩
        refine Ok.bind (round_ok CE h hb) fun r H2 ⟨hr, w', C2⟩ => ?_
        subst hr
        refine Ok.ld rfl (Ok.pos rfl ?_)
        rw [w64_succ (by omega)]
        exact ih (m - 1) _ H2 (by omega) ⟨i + 1, rfl, by omega, w', C2⟩
      · have hi : i = l.length := by omega
        subst hi
        exact Ok.neg (by omega) (Ok.ret ⟨w, C⟩)
    obtain ⟨u, H', e, h⟩ := h1
    rw [e]
    exact Ok.ret h
  · rintro r H' ⟨w, C⟩
    have hn := C.n
    have hend : H'.lend (H.n + 2) = some (none, H'.set (H.n + 2) .dead) := by unfold Hp.lend; rw [C.p]
    refine Ok.ld hend (Ok.pos rfl ?_)
    generalize hG : H'.set (H.n + 2) .dead = G
    have oG : ∀ x, x ≠ H.n + 2 → G.get x = H'.get x := fun x hx => by rw [← hG, Hp.get_set_other _ _ hx]
    have nG : G.n = H'.n := by rw [← hG]; simp
    clear hG
    have sG : G.get H.n = some (.cells [.sl w] false) := by rw [oG _ (by omega)]; exact C.o
    have dG : G.get (H.n + 1) = some .dfr := by rw [oG _ (by omega)]; exact C.d
    refine Ok.ld (ldSl_get sG rfl) (Ok.ck (by simp [dfrB, Hp.isDfr, dG]) (Ok.ret ⟨⟨by rw [kill_n]; dsimp only; omega, fun b hb => ?_⟩, ?_⟩))
    · rw [kill_get (by simp; omega), oG _ (by omega)]; exact C.old b hb
    · have ha := C.a
      rw [List.take_of_length_le (Nat.le_refl _)] at ha
      unfold AccL at ha
      rcases ha with ⟨rfl, e⟩ | ⟨h1, h2, h3, h4, h5, h6, h7⟩
      · cases l with
        | nil => exact absurd rfl hne
        | cons x l => simp [encs_cons] at e; exact absurd e.1 (by cases x; simp [El.enc])
      · refine ⟨⟨h1, h2, ?_, by omega, .inr h3, ?_⟩, by omega⟩
        · rw [encs_len] at h7
          exact (Nat.eq_of_mul_eq_mul_right El.pos h7).symm
        · rw [kill_get (by simp; omega), oG _ (by omega)]; exact h6
end Go.Lt.P5
