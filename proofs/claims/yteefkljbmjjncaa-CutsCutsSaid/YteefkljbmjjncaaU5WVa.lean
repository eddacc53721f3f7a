/- PLAIN LAWS OF WHAT IS COMPUTED, for the statement 'CutsCuts'. Nothing is asked of the input. -/
import Derived.Test.YteefkljbmjjncaaU5WOf
import Derived.Test.YteefkljbmjjncaaU5WCu
import Derived.Test.YteefkljbmjjncaaU5WAwk
set_option linter.unusedVariables false
set_option linter.unusedSimpArgs false
namespace Go.Lt.P2
open Go Go.Lt Go.Proofs
/-- a side's direction leads out of the plate at both of its ends -/
def dirP (l : List Sd) (d : Pr) : Prop := ∃ t ∈ l, 0 < t.1 * d.1 + t.2.1 * d.2
instance (l : List Sd) (d : Pr) : Decidable (dirP l d) := by unfold dirP; infer_instance
def plateP (l : List Sd) : Prop := (3 ≤ l.length ∧ l.length ≤ 6) ∧ (∀ s ∈ l, sideP s) ∧ ∀ s ∈ l, dirP l (-s.2.1, s.1) ∧ dirP l (s.2.1, -s.1)
instance (l : List Sd) : Decidable (plateP l) := by unfold plateP; infer_instance
theorem forall_take {α : Type} {l : List α} {i : Nat} {P : α → Prop} (h : i < l.length) (h1 : ∀ x ∈ l.take i, P x) (h2 : P l[i]) : ∀ x ∈ l.take (i + 1), P x := by
  rw [List.take_succ_eq_append_getElem h]
  intro x hx
  rcases List.mem_append.1 hx with hx | hx
  · exact h1 x hx
  · rw [List.mem_singleton] at hx; subst hx; exact h2
/-- a function value that says something of each element, from a heap on -/
def Says {T : Type} [El T] (a : App) (fv : AV) (B : Hp) (arg : T → AV) (P : T → Prop) [DecidablePred P] (D : T → Prop) : Prop := ∀ H x, Gr B H → D x → Ok (callv a fv [arg x] H) fun r H' => Gr H H' ∧ r = .bool (decide (P x))
def argI (x : Int) : AV := .int .i64 x
def argP (x : Pr) : AV := .agg [.int .i64 x.1, .int .i64 x.2]
def argS (x : Sd) : AV := .agg [.int .i64 x.1, .int .i64 x.2.1, .int .i64 x.2.2]
section
variable {a : App} {fv : AV} {B : Hp}
theorem r105_ok {P : Int → Prop} [DecidablePred P] {D : Int → Prop} (hf : Says a fv B argI P D) {v : Sl} {l : List Int} (hv : SL B v l) (hb : l.length ≤ 1000000) (hD : ∀ x ∈ l, D x) : Ok (r105 a v fv B) fun r H' => Gr B H' ∧ r = decide (∃ x ∈ l, P x) := by
  unfold r105
  refine Ok.bind (P := fun r H' => Gr B H' ∧ (0 ≤ r ↔ ∃ x ∈ l, P x)) ?_ fun r H' h => Ok.ret ⟨h.1, decide_eq_decide.2 h.2⟩
  unfold r113
  have hlen := hv.len
  rw [hlen]
  refine Ok.loop (L := fun K (s : Int) H2 => r113_l0 a K v fv l.length s H2) (fun m s H' => Gr B H' ∧ ∃ i : Nat, s = i ∧ i + m = l.length ∧ ∀ x ∈ l.take i, ¬ P x) ?_ FUEL l.length 0 B (by unfold FUEL; omega) ⟨.refl _, 0, rfl, by omega, by simp⟩
  rintro K m s H1 ⟨g1, i, rfl, hm, ht⟩ ih
  try dsimp only at *
  rw [r113_l0]
  by_cases h : i < l.length
  · have hg := hv.gr g1
    refine Ok.pos (by omega) (Ok.ck (by omega) (Ok.ld (hg.ldI (i := i) (j := 0) h rfl) (Ok.bind (hf H1 l[i] g1 (hD _ (List.getElem_mem h))) fun r H2 ⟨g2, hr⟩ => ?_)))
    subst hr
    refine Ok.ld rfl (Ok.ite (fun c => Ok.ret ⟨g1.trans g2, ⟨fun _ => ⟨l[i], List.getElem_mem h, of_decide_eq_true c⟩, fun _ => by omega⟩⟩) fun c => ?_)
    rw [w64_succ (by omega)]
    exact ih (m - 1) _ H2 (by omega) ⟨g1.trans g2, i + 1, rfl, by omega, forall_take h ht (fun p => c (decide_eq_true p))⟩
  · rw [List.take_of_length_le (by omega)] at ht
    exact Ok.neg (by omega) (Ok.ret ⟨g1, ⟨fun q => by omega, fun ⟨x, hx, hp⟩ => absurd hp (ht x hx)⟩⟩)
theorem r92_ok {P : Sd → Prop} [DecidablePred P] {D : Sd → Prop} (hf : Says a fv B argS P D) {v : Sl} {l : List Sd} (hv : SL B v l) (hb : l.length ≤ 1000000) (hD : ∀ x ∈ l, D x) : Ok (r92 a v fv B) fun r H' => Gr B H' ∧ r = decide (∃ x ∈ l, P x) := by
  unfold r92
  refine Ok.bind (P := fun r H' => Gr B H' ∧ (0 ≤ r ↔ ∃ x ∈ l, P x)) ?_ fun r H' h => Ok.ret ⟨h.1, decide_eq_decide.2 h.2⟩
  unfold r111
  have hlen := hv.len
  rw [hlen]
  refine Ok.loop (L := fun K (s : Int) H2 => r111_l0 a K v fv l.length s H2) (fun m s H' => Gr B H' ∧ ∃ i : Nat, s = i ∧ i + m = l.length ∧ ∀ x ∈ l.take i, ¬ P x) ?_ FUEL l.length 0 B (by unfold FUEL; omega) ⟨.refl _, 0, rfl, by omega, by simp⟩
  rintro K m s H1 ⟨g1, i, rfl, hm, ht⟩ ih
  try dsimp only at *
  rw [r111_l0]
  by_cases h : i < l.length
  · have hg := hv.gr g1
    refine Ok.pos (by omega) (Ok.ck (by omega) (Ok.ld (hg.ldI (i := i) (j := 0) h rfl) (Ok.ld (hg.ldI (i := i) (j := 1) h rfl) (Ok.ld (hg.ldI (i := i) (j := 2) h rfl) (Ok.bind (hf H1 l[i] g1 (hD _ (List.getElem_mem h))) fun r H2 ⟨g2, hr⟩ => ?_)))))
    subst hr
    refine Ok.ld rfl (Ok.ite (fun c => Ok.ret ⟨g1.trans g2, ⟨fun _ => ⟨l[i], List.getElem_mem h, of_decide_eq_true c⟩, fun _ => by omega⟩⟩) fun c => ?_)
    rw [w64_succ (by omega)]
    exact ih (m - 1) _ H2 (by omega) ⟨g1.trans g2, i + 1, rfl, by omega, forall_take h ht (fun p => c (decide_eq_true p))⟩
  · rw [List.take_of_length_le (by omega)] at ht
    exact Ok.neg (by omega) (Ok.ret ⟨g1, ⟨fun q => by omega, fun ⟨x, hx, hp⟩ => absurd hp (ht x hx)⟩⟩)
end
/-- within -/
theorem r79_ok {k : Nat} {c : Int} (hc : 0 ≤ c ∧ c ≤ 1000) {B : Hp} {v : Sl} {l : List Int} (hv : SL B v l) (hb : l.length ≤ 1000000) : Ok (r79 (appA (k + 1)) c v B) fun r H' => Gr B H' ∧ r = !decide (∃ x ∈ l, x < -c ∨ c < x) := by
  unfold r79
  have gp := Gr.push B (.cells [.int .i64 c] false)
  have g0 : (B.push (.cells [.int .i64 c] false)).get B.n = some (.cells [.int .i64 c] false) := Hp.get_push_new _ _
  generalize B.push (.cells [.int .i64 c] false) = A at *
  refine Ok.lt ?_
  have hsay : Says (appA (k + 1)) (.fn 106 [] [.ptr B.n 0]) A argI (fun x => x < -c ∨ c < x) fun _ => True := fun H x g _ => by
    show Ok ((r106 x B.n H).map fun p => (AV.bool p.1, p.2)) _
    have h0 : H.get B.n = some (.cells [.int .i64 c] false) := by rw [g.2 _ (Hp.get_lt g0)]; exact g0
    have h1 : Ok (r106 x B.n H) fun r H' => H' = H ∧ r = decide (x < -c ∨ c < x) := by
      unfold r106
      refine Ok.ld (ldI_get h0 rfl) ?_
      rw [w64_id (by omega) (by omega)]
      refine Ok.ite (fun q => Ok.ret ⟨rfl, by symm; rw [decide_eq_true_iff]; omega⟩) fun q => Ok.ld (ldI_get h0 rfl) (Ok.ret ⟨rfl, decide_eq_decide.2 (by omega)⟩)
    obtain ⟨r, H', e, rfl, rfl⟩ := h1
    rw [e]
    exact Ok.ret ⟨.refl _, rfl⟩
  exact Ok.bind (r105_ok hsay (hv.gr gp) hb fun _ _ => trivial) fun r H' ⟨g, hr⟩ => Ok.ret ⟨gp.trans g, by rw [hr]⟩
theorem says93 (k : Nat) {B : Hp} {c : Nat} {d : Pr} (h0 : B.get c = some (.cells [.int .i64 d.1, .int .i64 d.2] false)) (hd : (-4 ≤ d.1 ∧ d.1 ≤ 4) ∧ -4 ≤ d.2 ∧ d.2 ≤ 4) : Says (appA (k + 1)) (.fn 93 [] [.ptr c 0]) B argS (fun t => 0 < t.1 * d.1 + t.2.1 * d.2) sideP := fun H x g hx => by
  show Ok ((r93 x.1 x.2.1 x.2.2 c H).map fun p => (AV.bool p.1, p.2)) _
  have h1 : Ok (r93 x.1 x.2.1 x.2.2 c H) fun r H' => Gr H H' ∧ r = decide (0 < x.1 * d.1 + x.2.1 * d.2) := by
    unfold r93
    have hc : H.get c = some (.cells [.int .i64 d.1, .int .i64 d.2] false) := by rw [g.2 _ (Hp.get_lt h0)]; exact h0
    have gp := Gr.push H (.cells [.int .i64 x.1, .int .i64 x.2.1, .int .i64 x.2.2] false)
    have g0 : (H.push (.cells [.int .i64 x.1, .int .i64 x.2.1, .int .i64 x.2.2] false)).get H.n = some (.cells [.int .i64 x.1, .int .i64 x.2.1, .int .i64 x.2.2] false) := Hp.get_push_new _ _
    have hc2 : (H.push (.cells [.int .i64 x.1, .int .i64 x.2.1, .int .i64 x.2.2] false)).get c = some (.cells [.int .i64 d.1, .int .i64 d.2] false) := by rw [gp.2 _ (Hp.get_lt hc)]; exact hc
    refine Ok.lt (Ok.ld (ldI_get g0 rfl) (Ok.ld (ldI_get hc2 rfl) (Ok.ld (ldI_get g0 rfl) (Ok.ld (ldI_get hc2 rfl) ?_))))
    unfold sideP at hx
    have b1 := mul_bd (A := 4) (B := 4) (x := x.1) (y := d.1) (by omega) (by omega) (by omega) (by omega)
    have b2 := mul_bd (A := 4) (B := 4) (x := x.2.1) (y := d.2) (by omega) (by omega) (by omega) (by omega)
    rw [w64_id (n := x.1 * d.1) (by omega) (by omega), w64_id (n := x.2.1 * d.2) (by omega) (by omega), w64_id (by omega) (by omega)]
    exact Ok.ret ⟨gp, rfl⟩
  obtain ⟨r, H', e, g2, rfl⟩ := h1
  rw [e]
  exact Ok.ret ⟨g2, rfl⟩
end Go.Lt.P2
