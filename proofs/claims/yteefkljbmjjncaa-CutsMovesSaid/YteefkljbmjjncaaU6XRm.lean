/- PLAIN LAWS OF WHAT IS COMPUTED, for the statement 'CutsMoves'. Nothing is asked of the input. -/
import Derived.Test.YteefkljbmjjncaaG6A
import Derived.Test.YteefkljbmjjncaaLB
set_option linter.unusedVariables false
set_option linter.unusedSimpArgs false
namespace Go.Lt.P2
open Go Go.Lt Go.Proofs
abbrev Pr := Int × Int
abbrev Sd := Int × Int × Int
theorem mul_bd {x y A B : Int} (h1 : -A ≤ x) (h2 : x ≤ A) (h3 : -B ≤ y) (h4 : y ≤ B) : -(A * B) ≤ x * y ∧ x * y ≤ A * B := by
  have p1 : 0 ≤ (A - x) * (B - y) := Int.mul_nonneg (by omega) (by omega)
  have p2 : 0 ≤ (A + x) * (B + y) := Int.mul_nonneg (by omega) (by omega)
  have p3 : 0 ≤ (A - x) * (B + y) := Int.mul_nonneg (by omega) (by omega)
  have p4 : 0 ≤ (A + x) * (B - y) := Int.mul_nonneg (by omega) (by omega)
  constructor <;> grind
theorem gcd_step (a b : Nat) : Nat.gcd b (a % b) = Nat.gcd a b := by
  rw [Nat.gcd_comm a b, Nat.gcd_rec b a, Nat.gcd_comm]
theorem w64_abs {a : Int} (ha : a.natAbs < 9223372036854775808) : (if a < w64 (0 - a) then w64 (0 - a) else a) = (a.natAbs : Int) := by
  rw [w64_id (by omega) (by omega)]
  split <;> omega
/-- a side -/
def sideP (s : Sd) : Prop := (-4 ≤ s.1 ∧ s.1 ≤ 4) ∧ (-4 ≤ s.2.1 ∧ s.2.1 ≤ 4) ∧ ¬ (s.1 = 0 ∧ s.2.1 = 0) ∧ (-40 ≤ s.2.2 ∧ s.2.2 ≤ 40)
instance (s : Sd) : Decidable (sideP s) := by unfold sideP; infer_instance
theorem sts3 (H : Hp) (x y z a b c : AV) : ∃ D, (H.push (.cells [a, b, c] false)).sts H.n 0 [x, y, z] = some D ∧ D.get H.n = some (.cells [x, y, z] false) ∧ Gr H D ∧ D.n = H.n + 1 := by
  obtain ⟨D, h1, h2, h3, h4⟩ := sts_blk [x, y, z] 0 (H.push (.cells [a, b, c] false)) [a, b, c] (Hp.get_push_new _ _) (by simp)
  refine ⟨D, h1, h2, ⟨by rw [h3]; simp, fun q hq => ?_⟩, by rw [h3]; simp⟩
  rw [h4 q (by omega), Hp.get_push_old _ _ hq]
end Go.Lt.P2

namespace Go.Lt.P2
open Go Go.Lt Go.Proofs
/-- Of -/
theorem r18_ok {H : Hp} {v : Sl} {l : List Sd} (hv : SL H v l) (hb : l.length < 9223372036854775808) : Ok (r18 v H) fun w H' => Gr H H' ∧ SL H' w (l.take 9) := by
  unfold r18
  have hlen := hv.len
  rw [hlen]
  refine Ok.loop (L := fun K (s : Sl × Int) H2 => r18_l0 K s.1 v l.length s.2 H2) (fun m s H' => Gr H H' ∧ ∃ i : Nat, s.2 = i ∧ i + m = l.length ∧ AccL H.n H' s.1 ((l.take i).take 9)) ?_ FUEL l.length (⟨true, 0, 0, 0, 0, 0⟩, 0) H (by unfold FUEL; omega) ⟨.refl _, 0, rfl, by omega, by simpa using AccL.nilS⟩
  rintro K m ⟨w, s⟩ H1 ⟨g1, i, rfl, hm, ha⟩ ih
  try dsimp only at *
  rw [r18_l0]
  by_cases h : i < l.length
  · have hg := hv.gr g1
    obtain ⟨E, hE, hE', gE, nE⟩ := sts3 H1 (.int .i64 l[i].1) (.int .i64 l[i].2.1) (.int .i64 l[i].2.2) (.int .i64 0) (.int .i64 0) (.int .i64 0)
    have gB := g1.trans gE
    refine Ok.pos (by omega) (Ok.ck (by omega) (Ok.ld (hg.ldI (i := i) (j := 0) h rfl) (Ok.ld (hg.ldI (i := i) (j := 1) h rfl) (Ok.ld (hg.ldI (i := i) (j := 2) h rfl) (Ok.ld hE ?_)))))
    refine Ok.ite (fun c => Ok.ld (ldI_get hE' rfl) (Ok.ld (ldI_get hE' rfl) (Ok.ld (ldI_get hE' rfl) ?_))) fun c => ?_
    · have ha' := ha.gr gE
      rw [List.take_of_length_le (by rw [List.length_take]; omega)] at ha'
      refine Ok.bind (ha'.push gB l[i] rfl rfl (by rw [List.length_take]; omega)) fun w2 H3 ⟨ha3, g3, _⟩ => ?_
      rw [w64_succ (by omega)]
      refine ih (m - 1) (w2, _) H3 (by omega) ⟨g3, i + 1, rfl, by omega, ?_⟩
      rw [List.take_succ_eq_append_getElem h, List.take_of_length_le (by simp; omega)]
      exact ha3
    · rw [w64_succ (by omega)]
      refine ih (m - 1) (w, _) E (by omega) ⟨gB, i + 1, rfl, by omega, ?_⟩
      rw [List.take_take, Nat.min_eq_left (by omega)] at ha ⊢
      exact ha.gr gE
  · have hi : i = l.length := by omega
    subst hi
    rw [List.take_length] at ha
    exact Ok.neg (by omega) (Ok.ret ⟨g1, ha.sl⟩)
end Go.Lt.P2

namespace Go.Lt.P2
open Go Go.Lt Go.Proofs
theorem awakeH0 : ((r21 (app 20) H0).map (·.1)) = some true := by decide +kernel
/-- awake is known -/
noncomputable def appA (k : Nat) : App := ⟨fun f xs H => match f, xs with
  | 21, [] => some (.bool true, H)
  | f, xs => app k f xs H, (app k).yld⟩
theorem appASim (k : Nat) : AppSim Try.prog (appA k) := by
  refine ⟨fun f xs H v H1 h => ?_, (appSim k).2⟩
  unfold appA at h
  simp only at h
  split at h
  · injection h with h
    injection h with h1 h2
    subst h1; subst h2
    obtain ⟨p, hp, he⟩ := Option.map_eq_some_iff.1 awakeH0
    have := sim21 (happ := appSim 20) hp
    rw [he] at this
    exact ⟨ok21, this.own rfl rfl H⟩
  · exact (appSim k).1 _ _ _ _ _ h
end Go.Lt.P2

namespace Go.Lt.P2
open Go Go.Lt Go.Proofs
/-- a side's direction leads out of the plate at both of its ends -/
def dirP (l : List Sd) (d : Pr) : Prop := ∃ t ∈ l, 0 < t.1 * d.1 + t.2.1 * d.2
instance (l : List Sd) (d : Pr) : Decidable (dirP l d) := by unfold dirP; infer_instance
def plateP (l : List Sd) : Prop := (3 ≤ l.length ∧ l.length ≤ 6) ∧ (∀ s ∈ l, sideP s) ∧ ∀ s ∈ l, dirP l (-s.2.1, s.1) ∧ dirP l (s.2.1, -s.1)
instance (l : List Sd) : Decidable (plateP l) := by unfold plateP; infer_instance
theorem forall_take {α : Type} {l : List α} {i : Nat} {P : α → Prop} (h : i < l.length) (h1 : ∀ x ∈ l.take i, P x) (h2 : P l[i]) : ∀ x ∈ l.take (i + 1), P x := by
  rw [List.take_succ_eq_append_getElem h]
  intro x hx
  rcases List.mem_append.1 hx with hx | hx
  · exact h1 x hx
  · rw [List.mem_singleton] at hx; subst hx; exact h2
/-- a function value that says something of each element, from a heap on -/
def Says {T : Type} [El T] (a : App) (fv : AV) (B : Hp) (arg : T → AV) (P : T → Prop) [DecidablePred P] (D : T → Prop) : Prop := ∀ H x, Gr B H → D x → Ok (callv a fv [arg x] H) fun r H' => Gr H H' ∧ r = .bool (decide (P x))
def argI (x : Int) : AV := .int .i64 x
def argP (x : Pr) : AV := .agg [.int .i64 x.1, .int .i64 x.2]
def argS (x : Sd) : AV := .agg [.int .i64 x.1, .int .i64 x.2.1, .int .i64 x.2.2]
section
variable {a : App} {fv : AV} {B : Hp}
theorem r105_ok {P : Int → Prop} [DecidablePred P] {D : Int → Prop} (hf : Says a fv B argI P D) {v : Sl} {l : List Int} (hv : SL B v l) (hb : l.length ≤ 1000000) (hD : ∀ x ∈ l, D x) : Ok (r105 a v fv B) fun r H' => Gr B H' ∧ r = decide (∃ x ∈ l, P x) := by
  unfold r105
  refine Ok.bind (P := fun r H' => Gr B H' ∧ (0 ≤ r ↔ ∃ x ∈ l, P x)) ?_ fun r H' h => Ok.ret ⟨h.1, decide_eq_decide.2 h.2⟩
  unfold r113
  have hlen := hv.len
  rw [hlen]
  refine Ok.loop (L := fun K (s : Int) H2 => r113_l0 a K v fv l.length s H2) (fun m s H' => Gr B H' ∧ ∃ i : Nat, s = i ∧ i + m = l.length ∧ ∀ x ∈ l.take i, ¬ P x) ?_ FUEL l.length 0 B (by unfold FUEL; omega) ⟨.refl _, 0, rfl, by omega, by simp⟩
  rintro K m s H1 ⟨g1, i, rfl, hm, ht⟩ ih
  try dsimp only at *
  rw [r113_l0]
  by_cases h : i < l.length
  · have hg := hv.gr g1
    refine Ok.pos (by omega) (Ok.ck (by omega) (Ok.ld (hg.ldI (i := i) (j := 0) h rfl) (Ok.bind (hf H1 l[i] g1 (hD _ (List.getElem_mem h))) fun r H2 ⟨g2, hr⟩ => ?_)))
    subst hr
    refine Ok.ld rfl (Ok.ite (fun c => Ok.ret ⟨g1.trans g2, ⟨fun _ => ⟨l[i], List.getElem_mem h, of_decide_eq_true c⟩, fun _ => by omega⟩⟩) fun c => ?_)
    rw [w64_succ (by omega)]
    exact ih (m - 1) _ H2 (by omega) ⟨g1.trans g2, i + 1, rfl, by omega, forall_take h ht (fun p => c (decide_eq_true p))⟩
  · rw [List.take_of_length_le (by omega)] at ht
    exact Ok.neg (by omega) (Ok.ret ⟨g1, ⟨fun q => by omega, fun ⟨x, hx, hp⟩ => absurd hp (ht x hx)⟩⟩)
theorem r92_ok {P : Sd → Prop} [DecidablePred P] {D : Sd → Prop} (hf : Says a fv B argS P D) {v : Sl} {l : List Sd} (hv : SL B v l) (hb : l.length ≤ 1000000) (hD : ∀ x ∈ l, D x) : Ok (r92 a v fv B) fun r H' => Gr B H' ∧ r = decide (∃ x ∈ l, P x) := by
  unfold r92
  refine Ok.bind (P := fun r H' => Gr B H' ∧ (0 ≤ r ↔ ∃ x ∈ l, P x)) ?_ fun r H' h => Ok.ret ⟨h.1, decide_eq_decide.2 h.2⟩
  unfold r111
  have hlen := hv.len
  rw [hlen]
  refine Ok.loop (L := fun K (s : Int) H2 => r111_l0 a K v fv l.length s H2) (fun m s H' => Gr B H' ∧ ∃ i : Nat, s = i ∧ i + m = l.length ∧ ∀ x ∈ l.take i, ¬ P x) ?_ FUEL l.length 0 B (by unfold FUEL; omega) ⟨.refl _, 0, rfl, by omega, by simp⟩
  rintro K m s H1 ⟨g1, i, rfl, hm, ht⟩ ih
  try dsimp only at *
  rw [r111_l0]
  by_cases h : i < l.length
  · have hg := hv.gr g1
    refine Ok.pos (by omega) (Ok.ck (by omega) (Ok.ld (hg.ldI (i := i) (j := 0) h rfl) (Ok.ld (hg.ldI (i := i) (j := 1) h rfl) (Ok.ld (hg.ldI (i := i) (j := 2) h rfl) (Ok.bind (hf H1 l[i] g1 (hD _ (List.getElem_mem h))) fun r H2 ⟨g2, hr⟩ => ?_)))))
    subst hr
    refine Ok.ld rfl (Ok.ite (fun c => Ok.ret ⟨g1.trans g2, ⟨fun _ => ⟨l[i], List.getElem_mem h, of_decide_eq_true c⟩, fun _ => by omega⟩⟩) fun c => ?_)
    rw [w64_succ (by omega)]
    exact ih (m - 1) _ H2 (by omega) ⟨g1.trans g2, i + 1, rfl, by omega, forall_take h ht (fun p => c (decide_eq_true p))⟩
  · rw [List.take_of_length_le (by omega)] at ht
    exact Ok.neg (by omega) (Ok.ret ⟨g1, ⟨fun q => by omega, fun ⟨x, hx, hp⟩ => absurd hp (ht x hx)⟩⟩)
end
/-- within -/
theorem r79_ok {k : Nat} {c : Int} (hc : 0 ≤ c ∧ c ≤ 1000) {B : Hp} {v : Sl} {l : List Int} (hv : SL B v l) (hb : l.length ≤ 1000000) : Ok (r79 (appA (k + 1)) c v B) fun r H' => Gr B H' ∧ r = !decide (∃ x ∈ l, x < -c ∨ c < x) := by
  unfold r79
  have gp := Gr.push B (.cells [.int .i64 c] false)
  have g0 : (B.push (.cells [.int .i64 c] false)).get B.n = some (.cells [.int .i64 c] false) := Hp.get_push_new _ _
  generalize B.push (.cells [.int .i64 c] false) = A at *
  refine Ok.lt ?_
  have hsay : Says (appA (k + 1)) (.fn 106 [] [.ptr B.n 0]) A argI (fun x => x < -c ∨ c < x) fun _ => True := fun H x g _ => by
    show Ok ((r106 x B.n H).map fun p => (AV.bool p.1, p.2)) _
    have h0 : H.get B.n = some (.cells [.int .i64 c] false) := by rw [g.2 _ (Hp.get_lt g0)]; exact g0
    have h1 : Ok (r106 x B.n H) fun r H' => H' = H ∧ r = decide (x < -c ∨ c < x) := by
      unfold r106
      refine Ok.ld (ldI_get h0 rfl) ?_
      rw [w64_id (by omega) (by omega)]
      refine Ok.ite (fun q => Ok.ret ⟨rfl, by symm; rw [decide_eq_true_iff]; omega⟩) fun q => Ok.ld (ldI_get h0 rfl) (Ok.ret ⟨rfl, decide_eq_decide.2 (by omega)⟩)
    obtain ⟨r, H', e, rfl, rfl⟩ := h1
    rw [e]
    exact Ok.ret ⟨.refl _, rfl⟩
  exact Ok.bind (r105_ok hsay (hv.gr gp) hb fun _ _ => trivial) fun r H' ⟨g, hr⟩ => Ok.ret ⟨gp.trans g, by rw [hr]⟩
theorem says93 (k : Nat) {B : Hp} {c : Nat} {d : Pr} (h0 : B.get c = some (.cells [.int .i64 d.1, .int .i64 d.2] false)) (hd : (-4 ≤ d.1 ∧ d.1 ≤ 4) ∧ -4 ≤ d.2 ∧ d.2 ≤ 4) : Says (appA (k + 1)) (.fn 93 [] [.ptr c 0]) B argS (fun t => 0 < t.1 * d.1 + t.2.1 * d.2) sideP := fun H x g hx => by
  show Ok ((r93 x.1 x.2.1 x.2.2 c H).map fun p => (AV.bool p.1, p.2)) _
  have h1 : Ok (r93 x.1 x.2.1 x.2.2 c H) fun r H' => Gr H H' ∧ r = decide (0 < x.1 * d.1 + x.2.1 * d.2) := by
    unfold r93
    have hc : H.get c = some (.cells [.int .i64 d.1, .int .i64 d.2] false) := by rw [g.2 _ (Hp.get_lt h0)]; exact h0
    have gp := Gr.push H (.cells [.int .i64 x.1, .int .i64 x.2.1, .int .i64 x.2.2] false)
    have g0 : (H.push (.cells [.int .i64 x.1, .int .i64 x.2.1, .int .i64 x.2.2] false)).get H.n = some (.cells [.int .i64 x.1, .int .i64 x.2.1, .int .i64 x.2.2] false) := Hp.get_push_new _ _
    have hc2 : (H.push (.cells [.int .i64 x.1, .int .i64 x.2.1, .int .i64 x.2.2] false)).get c = some (.cells [.int .i64 d.1, .int .i64 d.2] false) := by rw [gp.2 _ (Hp.get_lt hc)]; exact hc
    refine Ok.lt (Ok.ld (ldI_get g0 rfl) (Ok.ld (ldI_get hc2 rfl) (Ok.ld (ldI_get g0 rfl) (Ok.ld (ldI_get hc2 rfl) ?_))))
    unfold sideP at hx
    have b1 := mul_bd (A := 4) (B := 4) (x := x.1) (y := d.1) (by omega) (by omega) (by omega) (by omega)
    have b2 := mul_bd (A := 4) (B := 4) (x := x.2.1) (y := d.2) (by omega) (by omega) (by omega) (by omega)
    rw [w64_id (n := x.1 * d.1) (by omega) (by omega), w64_id (n := x.2.1 * d.2) (by omega) (by omega), w64_id (by omega) (by omega)]
    exact Ok.ret ⟨gp, rfl⟩
  obtain ⟨r, H', e, g2, rfl⟩ := h1
  rw [e]
  exact Ok.ret ⟨g2, rfl⟩
end Go.Lt.P2

namespace Go.Lt.P2
open Go Go.Lt Go.Proofs
def onP (l : List Sd) (s : Sd) (g : Int) : Prop := ∀ t ∈ l, g * (t.2.1 * s.1 - t.1 * s.2.1) ≤ 0
instance (l : List Sd) (s : Sd) (g : Int) : Decidable (onP l s g) := by unfold onP; infer_instance
theorem onP_one {l : List Sd} {s : Sd} : ¬ onP l s 1 ↔ dirP l (-s.2.1, s.1) := by
  unfold onP dirP
  simp only [Classical.not_forall]
  constructor
  · rintro ⟨t, ht, h⟩
    refine ⟨t, ht, ?_⟩
    try dsimp only
    rw [Int.mul_neg]
    omega
  · rintro ⟨t, ht, h⟩
    refine ⟨t, ht, ?_⟩
    try dsimp only at h
    rw [Int.mul_neg] at h
    omega
theorem onP_neg {l : List Sd} {s : Sd} : ¬ onP l s (-1) ↔ dirP l (s.2.1, -s.1) := by
  unfold onP dirP
  simp only [Classical.not_forall]
  constructor
  · rintro ⟨t, ht, h⟩
    refine ⟨t, ht, ?_⟩
    try dsimp only
    rw [Int.mul_neg]
    omega
  · rintro ⟨t, ht, h⟩
    refine ⟨t, ht, ?_⟩
    try dsimp only at h
    rw [Int.mul_neg] at h
    omega
section
variable {Q : Bool → Hp → Prop}
theorem r19_l5_ok {H : Hp} {v vv : Sl} {l : List Sd} {sb : Nat} {s : Sd} {g ln iv : Int} (hv : SL H v l) (hb : l.length ≤ 6) (hs : ∀ s ∈ l, sideP s) (hss : sideP s) (hg : g = 1 ∨ g = -1) (hsb : H.get sb = some (.cells [.int .i64 s.1, .int .i64 s.2.1, .int .i64 s.2.2] false))
    {kt4 : Sl → Nat → Int → Sl → Int → Int → Hp → Option (Bool × Hp)} (kf : ∀ H', Gr H H' → onP l s g → Q false H') (k : ∀ H', Gr H H' → ¬ onP l s g → Ok (kt4 v sb (w64 (g + 2)) vv ln iv H') Q) : Ok (r19_l5 kt4 FUEL v sb g true vv ln iv v l.length 0 H) Q := by
  have hlen := hv.len
  refine Ok.loop (L := fun K (t : Bool × Int) H2 => r19_l5 kt4 K v sb g t.1 vv ln iv v l.length t.2 H2) (fun m t H' => ∃ i : Nat, t.2 = i ∧ i + m = l.length ∧ Gr H H' ∧ t.1 = decide (onP (l.take i) s g)) ?_ FUEL l.length (true, 0) H (by unfold FUEL; omega) ⟨0, rfl, by omega, .refl _, by simp [onP]⟩
  rintro K m ⟨b, t⟩ H1 ⟨i, rfl, hm, g1, hbb⟩ ih
  try dsimp only at *
  subst hbb
  rw [r19_l5]
  by_cases h : i < l.length
  · have hgl := hv.gr g1
    have hx := hs _ (List.getElem_mem h)
    obtain ⟨E, hE, hE', gE, nE⟩ := sts3 H1 (.int .i64 l[i].1) (.int .i64 l[i].2.1) (.int .i64 l[i].2.2) (.int .i64 0) (.int .i64 0) (.int .i64 0)
    have gB := g1.trans gE
    have hsE : E.get sb = some (.cells [.int .i64 s.1, .int .i64 s.2.1, .int .i64 s.2.2] false) := by rw [gB.2 _ (Hp.get_lt hsb)]; exact hsb
    have ek : onP (l.take (i + 1)) s g ↔ onP (l.take i) s g ∧ g * (l[i].2.1 * s.1 - l[i].1 * s.2.1) ≤ 0 := by
      unfold onP
      constructor
      · intro q
        rw [List.take_succ_eq_append_getElem h] at q
        exact ⟨fun t ht => q t (List.mem_append_left _ ht), q _ (List.mem_append_right _ (List.mem_singleton.2 rfl))⟩
      · rintro ⟨q1, q2⟩
        exact forall_take h q1 q2
    refine Ok.pos (by omega) (Ok.ck (by omega) (Ok.ld (hgl.ldI (i := i) (j := 0) h rfl) (Ok.ld (hgl.ldI (i := i) (j := 1) h rfl) (Ok.ld (hgl.ldI (i := i) (j := 2) h rfl) (Ok.ld hE ?_)))))
    by_cases c : onP (l.take i) s g
    · rw [decide_eq_true c]
      refine Ok.pos rfl (Ok.ld (ldI_get hE' rfl) (Ok.ld (ldI_get hsE rfl) (Ok.ld (ldI_get hE' rfl) (Ok.ld (ldI_get hsE rfl) ?_))))
      unfold sideP at hss hx
      have b1 := mul_bd (A := 4) (B := 4) (x := l[i].2.1) (y := s.1) (by omega) (by omega) (by omega) (by omega)
      have b2 := mul_bd (A := 4) (B := 4) (x := l[i].1) (y := s.2.1) (by omega) (by omega) (by omega) (by omega)
      rw [w64_id (n := l[i].2.1 * s.1) (by omega) (by omega), w64_id (n := l[i].1 * s.2.1) (by omega) (by omega), w64_id (n := l[i].2.1 * s.1 - l[i].1 * s.2.1) (by omega) (by omega), w64_id (n := g * (l[i].2.1 * s.1 - l[i].1 * s.2.1)) (by rcases hg with rfl | rfl <;> omega) (by rcases hg with rfl | rfl <;> omega), w64_succ (by omega)]
      exact ih (m - 1) (_, _) E (by omega) ⟨i + 1, rfl, by omega, gB, decide_eq_decide.2 (by rw [ek]; exact ⟨fun q => ⟨c, q⟩, fun q => q.2⟩)⟩
    · rw [decide_eq_false c]
      refine Ok.neg (by simp) ?_
      rw [w64_succ (by omega)]
      exact ih (m - 1) (_, _) E (by omega) ⟨i + 1, rfl, by omega, gB, (decide_eq_false (fun q => c (ek.1 q).1)).symm⟩
  · rw [List.take_of_length_le (by omega)]
    refine Ok.neg (by omega) ?_
    by_cases c : onP l s g
    · rw [decide_eq_true c]; exact Ok.pos rfl (Ok.ret (kf H1 g1 c))
    · rw [decide_eq_false c]; exact Ok.neg (by simp) (k H1 g1 c)
end
/-- the directions -/
theorem r19_l3_ok {H0' H : Hp} {v : Sl} {l : List Sd} (hv : SL H v l) (hb : l.length ≤ 6) (hs : ∀ s ∈ l, sideP s) (g : Gr H0' H) : Ok (r19_l3 FUEL v v l.length 0 H) fun r H' => Gr H0' H' ∧ r = decide (∀ s ∈ l, dirP l (-s.2.1, s.1) ∧ dirP l (s.2.1, -s.1)) := by
  have hlen := hv.len
  refine Ok.loop (L := fun K (s : Int) H2 => r19_l3 K v v l.length s H2) (fun m s H' => Gr H H' ∧ ∃ i : Nat, s = i ∧ i + m = l.length ∧ ∀ s ∈ l.take i, dirP l (-s.2.1, s.1) ∧ dirP l (s.2.1, -s.1)) ?_ FUEL l.length 0 H (by unfold FUEL; omega) ⟨.refl _, 0, rfl, by omega, by simp⟩
  rintro K m s H1 ⟨g1, i, rfl, hm, ht⟩ ih
  try dsimp only at *
  rw [r19_l3]
  by_cases h : i < l.length
  · have hg := hv.gr g1
    have hmem : l[i] ∈ l := List.getElem_mem h
    have hsd := hs _ hmem
    obtain ⟨E, hE, hE', gE, nE⟩ := sts3 H1 (.int .i64 l[i].1) (.int .i64 l[i].2.1) (.int .i64 l[i].2.2) (.int .i64 0) (.int .i64 0) (.int .i64 0)
    refine Ok.pos (by omega) (Ok.ck (by omega) (Ok.ld (hg.ldI (i := i) (j := 0) h rfl) (Ok.ld (hg.ldI (i := i) (j := 1) h rfl) (Ok.ld (hg.ldI (i := i) (j := 2) h rfl) (Ok.ld hE ?_)))))
    have gB := g1.trans gE
    have bad : ∀ H', Gr E H' → ¬ (dirP l (-l[i].2.1, l[i].1) ∧ dirP l (l[i].2.1, -l[i].1)) → Gr H0' H' ∧ false = decide (∀ s ∈ l, dirP l (-s.2.1, s.1) ∧ dirP l (s.2.1, -s.1)) := fun H' gH hno => ⟨g.trans (gB.trans gH), by rw [decide_eq_false (fun q => hno (q _ hmem))]⟩
    rw [show FUEL = 18446744073709551613 + 1 + 1 + 1 from rfl, r19_l4]
    refine Ok.pos (by decide) ?_
    rw [hlen]
    refine r19_l5_ok (hv.gr gB) hb hs hsd (.inr rfl) hE' (fun H' gH hon => bad H' gH fun q => (onP_neg.2 q.2) hon) fun H2 g2 hn1 => ?_
    rw [show w64 (-1 + 2) = 1 by decide +kernel, r19_l4]
    refine Ok.pos (by decide) ?_
    rw [hlen]
    refine r19_l5_ok (hv.gr (gB.trans g2)) hb hs hsd (.inl rfl) (by rw [g2.2 _ (Hp.get_lt hE')]; exact hE') (fun H' gH hon => bad H' (g2.trans gH) fun q => (onP_one.2 q.1) hon) fun H3 g3 hn2 => ?_
    rw [show w64 (1 + 2) = 3 by decide +kernel, r19_l4]
    refine Ok.neg (by decide) ?_
    rw [w64_succ (by omega)]
    exact ih (m - 1) _ H3 (by omega) ⟨gB.trans (g2.trans g3), i + 1, rfl, by omega, forall_take h ht ⟨onP_one.1 hn2, onP_neg.1 hn1⟩⟩
  · rw [List.take_of_length_le (by omega)] at ht
    exact Ok.neg (by omega) (Ok.ret ⟨g.trans g1, by rw [decide_eq_true ht]⟩)
/-- Plate of the reference -/
theorem r19_ok {H : Hp} {v : Sl} {l : List Sd} (hv : SL H v l) : Ok (r19 v H) fun r H' => Gr H H' ∧ r = decide (plateP l) := by
  unfold r19
  have hlen := hv.len
  by_cases h3 : l.length < 3
  · refine Ok.pos (by omega) ?_
    unfold r19_j0
    exact Ok.pos rfl (Ok.ret ⟨.refl _, by rw [decide_eq_false (fun h => by have := h.1.1; omega)]⟩)
  · refine Ok.neg (by omega) ?_
    unfold r19_j0
    by_cases h6 : 6 < l.length
    · exact Ok.pos (by rw [decide_eq_true_iff]; omega) (Ok.ret ⟨.refl _, by rw [decide_eq_false (fun h => by have := h.1.2; omega)]⟩)
    · refine Ok.neg (by rw [decide_eq_true_iff]; omega) ?_
      rw [hlen]
      refine Ok.loop (L := fun K (s : Int) H2 => r19_l1 K v v l.length s H2) (fun m s H' => Gr H H' ∧ ∃ i : Nat, s = i ∧ i + m = l.length ∧ ∀ s ∈ l.take i, sideP s) ?_ FUEL l.length 0 H (by unfold FUEL; omega) ⟨.refl _, 0, rfl, by omega, by simp⟩
      rintro K m s H1 ⟨g1, i, rfl, hm, ht⟩ ih
      try dsimp only at *
      rw [r19_l1]
      by_cases h : i < l.length
      · have hg := hv.gr g1
        have hmem : l[i] ∈ l := List.getElem_mem h
        obtain ⟨E, hE, hE', gE, nE⟩ := sts3 H1 (.int .i64 l[i].1) (.int .i64 l[i].2.1) (.int .i64 l[i].2.2) (.int .i64 0) (.int .i64 0) (.int .i64 0)
        have gB := g1.trans gE
        have j2 : ∀ b, b = !decide (sideP l[i]) → Ok (r19_j2 (fun v1_ v2_ v3_ v4_ H_ => r19_l1 K v1_ v2_ v3_ v4_ H_) v v l.length i b E) fun r H' => Gr H H' ∧ r = decide (plateP l) := fun b hbb => by
          subst hbb
          unfold r19_j2
          by_cases c : sideP l[i]
          · rw [decide_eq_true c]
            refine Ok.neg (by simp) ?_
            rw [w64_succ (by omega)]
            exact ih (m - 1) _ E (by omega) ⟨gB, i + 1, rfl, by omega, forall_take h ht c⟩
          · rw [decide_eq_false c]
            exact Ok.pos rfl (Ok.ret ⟨gB, by rw [decide_eq_false (fun q => c (q.2.1 _ hmem))]⟩)
        have no : ¬ sideP l[i] → true = !decide (sideP l[i]) := fun q => by rw [decide_eq_false q]; rfl
        refine Ok.pos (by omega) (Ok.ck (by omega) (Ok.ld (hg.ldI (i := i) (j := 0) h rfl) (Ok.ld (hg.ldI (i := i) (j := 1) h rfl) (Ok.ld (hg.ldI (i := i) (j := 2) h rfl) (Ok.ld hE (Ok.ld (ldI_get hE' rfl) ?_))))))
        refine Ok.ite (fun c => j2 _ (no fun q => by unfold sideP at q; omega)) fun c1 => Ok.ld (ldI_get hE' rfl) ?_
        refine Ok.ite (fun c => j2 _ (no fun q => by unfold sideP at q; omega)) fun c2 => Ok.ld (ldI_get hE' rfl) ?_
        refine Ok.ite (fun c => j2 _ (no fun q => by unfold sideP at q; omega)) fun c3 => Ok.ld (ldI_get hE' rfl) ?_
        refine Ok.ite (fun c => j2 _ (no fun q => by unfold sideP at q; omega)) fun c4 => Ok.ld (ldI_get hE' rfl) ?_
        have last : ¬ (l[i].1 = 0 ∧ l[i].2.1 = 0) → Ok (if l[i].2.2 < -40 then r19_j2 (fun v1_ v2_ v3_ v4_ H_ => r19_l1 K v1_ v2_ v3_ v4_ H_) v v l.length i true E else (E.ldI .i64 H1.n (0 + 2)).bind fun x => r19_j2 (fun v1_ v2_ v3_ v4_ H_ => r19_l1 K v1_ v2_ v3_ v4_ H_) v v l.length i (decide (40 < x)) E) fun r H' => Gr H H' ∧ r = decide (plateP l) := fun hne => by
          refine Ok.ite (fun c => j2 _ (no fun q => by unfold sideP at q; omega)) fun c5 => Ok.ld (ldI_get hE' rfl) (j2 _ ?_)
          refine Bool.eq_iff_iff.2 ?_
          rw [Bool.not_eq_true', decide_eq_false_iff_not, decide_eq_true_iff]
          unfold sideP
          constructor
          · intro q w; omega
          · intro q
            by_cases w : 40 < l[i].2.2
            · exact w
            · exact absurd ⟨⟨by omega, by omega⟩, ⟨by omega, by omega⟩, hne, by omega, by omega⟩ q
        refine Ok.ite (fun c0 => Ok.ld (ldI_get hE' rfl) (Ok.ite (fun c5 => j2 _ (no fun q => q.2.2.1 ⟨c0, c5⟩)) fun c5 => Ok.ld (ldI_get hE' rfl) (last fun q => c5 q.2))) fun c0 => Ok.ld (ldI_get hE' rfl) (last fun q => c0 q.1)
      · rw [List.take_of_length_le (by omega)] at ht
        refine Ok.neg (by omega) ?_
        rw [hlen]
        refine (r19_l3_ok (hv.gr g1) (by omega) ht g1).mono fun r H' hh => ⟨hh.1, ?_⟩
        rw [hh.2]
        exact decide_eq_decide.2 ⟨fun q => ⟨⟨by omega, by omega⟩, ht, q⟩, fun q => q.2.2⟩
end Go.Lt.P2

namespace Go.Lt.P2
open Go Go.Lt Go.Proofs
/-- own -/
theorem r36_ok {H : Hp} {v : Sl} {l : List Sd} (hv : SL H v l) (hb : l.length ≤ 1000) : Ok (r36 v H) fun w H' => Gr H H' ∧ SL H' w l := by
  unfold r36
  have hlen := hv.len
  rw [hlen]
  refine Ok.loop (L := fun K (s : Sl × Int) H2 => r36_l0 K s.1 v l.length s.2 H2) (fun m s H' => Gr H H' ∧ ∃ i : Nat, s.2 = i ∧ i + m = l.length ∧ AccL H.n H' s.1 (l.take i)) ?_ FUEL l.length (⟨true, 0, 0, 0, 0, 0⟩, 0) H (by unfold FUEL; omega) ⟨.refl _, 0, rfl, by omega, by simpa using AccL.nilS⟩
  rintro K m ⟨w, s⟩ H1 ⟨g1, i, rfl, hm, ha⟩ ih
  try dsimp only at *
  rw [r36_l0]
  by_cases h : i < l.length
  · have hg := hv.gr g1
    obtain ⟨E, hE, hE', gE, nE⟩ := sts3 H1 (.int .i64 l[i].1) (.int .i64 l[i].2.1) (.int .i64 l[i].2.2) (.int .i64 0) (.int .i64 0) (.int .i64 0)
    have gB := g1.trans gE
    refine Ok.pos (by omega) (Ok.ck (by omega) (Ok.ld (hg.ldI (i := i) (j := 0) h rfl) (Ok.ld (hg.ldI (i := i) (j := 1) h rfl) (Ok.ld (hg.ldI (i := i) (j := 2) h rfl) (Ok.ld hE (Ok.ld (ldI_get hE' rfl) (Ok.ld (ldI_get hE' rfl) (Ok.ld (ldI_get hE' rfl) ?_))))))))
    refine Ok.bind ((ha.gr gE).push gB l[i] rfl rfl (by rw [List.length_take]; omega)) fun w2 H3 ⟨ha3, g3, _⟩ => ?_
    rw [w64_succ (by omega)]
    refine ih (m - 1) (w2, _) H3 (by omega) ⟨g3, i + 1, rfl, by omega, ?_⟩
    rw [List.take_succ_eq_append_getElem h]
    exact ha3
  · rw [List.take_of_length_le (by omega)] at ha
    exact Ok.neg (by omega) (Ok.ret ⟨g1, ha.sl⟩)
end Go.Lt.P2

namespace Go.Lt.P2
open Go Go.Lt Go.Proofs
theorem beq3 (x y : Sd) : ((x.1 == y.1) && ((x.2.1 == y.2.1) && (x.2.2 == y.2.2))) = decide (x = y) := by
  refine Bool.eq_iff_iff.2 ?_
  simp only [Bool.and_eq_true, beq_iff_eq, decide_eq_true_iff]
  exact ⟨fun h => Prod.ext h.1 (Prod.ext h.2.1 h.2.2), fun h => by rw [h]; exact ⟨rfl, rfl, rfl⟩⟩
/-- Equal -/
theorem r35_ok {l l' : List Sd} {H : Hp} {v w : Sl} (hv : SL H v l) (hw : SL H w l') (hb : l.length ≤ 1000000) : Ok (r35 v w H) fun b H' => H' = H ∧ b = decide (l = l') := by
  unfold r35
  have h1 := hv.len
  have h2 := hw.len
  by_cases hl : l.length = l'.length
  · refine Ok.neg (by omega) ?_
    rw [h1]
    refine Ok.loop (L := fun K (s : Int) H2 => r35_l0 K v w l.length s H2) (fun m s H' => H' = H ∧ ∃ i : Nat, s = i ∧ i + m = l.length ∧ l.take i = l'.take i) ?_ FUEL l.length 0 H (by unfold FUEL; omega) ⟨rfl, 0, rfl, by omega, rfl⟩
    rintro K m s H1 ⟨rfl, i, rfl, hm, ht⟩ ih
    try dsimp only at *
    rw [r35_l0]
    by_cases h : i < l.length
    · refine Ok.pos (by omega) (Ok.ck (by omega) (Ok.ld (hv.ldI (i := i) (j := 0) h rfl) (Ok.ld (hv.ldI (i := i) (j := 1) h rfl) (Ok.ld (hv.ldI (i := i) (j := 2) h rfl) (Ok.ck (by omega) (Ok.ld (hw.ldI (i := i) (j := 0) (by omega) rfl) (Ok.ld (hw.ldI (i := i) (j := 1) (by omega) rfl) (Ok.ld (hw.ldI (i := i) (j := 2) (by omega) rfl) ?_))))))))
      rw [beq3]
      refine Ok.ite (fun hc => ?_) fun hc => Ok.ret ⟨rfl, ?_⟩
      · rw [w64_succ (by omega)]
        refine ih (m - 1) _ _ (by omega) ⟨rfl, i + 1, rfl, by omega, ?_⟩
        rw [List.take_succ_eq_append_getElem h, List.take_succ_eq_append_getElem (by omega), ht]
        congr 2
        exact of_decide_eq_true hc
      · symm
        rw [decide_eq_false_iff_not]
        rintro rfl
        exact hc (by simp)
    · refine Ok.neg (by omega) (Ok.ret ⟨rfl, ?_⟩)
      symm
      rw [decide_eq_true_iff]
      rw [List.take_of_length_le (by omega), List.take_of_length_le (by omega)] at ht
      exact ht
  · refine Ok.pos (by omega) (Ok.ret ⟨rfl, ?_⟩)
    symm
    rw [decide_eq_false_iff_not]
    rintro rfl
    exact hl rfl
end Go.Lt.P2

namespace Go.Lt.P2
open Go Go.Lt Go.Proofs
theorem plate_take {p : List Sd} : plateP (p.take 9) ↔ plateP p := by
  by_cases h : p.length ≤ 9
  · rw [List.take_of_length_le h]
  · constructor
    · intro c; have b := c.1.2; rw [List.length_take] at b; omega
    · intro c; have b := c.1.2; omega
theorem plate_eq {p : List Sd} (h : plateP p) : p.take 9 = p := List.take_of_length_le (by have := h.1.2; omega)
theorem awk (k : Nat) (H : Hp) : appA k 21 [] H = some (.bool true, H) := rfl
end Go.Lt.P2

namespace Go.Lt.P2
open Go Go.Lt Go.Proofs
def inB (s : Sd) : Prop := (-4 ≤ s.1 ∧ s.1 ≤ 4) ∧ (-4 ≤ s.2.1 ∧ s.2.1 ≤ 4) ∧ (-40 ≤ s.2.2 ∧ s.2.2 ≤ 40)
instance (s : Sd) : Decidable (inB s) := by unfold inB; infer_instance
theorem tail63 {k c : Nat} {s : Sd} {E : Hp} {Q : Bool → Hp → Prop} {F : Bool → Hp → Option (Bool × Hp)} (hc : E.get c = some (.cells [.int .i64 s.1, .int .i64 s.2.1, .int .i64 s.2.2] false)) (kF : ∀ H' b, Gr E H' → b = !decide (inB s) → Ok (F b H') Q) :
    Ok ((r79 (appA (k + 1)) 4 ⟨false, E.n, 0, 2, 2, 0⟩ (E.push (.cells [.int .i64 s.1, .int .i64 s.2.1] false))).bind fun p => if p.1 = true then ((p.2.ldI .i64 c (0 + 2)).bind fun x => (r79 (appA (k + 1)) 40 ⟨false, p.2.n, 0, 1, 1, 0⟩ (p.2.push (.cells [.int .i64 x] false))).bind fun q => F (!q.1) q.2) else F true p.2) Q := by
  have gp := Gr.push E (.cells [.int .i64 s.1, .int .i64 s.2.1] false)
  have hs : SL (T := Int) (E.push (.cells [.int .i64 s.1, .int .i64 s.2.1] false)) ⟨false, E.n, 0, 2, 2, 0⟩ [s.1, s.2.1] := .of_get (ro := false) (Hp.get_push_new _ _) rfl rfl (Nat.le_refl _) (.inl rfl) rfl
  generalize E.push (.cells [.int .i64 s.1, .int .i64 s.2.1] false) = A at *
  refine Ok.bind (r79_ok (by omega) hs (by simp)) fun r B ⟨gB, hr⟩ => ?_
  subst hr
  by_cases h1 : ∃ x ∈ [s.1, s.2.1], x < -4 ∨ 4 < x
  · rw [decide_eq_true h1]
    refine Ok.neg (by simp) (kF _ _ (gp.trans gB) ?_)
    symm
    rw [decide_eq_false]
    · rfl
    · intro hb
      obtain ⟨x, hx, h2⟩ := h1
      unfold inB at hb
      simp only [List.mem_cons, List.not_mem_nil, or_false] at hx
      rcases hx with rfl | rfl <;> omega
  · rw [decide_eq_false h1]
    have g2 := gp.trans gB
    have hcB : B.get c = some (.cells [.int .i64 s.1, .int .i64 s.2.1, .int .i64 s.2.2] false) := by rw [g2.2 _ (Hp.get_lt hc)]; exact hc
    refine Ok.pos (by simp) (Ok.ld (ldI_get hcB rfl) ?_)
    have gq := Gr.push B (.cells [.int .i64 s.2.2] false)
    have hs2 : SL (T := Int) (B.push (.cells [.int .i64 s.2.2] false)) ⟨false, B.n, 0, 1, 1, 0⟩ [s.2.2] := .of_get (ro := false) (Hp.get_push_new _ _) rfl rfl (Nat.le_refl _) (.inl rfl) rfl
    refine Ok.bind (r79_ok (k := k) (c := 40) (by omega) hs2 (by simp)) fun r C ⟨gC, hr⟩ => ?_
    subst hr
    refine kF _ _ (g2.trans (gq.trans gC)) ?_
    congr 1
    refine Bool.eq_iff_iff.2 ?_
    rw [Bool.not_eq_true', decide_eq_false_iff_not, decide_eq_true_iff]
    unfold inB
    have q1 : ¬ (s.1 < -4 ∨ 4 < s.1) := fun q => h1 ⟨s.1, by simp, q⟩
    have q2 : ¬ (s.2.1 < -4 ∨ 4 < s.2.1) := fun q => h1 ⟨s.2.1, by simp, q⟩
    constructor
    · intro q
      have : ¬ (s.2.2 < -40 ∨ 40 < s.2.2) := fun w => q ⟨s.2.2, by simp, w⟩
      omega
    · rintro q ⟨x, hx, h2⟩
      rw [List.mem_singleton] at hx
      subst hx
      omega
theorem side_in {s : Sd} : sideP s ↔ ¬ (s.1 = 0 ∧ s.2.1 = 0) ∧ inB s := by
  unfold sideP inB
  constructor
  · intro h; exact ⟨h.2.2.1, h.1, h.2.1, h.2.2.2⟩
  · intro h; exact ⟨h.2.1, h.2.2.1, h.1, h.2.2.2⟩
/-- the directions -/
theorem r63_l3_ok {k : Nat} {H0' H : Hp} {v : Sl} {l : List Sd} (hv : SL H v l) (hb : l.length ≤ 6) (hs : ∀ s ∈ l, sideP s) (g : Gr H0' H) : Ok (r63_l3 (appA (k + 1)) FUEL v v l.length 0 H) fun r H' => Gr H0' H' ∧ r = decide (∀ s ∈ l, dirP l (-s.2.1, s.1) ∧ dirP l (s.2.1, -s.1)) := by
  have hlen := hv.len
  refine Ok.loop (L := fun K (s : Int) H2 => r63_l3 (appA (k + 1)) K v v l.length s H2) (fun m s H' => Gr H H' ∧ ∃ i : Nat, s = i ∧ i + m = l.length ∧ ∀ s ∈ l.take i, dirP l (-s.2.1, s.1) ∧ dirP l (s.2.1, -s.1)) ?_ FUEL l.length 0 H (by unfold FUEL; omega) ⟨.refl _, 0, rfl, by omega, by simp⟩
  rintro K m s H1 ⟨g1, i, rfl, hm, ht⟩ ih
  try dsimp only at *
  rw [r63_l3]
  by_cases h : i < l.length
  · have hg := hv.gr g1
    have hmem : l[i] ∈ l := List.getElem_mem h
    have hsd := hs _ hmem
    unfold sideP at hsd
    obtain ⟨E, hE, hE', gE, nE⟩ := sts3 H1 (.int .i64 l[i].1) (.int .i64 l[i].2.1) (.int .i64 l[i].2.2) (.int .i64 0) (.int .i64 0) (.int .i64 0)
    refine Ok.pos (by omega) (Ok.ck (by omega) (Ok.ld (hg.ldI (i := i) (j := 0) h rfl) (Ok.ld (hg.ldI (i := i) (j := 1) h rfl) (Ok.ld (hg.ldI (i := i) (j := 2) h rfl) (Ok.ld hE (Ok.ld (ldI_get hE' rfl) (Ok.ld (ldI_get hE' rfl) (Ok.ld (ldI_get hE' rfl) (Ok.ld (ldI_get hE' rfl) (Ok.lt ?_))))))))))
    have e1 : w64 (0 - l[i].2.1) = -l[i].2.1 := by rw [w64_id (by omega) (by omega)]; omega
    have e2 : w64 (0 - l[i].1) = -l[i].1 := by rw [w64_id (by omega) (by omega)]; omega
    rw [e1, e2]
    have gq := Gr.push E (.cells [.int .i64 (-l[i].2.1), .int .i64 l[i].1, .int .i64 l[i].2.1, .int .i64 (-l[i].1)] false)
    have hds : SL (T := Pr) (E.push (.cells [.int .i64 (-l[i].2.1), .int .i64 l[i].1, .int .i64 l[i].2.1, .int .i64 (-l[i].1)] false)) ⟨false, E.n, 0, 2, 2, 0⟩ [(-l[i].2.1, l[i].1), (l[i].2.1, -l[i].1)] := .of_get (ro := false) (Hp.get_push_new _ _) rfl rfl (Nat.le_refl _) (.inl rfl) rfl
    generalize E.push (.cells [.int .i64 (-l[i].2.1), .int .i64 l[i].1, .int .i64 l[i].2.1, .int .i64 (-l[i].1)] false) = C at *
    have gC := g1.trans (gE.trans gq)
    show Ok (r63_l4 (appA (k + 1)) _ FUEL v v l.length i ⟨false, E.n, 0, 2, 2, 0⟩ 2 0 C) _
    have hall : (dirP l (-l[i].2.1, l[i].1) ∧ dirP l (l[i].2.1, -l[i].1)) ↔ ∀ d ∈ [(-l[i].2.1, l[i].1), (l[i].2.1, -l[i].1)], dirP l d := by simp
    have hdb : ∀ d ∈ [(-l[i].2.1, l[i].1), (l[i].2.1, -l[i].1)], (-4 ≤ d.1 ∧ d.1 ≤ 4) ∧ -4 ≤ d.2 ∧ d.2 ≤ 4 := by
      intro d hd
      simp only [List.mem_cons, List.not_mem_nil, or_false] at hd
      rcases hd with rfl | rfl <;> dsimp only <;> omega
    have two : [(-l[i].2.1, l[i].1), (l[i].2.1, -l[i].1)].length = 2 := rfl
    generalize [(-l[i].2.1, l[i].1), (l[i].2.1, -l[i].1)] = ds at *
    have hdl := hds.len
    refine Ok.loop (L := fun K2 (s : Int) H2 => r63_l4 (appA (k + 1)) (fun v1_ v2_ v3_ v4_ H_ => r63_l3 (appA (k + 1)) K v1_ v2_ v3_ v4_ H_) K2 v v l.length i ⟨false, E.n, 0, 2, 2, 0⟩ 2 s H2) (fun m s H' => Gr C H' ∧ ∃ j : Nat, s = j ∧ j + m = 2 ∧ ∀ d ∈ ds.take j, dirP l d) ?_ FUEL 2 0 C (by unfold FUEL; omega) ⟨.refl _, 0, rfl, rfl, by simp⟩
    rintro K2 m2 s2 H2 ⟨g2, j, rfl, hm2, ht2⟩ ih2
    try dsimp only at *
    rw [r63_l4]
    by_cases hj : j < 2
    · have hg2 := hds.gr g2
      have hdm : ds[j] ∈ ds := List.getElem_mem (by omega)
      obtain ⟨F, hF, hF', gF, nF⟩ := sts2 H2 (.int .i64 ds[j].1) (.int .i64 ds[j].2) (.int .i64 0) (.int .i64 0)
      have gX := gC.trans (g2.trans gF)
      refine Ok.pos (by omega) (Ok.ck (by dsimp only; omega) (Ok.ld (hg2.ldI (i := j) (j := 0) (by omega) rfl) (Ok.ld (hg2.ldI (i := j) (j := 1) (by omega) rfl) (Ok.ld hF ?_))))
      refine Ok.bind (r92_ok (says93 k hF' (hdb _ hdm)) (hv.gr gX) (by omega) hs) fun r G ⟨gG, hr⟩ => ?_
      subst hr
      by_cases hd : dirP l ds[j]
      · rw [decide_eq_true (show ∃ x ∈ l, 0 < x.1 * ds[j].1 + x.2.1 * ds[j].2 from hd)]
        refine Ok.pos rfl ?_
        rw [w64_succ (by omega)]
        exact ih2 (m2 - 1) _ G (by omega) ⟨g2.trans (gF.trans gG), j + 1, rfl, by omega, forall_take (by omega) ht2 hd⟩
      · rw [decide_eq_false (show ¬ ∃ x ∈ l, 0 < x.1 * ds[j].1 + x.2.1 * ds[j].2 from hd)]
        refine Ok.neg (by simp) (Ok.ret ⟨g.trans (gX.trans gG), ?_⟩)
        rw [decide_eq_false]
        intro hh
        exact hd (hall.1 (hh _ hmem) _ hdm)
    · rw [List.take_of_length_le (by omega)] at ht2
      refine Ok.neg (by omega) ?_
      rw [w64_succ (by omega)]
      exact ih (m - 1) _ H2 (by omega) ⟨gC.trans g2, i + 1, rfl, by omega, forall_take h ht (hall.2 ht2)⟩
  · rw [List.take_of_length_le (by omega)] at ht
    exact Ok.neg (by omega) (Ok.ret ⟨g.trans g1, by rw [decide_eq_true ht]⟩)
/-- valid -/
theorem r63_ok {k : Nat} {H : Hp} {v : Sl} {l : List Sd} (hv : SL H v l) (hb : l.length ≤ 1000) : Ok (r63 (appA (k + 1)) v H) fun r H' => Gr H H' ∧ r = decide (plateP l) := by
  unfold r63
  have hlen := hv.len
  by_cases h3 : l.length < 3
  · refine Ok.pos (by omega) ?_
    unfold r63_j0
    exact Ok.pos rfl (Ok.ret ⟨.refl _, by rw [decide_eq_false (fun h => by have := h.1.1; omega)]⟩)
  · refine Ok.neg (by omega) ?_
    unfold r63_j0
    by_cases h6 : 6 < l.length
    · exact Ok.pos (by rw [decide_eq_true_iff]; omega) (Ok.ret ⟨.refl _, by rw [decide_eq_false (fun h => by have := h.1.2; omega)]⟩)
    · refine Ok.neg (by rw [decide_eq_true_iff]; omega) ?_
      rw [hlen]
      refine Ok.loop (L := fun K (s : Int) H2 => r63_l1 (appA (k + 1)) K v v l.length s H2) (fun m s H' => Gr H H' ∧ ∃ i : Nat, s = i ∧ i + m = l.length ∧ ∀ s ∈ l.take i, sideP s) ?_ FUEL l.length 0 H (by unfold FUEL; omega) ⟨.refl _, 0, rfl, by omega, by simp⟩
      rintro K m s H1 ⟨g1, i, rfl, hm, ht⟩ ih
      try dsimp only at *
      rw [r63_l1]
      by_cases h : i < l.length
      · have hg := hv.gr g1
        have hmem : l[i] ∈ l := List.getElem_mem h
        obtain ⟨E, hE, hE', gE, nE⟩ := sts3 H1 (.int .i64 l[i].1) (.int .i64 l[i].2.1) (.int .i64 l[i].2.2) (.int .i64 0) (.int .i64 0) (.int .i64 0)
        have gB := g1.trans gE
        have j2 : ∀ b H', Gr E H' → b = !decide (sideP l[i]) → Ok (r63_j2 (appA (k + 1)) (fun v1_ v2_ v3_ v4_ H_ => r63_l1 (appA (k + 1)) K v1_ v2_ v3_ v4_ H_) v v l.length i b H') fun r H' => Gr H H' ∧ r = decide (plateP l) := fun b H' gH hbb => by
          subst hbb
          unfold r63_j2
          by_cases c : sideP l[i]
          · rw [decide_eq_true c]
            refine Ok.neg (by simp) ?_
            rw [w64_succ (by omega)]
            exact ih (m - 1) _ H' (by omega) ⟨gB.trans gH, i + 1, rfl, by omega, forall_take h ht c⟩
          · rw [decide_eq_false c]
            exact Ok.pos rfl (Ok.ret ⟨gB.trans gH, by rw [decide_eq_false (fun q => c (q.2.1 _ hmem))]⟩)
        have tl : ¬ (l[i].1 = 0 ∧ l[i].2.1 = 0) → ∀ H' b, Gr E H' → b = !decide (inB l[i]) → Ok (r63_j2 (appA (k + 1)) (fun v1_ v2_ v3_ v4_ H_ => r63_l1 (appA (k + 1)) K v1_ v2_ v3_ v4_ H_) v v l.length i b H') fun r H' => Gr H H' ∧ r = decide (plateP l) := fun hne H' b gH hbb => j2 b H' gH (by rw [hbb]; congr 1; exact decide_eq_decide.2 ⟨fun q => side_in.2 ⟨hne, q⟩, fun q => (side_in.1 q).2⟩)
        refine Ok.pos (by omega) (Ok.ck (by omega) (Ok.ld (hg.ldI (i := i) (j := 0) h rfl) (Ok.ld (hg.ldI (i := i) (j := 1) h rfl) (Ok.ld (hg.ldI (i := i) (j := 2) h rfl) (Ok.ld hE (Ok.ld (ldI_get hE' rfl) ?_))))))
        refine Ok.ite (fun c0 => Ok.ld (ldI_get hE' rfl) (Ok.ite (fun c1 => j2 _ _ (.refl _) ?_) fun c1 => Ok.ld (ldI_get hE' rfl) (Ok.ld (ldI_get hE' rfl) (tail63 (s := l[i]) hE' (tl fun q => c1 q.2))))) fun c0 => Ok.ld (ldI_get hE' rfl) (Ok.ld (ldI_get hE' rfl) (tail63 (s := l[i]) hE' (tl fun q => c0 q.1)))
        rw [decide_eq_false (fun q => (side_in.1 q).1 ⟨c0, c1⟩)]
        rfl
      · rw [List.take_of_length_le (by omega)] at ht
        refine Ok.neg (by omega) ?_
        rw [hlen]
        refine (r63_l3_ok (hv.gr g1) (by omega) ht g1).mono fun r H' hh => ⟨hh.1, ?_⟩
        rw [hh.2]
        exact decide_eq_decide.2 ⟨fun q => ⟨⟨by omega, by omega⟩, ht, q⟩, fun q => q.2.2⟩
end Go.Lt.P2

namespace Go.Lt.P2
open Go Go.Lt Go.Proofs
/-- one number of one side is put -/
def setc (s : Sd) (k : Nat) (n : Int) : Sd := if k = 0 then (n, s.2.1, s.2.2) else if k = 1 then (s.1, n, s.2.2) else (s.1, s.2.1, n)
theorem encs_setc (q : List Sd) {j k : Nat} (hj : j < q.length) (hk : k < 3) (n : Int) : (encs q).set (j * 3 + k) (.int .i64 n) = encs (q.set j (setc q[j] k n)) := by
  have e1 : q = q.take j ++ q[j] :: q.drop (j + 1) := by rw [List.getElem_cons_drop, List.take_append_drop]
  have e2 : q.set j (setc q[j] k n) = q.take j ++ setc q[j] k n :: q.drop (j + 1) := by rw [List.set_eq_take_append_cons_drop, if_pos hj]
  have hl : (encs (q.take j)).length = j * 3 := by rw [encs_len, List.length_take, Nat.min_eq_left (by omega)]; rfl
  rw [e2, encs_append, encs_cons]
  conv => lhs; rw [e1, encs_append, encs_cons]
  rw [List.set_append_right _ _ (by omega), hl, Nat.add_sub_cancel_left, List.set_append_left _ _ (by rw [El.len]; exact hk)]
  congr 2
  rcases (show k = 0 ∨ k = 1 ∨ k = 2 by omega) with rfl | rfl | rfl <;> rfl
theorem Own.put1 {α : Type} {Q : α → Hp → Prop} {H : Hp} {v : Sl} {q : List Sd} (h : Own H v q) {j k o : Nat} (n : Int) {f : Hp → Option (α × Hp)} (hj : j < q.length) (hk : k < 3) (ho : o = (v.o + j * 3) + k)
    (kk : ∀ H', Own H' v (q.set j (setc q[j] k n)) → Only v.b H H' → H'.n = H.n → Ok (f H') Q) : Ok ((H.st v.b o (.int .i64 n)).bind f) Q := by
  have hvo := h.o
  refine Ok.st h.get ?_ fun H' e1 e2 => ?_
  · rw [encs_len, ho, hvo]
    have : El.sz Sd = 3 := rfl
    rw [this]; omega
  · rw [ho, hvo, Nat.zero_add, encs_setc q hj hk] at e2
    refine kk H' ⟨h.nn, h.o, by simp [h.len], h.cap, h.opn, e2⟩ ⟨by rw [e1]; simp, fun c _ hc => by rw [e1, Hp.get_set_other _ _ hc]⟩ (by rw [e1]; simp)
def tn (s : Sd) : Sd := (-s.2.1, s.1, s.2.2)
theorem set_mix {l : List Sd} {f : Sd → Sd} {i : Nat} (h : i < l.length) : ((l.take i).map f ++ l.drop i).set i (f l[i]) = (l.take (i + 1)).map f ++ l.drop (i + 1) := by
  have hl : ((l.take i).map f).length = i := by rw [List.length_map, List.length_take]; omega
  rw [List.set_append_right _ _ (by omega), hl, Nat.sub_self, List.drop_eq_getElem_cons h, List.set_cons_zero, List.take_succ_eq_append_getElem h, List.map_append]
  simp
theorem mix_at {l : List Sd} {f : Sd → Sd} {i : Nat} (h : i < l.length) : ((l.take i).map f ++ l.drop i)[i]'(by simp; omega) = l[i] := by
  have hl : ((l.take i).map f).length = i := by rw [List.length_map, List.length_take]; omega
  rw [List.getElem_append_right (by omega)]
  simp only [hl, Nat.sub_self]
  rw [List.getElem_drop]
  simp
theorem mix_len {l : List Sd} {f : Sd → Sd} {i : Nat} (h : i ≤ l.length) : ((l.take i).map f ++ l.drop i).length = l.length := by
  rw [List.length_append, List.length_map, List.length_take, List.length_drop]; omega
theorem set2 {Q : List Sd} {i : Nat} (h : i < Q.length) {a b : Int} : (Q.set i (setc Q[i] 0 a)).set i (setc ((Q.set i (setc Q[i] 0 a))[i]'(by rw [List.length_set]; exact h)) 1 b) = Q.set i (a, b, (Q[i]'h).2.2) := by
  rw [List.set_set, List.getElem_set_self]
  rfl
/-- Turn -/
theorem r34_ok {k : Nat} {H : Hp} {v : Sl} {l : List Sd} (hv : SL H v l) (hb : l.length ≤ 1000) : Ok (r34 (appA (k + 1)) v H) fun r H' => Gr H H' ∧ if plateP l then SL H' r.1 (l.map tn) ∧ r.2 = 0 else r = (⟨true, 0, 0, 0, 0, 0⟩, 2) := by
  unfold r34
  refine Ok.bind (r63_ok hv hb) fun b A ⟨gA, hbb⟩ => ?_
  subst hbb
  by_cases hp : plateP l
  · rw [decide_eq_true hp]
    simp only [if_pos hp]
    have hlen := hv.len
    refine Ok.pos (by simp) ?_
    show Ok ((cloneR 3 v A).bind _) _
    refine Ok.bind (clone_ok (hv.gr gA) (by omega) rfl) fun w B ⟨gB, _, _, hw⟩ => ?_
    obtain ⟨ow, hwb⟩ := hw (hv.nonnil (by intro c; have := hp.1.1; rw [c] at this; simp at this))
    rw [hlen]
    refine Ok.loop (L := fun K (s : Int) H2 => r34_l0 (appA (k + 1)) K w v l.length s H2) (fun m s H' => Gr H H' ∧ Gr A H' ∧ ∃ i : Nat, s = i ∧ i + m = l.length ∧ Own H' w ((l.take i).map tn ++ l.drop i)) ?_ FUEL l.length 0 B (by unfold FUEL; omega) ⟨gA.trans gB, gB, 0, rfl, by omega, by simpa using ow⟩
    rintro K m s H1 ⟨g1, gA1, i, rfl, hm, o1⟩ ih
    try dsimp only at *
    rw [r34_l0]
    by_cases h : i < l.length
    · have hg := hv.gr g1
      have hx := hp.2.1 _ (List.getElem_mem h)
      unfold sideP at hx
      have hql := mix_len (f := tn) (show i ≤ l.length by omega)
      have hwl := o1.len
      obtain ⟨E, hE, hE', gE, nE⟩ := sts3 H1 (.int .i64 l[i].1) (.int .i64 l[i].2.1) (.int .i64 l[i].2.2) (.int .i64 0) (.int .i64 0) (.int .i64 0)
      refine Ok.pos (by omega) (Ok.ck (by omega) (Ok.ld (hg.ldI (i := i) (j := 0) h rfl) (Ok.ld (hg.ldI (i := i) (j := 1) h rfl) (Ok.ld (hg.ldI (i := i) (j := 2) h rfl) (Ok.ld hE (Ok.ld (ldI_get hE' rfl) (Ok.ld (ldI_get hE' rfl) (Ok.ck (by omega) ?_))))))))
      rw [show w64 (0 - l[i].2.1) = -l[i].2.1 by rw [w64_id (by omega) (by omega)]; omega]
      have oE := o1.gr gE
      have hwn : w.b < H1.n := Hp.get_lt o1.get
      refine Own.put1 oE (j := i) (k := 0) (-l[i].2.1) (by omega) (by omega) rfl fun G oG onG nG => ?_
      have hG' : G.get H1.n = some (.cells [.int .i64 l[i].1, .int .i64 l[i].2.1, .int .i64 l[i].2.2] false) := by rw [onG.2 _ (by omega) (by omega)]; exact hE'
      refine Ok.ck (by omega) (Own.put1 oG (j := i) (k := 1) l[i].1 (by rw [List.length_set]; omega) (by omega) rfl fun I oI onI nI => ?_)
      refine Ok.ck (ldI_get hG' rfl) ?_
      rw [w64_succ (by omega)]
      have only : Only w.b H1 I := (Gr.only gE).trans (onG.trans onI)
      refine ih (m - 1) _ I (by omega) ⟨only.gr g1 (by have := gA.1; omega), only.gr gA1 hwb, i + 1, rfl, by omega, ?_⟩
      rw [set2 (show i < ((l.take i).map tn ++ l.drop i).length by omega), mix_at h] at oI
      rw [← set_mix (f := tn) h]
      exact oI
    · have hi : i = l.length := by omega
      subst hi
      rw [List.take_length, List.drop_length, List.append_nil] at o1
      exact Ok.neg (by omega) (Ok.ret ⟨g1, o1.sl, rfl⟩)
  · rw [decide_eq_false hp]
    simp only [if_neg hp]
    exact Ok.neg (by simp) (Ok.ret ⟨gA, rfl⟩)
end Go.Lt.P2

namespace Go.Lt.P2
open Go Go.Lt Go.Proofs
/-- Turn of the reference -/
theorem r37_ok {H : Hp} {v : Sl} {l : List Sd} (hv : SL H v l) (hb : l.length ≤ 1000) (hs : ∀ s ∈ l, sideP s) : Ok (r37 v H) fun w H' => Gr H H' ∧ SL H' w (l.map tn) := by
  unfold r37
  have hlen := hv.len
  rw [hlen]
  refine Ok.loop (L := fun K (s : Sl × Int) H2 => r37_l0 K s.1 v l.length s.2 H2) (fun m s H' => Gr H H' ∧ ∃ i : Nat, s.2 = i ∧ i + m = l.length ∧ AccL H.n H' s.1 ((l.take i).map tn)) ?_ FUEL l.length (⟨true, 0, 0, 0, 0, 0⟩, 0) H (by unfold FUEL; omega) ⟨.refl _, 0, rfl, by omega, by simpa using AccL.nilS⟩
  rintro K m ⟨w, s⟩ H1 ⟨g1, i, rfl, hm, ha⟩ ih
  try dsimp only at *
  rw [r37_l0]
  by_cases h : i < l.length
  · have hg := hv.gr g1
    have hx := hs _ (List.getElem_mem h)
    unfold sideP at hx
    obtain ⟨E, hE, hE', gE, nE⟩ := sts3 H1 (.int .i64 l[i].1) (.int .i64 l[i].2.1) (.int .i64 l[i].2.2) (.int .i64 0) (.int .i64 0) (.int .i64 0)
    have gB := g1.trans gE
    refine Ok.pos (by omega) (Ok.ck (by omega) (Ok.ld (hg.ldI (i := i) (j := 0) h rfl) (Ok.ld (hg.ldI (i := i) (j := 1) h rfl) (Ok.ld (hg.ldI (i := i) (j := 2) h rfl) (Ok.ld hE (Ok.ld (ldI_get hE' rfl) (Ok.ld (ldI_get hE' rfl) (Ok.ld (ldI_get hE' rfl) ?_))))))))
    rw [show w64 (0 - l[i].2.1) = -l[i].2.1 by rw [w64_id (by omega) (by omega)]; omega]
    refine Ok.bind ((ha.gr gE).push gB (tn l[i]) rfl rfl (by rw [List.length_map, List.length_take]; omega)) fun w2 H3 ⟨ha3, g3, _⟩ => ?_
    rw [w64_succ (by omega)]
    refine ih (m - 1) (w2, _) H3 (by omega) ⟨g3, i + 1, rfl, by omega, ?_⟩
    rw [List.take_succ_eq_append_getElem h, List.map_append]
    exact ha3
  · rw [List.take_of_length_le (by omega)] at ha
    exact Ok.neg (by omega) (Ok.ret ⟨g1, ha.sl⟩)
end Go.Lt.P2

namespace Go.Lt.P2
open Go Go.Lt Go.Proofs
theorem gcdI {H : Hp} : ∀ (K : Nat) (a b : Int), b.natAbs < K → a.natAbs < 9223372036854775808 → b.natAbs < 9223372036854775808 → r94_l0 K a b H = some ((Nat.gcd a.natAbs b.natAbs : Int), H) := by
  intro K
  induction K with
  | zero => intro a b h; omega
  | succ K ih =>
    intro a b h ha hb
    rw [r94_l0]
    by_cases h0 : b = 0
    · subst h0
      rw [if_neg (by simp), w64Abs ha]
      simp
    · have hm := Nat.mod_lt a.natAbs (show 0 < b.natAbs by omega)
      have e := Int.natAbs_tmod a b
      rw [if_pos h0, ck, if_pos h0, ih b (Int.tmod a b) (by omega) hb (by omega), e, gcd_step]
/-- frac -/
theorem r100_q {a b : Int} (ha : a.natAbs < 9223372036854775807) (hb : b ≠ 0) (hb2 : b.natAbs < 9223372036854775807) (H : Hp) : Ok (r100 a b H) fun r _ => r = fq (dv a b) := by
  have key : ∀ {a b : Int} {A : Hp} {E : List (Nat × List AV)}, a.natAbs < 9223372036854775808 → 0 < b → b < 9223372036854775808 → Cx H A ((H.n, [.int .i64 0, .int .i64 0]) :: E) → Ok (r100_j0 a b H.n A) fun r _ => r = fq (dv a b) := fun {a b A E} ha hb hb2 c => by
    have hg : 0 < Nat.gcd a.natAbs b.natAbs := Nat.gcd_pos_of_pos_right _ (by omega)
    unfold r100_j0
    refine Ok.own (b := (Nat.gcd a.natAbs b.natAbs : Int)) ⟨_, _, gcdI FUEL a b (by unfold FUEL; omega) ha (by omega), rfl⟩ fun X => ?_
    dsimp only
    rw [tdivSmall ha, tdivSmall (by omega)]
    refine Ok.ck (by omega) (Ok.ck (by omega) (Ok.cst c 0 rfl rfl fun D _ _ c => ?_))
    refine Ok.cld c (.head _) rfl (Ok.cld c (.head _) rfl (Ok.ret ?_))
    rw [fq_gcdv hb]
  unfold r100
  refine Ok.box (.nil H) fun A _ c => Ok.ite (fun h => ?_) fun h => ?_
  · rw [w64_id (by omega) (by omega), w64_id (by omega) (by omega)]
    have e : dv a b = dv (0 - a) (0 - b) := by rw [Int.zero_sub, Int.zero_sub, dv_neg]
    rw [e]
    exact key (by omega) (by omega) (by omega) c
  · exact key (by omega) (by omega) (by omega) c
theorem r100_int {a : Int} (ha : a.natAbs < 9223372036854775807) (H : Hp) : Ok (r100 a 1 H) fun r _ => r = fq (a : Rat) := by
  have := r100_q (a := a) (b := 1) ha (by decide) (by decide) H
  rw [dv_int] at this
  exact this
/-- compare -/
theorem r84_q (a b : Int) : Ok (r84 a b H0) fun r _ => r = if a < b then -1 else if b < a then 1 else 0 := by
  unfold r84 r107
  refine Ok.own (b := false) (Ok.ret (by simp)) fun X => Ok.own (b := false) (Ok.ret (by simp)) fun Y => Ok.neg (by simp) (Ok.neg (by simp) ?_)
  refine Ok.ite (fun c => Ok.ret (by rw [if_pos c])) fun c => Ok.ite (fun d => Ok.ret (by rw [if_neg c, if_pos d])) fun d => Ok.ret (by rw [if_neg c, if_neg d])
theorem r89_q {N D N' D' : Int} {p q : Rat} (hp : qb N D p) (hq : qb N' D' q) (h1 : N * D' < 9223372036854775808) (h2 : N' * D < 9223372036854775808) : Ok (r89 (fq p).1 (fq p).2 (fq q).1 (fq q).2 H0) fun r _ => r = cmpq p q := by
  obtain ⟨a1, a2, a3⟩ := hp
  obtain ⟨k1, k2, k3⟩ := hq
  have ap := fq_pos p
  have kp := fq_pos q
  have b1 := mulBd (A := N) (B := D') (x := (fq p).1) (y := (fq q).2) a1 a2 (by omega) k3
  have b3 := mulBd (A := N') (B := D) (x := (fq q).1) (y := (fq p).2) k1 k2 (by omega) a3
  unfold r89
  refine Ok.lt (Ok.ld rfl (Ok.ld rfl (Ok.ld rfl (Ok.ld rfl ?_))))
  rw [w64_id (by omega) (by omega), w64_id (by omega) (by omega)]
  refine Ok.own (r84_q _ _) fun X => Ok.ret ?_
  dsimp only
  unfold cmpq
  simp only [fq_lt]
/-- plus, times -/
theorem r98_q {p q : Rat} {N D N' D' : Int} (hp : qb N D p) (hq : qb N' D' q) (h1 : N * D' < 1000000000000000000) (h2 : N' * D < 1000000000000000000) (h3 : D * D' < 1000000000000000000) : Ok (r98 (fq p).1 (fq p).2 (fq q).1 (fq q).2 H0) fun r _ => r = fq (p + q) := by
  have e := fq_add p q
  obtain ⟨a1, a2, a3⟩ := hp
  obtain ⟨k1, k2, k3⟩ := hq
  have ap := fq_pos p
  have kp := fq_pos q
  have b1 := mulBd (A := N) (B := D') (x := (fq p).1) (y := (fq q).2) a1 a2 (by omega) k3
  have b2 := mulBd (A := N') (B := D) (x := (fq q).1) (y := (fq p).2) k1 k2 (by omega) a3
  have b3 := mulBd (A := D) (B := D') (x := (fq p).2) (y := (fq q).2) (by omega) a3 (by omega) k3
  have b4 := Int.mul_pos ap kp
  unfold r98
  refine Ok.box3 (.nil H0) fun A _ c => Ok.cld c (.tail _ (.tail _ (.head _))) rfl (Ok.cld c (.tail _ (.head _)) rfl (Ok.cld c (.tail _ (.head _)) rfl (Ok.cld c (.tail _ (.tail _ (.head _))) rfl (Ok.cld c (.tail _ (.tail _ (.head _))) rfl (Ok.cld c (.tail _ (.head _)) rfl ?_)))))
  rw [w64_id (n := (fq p).1 * (fq q).2) (by omega) (by omega), w64_id (n := (fq q).1 * (fq p).2) (by omega) (by omega), w64_id (n := (fq p).2 * (fq q).2) (by omega) (by omega), w64_id (by omega) (by omega)]
  refine Ok.own (r100_q (by omega) (by omega) (by omega) H0) fun X => ?_
  rw [e]
  exact Ok.cst c 0 rfl rfl fun B _ _ c => Ok.cld c (.head _) rfl (Ok.cld c (.head _) rfl (Ok.ret rfl))
theorem r99_q {q : Rat} {k K N D : Int} (hk : -K ≤ k ∧ k ≤ K) (hq : qb N D q) (h1 : K * N < 1000000000000000000) (h2 : D < 1000000000000000000) : Ok (r99 k (fq q).1 (fq q).2 H0) fun r _ => r = fq ((k : Rat) * q) := by
  obtain ⟨k1, k2, k3⟩ := hq
  have kp := fq_pos q
  have b1 := mulBd (A := K) (B := N) (x := k) (y := (fq q).1) hk.1 hk.2 k1 k2
  have e : dv (k * (fq q).1) (fq q).2 = (k : Rat) * q := by
    have := dv_mul (a := k) (b := 1) (c := (fq q).1) (d := (fq q).2) (by decide) kp
    rw [Int.one_mul, dv_fq, dv_int] at this
    exact this
  unfold r99
  refine Ok.box2 (.nil H0) fun A _ c => Ok.cld c (.tail _ (.head _)) rfl (Ok.cld c (.tail _ (.head _)) rfl ?_)
  rw [w64_id (by omega) (by omega)]
  refine Ok.own (r100_q (by omega) (by omega) (by omega) H0) fun X => ?_
  rw [e]
  exact Ok.cst c 0 rfl rfl fun B _ _ c => Ok.cld c (.head _) rfl (Ok.cld c (.head _) rfl (Ok.ret rfl))
/-- points of the plane -/
abbrev Pq := Rat × Rat
def pt (p : Pq) : Int × Int × Int × Int := ((fq p.1).1, (fq p.1).2, (fq p.2).1, (fq p.2).2)
def pc4 (p : Pq) : List AV := [.int .i64 (fq p.1).1, .int .i64 (fq p.1).2, .int .i64 (fq p.2).1, .int .i64 (fq p.2).2]
def sc (s : Sd) : List AV := [.int .i64 s.1, .int .i64 s.2.1, .int .i64 s.2.2]
def qp (p : Pq) : Prop := qb 10000 100 p.1 ∧ qb 10000 100 p.2
def atq (a b : Int) (p : Pq) : Rat := (a : Rat) * p.1 + (b : Rat) * p.2
def lqs (s : Sd) (p : Pq) : Prop := atq s.1 s.2.1 p ≤ (s.2.2 : Rat)
instance (s : Sd) (p : Pq) : Decidable (lqs s p) := by unfold lqs; infer_instance
def inP (l : List Sd) (p : Pq) : Prop := ∀ s ∈ l, lqs s p
instance (l : List Sd) (p : Pq) : Decidable (inP l p) := by unfold inP; infer_instance
theorem atq_qb {a b : Int} {p : Pq} (ha : -24 ≤ a ∧ a ≤ 24) (hb : -24 ≤ b ∧ b ≤ 24) (hp : qp p) : qb 48000000 10000 (atq a b p) := by
  have h1 := (qb_int (a := a) (N := 24) (D := 1) (by omega) (by omega) (by omega)).mul hp.1
  have h2 := (qb_int (a := b) (N := 24) (D := 1) (by omega) (by omega) (by omega)).mul hp.2
  exact (h1.add h2).mono (by decide) (by decide)
/-- at -/
theorem r69_q {a b c : Int} {p : Pq} (ha : -24 ≤ a ∧ a ≤ 24) (hb : -24 ≤ b ∧ b ≤ 24) (hp : qp p) : Ok (r69 a b c (fq p.1).1 (fq p.1).2 (fq p.2).1 (fq p.2).2 H0) fun r _ => r = fq (atq a b p) := by
  have h1 := (qb_int (a := a) (N := 24) (D := 1) (by omega) (by omega) (by omega)).mul hp.1
  have h2 := (qb_int (a := b) (N := 24) (D := 1) (by omega) (by omega) (by omega)).mul hp.2
  unfold r69
  refine Ok.box3 (.nil H0) fun A _ c => Ok.cld c (.tail _ (.tail _ (.head _))) rfl (Ok.cld c (.tail _ (.head _)) rfl (Ok.cld c (.tail _ (.head _)) rfl (Ok.own (r99_q (K := 24) (by omega) hp.1 (by decide) (by decide)) fun X => ?_)))
  refine Ok.cld c (.tail _ (.tail _ (.head _))) rfl (Ok.cld c (.tail _ (.head _)) rfl (Ok.cld c (.tail _ (.head _)) rfl (Ok.own (r99_q (K := 24) (by omega) hp.2 (by decide) (by decide)) fun X => ?_)))
  refine Ok.own (r98_q h1 h2 (by decide) (by decide) (by decide)) fun X => ?_
  exact Ok.cst c 0 rfl rfl fun B _ _ c => Ok.cld c (.head _) rfl (Ok.cld c (.head _) rfl (Ok.ret rfl))
/-- keeps -/
theorem r70_q {a b c : Int} {p : Pq} (ha : -24 ≤ a ∧ a ≤ 24) (hb : -24 ≤ b ∧ b ≤ 24) (hc : -100000000 ≤ c ∧ c ≤ 100000000) (hp : qp p) : Ok (r70 a b c (fq p.1).1 (fq p.1).2 (fq p.2).1 (fq p.2).2 H0) fun r _ => r = decide (lqs (a, b, c) p) := by
  unfold r70
  refine Ok.box2 (.nil H0) fun A _ cx => Ok.cld cx (.tail _ (.head _)) rfl (Ok.cld cx (.tail _ (.head _)) rfl (Ok.cld cx (.tail _ (.head _)) rfl (Ok.cld cx (.head _) rfl (Ok.cld cx (.head _) rfl (Ok.cld cx (.head _) rfl (Ok.cld cx (.head _) rfl (Ok.own (r69_q ha hb hp) fun X => ?_)))))))
  refine Ok.cld cx (.tail _ (.head _)) rfl (Ok.own (r100_int (by omega) H0) fun X => Ok.own (r89_q (atq_qb ha hb hp) (qb_int (a := c) (N := 100000000) (D := 1) (by omega) (by omega) (by omega)) (by decide) (by decide)) fun X => Ok.ret ?_)
  exact decide_eq_decide.2 cmp_le
end Go.Lt.P2

namespace Go.Lt.P2
open Go Go.Lt Go.Proofs
/-- whole -/
theorem r80_q {x y : Int} (hx : -100000000 ≤ x ∧ x ≤ 100000000) (hy : -100000000 ≤ y ∧ y ≤ 100000000) : Ok (r80 x y H0) fun r _ => r = pt ((x : Rat), (y : Rat)) := by
  unfold r80
  refine Ok.box (.nil H0) fun A _ c => ?_
  refine Ok.own (r100_int (by omega) H0) fun X => Ok.own (r100_int (by omega) H0) fun X => ?_
  refine Ok.cst c 0 rfl rfl fun B _ _ c => ?_
  exact Ok.cld c (.head _) rfl (Ok.cld c (.head _) rfl (Ok.cld c (.head _) rfl (Ok.cld c (.head _) rfl (Ok.ret rfl))))
theorem lqs_int {s : Sd} {x y : Int} : lqs s ((x : Rat), (y : Rat)) ↔ s.1 * x + s.2.1 * y ≤ s.2.2 := by
  unfold lqs atq
  dsimp only
  rw [← Rat.intCast_mul, ← Rat.intCast_mul, ← Rat.intCast_add]
  exact Rat.intCast_le_intCast
theorem qp_int {x y : Int} (hx : -10000 ≤ x ∧ x ≤ 10000) (hy : -10000 ≤ y ∧ y ≤ 10000) : qp ((x : Rat), (y : Rat)) :=
  ⟨qb_int (by omega) (by omega) (by omega), qb_int (by omega) (by omega) (by omega)⟩
end Go.Lt.P2

namespace Go.Lt.P2
open Go Go.Lt Go.Proofs
/-- the first side that a whole point does not keep -/
def kp (x : Pr) (s : Sd) : Prop := s.1 * x.1 + s.2.1 * x.2 ≤ s.2.2
instance (x : Pr) (s : Sd) : Decidable (kp x s) := by unfold kp; infer_instance
def apt (x : Pr) : List Sd → Int × Int × Int × Int
  | [] => (0, 0, 0, 4)
  | s :: l => if kp x s then apt x l else (s.1, s.2.1, s.2.2, 0)
theorem apt_all {x : Pr} : ∀ {l : List Sd}, (∀ s ∈ l, kp x s) → apt x l = (0, 0, 0, 4)
  | [], _ => rfl
  | s :: l, h => by rw [apt, if_pos (h s (.head _))]; exact apt_all fun t ht => h t (.tail _ ht)
end Go.Lt.P2

namespace Go.Lt.P2
open Go Go.Lt Go.Proofs
def apR (l : List Sd) (x : Pr) : Int × Int × Int × Int := if plateP l ∧ ((-100 ≤ x.1 ∧ x.1 ≤ 100) ∧ -100 ≤ x.2 ∧ x.2 ≤ 100) then apt x l else (0, 0, 0, 2)
/-- Apart -/
theorem r32_ok {k : Nat} {H : Hp} {v : Sl} {l : List Sd} {x : Pr} (hv : SL H v l) (hb : l.length ≤ 1000) : Ok (r32 (appA (k + 1)) v x.1 x.2 H) fun r H' => Gr H H' ∧ r = apR l x := by
  unfold r32
  refine Ok.box2 (.nil H) fun A gA c => ?_
  have bad : ∀ {B : Hp}, ¬ (plateP l ∧ ((-100 ≤ x.1 ∧ x.1 ≤ 100) ∧ -100 ≤ x.2 ∧ x.2 ≤ 100)) → Cx H B [((H.push (.cells [.int .i64 x.1, .int .i64 x.2] false)).n, [.int .i64 0, .int .i64 0, .int .i64 0]), (H.n, [.int .i64 x.1, .int .i64 x.2])] → Ok (r32_j1 (appA (k + 1)) v H.n ((H.push (.cells [.int .i64 x.1, .int .i64 x.2] false)).n) true B) fun r H' => Gr H H' ∧ r = apR l x := fun {B} hn c => by
    unfold r32_j1
    refine Ok.pos rfl (Ok.cst c 0 rfl rfl fun D _ _ c => ?_)
    refine Ok.cld c (.head _) rfl (Ok.cld c (.head _) rfl (Ok.cld c (.head _) rfl (Ok.ret ⟨c.g, ?_⟩)))
    unfold apR
    rw [if_neg hn]
  have hvA := hv.gr gA
  refine Ok.bind (r63_ok hvA hb) fun b B ⟨gB, hbb⟩ => ?_
  subst hbb
  have cB := c.gr gB
  by_cases hp : plateP l
  · rw [decide_eq_true hp]
    refine Ok.pos rfl ?_
    have hs : SL (T := Int) B ⟨false, H.n, 0 + (0 : Int).toNat * 1, (((2 : Nat) : Int) : Int).toNat - (0 : Int).toNat, 2 - (0 : Int).toNat, 0⟩ [x.1, x.2] := .of_get (ro := false) (cB.e _ (.tail _ (.head _))) rfl rfl (Nat.le_refl _) (.inl rfl) rfl
    refine Ok.bind (r79_ok (k := k) (c := 100) (by omega) hs (by simp)) fun r C ⟨gC, hr⟩ => ?_
    subst hr
    have cC := cB.gr gC
    rw [Bool.not_not]
    by_cases h1 : ∃ y ∈ [x.1, x.2], y < -100 ∨ 100 < y
    · rw [decide_eq_true h1]
      refine bad (fun hn => ?_) cC
      obtain ⟨y, hy, h2⟩ := h1
      simp only [List.mem_cons, List.not_mem_nil, or_false] at hy
      rcases hy with rfl | rfl <;> omega
    · rw [decide_eq_false h1]
      have q1 : ¬ (x.1 < -100 ∨ 100 < x.1) := fun q => h1 ⟨x.1, by simp, q⟩
      have q2 : ¬ (x.2 < -100 ∨ 100 < x.2) := fun q => h1 ⟨x.2, by simp, q⟩
      have e : apR l x = apt x l := by unfold apR; rw [if_pos ⟨hp, by omega, by omega, by omega⟩]
      rw [e]
      unfold r32_j1
      refine Ok.neg (by simp) ?_
      have hlen := hv.len
      rw [hlen]
      refine Ok.loop (L := fun K (s : Int) H2 => r32_l0 (appA (k + 1)) K H.n _ v l.length s H2) (fun m s H' => Cx H H' [((H.push (.cells [.int .i64 x.1, .int .i64 x.2] false)).n, [.int .i64 0, .int .i64 0, .int .i64 0]), (H.n, [.int .i64 x.1, .int .i64 x.2])] ∧ ∃ i : Nat, s = i ∧ i + m = l.length ∧ apt x l = apt x (l.drop i)) ?_ FUEL l.length 0 C (by unfold FUEL; omega) ⟨cC, 0, rfl, by omega, rfl⟩
      rintro K m s H1 ⟨c, i, rfl, hm, ht⟩ ih
      try dsimp only at *
      rw [r32_l0]
      by_cases h : i < l.length
      · have hg := hv.gr c.g
        have hx := hp.2.1 _ (List.getElem_mem h)
        have hx' := hx
        unfold sideP at hx'
        rw [List.drop_eq_getElem_cons h, apt] at ht
        refine Ok.pos (by omega) (Ok.ck (by omega) (Ok.ld (hg.ldI (i := i) (j := 0) h rfl) (Ok.ld (hg.ldI (i := i) (j := 1) h rfl) (Ok.ld (hg.ldI (i := i) (j := 2) h rfl) (Ok.alo c fun D gD c => ?_)))))
        refine Ok.cld c (.head _) rfl (Ok.cld c (.head _) rfl (Ok.cld c (.head _) rfl (Ok.cld c (.tail _ (.tail _ (.head _))) rfl (Ok.cld c (.tail _ (.tail _ (.head _))) rfl ?_))))
        refine Ok.own (r80_q (by omega) (by omega)) fun X => Ok.own (r70_q (by omega) (by omega) (by omega) (qp_int (by omega) (by omega))) fun X => ?_
        have e2 : lqs (l[i].1, l[i].2.1, l[i].2.2) ((x.1 : Rat), (x.2 : Rat)) ↔ kp x l[i] := lqs_int
        refine Ok.ite (fun hc => ?_) fun hc => ?_
        · have hk := e2.1 (of_decide_eq_true hc)
          rw [if_pos hk] at ht
          rw [w64_succ (by omega)]
          exact ih (m - 1) _ D (by omega) ⟨c.weak (.cons _ (.refl _)), i + 1, rfl, by omega, ht⟩
        · have hk : ¬ kp x l[i] := fun q => hc (decide_eq_true (e2.2 q))
          rw [if_neg hk] at ht
          refine Ok.cld c (.head _) rfl (Ok.cld c (.head _) rfl (Ok.cld c (.head _) rfl (Ok.cst c 1 rfl rfl fun F _ _ c => ?_)))
          refine Ok.cld c (.tail _ (.head _)) rfl (Ok.cld c (.tail _ (.head _)) rfl (Ok.cld c (.tail _ (.head _)) rfl (Ok.ret ⟨c.g, ht.symm⟩)))
      · rw [List.drop_of_length_le (by omega)] at ht
        refine Ok.neg (by omega) (Ok.cst c 0 rfl rfl fun D _ _ c => ?_)
        exact Ok.cld c (.head _) rfl (Ok.cld c (.head _) rfl (Ok.cld c (.head _) rfl (Ok.ret ⟨c.g, ht.symm⟩)))
  · rw [decide_eq_false hp]
    exact Ok.neg (by simp) (bad (fun q => hp q.1) cB)
end Go.Lt.P2

namespace Go.Lt.P2
open Go Go.Lt Go.Proofs
/-- keeps of the reference -/
theorem r75_ok {a b c x y d : Int} (hs : sideP (a, b, c)) (hx : -1000000 ≤ x ∧ x ≤ 1000000) (hy : -1000000 ≤ y ∧ y ≤ 1000000) (hd : -1000000 ≤ d ∧ d ≤ 1000000) : Ok (r75 a b c x y d H0) fun r _ => r = decide (a * x + b * y ≤ c * d) := by
  unfold sideP at hs
  dsimp only at hs
  have b1 := mul_bd (A := 4) (B := 1000000) (x := a) (y := x) (by omega) (by omega) (by omega) (by omega)
  have b2 := mul_bd (A := 4) (B := 1000000) (x := b) (y := y) (by omega) (by omega) (by omega) (by omega)
  have b3 := mul_bd (A := 40) (B := 1000000) (x := c) (y := d) (by omega) (by omega) (by omega) (by omega)
  unfold r75
  refine Ok.box (.nil H0) fun A _ c => Ok.cld c (.head _) rfl (Ok.cld c (.head _) rfl (Ok.cld c (.head _) rfl ?_))
  rw [w64_id (n := _ * x) (by omega) (by omega), w64_id (n := _ * y) (by omega) (by omega), w64_id (n := _ * d) (by omega) (by omega), w64_id (by omega) (by omega)]
  exact Ok.ret rfl
end Go.Lt.P2

namespace Go.Lt.P2
open Go Go.Lt Go.Proofs
/-- Apart of the reference -/
theorem r38_ok {H : Hp} {v : Sl} {l : List Sd} {x : Pr} (hv : SL H v l) (hb : l.length ≤ 1000) (hs : ∀ s ∈ l, sideP s) (hx : (-100 ≤ x.1 ∧ x.1 ≤ 100) ∧ -100 ≤ x.2 ∧ x.2 ≤ 100) : Ok (r38 v x.1 x.2 H) fun r H' => Gr H H' ∧ r = apt x l := by
  unfold r38
  refine Ok.box2 (.nil H) fun A gA c => ?_
  have hlen := hv.len
  rw [hlen]
  refine Ok.loop (L := fun K (s : Int) H2 => r38_l0 K H.n _ v l.length s H2) (fun m s H' => Cx H H' [((H.push (.cells [.int .i64 x.1, .int .i64 x.2] false)).n, [.int .i64 0, .int .i64 0, .int .i64 0]), (H.n, [.int .i64 x.1, .int .i64 x.2])] ∧ ∃ i : Nat, s = i ∧ i + m = l.length ∧ apt x l = apt x (l.drop i)) ?_ FUEL l.length 0 A (by unfold FUEL; omega) ⟨c, 0, rfl, by omega, rfl⟩
  rintro K m s H1 ⟨c, i, rfl, hm, ht⟩ ih
  try dsimp only at *
  rw [r38_l0]
  by_cases h : i < l.length
  · have hg := hv.gr c.g
    have hx' := hs _ (List.getElem_mem h)
    rw [List.drop_eq_getElem_cons h, apt] at ht
    refine Ok.pos (by omega) (Ok.ck (by omega) (Ok.ld (hg.ldI (i := i) (j := 0) h rfl) (Ok.ld (hg.ldI (i := i) (j := 1) h rfl) (Ok.ld (hg.ldI (i := i) (j := 2) h rfl) (Ok.alo c fun D gD c => ?_)))))
    refine Ok.cld c (.head _) rfl (Ok.cld c (.head _) rfl (Ok.cld c (.head _) rfl (Ok.cld c (.tail _ (.tail _ (.head _))) rfl (Ok.cld c (.tail _ (.tail _ (.head _))) rfl ?_))))
    refine Ok.own (r75_ok hx' (by omega) (by omega) (by omega)) fun X => ?_
    rw [Int.mul_one]
    refine Ok.ite (fun hc => ?_) fun hc => ?_
    · have hk : kp x l[i] := of_decide_eq_true hc
      rw [if_pos hk] at ht
      rw [w64_succ (by omega)]
      exact ih (m - 1) _ D (by omega) ⟨c.weak (.cons _ (.refl _)), i + 1, rfl, by omega, ht⟩
    · have hk : ¬ kp x l[i] := fun q => hc (decide_eq_true q)
      rw [if_neg hk] at ht
      refine Ok.cld c (.head _) rfl (Ok.cld c (.head _) rfl (Ok.cld c (.head _) rfl (Ok.cst c 1 rfl rfl fun F _ _ c => ?_)))
      refine Ok.cld c (.tail _ (.head _)) rfl (Ok.cld c (.tail _ (.head _)) rfl (Ok.cld c (.tail _ (.head _)) rfl (Ok.ret ⟨c.g, ht.symm⟩)))
  · rw [List.drop_of_length_le (by omega)] at ht
    refine Ok.neg (by omega) (Ok.cst c 0 rfl rfl fun D _ _ c => ?_)
    exact Ok.cld c (.head _) rfl (Ok.cld c (.head _) rfl (Ok.cld c (.head _) rfl (Ok.ret ⟨c.g, ht.symm⟩)))
end Go.Lt.P2

namespace Go.Lt.P2
open Go Go.Lt Go.Proofs
def mv (u v : Int) (s : Sd) : Sd := (s.1, s.2.1, s.2.2 + (s.1 * u + s.2.1 * v))
def mvOk (u v : Int) (s : Sd) : Prop := -40 ≤ (mv u v s).2.2 ∧ (mv u v s).2.2 ≤ 40
instance (u v : Int) (s : Sd) : Decidable (mvOk u v s) := by unfold mvOk; infer_instance
theorem mv_bd {u v : Int} {s : Sd} (hs : sideP s) (hu : -5 ≤ u ∧ u ≤ 5) (hv : -5 ≤ v ∧ v ≤ 5) : (-20 ≤ s.1 * u ∧ s.1 * u ≤ 20) ∧ (-20 ≤ s.2.1 * v ∧ s.2.1 * v ≤ 20) := by
  unfold sideP at hs
  have b1 := mul_bd (A := 4) (B := 5) (x := s.1) (y := u) (by omega) (by omega) (by omega) (by omega)
  have b2 := mul_bd (A := 4) (B := 5) (x := s.2.1) (y := v) (by omega) (by omega) (by omega) (by omega)
  omega
theorem dir_mv {l : List Sd} {u v : Int} {d : Pr} : dirP (l.map (mv u v)) d ↔ dirP l d := by
  unfold dirP
  constructor
  · rintro ⟨t, ht, h⟩
    obtain ⟨s, hs, rfl⟩ := List.mem_map.1 ht
    exact ⟨s, hs, h⟩
  · rintro ⟨s, hs, h⟩
    exact ⟨_, List.mem_map.2 ⟨s, hs, rfl⟩, h⟩
theorem plate_mv {l : List Sd} {u v : Int} (h : plateP l) : plateP (l.map (mv u v)) ↔ ∀ s ∈ l, mvOk u v s := by
  obtain ⟨h1, h2, h3⟩ := h
  constructor
  · rintro ⟨_, k2, _⟩ s hs
    have := k2 _ (List.mem_map.2 ⟨s, hs, rfl⟩)
    unfold sideP at this
    unfold mvOk
    omega
  · intro hk
    refine ⟨by simpa using h1, fun t ht => ?_, fun t ht => ?_⟩
    · obtain ⟨s, hs, rfl⟩ := List.mem_map.1 ht
      have a := h2 s hs
      have b := hk s hs
      unfold sideP at *
      unfold mvOk at b
      show ((-4 ≤ s.1 ∧ _) ∧ _)
      refine ⟨a.1, a.2.1, ?_⟩
      first | exact ⟨a.2.2.1, b.1, b.2⟩ | exact ⟨b.1, b.2⟩ | (unfold mv at *; dsimp only at *; omega)
    · obtain ⟨s, hs, rfl⟩ := List.mem_map.1 ht
      have := h3 s hs
      exact ⟨dir_mv.2 this.1, dir_mv.2 this.2⟩
end Go.Lt.P2

namespace Go.Lt.P2
open Go Go.Lt Go.Proofs
def mvR (l : List Sd) (u v : Int) : Int × List Sd := if plateP l ∧ ((-5 ≤ u ∧ u ≤ 5) ∧ -5 ≤ v ∧ v ≤ 5) then if ∀ s ∈ l, mvOk u v s then (0, l.map (mv u v)) else (4, []) else (2, [])
/-- Move -/
theorem r33_ok {k : Nat} {H : Hp} {w : Sl} {l : List Sd} {u v : Int} (hv : SL H w l) (hb : l.length ≤ 1000) : Ok (r33 (appA (k + 1)) w u v H) fun r H' => Gr H H' ∧ SL H' r.1 (mvR l u v).2 ∧ r.2 = (mvR l u v).1 ∧ (r.2 = 0 ∨ r.1.nil = true) := by
  unfold r33
  refine Ok.bind (r63_ok hv hb) fun b A ⟨gA, hbb⟩ => ?_
  subst hbb
  have bad : ∀ {B : Hp}, ¬ (plateP l ∧ ((-5 ≤ u ∧ u ≤ 5) ∧ -5 ≤ v ∧ v ≤ 5)) → Gr H B → Ok (r33_j1 (appA (k + 1)) w u v true B) fun r H' => Gr H H' ∧ SL H' r.1 (mvR l u v).2 ∧ r.2 = (mvR l u v).1 ∧ (r.2 = 0 ∨ r.1.nil = true) := fun {B} hn g => by
    unfold r33_j1 mvR
    rw [if_neg hn]
    exact Ok.pos rfl (Ok.ret ⟨g, .nilS, rfl, .inr rfl⟩)
  by_cases hp : plateP l
  · rw [decide_eq_true hp]
    refine Ok.pos rfl ?_
    have gp := Gr.push A (.cells [.int .i64 u, .int .i64 v] false)
    have hs : SL (T := Int) (A.push (.cells [.int .i64 u, .int .i64 v] false)) ⟨false, A.n, 0, 2, 2, 0⟩ [u, v] := .of_get (ro := false) (Hp.get_push_new _ _) rfl rfl (Nat.le_refl _) (.inl rfl) rfl
    refine Ok.bind (r79_ok (k := k) (c := 5) (by omega) hs (by simp)) fun r C ⟨gC, hr⟩ => ?_
    subst hr
    have gHC := gA.trans (gp.trans gC)
    rw [Bool.not_not]
    by_cases h1 : ∃ y ∈ [u, v], y < -5 ∨ 5 < y
    · rw [decide_eq_true h1]
      refine bad (fun hn => ?_) gHC
      obtain ⟨y, hy, h2⟩ := h1
      simp only [List.mem_cons, List.not_mem_nil, or_false] at hy
      rcases hy with rfl | rfl <;> omega
    · rw [decide_eq_false h1]
      have q1 : ¬ (u < -5 ∨ 5 < u) := fun q => h1 ⟨u, by simp, q⟩
      have q2 : ¬ (v < -5 ∨ 5 < v) := fun q => h1 ⟨v, by simp, q⟩
      have e : mvR l u v = if ∀ s ∈ l, mvOk u v s then (0, l.map (mv u v)) else (4, []) := by unfold mvR; rw [if_pos ⟨hp, by omega, by omega, by omega⟩]
      rw [e]
      unfold r33_j1
      refine Ok.neg (by simp) ?_
      show Ok ((cloneR 3 w C).bind _) _
      have hvC := hv.gr gHC
      refine Ok.bind (clone_ok hvC (by omega) rfl) fun o B ⟨gB, _, _, hw⟩ => ?_
      obtain ⟨ow, hwb⟩ := hw (hv.nonnil (by intro c; have := hp.1.1; rw [c] at this; simp at this))
      have hol := ow.len
      rw [show o.len = l.length by omega]
      refine Ok.loop (L := fun K (s : Int) H2 => r33_l0 (appA (k + 1)) K u v o o l.length s H2) (fun m s H' => Gr H H' ∧ Gr C H' ∧ ∃ i : Nat, s = i ∧ i + m = l.length ∧ Own H' o ((l.take i).map (mv u v) ++ l.drop i)) ?_ FUEL l.length 0 B (by unfold FUEL; omega) ⟨gHC.trans gB, gB, 0, rfl, by omega, by simpa using ow⟩
      rintro K m s H1 ⟨g1, gC1, i, rfl, hm, o1⟩ ih
      try dsimp only at *
      rw [r33_l0]
      by_cases h : i < l.length
      · have hx := hp.2.1 _ (List.getElem_mem h)
        have bd := mv_bd (u := u) (v := v) hx (by omega) (by omega)
        unfold sideP at hx
        have hql := mix_len (f := mv u v) (show i ≤ l.length by omega)
        have hwl := o1.len
        have hat := mix_at (f := mv u v) h
        have hg := o1.sl
        have hq : i < ((l.take i).map (mv u v) ++ l.drop i).length := by omega
        have l0 := hg.ldI (i := i) (j := 0) (n := l[i].1) hq (by rw [hat]; rfl)
        have l1 := hg.ldI (i := i) (j := 1) (n := l[i].2.1) hq (by rw [hat]; rfl)
        have l2 := hg.ldI (i := i) (j := 2) (n := l[i].2.2) hq (by rw [hat]; rfl)
        obtain ⟨E, hE, hE', gE, nE⟩ := sts3 H1 (.int .i64 l[i].1) (.int .i64 l[i].2.1) (.int .i64 l[i].2.2) (.int .i64 0) (.int .i64 0) (.int .i64 0)
        have oE := o1.gr gE
        have l2' := oE.sl.ldI (i := i) (j := 2) (n := l[i].2.2) hq (by rw [hat]; rfl)
        refine Ok.pos (by omega) (Ok.ck (by omega) (Ok.ld l0 (Ok.ld l1 (Ok.ld l2 (Ok.ld hE (Ok.ck (by omega) (Ok.ld l2' (Ok.ld (ldI_get hE' rfl) (Ok.ld (ldI_get hE' rfl) (Ok.ck (by omega) ?_))))))))))
        have hwn : o.b < H1.n := Hp.get_lt o1.get
        rw [w64_id (n := _ * u) (by omega) (by omega), w64_id (n := _ * v) (by omega) (by omega), w64_id (n := _ + _ * v) (by omega) (by omega), w64_id (by omega) (by omega)]
        refine Own.put1 oE (j := i) (k := 2) (l[i].2.2 + (l[i].1 * u + l[i].2.1 * v)) (by omega) (by omega) rfl fun G oG onG nG => ?_
        rw [w64_succ (by omega)]
        have only : Only o.b H1 G := (Gr.only gE).trans onG
        refine ih (m - 1) _ G (by omega) ⟨only.gr g1 (by have := gHC.1; omega), only.gr gC1 hwb, i + 1, rfl, by omega, ?_⟩
        rw [hat] at oG
        rw [← set_mix (f := mv u v) h]
        exact oG
      · have hi : i = l.length := by omega
        subst hi
        rw [List.take_length, List.drop_length, List.append_nil] at o1
        refine Ok.neg (by omega) (Ok.bind (r63_ok o1.sl (by simpa using hb)) fun b D ⟨gD, hbb⟩ => ?_)
        subst hbb
        have e2 := plate_mv (u := u) (v := v) hp
        by_cases hk : ∀ s ∈ l, mvOk u v s
        · rw [decide_eq_true (e2.2 hk)]
          simp only [if_pos hk]
          exact Ok.pos (by simp) (Ok.ret ⟨g1.trans gD, o1.sl.gr gD, rfl, .inl rfl⟩)
        · rw [decide_eq_false (fun q => hk (e2.1 q))]
          simp only [if_neg hk]
          exact Ok.neg (by simp) (Ok.ret ⟨g1.trans gD, .nilS, rfl, .inr rfl⟩)
  · rw [decide_eq_false hp]
    exact Ok.neg (by simp) (bad (fun q => hp q.1) gA)
end Go.Lt.P2

namespace Go.Lt.P2
open Go Go.Lt Go.Proofs
/-- Move of the reference -/
theorem r39_ok {H : Hp} {w : Sl} {l : List Sd} {u v : Int} (hv : SL H w l) (hb : l.length ≤ 1000) (hs : ∀ s ∈ l, sideP s) (hu : -5 ≤ u ∧ u ≤ 5) (hw : -5 ≤ v ∧ v ≤ 5) : Ok (r39 w u v H) fun r H' => Gr H H' ∧ SL H' r.1 (if ∀ s ∈ l, mvOk u v s then l.map (mv u v) else []) ∧ r.2 = if ∀ s ∈ l, mvOk u v s then 0 else 4 := by
  unfold r39
  have hlen := hv.len
  rw [hlen]
  refine Ok.loop (L := fun K (s : Sl × Int) H2 => r39_l0 K u v s.1 w l.length s.2 H2) (fun m s H' => Gr H H' ∧ ∃ i : Nat, s.2 = i ∧ i + m = l.length ∧ AccL H.n H' s.1 ((l.take i).map (mv u v)) ∧ ∀ s ∈ l.take i, mvOk u v s) ?_ FUEL l.length (⟨true, 0, 0, 0, 0, 0⟩, 0) H (by unfold FUEL; omega) ⟨.refl _, 0, rfl, by omega, by simpa using AccL.nilS, by simp⟩
  rintro K m ⟨z, s⟩ H1 ⟨g1, i, rfl, hm, ha, ht⟩ ih
  try dsimp only at *
  rw [r39_l0]
  by_cases h : i < l.length
  · have hg := hv.gr g1
    have hx := hs _ (List.getElem_mem h)
    have bd := mv_bd (u := u) (v := v) hx (by omega) (by omega)
    have hx' := hx
    unfold sideP at hx'
    have c0 : Cx H1 H1 [] := .nil H1
    refine Ok.pos (by omega) (Ok.ck (by omega) (Ok.ld (hg.ldI (i := i) (j := 0) h rfl) (Ok.ld (hg.ldI (i := i) (j := 1) h rfl) (Ok.ld (hg.ldI (i := i) (j := 2) h rfl) (Ok.alo c0 fun D gD c => ?_)))))
    refine Ok.cld c (.head _) rfl (Ok.cld c (.head _) rfl (Ok.cld c (.head _) rfl ?_))
    rw [w64_id (n := _ * u) (by omega) (by omega), w64_id (n := _ * v) (by omega) (by omega), w64_id (n := _ + _ * v) (by omega) (by omega), w64_id (by omega) (by omega)]
    refine Ok.cst1 c 0 rfl (by simp) fun F _ _ c => Ok.cld c (.head _) rfl ?_
    have key : ∀ b : Bool, b = !decide (mvOk u v l[i]) → Ok (r39_j1 (fun v1_ v2_ v3_ v4_ v5_ v6_ H_ => r39_l0 K v1_ v2_ v3_ v4_ v5_ v6_ H_) u v z H1.n w l.length i b F) fun r H' => Gr H H' ∧ SL H' r.1 (if ∀ s ∈ l, mvOk u v s then l.map (mv u v) else []) ∧ r.2 = if ∀ s ∈ l, mvOk u v s then 0 else 4 := fun b hbb => by
      unfold r39_j1
      refine Ok.ite (fun hc => ?_) fun hc => ?_
      · have hk : ¬ mvOk u v l[i] := fun q => by rw [decide_eq_true q] at hbb; rw [hbb] at hc; cases hc
        rw [if_neg fun q => hk (q _ (List.getElem_mem h)), if_neg fun q => hk (q _ (List.getElem_mem h))]
        exact Ok.ret ⟨g1.trans c.g, .nilS, rfl⟩
      · have hk : mvOk u v l[i] := Classical.byContradiction fun q => by rw [decide_eq_false q] at hbb; exact hc hbb
        refine Ok.cld c (.head _) rfl (Ok.cld c (.head _) rfl (Ok.cld c (.head _) rfl ?_))
        refine Ok.bind ((ha.gr c.g).push (g1.trans c.g) (mv u v l[i]) rfl rfl (by rw [List.length_map, List.length_take]; omega)) fun w2 H3 ⟨ha3, g3, _⟩ => ?_
        rw [w64_succ (by omega)]
        refine ih (m - 1) (w2, _) H3 (by omega) ⟨g3, i + 1, rfl, by omega, ?_, forall_take h ht hk⟩
        rw [List.take_succ_eq_append_getElem h, List.map_append]
        exact ha3
    refine Ok.ite (fun hc => ?_) fun hc => Ok.cld c (.head _) rfl ?_
    · refine key _ ?_
      rw [decide_eq_false]
      · rfl
      · unfold mvOk mv; dsimp only; omega
    · refine key _ ?_
      refine Bool.eq_iff_iff.2 ?_
      rw [decide_eq_true_iff, Bool.not_eq_true', decide_eq_false_iff_not]
      unfold mvOk mv; dsimp only; omega
  · rw [List.take_of_length_le (by omega)] at ha ht
    rw [if_pos ht, if_pos ht]
    exact Ok.neg (by omega) (Ok.ret ⟨g1, ha.sl, rfl⟩)
end Go.Lt.P2
