/- PLAIN LAWS OF WHAT IS COMPUTED, for the statement 'CutsSharp'. Nothing is asked of the input. -/
import Derived.Test.YteefkljbmjjncaaU13XWm
import Derived.Test.YteefkljbmjjncaaU13XIr
set_option linter.unusedVariables false
set_option linter.unusedSimpArgs false
namespace Go.Lt.P2
open Go Go.Lt Go.Proofs
theorem cs_len15 {l : List Sd} (h6 : l.length ≤ 6) : (cs l).length ≤ 15 := by
  have h := cs_tri l l.length
  have : tri l.length ≤ 15 := by
    rcases (show l.length = 0 ∨ l.length = 1 ∨ l.length = 2 ∨ l.length = 3 ∨ l.length = 4 ∨ l.length = 5 ∨ l.length = 6 by omega) with h | h | h | h | h | h | h <;> rw [h] <;> decide
  exact Nat.le_trans h this
/-- Corners -/
theorem r51_ok {k : Nat} {H : Hp} {v : Sl} {l : List Sd} (hv : SL H v l) (hb : l.length ≤ 1000) : Ok (r51 (appA (k + 2)) v H) fun r H' => Gr H H' ∧ if plateP l then SL H' r.1 (rcs (cs l)) ∧ r.2 = 0 else r = (⟨true, 0, 0, 0, 0, 0⟩, 2) := by
  unfold r51
  refine Ok.bind (r63_ok (k := k + 1) hv hb) fun b A ⟨gA, hbb⟩ => ?_
  subst hbb
  by_cases hp : plateP l
  case neg =>
    rw [decide_eq_false hp]
    simp only [if_neg hp]
    exact Ok.neg (by simp) (Ok.ret ⟨gA, rfl⟩)
  rw [decide_eq_true hp]
  simp only [if_pos hp]
  have h6 := hp.1.2
  have hs := hp.2.1
  have hl15 := cs_len15 h6
  refine Ok.pos (by simp) (Ok.lt ?_)
  have hvA := hv.gr gA
  show Ok ((callr (appA (k + 2)) (.fn 66 [.sl v] []) ((A.push (cel [.sl ⟨true, 0, 0, 0, 0, 0⟩])).n + 1) (((A.push (cel [.sl ⟨true, 0, 0, 0, 0, 0⟩])).push .dfr).push (.loop .ready none 1 21 [(4, .ptr A.n 0)]))).bind _) _
  have c0 : Cb A A [] := .start (fun _ h => by cases h) .nil
  have c := ((c0.push (cel [.sl ⟨true, 0, 0, 0, 0, 0⟩])).push .dfr).push (.loop .ready none 1 21 [(4, .ptr A.n 0)])
  simp only [Hp.n_push] at c ⊢
  generalize ((A.push (cel [.sl ⟨true, 0, 0, 0, 0, 0⟩])).push .dfr).push (.loop .ready none 1 21 [(4, .ptr A.n 0)]) = D at *
  have gD : Gr A D := ⟨c.n, fun b hb => c.g b hb fun p hp => by simp only [List.mem_cons, List.not_mem_nil, or_false] at hp; rcases hp with rfl | rfl | rfl <;> dsimp only <;> omega⟩
  have lD := c.lt (.head _)
  have hI : ccI A (fun _ => False) [] ⟨true, 0, 0, 0, 0, 0⟩ D := ⟨gD, c.e _ (.tail _ (.tail _ (.head _))), c.e _ (.tail _ (.head _)), c.e _ (.head _), AccL.nilS, by dsimp only at lD; omega, fun _ h => h.elim⟩
  refine Ok.bind (P := fun _ H' => ∃ w, ccI A (fun _ => False) (cs l) w H') ?_ fun r E hE => ?_
  · show Ok ((r66 (app (k + 1)) v (.yld (A.n + 2)) D).map fun p => (AV.tup [], p.2)) _
    have h1 : Ok (r66 (app (k + 1)) v (.yld (A.n + 2)) D) fun _ H' => ∃ w, ccI A (fun _ => False) (cs l) w H' := by
      refine Ok.mono (r66_ok (a95 k) (ccY (k := k) (by omega) A) hvA hb hs (P := fun _ => False) ⟨_, hI⟩) fun _ H' h => ?_
      rcases h with h | ⟨_, _, h⟩
      · exact h
      · exact h.elim
    obtain ⟨r, H', e, h⟩ := h1
    rw [e]
    exact Ok.ret h
  obtain ⟨w, hE⟩ := hE
  have hn := hE.n
  have hend : E.lend (A.n + 2) = some (none, E.set (A.n + 2) .dead) := by unfold Hp.lend; rw [hE.l]
  refine Ok.ld hend (Ok.pos rfl ?_)
  dsimp only
  generalize hF : E.set (A.n + 2) .dead = F
  have oF : ∀ x, x ≠ A.n + 2 → F.get x = E.get x := fun x hx => by rw [← hF, Hp.get_set_other _ _ hx]
  have nF : F.n = E.n := by rw [← hF]; simp
  clear hF
  have sF : F.get A.n = some (.cells [.sl w] false) := by rw [oF _ (by omega)]; exact hE.o
  have dF : F.get (A.n + 1) = some .dfr := by rw [oF _ (by omega)]; exact hE.d
  have aF : AccL (A.n + 3) F w ((cs l).map (·.1)) := Acc.keep hE.a fun hn => oF _ (by have := low hE.a hn; omega)
  have gF : Gr A F := ⟨by have := hE.g.1; omega, fun b hb => by rw [oF _ (by omega)]; exact hE.g.2 b hb⟩
  have hq15 : ((cs l).map (·.1)).length ≤ 15 := by rw [List.length_map]; exact hl15
  have hqp : ∀ x ∈ (cs l).map (·.1), qp x := fun x hx => by
    obtain ⟨c, hc, rfl⟩ := List.mem_map.1 hx
    have m := cs_mem hc
    rw [m.2.2.2.1]
    exact meet_qp (hs _ m.1) (hs _ m.2.1) m.2.2.1
  have hmem : ∀ x, x ∈ rcs (cs l) ↔ x ∈ (cs l).map (·.1) := fun x => by
    rw [mem_rcs, List.mem_map]
  have hkill : ∀ {G : Hp}, G.get (A.n + 1) = some .dfr → Go.Lt.kill [A.n + 1] G = G.set (A.n + 1) .dead := fun _ => rfl
  -- the end
  have fin : ∀ (u : Sl) (G : Hp) (r : List Pq), A.n + 3 ≤ G.n → Gr A G → G.get (A.n + 1) = some .dfr → (u.nil = false → u.b ≠ A.n + 1) → SL G u r → r = rcs (cs l) → Ok (ck (dfrB [A.n + 1] G = true) (some ((u, (0 : Int)), Go.Lt.kill [A.n + 1] G))) fun r H' => Gr H H' ∧ SL H' r.1 (rcs (cs l)) ∧ r.2 = 0 := fun u G r nG gG dG hu hsl hr => by
    subst hr
    refine Ok.ck (by simp [dfrB, Hp.isDfr, dG]) (Ok.ret ⟨gA.trans ⟨?_, fun b hb => ?_⟩, ?_, rfl⟩)
    · show A.n ≤ (G.set (A.n + 1) .dead).n
      simp; omega
    · show (G.set (A.n + 1) .dead).get b = _
      rw [Hp.get_set_other _ _ (by omega)]; exact gG.2 b hb
    · show SL (G.set (A.n + 1) .dead) u _
      cases hnn : u.nil with
      | true =>
        obtain ⟨rfl, hr⟩ := hsl.nil hnn
        rw [hr]; exact .nilS
      | false => exact SL.congr hsl (Hp.get_set_other _ _ (hu hnn))
  refine Ok.ld (ldSl_get sF rfl) ?_
  cases hnil : w.nil with
  | true =>
    have hw : w = ⟨true, 0, 0, 0, 0, 0⟩ ∧ (cs l).map (·.1) = [] := by
      obtain ⟨h1, h2⟩ := (AccL.sl aF).nil hnil
      exact ⟨h1, h2⟩
    obtain ⟨rfl, hnl⟩ := hw
    have hrc : [] = rcs (cs l) := by
      rw [List.map_eq_nil_iff.1 hnl]; rfl
    have e86 : Ok (r86 (appA (k + 2)) ⟨true, 0, 0, 0, 0, 0⟩ (.fn 87 [] []) F) fun _ H' => H' = F := by
      unfold r86
      obtain ⟨x, e, _⟩ := r109_small (n := 0) (by decide) F
      refine Ok.ld e ?_
      unfold r108
      rw [show FUEL = 18446744073709551615 + 1 from rfl, r108_l0]
      refine Ok.bind (P := fun _ H' => H' = F) (Ok.pos (by decide +kernel) (Ok.bind (P := fun _ H' => H' = F) ?_ fun _ _ h => Ok.ret h)) fun _ _ h => Ok.ret h
      unfold r114
      rw [show FUEL = 18446744073709551615 + 1 from rfl, r114_l0]
      exact Ok.neg (by decide +kernel) (Ok.ret rfl)
    refine Ok.bind e86 fun _ G hG => ?_
    subst hG
    refine Ok.ld (ldSl_get sF rfl) ?_
    unfold r90
    refine Ok.bind (P := fun u H' => H' = G ∧ u = ⟨true, 0, 0, 0, 0, 0⟩) (Ok.pos (by decide) (Ok.ret ⟨rfl, rfl⟩)) fun u I ⟨hI1, hu⟩ => ?_
    subst hI1 hu
    exact fin _ _ [] (show A.n + 3 ≤ I.n by omega) gF dF (fun h => by cases h) .nilS hrc
  | false =>
    have hown : Own F w ((cs l).map (·.1)) ∧ A.n + 3 ≤ w.b := by
      have hlen := AccL.len aF
      rcases aF with ⟨rfl, e⟩ | ⟨h1, h2, h3, h4, h5, h6', h7⟩
      · cases hnil
      · exact ⟨⟨h1, h2, hlen, by omega, .inr h3, h6'⟩, h5⟩
    obtain ⟨ow, hwb⟩ := hown
    have hbig : 12 < ((cs l).map (·.1)).length → ∃ P, ∀ x ∈ (cs l).map (·.1), x = P := fun h => by
      rw [List.length_map] at h
      obtain ⟨P, hP⟩ := cs_big hs h6 h
      refine ⟨P, fun x hx => ?_⟩
      obtain ⟨c, hc, rfl⟩ := List.mem_map.1 hx
      exact hP c hc
    refine Ok.bind (r86_ok (k := k + 1) (says87 (k + 1)) hqp hq15 hbig ow) fun _ G ⟨q', oG, onG, hperm, hso⟩ => ?_
    have hwF := Hp.get_lt ow.get
    have sG : G.get A.n = some (.cells [.sl w] false) := by rw [onG.2 _ (by omega) (by omega)]; exact sF
    refine Ok.ld (ldSl_get sG rfl) ?_
    refine Ok.bind (r90_ok oG (by have := hperm.length_eq; omega) hso) fun u I ⟨⟨onI, hub⟩, r, hr, hsrt, hrm⟩ => ?_
    have on := onG.trans onI
    have dI : I.get (A.n + 1) = some .dfr := by rw [on.2 _ (by omega) (by omega)]; exact dF
    have gI : Gr A I := ⟨Nat.le_trans gF.1 on.1, fun b hb => by rw [on.2 b (by omega) (by omega)]; exact gF.2 b hb⟩
    refine fin u I r (by have := on.1; omega) gI dI ?_ hr (srt_uniq hsrt (rcs_srt _) fun x => by rw [hrm, hperm.mem_iff, hmem])
    intro _
    rw [hub]; omega
end Go.Lt.P2

namespace Go.Lt.P2
open Go Go.Lt Go.Proofs
/-- Of -/
theorem r18_ok {H : Hp} {v : Sl} {l : List Sd} (hv : SL H v l) (hb : l.length < 9223372036854775808) : Ok (r18 v H) fun w H' => Gr H H' ∧ SL H' w (l.take 9) := by
  unfold r18
  have hlen := hv.len
  rw [hlen]
  refine Ok.loop (L := fun K (s : Sl × Int) H2 => r18_l0 K s.1 v l.length s.2 H2) (fun m s H' => Gr H H' ∧ ∃ i : Nat, s.2 = i ∧ i + m = l.length ∧ AccL H.n H' s.1 ((l.take i).take 9)) ?_ FUEL l.length (⟨true, 0, 0, 0, 0, 0⟩, 0) H (by unfold FUEL; omega) ⟨.refl _, 0, rfl, by omega, by simpa using AccL.nilS⟩
  rintro K m ⟨w, s⟩ H1 ⟨g1, i, rfl, hm, ha⟩ ih
  try dsimp only at *
  rw [r18_l0]
  by_cases h : i < l.length
  · have hg := hv.gr g1
    obtain ⟨E, hE, hE', gE, nE⟩ := sts3 H1 (.int .i64 l[i].1) (.int .i64 l[i].2.1) (.int .i64 l[i].2.2) (.int .i64 0) (.int .i64 0) (.int .i64 0)
    have gB := g1.trans gE
    refine Ok.pos (by omega) (Ok.ck (by omega) (Ok.ld (hg.ldI (i := i) (j := 0) h rfl) (Ok.ld (hg.ldI (i := i) (j := 1) h rfl) (Ok.ld (hg.ldI (i := i) (j := 2) h rfl) (Ok.ld hE ?_)))))
    refine Ok.ite (fun c => Ok.ld (ldI_get hE' rfl) (Ok.ld (ldI_get hE' rfl) (Ok.ld (ldI_get hE' rfl) ?_))) fun c => ?_
    · have ha' := ha.gr gE
      rw [List.take_of_length_le (by rw [List.length_take]; omega)] at ha'
      refine Ok.bind (ha'.push gB l[i] rfl rfl (by rw [List.length_take]; omega)) fun w2 H3 ⟨ha3, g3, _⟩ => ?_
      rw [w64_succ (by omega)]
      refine ih (m - 1) (w2, _) H3 (by omega) ⟨g3, i + 1, rfl, by omega, ?_⟩
      rw [List.take_succ_eq_append_getElem h, List.take_of_length_le (by simp; omega)]
      exact ha3
    · rw [w64_succ (by omega)]
      refine ih (m - 1) (w, _) E (by omega) ⟨gB, i + 1, rfl, by omega, ?_⟩
      rw [List.take_take, Nat.min_eq_left (by omega)] at ha ⊢
      exact ha.gr gE
  · have hi : i = l.length := by omega
    subst hi
    rw [List.take_length] at ha
    exact Ok.neg (by omega) (Ok.ret ⟨g1, ha.sl⟩)
end Go.Lt.P2

namespace Go.Lt.P2
open Go Go.Lt Go.Proofs
def onP (l : List Sd) (s : Sd) (g : Int) : Prop := ∀ t ∈ l, g * (t.2.1 * s.1 - t.1 * s.2.1) ≤ 0
instance (l : List Sd) (s : Sd) (g : Int) : Decidable (onP l s g) := by unfold onP; infer_instance
theorem onP_one {l : List Sd} {s : Sd} : ¬ onP l s 1 ↔ dirP l (-s.2.1, s.1) := by
  unfold onP dirP
  simp only [Classical.not_forall]
  constructor
  · rintro ⟨t, ht, h⟩
    refine ⟨t, ht, ?_⟩
    try dsimp only
    rw [Int.mul_neg]
    omega
  · rintro ⟨t, ht, h⟩
    refine ⟨t, ht, ?_⟩
    try dsimp only at h
    rw [Int.mul_neg] at h
    omega
theorem onP_neg {l : List Sd} {s : Sd} : ¬ onP l s (-1) ↔ dirP l (s.2.1, -s.1) := by
  unfold onP dirP
  simp only [Classical.not_forall]
  constructor
  · rintro ⟨t, ht, h⟩
    refine ⟨t, ht, ?_⟩
    try dsimp only
    rw [Int.mul_neg]
    omega
  · rintro ⟨t, ht, h⟩
    refine ⟨t, ht, ?_⟩
    try dsimp only at h
    rw [Int.mul_neg] at h
    omega
section
variable {Q : Bool → Hp → Prop}
theorem r19_l5_ok {H : Hp} {v vv : Sl} {l : List Sd} {sb : Nat} {s : Sd} {g ln iv : Int} (hv : SL H v l) (hb : l.length ≤ 6) (hs : ∀ s ∈ l, sideP s) (hss : sideP s) (hg : g = 1 ∨ g = -1) (hsb : H.get sb = some (.cells [.int .i64 s.1, .int .i64 s.2.1, .int .i64 s.2.2] false))
    {kt4 : Sl → Nat → Int → Sl → Int → Int → Hp → Option (Bool × Hp)} (kf : ∀ H', Gr H H' → onP l s g → Q false H') (k : ∀ H', Gr H H' → ¬ onP l s g → Ok (kt4 v sb (w64 (g + 2)) vv ln iv H') Q) : Ok (r19_l5 kt4 FUEL v sb g true vv ln iv v l.length 0 H) Q := by
  have hlen := hv.len
  refine Ok.loop (L := fun K (t : Bool × Int) H2 => r19_l5 kt4 K v sb g t.1 vv ln iv v l.length t.2 H2) (fun m t H' => ∃ i : Nat, t.2 = i ∧ i + m = l.length ∧ Gr H H' ∧ t.1 = decide (onP (l.take i) s g)) ?_ FUEL l.length (true, 0) H (by unfold FUEL; omega) ⟨0, rfl, by omega, .refl _, by simp [onP]⟩
  rintro K m ⟨b, t⟩ H1 ⟨i, rfl, hm, g1, hbb⟩ ih
  try dsimp only at *
  subst hbb
  rw [r19_l5]
  by_cases h : i < l.length
  · have hgl := hv.gr g1
    have hx := hs _ (List.getElem_mem h)
    obtain ⟨E, hE, hE', gE, nE⟩ := sts3 H1 (.int .i64 l[i].1) (.int .i64 l[i].2.1) (.int .i64 l[i].2.2) (.int .i64 0) (.int .i64 0) (.int .i64 0)
    have gB := g1.trans gE
    have hsE : E.get sb = some (.cells [.int .i64 s.1, .int .i64 s.2.1, .int .i64 s.2.2] false) := by rw [gB.2 _ (Hp.get_lt hsb)]; exact hsb
    have ek : onP (l.take (i + 1)) s g ↔ onP (l.take i) s g ∧ g * (l[i].2.1 * s.1 - l[i].1 * s.2.1) ≤ 0 := by
      unfold onP
      constructor
      · intro q
        rw [List.take_succ_eq_append_getElem h] at q
        exact ⟨fun t ht => q t (List.mem_append_left _ ht), q _ (List.mem_append_right _ (List.mem_singleton.2 rfl))⟩
      · rintro ⟨q1, q2⟩
        exact forall_take h q1 q2
    refine Ok.pos (by omega) (Ok.ck (by omega) (Ok.ld (hgl.ldI (i := i) (j := 0) h rfl) (Ok.ld (hgl.ldI (i := i) (j := 1) h rfl) (Ok.ld (hgl.ldI (i := i) (j := 2) h rfl) (Ok.ld hE ?_)))))
    by_cases c : onP (l.take i) s g
    · rw [decide_eq_true c]
      refine Ok.pos rfl (Ok.ld (ldI_get hE' rfl) (Ok.ld (ldI_get hsE rfl) (Ok.ld (ldI_get hE' rfl) (Ok.ld (ldI_get hsE rfl) ?_))))
      unfold sideP at hss hx
      have b1 := mul_bd (A := 4) (B := 4) (x := l[i].2.1) (y := s.1) (by omega) (by omega) (by omega) (by omega)
      have b2 := mul_bd (A := 4) (B := 4) (x := l[i].1) (y := s.2.1) (by omega) (by omega) (by omega) (by omega)
      rw [w64_id (n := l[i].2.1 * s.1) (by omega) (by omega), w64_id (n := l[i].1 * s.2.1) (by omega) (by omega), w64_id (n := l[i].2.1 * s.1 - l[i].1 * s.2.1) (by omega) (by omega), w64_id (n := g * (l[i].2.1 * s.1 - l[i].1 * s.2.1)) (by rcases hg with rfl | rfl <;> omega) (by rcases hg with rfl | rfl <;> omega), w64_succ (by omega)]
      exact ih (m - 1) (_, _) E (by omega) ⟨i + 1, rfl, by omega, gB, decide_eq_decide.2 (by rw [ek]; exact ⟨fun q => ⟨c, q⟩, fun q => q.2⟩)⟩
    · rw [decide_eq_false c]
      refine Ok.neg (by simp) ?_
      rw [w64_succ (by omega)]
      exact ih (m - 1) (_, _) E (by omega) ⟨i + 1, rfl, by omega, gB, (decide_eq_false (fun q => c (ek.1 q).1)).symm⟩
  · rw [List.take_of_length_le (by omega)]
    refine Ok.neg (by omega) ?_
    by_cases c : onP l s g
    · rw [decide_eq_true c]; exact Ok.pos rfl (Ok.ret (kf H1 g1 c))
    · rw [decide_eq_false c]; exact Ok.neg (by simp) (k H1 g1 c)
end
/-- the directions -/
theorem r19_l3_ok {H0' H : Hp} {v : Sl} {l : List Sd} (hv : SL H v l) (hb : l.length ≤ 6) (hs : ∀ s ∈ l, sideP s) (g : Gr H0' H) : Ok (r19_l3 FUEL v v l.length 0 H) fun r H' => Gr H0' H' ∧ r = decide (∀ s ∈ l, dirP l (-s.2.1, s.1) ∧ dirP l (s.2.1, -s.1)) := by
  have hlen := hv.len
  refine Ok.loop (L := fun K (s : Int) H2 => r19_l3 K v v l.length s H2) (fun m s H' => Gr H H' ∧ ∃ i : Nat, s = i ∧ i + m = l.length ∧ ∀ s ∈ l.take i, dirP l (-s.2.1, s.1) ∧ dirP l (s.2.1, -s.1)) ?_ FUEL l.length 0 H (by unfold FUEL; omega) ⟨.refl _, 0, rfl, by omega, by simp⟩
  rintro K m s H1 ⟨g1, i, rfl, hm, ht⟩ ih
  try dsimp only at *
  rw [r19_l3]
  by_cases h : i < l.length
  · have hg := hv.gr g1
    have hmem : l[i] ∈ l := List.getElem_mem h
    have hsd := hs _ hmem
    obtain ⟨E, hE, hE', gE, nE⟩ := sts3 H1 (.int .i64 l[i].1) (.int .i64 l[i].2.1) (.int .i64 l[i].2.2) (.int .i64 0) (.int .i64 0) (.int .i64 0)
    refine Ok.pos (by omega) (Ok.ck (by omega) (Ok.ld (hg.ldI (i := i) (j := 0) h rfl) (Ok.ld (hg.ldI (i := i) (j := 1) h rfl) (Ok.ld (hg.ldI (i := i) (j := 2) h rfl) (Ok.ld hE ?_)))))
    have gB := g1.trans gE
    have bad : ∀ H', Gr E H' → ¬ (dirP l (-l[i].2.1, l[i].1) ∧ dirP l (l[i].2.1, -l[i].1)) → Gr H0' H' ∧ false = decide (∀ s ∈ l, dirP l (-s.2.1, s.1) ∧ dirP l (s.2.1, -s.1)) := fun H' gH hno => ⟨g.trans (gB.trans gH), by rw [decide_eq_false (fun q => hno (q _ hmem))]⟩
    rw [show FUEL = 18446744073709551613 + 1 + 1 + 1 from rfl, r19_l4]
    refine Ok.pos (by decide) ?_
    rw [hlen]
    refine r19_l5_ok (hv.gr gB) hb hs hsd (.inr rfl) hE' (fun H' gH hon => bad H' gH fun q => (onP_neg.2 q.2) hon) fun H2 g2 hn1 => ?_
    rw [show w64 (-1 + 2) = 1 by decide +kernel, r19_l4]
    refine Ok.pos (by decide) ?_
    rw [hlen]
    refine r19_l5_ok (hv.gr (gB.trans g2)) hb hs hsd (.inl rfl) (by rw [g2.2 _ (Hp.get_lt hE')]; exact hE') (fun H' gH hon => bad H' (g2.trans gH) fun q => (onP_one.2 q.1) hon) fun H3 g3 hn2 => ?_
    rw [show w64 (1 + 2) = 3 by decide +kernel, r19_l4]
    refine Ok.neg (by decide) ?_
    rw [w64_succ (by omega)]
    exact ih (m - 1) _ H3 (by omega) ⟨gB.trans (g2.trans g3), i + 1, rfl, by omega, forall_take h ht ⟨onP_one.1 hn2, onP_neg.1 hn1⟩⟩
  · rw [List.take_of_length_le (by omega)] at ht
    exact Ok.neg (by omega) (Ok.ret ⟨g.trans g1, by rw [decide_eq_true ht]⟩)
/-- Plate of the reference -/
theorem r19_ok {H : Hp} {v : Sl} {l : List Sd} (hv : SL H v l) : Ok (r19 v H) fun r H' => Gr H H' ∧ r = decide (plateP l) := by
  unfold r19
  have hlen := hv.len
  by_cases h3 : l.length < 3
  · refine Ok.pos (by omega) ?_
    unfold r19_j0
    exact Ok.pos rfl (Ok.ret ⟨.refl _, by rw [decide_eq_false (fun h => by have := h.1.1; omega)]⟩)
  · refine Ok.neg (by omega) ?_
    unfold r19_j0
    by_cases h6 : 6 < l.length
    · exact Ok.pos (by rw [decide_eq_true_iff]; omega) (Ok.ret ⟨.refl _, by rw [decide_eq_false (fun h => by have := h.1.2; omega)]⟩)
    · refine Ok.neg (by rw [decide_eq_true_iff]; omega) ?_
      rw [hlen]
      refine Ok.loop (L := fun K (s : Int) H2 => r19_l1 K v v l.length s H2) (fun m s H' => Gr H H' ∧ ∃ i : Nat, s = i ∧ i + m = l.length ∧ ∀ s ∈ l.take i, sideP s) ?_ FUEL l.length 0 H (by unfold FUEL; omega) ⟨.refl _, 0, rfl, by omega, by simp⟩
      rintro K m s H1 ⟨g1, i, rfl, hm, ht⟩ ih
      try dsimp only at *
      rw [r19_l1]
      by_cases h : i < l.length
      · have hg := hv.gr g1
        have hmem : l[i] ∈ l := List.getElem_mem h
        obtain ⟨E, hE, hE', gE, nE⟩ := sts3 H1 (.int .i64 l[i].1) (.int .i64 l[i].2.1) (.int .i64 l[i].2.2) (.int .i64 0) (.int .i64 0) (.int .i64 0)
        have gB := g1.trans gE
        have j2 : ∀ b, b = !decide (sideP l[i]) → Ok (r19_j2 (fun v1_ v2_ v3_ v4_ H_ => r19_l1 K v1_ v2_ v3_ v4_ H_) v v l.length i b E) fun r H' => Gr H H' ∧ r = decide (plateP l) := fun b hbb => by
          subst hbb
          unfold r19_j2
          by_cases c : sideP l[i]
          · rw [decide_eq_true c]
            refine Ok.neg (by simp) ?_
            rw [w64_succ (by omega)]
            exact ih (m - 1) _ E (by omega) ⟨gB, i + 1, rfl, by omega, forall_take h ht c⟩
          · rw [decide_eq_false c]
            exact Ok.pos rfl (Ok.ret ⟨gB, by rw [decide_eq_false (fun q => c (q.2.1 _ hmem))]⟩)
        have no : ¬ sideP l[i] → true = !decide (sideP l[i]) := fun q => by rw [decide_eq_false q]; rfl
        refine Ok.pos (by omega) (Ok.ck (by omega) (Ok.ld (hg.ldI (i := i) (j := 0) h rfl) (Ok.ld (hg.ldI (i := i) (j := 1) h rfl) (Ok.ld (hg.ldI (i := i) (j := 2) h rfl) (Ok.ld hE (Ok.ld (ldI_get hE' rfl) ?_))))))
        refine Ok.ite (fun c => j2 _ (no fun q => by unfold sideP at q; omega)) fun c1 => Ok.ld (ldI_get hE' rfl) ?_
        refine Ok.ite (fun c => j2 _ (no fun q => by unfold sideP at q; omega)) fun c2 => Ok.ld (ldI_get hE' rfl) ?_
        refine Ok.ite (fun c => j2 _ (no fun q => by unfold sideP at q; omega)) fun c3 => Ok.ld (ldI_get hE' rfl) ?_
        refine Ok.ite (fun c => j2 _ (no fun q => by unfold sideP at q; omega)) fun c4 => Ok.ld (ldI_get hE' rfl) ?_
        have last : ¬ (l[i].1 = 0 ∧ l[i].2.1 = 0) → Ok (if l[i].2.2 < -40 then r19_j2 (fun v1_ v2_ v3_ v4_ H_ => r19_l1 K v1_ v2_ v3_ v4_ H_) v v l.length i true E else (E.ldI .i64 H1.n (0 + 2)).bind fun x => r19_j2 (fun v1_ v2_ v3_ v4_ H_ => r19_l1 K v1_ v2_ v3_ v4_ H_) v v l.length i (decide (40 < x)) E) fun r H' => Gr H H' ∧ r = decide (plateP l) := fun hne => by
          refine Ok.ite (fun c => j2 _ (no fun q => by unfold sideP at q; omega)) fun c5 => Ok.ld (ldI_get hE' rfl) (j2 _ ?_)
          refine Bool.eq_iff_iff.2 ?_
          rw [Bool.not_eq_true', decide_eq_false_iff_not, decide_eq_true_iff]
          unfold sideP
          constructor
          · intro q w; omega
          · intro q
            by_cases w : 40 < l[i].2.2
            · exact w
            · exact absurd ⟨⟨by omega, by omega⟩, ⟨by omega, by omega⟩, hne, by omega, by omega⟩ q
        refine Ok.ite (fun c0 => Ok.ld (ldI_get hE' rfl) (Ok.ite (fun c5 => j2 _ (no fun q => q.2.2.1 ⟨c0, c5⟩)) fun c5 => Ok.ld (ldI_get hE' rfl) (last fun q => c5 q.2))) fun c0 => Ok.ld (ldI_get hE' rfl) (last fun q => c0 q.1)
      · rw [List.take_of_length_le (by omega)] at ht
        refine Ok.neg (by omega) ?_
        rw [hlen]
        refine (r19_l3_ok (hv.gr g1) (by omega) ht g1).mono fun r H' hh => ⟨hh.1, ?_⟩
        rw [hh.2]
        exact decide_eq_decide.2 ⟨fun q => ⟨⟨by omega, by omega⟩, ht, q⟩, fun q => q.2.2⟩
end Go.Lt.P2

namespace Go.Lt.P2
open Go Go.Lt Go.Proofs
theorem plate_take {p : List Sd} : plateP (p.take 9) ↔ plateP p := by
  by_cases h : p.length ≤ 9
  · rw [List.take_of_length_le h]
  · constructor
    · intro c; have b := c.1.2; rw [List.length_take] at b; omega
    · intro c; have b := c.1.2; omega
theorem plate_eq {p : List Sd} (h : plateP p) : p.take 9 = p := List.take_of_length_le (by have := h.1.2; omega)
theorem awk (k : Nat) (H : Hp) : appA k 21 [] H = some (.bool true, H) := rfl
end Go.Lt.P2
