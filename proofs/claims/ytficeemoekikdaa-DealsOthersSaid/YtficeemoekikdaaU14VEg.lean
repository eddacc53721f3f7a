/- PLAIN LAWS OF WHAT IS COMPUTED, for the statement 'DealsOthers'. Nothing is asked of the input. -/
import Derived.Test.YtficeemoekikdaaU14VEd
set_option linter.unusedVariables false
set_option linter.unusedSimpArgs false
namespace Go.Lt.P5
open Go Go.Lt Go.Proofs
def Low (n0 : Nat) (H H' : Hp) : Prop := H.n ≤ H'.n ∧ ∀ c, c < n0 → H'.get c = H.get c
section
variable {a : App} {Q : Sl → Hp → Prop} {n0 : Nat}
theorem l2_ok {H : Hp} {v w : Sl} {s : List Pr} {p : Pr} {pb : Nat} {len i : Int} (hb : Buf n0 H v s.reverse) (hs : ∀ x ∈ s, num x) (hp : num p) (hlen : s.length ≤ 100) (hpb : H.get pb = some (.cells [.int .i64 p.1, .int .i64 p.2] false)) (hn0 : n0 ≤ H.n)
    {kt0 : Sl → Sl → Int → Int → Hp → Option (Sl × Hp)} (k : ∀ v' H', Buf n0 H' v' (p :: popT s p).reverse → Low n0 H H' → Ok (kt0 v' w len (w64 (i + 1)) H') Q) : Ok (r56_l2 a kt0 FUEL v pb w len i H) Q := by
  refine Ok.loop (L := fun K (v' : Sl) H' => r56_l2 a kt0 K v' pb w len i H') (fun m v' H' => H' = H ∧ ∃ s', m = s'.length ∧ Buf n0 H v' s'.reverse ∧ popT s' p = popT s p ∧ (∀ x ∈ s', num x) ∧ s'.length ≤ 100) ?_ FUEL s.length v H (by unfold FUEL; omega) ⟨rfl, s, rfl, hb, rfl, hs, hlen⟩
  rintro K m v' H1 ⟨rfl, s', rfl, hb', hpt, hs', hl'⟩ ih
  try dsimp only at *
  rw [r56_l2]
  have hvl := hb'.len
  rw [List.length_reverse] at hvl
  have stop : popT s' p = s' → ∀ kt2, Ok (r56_j4 a kt0 kt2 v' pb w len i false H1) Q := fun e kt2 => by
    unfold r56_j4
    refine Ok.neg (by simp) (Ok.ld (ldI_get hpb rfl) (Ok.ld (ldI_get hpb rfl) (Ok.bind (hb'.push hn0 p rfl rfl (by rw [List.length_reverse]; omega)) fun v2 H2 ⟨b2, bt, _⟩ => ?_)))
    refine k v2 H2 ?_ ⟨bt.1.1, fun c hc => bt.1.2 c (by omega) fun hn => by have := hb'.lt hn; omega⟩
    rw [← hpt, e, List.reverse_cons]
    exact b2
  by_cases h : 1 < s'.length
  · match s', hs', hb', hpt, hvl, h, hl', stop, ih with
    | t :: u :: r, hs', hb', hpt, hvl, h, hl', stop, ih =>
      have hlr : (t :: u :: r).length = r.length + 2 := by simp
      have e1 : w64 ((v'.len : Int) - 1) = ((r.length + 1 : Nat) : Int) := by rw [w64_id (by omega) (by omega)]; omega
      have e2 : w64 ((v'.len : Int) - 2) = ((r.length : Nat) : Int) := by rw [w64_id (by omega) (by omega)]; omega
      have hg := hb'.sl
      have hrev : (t :: u :: r).reverse = (u :: r).reverse ++ [t] := by simp
      have hrev2 : (t :: u :: r).reverse = r.reverse ++ [u, t] := by simp
      have g1 : (t :: u :: r).reverse[r.length]? = some u := by rw [hrev2, List.getElem?_append_right (by simp)]; simp
      have g2 : (t :: u :: r).reverse[r.length + 1]? = some t := by rw [hrev2, List.getElem?_append_right (by simp)]; simp
      have i1 : r.length < (t :: u :: r).reverse.length := by simp <;> omega
      have i2 : r.length + 1 < (t :: u :: r).reverse.length := by simp
      have q1 : (t :: u :: r).reverse[r.length] = u := (List.getElem?_eq_some_iff.1 g1).2
      have q2 : (t :: u :: r).reverse[r.length + 1] = t := (List.getElem?_eq_some_iff.1 g2).2
      have L1 : H1.ldI .i64 v'.b (v'.o + r.length * 2) = some u.1 := hg.ldI (i := r.length) (j := 0) i1 (by rw [q1]; rfl)
      have L2 : H1.ldI .i64 v'.b ((v'.o + r.length * 2) + 1) = some u.2 := hg.ldI (i := r.length) (j := 1) i1 (by rw [q1]; rfl)
      have L3 : H1.ldI .i64 v'.b (v'.o + (r.length + 1) * 2) = some t.1 := hg.ldI (i := r.length + 1) (j := 0) i2 (by rw [q2]; rfl)
      have L4 : H1.ldI .i64 v'.b ((v'.o + (r.length + 1) * 2) + 1) = some t.2 := hg.ldI (i := r.length + 1) (j := 1) i2 (by rw [q2]; rfl)
      rw [e1, e2]
      simp only [Int.toNat_natCast]
      obtain ⟨X, hX⟩ := r76_spec (hs' u (by simp)) (hs' t (by simp)) hp H0
      refine Ok.pos (by omega) (Ok.ck (by omega) (Ok.ld L1 (Ok.ld L2 (Ok.ck (by omega) (Ok.ld L3 (Ok.ld L4 (Ok.ld (ldI_get hpb rfl) (Ok.ld (ldI_get hpb rfl) (Ok.ld hX ?_)))))))))
      by_cases ht : 0 ≤ turn u t p
      · rw [decide_eq_true ht]
        unfold r56_j4
        rw [e1]
        have hcap := hg.cap
        have hopn := hg.opn
        refine Ok.pos rfl (Ok.ck ⟨by omega, hopn⟩ ?_)
        rw [Int.toNat_natCast, Int.toNat_zero]
        rw [hrev] at hb'
        obtain ⟨b2, _⟩ := hb'.pop
        rw [show v'.len - 1 = r.length + 1 by omega] at b2
        refine ih (u :: r).length _ H1 (by simp) ⟨rfl, u :: r, rfl, b2, ?_, fun x hx => hs' x (by simp [List.mem_cons.1 hx]), by simp at hl' ⊢; omega⟩
        rw [← hpt, popT, if_pos ht]
      · rw [decide_eq_false ht]
        exact stop (by rw [popT, if_neg ht]) _
  · refine Ok.neg (by omega) (stop ?_ _)
    match s', h with
    | [], _ => rfl
    | [t], _ => rfl
    | t :: u :: r, h => simp at h
theorem l1_ok {H : Hp} {v w : Sl} {s : List Pr} {p : Pr} {pb : Nat} {len i : Int} (hb : Buf n0 H v s.reverse) (hs : ∀ x ∈ s, num x) (hp : num p) (hlen : s.length ≤ 100) (hpb : H.get pb = some (.cells [.int .i64 p.1, .int .i64 p.2] false)) (hn0 : n0 ≤ H.n)
    {kt0 : Sl → Sl → Int → Int → Hp → Option (Sl × Hp)} (k : ∀ v' H', Buf n0 H' v' (addC s p).reverse → Low n0 H H' → Ok (kt0 v' w len (w64 (i + 1)) H') Q) : Ok (r56_l1 a kt0 FUEL v pb w len i H) Q := by
  refine Ok.loop (L := fun K (v' : Sl) H' => r56_l1 a kt0 K v' pb w len i H') (fun m v' H' => H' = H ∧ ∃ s', m = s'.length ∧ Buf n0 H v' s'.reverse ∧ popY s' p = popY s p ∧ (∀ x ∈ s', num x) ∧ s'.length ≤ 100) ?_ FUEL s.length v H (by unfold FUEL; omega) ⟨rfl, s, rfl, hb, rfl, hs, hlen⟩
  rintro K m v' H1 ⟨rfl, s', rfl, hb', hpt, hs', hl'⟩ ih
  try dsimp only at *
  rw [r56_l1]
  have hvl := hb'.len
  rw [List.length_reverse] at hvl
  have stop : popY s' p = s' → ∀ kt1, Ok (r56_j3 a kt0 kt1 v' pb w len i false H1) Q := fun e kt1 => by
    unfold r56_j3
    refine Ok.neg (by simp) (l2_ok hb' hs' hp hl' hpb hn0 fun v2 H2 b2 lo => k v2 H2 ?_ lo)
    unfold addC
    rw [← hpt, e]
    exact b2
  cases s' with
  | nil => exact Ok.neg (by simp at hvl; omega) (stop rfl _)
  | cons t r =>
    have hlr : (t :: r).length = r.length + 1 := by simp
    have e1 : w64 ((v'.len : Int) - 1) = ((r.length : Nat) : Int) := by rw [w64_id (by omega) (by omega)]; omega
    have hg := hb'.sl
    have hrev : (t :: r).reverse = r.reverse ++ [t] := by simp
    have g2 : (t :: r).reverse[r.length]? = some t := by rw [hrev, List.getElem?_append_right (by simp)]; simp
    have i2 : r.length < (t :: r).reverse.length := by simp
    have q2 : (t :: r).reverse[r.length] = t := (List.getElem?_eq_some_iff.1 g2).2
    have L4 : H1.ldI .i64 v'.b ((v'.o + r.length * 2) + (1 : Int).toNat * 1) = some t.2 := hg.ldI (i := r.length) (j := 1) i2 (by rw [q2]; rfl)
    rw [e1]
    simp only [Int.toNat_natCast]
    refine Ok.pos (by omega) (Ok.ck (by omega) (Ok.ld L4 (Ok.ld (ldI_get hpb rfl) ?_)))
    by_cases ht : t.2 ≤ p.2
    · rw [decide_eq_true ht]
      unfold r56_j3
      rw [e1]
      have hcap := hg.cap
      have hopn := hg.opn
      refine Ok.pos rfl (Ok.ck ⟨by omega, hopn⟩ ?_)
      rw [Int.toNat_natCast, Int.toNat_zero]
      rw [hrev] at hb'
      obtain ⟨b2, _⟩ := hb'.pop
      rw [show v'.len - 1 = r.length by omega] at b2
      refine ih r.length _ H1 (by simp) ⟨rfl, r, rfl, b2, ?_, fun x hx => hs' x (by simp [hx]), by simp at hl'; omega⟩
      rw [← hpt, popY, if_pos ht]
    · rw [decide_eq_false ht]
      exact stop (by rw [popY, if_neg ht]) _
end
theorem popT_sub {p : Pr} : ∀ (s : List Pr), ∀ x ∈ popT s p, x ∈ s := by
  intro s
  induction s with
  | nil => intro x h; exact h
  | cons t s ih =>
    intro x h
    cases s with
    | nil => exact h
    | cons u r =>
      rw [popT] at h
      split at h
      · exact List.mem_cons_of_mem _ (ih x h)
      · exact h
theorem popY_sub {p : Pr} : ∀ (s : List Pr), ∀ x ∈ popY s p, x ∈ s := by
  intro s
  induction s with
  | nil => intro x h; exact h
  | cons t s ih =>
    intro x h
    rw [popY] at h
    split at h
    · exact List.mem_cons_of_mem _ (ih x h)
    · exact h
theorem popT_len {p : Pr} : ∀ (s : List Pr), (popT s p).length ≤ s.length := by
  intro s
  induction s with
  | nil => exact Nat.le_refl _
  | cons t s ih =>
    cases s with
    | nil => exact Nat.le_refl _
    | cons u r =>
      rw [popT]
      split
      · exact Nat.le_trans ih (by simp)
      · exact Nat.le_refl _
theorem popY_len {p : Pr} : ∀ (s : List Pr), (popY s p).length ≤ s.length := by
  intro s
  induction s with
  | nil => exact Nat.le_refl _
  | cons t s ih =>
    rw [popY]
    split
    · exact Nat.le_trans ih (by simp)
    · exact Nat.le_refl _
theorem foldl_take {q : List Pr} {i : Nat} (h : i < q.length) : (q.take (i + 1)).foldl addC [] = addC ((q.take i).foldl addC []) q[i] := by
  rw [List.take_succ_eq_append_getElem h, List.foldl_append]
  rfl
theorem chainF_len (q : List Pr) : (chainF q).length ≤ q.length := by
  have key : ∀ (rest s : List Pr), (rest.foldl addC s).length ≤ s.length + rest.length := by
    intro rest
    induction rest with
    | nil => intro s; simp
    | cons p rest ih =>
      intro s
      have h := ih (addC s p)
      have a1 := popT_len (p := p) (popY s p)
      have a2 := popY_len (p := p) s
      have a3 : (addC s p).length = (popT (popY s p) p).length + 1 := by simp [addC]
      simp only [List.foldl_cons, List.length_cons]
      omega
  have := key q []
  simpa [chainF] using this
/-- edge -/
theorem r56_ok {k : Nat} {H : Hp} {v : Sl} {l : List Pr} (hv : SL H v l) (ho : offP l) : Ok (r56 (appA (k + 2)) v H) fun w H' => Gr H H' ∧ ∃ q, q.Perm l ∧ q.Pairwise lexP ∧ SL H' w (chainF q).reverse := by
  unfold r56 r73
  have gp := Gr.push H (.cells [.sl v] false)
  refine Ok.ld rfl ?_
  try dsimp only [lt]
  refine Ok.bind (r72_ok (c := H.n) (by simp) (hv.gr gp) ho) fun w H2 ⟨g2, q, hq, hperm, hlex⟩ => ?_
  have hql := hq.len
  have hl8 := ho.2.1
  have hpl := hperm.length_eq
  have gg := gp.trans g2
  have hnum : ∀ x ∈ q, num x := fun x hx => ho.2.2.1 x (hperm.mem_iff.1 hx)
  rw [hql]
  refine Ok.loop (L := fun K (s : Sl × Int) H' => r56_l0 (appA (k + 2)) K s.1 w q.length s.2 H') (fun m s H' => ∃ i : Nat, s.2 = i ∧ i + m = q.length ∧ Gr H2 H' ∧ Buf H2.n H' s.1 ((q.take i).foldl addC []).reverse ∧ (∀ x ∈ (q.take i).foldl addC [], num x) ∧ ((q.take i).foldl addC []).length ≤ i) ?_ FUEL q.length (⟨true, 0, 0, 0, 0, 0⟩, 0) H2 (by unfold FUEL; omega)
    ⟨0, rfl, by omega, .refl _, .inl ⟨rfl, rfl⟩, by simp, by simp⟩
  rintro K m ⟨o, s⟩ H3 ⟨i, rfl, hm, g3, hb, hn, hle⟩ ih
  try dsimp only at *
  rw [r56_l0]
  by_cases h : i < q.length
  · have hg := hq.gr g3
    obtain ⟨E, hE, hE', gE, nE⟩ := sts2 H3 (.int .i64 q[i].1) (.int .i64 q[i].2) (.int .i64 0) (.int .i64 0)
    have hmem : q[i] ∈ q := List.getElem_mem h
    have g3n := g3.1
    refine Ok.pos (by omega) (Ok.ck (by omega) (Ok.ld (hg.ldI (i := i) (j := 0) h rfl) (Ok.ld (hg.ldI (i := i) (j := 1) h rfl) (Ok.ld hE ?_))))
    refine l1_ok (hb.gr gE) hn (hnum _ hmem) (by omega) hE' (by omega) fun v' H4 b4 lo => ?_
    rw [w64_succ (by omega)]
    have el := foldl_take h
    refine ih (m - 1) (v', _) H4 (by omega) ⟨i + 1, rfl, by omega, ⟨by have := lo.1; omega, fun c hc => by rw [lo.2 c hc, gE.2 c (by omega), g3.2 c hc]⟩, by rw [el]; exact b4, ?_, ?_⟩
    · rw [el]
      intro x hx
      unfold addC at hx
      rcases List.mem_cons.1 hx with rfl | hx
      · exact hnum _ hmem
      · exact hn x (popY_sub _ x (popT_sub _ x hx))
    · rw [el]
      have a0 : (addC ((q.take i).foldl addC []) q[i]).length = (popT (popY ((q.take i).foldl addC []) q[i]) q[i]).length + 1 := by rw [addC]; simp
      rw [a0]
      have a1 := popT_len (p := q[i]) (popY ((q.take i).foldl addC []) q[i])
      have a2 := popY_len (p := q[i]) ((q.take i).foldl addC [])
      omega
  · rw [List.take_of_length_le (by omega)] at hb
    exact Ok.neg (by omega) (Ok.ret ⟨gg.trans g3, q, hperm, hlex, hb.sl⟩)
end Go.Lt.P5
