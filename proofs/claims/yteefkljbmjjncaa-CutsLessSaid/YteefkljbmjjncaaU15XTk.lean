/- PLAIN LAWS OF WHAT IS COMPUTED, for the statement 'CutsLess'. Nothing is asked of the input. -/
import Derived.Test.YteefkljbmjjncaaU15XGd
import Derived.Test.YteefkljbmjjncaaU15XWl
set_option linter.unusedVariables false
set_option linter.unusedSimpArgs false
namespace Go.Lt.P2
open Go Go.Lt Go.Proofs
/-- the corners as the reference makes them -/
def rcs (q : List Cn) : List Pq := q.foldl (fun acc c => wth c.1 acc) []
theorem rcs_srt (q : List Cn) : (rcs q).Pairwise ptlt := by
  unfold rcs
  have key : ∀ (q : List Cn) (acc : List Pq), acc.Pairwise ptlt → (q.foldl (fun acc c => wth c.1 acc) acc).Pairwise ptlt := by
    intro q
    induction q with
    | nil => intro acc h; exact h
    | cons c q ih => intro acc h; exact ih _ (wth_srt h)
  exact key q [] .nil
theorem mem_rcs {q : List Cn} {p : Pq} : p ∈ rcs q ↔ ∃ c ∈ q, c.1 = p := by
  unfold rcs
  have key : ∀ (q : List Cn) (acc : List Pq), p ∈ q.foldl (fun acc c => wth c.1 acc) acc ↔ p ∈ acc ∨ ∃ c ∈ q, c.1 = p := by
    intro q
    induction q with
    | nil => intro acc; simp
    | cons c q ih =>
      intro acc
      rw [List.foldl_cons, ih, mem_wth]
      constructor
      · rintro ((rfl | h) | ⟨d, hd, h⟩)
        · exact .inr ⟨c, .head _, rfl⟩
        · exact .inl h
        · exact .inr ⟨d, .tail _ hd, h⟩
      · rintro (h | ⟨d, hd, h⟩)
        · exact .inl (.inr h)
        · rcases List.mem_cons.1 hd with rfl | hd
          · exact .inl (.inl h.symm)
          · exact .inr ⟨d, hd, h⟩
  rw [key]
  simp
theorem wth_len {p : Pq} : ∀ {l : List Pq}, (wth p l).length ≤ l.length + 1
  | [] => by simp [wth]
  | q :: l => by
    rw [wth]
    have := wth_len (p := p) (l := l)
    split
    · simp only [List.length_cons]; omega
    · split
      · simp
      · simp
theorem rcs_len (q : List Cn) : (rcs q).length ≤ q.length := by
  unfold rcs
  have key : ∀ (q : List Cn) (acc : List Pq), (q.foldl (fun acc c => wth c.1 acc) acc).length ≤ acc.length + q.length := by
    intro q
    induction q with
    | nil => intro acc; simp
    | cons c q ih =>
      intro acc
      rw [List.foldl_cons, List.length_cons]
      have := ih (wth c.1 acc)
      have := wth_len (p := c.1) (l := acc)
      omega
  have := key q []
  simpa using this
theorem rcs_snoc (q : List Cn) (c : Cn) : rcs (q ++ [c]) = wth c.1 (rcs q) := by unfold rcs; rw [List.foldl_append]; rfl
theorem cno_len (l : List Sd) (i : Nat) : (cno l i).length ≤ i := by
  unfold cno
  exact Nat.le_trans (List.length_filterMap_le _ _) (by rw [List.length_take]; omega)
theorem flatm_len {β : Type} {f : Nat → List β} {k : Nat} : ∀ {l : List Nat}, (∀ x ∈ l, (f x).length ≤ k) → (l.flatMap f).length ≤ l.length * k
  | [], _ => by simp
  | x :: l, h => by
    rw [List.flatMap_cons, List.length_append, List.length_cons, Nat.add_mul, Nat.one_mul]
    have a := h x (.head _)
    have b := flatm_len (l := l) fun y hy => h y (.tail _ hy)
    omega
theorem lqs_dv {u : Sd} {x y d : Int} (hd : 0 < d) : lqs u (dv x d, dv y d) ↔ u.1 * x + u.2.1 * y ≤ u.2.2 * d := by
  have h0 := cast_pos hd
  have e : atq u.1 u.2.1 (dv x d, dv y d) = dv (u.1 * x + u.2.1 * y) d := by
    unfold atq dv
    push_cast
    grind
  unfold lqs
  rw [e, ← dv_int, dv_le_iff hd (by decide), Int.mul_one]
theorem rcs_qp {l : List Sd} {q : List Cn} (hs : ∀ s ∈ l, sideP s) (h : ∀ c ∈ q, c ∈ cs l) : ∀ p ∈ rcs q, qp p := fun p hp => by
  obtain ⟨c, hc, rfl⟩ := mem_rcs.1 hp
  have k := cs_mem (h c hc)
  rw [k.2.2.2.1]
  exact meet_qp (hs _ k.1) (hs _ k.2.1) k.2.2.1
theorem cs_len {l : List Sd} (hb : l.length ≤ 1000) : (cs l).length ≤ 1000000 := by
  unfold cs
  have := flatm_len (f := cno l) (l := List.range l.length) (k := l.length) fun i hi => Nat.le_trans (cno_len l i) (by rw [List.mem_range] at hi; omega)
  rw [List.length_range] at this
  have h2 := Nat.mul_le_mul hb hb
  omega
theorem pre_cs {l : List Sd} {i : Nat} (h : i < l.length) : (List.range i).flatMap (cno l) ++ cno l i <+: cs l := by
  rw [← range_succ_flatMap]
  unfold cs
  have : l.length = (i + 1) + (l.length - (i + 1)) := by omega
  rw [this, List.range_add (n := i + 1), List.flatMap_append]
  exact List.prefix_append _ _
end Go.Lt.P2

namespace Go.Lt.P2
open Go Go.Lt Go.Proofs
theorem fm_len (l : List Sd) (s x : Sd) (xs : List Sd) : ((x :: xs).filterMap (cn l s)).length = (ed l s x).toNat + (xs.filterMap (cn l s)).length := by
  rw [List.filterMap_cons]
  unfold ed cn
  split
  · rename_i h
    split at h
    · cases h
    · rename_i hc
      rw [decide_eq_false hc]; simp
  · rename_i h
    split at h
    · rename_i hc
      rw [decide_eq_true hc, List.length_cons]; simp; omega
    · cases h
def tri : Nat → Nat
  | 0 => 0
  | n + 1 => tri n + n
theorem cs_tri (l : List Sd) : ∀ n, ((List.range n).flatMap (cno l)).length ≤ tri n
  | 0 => by simp
  | n + 1 => by
    rw [range_succ_flatMap, List.length_append]
    have := cs_tri l n
    have := cno_len l n
    show _ ≤ tri n + n
    omega
theorem cs_all {l : List Sd} {P : Pq} (h : ∀ x ∈ l, on x P) : ∀ c ∈ cs l, c.1 = P := fun c hc => by
  have m := cs_mem hc
  rw [m.2.2.2.1]
  exact (meet_uniq m.2.2.1 (h _ m.1) (h _ m.2.1)).symm
/-- more than twelve pairs: all at one point -/
theorem cs_big {l : List Sd} (hp : ∀ s ∈ l, sideP s) (h6 : l.length ≤ 6) (hn : 12 < (cs l).length) : ∃ P, ∀ c ∈ cs l, c.1 = P := by
  have ht := cs_tri l l.length
  have hcs : (cs l).length ≤ tri l.length := ht
  by_cases hl : l.length ≤ 5
  · have : tri l.length ≤ 10 := by
      rcases (show l.length = 0 ∨ l.length = 1 ∨ l.length = 2 ∨ l.length = 3 ∨ l.length = 4 ∨ l.length = 5 by omega) with h | h | h | h | h | h <;> rw [h] <;> decide
    omega
  have hl : l.length = 6 := by omega
  obtain ⟨a, b, c, d, e, f, rfl⟩ : ∃ a b c d e f, l = [a, b, c, d, e, f] := by
    match l, hl with
    | [a, b, c, d, e, f], _ => exact ⟨a, b, c, d, e, f, rfl⟩
  generalize hL : [a, b, c, d, e, f] = L at *
  have l1 : (cno L 1).length = (ed L a b).toNat := by
    rw [← hL]
    show ([a].filterMap (cn [a, b, c, d, e, f] b)).length = _
    simp only [fm_len, List.filterMap_nil, List.length_nil, Nat.add_zero, ed_symm [a, b, c, d, e, f] b]
    try omega
  have l2 : (cno L 2).length = (ed L a c).toNat + (ed L b c).toNat := by
    rw [← hL]
    show ([a, b].filterMap (cn [a, b, c, d, e, f] c)).length = _
    simp only [fm_len, List.filterMap_nil, List.length_nil, Nat.add_zero, ed_symm [a, b, c, d, e, f] c]
    try omega
  have l3 : (cno L 3).length = (ed L a d).toNat + (ed L b d).toNat + (ed L c d).toNat := by
    rw [← hL]
    show ([a, b, c].filterMap (cn [a, b, c, d, e, f] d)).length = _
    simp only [fm_len, List.filterMap_nil, List.length_nil, Nat.add_zero, ed_symm [a, b, c, d, e, f] d]
    try omega
  have l4 : (cno L 4).length = (ed L a e).toNat + (ed L b e).toNat + (ed L c e).toNat + (ed L d e).toNat := by
    rw [← hL]
    show ([a, b, c, d].filterMap (cn [a, b, c, d, e, f] e)).length = _
    simp only [fm_len, List.filterMap_nil, List.length_nil, Nat.add_zero, ed_symm [a, b, c, d, e, f] e]
    try omega
  have l5 : (cno L 5).length = (ed L a f).toNat + (ed L b f).toNat + (ed L c f).toNat + (ed L d f).toNat + (ed L e f).toNat := by
    rw [← hL]
    show ([a, b, c, d, e].filterMap (cn [a, b, c, d, e, f] f)).length = _
    simp only [fm_len, List.filterMap_nil, List.length_nil, Nat.add_zero, ed_symm [a, b, c, d, e, f] f]
    try omega
  have hsum : (cs L).length = (cno L 0).length + ((cno L 1).length + ((cno L 2).length + ((cno L 3).length + ((cno L 4).length + (cno L 5).length)))) := by
    unfold cs
    rw [hl, show List.range 6 = [0, 1, 2, 3, 4, 5] from rfl]
    simp only [List.flatMap_cons, List.flatMap_nil, List.length_append, List.length_nil, Nat.add_zero]
  have l0 : (cno L 0).length = 0 := by
    have := cno_len L 0; omega
  have m0 : a ∈ L := by rw [← hL]; simp
  have m1 : b ∈ L := by rw [← hL]; simp
  have m2 : c ∈ L := by rw [← hL]; simp
  have m3 : d ∈ L := by rw [← hL]; simp
  have m4 : e ∈ L := by rw [← hL]; simp
  have m5 : f ∈ L := by rw [← hL]; simp
  have q01 := Bool.toNat_le (ed L a b)
  have q02 := Bool.toNat_le (ed L a c)
  have q03 := Bool.toNat_le (ed L a d)
  have q04 := Bool.toNat_le (ed L a e)
  have q05 := Bool.toNat_le (ed L a f)
  have q12 := Bool.toNat_le (ed L b c)
  have q13 := Bool.toNat_le (ed L b d)
  have q14 := Bool.toNat_le (ed L b e)
  have q15 := Bool.toNat_le (ed L b f)
  have q23 := Bool.toNat_le (ed L c d)
  have q24 := Bool.toNat_le (ed L c e)
  have q25 := Bool.toNat_le (ed L c f)
  have q34 := Bool.toNat_le (ed L d e)
  have q35 := Bool.toNat_le (ed L d f)
  have q45 := Bool.toNat_le (ed L e f)
  have key := bools6 (ed L a b) (ed L a c) (ed L a d) (ed L a e) (ed L a f) (ed L b c) (ed L b d) (ed L b e) (ed L b f) (ed L c d) (ed L c e) (ed L c f) (ed L d e) (ed L d f) (ed L e f) (by omega)
  simp only [Bool.or_eq_true, Bool.and_eq_true, ed_iff] at key
  rcases key with (((((⟨⟨⟨⟨k1, k2⟩, k3⟩, k4⟩, k5⟩ | ⟨⟨⟨⟨k1, k2⟩, k3⟩, k4⟩, k5⟩) | ⟨⟨⟨⟨k1, k2⟩, k3⟩, k4⟩, k5⟩) | ⟨⟨⟨⟨k1, k2⟩, k3⟩, k4⟩, k5⟩) | ⟨⟨⟨⟨k1, k2⟩, k3⟩, k4⟩, k5⟩) | ⟨⟨⟨⟨k1, k2⟩, k3⟩, k4⟩, k5⟩)
  · have h := one_pt (x1 := b) (x2 := c) (x3 := d) (x4 := e) (x5 := f) hp m0 m1 m2 m3 m4 m5 k1 k2 k3 k4 k5 (by omega)
    exact ⟨_, cs_all fun x hx => h x (by rw [← hL] at hx; simp only [List.mem_cons, List.not_mem_nil, or_false] at hx ⊢; rcases hx with rfl | rfl | rfl | rfl | rfl | rfl <;> simp)⟩
  · have h := one_pt (x1 := a) (x2 := c) (x3 := d) (x4 := e) (x5 := f) hp m1 m0 m2 m3 m4 m5 k1.sym k2 k3 k4 k5 (by omega)
    exact ⟨_, cs_all fun x hx => h x (by rw [← hL] at hx; simp only [List.mem_cons, List.not_mem_nil, or_false] at hx ⊢; rcases hx with rfl | rfl | rfl | rfl | rfl | rfl <;> simp)⟩
  · have h := one_pt (x1 := a) (x2 := b) (x3 := d) (x4 := e) (x5 := f) hp m2 m0 m1 m3 m4 m5 k1.sym k2.sym k3 k4 k5 (by omega)
    exact ⟨_, cs_all fun x hx => h x (by rw [← hL] at hx; simp only [List.mem_cons, List.not_mem_nil, or_false] at hx ⊢; rcases hx with rfl | rfl | rfl | rfl | rfl | rfl <;> simp)⟩
  · have h := one_pt (x1 := a) (x2 := b) (x3 := c) (x4 := e) (x5 := f) hp m3 m0 m1 m2 m4 m5 k1.sym k2.sym k3.sym k4 k5 (by omega)
    exact ⟨_, cs_all fun x hx => h x (by rw [← hL] at hx; simp only [List.mem_cons, List.not_mem_nil, or_false] at hx ⊢; rcases hx with rfl | rfl | rfl | rfl | rfl | rfl <;> simp)⟩
  · have h := one_pt (x1 := a) (x2 := b) (x3 := c) (x4 := d) (x5 := f) hp m4 m0 m1 m2 m3 m5 k1.sym k2.sym k3.sym k4.sym k5 (by omega)
    exact ⟨_, cs_all fun x hx => h x (by rw [← hL] at hx; simp only [List.mem_cons, List.not_mem_nil, or_false] at hx ⊢; rcases hx with rfl | rfl | rfl | rfl | rfl | rfl <;> simp)⟩
  · have h := one_pt (x1 := a) (x2 := b) (x3 := c) (x4 := d) (x5 := e) hp m5 m0 m1 m2 m3 m4 k1.sym k2.sym k3.sym k4.sym k5.sym (by omega)
    exact ⟨_, cs_all fun x hx => h x (by rw [← hL] at hx; simp only [List.mem_cons, List.not_mem_nil, or_false] at hx ⊢; rcases hx with rfl | rfl | rfl | rfl | rfl | rfl <;> simp)⟩
end Go.Lt.P2

namespace Go.Lt.P2
open Go Go.Lt Go.Proofs
theorem cs_len15 {l : List Sd} (h6 : l.length ≤ 6) : (cs l).length ≤ 15 := by
  have h := cs_tri l l.length
  have : tri l.length ≤ 15 := by
    rcases (show l.length = 0 ∨ l.length = 1 ∨ l.length = 2 ∨ l.length = 3 ∨ l.length = 4 ∨ l.length = 5 ∨ l.length = 6 by omega) with h | h | h | h | h | h | h <;> rw [h] <;> decide
  exact Nat.le_trans h this
/-- Corners -/
theorem r51_ok {k : Nat} {H : Hp} {v : Sl} {l : List Sd} (hv : SL H v l) (hb : l.length ≤ 1000) : Ok (r51 (appA (k + 2)) v H) fun r H' => Gr H H' ∧ if plateP l then SL H' r.1 (rcs (cs l)) ∧ r.2 = 0 else r = (⟨true, 0, 0, 0, 0, 0⟩, 2) := by
  unfold r51
  refine Ok.bind (r63_ok (k := k + 1) hv hb) fun b A ⟨gA, hbb⟩ => ?_
  subst hbb
  by_cases hp : plateP l
  case neg =>
    rw [decide_eq_false hp]
    simp only [if_neg hp]
    exact Ok.neg (by simp) (Ok.ret ⟨gA, rfl⟩)
  rw [decide_eq_true hp]
  simp only [if_pos hp]
  have h6 := hp.1.2
  have hs := hp.2.1
  have hl15 := cs_len15 h6
  refine Ok.pos (by simp) (Ok.lt ?_)
  have hvA := hv.gr gA
  show Ok ((callr (appA (k + 2)) (.fn 66 [.sl v] []) ((A.push (cel [.sl ⟨true, 0, 0, 0, 0, 0⟩])).n + 1) (((A.push (cel [.sl ⟨true, 0, 0, 0, 0, 0⟩])).push .dfr).push (.loop .ready none 1 21 [(4, .ptr A.n 0)]))).bind _) _
  have c0 : Cb A A [] := .start (fun _ h => by cases h) .nil
  have c := ((c0.push (cel [.sl ⟨true, 0, 0, 0, 0, 0⟩])).push .dfr).push (.loop .ready none 1 21 [(4, .ptr A.n 0)])
  simp only [Hp.n_push] at c ⊢
  generalize ((A.push (cel [.sl ⟨true, 0, 0, 0, 0, 0⟩])).push .dfr).push (.loop .ready none 1 21 [(4, .ptr A.n 0)]) = D at *
  have gD : Gr A D := ⟨c.n, fun b hb => c.g b hb fun p hp => by simp only [List.mem_cons, List.not_mem_nil, or_false] at hp; rcases hp with rfl | rfl | rfl <;> dsimp only <;> omega⟩
  have lD := c.lt (.head _)
  have hI : ccI A (fun _ => False) [] ⟨true, 0, 0, 0, 0, 0⟩ D := ⟨gD, c.e _ (.tail _ (.tail _ (.head _))), c.e _ (.tail _ (.head _)), c.e _ (.head _), AccL.nilS, by dsimp only at lD; omega, fun _ h => h.elim⟩
  refine Ok.bind (P := fun _ H' => ∃ w, ccI A (fun _ => False) (cs l) w H') ?_ fun r E hE => ?_
  · show Ok ((r66 (app (k + 1)) v (.yld (A.n + 2)) D).map fun p => (AV.tup [], p.2)) _
    have h1 : Ok (r66 (app (k + 1)) v (.yld (A.n + 2)) D) fun _ H' => ∃ w, ccI A (fun _ => False) (cs l) w H' := by
      refine Ok.mono (r66_ok (a95 k) (ccY (k := k) (by omega) A) hvA hb hs (P := fun _ => False) ⟨_, hI⟩) fun _ H' h => ?_
      rcases h with h | ⟨_, _, h⟩
      · exact h
      · exact h.elim
    obtain ⟨r, H', e, h⟩ := h1
    rw [e]
    exact Ok.ret h
  obtain ⟨w, hE⟩ := hE
  have hn := hE.n
  have hend : E.lend (A.n + 2) = some (none, E.set (A.n + 2) .dead) := by unfold Hp.lend; rw [hE.l]
  refine Ok.ld hend (Ok.pos rfl ?_)
  dsimp only
  generalize hF : E.set (A.n + 2) .dead = F
  have oF : ∀ x, x ≠ A.n + 2 → F.get x = E.get x := fun x hx => by rw [← hF, Hp.get_set_other _ _ hx]
  have nF : F.n = E.n := by rw [← hF]; simp
  clear hF
  have sF : F.get A.n = some (.cells [.sl w] false) := by rw [oF _ (by omega)]; exact hE.o
  have dF : F.get (A.n + 1) = some .dfr := by rw [oF _ (by omega)]; exact hE.d
  have aF : AccL (A.n + 3) F w ((cs l).map (·.1)) := Acc.keep hE.a fun hn => oF _ (by have := low hE.a hn; omega)
  have gF : Gr A F := ⟨by have := hE.g.1; omega, fun b hb => by rw [oF _ (by omega)]; exact hE.g.2 b hb⟩
  have hq15 : ((cs l).map (·.1)).length ≤ 15 := by rw [List.length_map]; exact hl15
  have hqp : ∀ x ∈ (cs l).map (·.1), qp x := fun x hx => by
    obtain ⟨c, hc, rfl⟩ := List.mem_map.1 hx
    have m := cs_mem hc
    rw [m.2.2.2.1]
    exact meet_qp (hs _ m.1) (hs _ m.2.1) m.2.2.1
  have hmem : ∀ x, x ∈ rcs (cs l) ↔ x ∈ (cs l).map (·.1) := fun x => by
    rw [mem_rcs, List.mem_map]
  have hkill : ∀ {G : Hp}, G.get (A.n + 1) = some .dfr → Go.Lt.kill [A.n + 1] G = G.set (A.n + 1) .dead := fun _ => rfl
  -- the end
  have fin : ∀ (u : Sl) (G : Hp) (r : List Pq), A.n + 3 ≤ G.n → Gr A G → G.get (A.n + 1) = some .dfr → (u.nil = false → u.b ≠ A.n + 1) → SL G u r → r = rcs (cs l) → Ok (ck (dfrB [A.n + 1] G = true) (some ((u, (0 : Int)), Go.Lt.kill [A.n + 1] G))) fun r H' => Gr H H' ∧ SL H' r.1 (rcs (cs l)) ∧ r.2 = 0 := fun u G r nG gG dG hu hsl hr => by
    subst hr
    refine Ok.ck (by simp [dfrB, Hp.isDfr, dG]) (Ok.ret ⟨gA.trans ⟨?_, fun b hb => ?_⟩, ?_, rfl⟩)
    · show A.n ≤ (G.set (A.n + 1) .dead).n
      simp; omega
    · show (G.set (A.n + 1) .dead).get b = _
      rw [Hp.get_set_other _ _ (by omega)]; exact gG.2 b hb
    · show SL (G.set (A.n + 1) .dead) u _
      cases hnn : u.nil with
      | true =>
        obtain ⟨rfl, hr⟩ := hsl.nil hnn
        rw [hr]; exact .nilS
      | false => exact SL.congr hsl (Hp.get_set_other _ _ (hu hnn))
  refine Ok.ld (ldSl_get sF rfl) ?_
  cases hnil : w.nil with
  | true =>
    have hw : w = ⟨true, 0, 0, 0, 0, 0⟩ ∧ (cs l).map (·.1) = [] := by
      obtain ⟨h1, h2⟩ := (AccL.sl aF).nil hnil
      exact ⟨h1, h2⟩
    obtain ⟨rfl, hnl⟩ := hw
    have hrc : [] = rcs (cs l) := by
      rw [List.map_eq_nil_iff.1 hnl]; rfl
    have e86 : Ok (r86 (appA (k + 2)) ⟨true, 0, 0, 0, 0, 0⟩ (.fn 87 [] []) F) fun _ H' => H' = F := by
      unfold r86
      obtain ⟨x, e, _⟩ := r109_small (n := 0) (by decide) F
      refine Ok.ld e ?_
      unfold r108
      rw [show FUEL = 18446744073709551615 + 1 from rfl, r108_l0]
      refine Ok.bind (P := fun _ H' => H' = F) (Ok.pos (by decide +kernel) (Ok.bind (P := fun _ H' => H' = F) ?_ fun _ _ h => Ok.ret h)) fun _ _ h => Ok.ret h
      unfold r114
      rw [show FUEL = 18446744073709551615 + 1 from rfl, r114_l0]
      exact Ok.neg (by decide +kernel) (Ok.ret rfl)
    refine Ok.bind e86 fun _ G hG => ?_
    subst hG
    refine Ok.ld (ldSl_get sF rfl) ?_
    unfold r90
    refine Ok.bind (P := fun u H' => H' = G ∧ u = ⟨true, 0, 0, 0, 0, 0⟩) (Ok.pos (by decide) (Ok.ret ⟨rfl, rfl⟩)) fun u I ⟨hI1, hu⟩ => ?_
    subst hI1 hu
    exact fin _ _ [] (show A.n + 3 ≤ I.n by omega) gF dF (fun h => by cases h) .nilS hrc
  | false =>
    have hown : Own F w ((cs l).map (·.1)) ∧ A.n + 3 ≤ w.b := by
      have hlen := AccL.len aF
      rcases aF with ⟨rfl, e⟩ | ⟨h1, h2, h3, h4, h5, h6', h7⟩
      · cases hnil
      · exact ⟨⟨h1, h2, hlen, by omega, .inr h3, h6'⟩, h5⟩
    obtain ⟨ow, hwb⟩ := hown
    have hbig : 12 < ((cs l).map (·.1)).length → ∃ P, ∀ x ∈ (cs l).map (·.1), x = P := fun h => by
      rw [List.length_map] at h
      obtain ⟨P, hP⟩ := cs_big hs h6 h
      refine ⟨P, fun x hx => ?_⟩
      obtain ⟨c, hc, rfl⟩ := List.mem_map.1 hx
      exact hP c hc
    refine Ok.bind (r86_ok (k := k + 1) (says87 (k + 1)) hqp hq15 hbig ow) fun _ G ⟨q', oG, onG, hperm, hso⟩ => ?_
    have hwF := Hp.get_lt ow.get
    have sG : G.get A.n = some (.cells [.sl w] false) := by rw [onG.2 _ (by omega) (by omega)]; exact sF
    refine Ok.ld (ldSl_get sG rfl) ?_
    refine Ok.bind (r90_ok oG (by have := hperm.length_eq; omega) hso) fun u I ⟨⟨onI, hub⟩, r, hr, hsrt, hrm⟩ => ?_
    have on := onG.trans onI
    have dI : I.get (A.n + 1) = some .dfr := by rw [on.2 _ (by omega) (by omega)]; exact dF
    have gI : Gr A I := ⟨Nat.le_trans gF.1 on.1, fun b hb => by rw [on.2 b (by omega) (by omega)]; exact gF.2 b hb⟩
    refine fin u I r (by have := on.1; omega) gI dI ?_ hr (srt_uniq hsrt (rcs_srt _) fun x => by rw [hrm, hperm.mem_iff, hmem])
    intro _
    rw [hub]; omega
end Go.Lt.P2

namespace Go.Lt.P2
open Go Go.Lt Go.Proofs
/-- Bound -/
theorem r55_ok {k : Nat} {H : Hp} {v : Sl} {l : List Sd} {a b : Int} (hv : SL H v l) (hb : l.length ≤ 1000) : Ok (r55 (appA (k + 2)) v a b H) fun r H' => Gr H H' ∧ (¬ (plateP l ∧ near9 a b) → r = (0, 0, 2)) ∧ (plateP l ∧ near9 a b → (rcs (cs l) = [] → r = (0, 0, 4)) ∧ (rcs (cs l) ≠ [] → ∃ m, isMxQ (atq a b) (rcs (cs l)) m ∧ r = ((fq m).1, (fq m).2, 0))) := by
  unfold r55
  refine Ok.box (.nil H) fun A gA c => Ok.bind (r63_ok (k := k + 1) (hv.gr gA) hb) fun z B ⟨gB, hz⟩ => ?_
  subst hz
  have c := c.gr gB
  have bad : ∀ {B : Hp}, ¬ (plateP l ∧ near9 a b) → Cx H B [(H.n, [.int .i64 0, .int .i64 0])] → Ok (r55_j1 (appA (k + 2)) v a b H.n true B) fun r H' => Gr H H' ∧ (¬ (plateP l ∧ near9 a b) → r = (0, 0, 2)) ∧ (plateP l ∧ near9 a b → (rcs (cs l) = [] → r = (0, 0, 4)) ∧ (rcs (cs l) ≠ [] → ∃ m, isMxQ (atq a b) (rcs (cs l)) m ∧ r = ((fq m).1, (fq m).2, 0))) := fun {B} hn c => by
    unfold r55_j1
    exact Ok.pos rfl (Ok.cst c 0 rfl rfl fun D _ _ c => Ok.cld c (.head _) rfl (Ok.cld c (.head _) rfl (Ok.ret ⟨c.g, fun _ => rfl, fun h => absurd h hn⟩)))
  by_cases hp : plateP l
  case neg =>
    rw [decide_eq_false hp]
    exact Ok.neg (by simp) (bad (fun q => hp q.1) c)
  rw [decide_eq_true hp]
  have gp := Gr.push B (.cells [.int .i64 a, .int .i64 b] false)
  have hs : SL (T := Int) (B.push (.cells [.int .i64 a, .int .i64 b] false)) ⟨false, B.n, 0, 2, 2, 0⟩ [a, b] := .of_get (ro := false) (Hp.get_push_new _ _) rfl rfl (Nat.le_refl _) (.inl rfl) rfl
  refine Ok.pos rfl (Ok.bind (r79_ok (k := k + 1) (c := 9) (by omega) hs (by simp)) fun r C ⟨gC, hr⟩ => ?_)
  subst hr
  have c := c.gr (gp.trans gC)
  rw [Bool.not_not]
  by_cases h1 : ∃ y ∈ [a, b], y < -9 ∨ 9 < y
  · rw [decide_eq_true h1]
    refine bad (fun hn => ?_) c
    have h9 := hn.2
    unfold near9 at h9
    obtain ⟨y, hy, h2⟩ := h1
    simp only [List.mem_cons, List.not_mem_nil, or_false] at hy
    rcases hy with rfl | rfl <;> omega
  rw [decide_eq_false h1]
  have q1 : ¬ (a < -9 ∨ 9 < a) := fun q => h1 ⟨a, by simp, q⟩
  have q2 : ¬ (b < -9 ∨ 9 < b) := fun q => h1 ⟨b, by simp, q⟩
  have h9 : near9 a b := by unfold near9; omega
  have tt : plateP l ∧ near9 a b := ⟨hp, h9⟩
  unfold r55_j1
  refine Ok.neg (by simp) (Ok.bind (r51_ok (k := k) (hv.gr c.g) hb) fun y D ⟨gD, hy⟩ => ?_)
  rw [if_pos hp] at hy
  have c := c.gr gD
  have hsl := hy.1
  have hlen := hsl.len
  have hqp : ∀ p ∈ rcs (cs l), qp p := rcs_qp hp.2.1 fun _ h => h
  have hrl : (rcs (cs l)).length ≤ 15 := Nat.le_trans (rcs_len _) (cs_len15 hp.1.2)
  generalize rcs (cs l) = P at *
  dsimp only
  rw [hlen]
  by_cases h0 : P = []
  · subst h0
    refine Ok.pos rfl (Ok.cst c 0 rfl rfl fun E _ _ c => Ok.cld c (.head _) rfl (Ok.cld c (.head _) rfl (Ok.ret ⟨c.g, fun h => absurd tt h, fun _ => ⟨fun _ => rfl, fun h => absurd rfl h⟩⟩)))
  have hpos := List.length_pos_iff.2 h0
  have l0 := hsl.ldI (i := 0) (j := 0) hpos rfl
  have l1 := hsl.ldI (i := 0) (j := 1) hpos rfl
  have l2 := hsl.ldI (i := 0) (j := 2) hpos rfl
  have l3 := hsl.ldI (i := 0) (j := 3) hpos rfl
  have m0 := List.getElem_mem hpos
  have hcap := hsl.cap
  have hopn := hsl.opn
  have es : El.sz Pq = 4 := rfl
  rw [es] at hopn
  have qbA : ∀ {p : Pq}, qp p → qb 48000000 10000 (atq a b p) := fun {p} h => atq_qb (by omega) (by omega) h
  refine Ok.neg (by omega) (Ok.ck (by omega) (Ok.ld l0 (Ok.ld l1 (Ok.ld l2 (Ok.ld l3 (Ok.own (r69_q (by omega) (by omega) (hqp _ m0)) fun _ => Ok.alo c fun E gE c => Ok.ck ⟨by omega, hopn⟩ ?_))))))
  have hcut := (hsl.gr gE).cut (lo := 1) (hi := P.length) (by omega) (by omega)
  have ecut : (P.drop 1).take (P.length - 1) = P.drop 1 := List.take_of_length_le (by simp)
  rw [ecut] at hcut
  have hcl := hcut.len
  rw [List.length_drop] at hcl
  rw [show (1 : Int).toNat = 1 from rfl, Int.toNat_natCast]
  have hcl' : (y.1.cut 4 1 P.length).len = P.length - 1 := hcl
  rw [hcl']
  refine Ok.loop (L := fun K (s : Int) H2 => r55_l0 (appA (k + 2)) K a b H.n D.n (y.1.cut 4 1 P.length) ((P.length - 1 : Nat) : Int) s H2) (fun m s H' => ∃ (i : Nat) (mx : Rat), s = i ∧ i + 1 + m = P.length ∧ Cx H H' [(D.n, [.int .i64 (fq mx).1, .int .i64 (fq mx).2]), (H.n, [.int .i64 0, .int .i64 0])] ∧ (∃ p ∈ P, atq a b p = mx) ∧ (∀ p ∈ P.take (i + 1), atq a b p ≤ mx) ∧ SL H' (y.1.cut 4 1 P.length) (P.drop 1)) ?_ FUEL (P.length - 1) 0 E (by unfold FUEL; omega) ⟨0, atq a b P[0], rfl, by omega, c, ⟨_, m0, rfl⟩, fun p hp => ?_, hcut⟩
  rotate_left
  · rw [List.take_succ_eq_append_getElem hpos, List.take_zero, List.nil_append, List.mem_singleton] at hp
    subst hp; exact Rat.le_refl
  rintro K m s H1 ⟨i, mx, rfl, hm, c, ⟨pm, hpm, em⟩, hmx, hcut⟩ ih
  try dsimp only at *
  rw [r55_l0]
  by_cases h : i + 1 < P.length
  · have hi : i < (P.drop 1).length := by rw [List.length_drop]; omega
    have ei : (P.drop 1)[i] = P[i + 1] := by rw [List.getElem_drop]; congr 1; omega
    have k0 := hcut.ldI (i := i) (j := 0) (n := (fq P[i + 1].1).1) hi (by rw [ei]; rfl)
    have k1 := hcut.ldI (i := i) (j := 1) (n := (fq P[i + 1].1).2) hi (by rw [ei]; rfl)
    have k2 := hcut.ldI (i := i) (j := 2) (n := (fq P[i + 1].2).1) hi (by rw [ei]; rfl)
    have k3 := hcut.ldI (i := i) (j := 3) (n := (fq P[i + 1].2).2) hi (by rw [ei]; rfl)
    have mi := List.getElem_mem h
    have e2 := List.take_succ_eq_append_getElem h
    have hqi := hqp _ mi
    have hmq : qb 48000000 10000 mx := by rw [← em]; exact qbA (hqp _ hpm)
    refine Ok.pos (by omega) (Ok.ck (by omega) (Ok.ld k0 (Ok.ld k1 (Ok.ld k2 (Ok.ld k3 (Ok.alo c fun F gF c => Ok.cld c (.head _) rfl (Ok.cld c (.head _) rfl (Ok.cld c (.head _) rfl (Ok.cld c (.head _) rfl (Ok.own (r69_q (by omega) (by omega) hqi) fun _ => Ok.alo c fun G gG c => ?_))))))))))
    have hcutG := hcut.gr (gF.trans gG)
    refine Ok.cld c (.head _) rfl (Ok.cld c (.head _) rfl (Ok.cld c (.tail _ (.tail _ (.head _))) rfl (Ok.cld c (.tail _ (.tail _ (.head _))) rfl (Ok.own (r89_q (qbA hqi) hmq (by decide) (by decide)) fun _ => ?_))))
    dsimp only
    rw [w64_succ (by omega)]
    refine Ok.ite (fun hc => ?_) fun hc => ?_
    · have hlt := cmp_gt.1 hc
      refine Ok.cld c (.head _) rfl (Ok.cld c (.head _) rfl (Ok.cst c 2 rfl rfl fun I nI oI c => ?_))
      have hne : (y.1.cut 4 1 P.length).nil = false → (y.1.cut 4 1 P.length).b ≠ D.n := fun hn => by
        have hnn : y.1.nil = false := by
          unfold Sl.cut at hn; split at hn <;> simp_all
        have : (y.1.cut 4 1 P.length).b = y.1.b := by unfold Sl.cut; rw [if_neg (by simp [hnn])]
        rw [this]
        have := SL.blt hsl h0
        omega
      refine ih (m - 1) _ I (by omega) ⟨i + 1, atq a b P[i + 1], rfl, by omega, c.weak (.cons _ (.cons _ (.refl _))), ⟨_, mi, rfl⟩, fun p hp => ?_, ?_⟩
      · rw [e2] at hp
        rcases List.mem_append.1 hp with hp | hp
        · have := hmx p hp; grind
        · rw [List.mem_singleton] at hp; subst hp; exact Rat.le_refl
      · cases hn : (y.1.cut 4 1 P.length).nil with
        | true =>
          have := (hcutG.nil hn).2
          rw [this] at hi; simp at hi
        | false => exact SL.congr hcutG (oI _ (hne hn))
    · have hle : ¬ mx < atq a b P[i + 1] := fun q => hc (cmp_gt.2 q)
      refine ih (m - 1) _ G (by omega) ⟨i + 1, mx, rfl, by omega, c.weak (.cons _ (.cons _ (.refl _))), ⟨pm, hpm, em⟩, fun p hp => ?_, hcutG⟩
      rw [e2] at hp
      rcases List.mem_append.1 hp with hp | hp
      · exact hmx p hp
      · rw [List.mem_singleton] at hp; subst hp; grind
  · rw [List.take_of_length_le (by omega)] at hmx
    refine Ok.neg (by omega) (Ok.cld c (.head _) rfl (Ok.cld c (.head _) rfl (Ok.cst c 1 rfl rfl fun I nI oI c => Ok.cld c (.tail _ (.head _)) rfl (Ok.cld c (.tail _ (.head _)) rfl (Ok.ret ⟨c.g, fun h => absurd tt h, fun _ => ⟨fun h => absurd h h0, fun _ => ⟨mx, ⟨⟨pm, hpm, em⟩, hmx⟩, rfl⟩⟩⟩)))))
end Go.Lt.P2

namespace Go.Lt.P2
open Go Go.Lt Go.Proofs
/-! ### the box of some points -/
def isMin (f : Pq → Int) (S : Pq → Prop) (a : Int) : Prop := (∃ p, S p ∧ f p = a) ∧ ∀ p, S p → a ≤ f p
def isMax (f : Pq → Int) (S : Pq → Prop) (a : Int) : Prop := (∃ p, S p ∧ f p = a) ∧ ∀ p, S p → f p ≤ a
def fx (p : Pq) : Int := p.1.floor
def fy (p : Pq) : Int := p.2.floor
theorem isMin.uniq {f : Pq → Int} {S : Pq → Prop} {a b : Int} (h : isMin f S a) (k : isMin f S b) : a = b := by
  obtain ⟨⟨p, hp, e⟩, h2⟩ := h
  obtain ⟨⟨q, hq, e'⟩, k2⟩ := k
  have := h2 q hq; have := k2 p hp; omega
theorem isMax.uniq {f : Pq → Int} {S : Pq → Prop} {a b : Int} (h : isMax f S a) (k : isMax f S b) : a = b := by
  obtain ⟨⟨p, hp, e⟩, h2⟩ := h
  obtain ⟨⟨q, hq, e'⟩, k2⟩ := k
  have := h2 q hq; have := k2 p hp; omega
def IsBx (S : Pq → Prop) (lo hi : Pr) : Prop := (isMin fx S lo.1 ∧ isMin fy S lo.2) ∧ isMax fx S hi.1 ∧ isMax fy S hi.2
theorem IsBx.uniq {S : Pq → Prop} {lo hi lo' hi' : Pr} (h : IsBx S lo hi) (k : IsBx S lo' hi') : lo = lo' ∧ hi = hi' :=
  ⟨Prod.ext (h.1.1.uniq k.1.1) (h.1.2.uniq k.1.2), Prod.ext (h.2.1.uniq k.2.1) (h.2.2.uniq k.2.2)⟩
def isC (q : List Cn) (p : Pq) : Prop := ∃ c ∈ q, c.1 = p
theorem isC_snoc {q : List Cn} {c : Cn} {p : Pq} : isC (q ++ [c]) p ↔ isC q p ∨ c.1 = p := by
  unfold isC
  constructor
  · rintro ⟨d, hd, h⟩
    rcases List.mem_append.1 hd with hd | hd
    · exact .inl ⟨d, hd, h⟩
    · rw [List.mem_singleton] at hd; subst hd; exact .inr h
  · rintro (⟨d, hd, h⟩ | h)
    · exact ⟨d, List.mem_append_left _ hd, h⟩
    · exact ⟨c, by simp, h⟩
theorem isMin_up {f : Pq → Int} {q : List Cn} {c : Cn} {a : Int} (h : isMin f (isC q) a) : isMin f (isC (q ++ [c])) (nlo true (f c.1) a) := by
  obtain ⟨⟨p, hp, e⟩, h2⟩ := h
  unfold nlo
  split
  · rename_i hc
    refine ⟨⟨p, isC_snoc.2 (.inl hp), e⟩, fun r hr => ?_⟩
    rcases isC_snoc.1 hr with hr | rfl
    · exact h2 r hr
    · omega
  · rename_i hc
    have hc : f c.1 < a := Classical.byContradiction fun q => hc ⟨rfl, q⟩
    refine ⟨⟨c.1, isC_snoc.2 (.inr rfl), rfl⟩, fun r hr => ?_⟩
    rcases isC_snoc.1 hr with hr | rfl
    · have := h2 r hr; omega
    · omega
theorem isMax_up {f : Pq → Int} {q : List Cn} {c : Cn} {a : Int} (h : isMax f (isC q) a) : isMax f (isC (q ++ [c])) (nhi true (f c.1) a) := by
  obtain ⟨⟨p, hp, e⟩, h2⟩ := h
  unfold nhi
  split
  · rename_i hc
    refine ⟨⟨p, isC_snoc.2 (.inl hp), e⟩, fun r hr => ?_⟩
    rcases isC_snoc.1 hr with hr | rfl
    · exact h2 r hr
    · omega
  · rename_i hc
    have hc : a < f c.1 := Classical.byContradiction fun q => hc ⟨rfl, q⟩
    refine ⟨⟨c.1, isC_snoc.2 (.inr rfl), rfl⟩, fun r hr => ?_⟩
    rcases isC_snoc.1 hr with hr | rfl
    · have := h2 r hr; omega
    · omega
theorem bxs_is (q : List Cn) : (bxs q).2.2 = decide (q ≠ []) ∧ (q ≠ [] → IsBx (isC q) (bxs q).1 (bxs q).2.1) := by
  have step : ∀ (q : List Cn) (c : Cn), ((bxs q).2.2 = decide (q ≠ []) ∧ (q ≠ [] → IsBx (isC q) (bxs q).1 (bxs q).2.1)) → (bxs (q ++ [c])).2.2 = decide (q ++ [c] ≠ []) ∧ (q ++ [c] ≠ [] → IsBx (isC (q ++ [c])) (bxs (q ++ [c])).1 (bxs (q ++ [c])).2.1) := fun q c ⟨h1, h2⟩ => by
    have e : bxs (q ++ [c]) = bup (bxs q) c := by unfold bxs; rw [List.foldl_append]; rfl
    rw [e]
    refine ⟨by simp [bup], fun _ => ?_⟩
    by_cases hq : q = []
    · subst hq
      have one : ∀ p, isC ([] ++ [c]) p ↔ c.1 = p := fun p => by unfold isC; simp
      unfold IsBx isMin isMax bup up1 up0 nlo nhi bxs
      simp only [List.foldl_nil, Bool.false_eq_true, false_and, if_false]
      refine ⟨⟨⟨⟨c.1, (one _).2 rfl, rfl⟩, fun p hp => ?_⟩, ⟨c.1, (one _).2 rfl, rfl⟩, fun p hp => ?_⟩, ⟨⟨c.1, (one _).2 rfl, rfl⟩, fun p hp => ?_⟩, ⟨c.1, (one _).2 rfl, rfl⟩, fun p hp => ?_⟩ <;>
      · have := (one p).1 hp
        subst this
        exact Int.le_refl _
    · rw [decide_eq_true hq] at h1
      obtain ⟨⟨a1, a2⟩, a3, a4⟩ := h2 hq
      unfold bup up1 up0
      dsimp only
      rw [h1]
      exact ⟨⟨isMin_up (f := fx) a1, isMin_up (f := fy) a2⟩, isMax_up (f := fx) a3, isMax_up (f := fy) a4⟩
  have key : ∀ n (q : List Cn), q.length = n → ((bxs q).2.2 = decide (q ≠ []) ∧ (q ≠ [] → IsBx (isC q) (bxs q).1 (bxs q).2.1)) := by
    intro n
    induction n with
    | zero =>
      intro q hq
      have : q = [] := List.length_eq_zero_iff.1 hq
      subst this
      exact ⟨rfl, fun h => absurd rfl h⟩
    | succ n ih =>
      intro q hq
      have hne : q ≠ [] := by rintro rfl; simp at hq
      rw [← List.dropLast_concat_getLast hne]
      exact step _ _ (ih _ (by simp [hq]))
  exact key _ q rfl
theorem pts_is {l : List Sd} {lo hi : Pr} (h : IsBx (isC (cs l)) lo hi) : pts l = grid l lo hi := by
  have hne : cs l ≠ [] := by
    rintro hc
    obtain ⟨⟨p, ⟨c, hc', _⟩, _⟩, _⟩ := h.1.1
    rw [hc] at hc'
    cases hc'
  have b := bxs_is (cs l)
  obtain ⟨e1, e2⟩ := (b.2 hne).uniq h
  unfold pts
  rw [b.1, decide_eq_true hne, if_pos rfl, e1, e2]
theorem pts_nil {l : List Sd} (h : cs l = []) : pts l = [] := by
  have b := bxs_is (cs l)
  unfold pts
  rw [b.1, h]
  rfl
end Go.Lt.P2

namespace Go.Lt.P2
open Go Go.Lt Go.Proofs
/-- Floor -/
theorem r61_q {q : Rat} {N D : Int} (hq : qb N D q) (hN : N < 1000000000000000000) (hD : D < 1000000000000000000) : Ok (r61 (fq q).1 (fq q).2 H0) fun r _ => r = q.floor := by
  obtain ⟨h1, h2, h3⟩ := hq
  have hp := fq_pos q
  have e1 := Int.mul_tdiv_add_tmod (fq q).1 (fq q).2
  have e2 := Int.tmod_lt_of_pos (fq q).1 hp
  have e3 := Int.lt_tmod_of_pos (fq q).1 hp
  have hf : ∀ f : Int, f * (fq q).2 ≤ (fq q).1 → (fq q).1 < (f + 1) * (fq q).2 → f = q.floor := fun f h1 h2 => by
    have := (floor_iff (f := f) (n := (fq q).1) hp).2 ⟨h1, h2⟩
    rw [dv_fq] at this
    exact this
  have hm0 : 0 ≤ (fq q).1 → 0 ≤ Int.tmod (fq q).1 (fq q).2 := fun h => Int.tmod_nonneg _ h
  have hab : (Int.tdiv (fq q).1 (fq q).2).natAbs ≤ (fq q).1.natAbs := by
    rw [Int.natAbs_tdiv]; exact Nat.div_le_self _ _
  have hmul : (fq q).2 * Int.tdiv (fq q).1 (fq q).2 = Int.tdiv (fq q).1 (fq q).2 * (fq q).2 := Int.mul_comm _ _
  rw [hmul] at e1
  have e4 : (Int.tdiv (fq q).1 (fq q).2 + 1) * (fq q).2 = Int.tdiv (fq q).1 (fq q).2 * (fq q).2 + (fq q).2 := by rw [Int.add_mul, Int.one_mul]
  have e5 : (Int.tdiv (fq q).1 (fq q).2 - 1) * (fq q).2 = Int.tdiv (fq q).1 (fq q).2 * (fq q).2 - (fq q).2 := by rw [Int.sub_mul, Int.one_mul]
  have e6 : (Int.tdiv (fq q).1 (fq q).2 - 1 + 1) * (fq q).2 = Int.tdiv (fq q).1 (fq q).2 * (fq q).2 := by rw [Int.sub_add_cancel]
  unfold r61
  refine Ok.box (.nil H0) fun A _ c => Ok.cld c (.head _) rfl (Ok.cld c (.head _) rfl (Ok.ck (by omega) (Ok.cld c (.head _) rfl (Ok.cld c (.head _) rfl ?_))))
  have hw : w64 (Int.tdiv (fq q).1 (fq q).2) = Int.tdiv (fq q).1 (fq q).2 := w64_id (by omega) (by omega)
  rw [hw]
  generalize Int.tdiv (fq q).1 (fq q).2 = n at *
  generalize Int.tmod (fq q).1 (fq q).2 = m at *
  rw [w64_id (n := n * _) (by omega) (by omega)]
  refine Ok.ite (fun hc => Ok.ret ?_) fun hc => Ok.ret ?_
  · rw [w64_id (by omega) (by omega)]
    exact hf _ (by omega) (by omega)
  · exact hf _ (by omega) (by omega)
end Go.Lt.P2

namespace Go.Lt.P2
open Go Go.Lt Go.Proofs
/-- near -/
theorem r48_ok {a b : Int} : Ok (r48 a b H0) fun r _ => r = decide (near9 a b) := by
  have no : ¬ near9 a b → Ok (some (false, H0)) fun r _ => r = decide (near9 a b) := fun h => Ok.ret (by rw [decide_eq_false h])
  unfold r48
  refine Ok.ite (fun h1 => Ok.ite (fun h2 => Ok.ite (fun h3 => Ok.ret ?_) fun h => no fun q => h q.2.1) fun h => no fun q => h q.1.2) fun h => no fun q => h q.1.1
  refine decide_eq_decide.2 ?_
  unfold near9
  omega
end Go.Lt.P2

namespace Go.Lt.P2
open Go Go.Lt Go.Proofs
/-- Of -/
theorem r18_ok {H : Hp} {v : Sl} {l : List Sd} (hv : SL H v l) (hb : l.length < 9223372036854775808) : Ok (r18 v H) fun w H' => Gr H H' ∧ SL H' w (l.take 9) := by
  unfold r18
  have hlen := hv.len
  rw [hlen]
  refine Ok.loop (L := fun K (s : Sl × Int) H2 => r18_l0 K s.1 v l.length s.2 H2) (fun m s H' => Gr H H' ∧ ∃ i : Nat, s.2 = i ∧ i + m = l.length ∧ AccL H.n H' s.1 ((l.take i).take 9)) ?_ FUEL l.length (⟨true, 0, 0, 0, 0, 0⟩, 0) H (by unfold FUEL; omega) ⟨.refl _, 0, rfl, by omega, by simpa using AccL.nilS⟩
  rintro K m ⟨w, s⟩ H1 ⟨g1, i, rfl, hm, ha⟩ ih
  try dsimp only at *
  rw [r18_l0]
  by_cases h : i < l.length
  · have hg := hv.gr g1
    obtain ⟨E, hE, hE', gE, nE⟩ := sts3 H1 (.int .i64 l[i].1) (.int .i64 l[i].2.1) (.int .i64 l[i].2.2) (.int .i64 0) (.int .i64 0) (.int .i64 0)
    have gB := g1.trans gE
    refine Ok.pos (by omega) (Ok.ck (by omega) (Ok.ld (hg.ldI (i := i) (j := 0) h rfl) (Ok.ld (hg.ldI (i := i) (j := 1) h rfl) (Ok.ld (hg.ldI (i := i) (j := 2) h rfl) (Ok.ld hE ?_)))))
    refine Ok.ite (fun c => Ok.ld (ldI_get hE' rfl) (Ok.ld (ldI_get hE' rfl) (Ok.ld (ldI_get hE' rfl) ?_))) fun c => ?_
    · have ha' := ha.gr gE
      rw [List.take_of_length_le (by rw [List.length_take]; omega)] at ha'
      refine Ok.bind (ha'.push gB l[i] rfl rfl (by rw [List.length_take]; omega)) fun w2 H3 ⟨ha3, g3, _⟩ => ?_
      rw [w64_succ (by omega)]
      refine ih (m - 1) (w2, _) H3 (by omega) ⟨g3, i + 1, rfl, by omega, ?_⟩
      rw [List.take_succ_eq_append_getElem h, List.take_of_length_le (by simp; omega)]
      exact ha3
    · rw [w64_succ (by omega)]
      refine ih (m - 1) (w, _) E (by omega) ⟨gB, i + 1, rfl, by omega, ?_⟩
      rw [List.take_take, Nat.min_eq_left (by omega)] at ha ⊢
      exact ha.gr gE
  · have hi : i = l.length := by omega
    subst hi
    rw [List.take_length] at ha
    exact Ok.neg (by omega) (Ok.ret ⟨g1, ha.sl⟩)
end Go.Lt.P2

namespace Go.Lt.P2
open Go Go.Lt Go.Proofs
def onP (l : List Sd) (s : Sd) (g : Int) : Prop := ∀ t ∈ l, g * (t.2.1 * s.1 - t.1 * s.2.1) ≤ 0
instance (l : List Sd) (s : Sd) (g : Int) : Decidable (onP l s g) := by unfold onP; infer_instance
theorem onP_one {l : List Sd} {s : Sd} : ¬ onP l s 1 ↔ dirP l (-s.2.1, s.1) := by
  unfold onP dirP
  simp only [Classical.not_forall]
  constructor
  · rintro ⟨t, ht, h⟩
    refine ⟨t, ht, ?_⟩
    try dsimp only
    rw [Int.mul_neg]
    omega
  · rintro ⟨t, ht, h⟩
    refine ⟨t, ht, ?_⟩
    try dsimp only at h
    rw [Int.mul_neg] at h
    omega
theorem onP_neg {l : List Sd} {s : Sd} : ¬ onP l s (-1) ↔ dirP l (s.2.1, -s.1) := by
  unfold onP dirP
  simp only [Classical.not_forall]
  constructor
  · rintro ⟨t, ht, h⟩
    refine ⟨t, ht, ?_⟩
    try dsimp only
    rw [Int.mul_neg]
    omega
  · rintro ⟨t, ht, h⟩
    refine ⟨t, ht, ?_⟩
    try dsimp only at h
    rw [Int.mul_neg] at h
    omega
section
variable {Q : Bool → Hp → Prop}
theorem r19_l5_ok {H : Hp} {v vv : Sl} {l : List Sd} {sb : Nat} {s : Sd} {g ln iv : Int} (hv : SL H v l) (hb : l.length ≤ 6) (hs : ∀ s ∈ l, sideP s) (hss : sideP s) (hg : g = 1 ∨ g = -1) (hsb : H.get sb = some (.cells [.int .i64 s.1, .int .i64 s.2.1, .int .i64 s.2.2] false))
    {kt4 : Sl → Nat → Int → Sl → Int → Int → Hp → Option (Bool × Hp)} (kf : ∀ H', Gr H H' → onP l s g → Q false H') (k : ∀ H', Gr H H' → ¬ onP l s g → Ok (kt4 v sb (w64 (g + 2)) vv ln iv H') Q) : Ok (r19_l5 kt4 FUEL v sb g true vv ln iv v l.length 0 H) Q := by
  have hlen := hv.len
  refine Ok.loop (L := fun K (t : Bool × Int) H2 => r19_l5 kt4 K v sb g t.1 vv ln iv v l.length t.2 H2) (fun m t H' => ∃ i : Nat, t.2 = i ∧ i + m = l.length ∧ Gr H H' ∧ t.1 = decide (onP (l.take i) s g)) ?_ FUEL l.length (true, 0) H (by unfold FUEL; omega) ⟨0, rfl, by omega, .refl _, by simp [onP]⟩
  rintro K m ⟨b, t⟩ H1 ⟨i, rfl, hm, g1, hbb⟩ ih
  try dsimp only at *
  subst hbb
  rw [r19_l5]
  by_cases h : i < l.length
  · have hgl := hv.gr g1
    have hx := hs _ (List.getElem_mem h)
    obtain ⟨E, hE, hE', gE, nE⟩ := sts3 H1 (.int .i64 l[i].1) (.int .i64 l[i].2.1) (.int .i64 l[i].2.2) (.int .i64 0) (.int .i64 0) (.int .i64 0)
    have gB := g1.trans gE
    have hsE : E.get sb = some (.cells [.int .i64 s.1, .int .i64 s.2.1, .int .i64 s.2.2] false) := by rw [gB.2 _ (Hp.get_lt hsb)]; exact hsb
    have ek : onP (l.take (i + 1)) s g ↔ onP (l.take i) s g ∧ g * (l[i].2.1 * s.1 - l[i].1 * s.2.1) ≤ 0 := by
      unfold onP
      constructor
      · intro q
        rw [List.take_succ_eq_append_getElem h] at q
        exact ⟨fun t ht => q t (List.mem_append_left _ ht), q _ (List.mem_append_right _ (List.mem_singleton.2 rfl))⟩
      · rintro ⟨q1, q2⟩
        exact forall_take h q1 q2
    refine Ok.pos (by omega) (Ok.ck (by omega) (Ok.ld (hgl.ldI (i := i) (j := 0) h rfl) (Ok.ld (hgl.ldI (i := i) (j := 1) h rfl) (Ok.ld (hgl.ldI (i := i) (j := 2) h rfl) (Ok.ld hE ?_)))))
    by_cases c : onP (l.take i) s g
    · rw [decide_eq_true c]
      refine Ok.pos rfl (Ok.ld (ldI_get hE' rfl) (Ok.ld (ldI_get hsE rfl) (Ok.ld (ldI_get hE' rfl) (Ok.ld (ldI_get hsE rfl) ?_))))
      unfold sideP at hss hx
      have b1 := mul_bd (A := 4) (B := 4) (x := l[i].2.1) (y := s.1) (by omega) (by omega) (by omega) (by omega)
      have b2 := mul_bd (A := 4) (B := 4) (x := l[i].1) (y := s.2.1) (by omega) (by omega) (by omega) (by omega)
      rw [w64_id (n := l[i].2.1 * s.1) (by omega) (by omega), w64_id (n := l[i].1 * s.2.1) (by omega) (by omega), w64_id (n := l[i].2.1 * s.1 - l[i].1 * s.2.1) (by omega) (by omega), w64_id (n := g * (l[i].2.1 * s.1 - l[i].1 * s.2.1)) (by rcases hg with rfl | rfl <;> omega) (by rcases hg with rfl | rfl <;> omega), w64_succ (by omega)]
      exact ih (m - 1) (_, _) E (by omega) ⟨i + 1, rfl, by omega, gB, decide_eq_decide.2 (by rw [ek]; exact ⟨fun q => ⟨c, q⟩, fun q => q.2⟩)⟩
    · rw [decide_eq_false c]
      refine Ok.neg (by simp) ?_
      rw [w64_succ (by omega)]
      exact ih (m - 1) (_, _) E (by omega) ⟨i + 1, rfl, by omega, gB, (decide_eq_false (fun q => c (ek.1 q).1)).symm⟩
  · rw [List.take_of_length_le (by omega)]
    refine Ok.neg (by omega) ?_
    by_cases c : onP l s g
    · rw [decide_eq_true c]; exact Ok.pos rfl (Ok.ret (kf H1 g1 c))
    · rw [decide_eq_false c]; exact Ok.neg (by simp) (k H1 g1 c)
end
/-- the directions -/
theorem r19_l3_ok {H0' H : Hp} {v : Sl} {l : List Sd} (hv : SL H v l) (hb : l.length ≤ 6) (hs : ∀ s ∈ l, sideP s) (g : Gr H0' H) : Ok (r19_l3 FUEL v v l.length 0 H) fun r H' => Gr H0' H' ∧ r = decide (∀ s ∈ l, dirP l (-s.2.1, s.1) ∧ dirP l (s.2.1, -s.1)) := by
  have hlen := hv.len
  refine Ok.loop (L := fun K (s : Int) H2 => r19_l3 K v v l.length s H2) (fun m s H' => Gr H H' ∧ ∃ i : Nat, s = i ∧ i + m = l.length ∧ ∀ s ∈ l.take i, dirP l (-s.2.1, s.1) ∧ dirP l (s.2.1, -s.1)) ?_ FUEL l.length 0 H (by unfold FUEL; omega) ⟨.refl _, 0, rfl, by omega, by simp⟩
  rintro K m s H1 ⟨g1, i, rfl, hm, ht⟩ ih
  try dsimp only at *
  rw [r19_l3]
  by_cases h : i < l.length
  · have hg := hv.gr g1
    have hmem : l[i] ∈ l := List.getElem_mem h
    have hsd := hs _ hmem
    obtain ⟨E, hE, hE', gE, nE⟩ := sts3 H1 (.int .i64 l[i].1) (.int .i64 l[i].2.1) (.int .i64 l[i].2.2) (.int .i64 0) (.int .i64 0) (.int .i64 0)
    refine Ok.pos (by omega) (Ok.ck (by omega) (Ok.ld (hg.ldI (i := i) (j := 0) h rfl) (Ok.ld (hg.ldI (i := i) (j := 1) h rfl) (Ok.ld (hg.ldI (i := i) (j := 2) h rfl) (Ok.ld hE ?_)))))
    have gB := g1.trans gE
    have bad : ∀ H', Gr E H' → ¬ (dirP l (-l[i].2.1, l[i].1) ∧ dirP l (l[i].2.1, -l[i].1)) → Gr H0' H' ∧ false = decide (∀ s ∈ l, dirP l (-s.2.1, s.1) ∧ dirP l (s.2.1, -s.1)) := fun H' gH hno => ⟨g.trans (gB.trans gH), by rw [decide_eq_false (fun q => hno (q _ hmem))]⟩
    rw [show FUEL = 18446744073709551613 + 1 + 1 + 1 from rfl, r19_l4]
    refine Ok.pos (by decide) ?_
    rw [hlen]
    refine r19_l5_ok (hv.gr gB) hb hs hsd (.inr rfl) hE' (fun H' gH hon => bad H' gH fun q => (onP_neg.2 q.2) hon) fun H2 g2 hn1 => ?_
    rw [show w64 (-1 + 2) = 1 by decide +kernel, r19_l4]
    refine Ok.pos (by decide) ?_
    rw [hlen]
    refine r19_l5_ok (hv.gr (gB.trans g2)) hb hs hsd (.inl rfl) (by rw [g2.2 _ (Hp.get_lt hE')]; exact hE') (fun H' gH hon => bad H' (g2.trans gH) fun q => (onP_one.2 q.1) hon) fun H3 g3 hn2 => ?_
    rw [show w64 (1 + 2) = 3 by decide +kernel, r19_l4]
    refine Ok.neg (by decide) ?_
    rw [w64_succ (by omega)]
    exact ih (m - 1) _ H3 (by omega) ⟨gB.trans (g2.trans g3), i + 1, rfl, by omega, forall_take h ht ⟨onP_one.1 hn2, onP_neg.1 hn1⟩⟩
  · rw [List.take_of_length_le (by omega)] at ht
    exact Ok.neg (by omega) (Ok.ret ⟨g.trans g1, by rw [decide_eq_true ht]⟩)
/-- Plate of the reference -/
theorem r19_ok {H : Hp} {v : Sl} {l : List Sd} (hv : SL H v l) : Ok (r19 v H) fun r H' => Gr H H' ∧ r = decide (plateP l) := by
  unfold r19
  have hlen := hv.len
  by_cases h3 : l.length < 3
  · refine Ok.pos (by omega) ?_
    unfold r19_j0
    exact Ok.pos rfl (Ok.ret ⟨.refl _, by rw [decide_eq_false (fun h => by have := h.1.1; omega)]⟩)
  · refine Ok.neg (by omega) ?_
    unfold r19_j0
    by_cases h6 : 6 < l.length
    · exact Ok.pos (by rw [decide_eq_true_iff]; omega) (Ok.ret ⟨.refl _, by rw [decide_eq_false (fun h => by have := h.1.2; omega)]⟩)
    · refine Ok.neg (by rw [decide_eq_true_iff]; omega) ?_
      rw [hlen]
      refine Ok.loop (L := fun K (s : Int) H2 => r19_l1 K v v l.length s H2) (fun m s H' => Gr H H' ∧ ∃ i : Nat, s = i ∧ i + m = l.length ∧ ∀ s ∈ l.take i, sideP s) ?_ FUEL l.length 0 H (by unfold FUEL; omega) ⟨.refl _, 0, rfl, by omega, by simp⟩
      rintro K m s H1 ⟨g1, i, rfl, hm, ht⟩ ih
      try dsimp only at *
      rw [r19_l1]
      by_cases h : i < l.length
      · have hg := hv.gr g1
        have hmem : l[i] ∈ l := List.getElem_mem h
        obtain ⟨E, hE, hE', gE, nE⟩ := sts3 H1 (.int .i64 l[i].1) (.int .i64 l[i].2.1) (.int .i64 l[i].2.2) (.int .i64 0) (.int .i64 0) (.int .i64 0)
        have gB := g1.trans gE
        have j2 : ∀ b, b = !decide (sideP l[i]) → Ok (r19_j2 (fun v1_ v2_ v3_ v4_ H_ => r19_l1 K v1_ v2_ v3_ v4_ H_) v v l.length i b E) fun r H' => Gr H H' ∧ r = decide (plateP l) := fun b hbb => by
          subst hbb
          unfold r19_j2
          by_cases c : sideP l[i]
          · rw [decide_eq_true c]
            refine Ok.neg (by simp) ?_
            rw [w64_succ (by omega)]
            exact ih (m - 1) _ E (by omega) ⟨gB, i + 1, rfl, by omega, forall_take h ht c⟩
          · rw [decide_eq_false c]
            exact Ok.pos rfl (Ok.ret ⟨gB, by rw [decide_eq_false (fun q => c (q.2.1 _ hmem))]⟩)
        have no : ¬ sideP l[i] → true = !decide (sideP l[i]) := fun q => by rw [decide_eq_false q]; rfl
        refine Ok.pos (by omega) (Ok.ck (by omega) (Ok.ld (hg.ldI (i := i) (j := 0) h rfl) (Ok.ld (hg.ldI (i := i) (j := 1) h rfl) (Ok.ld (hg.ldI (i := i) (j := 2) h rfl) (Ok.ld hE (Ok.ld (ldI_get hE' rfl) ?_))))))
        refine Ok.ite (fun c => j2 _ (no fun q => by unfold sideP at q; omega)) fun c1 => Ok.ld (ldI_get hE' rfl) ?_
        refine Ok.ite (fun c => j2 _ (no fun q => by unfold sideP at q; omega)) fun c2 => Ok.ld (ldI_get hE' rfl) ?_
        refine Ok.ite (fun c => j2 _ (no fun q => by unfold sideP at q; omega)) fun c3 => Ok.ld (ldI_get hE' rfl) ?_
        refine Ok.ite (fun c => j2 _ (no fun q => by unfold sideP at q; omega)) fun c4 => Ok.ld (ldI_get hE' rfl) ?_
        have last : ¬ (l[i].1 = 0 ∧ l[i].2.1 = 0) → Ok (if l[i].2.2 < -40 then r19_j2 (fun v1_ v2_ v3_ v4_ H_ => r19_l1 K v1_ v2_ v3_ v4_ H_) v v l.length i true E else (E.ldI .i64 H1.n (0 + 2)).bind fun x => r19_j2 (fun v1_ v2_ v3_ v4_ H_ => r19_l1 K v1_ v2_ v3_ v4_ H_) v v l.length i (decide (40 < x)) E) fun r H' => Gr H H' ∧ r = decide (plateP l) := fun hne => by
          refine Ok.ite (fun c => j2 _ (no fun q => by unfold sideP at q; omega)) fun c5 => Ok.ld (ldI_get hE' rfl) (j2 _ ?_)
          refine Bool.eq_iff_iff.2 ?_
          rw [Bool.not_eq_true', decide_eq_false_iff_not, decide_eq_true_iff]
          unfold sideP
          constructor
          · intro q w; omega
          · intro q
            by_cases w : 40 < l[i].2.2
            · exact w
            · exact absurd ⟨⟨by omega, by omega⟩, ⟨by omega, by omega⟩, hne, by omega, by omega⟩ q
        refine Ok.ite (fun c0 => Ok.ld (ldI_get hE' rfl) (Ok.ite (fun c5 => j2 _ (no fun q => q.2.2.1 ⟨c0, c5⟩)) fun c5 => Ok.ld (ldI_get hE' rfl) (last fun q => c5 q.2))) fun c0 => Ok.ld (ldI_get hE' rfl) (last fun q => c0 q.1)
      · rw [List.take_of_length_le (by omega)] at ht
        refine Ok.neg (by omega) ?_
        rw [hlen]
        refine (r19_l3_ok (hv.gr g1) (by omega) ht g1).mono fun r H' hh => ⟨hh.1, ?_⟩
        rw [hh.2]
        exact decide_eq_decide.2 ⟨fun q => ⟨⟨by omega, by omega⟩, ht, q⟩, fun q => q.2.2⟩
end Go.Lt.P2

namespace Go.Lt.P2
open Go Go.Lt Go.Proofs
theorem plate_take {p : List Sd} : plateP (p.take 9) ↔ plateP p := by
  by_cases h : p.length ≤ 9
  · rw [List.take_of_length_le h]
  · constructor
    · intro c; have b := c.1.2; rw [List.length_take] at b; omega
    · intro c; have b := c.1.2; omega
theorem plate_eq {p : List Sd} (h : plateP p) : p.take 9 = p := List.take_of_length_le (by have := h.1.2; omega)
theorem awk (k : Nat) (H : Hp) : appA k 21 [] H = some (.bool true, H) := rfl
end Go.Lt.P2
