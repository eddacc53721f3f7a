/- PLAIN LAWS OF WHAT IS COMPUTED, for the statement 'CutsWithin'. Nothing is asked of the input. -/
import Derived.Test.YteefkljbmjjncaaU9XTk
import Derived.Test.YteefkljbmjjncaaU9XPm
import Derived.Test.YteefkljbmjjncaaLB
set_option linter.unusedVariables false
set_option linter.unusedSimpArgs false
namespace Go.Lt.P2
open Go Go.Lt Go.Proofs
/-- what the hull's corners are here -/
structure Hu (h P : List Pr) : Prop where
  ord : P.Pairwise plt
  nr : ∀ p ∈ P, near3 p
  ne : h ≠ []
  sub : ∀ p ∈ h, p ∈ P
  or : (h.length = 1 ∧ P.length = 1) ∨ (h = hul P ∧ Ord P)
  le : h.length ≤ P.length
  head : h[0]? = P[0]?
  max : ∀ f g, ∀ z ∈ P, ∃ q ∈ h, sumI f g z ≤ sumI f g q
theorem hu_hulR {P : List Pr} (ho : P.Pairwise plt) (hn : ∀ p ∈ P, near3 p) (hne : P ≠ []) : Hu (hulR P).2 P ∧ (hulR P).1 = 0 := by
  have hpos := List.length_pos_iff.2 hne
  unfold hulR
  rw [if_neg (by omega)]
  by_cases h1 : P.length = 1
  · rw [if_pos h1]
    exact ⟨⟨ho, hn, hne, fun p hp => hp, .inl ⟨h1, h1⟩, Nat.le_refl _, rfl, fun f g z hz => ⟨z, hz, Int.le_refl _⟩⟩, rfl⟩
  · rw [if_neg h1]
    have o : Ord P := ⟨ho, hn, by omega⟩
    refine ⟨⟨ho, hn, fun e => ?_, o.sub, .inr ⟨rfl, o⟩, o.len, ?_, fun f g => o.best⟩, rfl⟩
    · have := o.hge
      have e : hul P = [] := e
      rw [e] at this
      simp at this
    · show (hul P)[0]? = _
      rw [o.head, List.head?_eq_getElem?]
section
variable {v3 v4 : Sl} {B H : Hp} {h P : List Pr} {a b m g : Int}
theorem r9_j6_ok {t : Bool} (hg : near9 a b → g = 0 ∧ t = true) (hg2 : ¬ near9 a b → g = 2) : Ok (r9_j6 (appA 20) a b g t false H) fun r _ => r = true := by
  have awkt : ∀ (X : Hp), Ok ((appA 20 21 [] X).bind fun p => (p.1.asB).bind fun x => some (x, p.2)) fun r _ => r = true := fun X => Ok.ld (awk 20 _) (Ok.ld rfl (Ok.ret rfl))
  unfold r9_j6
  refine Ok.neg (by simp) (Ok.own r48_ok fun X => ?_)
  by_cases h9 : near9 a b
  · rw [decide_eq_true h9]
    exact Ok.pos rfl (Ok.pos (hg h9).1 (Ok.pos (hg h9).2 (awkt _)))
  · rw [decide_eq_false h9]
    exact Ok.neg (by simp) (Ok.pos (hg2 h9) (awkt _))
theorem r9_j7_ok {t : Bool} (hs : SL H v3 h) (ps : SL H v4 P) (hu : Hu h P) (hg : near9 a b → g = 0 ∧ t = true) (hg2 : ¬ near9 a b → g = 2) : Ok (r9_j7 (appA 20) a b v3 v4 g t H) fun r _ => r = true := by
  have e1 := hs.len
  have e2 := ps.len
  unfold r9_j7
  refine Ok.ite (fun h1 => ?_) fun _ => r9_j6_ok hg hg2
  have : P.length = 1 := by
    rcases hu.or with q | ⟨q, o⟩
    · exact q.2
    · have := o.hge; rw [← q] at this; omega
  rw [decide_eq_false (show ¬ (v4.len : Int) ≠ 1 by omega)]
  exact r9_j6_ok hg hg2
theorem r9_l4_ok {kt : Int → Int → Sl → Sl → Int → Int → Bool → Sl → Int → Int → Hp → Option (Bool × Hp)} {t : Bool} {x y : Pr} {xb yb i : Nat} {n k0 : Int} {w : Sl} {Q : Bool → Hp → Prop}
    (hs : SL B v3 (hul P)) (ps : SL B v4 P) (hP : P.length ≤ 10000000) (o : Ord P) (hi : (hul P)[i]? = some x) (hj : (hul P)[(i + 1) % (hul P).length]? = some y)
    (c : Cx B H [(yb, [.int .i64 y.1, .int .i64 y.2]), (xb, [.int .i64 x.1, .int .i64 x.2])])
    (kN : ∀ H', Gr B H' → Ok (kt a b v3 v4 m g t w n (w64 (k0 + 1)) H') Q) : Ok (r9_l4 (appA 20) kt FUEL a b v3 v4 m g t xb yb w n k0 v4 P.length 0 H) Q := by
  refine Ok.loop (L := fun K (s : Int) H2 => r9_l4 (appA 20) kt K a b v3 v4 m g t xb yb w n k0 v4 P.length s H2) (fun r s H' => Cx B H' [(yb, [.int .i64 y.1, .int .i64 y.2]), (xb, [.int .i64 x.1, .int .i64 x.2])] ∧ ∃ j : Nat, s = j ∧ j + r = P.length) ?_ FUEL P.length 0 H (by unfold FUEL; omega) ⟨c, 0, rfl, by omega⟩
  rintro K r s H1 ⟨c, j, rfl, hm⟩ ih
  try dsimp only at *
  rw [r9_l4]
  have hpl := ps.len
  have hxP := o.sub x (List.mem_of_getElem? hi)
  have hyP := o.sub y (List.mem_of_getElem? hj)
  by_cases h : j < P.length
  · have hg := ps.gr c.g
    have mz := List.getElem_mem h
    have l0 := hg.ldI (i := j) (j := 0) h rfl
    have l1 := hg.ldI (i := j) (j := 1) h rfl
    generalize P[j] = z at *
    have nx := o.nr x hxP
    have ny := o.nr y hyP
    have nz := o.nr z mz
    have e := o.edge hi hj
    refine Ok.pos (by omega) (Ok.ck (by omega) (Ok.ld l0 (Ok.ld l1 (Ok.alo c fun E gE c => ?_))))

    refine Ok.cld c (.tail _ (.head _)) rfl (Ok.cld c (.tail _ (.tail _ (.head _))) rfl (Ok.cld c (.head _) rfl (Ok.cld c (.tail _ (.tail _ (.head _))) rfl (Ok.cld c (.tail _ (.head _)) rfl (Ok.cld c (.tail _ (.tail _ (.head _))) rfl (Ok.cld c (.head _) rfl (Ok.cld c (.tail _ (.tail _ (.head _))) rfl ?_)))))))
    have side : w64 (w64 (w64 (y.1 - x.1) * w64 (z.2 - x.2)) - w64 (w64 (y.2 - x.2) * w64 (z.1 - x.1))) = lft x y z := by
      unfold near3 at nx ny nz
      have b1 := mul_bd (x := y.1 - x.1) (y := z.2 - x.2) (A := 2000) (B := 2000) (by omega) (by omega) (by omega) (by omega)
      have b2 := mul_bd (x := y.2 - x.2) (y := z.1 - x.1) (A := 2000) (B := 2000) (by omega) (by omega) (by omega) (by omega)
      rw [w64_id (n := y.1 - x.1) (by omega) (by omega), w64_id (n := z.2 - x.2) (by omega) (by omega), w64_id (n := y.2 - x.2) (by omega) (by omega), w64_id (n := z.1 - x.1) (by omega) (by omega), w64_id (n := (y.1 - x.1) * (z.2 - x.2)) (by omega) (by omega), w64_id (n := (y.2 - x.2) * (z.1 - x.1)) (by omega) (by omega), w64_id (by omega) (by omega), lft_eq]
    rw [side]
    have next : ∀ {X : Hp}, Cx B X [(yb, [.int .i64 y.1, .int .i64 y.2]), (xb, [.int .i64 x.1, .int .i64 x.2])] → Ok (r9_j8 (appA 20) (fun v1_ v2_ v3_ v4_ v5_ v6_ v7_ v8_ v9_ v10_ v11_ v12_ v13_ v14_ v15_ H_ => r9_l4 (appA 20) kt K v1_ v2_ v3_ v4_ v5_ v6_ v7_ v8_ v9_ v10_ v11_ v12_ v13_ v14_ v15_ H_) a b v3 v4 m g t xb yb w n k0 v4 P.length j false X) Q := fun {X} cX => by
      unfold r9_j8
      refine Ok.neg (by simp) ?_
      rw [w64_succ (by omega)]
      exact ih (r - 1) _ X (by omega) ⟨cX, j + 1, rfl, by omega⟩
    have cw := c.weak (.cons _ (.refl _))
    have ez := e.2 z mz
    refine Ok.neg (by omega) (Ok.ite (fun h0 => ?_) fun h0 => next cw)
    refine Ok.cld c (.tail _ (.tail _ (.head _))) rfl (Ok.cld c (.tail _ (.tail _ (.head _))) rfl (Ok.cld c (.tail _ (.head _)) rfl (Ok.cld c (.tail _ (.head _)) rfl (Ok.cld c (.head _) rfl (Ok.cld c (.head _) rfl (Ok.own (r46_yes (e.btw mz h0)) fun X => Ok.pos rfl ?_))))))
    refine Ok.cld c (.head _) rfl (Ok.cld c (.head _) rfl (Ok.cld c (.tail _ (.tail _ (.head _))) rfl (Ok.cld c (.tail _ (.tail _ (.head _))) rfl ?_)))
    rw [keqs2]
    refine Ok.ite (fun _ => next cw) fun hx => ?_
    refine Ok.cld c (.head _) rfl (Ok.cld c (.head _) rfl (Ok.cld c (.tail _ (.head _)) rfl (Ok.cld c (.tail _ (.head _)) rfl ?_)))
    rw [keqs2]
    refine Ok.ite (fun _ => next cw) fun hy => ?_
    refine Ok.cld c (.head _) rfl (Ok.cld c (.head _) rfl ?_)
    have hz : z ∉ hul P := fun q => by
      rcases o.corner hi hj q h0 with rfl | rfl
      · exact hx (by simp)
      · exact hy (by simp)
    refine Ok.bind (r47_no (hs.gr c.g) (by have := o.len; omega) hz) fun q E2 ⟨g2, hq⟩ => ?_
    subst hq
    exact next (cw.gr g2)
  · exact Ok.neg (by omega) (kN _ c.g)
theorem r9_l3_ok (hs : SL B v3 h) (ps : SL B v4 P) (hP : P.length ≤ 10000000) (hu : Hu h P) (hg : near9 a b → g = 0 ∧ ∃ q ∈ h, sumI a b q = m) (hg2 : ¬ near9 a b → g = 2) : Ok (r9_l3 (appA 20) FUEL a b v3 v4 m g false v3 h.length 0 B) fun r _ => r = true := by
  have hle := hu.le
  have hl := hs.len
  have hpos := List.length_pos_iff.2 hu.ne
  refine Ok.loop (L := fun K (s : Bool × Int) H2 => r9_l3 (appA 20) K a b v3 v4 m g s.1 v3 h.length s.2 H2) (fun r s H' => Gr B H' ∧ ∃ i : Nat, s.2 = i ∧ i + r = h.length ∧ (near9 a b → ∀ k q, k < i → h[k]? = some q → sumI a b q = m → s.1 = true)) ?_ FUEL h.length (false, 0) B (by unfold FUEL; omega) ⟨.refl _, 0, rfl, by omega, fun _ k q hk => by omega⟩
  rintro K r ⟨t, s⟩ H1 ⟨g1, i, rfl, hm, hr⟩ ih
  try dsimp only at *
  rw [r9_l3]
  have fin : ∀ {t : Bool}, (near9 a b → ∀ k q, k < h.length → h[k]? = some q → sumI a b q = m → t = true) → near9 a b → g = 0 ∧ t = true := fun {t} ht h9 => by
    obtain ⟨e, q, hq, he⟩ := hg h9
    obtain ⟨k, hk⟩ := List.mem_iff_getElem?.1 hq
    exact ⟨e, ht h9 k q (List.getElem?_eq_some_iff.1 hk).1 hk he⟩
  by_cases hi : i < h.length
  · have hh := hs.gr g1
    have mx := List.getElem_mem hi
    have gx : h[i]? = some h[i] := List.getElem?_eq_getElem hi
    have l0 := hh.ldI (i := i) (j := 0) hi rfl
    have l1 := hh.ldI (i := i) (j := 1) hi rfl
    generalize h[i] = x at *
    have nx := hu.nr x (hu.sub x mx)
    have c0 : Cx B H1 [] := (Cx.nil B).gr g1
    refine Ok.pos (by omega) (Ok.ck (by omega) (Ok.ld l0 (Ok.ld l1 (Ok.alo c0 fun E gE c => Ok.cld c (.head _) rfl (Ok.cld c (.head _) rfl (Ok.bind (r43_gen (says44 19) (ps.gr c.g) (by omega) hu.ord (hu.sub x mx)) fun q F ⟨gF, hq⟩ => Ok.pos hq ?_))))))
    have c := c.gr gF
    have j5 : ∀ {t' : Bool}, (near9 a b → ∀ k q, k < i + 1 → h[k]? = some q → sumI a b q = m → t' = true) → Ok (r9_j5 (appA 20) (fun v1_ v2_ v3_ v4_ v5_ v6_ v7_ v8_ v9_ v10_ H_ => r9_l3 (appA 20) K v1_ v2_ v3_ v4_ v5_ v6_ v7_ v8_ v9_ v10_ H_) a b v3 v4 m g t' i H1.n v3 h.length i F) fun r _ => r = true := fun {t'} ht => by
      unfold r9_j5
      have em : Int.tmod (w64 ((i : Int) + 1)) (v3.len : Int) = (((i + 1) % h.length : Nat) : Int) := by
        rw [w64_succ (by omega), hl]
        rfl
      have jl : (i + 1) % h.length < h.length := Nat.mod_lt _ hpos
      have hF := hs.gr c.g
      rw [em]
      have gy : h[(i + 1) % h.length]? = some h[(i + 1) % h.length] := List.getElem?_eq_getElem jl
      have k0 := hF.ldI (i := (i + 1) % h.length) (j := 0) jl rfl
      have k1 := hF.ldI (i := (i + 1) % h.length) (j := 1) jl rfl
      generalize h[(i + 1) % h.length] = y at *
      refine Ok.ck (by omega) (Ok.ck (by omega) (Ok.ld k0 (Ok.ld k1 (Ok.alo c fun G gG c => ?_))))
      have hl1 := (hs.gr c.g)
      refine Ok.ite (fun h1 => ?_) fun h1 => ?_
      · exact r9_j7_ok hl1 (ps.gr c.g) hu (fin fun h9 k q hk => ht h9 k q (by omega)) hg2
      · rcases hu.or with q | ⟨q, o⟩
        · omega
        subst q
        rw [ps.len]
        refine r9_l4_ok hs ps hP o gx gy c fun X gX => ?_
        rw [w64_succ (by omega)]
        exact ih (r - 1) (t', _) X (by omega) ⟨gX, i + 1, rfl, by omega, ht⟩
    refine Ok.ite (fun ht => j5 fun h9 k q hk hk2 hk3 => rfl) fun ht => Ok.cld c (.head _) rfl (Ok.cld c (.head _) rfl (j5 fun h9 k q hk hk2 hk3 => ?_))
    by_cases e : k = i
    · subst e
      rw [gx] at hk2
      cases hk2
      have bd := sum_bd h9 nx
      rw [decide_eq_true_iff, w64_id (n := a * x.1) (by omega) (by omega), w64_id (n := b * x.2) (by omega) (by omega)]
      unfold sumI at hk3 bd
      rw [w64_id (by omega) (by omega)]
      exact hk3
    · exact absurd (hr h9 k q (by omega) hk2 hk3) ht
  · refine Ok.neg (by omega) (r9_j7_ok (hs.gr g1) (ps.gr g1) hu (fin fun h9 k q hk => hr h9 k q (by omega)) hg2)
end
theorem withinLaw {H : Hp} {v : Sl} {p : List Sd} (hv : SL H v p) (hb : p.length < 9223372036854775808) (a b : Int) : Ok (r9 (appA 20) v a b H) fun r _ => r = true := by
  unfold r9
  have l1 : (p.take 9).length ≤ 1000 := by rw [List.length_take]; omega
  have awkt : ∀ (X : Hp), Ok ((appA 20 21 [] X).bind fun p => (p.1.asB).bind fun x => some (x, p.2)) fun r _ => r = true := fun X => Ok.ld (awk 20 _) (Ok.ld rfl (Ok.ret rfl))
  refine Ok.bind (r18_ok hv hb) fun w A ⟨gA, hw⟩ => Ok.bind (r23_ok (k := 18) hw l1) fun y C ⟨gC, hy⟩ => Ok.bind (r18_ok (hv.gr (gA.trans gC)) hb) fun w2 D ⟨gD, hw2⟩ => Ok.bind (r40_ok (k := 18) hw2 l1) fun z E ⟨gE, hz⟩ => ?_
  by_cases hp : plateP p
  case neg =>
    rw [if_neg (fun q => hp (plate_take.1 q))] at hy hz
    subst hy hz
    unfold r9_j0
    exact Ok.pos (by simp) (Ok.pos rfl (Ok.pos rfl (Ok.pos rfl (awkt _))))
  have h6 := hp.1.2
  rw [plate_eq hp, if_pos hp] at hy hz
  have gDE := gD.trans gE
  have gHE := (gA.trans gC).trans gDE
  refine Ok.neg (by rw [hz.2]; simp) (Ok.bind (r19_ok (hv.gr gHE)) fun q F ⟨gF, hq⟩ => ?_)
  subst hq
  rw [decide_eq_true hp]
  have hs := hy.1.gr (gDE.trans gF)
  have ps := (AccL.sl hz.1).gr gF
  have hsl := hs.len
  have psl := ps.len
  have hpl := pts_len hp.2.1
  have hor := pts_plt p
  have hn := pts_near hp.2.1
  unfold r9_j0
  refine Ok.neg (by simp) ?_
  by_cases h0 : pts p = []
  · rw [h0] at hy psl
    refine Ok.pos (by rw [psl]; rfl) ?_
    unfold r9_j1
    refine Ok.pos rfl (Ok.pos (by rw [psl]; rfl) (Ok.pos hy.2 (awkt _)))
  obtain ⟨hu, hu0⟩ := hu_hulR hor hn h0
  have hpos := List.length_pos_iff.2 h0
  have hhpos := List.length_pos_iff.2 hu.ne
  have hle := hu.le
  refine Ok.neg (by dsimp only at psl ⊢; omega) ?_
  rw [hy.2, hu0]
  unfold r9_j1
  have e0 : (hulR (pts p)).2[0] = (pts p)[0] := by
    have := hu.head
    rw [List.getElem?_eq_getElem hhpos, List.getElem?_eq_getElem hpos] at this
    exact Option.some.inj this
  have a0 := hs.ldI (i := 0) (j := 0) hhpos rfl
  have a1 := hs.ldI (i := 0) (j := 1) hhpos rfl
  have b0 := ps.ldI (i := 0) (j := 0) hpos rfl
  have b1 := ps.ldI (i := 0) (j := 1) hpos rfl
  rw [e0] at a0 a1
  dsimp only at hsl psl ⊢
  refine Ok.neg (by simp) (Ok.neg (by omega) (Ok.neg (by omega) (Ok.ck (by omega) (Ok.ld a0 (Ok.ld a1 (Ok.ck (by omega) (Ok.ld b0 (Ok.ld b1 ?_))))))))
  rw [keqs2, decide_eq_true rfl]
  unfold r9_j2
  refine Ok.neg (by simp) (Ok.bind (r18_ok (hv.gr (gHE.trans gF)) hb) fun w3 G ⟨gG, hw3⟩ => ?_)
  rw [plate_eq hp] at hw3
  refine Ok.bind (r42_ok (k := 18) (a := a) (b := b) hw3 (by omega)) fun r I ⟨gI, hr1, hr2⟩ => ?_
  have gGI := gG.trans gI
  rw [hsl]
  refine r9_l3_ok (hs.gr gGI) (ps.gr gGI) (by omega) hu (fun h9 => ?_) fun h9 => ?_
  · obtain ⟨m, hm, rfl⟩ := (hr2 ⟨hp, h9⟩).2 h0
    refine ⟨rfl, ?_⟩
    obtain ⟨⟨z, hz, e⟩, hmx⟩ := hm
    obtain ⟨q, hq, hle⟩ := hu.max a b z hz
    have := hmx q (hu.sub q hq)
    exact ⟨q, hq, by dsimp only; omega⟩
  · rw [hr1 fun q => h9 q.2]
theorem lawCall9 (H : Hp) (xs : List AV) (_ : NoOwn H) (h : RdAs H [.sl (.pair (.int .i64) (.pair (.int .i64) (.pair (.int .i64) .unit))), .int .i64, .int .i64] xs) : ∃ H1, CallSim Try.prog 9 xs H (.bool true) H1 := by
  obtain ⟨x, _, rfl, hx, z, _, rfl, hz, w, _, rfl, hw, rfl⟩ := h
  obtain ⟨v, l, rfl, hv, hb⟩ := rd_sl (enc_pair enc_int (enc_pair enc_int (enc_unit enc_int))) hx
  obtain ⟨n, hn, _⟩ := hz
  injection hn with hn
  subst hn
  obtain ⟨m, hm, _⟩ := hw
  injection hm with hm
  subst hm
  obtain ⟨r, H1, h1, rfl⟩ := withinLaw hv (by unfold maxLen at hb; omega) n m
  exact ⟨H1, sim9 (happ := appASim 20) h1⟩
end Go.Lt.P2
