/- PLAIN LAWS OF WHAT IS COMPUTED, for the statement 'PairsTogether'. Nothing is asked of the input. -/
import Derived.Test.YthmhdbmpeepmaaaU16UThB
import Derived.Test.YthmhdbmpeepmaaaLB
set_option linter.unusedVariables false
set_option linter.unusedSimpArgs false
namespace Go.Lt.P8
open Go Go.Lt Go.Proofs
/-- the search for the first triples -/
def growF (v : Nat) : Nat → List Tr → Option (List Tr)
  | 0, _ => none
  | f + 1, l => match firstP v (pairs3 l) with
    | none => some l
    | some p => (List.range' (p.2.toNat + 1) (v - (p.2.toNat + 1))).findSome? fun (z : Nat) =>
      if (prs3 (p.1, p.2, (z : Int))).any (fun q => decide (q ∈ pairs3 l)) = true then none else growF v f (l ++ [(p.1, p.2, (z : Int))])
/-- what is common to all that the search holds -/
structure Fine (v : Nat) (l : List Tr) : Prop where
  rng : ∀ t ∈ l, inT v t
  once : (pairs3 l).Nodup
theorem Fine.len {v : Nat} (hv : 3 ≤ v ∧ v ≤ 9) {l : List Tr} (h : Fine v l) : l.length ≤ 12 := by
  have h1 := (allP_small v (by simp; omega)).1
  have h2 := nodup_le h.once fun p hp => by
    obtain ⟨t, ht, hpt⟩ := List.mem_flatMap.1 hp
    exact prs3_all (h.rng t ht) p hpt
  rw [pairs3_len] at h2
  omega
theorem pairs3_one (t : Tr) : pairs3 [t] = prs3 t := by simp [pairs3]
theorem Fine.more {v : Nat} {l : List Tr} (h : Fine v l) {t : Tr} (ht : inT v t) (hf : ((prs3 t).any fun q => decide (q ∈ pairs3 l)) = false) : Fine v (l ++ [t]) := by
  refine ⟨fun x hx => ?_, ?_⟩
  · rcases List.mem_append.1 hx with hx | hx
    · exact h.rng x hx
    · rw [List.mem_singleton] at hx; rw [hx]; exact ht
  · rw [pairs3_append, pairs3_one]
    refine List.nodup_append.2 ⟨h.once, prs3_nodup ht, fun x hx y hy e => ?_⟩
    have := List.any_eq_false.1 hf y hy
    subst e
    simp [hx] at this
theorem firstP_in {v : Nat} {S : List Pr} {p : Pr} (h : firstP v S = some p) : 0 ≤ p.1 ∧ p.1 < p.2 ∧ p.2 < (v : Int) := allP_mem.1 (List.mem_of_find?_eq_some h)
theorem growF_fine {v : Nat} : ∀ (f : Nat) (l r : List Tr), Fine v l → growF v f l = some r → Fine v r := by
  intro f
  induction f with
  | zero => intro l r _ h; cases h
  | succ f ih =>
    intro l r hl h
    rw [growF] at h
    cases hp : firstP v (pairs3 l) with
    | none => rw [hp] at h; injection h with h; rw [← h]; exact hl
    | some p =>
      rw [hp] at h
      dsimp only at h
      obtain ⟨z, hz, hr⟩ := List.exists_of_findSome?_eq_some h
      rw [List.mem_range'_1] at hz
      have hi := firstP_in hp
      by_cases hc : ((prs3 (p.1, p.2, (z : Int))).any fun q => decide (q ∈ pairs3 l)) = true
      · rw [if_pos hc] at hr; cases hr
      · rw [if_neg hc] at hr
        exact ih _ _ (hl.more ⟨hi.1, hi.2.1, by dsimp only; omega, by dsimp only; omega⟩ (by simpa using hc)) hr
/-- where the search stands in memory -/
structure Tog (v n0 mb cm cv co cf : Nat) (H : Hp) (w : Sl) (l : List Tr) : Prop where
  mp : MapP H mb (pairs3 l)
  m : H.get cm = some (.cells [.map mb] false)
  v : H.get cv = some (.cells [.int .i64 v] false)
  o : H.get co = some (.cells [.sl w] false)
  f : H.get cf = some (.cells [.fn 94 [] [.ptr cm 0, .ptr cv 0, .ptr co 0, .ptr cf 0]] false)
  b : Buf n0 H w l
structure Apt (n0 mb cm cv co cf : Nat) : Prop where
  lt : mb < n0 ∧ cm < n0 ∧ cv < n0 ∧ co < n0 ∧ cf < n0
  ne : cm ≠ mb ∧ cv ≠ mb ∧ co ≠ mb ∧ cf ≠ mb ∧ cm ≠ co ∧ cv ≠ co ∧ cf ≠ co
/-- what may have changed -/
def Fr (mb co : Nat) (w w' : Sl) (H H' : Hp) : Prop := H.n ≤ H'.n ∧ (∀ c, c < H.n → c ≠ mb → c ≠ co → (w.nil = false → c ≠ w.b) → H'.get c = H.get c) ∧ (w'.nil = false → (w.nil = false ∧ w'.b = w.b) ∨ H.n ≤ w'.b)
theorem Fr.trans {mb co : Nat} {w w' w2 : Sl} {A B C : Hp} (h : Fr mb co w w' A B) (k : Fr mb co w' w2 B C) : Fr mb co w w2 A C := by
  refine ⟨Nat.le_trans h.1 k.1, fun c hc h1 h2 h3 => ?_, fun hn => ?_⟩
  · have := h.1
    rw [k.2.1 c (by omega) h1 h2 (fun hn e => ?_), h.2.1 c hc h1 h2 h3]
    rcases h.2.2 hn with ⟨a, b⟩ | b
    · exact h3 a (by omega)
    · omega
  · rcases k.2.2 hn with ⟨a, b⟩ | b
    · rcases h.2.2 a with ⟨c, d⟩ | d
      · exact .inl ⟨c, by omega⟩
      · exact .inr (by omega)
    · have := h.1
      exact .inr (by omega)
theorem Fr.same {mb co : Nat} {w : Sl} {A B : Hp} (h : A.n ≤ B.n) (k : ∀ c, c < A.n → c ≠ mb → c ≠ co → B.get c = A.get c) : Fr mb co w w A B := ⟨h, fun c hc h1 h2 _ => k c hc h1 h2, fun hn => .inl ⟨hn, rfl⟩⟩
theorem Fr.gr {mb co : Nat} {w : Sl} {A B : Hp} (g : Gr A B) : Fr mb co w w A B := .same g.1 fun c hc _ _ => g.2 c hc
theorem Tog.gr {v n0 mb cm cv co cf : Nat} {H H' : Hp} {w : Sl} {l : List Tr} (h : Tog v n0 mb cm cv co cf H w l) (g : Gr H H') : Tog v n0 mb cm cv co cf H' w l :=
  ⟨h.mp.keep (g.2 _ (Hp.get_lt h.mp.1)), by rw [g.2 _ (Hp.get_lt h.m)]; exact h.m, by rw [g.2 _ (Hp.get_lt h.v)]; exact h.v, by rw [g.2 _ (Hp.get_lt h.o)]; exact h.o, by rw [g.2 _ (Hp.get_lt h.f)]; exact h.f, h.b.gr g⟩
/-- the map changed -/
theorem Tog.map {v n0 mb cm cv co cf : Nat} (ap : Apt n0 mb cm cv co cf) {H H' : Hp} {w : Sl} {l l' : List Tr} (h : Tog v n0 mb cm cv co cf H w l) (g : Only mb H H') (hm : MapP H' mb (pairs3 l')) :
    MapP H' mb (pairs3 l') ∧ H'.get cm = some (.cells [.map mb] false) ∧ H'.get cv = some (.cells [.int .i64 v] false) ∧ H'.get co = some (.cells [.sl w] false) ∧ H'.get cf = some (.cells [.fn 94 [] [.ptr cm 0, .ptr cv 0, .ptr co 0, .ptr cf 0]] false) ∧ Buf n0 H' w l := by
  obtain ⟨a, b, c, d, e⟩ := ap.lt
  refine ⟨hm, by rw [g.2 _ (Hp.get_lt h.m) ap.ne.1]; exact h.m, by rw [g.2 _ (Hp.get_lt h.v) ap.ne.2.1]; exact h.v, by rw [g.2 _ (Hp.get_lt h.o) ap.ne.2.2.1]; exact h.o, by rw [g.2 _ (Hp.get_lt h.f) ap.ne.2.2.2.1]; exact h.f, h.b.keep fun hn => ?_⟩
  have := h.b.lt hn
  exact g.2 _ this.1 (by omega)
theorem ldM_get {H : Hp} {b o : Nat} {cs : List AV} {ro : Bool} {n : Nat} (h : H.get b = some (.cells cs ro)) (e : cs[o]? = some (.map n)) : H.ldM b o = some n := by
  simp [Hp.ldM, ld_of_get h, e, AV.asM]
theorem r94_ok {v n0 mb cm cv co cf : Nat} (hv : 3 ≤ v ∧ v ≤ 9) (ap : Apt n0 mb cm cv co cf) : ∀ (f k : Nat) (l : List Tr) (H : Hp) (w : Sl), f ≤ k → 13 ≤ l.length + f → Fine v l → n0 ≤ H.n → Tog v n0 mb cm cv co cf H w l →
    Ok (r94 (app k) cm cv co cf H) fun b H' => b = (growF v f l).isSome ∧ ∃ w', H'.get co = some (.cells [.sl w'] false) ∧ Fr mb co w w' H H' ∧ (b = false → Tog v n0 mb cm cv co cf H' w' l) ∧ (∀ r, growF v f l = some r → SL H' w' r) := by
  intro f
  induction f with
  | zero => intro k l H w _ h1 h2; have := h2.len hv; omega
  | succ f ihf =>
    intro k l H w hk hl hfn hn0 T
    obtain ⟨k, rfl⟩ : ∃ j, k = j + 1 := ⟨k - 1, by omega⟩
    have hlen := hfn.len hv
    unfold r94
    refine Ok.ld (ldM_get T.m rfl) (Ok.ld (ldI_get T.v rfl) (Ok.bind (r95_ok (by omega) T.mp) fun r H1 ⟨g1, hr⟩ => ?_))
    subst hr
    obtain ⟨D, hD, hD', gD, nD⟩ := sts2 H1 (.int .i64 (fst3 (firstP v (pairs3 l))).1) (.int .i64 (fst3 (firstP v (pairs3 l))).2.1) (.int .i64 0) (.int .i64 0)
    refine Ok.ld hD ?_
    have gg := g1.trans gD
    cases hp : firstP v (pairs3 l) with
    | none =>
      refine Ok.neg (by simp [fst3]) (Ok.ret ⟨by rw [growF, hp]; rfl, w, (T.gr gg).o, Fr.gr gg, fun e => (by cases e), fun r hr => ?_⟩)
      rw [growF, hp] at hr
      injection hr with hr
      rw [← hr]
      exact (T.gr gg).b.sl
    | some p =>
      rw [hp] at hD'
      have hpi := firstP_in hp
      have hg : growF v (f + 1) l = (List.range' (p.2.toNat + 1) (v - (p.2.toNat + 1))).findSome? fun (z : Nat) => if (prs3 (p.1, p.2, (z : Int))).any (fun q => decide (q ∈ pairs3 l)) = true then none else growF v f (l ++ [(p.1, p.2, (z : Int))]) := by rw [growF, hp]
      generalize growF v (f + 1) l = G at *
      refine Ok.pos rfl (Ok.ld (ldI_get hD' rfl) ?_)
      have e0 : w64 ((fst3 (some p)).2.1 + 1) = ((p.2.toNat + 1 : Nat) : Int) := by
        show w64 (p.2 + 1) = _
        rw [w64_id (by omega) (by omega)]; omega
      rw [e0]
      have hn1 := g1.1
      refine Ok.loop (L := fun K (s : Int) H' => r94_l0 (app (k + 1)) K cm cv co cf H1.n s H') (fun m s H' => ∃ (z : Nat) (w1 : Sl), s = z ∧ p.2.toNat < z ∧ z + m = v ∧ Tog v n0 mb cm cv co cf H' w1 l ∧ Fr mb co w w1 H H' ∧ H'.get H1.n = some (.cells [.int .i64 p.1, .int .i64 p.2] false) ∧ (w1.nil = false → w1.b ≠ H1.n) ∧
        G = (List.range' z (v - z)).findSome? fun (z : Nat) => if (prs3 (p.1, p.2, (z : Int))).any (fun q => decide (q ∈ pairs3 l)) = true then none else growF v f (l ++ [(p.1, p.2, (z : Int))])) ?_ FUEL (v - (p.2.toNat + 1)) _ D (by unfold FUEL; omega)
        ⟨p.2.toNat + 1, w, rfl, by omega, by omega, T.gr gg, .gr gg, hD', fun hn => by have := (T.b.lt hn).1; omega, hg⟩
      rintro K m s H2 ⟨z, w1, rfl, hz, hmz, T2, F2, hpb, hwb, hG⟩ ih
      try dsimp only at *
      have hp1 : H1.n ≠ mb ∧ H1.n ≠ co := by have := ap.lt; omega
      rw [r94_l0]
      refine Ok.ld (ldI_get T2.v rfl) ?_
      by_cases hzv : z < v
      · have hn2 := F2.1
        rw [show v - z = (v - (z + 1)) + 1 by omega, List.range'_succ, List.findSome?_cons] at hG
        refine Ok.pos (by omega) (Ok.ld (ldI_get hpb rfl) (Ok.ld (ldI_get hpb rfl) ?_))
        obtain ⟨E, hE, hE', gE, nE⟩ := sts3 H2 (.int .i64 p.1) (.int .i64 p.2) (.int .i64 (z : Int)) (.int .i64 0) (.int .i64 0) (.int .i64 0)
        refine Ok.ld hE ?_
        have TE := T2.gr gE
        refine Ok.ld (ldM_get TE.m rfl) (Ok.ld (ldI_get hE' rfl) (Ok.ld (ldI_get hE' rfl) (Ok.ld (ldI_get hE' rfl) (Ok.bind (r96_ok (k := k) TE.mp (p.1, p.2, (z : Int))) fun b H3 ⟨g3, hb⟩ => ?_))))
        have hpb2 := Hp.get_lt hpb
        have gE3 := gE.trans g3
        have T3 := T2.gr gE3
        have hpb3 : H3.get H1.n = some (.cells [.int .i64 p.1, .int .i64 p.2] false) := by rw [gE3.2 _ hpb2]; exact hpb
        have ht3 : H3.get H2.n = some (.cells [.int .i64 p.1, .int .i64 p.2, .int .i64 (z : Int)] false) := by rw [g3.2 _ (by omega)]; exact hE'
        cases hf : (prs3 (p.1, p.2, (z : Int))).any fun q => decide (q ∈ pairs3 l) with
        | true =>
          rw [hf] at hb
          subst hb
          rw [if_pos hf] at hG
          refine Ok.neg (by simp) ?_
          rw [w64_succ (by omega)]
          refine ih (m - 1) _ H3 (by omega) ⟨z + 1, w1, rfl, by omega, by omega, T3, F2.trans (.gr gE3), hpb3, hwb, hG⟩
        | false =>
          rw [hf] at hb
          subst hb
          rw [if_neg (by rw [hf]; simp)] at hG
          have hin : inT v (p.1, p.2, (z : Int)) := ⟨hpi.1, hpi.2.1, by dsimp only; omega, by dsimp only; omega⟩
          have hfn2 := hfn.more hin hf
          refine Ok.pos rfl (Ok.ld (ldM_get T3.m rfl) (Ok.ld (ldI_get ht3 rfl) (Ok.ld (ldI_get ht3 rfl) (Ok.ld (ldI_get ht3 rfl) (Ok.bind (r97_ok (is := true) T3.mp (p.1, p.2, (z : Int))) fun _ H4 ⟨m4, o4⟩ => ?_)))))
          rw [put_fit hin hf] at m4
          have hl2 : pairs3 (l ++ [(p.1, p.2, (z : Int))]) = pairs3 l ++ prs3 (p.1, p.2, (z : Int)) := by rw [pairs3_append, pairs3_one]
          rw [← hl2] at m4
          obtain ⟨M4, c4, v4, d4, f4, b4⟩ := T3.map ap o4 m4
          have hn3 := gE3.1
          have hn4 := o4.1
          have lt3 := Hp.get_lt ht3
          have hmbn : H2.n ≠ mb ∧ H2.n ≠ co := by have := ap.lt; omega
          have ht4 : H4.get H2.n = some (.cells [.int .i64 p.1, .int .i64 p.2, .int .i64 (z : Int)] false) := by rw [o4.2 _ lt3 hmbn.1]; exact ht3
          have hpb4 : H4.get H1.n = some (.cells [.int .i64 p.1, .int .i64 p.2] false) := by rw [o4.2 _ (by omega) hp1.1]; exact hpb3
          refine Ok.ld (ldSl_get d4 rfl) (Ok.ld (ldI_get ht4 rfl) (Ok.ld (ldI_get ht4 rfl) (Ok.ld (ldI_get ht4 rfl) ?_)))
          refine Ok.bind (b4.push (by omega) (p.1, p.2, (z : Int)) rfl rfl (by omega)) fun w5 H5 ⟨b5, ⟨o5, f5⟩, nn5⟩ => ?_
          have hn5 := o5.1
          have keep5 : ∀ c, c < H4.n → c < n0 → H5.get c = H4.get c := fun c h1 h2 => o5.2 c h1 fun hn e => by
            have := (b4.lt hn).2
            omega
          have hcof : H5.get co = some (.cells [.sl w1] false) := by rw [keep5 _ (Hp.get_lt d4) ap.lt.2.2.2.1]; exact d4
          refine Ok.st hcof (by simp) fun H6 e6 h6 => ?_
          try dsimp only at h6
          have o6 : ∀ c, c ≠ co → H6.get c = H5.get c := fun c hc => by rw [e6, Hp.get_set_other _ _ hc]
          have n6 : H6.n = H5.n := by rw [e6]; simp
          have b5n := b5.lt nn5
          have T6 : Tog v n0 mb cm cv co cf H6 w5 (l ++ [(p.1, p.2, (z : Int))]) := by
            obtain ⟨a1, a2, a3, a4, a5⟩ := ap.lt
            obtain ⟨q1, q2, q3, q4, q5, q6, q7⟩ := ap.ne
            refine ⟨M4.keep ?_, ?_, ?_, h6, ?_, b5.keep fun _ => ?_⟩
            · rw [o6 _ (by omega), keep5 _ (Hp.get_lt M4.1) a1]
            · rw [o6 _ q5, keep5 _ (Hp.get_lt c4) a2]; exact c4
            · rw [o6 _ q6, keep5 _ (Hp.get_lt v4) a3]; exact v4
            · rw [o6 _ q7, keep5 _ (Hp.get_lt f4) a5]; exact f4
            · exact o6 _ (by omega)
          have w5ne : ∀ c, c < H4.n → (w1.nil = false → c ≠ w1.b) → c ≠ w5.b := fun c hc h1 e => by
            rcases f5 nn5 with ⟨x, y⟩ | y
            · exact h1 x (by omega)
            · omega
          have tw : w1.nil = false → H2.n ≠ w1.b := fun hn e => by have := (T2.b.lt hn).1; omega
          have F6 : Fr mb co w1 w5 H2 H6 := by
            refine ⟨by omega, fun c hc h1 h2 h3 => ?_, fun hn => ?_⟩
            · rw [o6 _ h2, o5.2 _ (by omega) h3, o4.2 _ (by omega) h1, gE3.2 _ hc]
            · rcases f5 nn5 with x | y
              · exact .inl x
              · exact .inr (by omega)
          have hpb6 : H6.get H1.n = some (.cells [.int .i64 p.1, .int .i64 p.2] false) := by rw [o6 _ hp1.2, o5.2 _ (by omega) (fun hn e => hwb hn e.symm)]; exact hpb4
          have ht6 : H6.get H2.n = some (.cells [.int .i64 p.1, .int .i64 p.2, .int .i64 (z : Int)] false) := by rw [o6 _ hmbn.2, o5.2 _ (by omega) tw]; exact ht4
          refine Ok.ld (ldV_get T6.f rfl rfl) ?_
          refine Ok.bind (P := fun r H' => ∃ b, r = .bool b ∧ b = (growF v f (l ++ [(p.1, p.2, (z : Int))])).isSome ∧ ∃ w', H'.get co = some (.cells [.sl w'] false) ∧ Fr mb co w5 w' H6 H' ∧ (b = false → Tog v n0 mb cm cv co cf H' w' (l ++ [(p.1, p.2, (z : Int))])) ∧ (∀ r, growF v f (l ++ [(p.1, p.2, (z : Int))]) = some r → SL H' w' r)) ?_ ?_
          · show Ok ((r94 (app k) cm cv co cf H6).map fun p => (AV.bool p.1, p.2)) _
            obtain ⟨b, H', e, h1, h2⟩ := ihf k (l ++ [(p.1, p.2, (z : Int))]) H6 w5 (by omega) (by simp; omega) hfn2 (by omega) T6
            rw [e]
            exact Ok.ret ⟨b, rfl, h1, h2⟩
          · rintro r H7 ⟨b, rfl, hb, w7, c7, F7, T7, S7⟩
            refine Ok.ld rfl ?_
            have FB := F2.trans (F6.trans F7)
            cases hgr : growF v f (l ++ [(p.1, p.2, (z : Int))]) with
            | some r =>
              rw [hgr] at hb hG
              subst hb
              try dsimp only at hG
              refine Ok.pos rfl (Ok.ret ⟨by rw [hG]; rfl, w7, c7, FB, fun e => (by cases e), fun r' hr => ?_⟩)
              rw [hG] at hr
              injection hr with hr
              subst hr
              exact S7 _ hgr
            | none =>
              rw [hgr] at hb hG
              subst hb
              have T7 := T7 rfl
              try dsimp only at hG
              have hn7 := F7.1
              have hpb7 : H7.get H1.n = some (.cells [.int .i64 p.1, .int .i64 p.2] false) := by rw [F7.2.1 _ (by omega) hp1.1 hp1.2 (fun _ => w5ne _ (by omega) fun hn e => hwb hn e.symm)]; exact hpb6
              have ht7 : H7.get H2.n = some (.cells [.int .i64 p.1, .int .i64 p.2, .int .i64 (z : Int)] false) := by rw [F7.2.1 _ (by omega) hmbn.1 hmbn.2 (fun _ => w5ne _ (by omega) tw)]; exact ht6
              refine Ok.neg (by simp) (Ok.ld (ldM_get T7.m rfl) (Ok.ld (ldI_get ht7 rfl) (Ok.ld (ldI_get ht7 rfl) (Ok.ld (ldI_get ht7 rfl) (Ok.bind (r97_ok (is := false) T7.mp (p.1, p.2, (z : Int))) fun _ H8 ⟨m8, o8⟩ => ?_)))))
              rw [hl2, put_off (fun q hq hs => by
                have := List.any_eq_false.1 hf q hq
                simp [hs] at this) (prs3_nodup hin)] at m8
              obtain ⟨M8, c8, v8, d8, f8, b8⟩ := T7.map ap o8 m8
              obtain ⟨bp, pn, pb, wn⟩ := b8.pop
              have hw7l := b8.len
              rw [List.length_append, List.length_singleton] at hw7l
              have hsl := b8.sl
              have ei : w64 ((w7.len : Int) - 1) = ((w7.len - 1 : Nat) : Int) := by rw [w64_id (by omega) (by omega)]; omega
              have hcap := hsl.cap
              refine Ok.ld (ldSl_get d8 rfl) (Ok.ld (ldSl_get d8 rfl) ?_)
              rw [ei]
              refine Ok.ck ⟨by omega, hsl.opn⟩ ?_
              rw [Int.toNat_natCast]
              refine Ok.st d8 (by simp) fun H9 e9 h9 => ?_
              try dsimp only at h9
              have o9 : ∀ c, c ≠ co → H9.get c = H8.get c := fun c hc => by rw [e9, Hp.get_set_other _ _ hc]
              have n9 : H9.n = H8.n := by rw [e9]; simp
              have hn8 := o8.1
              have b8n := b8.lt wn
              rw [w64_succ (by omega)]
              have F9 : Fr mb co w7 (w7.cut 3 0 (w7.len - 1)) H7 H9 := by
                refine ⟨by omega, fun c hc h1 h2 h3 => by rw [o9 _ h2, o8.2 _ hc h1], fun _ => .inl ⟨wn, pb⟩⟩
              have w7ne : ∀ c, c < H4.n → (w1.nil = false → c ≠ w1.b) → w7.b ≠ c := fun c hc h1 e => by
                rcases F7.2.2 wn with ⟨x, y⟩ | y
                · exact w5ne c hc h1 (by omega)
                · omega
              refine ih (m - 1) _ H9 (by omega) ⟨z + 1, w7.cut 3 0 (w7.len - 1), rfl, by omega, by omega, ?_, FB.trans F9, ?_, fun _ => ?_, hG⟩
              · obtain ⟨a1, a2, a3, a4, a5⟩ := ap.lt
                obtain ⟨q1, q2, q3, q4, q5, q6, q7⟩ := ap.ne
                refine ⟨M8.keep ?_, ?_, ?_, h9, ?_, bp.keep fun _ => ?_⟩
                · rw [o9 _ (by omega)]
                · rw [o9 _ q5]; exact c8
                · rw [o9 _ q6]; exact v8
                · rw [o9 _ q7]; exact f8
                · rw [pb]; exact o9 _ (by omega)
              · rw [o9 _ hp1.2, o8.2 _ (by omega) hp1.1]; exact hpb7
              · exact fun e => w7ne _ (by omega) (fun hn e => hwb hn e.symm) (pb.symm.trans e)
      · refine Ok.neg (by omega) (Ok.ret ⟨?_, w1, T2.o, F2, fun _ => T2, fun r hr => ?_⟩)
        · rw [hG, show v - z = 0 by omega]; rfl
        · rw [hG, show v - z = 0 by omega] at hr; cases hr
end Go.Lt.P8
