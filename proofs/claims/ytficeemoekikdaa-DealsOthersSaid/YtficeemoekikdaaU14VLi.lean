/- PLAIN LAWS OF WHAT IS COMPUTED, for the statement 'DealsOthers'. Nothing is asked of the input. -/
import Derived.Test.YtficeemoekikdaaU14VEg
set_option linter.unusedVariables false
set_option linter.unusedSimpArgs false
namespace Go.Lt.P5
open Go Go.Lt Go.Proofs
abbrev Tr := Int × Int × Int
/-- what one appends to, a literal first -/
def AccO {T : Type} [El T] (n0 : Nat) (H : Hp) (v : Sl) (l : List T) : Prop := AccL n0 H v l ∨ (v.opn = 0 ∧ v.cap = v.len ∧ v.nil = false ∧ n0 ≤ v.b ∧ SL H v l)
theorem AccO.sl {T : Type} [El T] {n0 : Nat} {H : Hp} {v : Sl} {l : List T} (h : AccO n0 H v l) : SL H v l := by
  rcases h with h | ⟨_, _, _, _, h⟩
  · exact h.sl
  · exact h
theorem AccO.push {T : Type} [El T] {H0 H : Hp} {v : Sl} {l : List T} (h : AccO H0.n H v l) (g : Gr H0 H) (x : T) {es : Nat} {cs : List AV} (hes : es = El.sz T) (hcs : cs = El.enc x) (hb : l.length < 4294967296) :
    Ok (H.apN es v cs 1) fun v' H' => AccO H0.n H' v' (l ++ [x]) ∧ Gr H0 H' := by
  rcases h with h | ⟨h1, h2, h3, _, h4⟩
  · exact (h.push g x hes hcs hb).mono fun _ _ a => ⟨.inl a.1, a.2.1⟩
  · subst hes; subst hcs
    have gp := Gr.push H (.cells (El.enc x) false)
    have hl := h4.len
    have hd := (h4.gr gp).cs.2
    rw [encs_len, ← hl] at hd
    show Ok ((H.push (.cells (El.enc x) false)).app (El.sz T) v (El.enc x) 1) _
    unfold Hp.app
    rw [if_pos (by omega), if_neg (by omega), hd]
    refine Ok.ld rfl ?_
    rw [if_pos h1]
    refine Ok.ret ⟨.inl (.inr ⟨rfl, rfl, rfl, rfl, ?_, ?_, ?_⟩), g.trans (gp.trans (.push _ _))⟩
    · simp; have := g.1; omega
    · rw [encs_append, encs_one]; exact Hp.get_push_new _ _
    · rw [encs_append, encs_one, List.length_append, encs_len, El.len, hl, Nat.add_mul]; omega
theorem AccO.low {T : Type} [El T] {n0 : Nat} {H : Hp} {v : Sl} {l : List T} (h : AccO n0 H v l) (hl : l ≠ []) : n0 ≤ v.b := by
  rcases h with h | ⟨_, _, _, h, _⟩
  · rcases h with ⟨_, h⟩ | ⟨_, _, _, _, h, _⟩
    · cases l with
      | nil => exact absurd rfl hl
      | cons x l =>
        have := congrArg List.length h
        rw [encs_len, List.length_cons, List.length_nil, Nat.add_mul] at this
        have := El.pos (T := T)
        omega
    · exact h
  · exact h
/-- the line through two corners, the left one first -/
def lineB (u t : Pr) : Tr := (u.2 - t.2, t.1 - u.1, (u.2 - t.2) * t.1 + (t.1 - u.1) * t.2)
/-- all lines of an edge, from the left -/
def linesF (e : List Pr) : List Tr := (0, 1, (at' e 0).2) :: (1, 0, (at' e (e.length - 1)).1) :: (List.range (e.length - 1)).map fun i => lineB (at' e i) (at' e (i + 1))
theorem pr_bd {x y : Int} (h1 : -30 ≤ x) (h2 : x ≤ 30) (h3 : -30 ≤ y) (h4 : y ≤ 30) : -900 ≤ x * y ∧ x * y ≤ 900 := by
  have p1 : 0 ≤ (30 - x) * (30 - y) := Int.mul_nonneg (by omega) (by omega)
  have p2 : 0 ≤ (30 + x) * (30 + y) := Int.mul_nonneg (by omega) (by omega)
  have p3 : 0 ≤ (30 - x) * (30 + y) := Int.mul_nonneg (by omega) (by omega)
  have p4 : 0 ≤ (30 + x) * (30 - y) := Int.mul_nonneg (by omega) (by omega)
  constructor <;> grind
/-- lines -/
theorem r54_ok {k : Nat} {H : Hp} {v : Sl} {l : List Pr} (hv : SL H v l) (ho : offP l) : Ok (r54 (appA (k + 2)) v H) fun w H' => Gr H H' ∧ H.n ≤ w.b ∧ ∃ q, q.Perm l ∧ q.Pairwise lexP ∧ SL H' w (linesF (chainF q).reverse) := by
  unfold r54
  refine Ok.bind (r56_ok hv ho) fun w H1 ⟨g1, q, hp, hq, hw⟩ => ?_
  have hpl := hp.length_eq
  have h1 := ho.1
  have h8 := ho.2.1
  have hcl := chainF_len q
  have hci := chain_ok hq
  have hne : q ≠ [] := by intro e; rw [e] at hpl; simp at hpl; omega
  have hcn := hci.ne hne
  have hnum : ∀ x ∈ (chainF q).reverse, num x := fun x hx => ho.2.2.1 x (hp.mem_iff.1 (hci.sub x (List.mem_reverse.1 hx)))
  have hel : (chainF q).reverse.length = (chainF q).length := by simp
  have hpos : 0 < (chainF q).length := List.length_pos_iff.2 hcn
  refine Ok.mono (P := fun w H' => Gr H H' ∧ H.n ≤ w.b ∧ SL H' w (linesF (chainF q).reverse)) ?_ fun w H' h => ⟨h.1, h.2.1, q, hp, hq, h.2.2⟩
  generalize (chainF q).reverse = e at *
  have hwl := hw.len
  have hle : e.length ≤ 8 := by omega
  have hlp : 0 < e.length := by omega
  try dsimp only
  have em : w64 ((w.len : Int) - 1) = ((e.length - 1 : Nat) : Int) := by rw [w64_id (by omega) (by omega)]; omega
  rw [em]
  have L1 : H1.ldI .i64 w.b ((w.o + (0 : Int).toNat * 2) + (1 : Int).toNat * 1) = some e[0].2 := hw.ldI (i := 0) (j := 1) hlp rfl
  have L2 : H1.ldI .i64 w.b ((w.o + (e.length - 1) * 2) + (0 : Int).toNat * 1) = some (e[e.length - 1]'(by omega)).1 := hw.ldI (i := e.length - 1) (j := 0) (by omega) rfl
  simp only [Int.toNat_natCast]
  refine Ok.ck (by omega) (Ok.ld L1 (Ok.ck (by omega) (Ok.ld L2 (Ok.lt ?_))))
  rw [at_eq, at_eq]
  have gp := Gr.push H1 (.cells [.int .i64 0, .int .i64 1, .int .i64 (at' e 0).2, .int .i64 1, .int .i64 0, .int .i64 (at' e (e.length - 1)).1] false)
  have hlit : AccO (T := Tr) H1.n (H1.push (.cells [.int .i64 0, .int .i64 1, .int .i64 (at' e 0).2, .int .i64 1, .int .i64 0, .int .i64 (at' e (e.length - 1)).1] false)) ⟨false, H1.n, 0, 2, 2, 0⟩ [(0, 1, (at' e 0).2), (1, 0, (at' e (e.length - 1)).1)] := by
    refine .inr ⟨rfl, rfl, rfl, Nat.le_refl _, .of_get (ro := false) (Hp.get_push_new _ _) rfl rfl (Nat.le_refl _) (.inl rfl) rfl⟩
  generalize H1.push (.cells [.int .i64 0, .int .i64 1, .int .i64 (at' e 0).2, .int .i64 1, .int .i64 0, .int .i64 (at' e (e.length - 1)).1] false) = A at *
  refine Ok.loop (L := fun K (s : Sl × Int) H2 => r54_l0 (appA (k + 2)) K w s.1 s.2 H2) (fun m s H' => Gr H1 H' ∧ ∃ i : Nat, s.2 = ((i + 1 : Nat) : Int) ∧ i + 1 + m = e.length ∧ AccO H1.n H' s.1 ([(0, 1, (at' e 0).2), (1, 0, (at' e (e.length - 1)).1)] ++ (List.range i).map fun i => lineB (at' e i) (at' e (i + 1)))) ?_ FUEL (e.length - 1) (⟨false, H1.n, 0, 2, 2, 0⟩, 1) A (by unfold FUEL; omega) ⟨gp, 0, rfl, by omega, by simpa using hlit⟩
  rintro K m ⟨z, s⟩ H2 ⟨g2, i, rfl, hm, ha⟩ ih
  try dsimp only at *
  rw [r54_l0]
  by_cases h : i + 1 < e.length
  · have hg := hw.gr g2
    have ei : w64 (((i + 1 : Nat) : Int) - 1) = ((i : Nat) : Int) := by rw [w64_id (by omega) (by omega)]; omega
    rw [ei]
    simp only [Int.toNat_natCast]
    have M1 : H2.ldI .i64 w.b ((w.o + i * 2) + (1 : Int).toNat * 1) = some e[i].2 := hg.ldI (i := i) (j := 1) (by omega) rfl
    have M2 : H2.ldI .i64 w.b ((w.o + i * 2) + (0 : Int).toNat * 1) = some e[i].1 := hg.ldI (i := i) (j := 0) (by omega) rfl
    have M3 : H2.ldI .i64 w.b ((w.o + (i + 1) * 2) + (1 : Int).toNat * 1) = some e[i + 1].2 := hg.ldI (i := i + 1) (j := 1) (by omega) rfl
    have M4 : H2.ldI .i64 w.b ((w.o + (i + 1) * 2) + (0 : Int).toNat * 1) = some e[i + 1].1 := hg.ldI (i := i + 1) (j := 0) (by omega) rfl
    have n1 := hnum _ (List.getElem_mem (show i < e.length by omega))
    have n2 := hnum _ (List.getElem_mem h)
    rw [at_eq] at M1 M2 M3 M4 n1 n2
    unfold num at n1 n2
    refine Ok.pos (by omega) (Ok.ck (by omega) (Ok.ld M1 (Ok.ck (by omega) (Ok.ld M3 (Ok.ck (by omega) (Ok.ld M4 (Ok.ck (by omega) (Ok.ld M2 (Ok.ck (by omega) (Ok.ld M4 (Ok.ck (by omega) (Ok.ld M3 ?_))))))))))))
    rw [w64_id (n := (at' e i).2 - (at' e (i + 1)).2) (by omega) (by omega), w64_id (n := (at' e (i + 1)).1 - (at' e i).1) (by omega) (by omega)]
    have b1 := pr_bd (x := (at' e i).2 - (at' e (i + 1)).2) (y := (at' e (i + 1)).1) (by omega) (by omega) (by omega) (by omega)
    have b2 := pr_bd (x := (at' e (i + 1)).1 - (at' e i).1) (y := (at' e (i + 1)).2) (by omega) (by omega) (by omega) (by omega)
    rw [w64_id (n := ((at' e i).2 - (at' e (i + 1)).2) * (at' e (i + 1)).1) (by omega) (by omega), w64_id (n := ((at' e (i + 1)).1 - (at' e i).1) * (at' e (i + 1)).2) (by omega) (by omega), w64_id (by omega) (by omega)]
    refine Ok.bind (ha.push g2 (lineB (at' e i) (at' e (i + 1))) rfl rfl (by simp; omega)) fun z' H3 ⟨ha3, g3⟩ => ?_
    rw [w64_succ (by omega)]
    refine ih (m - 1) (z', _) H3 (by omega) ⟨g3, i + 1, rfl, by omega, ?_⟩
    rw [List.range_succ, List.map_append]
    simpa using ha3
  · have hi : i = e.length - 1 := by omega
    refine Ok.neg (by omega) (Ok.ret ⟨g1.trans g2, Nat.le_trans g1.1 (ha.low (by simp)), ?_⟩)
    rw [hi] at ha
    exact ha.sl
end Go.Lt.P5
