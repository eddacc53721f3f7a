/- PLAIN LAWS OF WHAT IS COMPUTED, for the statement 'PairsCosts'. Nothing is asked of the input. -/
import Derived.Test.YthmhdbmpeepmaaaLNest
import Derived.Test.YthmhdbmpeepmaaaLLst
import Derived.Test.YthmhdbmpeepmaaaU15USl
import Derived.Test.YthmhdbmpeepmaaaU15UQ
import Derived.Test.YthmhdbmpeepmaaaU15UCon
set_option linter.unusedVariables false
set_option linter.unusedSimpArgs false
namespace Go.Lt
open Go.RowKit
/-- a longer one, in memory of its own -/
theorem grow_ok {T : Type} [El T] {H : Hp} {v : Sl} {l : List T} (h : SL H v l) (x : T) {es : Nat} {cs : List AV} (hes : es = El.sz T) (hcs : cs = El.enc x) (hb : l.length < 4294967296) :
    Ok (H.apN es (v.cut3 es 0 v.len v.len) cs 1) fun w H' => Gr H H' ∧ SL H' w (l ++ [x]) ∧ w.nil = false ∧ H.n < w.b := by
  subst hes; subst hcs
  have hlen := h.len
  have h3 := (h.gr (Gr.push H (.cells (El.enc x) false))).cut3 (lo := 0) (hi := v.len) (mx := v.len) (by omega) (by omega) (by omega)
  rw [List.drop_zero, List.take_of_length_le (by omega)] at h3
  have hl3 := h3.len
  have hc3 : (v.cut3 (El.sz T) 0 v.len v.len).cap = v.len ∧ (v.cut3 (El.sz T) 0 v.len v.len).opn = 0 := by
    unfold Sl.cut3
    split
    · rename_i hn
      obtain ⟨rfl, rfl⟩ := h.nil hn
      exact ⟨rfl, rfl⟩
    · exact ⟨rfl, rfl⟩
  unfold Hp.apN Hp.app
  rw [if_pos (by omega), if_neg (by omega), h3.lds]
  simp only [Option.bind_some]
  rw [if_pos hc3.2, ← encs_one, ← encs_append]
  refine Ok.ret ⟨(Gr.push _ _).trans (.push _ _), .of_get (ro := false) (by rw [Hp.get_push, if_pos rfl]) rfl (by simp; omega) (Nat.le_refl _) (.inr rfl) rfl, rfl, by simp⟩
end Go.Lt
namespace Go.Lt.P8
open Go Go.Lt Go.Proofs
def ext (n : Nat) (l : List Int) : List (List Int) := ((List.range n).filter fun (x : Nat) => decide ((x : Int) ∉ l)).map fun (x : Nat) => l ++ [(x : Int)]
def expand (n : Nat) : Nat → List (List Int) → List (List Int)
  | 0, ls => ls
  | k + 1, ls => expand n k (ls.flatMap (ext n))
theorem ext_len (n : Nat) (l : List Int) : (ext n l).length ≤ n := by
  unfold ext
  rw [List.length_map]
  exact Nat.le_trans (List.length_filter_le _ _) (by simp)
theorem ext_mem {n : Nat} {l m : List Int} (h : m ∈ ext n l) : m.length = l.length + 1 := by
  unfold ext at h
  obtain ⟨x, _, rfl⟩ := List.mem_map.1 h
  simp
theorem flatMap_len {α β : Type} {f : α → List β} {n : Nat} : ∀ {ls : List α}, (∀ l ∈ ls, (f l).length ≤ n) → (ls.flatMap f).length ≤ ls.length * n := by
  intro ls
  induction ls with
  | nil => intro _; simp
  | cons l ls ih =>
    intro h
    have h1 := h l (by simp)
    have h2 := ih fun m hm => h m (by simp [hm])
    rw [List.flatMap_cons, List.length_append, List.length_cons, Nat.add_mul]
    omega
theorem expand_append (n : Nat) : ∀ (k : Nat) (a b : List (List Int)), expand n k (a ++ b) = expand n k a ++ expand n k b := by
  intro k
  induction k with
  | zero => intro a b; rfl
  | succ k ih => intro a b; simp only [expand, List.flatMap_append, ih]
theorem expand_nil (n : Nat) : ∀ k, expand n k [] = [] := by
  intro k
  induction k with
  | zero => rfl
  | succ k ih => simpa [expand] using ih
theorem expand_each (n k : Nat) : ∀ (ls : List (List Int)), expand n k ls = ls.flatMap fun l => expand n k [l] := by
  intro ls
  induction ls with
  | nil => rw [expand_nil]; rfl
  | cons l ls ih => rw [show l :: ls = [l] ++ ls from rfl, expand_append, ih]; simp
theorem expand_succ (n : Nat) : ∀ (k : Nat) (ls : List (List Int)), expand n (k + 1) ls = (expand n k ls).flatMap (ext n) := by
  intro k
  induction k with
  | zero => intro ls; rfl
  | succ k ih => intro ls; rw [expand, ih, ← expand]
theorem expand_len (n : Nat) : ∀ (k : Nat) (ls : List (List Int)), (expand n k ls).length ≤ ls.length * n ^ k := by
  intro k
  induction k with
  | zero => intro ls; simp [expand]
  | succ k ih =>
    intro ls
    rw [expand]
    refine Nat.le_trans (ih _) ?_
    have := flatMap_len (f := ext n) (n := n) (ls := ls) fun l _ => ext_len n l
    rw [Nat.pow_succ, Nat.mul_comm (n ^ k) n, ← Nat.mul_assoc]
    exact Nat.mul_le_mul_right _ this
theorem expand_mem {n : Nat} : ∀ {k : Nat} {ls : List (List Int)} {m : List Int} {c : Nat}, (∀ l ∈ ls, l.length = c) → m ∈ expand n k ls → m.length = c + k := by
  intro k
  induction k with
  | zero => intro ls m c h hm; exact h m hm
  | succ k ih =>
    intro ls m c h hm
    rw [expand] at hm
    have := ih (c := c + 1) (fun l hl => by
      obtain ⟨a, ha, hb⟩ := List.mem_flatMap.1 hl
      rw [ext_mem hb, h a ha]) hm
    omega
def extP (n : Nat) (l : List Int) : List (List Int) := ext n l
theorem ext_succ (i : Nat) (l : List Int) : ext (i + 1) l = ext i l ++ if (i : Int) ∈ l then [] else [l ++ [(i : Int)]] := by
  unfold ext
  rw [List.range_succ, List.filter_append, List.map_append]
  congr 1
  by_cases h : (i : Int) ∈ l <;> simp [h]

section
variable {n : Nat} {Hl : Hp} {Q : Sl × Int → Hp → Prop}
theorem r47_l3_ok (hn : n ≤ 6) {kt : Int → Sl → Int → Int → Sl → Int → Int → Hp → Option ((Sl × Int) × Hp)} {v2 v3 v6 : Sl} {l : List Int} {x4 x5 x7 x8 : Int} {vs : List Sl} {ls : List (List Int)} {H : Hp} (h3 : SL Hl v3 l) (hl : l.length ≤ 1000)
    (ha : AccS Hl.n H v2 vs ls) (hb : ls.length ≤ 1000000) (g : Gr Hl H)
    (k : ∀ v2' vs' H', AccS Hl.n H' v2' vs' (ls ++ ext n l) → Gr Hl H' → Ok (kt n v2' x4 x5 v6 x7 (w64 (x8 + 1)) H') Q) : Ok (r47_l3 (app 10) kt FUEL n v2 v3 x4 x5 v6 x7 x8 n 0 H) Q := by
  refine Ok.loop (L := fun K (s : Sl × Int) H' => r47_l3 (app 10) kt K n s.1 v3 x4 x5 v6 x7 x8 n s.2 H') (fun m s H' => ∃ i : Nat, s.2 = i ∧ i + m = n ∧ Gr Hl H' ∧ ∃ vs, AccS Hl.n H' s.1 vs (ls ++ ext i l)) ?_ FUEL n (v2, 0) H (by unfold FUEL; omega) ⟨0, rfl, by omega, g, vs, by simpa [ext] using ha⟩
  rintro K m ⟨v2, s⟩ H1 ⟨i, rfl, hm, g1, vs, h2⟩ ih
  try dsimp only at *
  rw [r47_l3]
  by_cases h : i < n
  · refine Ok.pos (by omega) (Ok.ld (r77_spec (h3.gr g1).is.ints (by omega) _) ?_)
    have hlen := h3.len
    have hcap := h3.cap
    rw [w64_succ (by omega)]
    refine Ok.ite (fun hc => ?_) fun hc => ?_
    · refine ih (m - 1) (v2, _) H1 (by omega) ⟨i + 1, rfl, by omega, g1, vs, ?_⟩
      rw [ext_succ, if_pos (by simpa using hc), List.append_nil]
      exact h2
    · have hc' : ¬ (i : Int) ∈ l := by simpa using hc
      refine Ok.ck (by omega) ?_
      refine Ok.bind (grow_ok (h3.gr g1) (i : Int) rfl rfl (by omega)) fun w H2 ⟨g2, hw, hn2, hb2⟩ => ?_
      have hll : (ls ++ ext i l).length ≤ 1000006 := by
        have := ext_len i l
        rw [List.length_append]; omega
      have hlt : v2.nil = false → v2.b < H1.n := fun e => by
        have := h2.1.lt e; exact this
      refine Ok.bind ((h2.gr g2).push (g1.trans g2) (hw.hide fun e1 e2 => by have := hlt e1; dsimp only at *; omega) (by omega)) fun v2' H3 ⟨h4, g3, _⟩ => ?_
      refine ih (m - 1) (v2', _) H3 (by omega) ⟨i + 1, rfl, by omega, g3, vs ++ [w], ?_⟩
      rw [ext_succ, if_neg hc', ← List.append_assoc]
      exact h4
  · refine Ok.neg (by omega) ?_
    have : i = n := by omega
    subst this
    exact k _ vs H1 h2 g1
theorem r47_l2_ok (hn : n ≤ 6) {kt : Int → Sl → Int → Int → Hp → Option ((Sl × Int) × Hp)} {v5 : Sl} {x3 x4 : Int} {us : List Sl} {ls : List (List Int)} (h5 : SLL Hl v5 us ls) (hl : ∀ l ∈ ls, l.length ≤ 1000) (hb : ls.length ≤ 50000)
    (k : ∀ v2' vs' H', AccS Hl.n H' v2' vs' (ls.flatMap (ext n)) → Gr Hl H' → Ok (kt n v2' x3 (w64 (x4 + 1)) H') Q) : Ok (r47_l2 (app 10) kt FUEL n ⟨true, 0, 0, 0, 0, 0⟩ x3 x4 v5 (v5.len : Int) 0 Hl) Q := by
  have hlen := h5.len
  rw [hlen]
  refine Ok.loop (L := fun K (s : Sl × Int) H' => r47_l2 (app 10) kt K n s.1 x3 x4 v5 ls.length s.2 H') (fun m s H' => ∃ i : Nat, s.2 = i ∧ i + m = ls.length ∧ Gr Hl H' ∧ ∃ vs, AccS Hl.n H' s.1 vs ((ls.take i).flatMap (ext n))) ?_ FUEL ls.length (_, 0) Hl (by unfold FUEL; omega) ⟨0, rfl, by omega, .refl _, [], by simp; exact .nilS⟩
  rintro K m ⟨v2, s⟩ H1 ⟨i, rfl, hm, g1, vs, h2⟩ ih
  try dsimp only at *
  rw [r47_l2]
  by_cases h : i < ls.length
  · refine Ok.pos (by omega) (Ok.ck (by omega) (Ok.ld ((h5.gr g1).ldSl (i := i) h) ?_))
    refine r47_l3_ok hn (h5.get h) (hl _ (List.getElem_mem h)) h2 ?_ g1 fun v2' vs' H2 h3 g2 => ?_
    · refine Nat.le_trans (flatMap_len (n := 6) fun l _ => Nat.le_trans (ext_len n l) hn) ?_
      simp; omega
    · rw [w64_succ (by omega)]
      refine ih (m - 1) (v2', _) H2 (by omega) ⟨i + 1, rfl, by omega, g2, vs', ?_⟩
      rw [List.take_succ_eq_append_getElem h, List.flatMap_append]
      simpa using h3
  · refine Ok.neg (by omega) ?_
    rw [List.take_of_length_le (by omega)] at h2
    exact k _ vs H1 h2 g1
end
end Go.Lt.P8
