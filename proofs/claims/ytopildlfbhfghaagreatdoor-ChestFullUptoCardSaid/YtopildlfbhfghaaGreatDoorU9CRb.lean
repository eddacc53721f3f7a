/- PLAIN LAWS OF WHAT IS COMPUTED, for the statement 'ChestFull'. Nothing is asked of the input. -/
import Derived.Test.YtopildlfbhfghaaGreatDoorU9CGv
import Derived.Lib.ItoaNum
import Derived.Lib.ItoaMem
import Derived.Test.YtopildlfbhfghaaGreatDoorU9CApp
set_option linter.unusedVariables false
set_option linter.unusedSimpArgs false
namespace Go.Lt.P10
open Go Go.Lt Go.Proofs
def mix (l : List (ByteArray × Int)) (y : List Int) (k : Nat) : List (ByteArray × Int) := l.mapIdx fun q x => if q < k then (x.1, y.getD q 0) else x
theorem mix_zero (l : List (ByteArray × Int)) (y : List Int) : mix l y 0 = l := by
  unfold mix
  apply List.ext_getElem
  · simp
  · intro i h1 h2; simp
theorem mix_len (l : List (ByteArray × Int)) (y : List Int) (k : Nat) : (mix l y k).length = l.length := by simp [mix]
theorem mix_get (l : List (ByteArray × Int)) (y : List Int) (k q : Nat) (hq : q < l.length) : (mix l y k)[q]'(by rw [mix_len]; exact hq) = if q < k then (l[q].1, y.getD q 0) else l[q] := by
  simp [mix]
theorem mix_succ (l : List (ByteArray × Int)) (y : List Int) (k : Nat) : (mix l y k).modify k (fun x => (x.1, y.getD k 0)) = mix l y (k + 1) := by
  apply List.ext_getElem
  · simp [mix]
  · intro i h1 h2
    have hi : i < l.length := by rw [mix_len] at h2; exact h2
    rw [List.getElem_modify, mix_get _ _ _ _ hi, mix_get _ _ _ _ hi]
    by_cases e : k = i
    · subst e
      rw [if_pos rfl, if_neg (by omega), if_pos (by omega)]
    · rw [if_neg e]
      by_cases h : i < k
      · rw [if_pos h, if_pos (by omega)]
      · rw [if_neg h, if_neg (by omega)]
theorem mix_give (l : List (ByteArray × Int)) {i j : Nat} (hi : i < l.length) (hj : j < l.length) (hij : i ≠ j) (a b : Int) :
    mix l (((l.map (·.2)).set i a).set j b) l.length = (l.modify i fun x => (x.1, a)).modify j fun x => (x.1, b) := by
  apply List.ext_getElem
  · simp [mix]
  · intro q h1 h2
    have hq : q < l.length := by rw [mix_len] at h1; exact h1
    rw [mix_get _ _ _ _ hq, if_pos hq, List.getElem_modify, List.getElem_modify, List.getD_eq_getElem?_getD, List.getElem?_eq_getElem (by simpa using hq)]
    simp only [Option.getD_some]
    rw [List.getElem_set]
    by_cases e : j = q
    · subst e; rw [if_pos rfl, if_pos rfl, if_neg hij]
    · rw [if_neg e, if_neg e, List.getElem_set]
      by_cases e2 : i = q
      · subst e2; rw [if_pos rfl, if_pos rfl]
      · rw [if_neg e2, if_neg e2]; simp
theorem r113_l1_ok {k : Nat} {H : Hp} {n0 b : Nat} {s : St} {v1 v2 v3 w : Sl} {y : List Int} (h : StO H n0 b s v1 v2 v3) (hs : s.Ok) (hy : SL H w y) (hl : y.length = s.leaves.length) (hw : ∀ c, c = v1.b → v1.nil = false → w.b ≠ c) (hn : n0 ≤ H.n) :
    Lt.Ok (r113_l1 (appA k) FUEL b 0 w (w.len : Int) 0 H) fun e H' => e = 0 ∧ Old n0 H H' ∧ StO H' n0 b { s with leaves := mix s.leaves y s.leaves.length } v1 v2 v3 := by
  have l6 := hs.l6
  have hlen := hy.len
  refine Lt.Ok.loop (L := fun K (q : Int) A => r113_l1 (appA k) K b 0 w (w.len : Int) q A) (fun m q A => ∃ i : Nat, q = (i : Int) ∧ i + m = s.leaves.length ∧ Old n0 H A ∧ SL A w y ∧ StO A n0 b { s with leaves := mix s.leaves y i } v1 v2 v3) ?_ FUEL s.leaves.length 0 H (by unfold FUEL; omega) ⟨0, rfl, by omega, .refl _ _, hy, by rw [mix_zero]; exact h⟩
  rintro K m q A ⟨i, rfl, him, o, hyA, hA⟩ ih
  rw [r113_l1]
  refine Lt.Ok.ite (fun hlt => ?_) fun hlt => ?_
  · have hi : i < y.length := by omega
    have hl1 := hA.a1.1.len
    rw [mix_len] at hl1
    refine Lt.Ok.ck (by omega) (Lt.Ok.ld (hyA.ldI (i := i) (j := 0) (n := y.getD i 0) hi (by rw [List.getD_eq_getElem?_getD, List.getElem?_eq_getElem hi]; rfl)) (Lt.Ok.ld (ldSl_get hA.get rfl) (Lt.Ok.ck (by omega) ?_)))
    refine hA.putS (i := i) (y.getD i 0) (by rw [mix_len]; omega) fun A1 h1 o1 on1 => ?_
    rw [w64_succ (by omega)]
    refine ih (m - 1) _ A1 (by omega) ⟨i + 1, rfl, by omega, o.trans o1, ?_, ?_⟩
    · have hnil : v1.nil = false := hA.a1.1.sl.nonnil fun e => by
        have := congrArg List.length e
        rw [mix_len] at this
        simp at this; rw [this] at hl; simp at hl; rw [hl] at hi; simp at hi
      have hwlt : w.b < A.n := ld_lt (hyA.ld (i := i) (j := 0) (x := .int .i64 y[i]) hi rfl)
      exact slcg hyA (on1.2 _ hwlt (hw _ rfl hnil))
    · have : setStock { s with leaves := mix s.leaves y i } i (y.getD i 0) = { s with leaves := mix s.leaves y (i + 1) } := by
        unfold setStock; dsimp only; rw [mix_succ]
      rw [← this]; exact h1
  · have : i = s.leaves.length := by omega
    subst this
    exact Lt.Ok.ret ⟨rfl, o, hA⟩
theorem getD_stock {s : St} {i : Nat} (h : i < s.leaves.length) : (s.leaves.map (·.2)).getD i 0 = stock s i := by
  rw [stock_eq h, List.getD_eq_getElem?_getD, List.getElem?_map, List.getElem?_eq_getElem h]; rfl
theorem set_mem {l : List Int} {i : Nat} {a e : Int} (h : e ∈ l.set i a) : e = a ∨ e ∈ l := (List.mem_or_eq_of_mem_set h).symm.imp id id
theorem give_ok {k : Nat} {H : Hp} {n0 b : Nat} {s : St} {v1 v2 v3 wn wu : Sl} {a c : ByteArray} {n : Int} (h : StO H n0 b s v1 v2 v3) (hs : s.Ok) (hn : n0 ≤ H.n) (hna : SL H wn [a, c]) (hnu : SL H wu [n]) :
    Lt.Ok (r113 (appA (k + 1)) b 0 wn wu H) (ActQ n0 b H (giveS s a c n)) := by
  unfold r113
  refine Lt.Ok.lt ?_
  have g0 := Gr.push H (.cells [.sl wn, .sl wu] false)
  have hl0 := Hp.get_push_new H (.cells [.sl wn, .sl wu] false)
  have l6 := hs.l6
  generalize H.push (.cells [.sl wn, .sl wu] false) = H1 at *
  have hln := hna.len
  have hlu := hnu.len
  simp only [List.length_cons, List.length_nil] at hln hlu
  have e0 : ∀ {A : Hp}, Gr H A → A.ldStr wn.b (wn.o + (0 : Int).toNat * 1) = some a := fun g => SL.ldStr (hna.gr g) (i := 0) (j := 0) (n := a) (by simp) rfl
  have e1 : ∀ {A : Hp}, Gr H A → A.ldStr wn.b (wn.o + (1 : Int).toNat * 1) = some c := fun g => SL.ldStr (hna.gr g) (i := 1) (j := 0) (n := c) (by simp) rfl
  have e2 : ∀ {A : Hp}, Gr H A → A.ldI .i64 wu.b (wu.o + (0 : Int).toNat * 1) = some n := fun g => (hnu.gr g).ldI (i := 0) (j := 0) (n := n) (by simp) rfl
  refine Lt.Ok.ld (ldSl_get hl0 rfl) (Lt.Ok.ck (by omega) (Lt.Ok.ld (e0 g0) ?_))
  refine Lt.Ok.bind (r154_ok (k := k) (h.gr g0).get (h.gr g0).a1.1.sl (by omega) a) fun r1 A ⟨g, q1⟩ => ?_
  have gA := g0.trans g
  have hA := h.gr gA
  have hlA := (g.2 _ (Hp.get_lt hl0)).trans hl0
  refine Lt.Ok.ld (ldSl_get hlA rfl) (Lt.Ok.ck (by omega) (Lt.Ok.ld (e1 gA) ?_))
  refine Lt.Ok.bind (r154_ok (k := k) hA.get hA.a1.1.sl (by omega) c) fun r2 B ⟨g2, q2⟩ => ?_
  have gB := gA.trans g2
  have hB := h.gr gB
  have hlB := (g2.2 _ (Hp.get_lt hlA)).trans hlA
  refine Lt.Ok.ld (ldSl_get hlB rfl) (Lt.Ok.ck (by omega) (Lt.Ok.ld (e2 gB) ?_))
  refine Lt.Ok.ck (ldSl_get hl0 rfl) (Lt.Ok.ck (e1 g0) (Lt.Ok.ck (ldSl_get hl0 rfl) (Lt.Ok.ck (e2 g0) (Lt.Ok.ck (ldSl_get hlA rfl) (Lt.Ok.ck (e2 gA) (Lt.Ok.ck (ldSl_get hlB rfl) (Lt.Ok.ck (e1 gB) ?_)))))))
  dsimp only
  have old := Old.of_gr (n0 := n0) gB hn
  unfold giveS
  subst q1; subst q2
  cases hf1 : s.find a with
  | none =>
    refine Lt.Ok.pos (by decide) ?_
    unfold r113_j0
    exact Lt.Ok.pos rfl (Lt.Ok.ret ⟨old, rfl, by decide⟩)
  | some i =>
    refine Lt.Ok.neg (by simp [idxI]) ?_
    cases hf2 : s.find c with
    | none =>
      unfold r113_j0
      exact Lt.Ok.pos (by simp [idxI]) (Lt.Ok.ret ⟨old, rfl, by decide⟩)
    | some j =>
      have hi := find_lt hf1
      have hj := find_lt hf2
      unfold r113_j0
      rw [show decide (idxI (some j) < 0) = false from decide_eq_false (by simp [idxI])]
      refine Lt.Ok.neg (by simp) ?_
      simp only [idxI]
      have lo := h.lo
      refine Lt.Ok.bind (r153_ok hB.get hB.a1.1.sl (by omega)) fun xs C ⟨g3, hx⟩ => ?_
      rw [r18_eq]
      have ne : s.leaves ≠ [] := fun e => by rw [e] at hi; simp at hi
      have nex : s.leaves.map (·.2) ≠ [] := fun e => ne (List.map_eq_nil_iff.1 e)
      refine Lt.Ok.bind (clone_n (n0 := C.n) hx.1.sl hx.2 (by simp; omega) rfl (Nat.le_refl _)) fun w D ⟨g4, hw, _⟩ => ?_
      dsimp only
      have hwl := hw.1.len
      simp only [List.length_map] at hwl
      have ri := stock_rng hs hi
      have rj := stock_rng hs hj
      have gi : (s.leaves.map (·.2))[i]'(by simpa using hi) = stock s i := by rw [stock_eq hi]; simp
      have gj : (s.leaves.map (·.2))[j]'(by simpa using hj) = stock s j := by rw [stock_eq hj]; simp
      have gC := gB.trans g3
      have gD := gC.trans g4
      refine Lt.Ok.ck (by omega) (Lt.Ok.ld (hw.1.sl.ldI (i := i) (j := 0) (n := stock s i) (by simpa using hi) (by rw [gi]; rfl)) (Lt.Ok.ck (by omega) ?_))
      refine hw.put (i := i) _ (by simpa using hi) fun D1 h1 o1 n1 b1 => ?_
      generalize hy1 : w64 (stock s i - n) = y1 at *
      have hyj : ((s.leaves.map (·.2)).set i y1)[j]'(by simpa using hj) = if i = j then y1 else stock s j := by
        rw [List.getElem_set]; split
        · rfl
        · rw [gj]
      refine Lt.Ok.ck (by omega) (Lt.Ok.ld (h1.1.sl.ldI (i := j) (j := 0) (n := if i = j then y1 else stock s j) (by simpa using hj) (by rw [hyj]; rfl)) (Lt.Ok.ck (by omega) ?_))
      refine h1.put (i := j) _ (by simpa using hj) fun D2 h2 o2 n2 b2 => ?_
      generalize hy2 : w64 ((if i = j then y1 else stock s j) + n) = y2 at *
      have gD2 : Gr C D2 := ⟨by have := g4.1; omega, fun q hq => by rw [o2 q (by omega), o1 q (by omega), g4.2 q hq]⟩
      have hxD := hx.gr gD2
      have gp := Gr.push D2 (.cells [.int .i64 (i : Int), .int .i64 (j : Int), .int .i64 n] false)
      have hgs : SL (D2.push (.cells [.int .i64 (i : Int), .int .i64 (j : Int), .int .i64 n] false)) ⟨false, D2.n, 0, 1, 1, 0⟩ [((i : Int), (j : Int), n)] :=
        .of_get (ro := false) (Hp.get_push_new _ _) rfl rfl (Nat.le_refl _) (.inl rfl) rfl
      refine Lt.Ok.bind (r24_ok (hxD.1.sl.gr gp) hxD.2 (h2.1.sl.gr gp) hgs (by simpa using hi) (by simpa using hj) (by simp; omega) (by simp; omega)) fun r E ⟨g5, hr, hr0⟩ => ?_
      have gE : Gr H E := (gC.trans gD2).trans (gp.trans g5)
      have oldE := Old.of_gr (n0 := n0) gE hn
      dsimp only at hr hr0 ⊢
      have cond : r.1 = true ↔ (i ≠ j ∧ 1 ≤ n ∧ n ≤ 20 ∧ 2 * n ≤ stock s i - stock s j) := by
        rw [hr]
        unfold CanS
        rw [getD_stock hi, getD_stock hj]
        constructor
        · exact fun h => h.2.1
        · intro hc
          obtain ⟨c1, c2, c3, c4⟩ := hc
          have y1e : y1 = stock s i - n := by rw [← hy1, w64_id (by omega) (by omega)]
          have y2e : y2 = stock s j + n := by rw [← hy2, if_neg c1, w64_id (by omega) (by omega)]
          have xs20 : ∀ e ∈ s.leaves.map (·.2), 0 ≤ e ∧ e ≤ 20 := fun e he => by
            obtain ⟨p, hp, rfl⟩ := List.mem_map.1 he
            exact hs.st p hp
          refine ⟨⟨⟨by simp; omega, by simp; omega, rfl, xs20⟩, by simp; omega, by simp; omega, by simp, fun e he => ?_⟩, ⟨c1, c2, c3, c4⟩, by rw [y1e, y2e]⟩
          rcases set_mem he with rfl | he
          · omega
          · rcases set_mem he with rfl | he
            · omega
            · exact xs20 e he
      unfold r113_j2
      refine Lt.Ok.ite (fun hc => ?_) fun hc => ?_
      · have hc' := cond.1 hc
        rw [if_pos hc', hr0 hc]
        refine Lt.Ok.neg (by simp) ?_
        obtain ⟨c1, c2, c3, c4⟩ := hc'
        have y1e : y1 = stock s i - n := by rw [← hy1, w64_id (by omega) (by omega)]
        have y2e : y2 = stock s j + n := by rw [← hy2, if_neg c1, w64_id (by omega) (by omega)]
        have hE := h.gr gE
        have hwE := (h2.gr (gp.trans g5))
        have hC := h.gr gC
        refine (r113_l1_ok hE hs hwE.1.sl (by simp) (fun q hq hn1 => ?_) (by have := gE.1; omega)).mono fun e F ⟨he, of, hF⟩ => ⟨oldE.trans of, he, v1, v2, v3, ?_⟩
        · have := Acc.lt hC.a1.1 hn1
          omega
        · subst y1e; subst y2e
          rw [mix_give _ hi hj c1] at hF
          exact hF
      · rw [if_neg fun q => hc (cond.2 q)]
        exact Lt.Ok.pos rfl (Lt.Ok.ret ⟨oldE, rfl, by decide⟩)
theorem numS_nonneg {w : ByteArray} {n : Int} (h : numS w = some n) : 0 ≤ n := by
  unfold numS at h
  split at h
  · split at h
    · rename_i hc; injection h with h; subst h; exact hc.1
    · cases h
  · cases h
theorem nameF_size {w : ByteArray} : ∀ k p, nameF w k p = true → w.size ≤ 8
  | 0, p, h => by cases h
  | k + 1, p, h => by
    unfold nameF at h
    split at h
    · split at h
      · cases h
      · split at h
        · cases h
        · exact nameF_size k _ h
    · split at h
      · cases h
      · have := of_decide_eq_true h; omega
theorem isNameS_size {w : ByteArray} (h : isNameS w = true) : w.size ≤ 8 := nameF_size _ _ h
theorem readS_parse {form text : ByteArray} {p : List ByteArray × List Int} (h : readS form text = some p) : ∃ ws : List ByteArray, ws.length = form.size ∧ parseS form.data.toList ws = some p := by
  unfold readS at h
  split at h
  · rename_i hc; exact ⟨_, hc.1, h⟩
  · cases h
theorem two {α : Type} {l : List α} (h : l.length = 2) : ∃ a b, l = [a, b] := by
  match l, h with
  | [a, b], _ => exact ⟨a, b, rfl⟩
theorem parse_n {x : ByteArray} {fs : List UInt8} {xs : List ByteArray} {p : List ByteArray × List Int} (h : parseS (110 :: fs) (x :: xs) = some p) : isNameS x = true ∧ ∃ q, parseS fs xs = some q ∧ p = (x :: q.1, q.2) := by
  rw [parseS, if_pos rfl] at h
  split at h
  · rename_i hx
    obtain ⟨q, hq, e⟩ := Option.map_eq_some_iff.1 h
    exact ⟨hx, q, hq, e.symm⟩
  · cases h
theorem parse_d {x : ByteArray} {fs : List UInt8} {xs : List ByteArray} {p : List ByteArray × List Int} (h : parseS (100 :: fs) (x :: xs) = some p) : ∃ n, 0 ≤ n ∧ ∃ q, parseS fs xs = some q ∧ p = (q.1, n :: q.2) := by
  rw [parseS, if_neg (by decide)] at h
  obtain ⟨n, hn, h⟩ := Option.bind_eq_some_iff.1 h
  obtain ⟨q, hq, e⟩ := Option.map_eq_some_iff.1 h
  exact ⟨n, numS_nonneg hn, q, hq, e.symm⟩
theorem parse_nil {p : List ByteArray × List Int} (h : parseS [] [] = some p) : p = ([], []) := by
  injection h with h; exact h.symm
theorem read_ND {text : ByteArray} {p : List ByteArray × List Int} (h : readS fND text = some p) : ∃ a n, p = ([a], [n]) ∧ 0 ≤ n ∧ isNameS a = true := by
  obtain ⟨ws, hl, h⟩ := readS_parse h
  obtain ⟨x, y, rfl⟩ := two (show ws.length = 2 from hl)
  obtain ⟨hx, q1, h1, e1⟩ := parse_n (show parseS [110, 100] [x, y] = some p from h)
  obtain ⟨n, hn, q2, h2, e2⟩ := parse_d h1
  have := parse_nil h2
  subst this; subst e2; subst e1
  exact ⟨x, n, rfl, hn, hx⟩
theorem read_NND {text : ByteArray} {p : List ByteArray × List Int} (h : readS fNND text = some p) : ∃ a b n, p = ([a, b], [n]) ∧ 0 ≤ n := by
  obtain ⟨ws, hl, h⟩ := readS_parse h
  obtain ⟨x, y, z, rfl⟩ : ∃ x y z, ws = [x, y, z] := by
    match ws, (show ws.length = 3 from hl) with
    | [a, b, c], _ => exact ⟨a, b, c, rfl⟩
  obtain ⟨hx, q1, h1, e1⟩ := parse_n (show parseS [110, 110, 100] [x, y, z] = some p from h)
  obtain ⟨hx, q2, h2, e2⟩ := parse_n h1
  obtain ⟨n, hn, q3, h3, e3⟩ := parse_d h2
  have := parse_nil h3
  subst this; subst e3; subst e2; subst e1
  exact ⟨x, y, n, rfl, hn⟩
theorem read_N {text : ByteArray} {p : List ByteArray × List Int} (h : readS fN text = some p) : ∃ a, p = ([a], []) := by
  obtain ⟨ws, hl, h⟩ := readS_parse h
  obtain ⟨x, rfl⟩ := List.length_eq_one_iff.1 (show ws.length = 1 from hl)
  obtain ⟨hx, q1, h1, e1⟩ := parse_n (show parseS [110] [x] = some p from h)
  have := parse_nil h1
  subst this; subst e1
  exact ⟨x, rfl⟩
theorem read_DD {text : ByteArray} {p : List ByteArray × List Int} (h : readS fDD text = some p) : ∃ i j, p = ([], [i, j]) ∧ 0 ≤ i ∧ 0 ≤ j := by
  obtain ⟨ws, hl, h⟩ := readS_parse h
  obtain ⟨x, y, rfl⟩ := two (show ws.length = 2 from hl)
  obtain ⟨n, hn, q1, h1, e1⟩ := parse_d (show parseS [100, 100] [x, y] = some p from h)
  obtain ⟨m, hm, q2, h2, e2⟩ := parse_d h1
  have := parse_nil h2
  subst this; subst e2; subst e1
  exact ⟨n, m, rfl, hn, hm⟩
def DoQ (H : Hp) (a : Act × ByteArray) (r : Nat × Nat × ByteArray × Int) (H' : Hp) : Prop :=
  Gr H H' ∧ match a with
    | (.inl e, _) => r.2.2.2 = e ∧ e ≠ 0
    | (.inr s', w) => r.2.2.2 = 0 ∧ r.2.2.1 = w ∧ r.2.1 = 0 ∧ StAt H' (H.n ≤ ·) r.1 s'
theorem r64_j0_ok {k : Nat} {H A : Hp} {b b2 : Nat} {text w form : ByteArray} {v8 : AV} {s : St} {v1 v2 v3 : Sl} {f : St → List ByteArray × List Int → Act} (gA : Gr H A) (h : StO A H.n b2 s v1 v2 v3) (hs : text.size ≤ 1048576) (hf : form.size ≤ 8)
    (hact : ∀ p, readS form text = some p → ∀ B wn wu, Gr A B → SL B wn p.1 → SL B wu p.2 → ∃ e C, callv (appA (k + 2)) v8 [.agg [.sl wn, .sl wu]] B = some (.int .i64 e, C) ∧ ActQ H.n b2 B (f s p) e C) :
    Lt.Ok (r64_j0 (appA (k + 2)) b 0 text w b2 0 form v8 A) (DoQ H (actS s w text form f)) := by
  unfold r64_j0 actS
  refine Lt.Ok.bind (r108_ok (k := k + 1) hf hs) fun r B ⟨g, hr⟩ => ?_
  dsimp only
  obtain ⟨C, h1, h2, h3, h4⟩ := sts_blk [.sl r.1, .sl r.2.1] 0 (B.push (.cells [.sl ⟨true, 0, 0, 0, 0, 0⟩, .sl ⟨true, 0, 0, 0, 0, 0⟩] false)) _ (Hp.get_push_new _ _) (by simp)
  have h2' : C.get B.n = some (.cells [.sl r.1, .sl r.2.1] false) := by rw [h2]; simp
  have gC : Gr B C := ⟨by rw [h3]; simp, fun c hc => by rw [h4 c (by omega), Hp.get_push_old _ _ hc]⟩
  refine Lt.Ok.ld h1 ?_
  have gHC : Gr H C := gA.trans (g.trans gC)
  cases hrd : readS form text with
  | none =>
    rw [hrd] at hr
    dsimp only at hr
    rw [hr]
    exact Lt.Ok.neg (by simp) (Lt.Ok.ret ⟨gHC, rfl, by decide⟩)
  | some p =>
    rw [hrd] at hr
    obtain ⟨hr1, hr2, hr3⟩ := hr
    refine Lt.Ok.pos hr1 (Lt.Ok.ld (ldSl_get h2' rfl) (Lt.Ok.ld (ldSl_get h2' rfl) ?_))
    obtain ⟨e, D, hcall, old, hq⟩ := hact p hrd C r.1 r.2.1 (g.trans gC) (hr2.gr gC) (hr3.gr gC)
    refine is hcall (Lt.Ok.ld rfl ?_)
    have gHD : Gr H D := ⟨Nat.le_trans gHC.1 old.1, fun c hc => by rw [old.2 c hc, gHC.2 c hc]⟩
    dsimp only
    cases hfs : f s p with
    | inl x =>
      rw [hfs] at hq
      obtain ⟨rfl, hx⟩ := hq
      exact Lt.Ok.pos hx (Lt.Ok.ret ⟨gHD, rfl, hx⟩)
    | inr s' =>
      rw [hfs] at hq
      obtain ⟨rfl, w1, w2, w3, hst⟩ := hq
      exact Lt.Ok.neg (by simp) (Lt.Ok.ret ⟨gHD, rfl, rfl, rfl, hst.at⟩)
theorem call44 (k : Nat) (b : Nat) (wn wu : Sl) (H : Hp) : callv (appA (k + 1)) (.fn 112 [.ptr b 0] []) [.agg [.sl wn, .sl wu]] H = (r112 (appA k) b 0 wn wu H).map fun p => (.int .i64 p.1, p.2) := rfl
theorem call45 (k : Nat) (b : Nat) (wn wu : Sl) (H : Hp) : callv (appA (k + 1)) (.fn 113 [.ptr b 0] []) [.agg [.sl wn, .sl wu]] H = (r113 (appA k) b 0 wn wu H).map fun p => (.int .i64 p.1, p.2) := rfl
theorem call46 (k : Nat) (b : Nat) (wn wu : Sl) (H : Hp) : callv (appA (k + 1)) (.fn 114 [.ptr b 0] []) [.agg [.sl wn, .sl wu]] H = (r114 (appA k) b 0 wn wu H).map fun p => (.int .i64 p.1, p.2) := rfl
theorem call47 (k : Nat) (b : Nat) (wn wu : Sl) (H : Hp) : callv (appA (k + 1)) (.fn 115 [.ptr b 0] []) [.agg [.sl wn, .sl wu]] H = (r115 b 0 wn wu H).map fun p => (.int .i64 p.1, p.2) := rfl
theorem call48 (k : Nat) (b : Nat) (wn wu : Sl) (H : Hp) : callv (appA (k + 1)) (.fn 116 [.ptr b 0] []) [.agg [.sl wn, .sl wu]] H = (r116 b 0 wn wu H).map fun p => (.int .i64 p.1, p.2) := rfl
theorem of_ok {x : Option (Int × Hp)} {y : Option (AV × Hp)} {Q : Int → Hp → Prop} (e : y = x.map fun p => (.int .i64 p.1, p.2)) (h : Lt.Ok x Q) : ∃ e C, y = some (.int .i64 e, C) ∧ Q e C := by
  obtain ⟨a, C, rfl, hq⟩ := h
  exact ⟨a, C, e, hq⟩
theorem r64_ok {k : Nat} {H : Hp} {P : Nat → Prop} {b : Nat} {s : St} {text : ByteArray} (h : StAt H P b s) (hs : s.Ok) (ht : text.size ≤ 1048576) : Lt.Ok (r64 (appA (k + 2)) b 0 text H) (DoQ H (doS s text)) := by
  unfold r64
  obtain ⟨rest, hcut⟩ := r97_sp text H ht
  refine is hcut ?_
  dsimp only
  refine Lt.Ok.bind (clone_state h hs) fun r A ⟨gA, hr0, v1, v2, v3, hst⟩ => ?_
  obtain ⟨b2, o2⟩ := r
  dsimp only at hr0 hst ⊢
  subst hr0
  unfold doS
  refine Lt.Ok.ite (fun hc => ?_) fun hc => ?_
  · rw [if_pos (show strEq (wordS text) wLeaf = true from hc)]
    refine r64_j0_ok gA hst ht (by decide +kernel) fun p hp B wn wu gB hn hu => of_ok (call44 _ _ _ _ _) ?_
    obtain ⟨a, n, rfl, _, _⟩ := read_ND hp
    exact leaf_ok (hst.gr gB) hs (by have := gA.1; have := gB.1; omega) hn hu
  rw [if_neg (show ¬ strEq (wordS text) wLeaf = true from hc)]
  refine Lt.Ok.ite (fun hc => ?_) fun hc => ?_
  · rw [if_pos (show strEq (wordS text) wGive = true from hc)]
    refine r64_j0_ok gA hst ht (by decide +kernel) fun p hp B wn wu gB hn hu => of_ok (call45 _ _ _ _ _) ?_
    obtain ⟨a, c, n, rfl, _⟩ := read_NND hp
    exact give_ok (hst.gr gB) hs (by have := gA.1; have := gB.1; omega) hn hu
  rw [if_neg (show ¬ strEq (wordS text) wGive = true from hc)]
  refine Lt.Ok.ite (fun hc => ?_) fun hc => ?_
  · rw [if_pos (show strEq (wordS text) wOrder = true from hc)]
    refine r64_j0_ok gA hst ht (by decide +kernel) fun p hp B wn wu gB hn hu => of_ok (call46 _ _ _ _ _) ?_
    obtain ⟨a, rfl⟩ := read_N hp
    exact order_ok (hst.gr gB) hs (by have := gA.1; have := gB.1; omega) hn
  rw [if_neg (show ¬ strEq (wordS text) wOrder = true from hc)]
  refine Lt.Ok.ite (fun hc => ?_) fun hc => ?_
  · rw [if_pos (show strEq (wordS text) wTaste = true from hc)]
    refine r64_j0_ok gA hst ht (by decide +kernel) fun p hp B wn wu gB hn hu => of_ok (call47 _ _ _ _ _) ?_
    obtain ⟨i, j, rfl, hi, hj⟩ := read_DD hp
    exact taste_ok (hst.gr gB) hs (by have := gA.1; have := gB.1; omega) hu hi hj
  rw [if_neg (show ¬ strEq (wordS text) wTaste = true from hc)]
  refine Lt.Ok.ite (fun hc => ?_) fun hc => ?_
  · rw [if_pos (show strEq (wordS text) wOffer = true from hc)]
    refine r64_j0_ok gA hst ht (by decide +kernel) fun p hp B wn wu gB hn hu => of_ok (call48 _ _ _ _ _) ?_
    obtain ⟨i, j, rfl, hi, hj⟩ := read_DD hp
    exact offer_ok (hst.gr gB) hs (by have := gA.1; have := gB.1; omega) hu
  rw [if_neg (show ¬ strEq (wordS text) wOffer = true from hc)]
  exact Lt.Ok.ret ⟨gA, rfl, by decide⟩
/-! ### names and numbers, as the reference reads them -/
def lowB (c : UInt8) : Bool := decide (97 ≤ c.toNat ∧ c.toNat ≤ 122)
def digB (c : UInt8) : Bool := decide (48 ≤ c.toNat ∧ c.toNat ≤ 57)
theorem bget (w : ByteArray) (p : Nat) (h : p < w.size) : w[p]'h = w.data.toList[p]'(by rw [Array.length_toList]; exact h) := by
  rw [Array.getElem_toList]; rfl
theorem nameF_eq (w : ByteArray) : ∀ (k p : Nat), p ≤ w.size → w.size < p + k → nameF w k p = ((w.data.toList.drop p).all lowB && !strEq w (ByteArray.mk #[]) && decide (w.size ≤ 8))
  | 0, p, h0, h => by omega
  | k + 1, p, h0, h => by
    unfold nameF
    by_cases hp : p < w.size
    · rw [if_pos hp]
      have hl : p < w.data.toList.length := by rw [Array.length_toList]; exact hp
      rw [List.drop_eq_getElem_cons hl, List.all_cons]
      by_cases ha : (w[p]'hp).toNat < 128
      · rw [decode_ascii w p hp ha]
        have e := bget w p hp
        have ih := nameF_eq w k (p + 1) (by omega) (by omega)
        dsimp only
        rw [← e]
        by_cases h1 : ((w[p]'hp).toNat : Int) < 97
        · rw [if_pos h1]
          have : lowB (w[p]'hp) = false := by unfold lowB; rw [decide_eq_false]; omega
          rw [this]; simp
        · rw [if_neg h1]
          by_cases h2 : 122 < ((w[p]'hp).toNat : Int)
          · rw [if_pos h2]
            have : lowB (w[p]'hp) = false := by unfold lowB; rw [decide_eq_false]; omega
            rw [this]; simp
          · rw [if_neg h2]
            have : lowB (w[p]'hp) = true := by unfold lowB; rw [decide_eq_true]; omega
            rw [this, ih]; simp
      · have hd := (decode_high w p hp (by omega)).1
        have e := bget w p hp
        rw [← e]
        have : lowB (w[p]'hp) = false := by unfold lowB; rw [decide_eq_false]; omega
        rw [this]
        rw [if_neg (by omega), if_pos (by omega)]; simp
    · rw [if_neg hp]
      have : w.data.toList.drop p = [] := List.drop_of_length_le (by rw [Array.length_toList]; show w.data.size ≤ p; have : w.data.size = w.size := rfl; omega)
      rw [this]
      cases hs : strEq w (ByteArray.mk #[]) with
      | true => simp
      | false =>
        simp only [Bool.false_eq_true, if_false, List.all_nil, Bool.not_false, Bool.true_and]
        rw [decide_eq_decide]; omega
theorem isNameS_eq (w : ByteArray) : isNameS w = (decide (1 ≤ w.size ∧ w.size ≤ 8) && w.data.toList.all lowB) := by
  unfold isNameS
  rw [nameF_eq w _ 0 (Nat.zero_le _) (by omega), List.drop_zero]
  have hs : strEq w (ByteArray.mk #[]) = decide (w.size = 0) := by
    cases hx : strEq w (ByteArray.mk #[]) with
    | true => rw [strEq_iff.1 hx]; rfl
    | false =>
      symm
      rw [decide_eq_false]
      intro h0
      have : w = ByteArray.mk #[] := by
        cases w with | mk a =>
        have h0 : a.size = 0 := h0
        rw [Array.eq_empty_of_size_eq_zero h0]
      rw [this] at hx
      exact absurd hx (by decide +kernel)
  rw [hs]
  cases w.data.toList.all lowB with
  | false => simp
  | true =>
    simp only [Bool.true_and, Bool.and_true]
    by_cases h0 : w.size = 0
    · simp [h0]
    · by_cases h8 : w.size ≤ 8
      · rw [decide_eq_false h0, decide_eq_true h8, decide_eq_true ⟨by omega, h8⟩]; rfl
      · rw [decide_eq_false h8, decide_eq_false (p := 1 ≤ w.size ∧ w.size ≤ 8) fun h => h8 h.2, Bool.and_false]
def digR (l : List UInt8) : Bool := decide (1 ≤ l.length ∧ l.length ≤ 3) && l.all digB && !(decide (1 < l.length) && l.head? == some 48)
def atoR (l : List UInt8) : Int := match Lib.atoiAll l with | .ok v => v | _ => 0
theorem dig_back : ∀ v : Nat, v < 1000 → digR (Lib.decDigits v) = true ∧ Lib.atoiAll (Lib.decDigits v) = .ok (v : Int) := by
  have key : ∀ v : _root_.Fin 1000, (digR (Lib.decDigits v.val) && (match Lib.atoiAll (Lib.decDigits v.val) with | .ok u => u == (v.val : Int) | _ => false)) = true := by decide +kernel
  intro v hv
  have := key ⟨v, hv⟩
  rw [Bool.and_eq_true] at this
  refine ⟨this.1, ?_⟩
  have h2 := this.2
  dsimp only at h2
  split at h2
  · rename_i u hu
    rw [hu, beq_iff_eq.1 h2]
  · cases h2
theorem dig_all (l : List UInt8) (h : digR l = true) : ∃ v : Nat, v < 1000 ∧ l = Lib.decDigits v := by
  unfold digR at h
  simp only [Bool.and_eq_true, decide_eq_true_eq, Bool.not_eq_true'] at h
  obtain ⟨⟨hl, ha⟩, hz⟩ := h
  have dg : ∀ c : UInt8, digB c = true → ∃ d : _root_.Fin 10, c = UInt8.ofNat (48 + d.val) := fun c hc => by
    unfold digB at hc
    rw [decide_eq_true_eq] at hc
    refine ⟨⟨c.toNat - 48, by omega⟩, ?_⟩
    have : 48 + (c.toNat - 48) = c.toNat := by omega
    rw [this]
    simp
  have k1 : ∀ a : _root_.Fin 10, Lib.decDigits a.val = [UInt8.ofNat (48 + a.val)] := by decide +kernel
  have k2 : ∀ a b : _root_.Fin 10, a.val ≠ 0 → Lib.decDigits (10 * a.val + b.val) = [UInt8.ofNat (48 + a.val), UInt8.ofNat (48 + b.val)] := by decide +kernel
  have k3 : ∀ a b c : _root_.Fin 10, a.val ≠ 0 → Lib.decDigits (100 * a.val + 10 * b.val + c.val) = [UInt8.ofNat (48 + a.val), UInt8.ofNat (48 + b.val), UInt8.ofNat (48 + c.val)] := by decide +kernel
  have nz : ∀ a : _root_.Fin 10, UInt8.ofNat (48 + a.val) ≠ 48 → a.val ≠ 0 := by decide +kernel
  match l, hl with
  | [x], _ =>
    obtain ⟨a, rfl⟩ := dg x (by simpa using ha)
    exact ⟨a.val, by omega, (k1 a).symm⟩
  | [x, y], _ =>
    simp only [List.all_cons, List.all_nil, Bool.and_true, Bool.and_eq_true] at ha
    obtain ⟨a, rfl⟩ := dg x ha.1
    obtain ⟨b, rfl⟩ := dg y ha.2
    have ha0 := nz a (by simpa using hz)
    exact ⟨10 * a.val + b.val, by omega, (k2 a b ha0).symm⟩
  | [x, y, z], _ =>
    simp only [List.all_cons, List.all_nil, Bool.and_true, Bool.and_eq_true] at ha
    obtain ⟨a, rfl⟩ := dg x ha.1
    obtain ⟨b, rfl⟩ := dg y ha.2.1
    obtain ⟨c, rfl⟩ := dg z ha.2.2
    have ha0 := nz a (by simpa using hz)
    exact ⟨100 * a.val + 10 * b.val + c.val, by omega, (k3 a b c ha0).symm⟩
theorem numS_eq (w : ByteArray) : numS w = if digR w.data.toList = true then some (atoR w.data.toList) else none := by
  have hlen : w.data.toList.length = w.size := by rw [Array.length_toList]; rfl
  by_cases h : digR w.data.toList = true
  · rw [if_pos h]
    obtain ⟨v, hv, e⟩ := dig_all _ h
    obtain ⟨_, hb⟩ := dig_back v hv
    have ha : Lib.atoiAll w.data.toList = .ok (v : Int) := by rw [e]; exact hb
    unfold numS atoR
    rw [ha]
    dsimp only
    have hsz : w.size ≤ 3 := by
      unfold digR at h
      simp only [Bool.and_eq_true, decide_eq_true_eq] at h
      omega
    have hit : itoaA (v : Int) = w := by
      unfold itoaA
      rw [Lib.itoa_nonneg, ← e]
    rw [if_pos ⟨by omega, hsz, by rw [hit]; exact strEq_iff.2 rfl⟩]
  · rw [if_neg h]
    unfold numS
    split
    · rename_i v hv
      split
      · rename_i hc
        obtain ⟨h0, h3, he⟩ := hc
        obtain ⟨u, rfl⟩ := Int.eq_ofNat_of_zero_le h0
        have he := strEq_iff.1 he
        have hw : w.data.toList = Lib.decDigits u := by
          rw [← he]
          unfold itoaA
          rw [Lib.itoa_nonneg]
        exfalso
        have hu : u < 1000 := by
          have h1 := Lib.decDigits_length u
          rw [← hw, hlen] at h1
          have h2 := Lib.lt_pow_nDigits u
          have h4 : 10 ^ Lib.nDigits u ≤ 10 ^ 3 := Nat.pow_le_pow_right (by decide) (by omega)
          omega
        exact h (by rw [hw]; exact (dig_back u hu).1)
      · rfl
    · rfl
/-! ### changes keep the bounds -/
theorem St.new_ok : St.new.Ok := ⟨by decide, by simp [St.new], by simp [St.new], by decide, by simp [St.new], by decide, by decide, by simp [St.new]⟩
theorem setStock_leaves (s : St) (i : Nat) (n : Int) : (setStock s i n).leaves = s.leaves.modify i fun l => (l.1, n) := rfl
theorem mem_modify {l : List (ByteArray × Int)} {i : Nat} {n : Int} {x : ByteArray × Int} (h : x ∈ l.modify i fun l => (l.1, n)) : x ∈ l ∨ ∃ y ∈ l, x = (y.1, n) := by
  obtain ⟨j, hj, rfl⟩ := List.mem_iff_getElem.1 h
  rw [List.length_modify] at hj
  rw [List.getElem_modify]
  split
  · exact .inr ⟨_, List.getElem_mem hj, rfl⟩
  · exact .inl (List.getElem_mem hj)
theorem setStock_ok {s : St} (h : s.Ok) (i : Nat) {n : Int} (h0 : 0 ≤ n) (h1 : n ≤ 20) : (setStock s i n).Ok where
  l6 := by rw [setStock_leaves, List.length_modify]; exact h.l6
  st := fun x hx => by
    rw [setStock_leaves] at hx
    rcases mem_modify hx with hx | ⟨y, hy, rfl⟩
    · exact h.st x hx
    · exact ⟨h0, h1⟩
  nm := fun x hx => by
    rw [setStock_leaves] at hx
    rcases mem_modify hx with hx | ⟨y, hy, rfl⟩
    · exact h.nm x hx
    · exact h.nm y hy
  o40 := h.o40
  ol := by rw [setStock_leaves, List.length_modify]; exact h.ol
  ts := h.ts
  f8 := h.f8
  fl := h.fl
theorem act_ok {s t : St} {w text form : ByteArray} {f : St → List ByteArray × List Int → Act} {r : ByteArray} (h : actS s w text form f = (.inr t, r)) : r = w ∧ ∃ p, readS form text = some p ∧ f s p = .inr t := by
  unfold actS at h
  split at h
  · cases h
  · rename_i p hp
    split at h
    · cases h
    · rename_i t' ht
      injection h with h1 h2
      injection h1 with h1
      subst h1
      exact ⟨h2.symm, p, hp, ht⟩
theorem doS_inr {s t : St} {text w : ByteArray} (h : doS s text = (.inr t, w)) : w = wordS text ∧ ∃ form f p, readS form text = some p ∧ f s p = .inr t ∧
    (form = fND ∧ f = fLeaf ∨ form = fNND ∧ f = fGive ∨ form = fN ∧ f = fOrder ∨ form = fDD ∧ f = fTaste ∨ form = fDD ∧ f = fOffer) := by
  unfold doS at h
  split at h
  · obtain ⟨h1, p, h2, h3⟩ := act_ok h; exact ⟨h1, _, _, p, h2, h3, .inl ⟨rfl, rfl⟩⟩
  split at h
  · obtain ⟨h1, p, h2, h3⟩ := act_ok h; exact ⟨h1, _, _, p, h2, h3, .inr (.inl ⟨rfl, rfl⟩)⟩
  split at h
  · obtain ⟨h1, p, h2, h3⟩ := act_ok h; exact ⟨h1, _, _, p, h2, h3, .inr (.inr (.inl ⟨rfl, rfl⟩))⟩
  split at h
  · obtain ⟨h1, p, h2, h3⟩ := act_ok h; exact ⟨h1, _, _, p, h2, h3, .inr (.inr (.inr (.inl ⟨rfl, rfl⟩)))⟩
  split at h
  · obtain ⟨h1, p, h2, h3⟩ := act_ok h; exact ⟨h1, _, _, p, h2, h3, .inr (.inr (.inr (.inr ⟨rfl, rfl⟩)))⟩
  · cases h
theorem doS_line {s t : St} {text w : ByteArray} (h : doS s text = (.inr t, w)) : isLineS text = true := by
  obtain ⟨_, form, f, p, hr, _⟩ := doS_inr h
  unfold readS at hr
  split at hr
  · rename_i hc; exact hc.2
  · cases hr
theorem isLineS_size {s : ByteArray} (h : isLineS s = true) : s.size ≤ 60 := by
  unfold isLineS at h
  simp only [Bool.and_eq_true, decide_eq_true_eq] at h
  exact h.1.1
theorem doS_size {s t : St} {text w : ByteArray} (h : doS s text = (.inr t, w)) : text.size ≤ 60 := isLineS_size (doS_line h)
theorem doS_ne {s t : St} {text w : ByteArray} (h : doS s text = (.inr t, w)) : strEq text (ByteArray.mk #[]) = false := by
  cases he : strEq text (ByteArray.mk #[]) with
  | false => rfl
  | true =>
    have : text = ByteArray.mk #[] := strEq_iff.1 he
    subst this
    have e : wordS (ByteArray.mk #[]) = ByteArray.mk #[] := by decide +kernel
    unfold doS at h
    rw [e, if_neg (by decide +kernel), if_neg (by decide +kernel), if_neg (by decide +kernel), if_neg (by decide +kernel), if_neg (by decide +kernel)] at h
    cases h
theorem doS_ok {s t : St} {text w : ByteArray} (hs : s.Ok) (h : doS s text = (.inr t, w)) : t.Ok := by
  obtain ⟨_, form, f, p, hr, hf, hform⟩ := doS_inr h
  rcases hform with ⟨rfl, rfl⟩ | ⟨rfl, rfl⟩ | ⟨rfl, rfl⟩ | ⟨rfl, rfl⟩ | ⟨rfl, rfl⟩
  · obtain ⟨a, n, rfl, hn, ha⟩ := read_ND hr
    have hf : leafS s a n = .inr t := hf
    unfold leafS at hf
    split at hf
    · cases hf
    split at hf
    · cases hf
    split at hf
    · cases hf
    injection hf with hf
    subst hf
    have l6 := hs.l6
    refine ⟨by simp; omega, fun x hx => ?_, fun x hx => ?_, hs.o40, fun i hi => ?_, hs.ts, hs.f8, hs.fl⟩
    · rcases List.mem_append.1 hx with hx | hx
      · exact hs.st x hx
      · simp at hx; subst hx; exact ⟨hn, by omega⟩
    · rcases List.mem_append.1 hx with hx | hx
      · exact hs.nm x hx
      · simp at hx; subst hx; exact isNameS_size ha
    · have := hs.ol i hi
      simp; omega
  · obtain ⟨a, b, n, rfl, hn⟩ := read_NND hr
    have hf : giveS s a b n = .inr t := hf
    unfold giveS at hf
    split at hf
    · rename_i i j hi hj
      split at hf
      · rename_i hc
        injection hf with hf
        subst hf
        have ri := stock_rng hs (find_lt hi)
        have rj := stock_rng hs (find_lt hj)
        exact setStock_ok (setStock_ok hs i (by omega) (by omega)) j (by omega) (by omega)
      · cases hf
    · cases hf
  · obtain ⟨a, rfl⟩ := read_N hr
    have hf : orderS s a = .inr t := hf
    unfold orderS at hf
    split at hf
    · cases hf
    · rename_i i hi
      split at hf
      · cases hf
      split at hf
      · cases hf
      injection hf with hf
      subst hf
      have ri := stock_rng hs (find_lt hi)
      have hk := setStock_ok hs i (n := stock s i - 1) (by omega) (by omega)
      have := hs.o40
      refine ⟨hk.l6, hk.st, hk.nm, by simp; omega, fun x hx => ?_, hk.ts, hk.f8, hk.fl⟩
      rcases List.mem_append.1 hx with hx | hx
      · exact hk.ol x hx
      · simp at hx; subst hx
        have := find_lt hi
        show (0 : Int) ≤ _ ∧ _ < ((setStock s i (stock s i - 1)).leaves.length : Int)
        rw [setStock_leaves, List.length_modify]; omega
  · obtain ⟨i, j, rfl, hi, hj⟩ := read_DD hr
    have hf : tasteS s i j = .inr t := hf
    unfold tasteS at hf
    split at hf
    · cases hf
    split at hf
    · cases hf
    injection hf with hf
    obtain ⟨a0, a1, a2, a3, a4⟩ := hs.ts
    subst hf
    split <;> split <;> exact ⟨hs.l6, hs.st, hs.nm, hs.o40, hs.ol, ⟨by dsimp only; omega, by dsimp only; omega, by dsimp only; omega, by dsimp only; omega, by dsimp only; omega⟩, hs.f8, hs.fl⟩
  · obtain ⟨i, j, rfl, hi, hj⟩ := read_DD hr
    have hf : offerS s i j = .inr t := hf
    unfold offerS at hf
    split at hf
    · cases hf
    split at hf
    · cases hf
    split at hf
    · cases hf
    injection hf with hf
    subst hf
    have := hs.f8
    refine ⟨hs.l6, hs.st, hs.nm, hs.o40, hs.ol, hs.ts, by simp; omega, fun x hx => ?_⟩
    rcases List.mem_append.1 hx with hx | hx
    · exact hs.fl x hx
    · simp at hx; subst hx; dsimp only; omega
/-! ### the chest -/
structure Pg where
  change : ByteArray
  parent : Nat
  st : St
structure Chs where
  pages : List Pg
  at' : Nat
def Chs.new : Chs := ⟨[⟨ByteArray.mk #[], 0, St.new⟩], 0⟩
def Chs.par (C : Chs) (i : Nat) : Nat := (C.pages[i]?.map (·.parent)).getD 0
def Chs.chg (C : Chs) (i : Nat) : ByteArray := (C.pages[i]?.map (·.change)).getD (ByteArray.mk #[])
def Chs.now (C : Chs) (i : Nat) : St := (C.pages[i]?.map (·.st)).getD St.new
def Chs.child (C : Chs) (p : Nat) (ch : ByteArray) : Option Nat := C.pages.findIdx? fun q => strEq q.change ch && (decide (q.parent = p) && !strEq q.change (ByteArray.mk #[]))
structure Chs.Ok (C : Chs) : Prop where
  one : 1 ≤ C.pages.length
  most : C.pages.length ≤ 200
  cur : C.at' < C.pages.length
  root : C.par 0 = 0 ∧ C.now 0 = St.new
  up : ∀ i, 0 < i → i < C.pages.length → C.par i < i
  st : ∀ i, i < C.pages.length → (C.now i).Ok
  did : ∀ i, 0 < i → i < C.pages.length → ∃ w, doS (C.now (C.par i)) (C.chg i) = (.inr (C.now i), w)
  uq : ∀ i, 0 < i → i < C.pages.length → C.child (C.par i) (C.chg i) = some i
  rc : C.chg 0 = ByteArray.mk #[]
def Chs.do (C : Chs) (line : ByteArray) : Chs × ByteArray × Int :=
  match doS (C.now C.at') line with
  | (.inl e, _) => (C, ByteArray.mk #[], e)
  | (.inr s, w) => match C.child C.at' line with
    | some i => (⟨C.pages, i⟩, w, 0)
    | none => if C.pages.length = 200 then (C, ByteArray.mk #[], 7) else (⟨C.pages ++ [⟨line, C.at', s⟩], C.pages.length⟩, w, 0)
def Chs.go (C : Chs) (n : Int) : Chs × Int := if 0 ≤ n ∧ n < C.pages.length then (⟨C.pages, n.toNat⟩, 0) else (C, 2)
def Chs.ups (C : Chs) : Nat → Nat → List Nat
  | 0, _ => []
  | k + 1, p => if p = 0 then [] else p :: C.ups k (C.par p)
def Chs.way (C : Chs) (p : Nat) : List Nat := (C.ups C.pages.length p).reverse
def Chs.anc (C : Chs) : Nat → Nat → Nat
  | 0, p => p
  | k + 1, p => C.anc k (C.par p)
def Chs.back (C : Chs) (n : Int) : Chs × Int := if n < 0 then (C, 2) else if (C.way C.at').length < n then (C, 4) else (⟨C.pages, C.anc n.toNat C.at'⟩, 0)
theorem Chs.new_ok : Chs.new.Ok where
  one := by decide
  most := by decide
  cur := by decide
  root := ⟨rfl, rfl⟩
  up := fun i h1 h2 => by have : i < 1 := h2; omega
  st := fun i h => by
    have : i = 0 := by have : i < 1 := h; omega
    subst this; exact St.new_ok
  did := fun i h1 h2 => by have : i < 1 := h2; omega
  uq := fun i h1 h2 => by have : i < 1 := h2; omega
  rc := rfl
theorem Chs.child_lt {C : Chs} {p : Nat} {ch : ByteArray} {i : Nat} (h : C.child p ch = some i) : i < C.pages.length := (List.findIdx?_eq_some_iff_getElem.1 h).1
theorem Chs.child_is {C : Chs} {p : Nat} {ch : ByteArray} {i : Nat} (h : C.child p ch = some i) : C.par i = p ∧ C.chg i = ch := by
  obtain ⟨hi, hp, _⟩ := List.findIdx?_eq_some_iff_getElem.1 h
  simp only [Bool.and_eq_true, decide_eq_true_eq] at hp
  unfold Chs.par Chs.chg
  rw [List.getElem?_eq_getElem hi]
  exact ⟨hp.2.1, strEq_iff.1 hp.1⟩
theorem Chs.do_ok {C : Chs} (h : C.Ok) (line : ByteArray) : (C.do line).1.Ok := by
  unfold Chs.do
  split
  · exact h
  · rename_i s w hd
    split
    · rename_i i hi
      exact ⟨h.one, h.most, C.child_lt hi, h.root, h.up, h.st, h.did, h.uq, h.rc⟩
    · rename_i hc
      split
      · exact h
      · rename_i h200
        have h1 := h.one; have hm := h.most; have hcur := h.cur
        have old : ∀ i, i < C.pages.length → (C.pages ++ [(⟨line, C.at', s⟩ : Pg)])[i]? = C.pages[i]? := fun i hi => List.getElem?_append_left hi
        have new : (C.pages ++ [(⟨line, C.at', s⟩ : Pg)])[C.pages.length]? = some ⟨line, C.at', s⟩ := by simp
        generalize hD : (⟨C.pages ++ [(⟨line, C.at', s⟩ : Pg)], C.pages.length⟩ : Chs) = D
        have hDp : D.pages = C.pages ++ [(⟨line, C.at', s⟩ : Pg)] := by rw [← hD]
        have par_old : ∀ i, i < C.pages.length → D.par i = C.par i := fun i hi => by unfold Chs.par; rw [hDp, old i hi]
        have chg_old : ∀ i, i < C.pages.length → D.chg i = C.chg i := fun i hi => by unfold Chs.chg; rw [hDp, old i hi]
        have now_old : ∀ i, i < C.pages.length → D.now i = C.now i := fun i hi => by unfold Chs.now; rw [hDp, old i hi]
        have par_new : D.par C.pages.length = C.at' := by unfold Chs.par; rw [hDp, new]; rfl
        have chg_new : D.chg C.pages.length = line := by unfold Chs.chg; rw [hDp, new]; rfl
        have now_new : D.now C.pages.length = s := by unfold Chs.now; rw [hDp, new]; rfl
        have len : D.pages.length = C.pages.length + 1 := by rw [hDp]; simp
        have child_old : ∀ p ch i, C.child p ch = some i → D.child p ch = some i := fun p ch i hi => by
          unfold Chs.child at hi ⊢
          rw [hDp, List.findIdx?_append, hi]; rfl
        show D.Ok
        refine ⟨by omega, by omega, by rw [← hD]; simp, ⟨by rw [par_old 0 (by omega)]; exact h.root.1, by rw [now_old 0 (by omega)]; exact h.root.2⟩, fun i hi hl => ?_, fun i hl => ?_, fun i hi hl => ?_, fun i hi hl => ?_, by rw [chg_old 0 (by omega)]; exact h.rc⟩
        · by_cases e : i = C.pages.length
          · subst e; rw [par_new]; exact hcur
          · rw [par_old i (by omega)]; exact h.up i hi (by omega)
        · by_cases e : i = C.pages.length
          · subst e; rw [now_new]; exact doS_ok (h.st _ hcur) hd
          · rw [now_old i (by omega)]; exact h.st i (by omega)
        · by_cases e : i = C.pages.length
          · subst e; rw [par_new, chg_new, now_new, now_old _ hcur]; exact ⟨w, hd⟩
          · have := h.up i hi (by omega)
            rw [par_old i (by omega), chg_old i (by omega), now_old i (by omega), now_old _ (by omega)]; exact h.did i hi (by omega)
        · by_cases e : i = C.pages.length
          · subst e
            rw [par_new, chg_new]
            unfold Chs.child at hc ⊢
            rw [hDp, List.findIdx?_append, hc]
            have hne := doS_ne hd
            have hself : strEq line line = true := strEq_iff.2 rfl
            simp [List.findIdx?_cons, hne, hself]
          · rw [par_old i (by omega), chg_old i (by omega)]; exact child_old _ _ _ (h.uq i hi (by omega))
theorem Chs.go_ok {C : Chs} (h : C.Ok) (n : Int) : (C.go n).1.Ok := by
  unfold Chs.go
  split
  · rename_i hc
    exact ⟨h.one, h.most, by dsimp only; omega, h.root, h.up, h.st, h.did, h.uq, h.rc⟩
  · exact h
theorem Chs.par_le {C : Chs} (h : C.Ok) (p : Nat) : C.par p ≤ p := by
  by_cases h0 : p = 0
  · subst h0; rw [h.root.1]; exact Nat.le_refl _
  · by_cases hl : p < C.pages.length
    · exact Nat.le_of_lt (h.up p (by omega) hl)
    · unfold Chs.par; rw [List.getElem?_eq_none (by omega)]; simp
theorem Chs.anc_le {C : Chs} (h : C.Ok) : ∀ k p, C.anc k p ≤ p
  | 0, p => Nat.le_refl _
  | k + 1, p => Nat.le_trans (C.anc_le h k (C.par p)) (C.par_le h p)
theorem Chs.back_ok {C : Chs} (h : C.Ok) (n : Int) : (C.back n).1.Ok := by
  unfold Chs.back
  split
  · exact h
  · split
    · exact h
    · exact ⟨h.one, h.most, Nat.lt_of_le_of_lt (C.anc_le h _ _) h.cur, h.root, h.up, h.st, h.did, h.uq, h.rc⟩
/-! ### lines, as the reference reads them -/
theorem strCnt_cnt (s : ByteArray) : strCnt s 32 = (s.data.toList.count 32 : Nat) := by
  unfold strCnt
  rw [Lib.foldl_data, show ((0 : Nat) : Int) = 0 from rfl, Lib.count_foldl]
  unfold Lib.countByte
  simp
theorem strIdx_none {s : ByteArray} (h : strCnt s 32 = 0) : strIdx s 32 < 0 := by
  rw [strCnt_cnt] at h
  unfold strIdx
  split
  · rename_i i hi
    exfalso
    have h1 := List.find?_some hi
    have h2 := List.mem_range.1 (List.mem_of_find?_eq_some hi)
    have h3 : s[i]'h2 = 32 := by
      have : s[i]! = s[i]'h2 := getElem!_pos s i h2
      rw [this] at h1
      have := beq_iff_eq.1 h1
      rw [this]; rfl
    have h4 : (32 : UInt8) ∈ s.data.toList := by
      rw [← h3, bget s i h2]
      exact List.getElem_mem _
    have := List.count_pos_iff.2 h4
    omega
  · decide
theorem words_head (s : ByteArray) : ∃ r, words s = wordS s :: r := by
  obtain ⟨k, hk, _⟩ := strCnt_eq s 32
  unfold words wordS
  rw [hk]
  simp only [Int.toNat_natCast]
  cases k with
  | zero =>
    have := strIdx_none (s := s) (by rw [hk]; rfl)
    rw [if_neg (by omega)]
    exact ⟨[], rfl⟩
  | succ k =>
    unfold wordsN
    by_cases h : strIdx s 32 < 0
    · rw [if_pos h, if_neg (by omega)]; exact ⟨[], rfl⟩
    · rw [if_neg h, if_pos (by omega)]; exact ⟨_, rfl⟩
def bN : ByteArray := ByteArray.mk #[78]
def b1 : ByteArray := ByteArray.mk #[49]
def chkR : List ByteArray → List ByteArray → Option (List Int)
  | f :: fs, w :: ws => if (strEq f bN = true ∧ isNameS w = false) ∨ (strEq f b1 = true ∧ (numS w).isNone) then none
    else (chkR fs ws).map fun l => if strEq f b1 = true then (numS w).getD 0 :: l else l
  | _, _ => some []
def wordsR (text : ByteArray) : List (List ByteArray) → Option (List Int)
  | [] => none
  | f :: fs => if strEq (f.headD (ByteArray.mk #[])) (wordS text) = true ∧ f.length = (words text).length ∧ isLineS text = true then chkR f.tail (words text).tail else wordsR text fs
def formR : List UInt8 → List ByteArray
  | [] => []
  | c :: l => (if c = 110 then bN else b1) :: formR l
theorem formR_len : ∀ l, (formR l).length = l.length
  | [] => rfl
  | c :: l => by simp [formR, formR_len l]
def namesR : List UInt8 → List ByteArray → List ByteArray
  | c :: l, w :: ws => if c = 110 then w :: namesR l ws else namesR l ws
  | _, _ => []
theorem chk_parse : ∀ (l : List UInt8) (ws : List ByteArray), chkR (formR l) ws = (parseS l ws).map (·.2) ∧ ∀ p, parseS l ws = some p → p.1 = namesR l ws
  | [], ws => by
    constructor
    · cases ws <;> rfl
    · intro p h
      have : parseS [] ws = some ([], []) := by cases ws <;> rfl
      rw [this] at h; injection h with h; subst h
      cases ws <;> rfl
  | c :: l, [] => by
    constructor
    · rfl
    · intro p h
      have : parseS (c :: l) [] = some ([], []) := rfl
      rw [this] at h; injection h with h; subst h; rfl
  | c :: l, w :: ws => by
    obtain ⟨h1, h2⟩ := chk_parse l ws
    have n1 : strEq bN b1 = false := by decide +kernel
    have n2 : strEq b1 bN = false := by decide +kernel
    have n3 : strEq bN bN = true := by decide +kernel
    have n4 : strEq b1 b1 = true := by decide +kernel
    by_cases hc : c = 110
    · unfold formR chkR parseS
      rw [if_pos hc, if_pos hc, n3, n1]
      by_cases hn : isNameS w = true
      · rw [if_pos hn, if_neg (by simp [hn]), h1]
        constructor
        · cases parseS l ws <;> rfl
        · intro p hp
          obtain ⟨q, hq, rfl⟩ := Option.map_eq_some_iff.1 hp
          unfold namesR
          rw [if_pos hc]
          dsimp only
          rw [h2 q hq]
      · have hn' : isNameS w = false := by simpa using hn
        rw [if_neg hn, if_pos (.inl ⟨rfl, hn'⟩)]
        exact ⟨rfl, fun p hp => by cases hp⟩
    · unfold formR chkR parseS
      rw [if_neg hc, if_neg hc, n2, n4]
      cases hx : numS w with
      | none =>
        rw [if_pos (.inr ⟨rfl, rfl⟩)]
        exact ⟨rfl, fun p hp => by cases hp⟩
      | some n =>
        rw [if_neg (by simp), h1]
        constructor
        · cases parseS l ws <;> rfl
        · intro p hp
          simp only [Option.bind_some] at hp
          obtain ⟨q, hq, rfl⟩ := Option.map_eq_some_iff.1 hp
          unfold namesR
          rw [if_neg hc]
          dsimp only
          rw [h2 q hq]
def chgForms : List (List ByteArray) := [wLeaf :: formR fND.data.toList, wGive :: formR fNND.data.toList, wOrder :: formR fN.data.toList, wTaste :: formR fDD.data.toList, wOffer :: formR fDD.data.toList]
theorem read_R (text form : ByteArray) : (readS form text).map (·.2) = if (words text).length = form.size + 1 ∧ isLineS text = true then chkR (formR form.data.toList) (words text).tail else none := by
  have hlen : (words text).tail.length + 1 = (words text).length := by
    obtain ⟨r, hr⟩ := words_head text
    rw [hr]; rfl
  unfold readS
  by_cases hc : (words text).tail.length = form.size ∧ isLineS text = true
  · rw [if_pos hc, if_pos ⟨by omega, hc.2⟩, (chk_parse _ _).1]
  · rw [if_neg hc, if_neg fun h => hc ⟨by omega, h.2⟩]; rfl
/-! ### words of the reference -/
theorem app244 (k : Nat) (s c : ByteArray) (H : Hp) : appA (k + 1) 244 [.str s, .str c] H = trimP s c H := rfl
theorem dropWhile_nil {α : Type} (p : α → Bool) : ∀ l : List α, l.dropWhile p = [] ↔ l.all p = true
  | [] => by simp
  | x :: l => by
    rw [List.dropWhile_cons, List.all_cons]
    cases h : p x with
    | true => simp [dropWhile_nil p l]
    | false => simp
theorem dw_head {α : Type} {p : α → Bool} : ∀ (l : List α) (x : α) (r : List α), l.dropWhile p = x :: r → p x = false
  | [], x, r, h => by cases h
  | y :: l, x, r, h => by
    rw [List.dropWhile_cons] at h
    split at h
    · exact dw_head l x r h
    · rename_i hy
      injection h with h1 h2
      subst h1
      simpa using hy
theorem trimS_nil (l cs : List UInt8) : Lib.trimS l cs = [] ↔ l.all (fun x => cs.contains x) = true := by
  unfold Lib.trimS Lib.trimLeftS Lib.trimRightS
  rw [dropWhile_nil, List.all_reverse]
  constructor
  · intro h
    have h1 : (l.reverse.dropWhile fun x => cs.contains x) = [] := by
      cases hx : l.reverse.dropWhile fun x => cs.contains x with
      | nil => rfl
      | cons x r =>
        exfalso
        have h2 := dw_head _ _ _ hx
        rw [hx] at h
        rw [List.all_cons, Bool.and_eq_true] at h
        rw [h.1] at h2
        cases h2
    rw [dropWhile_nil, List.all_reverse] at h1
    exact h1
  · intro h
    have h1 : (l.reverse.dropWhile fun x => cs.contains x) = [] := by rw [dropWhile_nil, List.all_reverse]; exact h
    rw [h1]; rfl
def digSet : ByteArray := ByteArray.mk #[48, 49, 50, 51, 52, 53, 54, 55, 56, 57]
def lowSet : ByteArray := ByteArray.mk #[97, 98, 99, 100, 101, 102, 103, 104, 105, 106, 107, 108, 109, 110, 111, 112, 113, 114, 115, 116, 117, 118, 119, 120, 121, 122]
theorem all_u8 {p q : UInt8 → Bool} (h : ∀ i : _root_.Fin 256, p (UInt8.ofNat i.val) = q (UInt8.ofNat i.val)) : p = q := by
  funext c
  have := h ⟨c.toNat, c.toNat_lt⟩
  simpa using this
theorem digSet_eq : (fun x => digSet.data.toList.contains x) = digB := all_u8 (by decide +kernel)
theorem lowSet_eq : (fun x => lowSet.data.toList.contains x) = lowB := all_u8 (by decide +kernel)
theorem trim_eq {w c : ByteArray} {H : Hp} (h : w.size ≤ 1048576) (hc : c.size < 1000) (ha : c.data.toList.all (fun b => decide (b.toNat < 128)) = true) : trimP w c H = some (.str (trimA w c), H) := by
  unfold trimP; rw [if_pos ⟨by omega, hc, ha⟩]
theorem trim_nil (w c : ByteArray) : strEq (trimA w c) (ByteArray.mk #[]) = w.data.toList.all fun x => c.data.toList.contains x := by
  rw [Bool.eq_iff_iff, strEq_iff, ← trimS_nil]
  unfold trimA
  constructor
  · intro h
    have := congrArg (fun b => b.data.toList) h
    simpa using this
  · intro h; rw [h]
def numV (w : ByteArray) : Int × Bool := match numS w with | some v => (v, true) | none => (0, false)
theorem num_j0 {k : Nat} {w : ByteArray} {H : Hp} (h : digR w.data.toList = true) (hs : w.size ≤ 1048576) : r188_j0 (appA (k + 1)) w false H = some ((atoR w.data.toList, true), H) := by
  unfold r188_j0
  rw [if_neg (by simp), app53]
  unfold atoiP
  rw [if_pos (by omega)]
  obtain ⟨v, hv, e⟩ := dig_all _ h
  obtain ⟨_, hb⟩ := dig_back v hv
  have ha : Lib.atoiAll w.data.toList = .ok (v : Int) := by rw [e]; exact hb
  unfold atoiV atoR
  rw [ha]
  rfl
theorem number_ok {k : Nat} {w : ByteArray} {H : Hp} (hs : w.size ≤ 1048576) : r188 (appA (k + 1)) w H = some (numV w, H) := by
  have hl : w.data.toList.length = w.size := by rw [Array.length_toList]; rfl
  have hno : digR w.data.toList = false → numV w = (0, false) := fun h => by unfold numV; rw [numS_eq, if_neg (by rw [h]; simp)]
  have hyes : digR w.data.toList = true → numV w = (atoR w.data.toList, true) := fun h => by unfold numV; rw [numS_eq, if_pos h]
  have hj : r188_j0 (appA (k + 1)) w true H = some ((0, false), H) := by unfold r188_j0; rw [if_pos rfl]
  unfold r188
  by_cases h1 : (w.size : Int) < 1
  · rw [if_pos h1, hno (by unfold digR; rw [decide_eq_false (by omega)]; rfl), hj]
  by_cases h3 : 3 < (w.size : Int)
  · rw [if_neg h1, if_pos h3, hno (by unfold digR; rw [decide_eq_false (by omega)]; rfl), hj]
  rw [if_neg h1, if_neg h3, app244]
  rw [show trimP w (ByteArray.mk #[48, 49, 50, 51, 52, 53, 54, 55, 56, 57]) H = some (.str (trimA w digSet), H) from trim_eq hs (by decide) (by decide)]
  simp only [Option.bind_some, AV.asStr]
  rw [trim_nil, digSet_eq]
  by_cases hd : w.data.toList.all digB = true
  · rw [if_pos hd]
    have hb : (bt w 0 = 48) ↔ w.data.toList.head? = some 48 := by
      have h0 : 0 < w.size := by omega
      have e : w.get! 0 = w.data.toList[0]'(by omega) := by
        rw [← bget w 0 h0]
        exact getElem!_pos w.data 0 h0
      unfold bt
      rw [show (0 : Int).toNat = 0 from rfl, e, List.head?_eq_getElem?, List.getElem?_eq_getElem (by omega)]
      constructor
      · intro h
        have : (w.data.toList[0]'(by omega)).toNat = (48 : UInt8).toNat := by
          have h48 : (48 : UInt8).toNat = 48 := rfl
          omega
        rw [UInt8.toNat_inj.1 this]
      · intro h
        injection h with h
        rw [h]; rfl
    by_cases h2 : 1 < (w.size : Int)
    · rw [if_pos h2, ck, if_pos (by omega)]
      by_cases hz : bt w 0 = 48
      · rw [decide_eq_true hz, hj, hno]
        unfold digR
        rw [hb.1 hz, decide_eq_true (show 1 < w.data.toList.length by omega)]
        simp
      · have hd2 : digR w.data.toList = true := by
          unfold digR
          rw [decide_eq_true (by omega), hd]
          simp only [Bool.true_and, Bool.not_eq_true']
          rw [Bool.and_eq_false_iff]
          right
          rw [beq_eq_false_iff_ne]
          exact fun q => hz (hb.2 q)
        rw [decide_eq_false hz, num_j0 hd2 hs, hyes hd2]
    · have hd2 : digR w.data.toList = true := by
        unfold digR
        rw [decide_eq_true (by omega), hd, decide_eq_false (show ¬ 1 < w.data.toList.length by omega)]
        rfl
      rw [if_neg h2, num_j0 hd2 hs, hyes hd2]
  · rw [if_neg hd, hj, hno]
    unfold digR
    have : w.data.toList.all digB = false := by simpa using hd
    rw [this]
    simp
theorem name_okR {k : Nat} {w : ByteArray} {H : Hp} (hs : w.size ≤ 1048576) : r189 (appA (k + 1)) w H = some (isNameS w, H) := by
  have hl : w.data.toList.length = w.size := by rw [Array.length_toList]; rfl
  rw [isNameS_eq]
  unfold r189
  by_cases h1 : 1 ≤ (w.size : Int)
  · rw [if_pos h1]
    by_cases h8 : (w.size : Int) ≤ 8
    · rw [if_pos h8, app244]
      rw [show trimP w (ByteArray.mk #[97, 98, 99, 100, 101, 102, 103, 104, 105, 106, 107, 108, 109, 110, 111, 112, 113, 114, 115, 116, 117, 118, 119, 120, 121, 122]) H = some (.str (trimA w lowSet), H) from trim_eq hs (by decide) (by decide)]
      simp only [Option.bind_some, AV.asStr]
      rw [trim_nil, lowSet_eq, decide_eq_true (by omega)]
      rfl
    · rw [if_neg h8, decide_eq_false (by omega)]; rfl
  · rw [if_neg h1, decide_eq_false (by omega)]; rfl
theorem line_okR {H : Hp} {s : ByteArray} (hs : s.size ≤ 1048576) : Lt.Ok (r187 s H) fun r A => Gr H A ∧ r = isLineS s := by
  have hl : s.data.toList.length = s.size := by rw [Array.length_toList]; rfl
  have hgb : ∀ j, (hj : j < s.size) → bt s (j : Int) = ((s.data.toList[j]'(by omega)).toNat : Int) := fun j hj => by
    unfold bt
    rw [Int.toNat_natCast, ← bget s j hj]
    have e : s.get! j = s[j]'hj := getElem!_pos s.data j hj
    rw [e]
  unfold r187
  refine Lt.Ok.loop (L := fun K (i : Int) A => r187_l0 K s (s.size : Int) i A) (fun m i A => ∃ j : Nat, i = (j : Int) ∧ j + m = s.size ∧ A = H ∧ (s.data.toList.take j).all (fun c => decide (32 ≤ c.toNat ∧ c.toNat ≤ 126)) = true) ?_ FUEL s.size 0 H (by unfold FUEL; omega) ⟨0, rfl, by omega, rfl, by simp⟩
  rintro K m i A ⟨j, rfl, hj, rfl, hp⟩ ih
  rw [r187_l0]
  refine Lt.Ok.ite (fun hlt => ?_) fun hlt => ?_
  · have hjl : j < s.size := by omega
    have bad : ¬ (32 ≤ (s.data.toList[j]'(by omega)).toNat ∧ (s.data.toList[j]'(by omega)).toNat ≤ 126) → isLineS s = false := fun h => by
      unfold isLineS
      rw [Bool.and_eq_false_iff]
      right
      rw [List.all_eq_false]
      exact ⟨s.data.toList[j]'(by omega), List.getElem_mem _, by simpa using h⟩
    refine Lt.Ok.ck (by omega) ?_
    refine Lt.Ok.ite (fun hb => ?_) fun hb => ?_
    · unfold r187_j1
      rw [if_pos rfl]
      rw [hgb j hjl] at hb
      exact Lt.Ok.ret ⟨.refl _, (bad (by omega)).symm⟩
    · refine Lt.Ok.ck (by omega) ?_
      unfold r187_j1
      rw [hgb j hjl] at hb ⊢
      refine Lt.Ok.ite (fun h2 => ?_) fun h2 => ?_
      · rw [decide_eq_true_eq] at h2
        exact Lt.Ok.ret ⟨.refl _, (bad (by omega)).symm⟩
      · rw [decide_eq_true_eq] at h2
        rw [w64_succ (by omega)]
        refine ih (m - 1) _ A (by omega) ⟨j + 1, rfl, by omega, rfl, ?_⟩
        rw [List.take_succ_eq_append_getElem (by omega), List.all_append, hp, List.all_cons, List.all_nil, Bool.true_and, Bool.and_true, decide_eq_true_eq]
        omega
  · have hjl : j = s.size := by omega
    subst hjl
    rw [List.take_of_length_le (by omega)] at hp
    refine Lt.Ok.bind (r52_ok hs) fun v B ⟨hv, hnil, _, g⟩ => ?_
    dsimp only
    have hvl := hv.len
    have hwl := words_len s
    refine Lt.Ok.loop (L := fun K (i : Int) A => r187_l2 K s v (v.len : Int) i A) (fun m i A' => ∃ j : Nat, i = (j : Int) ∧ j + m = (words s).length ∧ A' = B ∧ ((words s).take j).any (fun w => strEq (ByteArray.mk #[]) w) = false) ?_ FUEL (words s).length 0 B (by unfold FUEL; omega) ⟨0, rfl, by omega, rfl, by simp⟩
    rintro K m i A' ⟨j, rfl, hj, rfl, hq⟩ ih
    rw [r187_l2]
    refine Lt.Ok.ite (fun hlt => ?_) fun hlt => ?_
    · have hjl : j < (words s).length := by omega
      refine Lt.Ok.ck (by omega) (Lt.Ok.ld (SL.ldStr hv (i := j) (j := 0) (n := (words s)[j]) hjl rfl) ?_)
      have sy : strEq (words s)[j] (ByteArray.mk #[]) = strEq (ByteArray.mk #[]) (words s)[j] := by
        rw [Bool.eq_iff_iff, strEq_iff, strEq_iff]
        exact eq_comm
      rw [sy]
      refine Lt.Ok.ite (fun he => ?_) fun he => ?_
      · refine Lt.Ok.ret ⟨g, ?_⟩
        unfold isLineS
        have : (words s).any (fun w => strEq (ByteArray.mk #[]) w) = true := List.any_eq_true.2 ⟨_, List.getElem_mem hjl, he⟩
        rw [this]
        simp
      · rw [w64_succ (by omega)]
        refine ih (m - 1) _ A' (by omega) ⟨j + 1, rfl, by omega, rfl, ?_⟩
        rw [List.take_succ_eq_append_getElem hjl, List.any_append, hq]
        simpa using he
    · have : j = (words s).length := by omega
      subst this
      rw [List.take_of_length_le (Nat.le_refl _)] at hq
      refine Lt.Ok.ret ⟨g, ?_⟩
      unfold isLineS
      rw [hq, hp]
      simp
      omega
/-! ### a change, as the reference makes it -/
def wAt (text : ByteArray) (i : Nat) : ByteArray := (words text).getD i (ByteArray.mk #[])
def actR (s : St) (text : ByteArray) (n : List Int) : Act :=
  if strEq (wordS text) wLeaf = true then leafS s (wAt text 1) (n.getD 0 0)
  else if strEq (wordS text) wGive = true then giveS s (wAt text 1) (wAt text 2) (n.getD 0 0)
  else if strEq (wordS text) wOrder = true then orderS s (wAt text 1)
  else if strEq (wordS text) wTaste = true then tasteS s (n.getD 0 0) (n.getD 1 0)
  else offerS s (n.getD 0 0) (n.getD 1 0)
def doR (s : St) (text : ByteArray) : Act × ByteArray :=
  match wordsR text chgForms with
  | none => (.inl 3, ByteArray.mk #[])
  | some n => match actR s text n with
    | .inl e => (.inl e, ByteArray.mk #[])
    | .inr t => (.inr t, wordS text)
theorem wordsR_skip {text : ByteArray} {f : List ByteArray} {fs : List (List ByteArray)} (h : strEq (f.headD (ByteArray.mk #[])) (wordS text) = false) : wordsR text (f :: fs) = wordsR text fs := by
  conv => lhs; unfold wordsR
  rw [if_neg (by rw [h]; simp)]
theorem wordsR_hit {text w : ByteArray} {l : List UInt8} {fs : List (List ByteArray)} (h : strEq w (wordS text) = true) (hn : wordsR text fs = none) : wordsR text ((w :: formR l) :: fs) = (readS ⟨l.toArray⟩ text).map (·.2) := by
  rw [read_R]
  conv => lhs; unfold wordsR
  have e1 : (w :: formR l).headD (ByteArray.mk #[]) = w := rfl
  have e2 : (ByteArray.mk l.toArray).size = l.length := rfl
  have e3 : (w :: formR l).length = l.length + 1 := by rw [List.length_cons, formR_len]
  rw [e1, e2, e3, hn]
  by_cases hc : l.length + 1 = (words text).length ∧ isLineS text = true
  · rw [if_pos ⟨h, hc⟩, if_pos ⟨hc.1.symm, hc.2⟩]; rfl
  · rw [if_neg fun q => hc q.2, if_neg fun q => hc ⟨q.1.symm, q.2⟩]
theorem strEq_ne {a b c : ByteArray} (h : strEq a b = true) (hn : strEq a c = false) : strEq c b = false := by
  have := strEq_iff.1 h
  subst this
  cases hx : strEq c a with
  | false => rfl
  | true =>
    have := strEq_iff.1 hx
    subst this
    rw [strEq_iff.2 rfl] at hn
    cases hn
theorem read_words {form text : ByteArray} {p : List ByteArray × List Int} (h : readS form text = some p) : ∃ ws : List ByteArray, words text = wordS text :: ws ∧ ws.length = form.size ∧ p.1 = namesR form.data.toList ws := by
  obtain ⟨r, hr⟩ := words_head text
  unfold readS at h
  split at h
  · rename_i hc
    rw [hr] at h
    rw [hr] at hc
    exact ⟨r, hr, hc.1, (chk_parse _ _).2 _ h⟩
  · cases h
theorem wAt_cons {text : ByteArray} {ws : List ByteArray} (h : words text = wordS text :: ws) (i : Nat) : wAt text (i + 1) = ws.getD i (ByteArray.mk #[]) := by
  unfold wAt; rw [h]; rfl
theorem doR_eq (s : St) (text : ByteArray) : doR s text = doS s text := by
  have nn : ∀ f, f ∈ chgForms → ∃ w l, f = w :: formR l := by
    intro f hf
    simp only [chgForms, List.mem_cons, List.not_mem_nil, or_false] at hf
    rcases hf with rfl | rfl | rfl | rfl | rfl <;> exact ⟨_, _, rfl⟩
  have sy : ∀ {a b : ByteArray}, strEq a b = true → strEq b a = true := fun h => strEq_iff.2 (strEq_iff.1 h).symm
  have go : ∀ (form : ByteArray) (f : St → List ByteArray × List Int → Act) (a : List Int → Act), wordsR text chgForms = (readS form text).map (·.2) → (∀ n, actR s text n = a n) → (∀ p, readS form text = some p → a p.2 = f s p) → doR s text = actS s (wordS text) text form f := by
    intro form f a h1 h2 h3
    unfold doR actS
    rw [h1]
    cases hp : readS form text with
    | none => rfl
    | some p =>
      simp only [Option.map_some]
      rw [h2, h3 p hp]
      cases f s p <;> rfl
  have d1 : strEq wLeaf wGive = false := by decide +kernel
  have d2 : strEq wLeaf wOrder = false := by decide +kernel
  have d3 : strEq wLeaf wTaste = false := by decide +kernel
  have d4 : strEq wLeaf wOffer = false := by decide +kernel
  have d5 : strEq wGive wLeaf = false := by decide +kernel
  have d6 : strEq wGive wOrder = false := by decide +kernel
  have d7 : strEq wGive wTaste = false := by decide +kernel
  have d8 : strEq wGive wOffer = false := by decide +kernel
  have d9 : strEq wOrder wLeaf = false := by decide +kernel
  have d10 : strEq wOrder wGive = false := by decide +kernel
  have d11 : strEq wOrder wTaste = false := by decide +kernel
  have d12 : strEq wOrder wOffer = false := by decide +kernel
  have d13 : strEq wTaste wLeaf = false := by decide +kernel
  have d14 : strEq wTaste wGive = false := by decide +kernel
  have d15 : strEq wTaste wOrder = false := by decide +kernel
  have d16 : strEq wTaste wOffer = false := by decide +kernel
  have nil : wordsR text [] = none := rfl
  have sk : ∀ (w v : ByteArray) (l : List UInt8) (fs : List (List ByteArray)), strEq w (wordS text) = true → strEq w v = false → wordsR text ((v :: formR l) :: fs) = wordsR text fs := fun w v l fs h1 h2 => wordsR_skip (strEq_ne h1 h2)
  have nt : ∀ {a b : ByteArray}, ¬ strEq a b = true → strEq b a = false := fun {a b} h => by
    cases hx : strEq b a with
    | false => rfl
    | true => exact absurd (sy hx) h
  have fb : ∀ f : ByteArray, (⟨f.data.toList.toArray⟩ : ByteArray) = f := fun f => by simp
  unfold doS
  by_cases h1 : strEq (wordS text) wLeaf = true
  · rw [if_pos h1]
    have q := sy h1
    refine go fND fLeaf (fun n => leafS s (wAt text 1) (n.getD 0 0)) ?_ (fun n => by unfold actR; rw [if_pos h1]) fun p hp => ?_
    · unfold chgForms
      rw [wordsR_hit q, fb]
      rw [sk _ _ _ _ q d1, sk _ _ _ _ q d2, sk _ _ _ _ q d3, sk _ _ _ _ q d4]; rfl
    · obtain ⟨ws, e1, e2, e3⟩ := read_words hp
      obtain ⟨a, n, rfl, _⟩ := read_ND hp
      match ws, e2 with
      | [x, y], _ =>
        have : [a] = [x] := e3
        injection this with this
        subst this
        show leafS s (wAt text 1) n = leafS s a n
        rw [wAt_cons e1]; rfl
  rw [if_neg h1]
  by_cases h2 : strEq (wordS text) wGive = true
  · rw [if_pos h2]
    have q := sy h2
    refine go fNND fGive (fun n => giveS s (wAt text 1) (wAt text 2) (n.getD 0 0)) ?_ (fun n => by unfold actR; rw [if_neg h1, if_pos h2]) fun p hp => ?_
    · unfold chgForms
      rw [sk _ _ _ _ q d5, wordsR_hit q, fb]
      rw [sk _ _ _ _ q d6, sk _ _ _ _ q d7, sk _ _ _ _ q d8]; rfl
    · obtain ⟨ws, e1, e2, e3⟩ := read_words hp
      obtain ⟨a, b, n, rfl, _⟩ := read_NND hp
      match ws, e2 with
      | [x, y, z], _ =>
        have : [a, b] = [x, y] := e3
        injection this with e4 this
        injection this with e5 _
        subst e4; subst e5
        show giveS s (wAt text 1) (wAt text 2) n = giveS s a b n
        rw [wAt_cons e1, wAt_cons e1]; rfl
  rw [if_neg h2]
  by_cases h3 : strEq (wordS text) wOrder = true
  · rw [if_pos h3]
    have q := sy h3
    refine go fN fOrder (fun n => orderS s (wAt text 1)) ?_ (fun n => by unfold actR; rw [if_neg h1, if_neg h2, if_pos h3]) fun p hp => ?_
    · unfold chgForms
      rw [sk _ _ _ _ q d9, sk _ _ _ _ q d10, wordsR_hit q, fb]
      rw [sk _ _ _ _ q d11, sk _ _ _ _ q d12]; rfl
    · obtain ⟨ws, e1, e2, e3⟩ := read_words hp
      obtain ⟨a, rfl⟩ := read_N hp
      match ws, e2 with
      | [x], _ =>
        have : [a] = [x] := e3
        injection this with this
        subst this
        show orderS s (wAt text 1) = orderS s a
        rw [wAt_cons e1]; rfl
  rw [if_neg h3]
  by_cases h4 : strEq (wordS text) wTaste = true
  · rw [if_pos h4]
    have q := sy h4
    refine go fDD fTaste (fun n => tasteS s (n.getD 0 0) (n.getD 1 0)) ?_ (fun n => by unfold actR; rw [if_neg h1, if_neg h2, if_neg h3, if_pos h4]) fun p hp => ?_
    · unfold chgForms
      rw [sk _ _ _ _ q d13, sk _ _ _ _ q d14, sk _ _ _ _ q d15, wordsR_hit q, fb]
      rw [sk _ _ _ _ q d16]; rfl
    · obtain ⟨i, j, rfl, _⟩ := read_DD hp
      rfl
  rw [if_neg h4]
  have sk2 : ∀ (v : ByteArray) (l : List UInt8) (fs : List (List ByteArray)), ¬ strEq (wordS text) v = true → wordsR text ((v :: formR l) :: fs) = wordsR text fs := fun v l fs h => wordsR_skip (nt h)
  by_cases h5 : strEq (wordS text) wOffer = true
  · rw [if_pos h5]
    have q := sy h5
    refine go fDD fOffer (fun n => offerS s (n.getD 0 0) (n.getD 1 0)) ?_ (fun n => by unfold actR; rw [if_neg h1, if_neg h2, if_neg h3, if_neg h4]) fun p hp => ?_
    · unfold chgForms
      rw [sk2 _ _ _ h1, sk2 _ _ _ h2, sk2 _ _ _ h3, sk2 _ _ _ h4, wordsR_hit q nil, fb]
    · obtain ⟨i, j, rfl, _⟩ := read_DD hp
      rfl
  · rw [if_neg h5]
    unfold doR
    have : wordsR text chgForms = none := by
      unfold chgForms
      rw [sk2 _ _ _ h1, sk2 _ _ _ h2, sk2 _ _ _ h3, sk2 _ _ _ h4, sk2 _ _ _ h5]; rfl
    rw [this]
theorem words_sz (s : ByteArray) : ∀ w ∈ words s, w.size ≤ s.size := by
  have key : ∀ k s, ∀ w ∈ wordsN k s, w.size ≤ s.size := by
    intro k
    induction k with
    | zero => intro s w h; simp [wordsN] at h; rw [h]; exact Nat.le_refl _
    | succ k ih =>
      intro s w h
      unfold wordsN at h
      split at h
      · simp at h; rw [h]; exact Nat.le_refl _
      · rcases List.mem_cons.1 h with rfl | h
        · simp [ByteArray.size_extract]; omega
        · have := ih _ _ h
          simp [ByteArray.size_extract] at this
          omega
  exact key _ s
theorem chkR_cons (f w : ByteArray) (fs ws : List ByteArray) : chkR (f :: fs) (w :: ws) = if (strEq f bN = true ∧ isNameS w = false) ∨ (strEq f b1 = true ∧ (numS w).isNone) then none
    else (chkR fs ws).map fun l => if strEq f b1 = true then (numS w).getD 0 :: l else l := rfl
def WordsQ (H : Hp) (text : ByteArray) (o : Option (List Int)) (r : Sl × Sl × Bool) (A : Hp) : Prop :=
  Gr H A ∧ match o with
  | none => r.2.2 = false
  | some n => r.2.2 = true ∧ SL A r.1 (words text) ∧ SL A r.2.1 n ∧ H.n ≤ r.1.b
theorem chk_ok {k : Nat} {H0 H : Hp} {text : ByteArray} {v1 v2 : Sl} {F : List ByteArray} (gH : Gr H0 H) (hs : text.size ≤ 1048576) (hvb : H0.n ≤ v1.b) (h1 : SL H v1 (words text)) (h2 : SL H v2 F) (hF : F.length = (words text).length) :
    Lt.Ok (r140_l2 (appA (k + 1)) FUEL v1 v2 ⟨true, 0, 0, 0, 0, 0⟩ (v1.cut 1 (1 : Int).toNat (v1.len : Int).toNat) ((v1.cut 1 (1 : Int).toNat (v1.len : Int).toNat).len : Int) 0 H) (WordsQ H0 text (chkR F.tail (words text).tail)) := by
  have hl1 := h1.len; have hl2 := h2.len
  have hwl := words_len text
  have e1 : v1.cut 1 (1 : Int).toNat ((v1.len : Int) : Int).toNat = v1.cut 1 1 v1.len := rfl
  rw [e1]
  have hcut : SL H (v1.cut 1 1 v1.len) (words text).tail := by
    have := SL.cut h1 (lo := 1) (hi := (words text).length) (by omega) (Nat.le_refl _)
    rw [List.take_of_length_le (by simp), List.drop_one] at this
    rw [hl1]; exact this
  have hcl : (v1.cut 1 1 v1.len).len = (words text).length - 1 := by rw [hcut.len]; simp
  rw [hcl]
  refine Lt.Ok.loop (L := fun K (t : Sl × Int) A => r140_l2 (appA (k + 1)) K v1 v2 t.1 (v1.cut 1 1 v1.len) (((words text).length - 1 : Nat) : Int) t.2 A) (fun m t A => ∃ (i : Nat) (done : List Int), t.2 = (i : Int) ∧ i + m = (words text).length - 1 ∧ Gr H A ∧ AccN H.n A t.1 done ∧ done.length ≤ i ∧ chkR F.tail (words text).tail = (chkR (F.drop (i + 1)) ((words text).drop (i + 1))).map (done ++ ·)) ?_ FUEL ((words text).length - 1) (⟨true, 0, 0, 0, 0, 0⟩, 0) H (by unfold FUEL; omega) ⟨0, [], rfl, by omega, .refl _, ⟨AccL.nilS, fun _ => rfl⟩, Nat.le_refl _, by
    rw [show F.drop (0 + 1) = F.tail from List.drop_one, show (words text).drop (0 + 1) = (words text).tail from List.drop_one]
    cases chkR F.tail (words text).tail <;> rfl⟩
  rintro K m ⟨a, i'⟩ A ⟨i, done, hi, him, g, ha, hdl, he⟩ ih
  dsimp only at *
  subst hi
  rw [r140_l2]
  refine Lt.Ok.ite (fun hlt => ?_) fun hlt => ?_
  · have hil : i + 1 < (words text).length := by omega
    have hit : i < (words text).tail.length := by simp; omega
    have hiF : i + 1 < F.length := by omega
    have etl : (words text).tail[i] = (words text)[i + 1] := by simp
    have hcA := hcut.gr g
    have h2A := h2.gr g
    have hsz : (words text)[i + 1].size ≤ 1048576 := by have := words_sz text _ (List.getElem_mem hil); omega
    refine Lt.Ok.ck ⟨by omega, by rw [hcl]; omega⟩ (Lt.Ok.ld (by rw [Int.toNat_natCast]; exact SL.ldStr hcA (i := i) (j := 0) (n := (words text)[i + 1]) hit (by rw [etl]; rfl)) ?_)
    refine is (number_ok hsz) ?_
    dsimp only
    rw [w64_succ (by omega)]
    have ld2 : A.ldStr v2.b (v2.o + (((i + 1 : Nat) : Int)).toNat * 1) = some F[i + 1] := SL.ldStr h2A (i := i + 1) (j := 0) (n := F[i + 1]) hiF rfl
    refine Lt.Ok.ck (by omega) (Lt.Ok.ld ld2 ?_)
    have hF1 : F.drop (i + 1) = F[i + 1] :: F.drop (i + 1 + 1) := List.drop_eq_getElem_cons hiF
    have hW1 : (words text).drop (i + 1) = (words text)[i + 1] :: (words text).drop (i + 1 + 1) := List.drop_eq_getElem_cons hil
    rw [hF1, hW1, chkR_cons] at he
    have fin : ∀ (b : Bool), (b = true ↔ ((strEq F[i + 1] bN = true ∧ isNameS (words text)[i + 1] = false) ∨ (strEq F[i + 1] b1 = true ∧ (numS (words text)[i + 1]).isNone))) →
        Lt.Ok (r140_j3 (appA (k + 1)) (fun v1_ v2_ v3_ v4_ v5_ v6_ H_ => r140_l2 (appA (k + 1)) K v1_ v2_ v3_ v4_ v5_ v6_ H_) v1 v2 a (i : Int) (numV (words text)[i + 1]).1 (v1.cut 1 1 v1.len) (((words text).length - 1 : Nat) : Int) (i : Int) b A) (WordsQ H0 text (chkR F.tail (words text).tail)) := by
      intro b hb
      unfold r140_j3
      refine Lt.Ok.ite (fun hbt => ?_) fun hbt => ?_
      · rw [if_pos (hb.1 hbt)] at he
        rw [he]
        exact Lt.Ok.ret ⟨gH.trans g, rfl⟩
      · have hbn := fun q => hbt (hb.2 q)
        rw [if_neg hbn] at he
        rw [w64_succ (by omega)]
        refine Lt.Ok.ck (by omega) (Lt.Ok.ld ld2 ?_)
        refine Lt.Ok.ite (fun h1' => ?_) fun h1' => ?_
        · have h1'' : strEq F[i + 1] b1 = true := h1'
          refine Lt.Ok.bind (AccN.push ha g.1 (numV (words text)[i + 1]).1 rfl rfl (by omega)) fun a' B ⟨k1, k2, k3, k4⟩ => ?_
          dsimp only
          refine ih (m - 1) (a', _) B (by omega) ⟨i + 1, done ++ [(numV (words text)[i + 1]).1], rfl, by omega, But.gr k2 ha.1 g, k1, by simp; omega, ?_⟩
          rw [he]
          have hv : (numV (words text)[i + 1]).1 = (numS (words text)[i + 1]).getD 0 := by
            unfold numV
            cases numS (words text)[i + 1] <;> rfl
          rw [hv]
          cases chkR (F.drop (i + 1 + 1)) ((words text).drop (i + 1 + 1)) with
          | none => rfl
          | some l => simp [h1'']
        · have h1'' : ¬ strEq F[i + 1] b1 = true := h1'
          refine ih (m - 1) (a, _) A (by omega) ⟨i + 1, done, rfl, by omega, g, ha, by omega, ?_⟩
          rw [he]
          cases chkR (F.drop (i + 1 + 1)) ((words text).drop (i + 1 + 1)) with
          | none => rfl
          | some l => simp [h1'']
    have numN : (!(numV (words text)[i + 1]).2) = true ↔ (numS (words text)[i + 1]).isNone = true := by
      unfold numV
      cases numS (words text)[i + 1] <;> simp
    refine Lt.Ok.ite (fun hN => ?_) fun hN => ?_
    · have hN' : strEq F[i + 1] bN = true := hN
      have hn1 : strEq F[i + 1] b1 = false := by
        rw [strEq_iff.1 hN']; decide +kernel
      refine is (name_okR hsz) ?_
      dsimp only
      refine Lt.Ok.ite (fun hnm => ?_) fun hnm => ?_
      · refine Lt.Ok.ck (by omega) (Lt.Ok.ld ld2 ?_)
        refine Lt.Ok.ite (fun h1' => ?_) fun h1' => ?_
        · have : strEq F[i + 1] b1 = true := h1'
          rw [hn1] at this; cases this
        · exact fin false (by simp [hnm, hn1])
      · have hnm' : isNameS (words text)[i + 1] = false := by simpa using hnm
        exact fin true (by simp [hN', hnm'])
    · have hN' : ¬ strEq F[i + 1] bN = true := hN
      refine Lt.Ok.ck (by omega) (Lt.Ok.ld ld2 ?_)
      refine Lt.Ok.ite (fun h1' => ?_) fun h1' => ?_
      · have h1'' : strEq F[i + 1] b1 = true := h1'
        refine fin _ ?_
        rw [numN]
        simp [hN', h1'']
      · have h1'' : ¬ strEq F[i + 1] b1 = true := h1'
        exact fin false (by simp [hN', h1''])
  · have hie : i = (words text).length - 1 := by omega
    rw [List.drop_of_length_le (by omega : (words text).length ≤ i + 1)] at he
    have : chkR (F.drop (i + 1)) [] = some [] := by cases F.drop (i + 1) <;> rfl
    rw [this] at he
    have he' : chkR F.tail (words text).tail = some done := by rw [he]; simp
    rw [he']
    exact Lt.Ok.ret ⟨gH.trans g, rfl, h1.gr g, ha.1.sl, hvb⟩
theorem words_okR {k : Nat} {H : Hp} {text forms : ByteArray} (hs : text.size ≤ 1048576) (hf : forms.size ≤ 1048576) (hw : ∀ f ∈ wordsC 59 forms, f.size ≤ 1000) (hl : (wordsC 59 forms).length ≤ 1000) :
    Lt.Ok (r140 (appA (k + 1)) text forms H) (WordsQ H text (wordsR text ((wordsC 59 forms).map words))) := by
  unfold r140
  refine Lt.Ok.bind (r52_ok hs) fun v1 A1 ⟨h1, _, hvb, g1⟩ => ?_
  dsimp only
  refine Lt.Ok.bind (r52_okC 59 hf) fun v3 A2 ⟨h3, _, _, g2⟩ => ?_
  dsimp only
  have hl3 := h3.len
  have gg := g1.trans g2
  have h1' := h1.gr g2
  refine Lt.Ok.loop (L := fun K (i : Int) A => r140_l0 (appA (k + 1)) K text v1 v3 (v3.len : Int) i A) (fun m i A => ∃ j : Nat, i = (j : Int) ∧ j + m = (wordsC 59 forms).length ∧ Gr A2 A ∧ wordsR text ((wordsC 59 forms).map words) = wordsR text (((wordsC 59 forms).drop j).map words)) ?_ FUEL (wordsC 59 forms).length 0 A2 (by unfold FUEL; omega) ⟨0, rfl, by omega, .refl _, rfl⟩
  rintro K m i A ⟨j, rfl, hj, g, he⟩ ih
  rw [r140_l0]
  refine Lt.Ok.ite (fun hlt => ?_) fun hlt => ?_
  · have hjl : j < (wordsC 59 forms).length := by omega
    refine Lt.Ok.ck (by omega) (Lt.Ok.ld (SL.ldStr (h3.gr g) (i := j) (j := 0) (n := (wordsC 59 forms)[j]) hjl rfl) ?_)
    have hfs := hw _ (List.getElem_mem hjl)
    rw [List.drop_eq_getElem_cons hjl, List.map_cons] at he
    generalize (wordsC 59 forms)[j] = f at hfs he ⊢
    refine Lt.Ok.bind (r52_ok (s := f) (by omega)) fun v4 B ⟨h4, _, _, g4⟩ => ?_
    dsimp only
    have hl4 := h4.len; have hwf := words_len f
    have h1B := (h1'.gr g).gr g4
    have hl1 := h1B.len; have hwt := words_len text
    obtain ⟨rf, hrf⟩ := words_head f
    obtain ⟨rt, hrt⟩ := words_head text
    refine Lt.Ok.ck (by omega) (Lt.Ok.ld (SL.ldStr h4 (i := 0) (j := 0) (n := wordS f) (by omega) (by simp [hrf]; rfl)) ?_)
    refine Lt.Ok.ck (by omega) (Lt.Ok.ld (SL.ldStr h1B (i := 0) (j := 0) (n := wordS text) (by omega) (by simp [hrt]; rfl)) ?_)
    have hhd : (words f).headD (ByteArray.mk #[]) = wordS f := by rw [hrf]; rfl
    have step : ∀ (b : Bool) (B' : Hp), Gr B B' → (b = false ↔ (strEq (wordS f) (wordS text) = true ∧ (words f).length = (words text).length ∧ isLineS text = true)) →
        Lt.Ok (r140_j1 (appA (k + 1)) (fun v1_ v2_ v3_ v4_ v5_ H_ => r140_l0 (appA (k + 1)) K v1_ v2_ v3_ v4_ v5_ H_) text v1 v4 v3 (v3.len : Int) (j : Int) b B') (WordsQ H text (wordsR text ((wordsC 59 forms).map words))) := by
      intro b B' gB hb
      unfold r140_j1
      rw [he]
      conv in wordsR text _ => unfold wordsR
      rw [hhd]
      refine Lt.Ok.ite (fun hbt => ?_) fun hbt => ?_
      · have hbn : ¬ _ := fun q => by have := hb.2 q; rw [hbt] at this; cases this
        rw [if_neg hbn, w64_succ (by omega)]
        refine (ih (m - 1) _ B' (by omega) ⟨j + 1, rfl, by omega, (g.trans g4).trans gB, ?_⟩).mono fun r C hr => ?_
        · rw [he]
          conv => lhs; unfold wordsR
          rw [hhd, if_neg hbn]
        · rw [he] at hr
          conv at hr => arg 3; unfold wordsR
          rw [hhd, if_neg hbn] at hr
          exact hr
      · have hbf := hb.1 (by simpa using hbt)
        rw [if_pos hbf]
        refine Lt.Ok.ck ⟨⟨by omega, by omega, by have := h1B.cap; omega⟩, by exact h1B.opn⟩ ?_
        exact chk_ok ((((gg).trans g).trans g4).trans gB) hs (Nat.le_of_eq hvb.symm) (h1B.gr gB) (h4.gr gB) hbf.2.1
    refine Lt.Ok.ite (fun hq => ?_) fun hq => ?_
    · refine Lt.Ok.ite (fun hle => ?_) fun hle => ?_
      · refine step true B (.refl _) ?_
        have : ¬ (words f).length = (words text).length := by omega
        simp [this]
      · refine Lt.Ok.bind (line_okR hs) fun r B' ⟨g5, hr⟩ => ?_
        dsimp only
        refine step _ B' g5 ?_
        have : (words f).length = (words text).length := by omega
        rw [hr]
        simp [this, hq]
    · refine step true B (.refl _) ?_
      simp [hq]
  · have : j = (wordsC 59 forms).length := by omega
    subst this
    rw [List.drop_length] at he
    have : wordsR text (([] : List ByteArray).map words) = none := rfl
    rw [he, this]
    exact Lt.Ok.ret ⟨gg.trans g, rfl⟩
end Go.Lt.P10
