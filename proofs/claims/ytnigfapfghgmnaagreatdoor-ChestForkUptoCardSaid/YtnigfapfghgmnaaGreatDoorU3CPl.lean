/- PLAIN LAWS OF WHAT IS COMPUTED, for the statement 'ChestFork'. Nothing is asked of the input. -/
import Derived.Test.YtnigfapfghgmnaaGreatDoorU3CSt
set_option linter.unusedVariables false
set_option linter.unusedSimpArgs false
namespace Go.Lt.P10
open Go Go.Lt Go.Proofs
/-- what is older is as it was -/
def Old (n0 : Nat) (A B : Hp) : Prop := A.n ≤ B.n ∧ ∀ c, c < n0 → B.get c = A.get c
theorem Old.refl (n0 : Nat) (A : Hp) : Old n0 A A := ⟨Nat.le_refl _, fun _ _ => rfl⟩
theorem Old.trans {n0 : Nat} {A B C : Hp} (h : Old n0 A B) (k : Old n0 B C) : Old n0 A C := ⟨Nat.le_trans h.1 k.1, fun c hc => (k.2 c hc).trans (h.2 c hc)⟩
theorem Old.of_gr {n0 : Nat} {A B : Hp} (g : Gr A B) (h : n0 ≤ A.n) : Old n0 A B := ⟨g.1, fun c hc => g.2 c (by omega)⟩
theorem AccN.push {T : Type} [El T] {n0 : Nat} {H : Hp} {v : Sl} {l : List T} (h : AccN n0 H v l) (hn : n0 ≤ H.n) (x : T) {es : Nat} {cs : List AV} (hes : es = El.sz T) (hcs : cs = El.enc x) (hb : l.length < 4294967296) :
    Lt.Ok (H.apN es v cs 1) fun v' H' => AccN n0 H' v' (l ++ [x]) ∧ But v H H' ∧ (v' = v ∨ H.n ≤ v'.b) ∧ v'.nil = false :=
  (AccL.push0 h.1 hn x hes hcs hb).mono fun v' H' ⟨a, b, c, d⟩ => ⟨⟨a, fun e => by simp at e⟩, b, c, d⟩
section
variable {α : Type} {Q : α → Hp → Prop} {A : Hp} {n0 b : Nat} {s : St} {v1 v2 v3 : Sl}
theorem StO.push1 (h : StO A n0 b s v1 v2 v3) (hn : n0 ≤ A.n) (x : ByteArray) (n : Int) (hb : s.leaves.length < 4294967296) {f : Hp → Option (α × Hp)}
    (k : ∀ A' v1', StO A' n0 b { s with leaves := s.leaves ++ [(x, n)] } v1' v2 v3 → Old n0 A A' → Lt.Ok (f A') Q) : Lt.Ok ((A.apN 2 v1 [.str x, .int .i64 n] 1).bind fun y => (y.2.st b (0 + 0) (.sl y.1)).bind f) Q := by
  refine Lt.Ok.bind (AccN.push h.a1 hn (x, n) rfl rfl hb) fun v1' A1 ⟨h1, h2, h3, h4⟩ => ?_
  have hlt := Hp.get_lt h.get
  have hg : A1.get b = _ := (h2.2 b hlt fun q => (h.b1 q).symm).trans h.get
  have hm := h2.1
  refine Lt.Ok.st hg (by simp [stCells]) fun A' e hg' => ?_
  subst e
  have oth : ∀ c, c ≠ b → (A1.set b (.cells ((stCells v1 v2 v3 s).set (0 + 0) (.sl v1')) false)).get c = A1.get c := fun c hc => Hp.get_set_other _ _ hc
  have v1b : v1'.b ≠ b := by
    rcases h3 with rfl | h3
    · exact h.b1 h4
    · omega
  have lo := h.lo
  refine k _ v1' ⟨hg', h.lo, h1.keep fun q => oth _ v1b, h.a2.keep fun q => ?_, h.a3.keep fun q => ?_, fun _ => v1b, h.b2, h.b3, fun q q2 => ?_, fun q q2 => ?_, h.d23⟩ ⟨by simp; omega, fun c hc => ?_⟩
  · rw [oth _ (h.b2 q), h2.2 _ (Acc.lt h.a2.1 q) fun q1 => (h.d12 q1 q).symm]
  · rw [oth _ (h.b3 q), h2.2 _ (Acc.lt h.a3.1 q) fun q1 => (h.d13 q1 q).symm]
  · have := Acc.lt h.a2.1 q2
    rcases h3 with rfl | h3
    · exact h.d12 h4 q2
    · omega
  · have := Acc.lt h.a3.1 q2
    rcases h3 with rfl | h3
    · exact h.d13 h4 q2
    · omega
  · rw [oth _ (by omega), h2.2 c (by omega) fun q => by have := Acc.ge h.a1.1 q; omega]
theorem StO.push2 (h : StO A n0 b s v1 v2 v3) (hn : n0 ≤ A.n) (n : Int) (hb : s.orders.length < 4294967296) {f : Hp → Option (α × Hp)}
    (k : ∀ A' v2', StO A' n0 b { s with orders := s.orders ++ [n] } v1 v2' v3 → Old n0 A A' → Lt.Ok (f A') Q) : Lt.Ok ((A.apN 1 v2 [.int .i64 n] 1).bind fun y => (y.2.st b (0 + 1) (.sl y.1)).bind f) Q := by
  refine Lt.Ok.bind (AccN.push h.a2 hn n rfl rfl hb) fun v2' A1 ⟨h1, h2, h3, h4⟩ => ?_
  have hlt := Hp.get_lt h.get
  have hg : A1.get b = _ := (h2.2 b hlt fun q => (h.b2 q).symm).trans h.get
  have hm := h2.1
  refine Lt.Ok.st hg (by simp [stCells]) fun A' e hg' => ?_
  subst e
  have oth : ∀ c, c ≠ b → (A1.set b (.cells ((stCells v1 v2 v3 s).set (0 + 1) (.sl v2')) false)).get c = A1.get c := fun c hc => Hp.get_set_other _ _ hc
  have v2b : v2'.b ≠ b := by
    rcases h3 with rfl | h3
    · exact h.b2 h4
    · omega
  have lo := h.lo
  refine k _ v2' ⟨hg', h.lo, h.a1.keep fun q => ?_, h1.keep fun q => oth _ v2b, h.a3.keep fun q => ?_, h.b1, fun _ => v2b, h.b3, fun q q2 => ?_, h.d13, fun q q2 => ?_⟩ ⟨by simp; omega, fun c hc => ?_⟩
  · rw [oth _ (h.b1 q), h2.2 _ (Acc.lt h.a1.1 q) fun q1 => (h.d12 q q1)]
  · rw [oth _ (h.b3 q), h2.2 _ (Acc.lt h.a3.1 q) fun q1 => (h.d23 q1 q).symm]
  · have := Acc.lt h.a1.1 q
    rcases h3 with rfl | h3
    · exact h.d12 q h4
    · omega
  · have := Acc.lt h.a3.1 q2
    rcases h3 with rfl | h3
    · exact h.d23 h4 q2
    · omega
  · rw [oth _ (by omega), h2.2 c (by omega) fun q => by have := Acc.ge h.a2.1 q; omega]
theorem StO.push3 (h : StO A n0 b s v1 v2 v3) (hn : n0 ≤ A.n) (x y : Int) (hb : s.offers.length < 4294967296) {f : Hp → Option (α × Hp)}
    (k : ∀ A' v3', StO A' n0 b { s with offers := s.offers ++ [(x, y)] } v1 v2 v3' → Old n0 A A' → Lt.Ok (f A') Q) : Lt.Ok ((A.apN 2 v3 [.int .i64 x, .int .i64 y] 1).bind fun y => (y.2.st b (0 + 6) (.sl y.1)).bind f) Q := by
  refine Lt.Ok.bind (AccN.push h.a3 hn (x, y) rfl rfl hb) fun v3' A1 ⟨h1, h2, h3, h4⟩ => ?_
  have hlt := Hp.get_lt h.get
  have hg : A1.get b = _ := (h2.2 b hlt fun q => (h.b3 q).symm).trans h.get
  have hm := h2.1
  refine Lt.Ok.st hg (by simp [stCells]) fun A' e hg' => ?_
  subst e
  have oth : ∀ c, c ≠ b → (A1.set b (.cells ((stCells v1 v2 v3 s).set (0 + 6) (.sl v3')) false)).get c = A1.get c := fun c hc => Hp.get_set_other _ _ hc
  have v3b : v3'.b ≠ b := by
    rcases h3 with rfl | h3
    · exact h.b3 h4
    · omega
  have lo := h.lo
  refine k _ v3' ⟨hg', h.lo, h.a1.keep fun q => ?_, h.a2.keep fun q => ?_, h1.keep fun q => oth _ v3b, h.b1, h.b2, fun _ => v3b, h.d12, fun q q2 => ?_, fun q q2 => ?_⟩ ⟨by simp; omega, fun c hc => ?_⟩
  · rw [oth _ (h.b1 q), h2.2 _ (Acc.lt h.a1.1 q) fun q1 => (h.d13 q q1)]
  · rw [oth _ (h.b2 q), h2.2 _ (Acc.lt h.a2.1 q) fun q1 => (h.d23 q q1)]
  · have := Acc.lt h.a1.1 q
    rcases h3 with rfl | h3
    · exact h.d13 q h4
    · omega
  · have := Acc.lt h.a2.1 q
    rcases h3 with rfl | h3
    · exact h.d23 q h4
    · omega
  · rw [oth _ (by omega), h2.2 c (by omega) fun q => by have := Acc.ge h.a3.1 q; omega]
/-- a number of the state's own block -/
theorem StO.putT (h : StO A n0 b s v1 v2 v3) {o : Nat} {n : Int} {s' : St} (e : (stCells v1 v2 v3 s).set o (.int .i64 n) = stCells v1 v2 v3 s') (e1 : s'.leaves = s.leaves) (e2 : s'.orders = s.orders) (e3 : s'.offers = s.offers) (ho : o < 7) {f : Hp → Option (α × Hp)}
    (k : ∀ A', StO A' n0 b s' v1 v2 v3 → Old n0 A A' → Lt.Ok (f A') Q) : Lt.Ok ((A.st b o (.int .i64 n)).bind f) Q := by
  refine Lt.Ok.st h.get (by simp [stCells]; omega) fun A' e' hg' => ?_
  subst e'
  have oth : ∀ c, c ≠ b → (A.set b (.cells ((stCells v1 v2 v3 s).set o (.int .i64 n)) false)).get c = A.get c := fun c hc => Hp.get_set_other _ _ hc
  have lo := h.lo
  refine k _ ⟨by rw [hg', e], h.lo, ?_, ?_, ?_, h.b1, h.b2, h.b3, h.d12, h.d13, h.d23⟩ ⟨by simp, fun c hc => oth _ (by omega)⟩
  · rw [e1]; exact h.a1.keep fun q => oth _ (h.b1 q)
  · rw [e2]; exact h.a2.keep fun q => oth _ (h.b2 q)
  · rw [e3]; exact h.a3.keep fun q => oth _ (h.b3 q)
theorem encs_leaf : ∀ (l : List (ByteArray × Int)) (i : Nat) (n : Int), i < l.length → (encs l).set (i * 2 + 1) (.int .i64 n) = encs (l.modify i fun x => (x.1, n))
  | [], i, n, h => by simp at h
  | (x, m) :: l, 0, n, h => rfl
  | (x, m) :: l, i + 1, n, h => by
    rw [encs_cons, show (El.enc (x, m) : List AV) = [.str x, .int .i64 m] from rfl, List.modify_succ_cons, encs_cons, show (El.enc (x, m) : List AV) = [.str x, .int .i64 m] from rfl, ← encs_leaf l i n (by simpa using h)]
    rw [show (i + 1) * 2 + 1 = (i * 2 + 1) + 2 by omega]
    rfl
/-- a stock -/
theorem StO.putS (h : StO A n0 b s v1 v2 v3) {i : Nat} (n : Int) (hi : i < s.leaves.length) {f : Hp → Option (α × Hp)}
    (k : ∀ A', StO A' n0 b (setStock s i n) v1 v2 v3 → Old n0 A A' → Only v1.b A A' → Lt.Ok (f A') Q) : Lt.Ok ((A.st v1.b (v1.o + i * 2 + 1) (.int .i64 n)).bind f) Q := by
  have hnil : v1.nil = false := h.a1.1.sl.nonnil fun e => by rw [e] at hi; simp at hi
  obtain ⟨q1, q2, q3, q4, q5, q6, q7⟩ : v1.nil = false ∧ v1.o = 0 ∧ v1.opn = 2 ∧ v1.cap = v1.len ∧ n0 ≤ v1.b ∧ A.get v1.b = some (.cells (encs s.leaves) false) ∧ (encs s.leaves).length = v1.len * 2 := by
    rcases h.a1.1 with ⟨e, _⟩ | q
    · rw [e] at hnil; cases hnil
    · exact q
  have hl := h.a1.1.len
  rw [q2, Nat.zero_add]
  refine Lt.Ok.st q6 (by omega) fun A' e hg' => ?_
  subst e
  have hg2 : (A.set v1.b (.cells ((encs s.leaves).set (i * 2 + 1) (.int .i64 n)) false)).get v1.b = some (.cells (encs (setStock s i n).leaves) false) := by rw [hg', encs_leaf _ _ _ hi]; rfl
  have oth : ∀ c, c ≠ v1.b → (A.set v1.b (.cells ((encs s.leaves).set (i * 2 + 1) (.int .i64 n)) false)).get c = A.get c := fun c hc => Hp.get_set_other _ _ hc
  have hb1 := h.b1 hnil
  refine k _ ⟨by rw [oth _ hb1.symm]; exact h.get, h.lo, ⟨.inr ⟨q1, q2, q3, q4, q5, hg2, by rw [encs_len, hl]; simp [setStock]⟩, fun e => ?_⟩, h.a2.keep fun q => oth _ (h.d12 hnil q).symm, h.a3.keep fun q => oth _ (h.d13 hnil q).symm, h.b1, h.b2, h.b3, h.d12, h.d13, h.d23⟩ ⟨by simp, fun c hc => oth _ (by omega)⟩ ⟨by simp, fun c _ hc => oth _ hc⟩
  exfalso
  have e1 : ({ s with leaves := s.leaves.modify i fun l => (l.1, n) } : St).leaves = [] := e
  have : (s.leaves.modify i fun l => (l.1, n)).length = 0 := by rw [show (s.leaves.modify i fun l => (l.1, n)) = [] from e1]; rfl
  rw [List.length_modify] at this
  omega
end
/-- what an act comes to -/
def ActQ (n0 b : Nat) (H : Hp) (a : Act) (e : Int) (H' : Hp) : Prop :=
  Old n0 H H' ∧ match a with
    | .inl x => e = x ∧ x ≠ 0
    | .inr s' => e = 0 ∧ ∃ v1 v2 v3, StO H' n0 b s' v1 v2 v3
theorem fst_of_one {T : Type} [El T] {H : Hp} {w : Sl} {x : T} {l : List T} (h : SL H w (x :: l)) : (0 : Int) ≤ 0 ∧ 0 < (w.len : Int) := by
  have := h.len
  simp at this
  omega
theorem leaf_ok {k : Nat} {H : Hp} {n0 b : Nat} {s : St} {v1 v2 v3 wn wu : Sl} {a : ByteArray} {n : Int} (h : StO H n0 b s v1 v2 v3) (hs : s.Ok) (hn : n0 ≤ H.n) (hna : SL H wn [a]) (hnu : SL H wu [n]) :
    Lt.Ok (r44 (appA (k + 1)) b 0 wn wu H) (ActQ n0 b H (leafS s a n)) := by
  unfold r44
  refine Lt.Ok.lt ?_
  have g0 := Gr.push H (.cells [.sl wn, .sl wu] false)
  have hl0 := Hp.get_push_new H (.cells [.sl wn, .sl wu] false)
  have l6 := hs.l6
  refine Lt.Ok.ld (ldSl_get hl0 rfl) (Lt.Ok.ck (fst_of_one hna) (Lt.Ok.ld (SL.ldStr (hna.gr g0) (i := 0) (j := 0) (n := a) (by simp) rfl) ?_))
  refine Lt.Ok.bind (r75_ok (k := k) (h.gr g0).get (h.gr g0).a1.1.sl (by omega) a) fun r A ⟨g, e⟩ => ?_
  subst e
  have gA := g0.trans g
  have hA := h.gr gA
  have hlA := (g.2 _ (Hp.get_lt hl0)).trans hl0
  have old := Old.of_gr (n0 := n0) gA hn
  unfold leafS
  dsimp only
  refine Lt.Ok.ite (fun hc => Lt.Ok.ret ⟨old, ?_⟩) fun hc => ?_
  · rw [if_pos (idxI_nonneg.1 hc)]; exact ⟨rfl, by decide⟩
  rw [if_neg fun q => hc (idxI_nonneg.2 q)]
  refine Lt.Ok.ld (ldSl_get hlA rfl) (Lt.Ok.ck (fst_of_one hnu) (Lt.Ok.ld ((hnu.gr gA).ldI (i := 0) (j := 0) (n := n) (by simp) rfl) ?_))
  refine Lt.Ok.ite (fun hc => Lt.Ok.ret ⟨old, ?_⟩) fun hc => ?_
  · rw [if_pos hc]; exact ⟨rfl, by decide⟩
  rw [if_neg hc]
  have hlen := hA.a1.1.len
  refine Lt.Ok.ld (ldSl_get hA.get rfl) (Lt.Ok.ite (fun hc => Lt.Ok.ret ⟨old, ?_⟩) fun hc => ?_)
  · rw [if_pos (by omega)]; exact ⟨rfl, by decide⟩
  rw [if_neg (by omega)]
  refine Lt.Ok.ld (ldSl_get hA.get rfl) (Lt.Ok.ld (ldSl_get hlA rfl) (Lt.Ok.ck (fst_of_one hna) (Lt.Ok.ld (SL.ldStr (hna.gr gA) (i := 0) (j := 0) (n := a) (by simp) rfl) (Lt.Ok.ld (ldSl_get hlA rfl) (Lt.Ok.ck (fst_of_one hnu) (Lt.Ok.ld ((hnu.gr gA).ldI (i := 0) (j := 0) (n := n) (by simp) rfl) ?_))))))
  have := gA.1
  exact hA.push1 (by omega) a n (by omega) fun A' v1' h' o' => Lt.Ok.ret ⟨old.trans o', rfl, _, _, _, h'⟩
theorem find_lt {s : St} {a : ByteArray} {i : Nat} (h : s.find a = some i) : i < s.leaves.length := (List.findIdx?_eq_some_iff_getElem.1 h).1
theorem stock_eq {s : St} {i : Nat} (h : i < s.leaves.length) : stock s i = s.leaves[i].2 := by
  unfold stock; rw [List.getD_eq_getElem?_getD, List.getElem?_eq_getElem h]; rfl
theorem stock_rng {s : St} (hs : s.Ok) {i : Nat} (h : i < s.leaves.length) : 0 ≤ stock s i ∧ stock s i ≤ 20 := by rw [stock_eq h]; exact hs.st _ (List.getElem_mem h)
theorem order_ok {k : Nat} {H : Hp} {n0 b : Nat} {s : St} {v1 v2 v3 wn wu : Sl} {a : ByteArray} (h : StO H n0 b s v1 v2 v3) (hs : s.Ok) (hn : n0 ≤ H.n) (hna : SL H wn [a]) :
    Lt.Ok (r46 (appA (k + 1)) b 0 wn wu H) (ActQ n0 b H (orderS s a)) := by
  unfold r46
  refine Lt.Ok.lt ?_
  have g0 := Gr.push H (.cells [.sl wn, .sl wu] false)
  have hl0 := Hp.get_push_new H (.cells [.sl wn, .sl wu] false)
  have l6 := hs.l6
  have o40 := hs.o40
  refine Lt.Ok.ld (ldSl_get hl0 rfl) (Lt.Ok.ck (fst_of_one hna) (Lt.Ok.ld (SL.ldStr (hna.gr g0) (i := 0) (j := 0) (n := a) (by simp) rfl) ?_))
  refine Lt.Ok.bind (r75_ok (k := k) (h.gr g0).get (h.gr g0).a1.1.sl (by omega) a) fun r A ⟨g, e⟩ => ?_
  subst e
  have gA := g0.trans g
  have hA := h.gr gA
  have old := Old.of_gr (n0 := n0) gA hn
  unfold orderS
  dsimp only
  cases hf : s.find a with
  | none => exact Lt.Ok.pos (by decide) (Lt.Ok.ret ⟨old, rfl, by decide⟩)
  | some i =>
    have hi := find_lt hf
    have hl1 := hA.a1.1.len
    have hl2 := hA.a2.1.len
    refine Lt.Ok.neg (by simp [idxI]) (Lt.Ok.ld (ldSl_get hA.get rfl) (Lt.Ok.ck (by simp only [idxI]; omega) ?_))
    have hst : A.ldI .i64 v1.b ((v1.o + (idxI (some i)).toNat * 2) + 1) = some (stock s i) := by
      rw [stock_eq hi]
      exact hA.a1.1.sl.ldI (i := i) (j := 1) hi rfl
    refine Lt.Ok.ld hst ?_
    dsimp only
    refine Lt.Ok.ite (fun hc => Lt.Ok.ret ⟨old, ?_⟩) fun hc => ?_
    · rw [if_pos hc]; exact ⟨rfl, by decide⟩
    rw [if_neg hc]
    refine Lt.Ok.ld (ldSl_get hA.get rfl) (Lt.Ok.ite (fun hc => Lt.Ok.ret ⟨old, ?_⟩) fun hc => ?_)
    · rw [if_pos (by omega)]; exact ⟨rfl, by decide⟩
    rw [if_neg (by omega)]
    have hr := stock_rng hs hi
    refine Lt.Ok.ld (ldSl_get hA.get rfl) (Lt.Ok.ck (by simp only [idxI]; omega) (Lt.Ok.ld hst (Lt.Ok.ck (by simp only [idxI]; omega) ?_)))
    rw [show w64 (stock s i - 1) = stock s i - 1 from w64_id (by omega) (by omega)]
    have := gA.1
    refine hA.putS (i := i) _ hi fun A1 h1 o1 _ => ?_
    refine Lt.Ok.ld (ldSl_get h1.get rfl) ?_
    have := o1.1
    exact h1.push2 (by omega) _ (by show s.orders.length < _; omega) fun A2 v2' h2 o2 => Lt.Ok.ret ⟨(old.trans o1).trans o2, rfl, _, _, _, h2⟩
theorem taste_ok {H : Hp} {n0 b : Nat} {s : St} {v1 v2 v3 wn wu : Sl} {i j : Int} (h : StO H n0 b s v1 v2 v3) (hs : s.Ok) (hn : n0 ≤ H.n) (hnu : SL H wu [i, j]) (hi : 0 ≤ i) (hj : 0 ≤ j) :
    Lt.Ok (r47 b 0 wn wu H) (ActQ n0 b H (tasteS s i j)) := by
  unfold r47
  refine Lt.Ok.lt ?_
  have g0 := Gr.push H (.cells [.sl wn, .sl wu] false)
  have hl0 := Hp.get_push_new H (.cells [.sl wn, .sl wu] false)
  have hB := h.gr g0
  have hlu := hnu.len
  simp only [List.length_cons, List.length_nil] at hlu
  refine Lt.Ok.ld (ldSl_get hl0 rfl) (Lt.Ok.ck (by omega) (Lt.Ok.ld ((hnu.gr g0).ldI (i := 0) (j := 0) (n := i) (by simp) rfl) ?_))
  refine Lt.Ok.ld (ldSl_get hl0 rfl) (Lt.Ok.ck (by omega) (Lt.Ok.ld ((hnu.gr g0).ldI (i := 1) (j := 0) (n := j) (by simp) rfl) ?_))
  refine Lt.Ok.ld (ldI_get hB.get rfl) (Lt.Ok.ld (ldI_get hB.get rfl) (Lt.Ok.ld (ldI_get hB.get rfl) (Lt.Ok.ld (ldI_get hB.get rfl) ?_)))
  obtain ⟨K, hK⟩ : ∃ K, FUEL = K + 3 := ⟨FUEL - 3, by unfold FUEL; omega⟩
  rw [hK]
  obtain ⟨t0, t1, t2, t3, ts⟩ := hs.ts
  have round : ∀ (K : Nat) (A : Hp) (sum : Int) (q : Nat) (x y : Int) (Q : Int → Hp → Prop), Gr H A → q < 2 → apart true 2 [.int .i64 s.t0, .int .i64 s.t1, .int .i64 s.t2, .int .i64 s.t3] (q * 2) = some (.agg [.int .i64 x, .int .i64 y]) →
      (∀ A', Gr H A' → Lt.Ok (r47_l0 K b 0 i j (w64 (sum + w64 (x + y))) s.t0 s.t1 s.t2 s.t3 ((q + 1 : Nat) : Int) A') Q) → Lt.Ok (r47_l0 (K + 1) b 0 i j sum s.t0 s.t1 s.t2 s.t3 (q : Int) A) Q := by
    intro K A sum q x y Q gA hq hap kk
    rw [r47_l0]
    refine Lt.Ok.pos (by omega) (Lt.Ok.ck (by omega) (Lt.Ok.ld hap (Lt.Ok.ld rfl (Lt.Ok.ck rfl (Lt.Ok.ld rfl (Lt.Ok.ld rfl (Lt.Ok.ld rfl (Lt.Ok.ld rfl ?_))))))))
    obtain ⟨A2, h1, h2, h3, h4⟩ := sts_blk [.int .i64 x, .int .i64 y] 0 (A.push (.cells [.int .i64 0, .int .i64 0] false)) _ (Hp.get_push_new _ _) (by simp)
    have h2' : A2.get A.n = some (.cells [.int .i64 x, .int .i64 y] false) := by rw [h2]; simp
    refine Lt.Ok.ld h1 (Lt.Ok.ld (ldI_get h2' rfl) (Lt.Ok.ld (ldI_get h2' rfl) ?_))
    rw [w64_succ (by omega)]
    exact kk A2 (gA.trans ⟨by rw [h3]; simp, fun c hc => by rw [h4 c (by omega), Hp.get_push_old _ _ hc]⟩)
  refine round _ _ 0 0 s.t0 s.t1 _ g0 (by omega) rfl fun A1 gA1 => ?_
  refine round _ _ _ 1 s.t2 s.t3 _ gA1 (by omega) rfl fun A2 gA2 => ?_
  have e1 : w64 (0 + w64 (s.t0 + s.t1)) = s.t0 + s.t1 := by rw [w64_id (n := s.t0 + s.t1) (by omega) (by omega), Int.zero_add, w64_id (by omega) (by omega)]
  have e2 : w64 (s.t0 + s.t1 + w64 (s.t2 + s.t3)) = s.t0 + s.t1 + (s.t2 + s.t3) := by rw [w64_id (n := s.t2 + s.t3) (by omega) (by omega), w64_id (by omega) (by omega)]
  rw [e1, e2, r47_l0]
  refine Lt.Ok.neg (by omega) ?_
  have hA := h.gr gA2
  have old := Old.of_gr (n0 := n0) gA2 hn
  unfold tasteS
  have fin : ¬ (1 < i ∨ 1 < j) → Lt.Ok (r47_j1 b 0 i j (s.t0 + s.t1 + (s.t2 + s.t3)) false A2) (ActQ n0 b H (if 1 < i ∨ 1 < j then .inl 2 else if s.t0 + s.t1 + (s.t2 + s.t3) = 16 then .inl 7
  else .inr (if i = 0 then if j = 0 then { s with t0 := s.t0 + 1 } else { s with t1 := s.t1 + 1 } else if j = 0 then { s with t2 := s.t2 + 1 } else { s with t3 := s.t3 + 1 }))) := by
    intro hno
    rw [if_neg hno]
    unfold r47_j1
    refine Lt.Ok.neg (by simp) (Lt.Ok.ite (fun hc => Lt.Ok.ret ⟨old, ?_⟩) fun hc => ?_)
    · rw [if_pos hc]; exact ⟨rfl, by decide⟩
    rw [if_neg hc]
    have hi1 : i = 0 ∨ i = 1 := by omega
    have hj1 : j = 0 ∨ j = 1 := by omega
    rcases hi1 with rfl | rfl <;> rcases hj1 with rfl | rfl
    · refine Lt.Ok.ck (by decide) (Lt.Ok.ck (by decide) (Lt.Ok.ld (ldI_get hA.get (n := s.t0) rfl) (Lt.Ok.ck (by decide) (Lt.Ok.ck (by decide) ?_))))
      rw [w64_id (by omega) (by omega)]
      exact hA.putT (s' := { s with t0 := s.t0 + 1 }) rfl rfl rfl rfl (by decide) fun A3 h3 o3 => Lt.Ok.ret ⟨old.trans o3, rfl, _, _, _, h3⟩
    · refine Lt.Ok.ck (by decide) (Lt.Ok.ck (by decide) (Lt.Ok.ld (ldI_get hA.get (n := s.t1) rfl) (Lt.Ok.ck (by decide) (Lt.Ok.ck (by decide) ?_))))
      rw [w64_id (by omega) (by omega)]
      exact hA.putT (s' := { s with t1 := s.t1 + 1 }) rfl rfl rfl rfl (by decide) fun A3 h3 o3 => Lt.Ok.ret ⟨old.trans o3, rfl, _, _, _, h3⟩
    · refine Lt.Ok.ck (by decide) (Lt.Ok.ck (by decide) (Lt.Ok.ld (ldI_get hA.get (n := s.t2) rfl) (Lt.Ok.ck (by decide) (Lt.Ok.ck (by decide) ?_))))
      rw [w64_id (by omega) (by omega)]
      exact hA.putT (s' := { s with t2 := s.t2 + 1 }) rfl rfl rfl rfl (by decide) fun A3 h3 o3 => Lt.Ok.ret ⟨old.trans o3, rfl, _, _, _, h3⟩
    · refine Lt.Ok.ck (by decide) (Lt.Ok.ck (by decide) (Lt.Ok.ld (ldI_get hA.get (n := s.t3) rfl) (Lt.Ok.ck (by decide) (Lt.Ok.ck (by decide) ?_))))
      rw [w64_id (by omega) (by omega)]
      exact hA.putT (s' := { s with t3 := s.t3 + 1 }) rfl rfl rfl rfl (by decide) fun A3 h3 o3 => Lt.Ok.ret ⟨old.trans o3, rfl, _, _, _, h3⟩
  refine Lt.Ok.ite (fun hc => ?_) fun hc => ?_
  · unfold r47_j1
    exact Lt.Ok.pos rfl (Lt.Ok.ret ⟨old, by rw [if_pos (.inl hc)]; exact ⟨rfl, by decide⟩⟩)
  · by_cases hc2 : 1 < j
    · rw [decide_eq_true hc2]
      unfold r47_j1
      exact Lt.Ok.pos rfl (Lt.Ok.ret ⟨old, by rw [if_pos (.inr hc2)]; exact ⟨rfl, by decide⟩⟩)
    · rw [decide_eq_false hc2]
      exact fin (by omega)
theorem keqs2 (a b c d : Int) : AV.keqs [.int .i64 a, .int .i64 b] [.int .i64 c, .int .i64 d] = decide ((c, d) = (a, b)) := by
  simp only [AV.keqs, AV.keq1, Bool.and_true]
  rw [Bool.eq_iff_iff]
  simp only [Bool.and_eq_true, decide_eq_true_eq, beq_iff_eq, Prod.mk.injEq]
  constructor
  · rintro ⟨h1, h2⟩; simp_all
  · rintro ⟨h1, h2⟩; simp_all
theorem r106_ok {H : Hp} {v : Sl} {l : List (Int × Int)} (h : SL H v l) (hb : l.length ≤ 1048577) (x y : Int) : Lt.Ok (r106 v x y H) fun r H' => Gr H H' ∧ r = idxI (l.findIdx? fun p => decide (p = (x, y))) := by
  unfold r106
  refine Lt.Ok.lt ?_
  have g0 := Gr.push H (.cells [.int .i64 x, .int .i64 y] false)
  have hn := Hp.get_push_new H (.cells [.int .i64 x, .int .i64 y] false)
  have h := h.gr g0
  have hl := h.len
  refine (idx_ok (L := fun K i A => r106_l0 K v H.n (v.len : Int) i A) (l := l) (fun p => decide (p = (x, y))) (by omega) (fun K i A Q hi g k1 k2 => ?_) fun K A Q g k => ?_).mono fun r A ⟨g, e⟩ => ⟨g0.trans g, e⟩
  · rw [r106_l0]
    have hn' := (g.2 _ (Hp.get_lt hn)).trans hn
    have q1 : A.ldI .i64 v.b (v.o + ((i : Int)).toNat * 2) = some l[i].1 := (h.gr g).ldI (i := i) (j := 0) hi rfl
    have q2 : A.ldI .i64 v.b ((v.o + ((i : Int)).toNat * 2) + 1) = some l[i].2 := (h.gr g).ldI (i := i) (j := 1) hi rfl
    refine Lt.Ok.pos (by omega) (Lt.Ok.ld (ldI_get hn' rfl) (Lt.Ok.ld (ldI_get hn' rfl) (Lt.Ok.ck (by omega) (Lt.Ok.ld q1 (Lt.Ok.ld q2 ?_)))))
    rw [keqs2, w64_succ (by omega)]
    exact Lt.Ok.ite (fun h => Lt.Ok.ret (k1 A (.refl _) h)) fun h => k2 A (.refl _) (by simpa only [Bool.not_eq_true] using h)
  · rw [r106_l0]
    exact Lt.Ok.neg (by omega) (Lt.Ok.ret k)
theorem r78_ok {H : Hp} {v : Sl} {l : List (Int × Int)} (h : SL H v l) (hb : l.length ≤ 1048577) (x y : Int) : Lt.Ok (r78 v x y H) fun r H' => Gr H H' ∧ r = decide ((x, y) ∈ l) := by
  unfold r78
  refine Lt.Ok.lt ?_
  have g0 := Gr.push H (.cells [.int .i64 x, .int .i64 y] false)
  have hn := Hp.get_push_new H (.cells [.int .i64 x, .int .i64 y] false)
  refine Lt.Ok.ld (ldI_get hn rfl) (Lt.Ok.ld (ldI_get hn rfl) (Lt.Ok.bind (r106_ok (h.gr g0) hb x y) fun r A ⟨g, e⟩ => Lt.Ok.ret ⟨g0.trans g, ?_⟩))
  subst e
  rw [decide_eq_decide]
  dsimp only
  rw [idxI_nonneg, findIdx_any, List.any_eq_true]
  constructor
  · rintro ⟨p, hp, e⟩
    simp only [decide_eq_true_eq] at e
    subst e; exact hp
  · intro hp
    exact ⟨_, hp, by simp⟩
theorem offer_ok {H : Hp} {n0 b : Nat} {s : St} {v1 v2 v3 wn wu : Sl} {i j : Int} (h : StO H n0 b s v1 v2 v3) (hs : s.Ok) (hn : n0 ≤ H.n) (hnu : SL H wu [i, j]) :
    Lt.Ok (r48 b 0 wn wu H) (ActQ n0 b H (offerS s i j)) := by
  unfold r48
  refine Lt.Ok.lt ?_
  have g0 := Gr.push H (.cells [.sl wn, .sl wu] false)
  have hl0 := Hp.get_push_new H (.cells [.sl wn, .sl wu] false)
  have hB := h.gr g0
  have hlu := hnu.len
  have f8 := hs.f8
  simp only [List.length_cons, List.length_nil] at hlu
  refine Lt.Ok.ld (ldSl_get hl0 rfl) (Lt.Ok.ck (by omega) (Lt.Ok.ld ((hnu.gr g0).ldI (i := 0) (j := 0) (n := i) (by simp) rfl) ?_))
  refine Lt.Ok.ld (ldSl_get hl0 rfl) (Lt.Ok.ck (by omega) (Lt.Ok.ld ((hnu.gr g0).ldI (i := 1) (j := 0) (n := j) (by simp) rfl) ?_))
  generalize hB1 : H.push (.cells [.sl wn, .sl wu] false) = B at *
  obtain ⟨A2, h1, h2, h3, h4⟩ := sts_blk [.int .i64 i, .int .i64 j] 0 (B.push (.cells [.int .i64 0, .int .i64 0] false)) _ (Hp.get_push_new _ _) (by simp)
  have h2' : A2.get B.n = some (.cells [.int .i64 i, .int .i64 j] false) := by rw [h2]; simp
  have gA2 : Gr H A2 := g0.trans ⟨by rw [h3]; simp, fun c hc => by rw [h4 c (by omega), Hp.get_push_old _ _ hc]⟩
  have hA2 := h.gr gA2
  refine Lt.Ok.ld h1 (Lt.Ok.ld (ldSl_get hA2.get rfl) (Lt.Ok.ld (ldI_get h2' rfl) (Lt.Ok.ld (ldI_get h2' rfl) ?_)))
  refine Lt.Ok.bind (r78_ok hA2.a3.1.sl (by omega) i j) fun r A ⟨g, e⟩ => ?_
  have gA := gA2.trans g
  have hA := h.gr gA
  have hp := (g.2 _ (Hp.get_lt h2')).trans h2'
  have old := Old.of_gr (n0 := n0) gA hn
  have hl3 := hA.a3.1.len
  unfold offerS
  dsimp only
  refine Lt.Ok.ite (fun hc => Lt.Ok.ret ⟨old, ?_⟩) fun hc => ?_
  · rw [if_pos (by rw [e] at hc; simpa using hc)]; exact ⟨rfl, by decide⟩
  rw [if_neg (by rw [e] at hc; simpa using hc)]
  refine Lt.Ok.ld (ldI_get hp rfl) (Lt.Ok.ld (ldI_get hp rfl) ?_)
  have em : (30 < (if i < j then j else i)) ↔ (30 < i ∨ 30 < j) := by split <;> omega
  refine Lt.Ok.ite (fun hc => Lt.Ok.ret ⟨old, ?_⟩) fun hc => ?_
  · rw [if_pos (em.1 hc)]; exact ⟨rfl, by decide⟩
  rw [if_neg fun q => hc (em.2 q)]
  refine Lt.Ok.ld (ldSl_get hA.get rfl) (Lt.Ok.ite (fun hc => Lt.Ok.ret ⟨old, ?_⟩) fun hc => ?_)
  · rw [if_pos (by omega)]; exact ⟨rfl, by decide⟩
  rw [if_neg (by omega)]
  refine Lt.Ok.ld (ldSl_get hA.get rfl) (Lt.Ok.ld (ldI_get hp rfl) (Lt.Ok.ld (ldI_get hp rfl) ?_))
  have := gA.1
  exact hA.push3 (by omega) i j (by omega) fun A' v' h' o' => Lt.Ok.ret ⟨old.trans o', rfl, _, _, _, h'⟩
end Go.Lt.P10

namespace Go.Lt.P10
open Go Go.Lt Go.Proofs
/-- stocks -/
theorem r76_ok {H : Hp} {b : Nat} {s : St} {v1 v2 v3 : Sl} (hg : H.get b = some (.cells (stCells v1 v2 v3 s) false)) (h : SL H v1 s.leaves) (hb : s.leaves.length ≤ 1048577) :
    Lt.Ok (r76 b 0 H) fun r H' => Gr H H' ∧ AccN H.n H' r (s.leaves.map (·.2)) := by
  unfold r76
  refine Lt.Ok.ld (ldSl_get hg rfl) ?_
  have hl := h.len
  refine Lt.Ok.loop (L := fun K (q : Sl × Int) A => r76_l0 K q.1 v1 (v1.len : Int) q.2 A) (fun m q A => ∃ i : Nat, q.2 = (i : Int) ∧ i + m = s.leaves.length ∧ Gr H A ∧ AccN H.n A q.1 ((s.leaves.take i).map (·.2))) ?_ FUEL s.leaves.length (⟨true, 0, 0, 0, 0, 0⟩, 0) H (by unfold FUEL; omega) ⟨0, rfl, by omega, .refl _, AccL.nilS, fun _ => rfl⟩
  rintro K m ⟨acc, i'⟩ A ⟨i, hi, him, g, ha⟩ ih
  dsimp only at *
  subst hi
  rw [r76_l0]
  refine Lt.Ok.ite (fun hlt => ?_) fun hlt => ?_
  · have hi : i < s.leaves.length := by omega
    have q1 : A.ldStr v1.b (v1.o + ((i : Int)).toNat * 2) = some s.leaves[i].1 := SL.ldStr (h.gr g) (i := i) (j := 0) hi rfl
    have q2 : A.ldI .i64 v1.b ((v1.o + ((i : Int)).toNat * 2) + 1) = some s.leaves[i].2 := (h.gr g).ldI (i := i) (j := 1) hi rfl
    refine Lt.Ok.ck (by omega) (Lt.Ok.ld q1 (Lt.Ok.ld q2 ?_))
    obtain ⟨A2, h1, h2, h3, h4⟩ := sts_blk [.str s.leaves[i].1, .int .i64 s.leaves[i].2] 0 (A.push (.cells [.str (ByteArray.mk #[]), .int .i64 0] false)) _ (Hp.get_push_new _ _) (by simp)
    have h2' : A2.get A.n = some (.cells [.str s.leaves[i].1, .int .i64 s.leaves[i].2] false) := by rw [h2]; simp
    have gA2 : Gr A A2 := ⟨by rw [h3]; simp, fun c hc => by rw [h4 c (by omega), Hp.get_push_old _ _ hc]⟩
    refine Lt.Ok.ld h1 (Lt.Ok.ld (ldI_get h2' rfl) ?_)
    refine Lt.Ok.bind (AccN.push (ha.gr gA2) (g.trans gA2).1 s.leaves[i].2 rfl rfl (by simp; omega)) fun acc' A3 ⟨k1, k2, k3, k4⟩ => ?_
    dsimp only
    rw [w64_succ (by omega)]
    refine ih (m - 1) (acc', _) A3 (by omega) ⟨i + 1, rfl, by omega, (But.gr k2 (ha.gr gA2).1 (g.trans gA2)), ?_⟩
    rw [List.take_succ_eq_append_getElem hi, List.map_append]
    exact k1
  · have : i = s.leaves.length := by omega
    subst this
    rw [List.take_length] at ha
    exact Lt.Ok.ret ⟨g, ha⟩
theorem encs_ints : ∀ (l : List Int) (i : Nat) (n : Int), (encs l).set i (.int .i64 n) = encs (l.set i n)
  | [], i, n => rfl
  | m :: l, 0, n => rfl
  | m :: l, i + 1, n => by
    rw [encs_cons, show (El.enc m : List AV) = [.int .i64 m] from rfl, List.set_cons_succ, encs_cons, show (El.enc m : List AV) = [.int .i64 m] from rfl, ← encs_ints l i n]
    rfl
theorem AccN.put {α : Type} {Q : α → Hp → Prop} {A : Hp} {n0 : Nat} {w : Sl} {l : List Int} (h : AccN n0 A w l) {i : Nat} (n : Int) (hi : i < l.length) {f : Hp → Option (α × Hp)}
    (k : ∀ A', AccN n0 A' w (l.set i n) → (∀ c, c ≠ w.b → A'.get c = A.get c) → A'.n = A.n → n0 ≤ w.b → Lt.Ok (f A') Q) : Lt.Ok ((A.st w.b (w.o + i * 1) (.int .i64 n)).bind f) Q := by
  have hnil : w.nil = false := h.1.sl.nonnil fun e => by rw [e] at hi; simp at hi
  obtain ⟨q1, q2, q3, q4, q5, q6, q7⟩ : w.nil = false ∧ w.o = 0 ∧ w.opn = 1 ∧ w.cap = w.len ∧ n0 ≤ w.b ∧ A.get w.b = some (.cells (encs l) false) ∧ (encs l).length = w.len * 1 := by
    rcases h.1 with ⟨e, _⟩ | q
    · rw [e] at hnil; cases hnil
    · exact q
  have hl := h.1.len
  rw [q2, Nat.zero_add, Nat.mul_one]
  refine Lt.Ok.st q6 (by omega) fun A' e hg' => ?_
  subst e
  have oth : ∀ c, c ≠ w.b → (A.set w.b (.cells ((encs l).set i (.int .i64 n)) false)).get c = A.get c := fun c hc => Hp.get_set_other _ _ hc
  refine k _ ⟨.inr ⟨q1, q2, q3, q4, q5, by rw [hg', encs_ints], by rw [encs_len, hl]; simp⟩, fun e => ?_⟩ oth (by simp) q5
  have := congrArg List.length e
  simp at this
  rw [this] at hi; simp at hi
theorem r156_ok {H : Hp} {v : Sl} {l : List Int} (h : SL H v l) (h1 : 1 ≤ l.length) (hb : l.length ≤ 1048577) : Lt.Ok (r156 v H) fun r H' => H' = H ∧ (0 ≤ r ↔ ∀ e ∈ l, 0 ≤ e) := by
  have hl := h.len
  unfold r156
  refine Lt.Ok.neg (by omega) (Lt.Ok.ck (by omega) (Lt.Ok.ld (h.ldI (i := 0) (j := 0) (n := l[0]) (by omega) rfl) ?_))
  refine Lt.Ok.loop (L := fun K (q : Int × Int) A => r156_l0 K v q.1 q.2 A) (fun m q A => A = H ∧ ∃ i : Nat, q.2 = (i : Int) ∧ 1 ≤ i ∧ i + m = l.length ∧ (0 ≤ q.1 ↔ ∀ e ∈ l.take i, 0 ≤ e)) ?_ FUEL (l.length - 1) (l[0], 1) H (by unfold FUEL; omega) ⟨rfl, 1, rfl, by omega, by omega, ?_⟩
  · rintro K m ⟨x, i'⟩ A ⟨rfl, i, hi, hi1, him, hx⟩ ih
    dsimp only at *
    subst hi
    rw [r156_l0]
    refine Lt.Ok.ite (fun hlt => ?_) fun hlt => ?_
    · have hi : i < l.length := by omega
      refine Lt.Ok.ck (by omega) (Lt.Ok.ld (h.ldI (i := i) (j := 0) (n := l[i]) hi rfl) ?_)
      rw [w64_succ (by omega)]
      refine ih (m - 1) (if l[i] < x then l[i] else x, _) A (by omega) ⟨rfl, i + 1, rfl, by omega, by omega, ?_⟩
      rw [List.take_succ_eq_append_getElem hi]
      dsimp only
      constructor
      · intro h0 e he
        rcases List.mem_append.1 he with he | he
        · exact hx.1 (by split at h0 <;> omega) e he
        · simp at he; subst he; split at h0 <;> omega
      · intro h0
        have := hx.2 fun e he => h0 e (List.mem_append_left _ he)
        have := h0 l[i] (List.mem_append_right _ (List.mem_singleton.2 rfl))
        split <;> omega
    · have : i = l.length := by omega
      subst this
      rw [List.take_length] at hx
      exact Lt.Ok.ret ⟨rfl, hx⟩
  · obtain ⟨x, r, rfl⟩ : ∃ x r, l = x :: r := List.exists_cons_of_length_pos (by omega)
    simp
theorem r157_ok {H : Hp} {v : Sl} {l : List Int} (h : SL H v l) (h1 : 1 ≤ l.length) (hb : l.length ≤ 1048577) : Lt.Ok (r157 v H) fun r H' => H' = H ∧ (r ≤ 20 ↔ ∀ e ∈ l, e ≤ 20) := by
  have hl := h.len
  unfold r157
  refine Lt.Ok.neg (by omega) (Lt.Ok.ck (by omega) (Lt.Ok.ld (h.ldI (i := 0) (j := 0) (n := l[0]) (by omega) rfl) ?_))
  refine Lt.Ok.loop (L := fun K (q : Int × Int) A => r157_l0 K v q.1 q.2 A) (fun m q A => A = H ∧ ∃ i : Nat, q.2 = (i : Int) ∧ 1 ≤ i ∧ i + m = l.length ∧ (q.1 ≤ 20 ↔ ∀ e ∈ l.take i, e ≤ 20)) ?_ FUEL (l.length - 1) (l[0], 1) H (by unfold FUEL; omega) ⟨rfl, 1, rfl, by omega, by omega, ?_⟩
  · rintro K m ⟨x, i'⟩ A ⟨rfl, i, hi, hi1, him, hx⟩ ih
    dsimp only at *
    subst hi
    rw [r157_l0]
    refine Lt.Ok.ite (fun hlt => ?_) fun hlt => ?_
    · have hi : i < l.length := by omega
      refine Lt.Ok.ck (by omega) (Lt.Ok.ld (h.ldI (i := i) (j := 0) (n := l[i]) hi rfl) ?_)
      rw [w64_succ (by omega)]
      refine ih (m - 1) (if x < l[i] then l[i] else x, _) A (by omega) ⟨rfl, i + 1, rfl, by omega, by omega, ?_⟩
      rw [List.take_succ_eq_append_getElem hi]
      dsimp only
      constructor
      · intro h0 e he
        rcases List.mem_append.1 he with he | he
        · exact hx.1 (by split at h0 <;> omega) e he
        · simp at he; subst he; split at h0 <;> omega
      · intro h0
        have := hx.2 fun e he => h0 e (List.mem_append_left _ he)
        have := h0 l[i] (List.mem_append_right _ (List.mem_singleton.2 rfl))
        split <;> omega
    · have : i = l.length := by omega
      subst this
      rw [List.take_length] at hx
      exact Lt.Ok.ret ⟨rfl, hx⟩
  · obtain ⟨x, r, rfl⟩ : ∃ x r, l = x :: r := List.exists_cons_of_length_pos (by omega)
    simp
/-- shares -/
def Good (n : Nat) (l : List Int) : Prop := 1 ≤ l.length ∧ l.length ≤ 6 ∧ l.length = n ∧ ∀ e ∈ l, 0 ≤ e ∧ e ≤ 20
theorem r103_ok {H : Hp} {a0 a1 : Sl} {x y : List Int} (hx : SL H a0 x) (hy : SL H a1 y) (hbx : x.length ≤ 1048577) (hby : y.length ≤ 1048577) :
    Lt.Ok (r103 ⟨false, H.n, 0, 2, 2, 0⟩ (H.push (.cells [.sl a0, .sl a1] false))) fun r H' => Gr H H' ∧ (r = true ↔ Good x.length x ∧ Good x.length y) := by
  unfold r103
  have g0 := Gr.push H (.cells [.sl a0, .sl a1] false)
  have hg := Hp.get_push_new H (.cells [.sl a0, .sl a1] false)
  obtain ⟨K, hK⟩ : ∃ K, FUEL = K + 3 := ⟨FUEL - 3, by unfold FUEL; omega⟩
  rw [hK]
  generalize H.push (.cells [.sl a0, .sl a1] false) = A at *
  have hlx := (hx.gr g0).len
  have round : ∀ (K : Nat) (q : Nat) (a : Sl) (l : List Int) (Q : Bool → Hp → Prop), q < 2 → A.ldSl H.n (0 + ((q : Nat) : Int).toNat * 1) = some a → SL A a l → l.length ≤ 1048577 → (¬ Good x.length l → Q false A) →
      (Good x.length l → Lt.Ok (r103_l0 K ⟨false, H.n, 0, 2, 2, 0⟩ ⟨false, H.n, 0, 2, 2, 0⟩ 2 ((q + 1 : Nat) : Int) A) Q) → Lt.Ok (r103_l0 (K + 1) ⟨false, H.n, 0, 2, 2, 0⟩ ⟨false, H.n, 0, 2, 2, 0⟩ 2 (q : Int) A) Q := by
    intro K q a l Q hq hld hl hbl k1 k2
    have hll := hl.len
    rw [r103_l0]
    refine Lt.Ok.pos (by omega) (Lt.Ok.ck (by show (0 : Int) ≤ (q : Int) ∧ (q : Int) < 2; omega) (Lt.Ok.ld hld ?_))
    unfold r103_j1
    refine Lt.Ok.ite (fun hc => Lt.Ok.pos rfl (Lt.Ok.ret (k1 fun h => by have := h.1; omega))) fun hc1 => ?_
    refine Lt.Ok.ite (fun hc => Lt.Ok.pos rfl (Lt.Ok.ret (k1 fun h => by have := h.2.1; omega))) fun hc2 => ?_
    refine Lt.Ok.ck (by show (0 : Int) ≤ 0 ∧ (0 : Int) < 2; decide) (Lt.Ok.ld (b := a0) (ldSl_get hg rfl) ?_)
    refine Lt.Ok.ite (fun hc => Lt.Ok.pos rfl (Lt.Ok.ret (k1 fun h => by have := h.2.2.1; omega))) fun hc3 => ?_
    refine Lt.Ok.bind (r156_ok hl (by omega) hbl) fun r A' ⟨e, hr⟩ => ?_
    subst e
    dsimp only
    refine Lt.Ok.ite (fun hc => Lt.Ok.pos rfl (Lt.Ok.ret (k1 fun h => by have := hr.2 fun e he => (h.2.2.2 e he).1; omega))) fun hc4 => ?_
    refine Lt.Ok.bind (r157_ok hl (by omega) hbl) fun r2 A' ⟨e, hr2⟩ => ?_
    subst e
    dsimp only
    rw [w64_succ (by omega)]
    by_cases hc : 20 < r2
    · rw [decide_eq_true hc]
      exact Lt.Ok.pos rfl (Lt.Ok.ret (k1 fun h => by have := hr2.2 fun e he => (h.2.2.2 e he).2; omega))
    · rw [decide_eq_false hc]
      exact Lt.Ok.neg (by simp) (k2 ⟨by omega, by omega, by omega, fun e he => ⟨hr.1 (by omega) e he, hr2.1 (by omega) e he⟩⟩)
  refine round _ 0 a0 x _ (by omega) (ldSl_get hg rfl) (hx.gr g0) hbx (fun hn => ⟨g0, by simp; exact fun h => absurd h hn⟩) fun h0 => ?_
  refine round _ 1 a1 y _ (by omega) (ldSl_get hg rfl) (hy.gr g0) hby (fun hn => ⟨g0, by simp; exact fun _ => hn⟩) fun h1 => ?_
  rw [r103_l0]
  exact Lt.Ok.neg (by show ¬ (2 : Int) < 2; decide) (Lt.Ok.ret ⟨g0, by simp [h0, h1]⟩)
theorem r105_ok {H : Hp} {v w : Sl} {l m : List Int} (h : SL H v l) (h' : SL H w m) (hb : l.length ≤ 1048577) : Lt.Ok (r105 v w H) fun r H' => H' = H ∧ (r = true ↔ l = m) := by
  have hl := h.len; have hm := h'.len
  unfold r105
  refine Lt.Ok.ite (fun hc => Lt.Ok.ret ⟨rfl, by simp; intro e; apply hc; rw [hl, hm, e]⟩) fun hc => ?_
  have hlm : l.length = m.length := by omega
  refine Lt.Ok.loop (L := fun K (q : Int) A => r105_l0 K v w (v.len : Int) q A) (fun k q A => A = H ∧ ∃ i : Nat, q = (i : Int) ∧ i + k = l.length ∧ l.take i = m.take i) ?_ FUEL l.length 0 H (by unfold FUEL; omega) ⟨rfl, 0, rfl, by omega, rfl⟩
  rintro K k q A ⟨rfl, i, rfl, him, ht⟩ ih
  rw [r105_l0]
  refine Lt.Ok.ite (fun hlt => ?_) fun hlt => ?_
  · have hi : i < l.length := by omega
    refine Lt.Ok.ck (by omega) (Lt.Ok.ld (h.ldI (i := i) (j := 0) (n := l[i]) hi rfl) (Lt.Ok.ck (by omega) (Lt.Ok.ld (h'.ldI (i := i) (j := 0) (n := m[i]) (by omega) rfl) ?_)))
    refine Lt.Ok.ite (fun hne => Lt.Ok.ret ⟨rfl, by simp; rintro rfl; exact hne rfl⟩) fun he => ?_
    rw [w64_succ (by omega)]
    refine ih (k - 1) _ A (by omega) ⟨rfl, i + 1, rfl, by omega, ?_⟩
    rw [List.take_succ_eq_append_getElem hi, List.take_succ_eq_append_getElem (by omega), ht]
    have : l[i] = m[i] := by simpa using he
    rw [this]
  · have : i = l.length := by omega
    subst this
    rw [List.take_length, hlm, List.take_length] at ht
    exact Lt.Ok.ret ⟨rfl, by simp [ht]⟩
/-- a give is possible -/
def CanS (x : List Int) (i j : Nat) (n : Int) : Prop := i ≠ j ∧ 1 ≤ n ∧ n ≤ 20 ∧ 2 * n ≤ x.getD i 0 - x.getD j 0
theorem r104_ok {H A : Hp} {w : Sl} {x : List Int} {i j : Nat} {n : Int} (gA : Gr H A) (h : AccN H.n A w x) (hi : i < x.length) (hj : j < x.length) (hb : x.length ≤ 1048577) (hx : ∀ e ∈ x, 0 ≤ e ∧ e ≤ 20) :
    Lt.Ok (r104 (i : Int) (j : Int) n w A) fun r A' => Gr H A' ∧ (r = true ↔ CanS x i j n) ∧ (r = true → AccN H.n A' w ((x.set i (x.getD i 0 - n)).set j (x.getD j 0 + n))) := by
  unfold r104
  refine Lt.Ok.lt ?_
  have g0 := Gr.push A (.cells [.int .i64 (i : Int), .int .i64 (j : Int), .int .i64 n] false)
  have hg := Hp.get_push_new A (.cells [.int .i64 (i : Int), .int .i64 (j : Int), .int .i64 n] false)
  have hw := h.gr g0
  have hbn : A.n < (A.push (.cells [.int .i64 (i : Int), .int .i64 (j : Int), .int .i64 n] false)).n := by simp
  generalize A.push (.cells [.int .i64 (i : Int), .int .i64 (j : Int), .int .i64 n] false) = B at *
  have gB := gA.trans g0
  have hl := hw.1.len
  have ei : x.getD i 0 = x[i] := by rw [List.getD_eq_getElem?_getD, List.getElem?_eq_getElem hi]; rfl
  have ej : x.getD j 0 = x[j] := by rw [List.getD_eq_getElem?_getD, List.getElem?_eq_getElem hj]; rfl
  have ri := hx _ (List.getElem_mem hi)
  have rj := hx _ (List.getElem_mem hj)
  unfold r104_j0 CanS
  rw [ei, ej]
  refine Lt.Ok.ld (ldI_get hg rfl) (Lt.Ok.neg (by omega) (Lt.Ok.ld (ldI_get hg rfl) (Lt.Ok.neg (by omega) (Lt.Ok.ld (ldI_get hg rfl) (Lt.Ok.neg (by omega) (Lt.Ok.ld (ldI_get hg rfl) (Lt.Ok.neg (by omega) ?_)))))))
  refine Lt.Ok.ld (ldI_get hg rfl) (Lt.Ok.ld (ldI_get hg rfl) (Lt.Ok.ite (fun hc => Lt.Ok.pos rfl (Lt.Ok.ret ⟨gB, by simp; omega, by simp⟩)) fun hc1 => ?_))
  refine Lt.Ok.ld (ldI_get hg rfl) (Lt.Ok.ite (fun hc => Lt.Ok.pos rfl (Lt.Ok.ret ⟨gB, by simp; omega, by simp⟩)) fun hc2 => ?_)
  refine Lt.Ok.ld (ldI_get hg rfl) (Lt.Ok.ite (fun hc => Lt.Ok.pos rfl (Lt.Ok.ret ⟨gB, by simp; omega, by simp⟩)) fun hc3 => ?_)
  refine Lt.Ok.ld (ldI_get hg rfl) (Lt.Ok.ck (by omega) (Lt.Ok.ld (hw.1.sl.ldI (i := i) (j := 0) (n := x[i]) hi rfl) ?_))
  refine Lt.Ok.ld (ldI_get hg rfl) (Lt.Ok.ck (by omega) (Lt.Ok.ld (hw.1.sl.ldI (i := j) (j := 0) (n := x[j]) hj rfl) (Lt.Ok.ld (ldI_get hg rfl) ?_)))
  rw [w64_id (n := x[i] - x[j]) (by omega) (by omega), w64_id (n := 2 * n) (by omega) (by omega)]
  by_cases hc : x[i] - x[j] < 2 * n
  · rw [decide_eq_true hc]
    exact Lt.Ok.pos rfl (Lt.Ok.ret ⟨gB, by simp; omega, by simp⟩)
  · rw [decide_eq_false hc]
    refine Lt.Ok.neg (by simp) (Lt.Ok.ld (ldI_get hg rfl) (Lt.Ok.ck (by omega) (Lt.Ok.ld (hw.1.sl.ldI (i := i) (j := 0) (n := x[i]) hi rfl) (Lt.Ok.ld (ldI_get hg rfl) (Lt.Ok.ck (by omega) ?_)))))
    rw [w64_id (n := x[i] - n) (by omega) (by omega)]
    have hwlt : w.nil = false → w.b < A.n := fun q => Acc.lt h.1 q
    have hwn : w.nil = false := hw.1.sl.nonnil fun e => by rw [e] at hi; simp at hi
    have hwA := hwlt hwn
    refine hw.put (i := i) (x[i] - n) hi fun A1 h1 o1 n1 b1 => ?_
    have hg1 := (o1 A.n (by omega)).trans hg
    have hxj : (x.set i (x[i] - n))[j]'(by simpa using hj) = x[j] := by
      rw [List.getElem_set_ne (by omega)]
    refine Lt.Ok.ld (ldI_get hg1 rfl) (Lt.Ok.ck (by omega) (Lt.Ok.ld (h1.1.sl.ldI (i := j) (j := 0) (n := x[j]) (by simpa using hj) (by rw [hxj]; rfl)) (Lt.Ok.ld (ldI_get hg1 rfl) (Lt.Ok.ck (by omega) ?_))))
    rw [w64_id (n := x[j] + n) (by omega) (by omega)]
    refine h1.put (i := j) (x[j] + n) (by simpa using hj) fun A2 h2 o2 n2 b2 => Lt.Ok.ret ⟨⟨by have := gB.1; omega, fun c hc => by rw [o2 c (by omega), o1 c (by omega), gB.2 c hc]⟩, by simp; omega, fun _ => h2⟩
theorem r77_ok {H : Hp} {a0 a1 a2 : Sl} {x y : List Int} {i j : Nat} {n : Int} (hx : SL H a0 x) (hx0 : x = [] → a0 = nilS) (hy : SL H a1 y) (hg : SL H a2 [((i : Int), (j : Int), n)]) (hi : i < x.length) (hj : j < x.length) (hb : x.length ≤ 1048577) (hby : y.length ≤ 1048577) :
    Lt.Ok (r77 a0 a1 a2 H) fun r H' => Gr H H' ∧ (r.1 = true ↔ (Good x.length x ∧ Good x.length y) ∧ CanS x i j n ∧ (x.set i (x.getD i 0 - n)).set j (x.getD j 0 + n) = y) ∧ (r.1 = true → r.2 = 0) := by
  unfold r77
  refine Lt.Ok.bind (r103_ok hx hy hb hby) fun b A ⟨g, hr⟩ => ?_
  dsimp only
  refine Lt.Ok.ite (fun hc => ?_) fun hc => Lt.Ok.ret ⟨g, by simp; intro h1 h2; exact absurd (hr.2 ⟨h1, h2⟩) hc, by simp⟩
  obtain ⟨gx, gy⟩ := hr.1 hc
  rw [r73_eq]
  refine Lt.Ok.bind (clone_n (n0 := A.n) (hx.gr g) hx0 (by omega) rfl (Nat.le_refl _)) fun w A2 ⟨g2, hw, _⟩ => ?_
  have hl2 := hg.len
  simp only [List.length_cons, List.length_nil] at hl2
  obtain ⟨K, hK⟩ : ∃ K, FUEL = K + 2 := ⟨FUEL - 2, by unfold FUEL; omega⟩
  dsimp only
  rw [hK, r77_l0]
  have hg2 := (hg.gr g).gr g2
  refine Lt.Ok.pos (by omega) (Lt.Ok.ck (by omega) (Lt.Ok.ld (hg2.ldI (i := 0) (j := 0) (n := (i : Int)) (by simp) rfl) (Lt.Ok.ld (hg2.ldI (i := 0) (j := 1) (n := (j : Int)) (by simp) rfl) (Lt.Ok.ld (hg2.ldI (i := 0) (j := 2) (n := n) (by simp) rfl) ?_))))
  obtain ⟨A3, h1, h2, h3, h4⟩ := sts_blk [.int .i64 (i : Int), .int .i64 (j : Int), .int .i64 n] 0 (A2.push (.cells [.int .i64 0, .int .i64 0, .int .i64 0] false)) _ (Hp.get_push_new _ _) (by simp)
  have h2' : A3.get A2.n = some (.cells [.int .i64 (i : Int), .int .i64 (j : Int), .int .i64 n] false) := by rw [h2]; simp
  have g3 : Gr A2 A3 := ⟨by rw [h3]; simp, fun c hc => by rw [h4 c (by omega), Hp.get_push_old _ _ hc]⟩
  refine Lt.Ok.ld h1 (Lt.Ok.ld (ldI_get h2' rfl) (Lt.Ok.ld (ldI_get h2' rfl) (Lt.Ok.ld (ldI_get h2' rfl) ?_)))
  refine Lt.Ok.bind (r104_ok (H := A) (n := n) (g2.trans g3) (hw.gr g3) hi hj hb gx.2.2.2) fun b A4 ⟨g4, hc4, hw4⟩ => ?_
  dsimp only
  refine Lt.Ok.ite (fun hct => ?_) fun hct => Lt.Ok.ret ⟨g.trans g4, by simp; intro _ _ q; exact absurd (hc4.2 q) hct, by simp⟩
  have hw4 := hw4 hct
  rw [show w64 (0 + 1) = (1 : Int) from by decide, r77_l0]
  refine Lt.Ok.neg (by omega) (Lt.Ok.bind (r105_ok hw4.1.sl ((hy.gr g).gr g4) (by simp; omega)) fun r A5 ⟨e, h5⟩ => Lt.Ok.ret ⟨by rw [e]; exact g.trans g4, ?_, fun _ => rfl⟩)
  dsimp only
  rw [h5]
  exact ⟨fun h => ⟨⟨gx, gy⟩, hc4.1 hct, h⟩, fun h => h.2.2⟩
end Go.Lt.P10

namespace Go.Lt.P10
open Go Go.Lt Go.Proofs
/-- the first stocks are new -/
def mix (l : List (ByteArray × Int)) (y : List Int) (k : Nat) : List (ByteArray × Int) := l.mapIdx fun q x => if q < k then (x.1, y.getD q 0) else x
theorem mix_zero (l : List (ByteArray × Int)) (y : List Int) : mix l y 0 = l := by
  unfold mix
  apply List.ext_getElem
  · simp
  · intro i h1 h2; simp
theorem mix_len (l : List (ByteArray × Int)) (y : List Int) (k : Nat) : (mix l y k).length = l.length := by simp [mix]
theorem mix_get (l : List (ByteArray × Int)) (y : List Int) (k q : Nat) (hq : q < l.length) : (mix l y k)[q]'(by rw [mix_len]; exact hq) = if q < k then (l[q].1, y.getD q 0) else l[q] := by
  simp [mix]
theorem mix_succ (l : List (ByteArray × Int)) (y : List Int) (k : Nat) : (mix l y k).modify k (fun x => (x.1, y.getD k 0)) = mix l y (k + 1) := by
  apply List.ext_getElem
  · simp [mix]
  · intro i h1 h2
    have hi : i < l.length := by rw [mix_len] at h2; exact h2
    rw [List.getElem_modify, mix_get _ _ _ _ hi, mix_get _ _ _ _ hi]
    by_cases e : k = i
    · subst e
      rw [if_pos rfl, if_neg (by omega), if_pos (by omega)]
    · rw [if_neg e]
      by_cases h : i < k
      · rw [if_pos h, if_pos (by omega)]
      · rw [if_neg h, if_neg (by omega)]
theorem mix_give (l : List (ByteArray × Int)) {i j : Nat} (hi : i < l.length) (hj : j < l.length) (hij : i ≠ j) (a b : Int) :
    mix l (((l.map (·.2)).set i a).set j b) l.length = (l.modify i fun x => (x.1, a)).modify j fun x => (x.1, b) := by
  apply List.ext_getElem
  · simp [mix]
  · intro q h1 h2
    have hq : q < l.length := by rw [mix_len] at h1; exact h1
    rw [mix_get _ _ _ _ hq, if_pos hq, List.getElem_modify, List.getElem_modify, List.getD_eq_getElem?_getD, List.getElem?_eq_getElem (by simpa using hq)]
    simp only [Option.getD_some]
    rw [List.getElem_set]
    by_cases e : j = q
    · subst e; rw [if_pos rfl, if_pos rfl, if_neg hij]
    · rw [if_neg e, if_neg e, List.getElem_set]
      by_cases e2 : i = q
      · subst e2; rw [if_pos rfl, if_pos rfl]
      · rw [if_neg e2, if_neg e2]; simp
theorem r45_l1_ok {k : Nat} {H : Hp} {n0 b : Nat} {s : St} {v1 v2 v3 w : Sl} {y : List Int} (h : StO H n0 b s v1 v2 v3) (hs : s.Ok) (hy : SL H w y) (hl : y.length = s.leaves.length) (hw : ∀ c, c = v1.b → v1.nil = false → w.b ≠ c) (hn : n0 ≤ H.n) :
    Lt.Ok (r45_l1 (appA k) FUEL b 0 w (w.len : Int) 0 H) fun e H' => e = 0 ∧ Old n0 H H' ∧ StO H' n0 b { s with leaves := mix s.leaves y s.leaves.length } v1 v2 v3 := by
  have l6 := hs.l6
  have hlen := hy.len
  refine Lt.Ok.loop (L := fun K (q : Int) A => r45_l1 (appA k) K b 0 w (w.len : Int) q A) (fun m q A => ∃ i : Nat, q = (i : Int) ∧ i + m = s.leaves.length ∧ Old n0 H A ∧ SL A w y ∧ StO A n0 b { s with leaves := mix s.leaves y i } v1 v2 v3) ?_ FUEL s.leaves.length 0 H (by unfold FUEL; omega) ⟨0, rfl, by omega, .refl _ _, hy, by rw [mix_zero]; exact h⟩
  rintro K m q A ⟨i, rfl, him, o, hyA, hA⟩ ih
  rw [r45_l1]
  refine Lt.Ok.ite (fun hlt => ?_) fun hlt => ?_
  · have hi : i < y.length := by omega
    have hl1 := hA.a1.1.len
    rw [mix_len] at hl1
    refine Lt.Ok.ck (by omega) (Lt.Ok.ld (hyA.ldI (i := i) (j := 0) (n := y.getD i 0) hi (by rw [List.getD_eq_getElem?_getD, List.getElem?_eq_getElem hi]; rfl)) (Lt.Ok.ld (ldSl_get hA.get rfl) (Lt.Ok.ck (by omega) ?_)))
    refine hA.putS (i := i) (y.getD i 0) (by rw [mix_len]; omega) fun A1 h1 o1 on1 => ?_
    rw [w64_succ (by omega)]
    refine ih (m - 1) _ A1 (by omega) ⟨i + 1, rfl, by omega, o.trans o1, ?_, ?_⟩
    · have hnil : v1.nil = false := hA.a1.1.sl.nonnil fun e => by
        have := congrArg List.length e
        rw [mix_len] at this
        simp at this; rw [this] at hl; simp at hl; rw [hl] at hi; simp at hi
      have hwlt : w.b < A.n := ld_lt (hyA.ld (i := i) (j := 0) (x := .int .i64 y[i]) hi rfl)
      exact slcg hyA (on1.2 _ hwlt (hw _ rfl hnil))
    · have : setStock { s with leaves := mix s.leaves y i } i (y.getD i 0) = { s with leaves := mix s.leaves y (i + 1) } := by
        unfold setStock; dsimp only; rw [mix_succ]
      rw [← this]; exact h1
  · have : i = s.leaves.length := by omega
    subst this
    exact Lt.Ok.ret ⟨rfl, o, hA⟩
theorem getD_stock {s : St} {i : Nat} (h : i < s.leaves.length) : (s.leaves.map (·.2)).getD i 0 = stock s i := by
  rw [stock_eq h, List.getD_eq_getElem?_getD, List.getElem?_map, List.getElem?_eq_getElem h]; rfl
theorem set_mem {l : List Int} {i : Nat} {a e : Int} (h : e ∈ l.set i a) : e = a ∨ e ∈ l := (List.mem_or_eq_of_mem_set h).symm.imp id id
theorem give_ok {k : Nat} {H : Hp} {n0 b : Nat} {s : St} {v1 v2 v3 wn wu : Sl} {a c : ByteArray} {n : Int} (h : StO H n0 b s v1 v2 v3) (hs : s.Ok) (hn : n0 ≤ H.n) (hna : SL H wn [a, c]) (hnu : SL H wu [n]) :
    Lt.Ok (r45 (appA (k + 1)) b 0 wn wu H) (ActQ n0 b H (giveS s a c n)) := by
  unfold r45
  refine Lt.Ok.lt ?_
  have g0 := Gr.push H (.cells [.sl wn, .sl wu] false)
  have hl0 := Hp.get_push_new H (.cells [.sl wn, .sl wu] false)
  have l6 := hs.l6
  generalize H.push (.cells [.sl wn, .sl wu] false) = H1 at *
  have hln := hna.len
  have hlu := hnu.len
  simp only [List.length_cons, List.length_nil] at hln hlu
  have e0 : ∀ {A : Hp}, Gr H A → A.ldStr wn.b (wn.o + (0 : Int).toNat * 1) = some a := fun g => SL.ldStr (hna.gr g) (i := 0) (j := 0) (n := a) (by simp) rfl
  have e1 : ∀ {A : Hp}, Gr H A → A.ldStr wn.b (wn.o + (1 : Int).toNat * 1) = some c := fun g => SL.ldStr (hna.gr g) (i := 1) (j := 0) (n := c) (by simp) rfl
  have e2 : ∀ {A : Hp}, Gr H A → A.ldI .i64 wu.b (wu.o + (0 : Int).toNat * 1) = some n := fun g => (hnu.gr g).ldI (i := 0) (j := 0) (n := n) (by simp) rfl
  refine Lt.Ok.ld (ldSl_get hl0 rfl) (Lt.Ok.ck (by omega) (Lt.Ok.ld (e0 g0) ?_))
  refine Lt.Ok.bind (r75_ok (k := k) (h.gr g0).get (h.gr g0).a1.1.sl (by omega) a) fun r1 A ⟨g, q1⟩ => ?_
  have gA := g0.trans g
  have hA := h.gr gA
  have hlA := (g.2 _ (Hp.get_lt hl0)).trans hl0
  refine Lt.Ok.ld (ldSl_get hlA rfl) (Lt.Ok.ck (by omega) (Lt.Ok.ld (e1 gA) ?_))
  refine Lt.Ok.bind (r75_ok (k := k) hA.get hA.a1.1.sl (by omega) c) fun r2 B ⟨g2, q2⟩ => ?_
  have gB := gA.trans g2
  have hB := h.gr gB
  have hlB := (g2.2 _ (Hp.get_lt hlA)).trans hlA
  refine Lt.Ok.ld (ldSl_get hlB rfl) (Lt.Ok.ck (by omega) (Lt.Ok.ld (e2 gB) ?_))
  refine Lt.Ok.ck (ldSl_get hl0 rfl) (Lt.Ok.ck (e1 g0) (Lt.Ok.ck (ldSl_get hl0 rfl) (Lt.Ok.ck (e2 g0) (Lt.Ok.ck (ldSl_get hlA rfl) (Lt.Ok.ck (e2 gA) (Lt.Ok.ck (ldSl_get hlB rfl) (Lt.Ok.ck (e1 gB) ?_)))))))
  dsimp only
  have old := Old.of_gr (n0 := n0) gB hn
  unfold giveS
  subst q1; subst q2
  cases hf1 : s.find a with
  | none =>
    refine Lt.Ok.pos (by decide) ?_
    unfold r45_j0
    exact Lt.Ok.pos rfl (Lt.Ok.ret ⟨old, rfl, by decide⟩)
  | some i =>
    refine Lt.Ok.neg (by simp [idxI]) ?_
    cases hf2 : s.find c with
    | none =>
      unfold r45_j0
      exact Lt.Ok.pos (by simp [idxI]) (Lt.Ok.ret ⟨old, rfl, by decide⟩)
    | some j =>
      have hi := find_lt hf1
      have hj := find_lt hf2
      unfold r45_j0
      rw [show decide (idxI (some j) < 0) = false from decide_eq_false (by simp [idxI])]
      refine Lt.Ok.neg (by simp) ?_
      simp only [idxI]
      have lo := h.lo
      refine Lt.Ok.bind (r76_ok hB.get hB.a1.1.sl (by omega)) fun xs C ⟨g3, hx⟩ => ?_
      rw [r73_eq]
      have ne : s.leaves ≠ [] := fun e => by rw [e] at hi; simp at hi
      have nex : s.leaves.map (·.2) ≠ [] := fun e => ne (List.map_eq_nil_iff.1 e)
      refine Lt.Ok.bind (clone_n (n0 := C.n) hx.1.sl hx.2 (by simp; omega) rfl (Nat.le_refl _)) fun w D ⟨g4, hw, _⟩ => ?_
      dsimp only
      have hwl := hw.1.len
      simp only [List.length_map] at hwl
      have ri := stock_rng hs hi
      have rj := stock_rng hs hj
      have gi : (s.leaves.map (·.2))[i]'(by simpa using hi) = stock s i := by rw [stock_eq hi]; simp
      have gj : (s.leaves.map (·.2))[j]'(by simpa using hj) = stock s j := by rw [stock_eq hj]; simp
      have gC := gB.trans g3
      have gD := gC.trans g4
      refine Lt.Ok.ck (by omega) (Lt.Ok.ld (hw.1.sl.ldI (i := i) (j := 0) (n := stock s i) (by simpa using hi) (by rw [gi]; rfl)) (Lt.Ok.ck (by omega) ?_))
      refine hw.put (i := i) _ (by simpa using hi) fun D1 h1 o1 n1 b1 => ?_
      generalize hy1 : w64 (stock s i - n) = y1 at *
      have hyj : ((s.leaves.map (·.2)).set i y1)[j]'(by simpa using hj) = if i = j then y1 else stock s j := by
        rw [List.getElem_set]; split
        · rfl
        · rw [gj]
      refine Lt.Ok.ck (by omega) (Lt.Ok.ld (h1.1.sl.ldI (i := j) (j := 0) (n := if i = j then y1 else stock s j) (by simpa using hj) (by rw [hyj]; rfl)) (Lt.Ok.ck (by omega) ?_))
      refine h1.put (i := j) _ (by simpa using hj) fun D2 h2 o2 n2 b2 => ?_
      generalize hy2 : w64 ((if i = j then y1 else stock s j) + n) = y2 at *
      have gD2 : Gr C D2 := ⟨by have := g4.1; omega, fun q hq => by rw [o2 q (by omega), o1 q (by omega), g4.2 q hq]⟩
      have hxD := hx.gr gD2
      have gp := Gr.push D2 (.cells [.int .i64 (i : Int), .int .i64 (j : Int), .int .i64 n] false)
      have hgs : SL (D2.push (.cells [.int .i64 (i : Int), .int .i64 (j : Int), .int .i64 n] false)) ⟨false, D2.n, 0, 1, 1, 0⟩ [((i : Int), (j : Int), n)] :=
        .of_get (ro := false) (Hp.get_push_new _ _) rfl rfl (Nat.le_refl _) (.inl rfl) rfl
      refine Lt.Ok.bind (r77_ok (hxD.1.sl.gr gp) hxD.2 (h2.1.sl.gr gp) hgs (by simpa using hi) (by simpa using hj) (by simp; omega) (by simp; omega)) fun r E ⟨g5, hr, hr0⟩ => ?_
      have gE : Gr H E := (gC.trans gD2).trans (gp.trans g5)
      have oldE := Old.of_gr (n0 := n0) gE hn
      dsimp only at hr hr0 ⊢
      have cond : r.1 = true ↔ (i ≠ j ∧ 1 ≤ n ∧ n ≤ 20 ∧ 2 * n ≤ stock s i - stock s j) := by
        rw [hr]
        unfold CanS
        rw [getD_stock hi, getD_stock hj]
        constructor
        · exact fun h => h.2.1
        · intro hc
          obtain ⟨c1, c2, c3, c4⟩ := hc
          have y1e : y1 = stock s i - n := by rw [← hy1, w64_id (by omega) (by omega)]
          have y2e : y2 = stock s j + n := by rw [← hy2, if_neg c1, w64_id (by omega) (by omega)]
          have xs20 : ∀ e ∈ s.leaves.map (·.2), 0 ≤ e ∧ e ≤ 20 := fun e he => by
            obtain ⟨p, hp, rfl⟩ := List.mem_map.1 he
            exact hs.st p hp
          refine ⟨⟨⟨by simp; omega, by simp; omega, rfl, xs20⟩, by simp; omega, by simp; omega, by simp, fun e he => ?_⟩, ⟨c1, c2, c3, c4⟩, by rw [y1e, y2e]⟩
          rcases set_mem he with rfl | he
          · omega
          · rcases set_mem he with rfl | he
            · omega
            · exact xs20 e he
      unfold r45_j2
      refine Lt.Ok.ite (fun hc => ?_) fun hc => ?_
      · have hc' := cond.1 hc
        rw [if_pos hc', hr0 hc]
        refine Lt.Ok.neg (by simp) ?_
        obtain ⟨c1, c2, c3, c4⟩ := hc'
        have y1e : y1 = stock s i - n := by rw [← hy1, w64_id (by omega) (by omega)]
        have y2e : y2 = stock s j + n := by rw [← hy2, if_neg c1, w64_id (by omega) (by omega)]
        have hE := h.gr gE
        have hwE := (h2.gr (gp.trans g5))
        have hC := h.gr gC
        refine (r45_l1_ok hE hs hwE.1.sl (by simp) (fun q hq hn1 => ?_) (by have := gE.1; omega)).mono fun e F ⟨he, of, hF⟩ => ⟨oldE.trans of, he, v1, v2, v3, ?_⟩
        · have := Acc.lt hC.a1.1 hn1
          omega
        · subst y1e; subst y2e
          rw [mix_give _ hi hj c1] at hF
          exact hF
      · rw [if_neg fun q => hc (cond.2 q)]
        exact Lt.Ok.pos rfl (Lt.Ok.ret ⟨oldE, rfl, by decide⟩)
end Go.Lt.P10

namespace Go.Lt.P10
open Go Go.Lt Go.Proofs
theorem numS_nonneg {w : ByteArray} {n : Int} (h : numS w = some n) : 0 ≤ n := by
  unfold numS at h
  split at h
  · split at h
    · rename_i hc; injection h with h; subst h; exact hc.1
    · cases h
  · cases h
theorem nameF_size {w : ByteArray} : ∀ k p, nameF w k p = true → w.size ≤ 8
  | 0, p, h => by cases h
  | k + 1, p, h => by
    unfold nameF at h
    split at h
    · split at h
      · cases h
      · split at h
        · cases h
        · exact nameF_size k _ h
    · split at h
      · cases h
      · have := of_decide_eq_true h; omega
theorem isNameS_size {w : ByteArray} (h : isNameS w = true) : w.size ≤ 8 := nameF_size _ _ h
theorem readS_parse {form text : ByteArray} {p : List ByteArray × List Int} (h : readS form text = some p) : ∃ ws : List ByteArray, ws.length = form.size ∧ parseS form.data.toList ws = some p := by
  unfold readS at h
  split at h
  · rename_i hc; exact ⟨_, hc.1, h⟩
  · cases h
theorem two {α : Type} {l : List α} (h : l.length = 2) : ∃ a b, l = [a, b] := by
  match l, h with
  | [a, b], _ => exact ⟨a, b, rfl⟩
theorem parse_n {x : ByteArray} {fs : List UInt8} {xs : List ByteArray} {p : List ByteArray × List Int} (h : parseS (110 :: fs) (x :: xs) = some p) : isNameS x = true ∧ ∃ q, parseS fs xs = some q ∧ p = (x :: q.1, q.2) := by
  rw [parseS, if_pos rfl] at h
  split at h
  · rename_i hx
    obtain ⟨q, hq, e⟩ := Option.map_eq_some_iff.1 h
    exact ⟨hx, q, hq, e.symm⟩
  · cases h
theorem parse_d {x : ByteArray} {fs : List UInt8} {xs : List ByteArray} {p : List ByteArray × List Int} (h : parseS (100 :: fs) (x :: xs) = some p) : ∃ n, 0 ≤ n ∧ ∃ q, parseS fs xs = some q ∧ p = (q.1, n :: q.2) := by
  rw [parseS, if_neg (by decide)] at h
  obtain ⟨n, hn, h⟩ := Option.bind_eq_some_iff.1 h
  obtain ⟨q, hq, e⟩ := Option.map_eq_some_iff.1 h
  exact ⟨n, numS_nonneg hn, q, hq, e.symm⟩
theorem parse_nil {p : List ByteArray × List Int} (h : parseS [] [] = some p) : p = ([], []) := by
  injection h with h; exact h.symm
theorem read_ND {text : ByteArray} {p : List ByteArray × List Int} (h : readS fND text = some p) : ∃ a n, p = ([a], [n]) ∧ 0 ≤ n ∧ isNameS a = true := by
  obtain ⟨ws, hl, h⟩ := readS_parse h
  obtain ⟨x, y, rfl⟩ := two (show ws.length = 2 from hl)
  obtain ⟨hx, q1, h1, e1⟩ := parse_n (show parseS [110, 100] [x, y] = some p from h)
  obtain ⟨n, hn, q2, h2, e2⟩ := parse_d h1
  have := parse_nil h2
  subst this; subst e2; subst e1
  exact ⟨x, n, rfl, hn, hx⟩
theorem read_NND {text : ByteArray} {p : List ByteArray × List Int} (h : readS fNND text = some p) : ∃ a b n, p = ([a, b], [n]) ∧ 0 ≤ n := by
  obtain ⟨ws, hl, h⟩ := readS_parse h
  obtain ⟨x, y, z, rfl⟩ : ∃ x y z, ws = [x, y, z] := by
    match ws, (show ws.length = 3 from hl) with
    | [a, b, c], _ => exact ⟨a, b, c, rfl⟩
  obtain ⟨hx, q1, h1, e1⟩ := parse_n (show parseS [110, 110, 100] [x, y, z] = some p from h)
  obtain ⟨hx, q2, h2, e2⟩ := parse_n h1
  obtain ⟨n, hn, q3, h3, e3⟩ := parse_d h2
  have := parse_nil h3
  subst this; subst e3; subst e2; subst e1
  exact ⟨x, y, n, rfl, hn⟩
theorem read_N {text : ByteArray} {p : List ByteArray × List Int} (h : readS fN text = some p) : ∃ a, p = ([a], []) := by
  obtain ⟨ws, hl, h⟩ := readS_parse h
  obtain ⟨x, rfl⟩ := List.length_eq_one_iff.1 (show ws.length = 1 from hl)
  obtain ⟨hx, q1, h1, e1⟩ := parse_n (show parseS [110] [x] = some p from h)
  have := parse_nil h1
  subst this; subst e1
  exact ⟨x, rfl⟩
theorem read_DD {text : ByteArray} {p : List ByteArray × List Int} (h : readS fDD text = some p) : ∃ i j, p = ([], [i, j]) ∧ 0 ≤ i ∧ 0 ≤ j := by
  obtain ⟨ws, hl, h⟩ := readS_parse h
  obtain ⟨x, y, rfl⟩ := two (show ws.length = 2 from hl)
  obtain ⟨n, hn, q1, h1, e1⟩ := parse_d (show parseS [100, 100] [x, y] = some p from h)
  obtain ⟨m, hm, q2, h2, e2⟩ := parse_d h1
  have := parse_nil h2
  subst this; subst e2; subst e1
  exact ⟨n, m, rfl, hn, hm⟩
/-- what a change comes to, in the heap -/
def DoQ (H : Hp) (a : Act × ByteArray) (r : Nat × Nat × ByteArray × Int) (H' : Hp) : Prop :=
  Gr H H' ∧ match a with
    | (.inl e, _) => r.2.2.2 = e ∧ e ≠ 0
    | (.inr s', w) => r.2.2.2 = 0 ∧ r.2.2.1 = w ∧ r.2.1 = 0 ∧ StAt H' (H.n ≤ ·) r.1 s'
theorem r34_j0_ok {k : Nat} {H A : Hp} {b b2 : Nat} {text w form : ByteArray} {v8 : AV} {s : St} {v1 v2 v3 : Sl} {f : St → List ByteArray × List Int → Act} (gA : Gr H A) (h : StO A H.n b2 s v1 v2 v3) (hs : text.size ≤ 1048576) (hf : form.size ≤ 8)
    (hact : ∀ p, readS form text = some p → ∀ B wn wu, Gr A B → SL B wn p.1 → SL B wu p.2 → ∃ e C, callv (appA (k + 2)) v8 [.agg [.sl wn, .sl wu]] B = some (.int .i64 e, C) ∧ ActQ H.n b2 B (f s p) e C) :
    Lt.Ok (r34_j0 (appA (k + 2)) b 0 text w b2 0 form v8 A) (DoQ H (actS s w text form f)) := by
  unfold r34_j0 actS
  refine Lt.Ok.bind (r49_ok (k := k + 1) hf hs) fun r B ⟨g, hr⟩ => ?_
  dsimp only
  obtain ⟨C, h1, h2, h3, h4⟩ := sts_blk [.sl r.1, .sl r.2.1] 0 (B.push (.cells [.sl ⟨true, 0, 0, 0, 0, 0⟩, .sl ⟨true, 0, 0, 0, 0, 0⟩] false)) _ (Hp.get_push_new _ _) (by simp)
  have h2' : C.get B.n = some (.cells [.sl r.1, .sl r.2.1] false) := by rw [h2]; simp
  have gC : Gr B C := ⟨by rw [h3]; simp, fun c hc => by rw [h4 c (by omega), Hp.get_push_old _ _ hc]⟩
  refine Lt.Ok.ld h1 ?_
  have gHC : Gr H C := gA.trans (g.trans gC)
  cases hrd : readS form text with
  | none =>
    rw [hrd] at hr
    dsimp only at hr
    rw [hr]
    exact Lt.Ok.neg (by simp) (Lt.Ok.ret ⟨gHC, rfl, by decide⟩)
  | some p =>
    rw [hrd] at hr
    obtain ⟨hr1, hr2, hr3⟩ := hr
    refine Lt.Ok.pos hr1 (Lt.Ok.ld (ldSl_get h2' rfl) (Lt.Ok.ld (ldSl_get h2' rfl) ?_))
    obtain ⟨e, D, hcall, old, hq⟩ := hact p hrd C r.1 r.2.1 (g.trans gC) (hr2.gr gC) (hr3.gr gC)
    refine is hcall (Lt.Ok.ld rfl ?_)
    have gHD : Gr H D := ⟨Nat.le_trans gHC.1 old.1, fun c hc => by rw [old.2 c hc, gHC.2 c hc]⟩
    dsimp only
    cases hfs : f s p with
    | inl x =>
      rw [hfs] at hq
      obtain ⟨rfl, hx⟩ := hq
      exact Lt.Ok.pos hx (Lt.Ok.ret ⟨gHD, rfl, hx⟩)
    | inr s' =>
      rw [hfs] at hq
      obtain ⟨rfl, w1, w2, w3, hst⟩ := hq
      exact Lt.Ok.neg (by simp) (Lt.Ok.ret ⟨gHD, rfl, rfl, rfl, hst.at⟩)
theorem call44 (k : Nat) (b : Nat) (wn wu : Sl) (H : Hp) : callv (appA (k + 1)) (.fn 44 [.ptr b 0] []) [.agg [.sl wn, .sl wu]] H = (r44 (appA k) b 0 wn wu H).map fun p => (.int .i64 p.1, p.2) := rfl
theorem call45 (k : Nat) (b : Nat) (wn wu : Sl) (H : Hp) : callv (appA (k + 1)) (.fn 45 [.ptr b 0] []) [.agg [.sl wn, .sl wu]] H = (r45 (appA k) b 0 wn wu H).map fun p => (.int .i64 p.1, p.2) := rfl
theorem call46 (k : Nat) (b : Nat) (wn wu : Sl) (H : Hp) : callv (appA (k + 1)) (.fn 46 [.ptr b 0] []) [.agg [.sl wn, .sl wu]] H = (r46 (appA k) b 0 wn wu H).map fun p => (.int .i64 p.1, p.2) := rfl
theorem call47 (k : Nat) (b : Nat) (wn wu : Sl) (H : Hp) : callv (appA (k + 1)) (.fn 47 [.ptr b 0] []) [.agg [.sl wn, .sl wu]] H = (r47 b 0 wn wu H).map fun p => (.int .i64 p.1, p.2) := rfl
theorem call48 (k : Nat) (b : Nat) (wn wu : Sl) (H : Hp) : callv (appA (k + 1)) (.fn 48 [.ptr b 0] []) [.agg [.sl wn, .sl wu]] H = (r48 b 0 wn wu H).map fun p => (.int .i64 p.1, p.2) := rfl
theorem of_ok {x : Option (Int × Hp)} {y : Option (AV × Hp)} {Q : Int → Hp → Prop} (e : y = x.map fun p => (.int .i64 p.1, p.2)) (h : Lt.Ok x Q) : ∃ e C, y = some (.int .i64 e, C) ∧ Q e C := by
  obtain ⟨a, C, rfl, hq⟩ := h
  exact ⟨a, C, e, hq⟩
theorem r34_ok {k : Nat} {H : Hp} {P : Nat → Prop} {b : Nat} {s : St} {text : ByteArray} (h : StAt H P b s) (hs : s.Ok) (ht : text.size ≤ 1048576) : Lt.Ok (r34 (appA (k + 2)) b 0 text H) (DoQ H (doS s text)) := by
  unfold r34
  obtain ⟨rest, hcut⟩ := r42_sp text H ht
  refine is hcut ?_
  dsimp only
  refine Lt.Ok.bind (clone_state h hs) fun r A ⟨gA, hr0, v1, v2, v3, hst⟩ => ?_
  obtain ⟨b2, o2⟩ := r
  dsimp only at hr0 hst ⊢
  subst hr0
  unfold doS
  refine Lt.Ok.ite (fun hc => ?_) fun hc => ?_
  · rw [if_pos (show strEq (wordS text) wLeaf = true from hc)]
    refine r34_j0_ok gA hst ht (by decide +kernel) fun p hp B wn wu gB hn hu => of_ok (call44 _ _ _ _ _) ?_
    obtain ⟨a, n, rfl, _, _⟩ := read_ND hp
    exact leaf_ok (hst.gr gB) hs (by have := gA.1; have := gB.1; omega) hn hu
  rw [if_neg (show ¬ strEq (wordS text) wLeaf = true from hc)]
  refine Lt.Ok.ite (fun hc => ?_) fun hc => ?_
  · rw [if_pos (show strEq (wordS text) wGive = true from hc)]
    refine r34_j0_ok gA hst ht (by decide +kernel) fun p hp B wn wu gB hn hu => of_ok (call45 _ _ _ _ _) ?_
    obtain ⟨a, c, n, rfl, _⟩ := read_NND hp
    exact give_ok (hst.gr gB) hs (by have := gA.1; have := gB.1; omega) hn hu
  rw [if_neg (show ¬ strEq (wordS text) wGive = true from hc)]
  refine Lt.Ok.ite (fun hc => ?_) fun hc => ?_
  · rw [if_pos (show strEq (wordS text) wOrder = true from hc)]
    refine r34_j0_ok gA hst ht (by decide +kernel) fun p hp B wn wu gB hn hu => of_ok (call46 _ _ _ _ _) ?_
    obtain ⟨a, rfl⟩ := read_N hp
    exact order_ok (hst.gr gB) hs (by have := gA.1; have := gB.1; omega) hn
  rw [if_neg (show ¬ strEq (wordS text) wOrder = true from hc)]
  refine Lt.Ok.ite (fun hc => ?_) fun hc => ?_
  · rw [if_pos (show strEq (wordS text) wTaste = true from hc)]
    refine r34_j0_ok gA hst ht (by decide +kernel) fun p hp B wn wu gB hn hu => of_ok (call47 _ _ _ _ _) ?_
    obtain ⟨i, j, rfl, hi, hj⟩ := read_DD hp
    exact taste_ok (hst.gr gB) hs (by have := gA.1; have := gB.1; omega) hu hi hj
  rw [if_neg (show ¬ strEq (wordS text) wTaste = true from hc)]
  refine Lt.Ok.ite (fun hc => ?_) fun hc => ?_
  · rw [if_pos (show strEq (wordS text) wOffer = true from hc)]
    refine r34_j0_ok gA hst ht (by decide +kernel) fun p hp B wn wu gB hn hu => of_ok (call48 _ _ _ _ _) ?_
    obtain ⟨i, j, rfl, hi, hj⟩ := read_DD hp
    exact offer_ok (hst.gr gB) hs (by have := gA.1; have := gB.1; omega) hu
  rw [if_neg (show ¬ strEq (wordS text) wOffer = true from hc)]
  exact Lt.Ok.ret ⟨gA, rfl, by decide⟩
end Go.Lt.P10

namespace Go.Lt.P10
open Go Go.Lt Go.Proofs
/-! ### changes keep the bounds -/
theorem St.new_ok : St.new.Ok := ⟨by decide, by simp [St.new], by simp [St.new], by decide, by simp [St.new], by decide, by decide, by simp [St.new]⟩
theorem setStock_leaves (s : St) (i : Nat) (n : Int) : (setStock s i n).leaves = s.leaves.modify i fun l => (l.1, n) := rfl
theorem mem_modify {l : List (ByteArray × Int)} {i : Nat} {n : Int} {x : ByteArray × Int} (h : x ∈ l.modify i fun l => (l.1, n)) : x ∈ l ∨ ∃ y ∈ l, x = (y.1, n) := by
  obtain ⟨j, hj, rfl⟩ := List.mem_iff_getElem.1 h
  rw [List.length_modify] at hj
  rw [List.getElem_modify]
  split
  · exact .inr ⟨_, List.getElem_mem hj, rfl⟩
  · exact .inl (List.getElem_mem hj)
theorem setStock_ok {s : St} (h : s.Ok) (i : Nat) {n : Int} (h0 : 0 ≤ n) (h1 : n ≤ 20) : (setStock s i n).Ok where
  l6 := by rw [setStock_leaves, List.length_modify]; exact h.l6
  st := fun x hx => by
    rw [setStock_leaves] at hx
    rcases mem_modify hx with hx | ⟨y, hy, rfl⟩
    · exact h.st x hx
    · exact ⟨h0, h1⟩
  nm := fun x hx => by
    rw [setStock_leaves] at hx
    rcases mem_modify hx with hx | ⟨y, hy, rfl⟩
    · exact h.nm x hx
    · exact h.nm y hy
  o40 := h.o40
  ol := by rw [setStock_leaves, List.length_modify]; exact h.ol
  ts := h.ts
  f8 := h.f8
  fl := h.fl
theorem act_ok {s t : St} {w text form : ByteArray} {f : St → List ByteArray × List Int → Act} {r : ByteArray} (h : actS s w text form f = (.inr t, r)) : r = w ∧ ∃ p, readS form text = some p ∧ f s p = .inr t := by
  unfold actS at h
  split at h
  · cases h
  · rename_i p hp
    split at h
    · cases h
    · rename_i t' ht
      injection h with h1 h2
      injection h1 with h1
      subst h1
      exact ⟨h2.symm, p, hp, ht⟩
/-- what a change that was made was -/
theorem doS_inr {s t : St} {text w : ByteArray} (h : doS s text = (.inr t, w)) : w = wordS text ∧ ∃ form f p, readS form text = some p ∧ f s p = .inr t ∧
    (form = fND ∧ f = fLeaf ∨ form = fNND ∧ f = fGive ∨ form = fN ∧ f = fOrder ∨ form = fDD ∧ f = fTaste ∨ form = fDD ∧ f = fOffer) := by
  unfold doS at h
  split at h
  · obtain ⟨h1, p, h2, h3⟩ := act_ok h; exact ⟨h1, _, _, p, h2, h3, .inl ⟨rfl, rfl⟩⟩
  split at h
  · obtain ⟨h1, p, h2, h3⟩ := act_ok h; exact ⟨h1, _, _, p, h2, h3, .inr (.inl ⟨rfl, rfl⟩)⟩
  split at h
  · obtain ⟨h1, p, h2, h3⟩ := act_ok h; exact ⟨h1, _, _, p, h2, h3, .inr (.inr (.inl ⟨rfl, rfl⟩))⟩
  split at h
  · obtain ⟨h1, p, h2, h3⟩ := act_ok h; exact ⟨h1, _, _, p, h2, h3, .inr (.inr (.inr (.inl ⟨rfl, rfl⟩)))⟩
  split at h
  · obtain ⟨h1, p, h2, h3⟩ := act_ok h; exact ⟨h1, _, _, p, h2, h3, .inr (.inr (.inr (.inr ⟨rfl, rfl⟩)))⟩
  · cases h
theorem doS_line {s t : St} {text w : ByteArray} (h : doS s text = (.inr t, w)) : isLineS text = true := by
  obtain ⟨_, form, f, p, hr, _⟩ := doS_inr h
  unfold readS at hr
  split at hr
  · rename_i hc; exact hc.2
  · cases hr
theorem isLineS_size {s : ByteArray} (h : isLineS s = true) : s.size ≤ 60 := by
  unfold isLineS at h
  simp only [Bool.and_eq_true, decide_eq_true_eq] at h
  exact h.1.1
theorem doS_size {s t : St} {text w : ByteArray} (h : doS s text = (.inr t, w)) : text.size ≤ 60 := isLineS_size (doS_line h)
theorem wordS_size {s : ByteArray} : (wordS s).size ≤ s.size := by
  unfold wordS
  split
  · exact extract_size_le
  · exact Nat.le_refl _
theorem strEq_size {a b : ByteArray} (h : strEq a b = true) : a.size = b.size := by rw [strEq_iff.1 h]
theorem doS_ne {s t : St} {text w : ByteArray} (h : doS s text = (.inr t, w)) : strEq text (ByteArray.mk #[]) = false := by
  cases he : strEq text (ByteArray.mk #[]) with
  | false => rfl
  | true =>
    have : text = ByteArray.mk #[] := strEq_iff.1 he
    subst this
    have e : wordS (ByteArray.mk #[]) = ByteArray.mk #[] := by decide +kernel
    unfold doS at h
    rw [e, if_neg (by decide +kernel), if_neg (by decide +kernel), if_neg (by decide +kernel), if_neg (by decide +kernel), if_neg (by decide +kernel)] at h
    cases h
theorem doS_ok {s t : St} {text w : ByteArray} (hs : s.Ok) (h : doS s text = (.inr t, w)) : t.Ok := by
  obtain ⟨_, form, f, p, hr, hf, hform⟩ := doS_inr h
  rcases hform with ⟨rfl, rfl⟩ | ⟨rfl, rfl⟩ | ⟨rfl, rfl⟩ | ⟨rfl, rfl⟩ | ⟨rfl, rfl⟩
  · obtain ⟨a, n, rfl, hn, ha⟩ := read_ND hr
    have hf : leafS s a n = .inr t := hf
    unfold leafS at hf
    split at hf
    · cases hf
    split at hf
    · cases hf
    split at hf
    · cases hf
    injection hf with hf
    subst hf
    have l6 := hs.l6
    refine ⟨by simp; omega, fun x hx => ?_, fun x hx => ?_, hs.o40, fun i hi => ?_, hs.ts, hs.f8, hs.fl⟩
    · rcases List.mem_append.1 hx with hx | hx
      · exact hs.st x hx
      · simp at hx; subst hx; exact ⟨hn, by omega⟩
    · rcases List.mem_append.1 hx with hx | hx
      · exact hs.nm x hx
      · simp at hx; subst hx; exact isNameS_size ha
    · have := hs.ol i hi
      simp; omega
  · obtain ⟨a, b, n, rfl, hn⟩ := read_NND hr
    have hf : giveS s a b n = .inr t := hf
    unfold giveS at hf
    split at hf
    · rename_i i j hi hj
      split at hf
      · rename_i hc
        injection hf with hf
        subst hf
        have ri := stock_rng hs (find_lt hi)
        have rj := stock_rng hs (find_lt hj)
        exact setStock_ok (setStock_ok hs i (by omega) (by omega)) j (by omega) (by omega)
      · cases hf
    · cases hf
  · obtain ⟨a, rfl⟩ := read_N hr
    have hf : orderS s a = .inr t := hf
    unfold orderS at hf
    split at hf
    · cases hf
    · rename_i i hi
      split at hf
      · cases hf
      split at hf
      · cases hf
      injection hf with hf
      subst hf
      have ri := stock_rng hs (find_lt hi)
      have hk := setStock_ok hs i (n := stock s i - 1) (by omega) (by omega)
      have := hs.o40
      refine ⟨hk.l6, hk.st, hk.nm, by simp; omega, fun x hx => ?_, hk.ts, hk.f8, hk.fl⟩
      rcases List.mem_append.1 hx with hx | hx
      · exact hk.ol x hx
      · simp at hx; subst hx
        have := find_lt hi
        show (0 : Int) ≤ _ ∧ _ < ((setStock s i (stock s i - 1)).leaves.length : Int)
        rw [setStock_leaves, List.length_modify]; omega
  · obtain ⟨i, j, rfl, hi, hj⟩ := read_DD hr
    have hf : tasteS s i j = .inr t := hf
    unfold tasteS at hf
    split at hf
    · cases hf
    split at hf
    · cases hf
    injection hf with hf
    obtain ⟨a0, a1, a2, a3, a4⟩ := hs.ts
    subst hf
    split <;> split <;> exact ⟨hs.l6, hs.st, hs.nm, hs.o40, hs.ol, ⟨by dsimp only; omega, by dsimp only; omega, by dsimp only; omega, by dsimp only; omega, by dsimp only; omega⟩, hs.f8, hs.fl⟩
  · obtain ⟨i, j, rfl, hi, hj⟩ := read_DD hr
    have hf : offerS s i j = .inr t := hf
    unfold offerS at hf
    split at hf
    · cases hf
    split at hf
    · cases hf
    split at hf
    · cases hf
    injection hf with hf
    subst hf
    have := hs.f8
    refine ⟨hs.l6, hs.st, hs.nm, hs.o40, hs.ol, hs.ts, by simp; omega, fun x hx => ?_⟩
    rcases List.mem_append.1 hx with hx | hx
    · exact hs.fl x hx
    · simp at hx; subst hx; dsimp only; omega
/-! ### the chest -/
structure Pg where
  change : ByteArray
  parent : Nat
  st : St
structure Chs where
  pages : List Pg
  at' : Nat
def Chs.new : Chs := ⟨[⟨ByteArray.mk #[], 0, St.new⟩], 0⟩
def Chs.par (C : Chs) (i : Nat) : Nat := (C.pages[i]?.map (·.parent)).getD 0
def Chs.chg (C : Chs) (i : Nat) : ByteArray := (C.pages[i]?.map (·.change)).getD (ByteArray.mk #[])
def Chs.now (C : Chs) (i : Nat) : St := (C.pages[i]?.map (·.st)).getD St.new
def Chs.child (C : Chs) (p : Nat) (ch : ByteArray) : Option Nat := C.pages.findIdx? fun q => strEq q.change ch && (decide (q.parent = p) && !strEq q.change (ByteArray.mk #[]))
structure Chs.Ok (C : Chs) : Prop where
  one : 1 ≤ C.pages.length
  most : C.pages.length ≤ 200
  cur : C.at' < C.pages.length
  root : C.par 0 = 0 ∧ C.now 0 = St.new
  up : ∀ i, 0 < i → i < C.pages.length → C.par i < i
  st : ∀ i, i < C.pages.length → (C.now i).Ok
  did : ∀ i, 0 < i → i < C.pages.length → ∃ w, doS (C.now (C.par i)) (C.chg i) = (.inr (C.now i), w)
  uq : ∀ i, 0 < i → i < C.pages.length → C.child (C.par i) (C.chg i) = some i
  rc : C.chg 0 = ByteArray.mk #[]
/-- Do -/
def Chs.do (C : Chs) (line : ByteArray) : Chs × ByteArray × Int :=
  match doS (C.now C.at') line with
  | (.inl e, _) => (C, ByteArray.mk #[], e)
  | (.inr s, w) => match C.child C.at' line with
    | some i => (⟨C.pages, i⟩, w, 0)
    | none => if C.pages.length = 200 then (C, ByteArray.mk #[], 7) else (⟨C.pages ++ [⟨line, C.at', s⟩], C.pages.length⟩, w, 0)
def Chs.go (C : Chs) (n : Int) : Chs × Int := if 0 ≤ n ∧ n < C.pages.length then (⟨C.pages, n.toNat⟩, 0) else (C, 2)
/-- from a page up to page 0, without it -/
def Chs.ups (C : Chs) : Nat → Nat → List Nat
  | 0, _ => []
  | k + 1, p => if p = 0 then [] else p :: C.ups k (C.par p)
def Chs.way (C : Chs) (p : Nat) : List Nat := (C.ups C.pages.length p).reverse
def Chs.anc (C : Chs) : Nat → Nat → Nat
  | 0, p => p
  | k + 1, p => C.anc k (C.par p)
def Chs.back (C : Chs) (n : Int) : Chs × Int := if n < 0 then (C, 2) else if (C.way C.at').length < n then (C, 4) else (⟨C.pages, C.anc n.toNat C.at'⟩, 0)
theorem Chs.new_ok : Chs.new.Ok where
  one := by decide
  most := by decide
  cur := by decide
  root := ⟨rfl, rfl⟩
  up := fun i h1 h2 => by have : i < 1 := h2; omega
  st := fun i h => by
    have : i = 0 := by have : i < 1 := h; omega
    subst this; exact St.new_ok
  did := fun i h1 h2 => by have : i < 1 := h2; omega
  uq := fun i h1 h2 => by have : i < 1 := h2; omega
  rc := rfl
theorem Chs.child_lt {C : Chs} {p : Nat} {ch : ByteArray} {i : Nat} (h : C.child p ch = some i) : i < C.pages.length := (List.findIdx?_eq_some_iff_getElem.1 h).1
theorem Chs.child_is {C : Chs} {p : Nat} {ch : ByteArray} {i : Nat} (h : C.child p ch = some i) : C.par i = p ∧ C.chg i = ch := by
  obtain ⟨hi, hp, _⟩ := List.findIdx?_eq_some_iff_getElem.1 h
  simp only [Bool.and_eq_true, decide_eq_true_eq] at hp
  unfold Chs.par Chs.chg
  rw [List.getElem?_eq_getElem hi]
  exact ⟨hp.2.1, strEq_iff.1 hp.1⟩
theorem Chs.do_ok {C : Chs} (h : C.Ok) (line : ByteArray) : (C.do line).1.Ok := by
  unfold Chs.do
  split
  · exact h
  · rename_i s w hd
    split
    · rename_i i hi
      exact ⟨h.one, h.most, C.child_lt hi, h.root, h.up, h.st, h.did, h.uq, h.rc⟩
    · rename_i hc
      split
      · exact h
      · rename_i h200
        have h1 := h.one; have hm := h.most; have hcur := h.cur
        have old : ∀ i, i < C.pages.length → (C.pages ++ [(⟨line, C.at', s⟩ : Pg)])[i]? = C.pages[i]? := fun i hi => List.getElem?_append_left hi
        have new : (C.pages ++ [(⟨line, C.at', s⟩ : Pg)])[C.pages.length]? = some ⟨line, C.at', s⟩ := by simp
        generalize hD : (⟨C.pages ++ [(⟨line, C.at', s⟩ : Pg)], C.pages.length⟩ : Chs) = D
        have hDp : D.pages = C.pages ++ [(⟨line, C.at', s⟩ : Pg)] := by rw [← hD]
        have par_old : ∀ i, i < C.pages.length → D.par i = C.par i := fun i hi => by unfold Chs.par; rw [hDp, old i hi]
        have chg_old : ∀ i, i < C.pages.length → D.chg i = C.chg i := fun i hi => by unfold Chs.chg; rw [hDp, old i hi]
        have now_old : ∀ i, i < C.pages.length → D.now i = C.now i := fun i hi => by unfold Chs.now; rw [hDp, old i hi]
        have par_new : D.par C.pages.length = C.at' := by unfold Chs.par; rw [hDp, new]; rfl
        have chg_new : D.chg C.pages.length = line := by unfold Chs.chg; rw [hDp, new]; rfl
        have now_new : D.now C.pages.length = s := by unfold Chs.now; rw [hDp, new]; rfl
        have len : D.pages.length = C.pages.length + 1 := by rw [hDp]; simp
        have child_old : ∀ p ch i, C.child p ch = some i → D.child p ch = some i := fun p ch i hi => by
          unfold Chs.child at hi ⊢
          rw [hDp, List.findIdx?_append, hi]; rfl
        show D.Ok
        refine ⟨by omega, by omega, by rw [← hD]; simp, ⟨by rw [par_old 0 (by omega)]; exact h.root.1, by rw [now_old 0 (by omega)]; exact h.root.2⟩, fun i hi hl => ?_, fun i hl => ?_, fun i hi hl => ?_, fun i hi hl => ?_, by rw [chg_old 0 (by omega)]; exact h.rc⟩
        · by_cases e : i = C.pages.length
          · subst e; rw [par_new]; exact hcur
          · rw [par_old i (by omega)]; exact h.up i hi (by omega)
        · by_cases e : i = C.pages.length
          · subst e; rw [now_new]; exact doS_ok (h.st _ hcur) hd
          · rw [now_old i (by omega)]; exact h.st i (by omega)
        · by_cases e : i = C.pages.length
          · subst e; rw [par_new, chg_new, now_new, now_old _ hcur]; exact ⟨w, hd⟩
          · have := h.up i hi (by omega)
            rw [par_old i (by omega), chg_old i (by omega), now_old i (by omega), now_old _ (by omega)]; exact h.did i hi (by omega)
        · by_cases e : i = C.pages.length
          · subst e
            rw [par_new, chg_new]
            unfold Chs.child at hc ⊢
            rw [hDp, List.findIdx?_append, hc]
            have hne := doS_ne hd
            have hself : strEq line line = true := strEq_iff.2 rfl
            simp [List.findIdx?_cons, hne, hself]
          · rw [par_old i (by omega), chg_old i (by omega)]; exact child_old _ _ _ (h.uq i hi (by omega))
theorem Chs.go_ok {C : Chs} (h : C.Ok) (n : Int) : (C.go n).1.Ok := by
  unfold Chs.go
  split
  · rename_i hc
    exact ⟨h.one, h.most, by dsimp only; omega, h.root, h.up, h.st, h.did, h.uq, h.rc⟩
  · exact h
theorem Chs.par_le {C : Chs} (h : C.Ok) (p : Nat) : C.par p ≤ p := by
  by_cases h0 : p = 0
  · subst h0; rw [h.root.1]; exact Nat.le_refl _
  · by_cases hl : p < C.pages.length
    · exact Nat.le_of_lt (h.up p (by omega) hl)
    · unfold Chs.par; rw [List.getElem?_eq_none (by omega)]; simp
theorem Chs.anc_le {C : Chs} (h : C.Ok) : ∀ k p, C.anc k p ≤ p
  | 0, p => Nat.le_refl _
  | k + 1, p => Nat.le_trans (C.anc_le h k (C.par p)) (C.par_le h p)
theorem Chs.back_ok {C : Chs} (h : C.Ok) (n : Int) : (C.back n).1.Ok := by
  unfold Chs.back
  split
  · exact h
  · split
    · exact h
    · exact ⟨h.one, h.most, Nat.lt_of_le_of_lt (C.anc_le h _ _) h.cur, h.root, h.up, h.st, h.did, h.uq, h.rc⟩
end Go.Lt.P10
