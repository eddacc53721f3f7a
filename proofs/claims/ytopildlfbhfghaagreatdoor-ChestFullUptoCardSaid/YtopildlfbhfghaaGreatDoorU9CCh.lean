/- PLAIN LAWS OF WHAT IS COMPUTED, for the statement 'ChestFull'. Nothing is asked of the input. -/
import Derived.Test.YtopildlfbhfghaaGreatDoorU9CRb
set_option linter.unusedVariables false
set_option linter.unusedSimpArgs false
set_option maxHeartbeats 4000000
namespace Go.Lt.P10
open Go Go.Lt Go.Proofs
/-! ### a state of the reference's own: lists that began as empty literals -/
def emS : Sl := ⟨false, 0, 0, 0, 0, 0⟩
section
variable {T : Type} [El T]
def AccE (n0 : Nat) (H : Hp) (v : Sl) (l : List T) : Prop := (v = emS ∧ l = []) ∨ (AccL n0 H v l ∧ v.nil = false ∧ l ≠ [])
theorem SL.emS {H : Hp} : SL (T := T) H emS [] := ⟨⟨by simp [P10.emS], rfl⟩, Nat.le_refl _, .inl rfl, fun h => by cases h⟩
theorem AccE.sl {n0 : Nat} {H : Hp} {v : Sl} {l : List T} (h : AccE n0 H v l) : SL H v l := by
  rcases h with ⟨rfl, rfl⟩ | ⟨h, _⟩
  · exact SL.emS
  · exact h.sl
theorem AccE.lt {n0 : Nat} {H : Hp} {v : Sl} {l : List T} (h : AccE n0 H v l) (hn : v.len ≠ 0) : v.b < H.n := by
  rcases h with ⟨rfl, rfl⟩ | ⟨h, h2, _⟩
  · exact absurd rfl hn
  · exact Acc.lt h h2
theorem AccE.ge {n0 : Nat} {H : Hp} {v : Sl} {l : List T} (h : AccE n0 H v l) (hn : v.len ≠ 0) : n0 ≤ v.b := by
  rcases h with ⟨rfl, rfl⟩ | ⟨h, h2, _⟩
  · exact absurd rfl hn
  · exact Acc.ge h h2
theorem AccE.keep {n0 : Nat} {H H' : Hp} {v : Sl} {l : List T} (h : AccE n0 H v l) (e : v.len ≠ 0 → H'.get v.b = H.get v.b) : AccE n0 H' v l := by
  rcases h with h | ⟨h, h2, h3⟩
  · exact .inl h
  · have : v.len ≠ 0 := by
      rw [h.sl.len]
      exact fun q => h3 (List.length_eq_zero_iff.1 q)
    exact .inr ⟨Acc.keep h fun _ => e this, h2, h3⟩
theorem AccE.gr {n0 : Nat} {H H' : Hp} {v : Sl} {l : List T} (h : AccE n0 H v l) (g : Gr H H') : AccE n0 H' v l := h.keep fun q => g.2 _ (h.lt q)
theorem AccE.up {n0 n1 : Nat} {H : Hp} {v : Sl} {l : List T} (h : AccE n0 H v l) (hn : v.len ≠ 0 → n1 ≤ v.b) : AccE n1 H v l := by
  rcases h with h | ⟨h, h2, h3⟩
  · exact .inl h
  · have : v.len ≠ 0 := by
      rw [h.sl.len]
      exact fun q => h3 (List.length_eq_zero_iff.1 q)
    refine .inr ⟨?_, h2, h3⟩
    rcases h with ⟨rfl, _⟩ | ⟨a, b, c, d, e, f, g⟩
    · cases h2
    · exact .inr ⟨a, b, c, d, hn this, f, g⟩
theorem AccE.push {n0 : Nat} {H : Hp} {v : Sl} {l : List T} (h : AccE n0 H v l) (hn : n0 ≤ H.n) (x : T) {es : Nat} {cs : List AV} (hes : es = El.sz T) (hcs : cs = El.enc x) (hb : l.length < 4294967296) :
    Lt.Ok (H.apN es v cs 1) fun v' H' => AccE n0 H' v' (l ++ [x]) ∧ H.n ≤ H'.n ∧ (∀ b, b < H.n → (v.len ≠ 0 → b ≠ v.b) → H'.get b = H.get b) ∧ H.n ≤ v'.b := by
  rcases h with ⟨rfl, rfl⟩ | ⟨h, h2, h3⟩
  · subst hes; subst hcs
    unfold Hp.apN Hp.app
    rw [if_pos (by decide), if_neg (by decide)]
    simp only [P10.emS, Nat.zero_mul, Hp.lds, Option.bind_some, if_true, List.nil_append, Nat.zero_add]
    refine Lt.Ok.ret ⟨.inr ⟨.inr ⟨rfl, rfl, rfl, rfl, ?_, ?_, ?_⟩, rfl, by simp⟩, ?_, ?_, ?_⟩
    · show n0 ≤ (H.push (.cells (El.enc x) false)).n; simp; omega
    · rw [encs_one]; exact Hp.get_push_new _ _
    · rw [encs_one, El.len]; simp
    · simp; omega
    · intro b hb _
      rw [Hp.get_push_old _ _ (by simp; omega), Hp.get_push_old _ _ hb]
    · show H.n ≤ (H.push (.cells (El.enc x) false)).n; simp
  · refine (AccL.push0 h hn x hes hcs hb).mono fun v' H' ⟨a, b, c, d⟩ => ?_
    have l1 := a.sl.len; have l2 := h.sl.len
    refine ⟨.inr ⟨a, d, by simp⟩, b.1, fun b' hb' hq => b.2 b' hb' fun _ => hq (by rw [l2]; exact fun q => h3 (List.length_eq_zero_iff.1 q)), ?_⟩
    rcases c with rfl | c
    · simp at l1; omega
    · exact c
theorem AccE.copy {H : Hp} {v : Sl} {l : List T} (h : SL H v l) (hb : l.length ≤ 4294967296) {es : Nat} (hes : es = El.sz T) :
    Lt.Ok (H.app es emS (encs l) v.len) fun w H' => Gr H H' ∧ AccE H.n H' w l := by
  subst hes
  have hl := h.len
  unfold Hp.app
  rw [if_pos (by show 0 + v.len ≤ _; omega)]
  by_cases h0 : l = []
  · subst h0
    have : v.len = 0 := hl
    rw [if_pos (by show 0 + v.len ≤ 0; omega), if_neg (by simp [P10.emS]), this]
    exact Lt.Ok.ret ⟨.refl _, .inl ⟨rfl, rfl⟩⟩
  · have : 0 < l.length := List.length_pos_iff.2 h0
    rw [if_neg (by show ¬ 0 + v.len ≤ 0; omega)]
    simp only [P10.emS, Nat.zero_mul, Hp.lds, Option.bind_some, if_true, List.nil_append, Nat.zero_add]
    exact Lt.Ok.ret ⟨.push _ _, .inr ⟨.inr ⟨rfl, rfl, rfl, rfl, Nat.le_refl _, Hp.get_push_new _ _, by rw [encs_len, hl]⟩, rfl, h0⟩⟩
end
structure StE (H : Hp) (n0 b : Nat) (s : St) (v1 v2 v3 : Sl) : Prop where
  get : H.get b = some (.cells (stCells v1 v2 v3 s) false)
  lo : n0 ≤ b
  a1 : AccE n0 H v1 s.leaves
  a2 : AccE n0 H v2 s.orders
  a3 : AccE n0 H v3 s.offers
  b1 : v1.len ≠ 0 → v1.b ≠ b
  b2 : v2.len ≠ 0 → v2.b ≠ b
  b3 : v3.len ≠ 0 → v3.b ≠ b
  d12 : v1.len ≠ 0 → v2.len ≠ 0 → v1.b ≠ v2.b
  d13 : v1.len ≠ 0 → v3.len ≠ 0 → v1.b ≠ v3.b
  d23 : v2.len ≠ 0 → v3.len ≠ 0 → v2.b ≠ v3.b
theorem StE.gr {H H' : Hp} {n0 b : Nat} {s : St} {v1 v2 v3 : Sl} (h : StE H n0 b s v1 v2 v3) (g : Gr H H') : StE H' n0 b s v1 v2 v3 :=
  ⟨by rw [g.2 _ (Hp.get_lt h.get)]; exact h.get, h.lo, h.a1.gr g, h.a2.gr g, h.a3.gr g, h.b1, h.b2, h.b3, h.d12, h.d13, h.d23⟩
section
variable {α : Type} {Q : α → Hp → Prop} {A : Hp} {n0 b : Nat} {s : St} {v1 v2 v3 : Sl}
theorem StE.push1 (h : StE A n0 b s v1 v2 v3) (hn : n0 ≤ A.n) (x : ByteArray) (n : Int) (hb : s.leaves.length < 4294967296) {f : Hp → Option (α × Hp)}
    (k : ∀ A' v1', StE A' n0 b { s with leaves := s.leaves ++ [(x, n)] } v1' v2 v3 → Old n0 A A' → Lt.Ok (f A') Q) : Lt.Ok ((A.apN 2 v1 [.str x, .int .i64 n] 1).bind fun y => (y.2.st b (0 + 0) (.sl y.1)).bind f) Q := by
  refine Lt.Ok.bind (AccE.push h.a1 hn (x, n) rfl rfl hb) fun v1' A1 ⟨h1, h2, h3, h4⟩ => ?_
  have hlt := Hp.get_lt h.get
  have hg : A1.get b = _ := (h3 b hlt fun q => (h.b1 q).symm).trans h.get
  refine Lt.Ok.st hg (by simp [stCells]) fun A' e hg' => ?_
  subst e
  have oth : ∀ c, c ≠ b → (A1.set b (.cells ((stCells v1 v2 v3 s).set (0 + 0) (.sl v1')) false)).get c = A1.get c := fun c hc => Hp.get_set_other _ _ hc
  have v1b : v1'.b ≠ b := by omega
  have lo := h.lo
  refine k _ v1' ⟨hg', h.lo, h1.keep fun q => oth _ v1b, h.a2.keep fun q => ?_, h.a3.keep fun q => ?_, fun _ => v1b, h.b2, h.b3, fun q q2 => ?_, fun q q2 => ?_, h.d23⟩ ⟨by simp; omega, fun c hc => ?_⟩
  · rw [oth _ (h.b2 q), h3 _ (h.a2.lt q) fun q1 => (h.d12 q1 q).symm]
  · rw [oth _ (h.b3 q), h3 _ (h.a3.lt q) fun q1 => (h.d13 q1 q).symm]
  · have := h.a2.lt q2; omega
  · have := h.a3.lt q2; omega
  · rw [oth _ (by omega), h3 c (by omega) fun q => by have := h.a1.ge q; omega]
theorem StE.push2 (h : StE A n0 b s v1 v2 v3) (hn : n0 ≤ A.n) (n : Int) (hb : s.orders.length < 4294967296) {f : Hp → Option (α × Hp)}
    (k : ∀ A' v2', StE A' n0 b { s with orders := s.orders ++ [n] } v1 v2' v3 → Old n0 A A' → Lt.Ok (f A') Q) : Lt.Ok ((A.apN 1 v2 [.int .i64 n] 1).bind fun y => (y.2.st b (0 + 1) (.sl y.1)).bind f) Q := by
  refine Lt.Ok.bind (AccE.push h.a2 hn n rfl rfl hb) fun v2' A1 ⟨h1, h2, h3, h4⟩ => ?_
  have hlt := Hp.get_lt h.get
  have hg : A1.get b = _ := (h3 b hlt fun q => (h.b2 q).symm).trans h.get
  refine Lt.Ok.st hg (by simp [stCells]) fun A' e hg' => ?_
  subst e
  have oth : ∀ c, c ≠ b → (A1.set b (.cells ((stCells v1 v2 v3 s).set (0 + 1) (.sl v2')) false)).get c = A1.get c := fun c hc => Hp.get_set_other _ _ hc
  have v2b : v2'.b ≠ b := by omega
  have lo := h.lo
  refine k _ v2' ⟨hg', h.lo, h.a1.keep fun q => ?_, h1.keep fun q => oth _ v2b, h.a3.keep fun q => ?_, h.b1, fun _ => v2b, h.b3, fun q q2 => ?_, h.d13, fun q q2 => ?_⟩ ⟨by simp; omega, fun c hc => ?_⟩
  · rw [oth _ (h.b1 q), h3 _ (h.a1.lt q) fun q1 => (h.d12 q q1)]
  · rw [oth _ (h.b3 q), h3 _ (h.a3.lt q) fun q1 => (h.d23 q1 q).symm]
  · have := h.a1.lt q; omega
  · have := h.a3.lt q2; omega
  · rw [oth _ (by omega), h3 c (by omega) fun q => by have := h.a2.ge q; omega]
theorem StE.push3 (h : StE A n0 b s v1 v2 v3) (hn : n0 ≤ A.n) (x y : Int) (hb : s.offers.length < 4294967296) {f : Hp → Option (α × Hp)}
    (k : ∀ A' v3', StE A' n0 b { s with offers := s.offers ++ [(x, y)] } v1 v2 v3' → Old n0 A A' → Lt.Ok (f A') Q) : Lt.Ok ((A.apN 2 v3 [.int .i64 x, .int .i64 y] 1).bind fun y => (y.2.st b (0 + 6) (.sl y.1)).bind f) Q := by
  refine Lt.Ok.bind (AccE.push h.a3 hn (x, y) rfl rfl hb) fun v3' A1 ⟨h1, h2, h3, h4⟩ => ?_
  have hlt := Hp.get_lt h.get
  have hg : A1.get b = _ := (h3 b hlt fun q => (h.b3 q).symm).trans h.get
  refine Lt.Ok.st hg (by simp [stCells]) fun A' e hg' => ?_
  subst e
  have oth : ∀ c, c ≠ b → (A1.set b (.cells ((stCells v1 v2 v3 s).set (0 + 6) (.sl v3')) false)).get c = A1.get c := fun c hc => Hp.get_set_other _ _ hc
  have v3b : v3'.b ≠ b := by omega
  have lo := h.lo
  refine k _ v3' ⟨hg', h.lo, h.a1.keep fun q => ?_, h.a2.keep fun q => ?_, h1.keep fun q => oth _ v3b, h.b1, h.b2, fun _ => v3b, h.d12, fun q q2 => ?_, fun q q2 => ?_⟩ ⟨by simp; omega, fun c hc => ?_⟩
  · rw [oth _ (h.b1 q), h3 _ (h.a1.lt q) fun q1 => (h.d13 q q1)]
  · rw [oth _ (h.b2 q), h3 _ (h.a2.lt q) fun q1 => (h.d23 q q1)]
  · have := h.a1.lt q; omega
  · have := h.a2.lt q; omega
  · rw [oth _ (by omega), h3 c (by omega) fun q => by have := h.a3.ge q; omega]
theorem StE.putT (h : StE A n0 b s v1 v2 v3) {o : Nat} {n : Int} {s' : St} (e : (stCells v1 v2 v3 s).set o (.int .i64 n) = stCells v1 v2 v3 s') (e1 : s'.leaves = s.leaves) (e2 : s'.orders = s.orders) (e3 : s'.offers = s.offers) (ho : o < 7) {f : Hp → Option (α × Hp)}
    (k : ∀ A', StE A' n0 b s' v1 v2 v3 → Old n0 A A' → Lt.Ok (f A') Q) : Lt.Ok ((A.st b o (.int .i64 n)).bind f) Q := by
  refine Lt.Ok.st h.get (by simp [stCells]; omega) fun A' e' hg' => ?_
  subst e'
  have oth : ∀ c, c ≠ b → (A.set b (.cells ((stCells v1 v2 v3 s).set o (.int .i64 n)) false)).get c = A.get c := fun c hc => Hp.get_set_other _ _ hc
  have lo := h.lo
  refine k _ ⟨by rw [hg', e], h.lo, ?_, ?_, ?_, h.b1, h.b2, h.b3, h.d12, h.d13, h.d23⟩ ⟨by simp, fun c hc => oth _ (by omega)⟩
  · rw [e1]; exact h.a1.keep fun q => oth _ (h.b1 q)
  · rw [e2]; exact h.a2.keep fun q => oth _ (h.b2 q)
  · rw [e3]; exact h.a3.keep fun q => oth _ (h.b3 q)
theorem StE.putS (h : StE A n0 b s v1 v2 v3) {i : Nat} (n : Int) (hi : i < s.leaves.length) {f : Hp → Option (α × Hp)}
    (k : ∀ A', StE A' n0 b (setStock s i n) v1 v2 v3 → Old n0 A A' → (∀ c, c ≠ v1.b → A'.get c = A.get c) → Lt.Ok (f A') Q) : Lt.Ok ((A.st v1.b (v1.o + i * 2 + 1) (.int .i64 n)).bind f) Q := by
  have hl := h.a1.sl.len
  have hl0 : v1.len ≠ 0 := by omega
  obtain ⟨q1, q2, q3, q4, q5, q6, q7⟩ : v1.nil = false ∧ v1.o = 0 ∧ v1.opn = 2 ∧ v1.cap = v1.len ∧ n0 ≤ v1.b ∧ A.get v1.b = some (.cells (encs s.leaves) false) ∧ (encs s.leaves).length = v1.len * 2 := by
    rcases h.a1 with ⟨e, _⟩ | ⟨q, hn, _⟩
    · rw [e] at hl0; exact absurd rfl hl0
    · rcases q with ⟨e, _⟩ | q
      · rw [e] at hn; cases hn
      · exact q
  rw [q2, Nat.zero_add]
  refine Lt.Ok.st q6 (by omega) fun A' e hg' => ?_
  subst e
  have hg2 : (A.set v1.b (.cells ((encs s.leaves).set (i * 2 + 1) (.int .i64 n)) false)).get v1.b = some (.cells (encs (setStock s i n).leaves) false) := by rw [hg', encs_leaf _ _ _ hi]; rfl
  have oth : ∀ c, c ≠ v1.b → (A.set v1.b (.cells ((encs s.leaves).set (i * 2 + 1) (.int .i64 n)) false)).get c = A.get c := fun c hc => Hp.get_set_other _ _ hc
  have hb1 := h.b1 hl0
  refine k _ ⟨by rw [oth _ hb1.symm]; exact h.get, h.lo, .inr ⟨.inr ⟨q1, q2, q3, q4, q5, hg2, by rw [encs_len]; simp [setStock, hl]⟩, q1, fun e => ?_⟩, h.a2.keep fun q => oth _ (h.d12 hl0 q).symm, h.a3.keep fun q => oth _ (h.d13 hl0 q).symm, h.b1, h.b2, h.b3, h.d12, h.d13, h.d23⟩ ⟨by simp, fun c hc => oth _ (by omega)⟩ oth
  have e1 : (s.leaves.modify i fun l => (l.1, n)) = [] := e
  have : (s.leaves.modify i fun l => (l.1, n)).length = 0 := by rw [e1]; rfl
  rw [List.length_modify] at this
  omega
end
/-! ### parts of the reference's Do -/
theorem tmpN (A : Hp) (zs xs : List AV) (h : zs.length = xs.length) : ∃ A2, (A.push (.cells zs false)).sts A.n 0 xs = some A2 ∧ Gr A A2 ∧ A2.get A.n = some (.cells xs false) := by
  obtain ⟨A2, h1, h2, h3, h4⟩ := sts_blk xs 0 (A.push (.cells zs false)) zs (Hp.get_push_new _ _) (by omega)
  refine ⟨A2, h1, ⟨by rw [h3]; simp, fun c hc => by rw [h4 c (by omega), Hp.get_push_old _ _ hc]⟩, ?_⟩
  rw [h2, Nat.zero_add, List.drop_of_length_le (by omega)]
  simp
theorem ldStr_get {H : Hp} {b o : Nat} {cs : List AV} {ro : Bool} {n : ByteArray} (h : H.get b = some (.cells cs ro)) (e : cs[o]? = some (.str n)) : H.ldStr b o = some n := by
  unfold Hp.ldStr
  rw [ld_of_get h, e]
  rfl
theorem leaf_okR {H : Hp} {v1 v2 v3 : Sl} {a b c d : Int} {l : List (ByteArray × Int)} (h : SL H v1 l) (hb : l.length ≤ 1048577) (x : ByteArray) :
    Lt.Ok (r141 v1 v2 a b c d v3 x H) fun r A => Gr H A ∧ r = idxI (l.findIdx? fun y => strEq y.1 x) := by
  unfold r141
  have g0 := Gr.push H (.cells [.sl v1, .sl v2, .int .i64 a, .int .i64 b, .int .i64 c, .int .i64 d, .sl v3] false)
  refine Lt.Ok.lt (Lt.Ok.ld (ldSl_get (Hp.get_push_new _ _) rfl) ?_)
  have hl := h.len
  have h' := h.gr g0
  refine (idx_ok (L := fun K i A => r141_l0 K x v1 (v1.len : Int) i A) (H0 := H.push (.cells [.sl v1, .sl v2, .int .i64 a, .int .i64 b, .int .i64 c, .int .i64 d, .sl v3] false)) (l := l) (fun y => strEq y.1 x) (by omega) (fun K i A Q hi g k1 k2 => ?_) fun K A Q g k => ?_).mono fun r A ⟨g, e⟩ => ⟨g0.trans g, e⟩
  · rw [r141_l0]
    refine Lt.Ok.pos (by omega) (Lt.Ok.ck (by omega) ?_)
    refine Lt.Ok.ld (SL.ldStr (h'.gr g) (i := i) (j := 0) (n := l[i].1) hi rfl) (Lt.Ok.ld ((h'.gr g).ldI (i := i) (j := 1) (n := l[i].2) hi rfl) ?_)
    obtain ⟨A2, e1, g2, e2⟩ := tmpN A [.str (ByteArray.mk #[]), .int .i64 0] [.str l[i].1, .int .i64 l[i].2] rfl
    refine Lt.Ok.ld e1 (Lt.Ok.ld (ldStr_get e2 rfl) ?_)
    refine Lt.Ok.ite (fun hq => Lt.Ok.ret (k1 A2 g2 hq)) fun hq => ?_
    rw [w64_succ (by omega)]
    exact k2 A2 g2 (by simpa using hq)
  · rw [r141_l0]
    exact Lt.Ok.neg (by omega) (Lt.Ok.ret k)
theorem stocks_ok {H : Hp} {v1 v2 v3 : Sl} {a b c d : Int} {l : List (ByteArray × Int)} (h : SL H v1 l) (hb : l.length ≤ 1048577) :
    Lt.Ok (r143 v1 v2 a b c d v3 H) fun r A => Gr H A ∧ SL A r (l.map (·.2)) := by
  unfold r143
  have g0 := Gr.push H (.cells [.sl v1, .sl v2, .int .i64 a, .int .i64 b, .int .i64 c, .int .i64 d, .sl v3] false)
  refine Lt.Ok.lt (Lt.Ok.ld (ldSl_get (Hp.get_push_new _ _) rfl) ?_)
  have hl := h.len
  refine Lt.Ok.loop (L := fun K (t : Sl × Int) A => r143_l0 K t.1 v1 (v1.len : Int) t.2 A) (fun m t A => ∃ i : Nat, t.2 = (i : Int) ∧ i + m = l.length ∧ Gr H A ∧ AccN H.n A t.1 ((l.take i).map (·.2))) ?_ FUEL l.length (⟨true, 0, 0, 0, 0, 0⟩, 0) _ (by unfold FUEL; omega) ⟨0, rfl, by omega, g0, ⟨AccL.nilS, fun _ => rfl⟩⟩
  rintro K m ⟨r, i'⟩ A ⟨i, hi, him, g, ha⟩ ih
  dsimp only at *
  subst hi
  rw [r143_l0]
  refine Lt.Ok.ite (fun hlt => ?_) fun hlt => ?_
  · have hil : i < l.length := by omega
    refine Lt.Ok.ck (by omega) ?_
    refine Lt.Ok.ld (SL.ldStr (h.gr g) (i := i) (j := 0) (n := l[i].1) hil rfl) (Lt.Ok.ld ((h.gr g).ldI (i := i) (j := 1) (n := l[i].2) hil rfl) ?_)
    obtain ⟨A2, e1, g2, e2⟩ := tmpN A [.str (ByteArray.mk #[]), .int .i64 0] [.str l[i].1, .int .i64 l[i].2] rfl
    refine Lt.Ok.ld e1 (Lt.Ok.ld (ldI_get e2 rfl) ?_)
    refine Lt.Ok.bind (AccN.push (ha.gr g2) (g.trans g2).1 l[i].2 rfl rfl (by simp; omega)) fun r' B ⟨k1, k2, k3, k4⟩ => ?_
    dsimp only
    rw [w64_succ (by omega)]
    refine ih (m - 1) (r', _) B (by omega) ⟨i + 1, rfl, by omega, But.gr k2 (ha.gr g2).1 (g.trans g2), ?_⟩
    rw [List.take_succ_eq_append_getElem hil, List.map_append]
    exact k1
  · have : i = l.length := by omega
    subst this
    rw [List.take_length] at ha
    exact Lt.Ok.ret ⟨g, ha.1.sl⟩
theorem given_ok {H : Hp} {v w : Sl} {l : List Int} {i j : Nat} {n : Int} (hv : SL H v l) (hw : SL H w [((i : Int), (j : Int), n)]) (hi : i < l.length) (hj : j < l.length) (hb : l.length ≤ 1048577) (hx : ∀ e ∈ l, 0 ≤ e ∧ e ≤ 20) :
    Lt.Ok (r142 v w H) fun r A => Gr H A ∧ r.2 = decide (i ≠ j ∧ 1 ≤ n ∧ n ≤ 20 ∧ 2 * n ≤ l[i] - l[j]) ∧ (r.2 = true → SL A r.1 ((l.set i (l[i] - n)).set j (l[j] + n)) ∧ H.n ≤ r.1.b) := by
  have hl := hv.len
  have hwl : w.len = 1 := hw.len
  obtain ⟨i0, i1⟩ := hx _ (List.getElem_mem hi)
  obtain ⟨j0, j1⟩ := hx _ (List.getElem_mem hj)
  unfold r142
  have g0 := Gr.push H (.cells [] false)
  refine Lt.Ok.ld (hv.gr g0).lds (Lt.Ok.ck (encs_all _) ?_)
  have e0 : (H.push (.cells [] false)).app 1 ⟨false, H.n, 0, 0, 0, 0⟩ (encs l) v.len = some (⟨false, H.n + 1, 0, v.len, v.len, 1⟩, (H.push (.cells [] false)).push (.cells (encs l) false)) := by
    unfold Hp.app
    rw [if_pos (by show 0 + v.len ≤ _; omega), if_neg (by show ¬ 0 + v.len ≤ 0; omega)]
    simp [Hp.lds]
  refine Lt.Ok.ld e0 ?_
  dsimp only
  have g1 : Gr H ((H.push (.cells [] false)).push (.cells (encs l) false)) := g0.trans (Gr.push _ _)
  have hg1 : ((H.push (.cells [] false)).push (.cells (encs l) false)).get (H.n + 1) = some (.cells (encs l) false) := by
    have := Hp.get_push_new (H.push (.cells [] false)) (.cells (encs l) false)
    simpa using this
  generalize hH1 : (H.push (.cells [] false)).push (.cells (encs l) false) = H1 at g1 hg1 ⊢
  rw [hwl]
  obtain ⟨K, hK⟩ : ∃ K, FUEL = K + 2 := ⟨FUEL - 2, by unfold FUEL; omega⟩
  rw [hK, r142_l0]
  have hw1 := hw.gr g1
  refine Lt.Ok.pos (by omega) (Lt.Ok.ck (by omega) ?_)
  refine Lt.Ok.ld (hw1.ldI (i := 0) (j := 0) (n := (i : Int)) (by simp) rfl) (Lt.Ok.ld (hw1.ldI (i := 0) (j := 1) (n := (j : Int)) (by simp) rfl) (Lt.Ok.ld (hw1.ldI (i := 0) (j := 2) (n := n) (by simp) rfl) ?_))
  obtain ⟨A, e1, g2, e2⟩ := tmpN H1 [.int .i64 0, .int .i64 0, .int .i64 0] [.int .i64 (i : Int), .int .i64 (j : Int), .int .i64 n] rfl
  have gA := g1.trans g2
  have hgA : A.get (H.n + 1) = some (.cells (encs l) false) := by rw [g2.2 _ (Hp.get_lt hg1)]; exact hg1
  have slA : SL A ⟨false, H.n + 1, 0, v.len, v.len, 1⟩ l := SL.of_get hgA rfl hl (Nat.le_refl _) (.inr rfl) rfl
  refine Lt.Ok.ld e1 ?_
  refine Lt.Ok.ld (ldI_get e2 rfl) (Lt.Ok.neg (by omega) ?_)
  refine Lt.Ok.ld (ldI_get e2 rfl) (Lt.Ok.neg (by show ¬ (v.len : Int) ≤ _; omega) ?_)
  refine Lt.Ok.ld (ldI_get e2 rfl) (Lt.Ok.neg (by omega) ?_)
  refine Lt.Ok.ld (ldI_get e2 rfl) (Lt.Ok.neg (by show ¬ (v.len : Int) ≤ _; omega) ?_)
  refine Lt.Ok.ld (ldI_get e2 rfl) (Lt.Ok.ld (ldI_get e2 rfl) ?_)
  have bad : ∀ {Q : Prop} [Decidable Q], ¬ Q → Lt.Ok (r142_j1 (fun v1_ v2_ v3_ v4_ H_ => r142_l0 (K + 1) v1_ v2_ v3_ v4_ H_) ⟨false, H.n + 1, 0, v.len, v.len, 1⟩ H1.n w ((1 : Nat) : Int) 0 true A) fun r A => Gr H A ∧ r.2 = decide Q ∧ (r.2 = true → SL A r.1 ((l.set i (l[i] - n)).set j (l[j] + n)) ∧ H.n ≤ r.1.b) := by
    intro Q _ hq
    unfold r142_j1
    exact Lt.Ok.pos rfl (Lt.Ok.ret ⟨gA, by rw [decide_eq_false hq], fun h => by cases h⟩)
  refine Lt.Ok.ite (fun hij => bad fun q => q.1 (by omega)) fun hij => ?_
  refine Lt.Ok.ld (ldI_get e2 rfl) ?_
  refine Lt.Ok.ite (fun hn1 => bad fun q => by omega) fun hn1 => ?_
  refine Lt.Ok.ld (ldI_get e2 rfl) ?_
  refine Lt.Ok.ite (fun hn2 => bad fun q => by omega) fun hn2 => ?_
  have hijn : i ≠ j := fun q => hij (by omega)
  refine Lt.Ok.ld (ldI_get e2 rfl) (Lt.Ok.ck ⟨by omega, by show _ < (v.len : Int); omega⟩ (Lt.Ok.ld (slA.ldI (i := i) (j := 0) (n := l[i]) hi rfl) ?_))
  refine Lt.Ok.ld (ldI_get e2 rfl) (Lt.Ok.ck ⟨by omega, by show _ < (v.len : Int); omega⟩ (Lt.Ok.ld (slA.ldI (i := j) (j := 0) (n := l[j]) hj rfl) ?_))
  refine Lt.Ok.ld (ldI_get e2 rfl) ?_
  have ew : w64 (l[j] + w64 (2 * n)) = l[j] + 2 * n := by rw [w64_id (n := 2 * n) (by omega) (by omega), w64_id (by omega) (by omega)]
  rw [ew]
  by_cases hc : l[i] < l[j] + 2 * n
  · rw [decide_eq_true hc]
    exact bad fun q => by omega
  · rw [decide_eq_false hc]
    unfold r142_j1
    refine Lt.Ok.neg (by simp) ?_
    refine Lt.Ok.ld (ldI_get e2 rfl) (Lt.Ok.ck ⟨by omega, by show _ < (v.len : Int); omega⟩ (Lt.Ok.ld (slA.ldI (i := i) (j := 0) (n := l[i]) hi rfl) ?_))
    refine Lt.Ok.ld (ldI_get e2 rfl) (Lt.Ok.ck ⟨by omega, by show _ < (v.len : Int); omega⟩ ?_)
    rw [w64_id (n := l[i] - n) (by omega) (by omega)]
    have setE : ∀ (l : List Int) (q : Nat) (x : Int), (encs l).set (0 + (q : Int).toNat * 1) (.int .i64 x) = encs (l.set q x) := by
      intro l q x
      rw [Int.toNat_natCast, Nat.zero_add, Nat.mul_one]
      induction l generalizing q with
      | nil => rfl
      | cons y l ih =>
        cases q with
        | zero => rfl
        | succ q =>
          rw [List.set_cons_succ, encs_cons, encs_cons, ← ih]
          rfl
    have hlen : (encs l).length = l.length := by rw [encs_len]; exact Nat.mul_one _
    refine Lt.Ok.st hgA (by show 0 + (i : Int).toNat * 1 < _; omega) fun B e' hgB => ?_
    rw [setE] at hgB
    have eB : ∀ c, c ≠ H.n + 1 → B.get c = A.get c := fun c hc => by rw [e']; exact Hp.get_set_other _ _ hc
    have nB : B.n = A.n := by rw [e']; simp
    have slB : SL B ⟨false, H.n + 1, 0, v.len, v.len, 1⟩ (l.set i (l[i] - n)) := SL.of_get hgB rfl (by rw [List.length_set]; exact hl) (Nat.le_refl _) (.inr rfl) rfl
    have h1n : H.n + 1 < H1.n := Hp.get_lt hg1
    have e2B : B.get H1.n = some (.cells [.int .i64 (i : Int), .int .i64 (j : Int), .int .i64 n] false) := by rw [eB _ (by omega)]; exact e2
    refine Lt.Ok.ld (ldI_get e2B rfl) (Lt.Ok.ck ⟨by omega, by show _ < (v.len : Int); omega⟩ ?_)
    have hj2 : j < (l.set i (l[i] - n)).length := by rw [List.length_set]; exact hj
    have ej : (l.set i (l[i] - n))[j] = l[j] := List.getElem_set_ne hijn hj2
    refine Lt.Ok.ld (slB.ldI (i := j) (j := 0) (n := l[j]) hj2 (by rw [ej]; rfl)) ?_
    refine Lt.Ok.ld (ldI_get e2B rfl) (Lt.Ok.ck ⟨by omega, by show _ < (v.len : Int); omega⟩ ?_)
    rw [w64_id (n := l[j] + n) (by omega) (by omega)]
    have hlen2 : (encs (l.set i (l[i] - n))).length = l.length := by rw [encs_len, List.length_set]; exact Nat.mul_one _
    refine Lt.Ok.st hgB (by show 0 + (j : Int).toNat * 1 < _; omega) fun C e'' hgC => ?_
    rw [setE] at hgC
    have gC : Gr H C := ⟨by rw [e'']; simp; have := gA.1; omega, fun c hc => by rw [e'', Hp.get_set_other _ _ (by show c ≠ H.n + 1; omega), eB c (by omega), gA.2 c hc]⟩
    rw [show w64 (0 + 1) = 1 by decide]
    show Lt.Ok (r142_l0 (K + 1) ⟨false, H.n + 1, 0, v.len, v.len, 1⟩ w ((1 : Nat) : Int) 1 C) _
    rw [r142_l0]
    refine Lt.Ok.neg (by omega) (Lt.Ok.ret ⟨gC, ?_, fun _ => ⟨SL.of_get hgC rfl (by rw [List.length_set, List.length_set]; exact hl) (Nat.le_refl _) (.inr rfl) rfl, by show H.n ≤ H.n + 1; omega⟩⟩)
    rw [decide_eq_true]
    exact ⟨hijn, by omega, by omega, by omega⟩
/-! ### the reference's Do -/
theorem chg_forms : (wordsC 59 (strC Tryz.f87 [1, 0] 1 2)).map words = chgForms := by decide +kernel
theorem chg_small : (strC Tryz.f87 [1, 0] 1 2).size ≤ 1048576 ∧ (∀ f ∈ wordsC 59 (strC Tryz.f87 [1, 0] 1 2), f.size ≤ 1000) ∧ (wordsC 59 (strC Tryz.f87 [1, 0] 1 2)).length ≤ 1000 := by decide +kernel
theorem wordsR_some {text : ByteArray} {n : List Int} (h : wordsR text chgForms = some n) :
    (strEq (wordS text) wLeaf = true ∧ ∃ a y x, words text = [wordS text, a, y] ∧ n = [x] ∧ 0 ≤ x) ∨
    (strEq (wordS text) wGive = true ∧ ∃ a b y x, words text = [wordS text, a, b, y] ∧ n = [x] ∧ 0 ≤ x) ∨
    (strEq (wordS text) wOrder = true ∧ ∃ a, words text = [wordS text, a] ∧ n = []) ∨
    (strEq (wordS text) wTaste = true ∧ ∃ y z i j, words text = [wordS text, y, z] ∧ n = [i, j] ∧ 0 ≤ i ∧ 0 ≤ j) ∨
    (strEq (wordS text) wOffer = true ∧ ∃ y z i j, words text = [wordS text, y, z] ∧ n = [i, j] ∧ 0 ≤ i ∧ 0 ≤ j) := by
  have sy : ∀ {a b : ByteArray}, strEq a b = true → strEq b a = true := fun h => strEq_iff.2 (strEq_iff.1 h).symm
  have nt : ∀ {a b : ByteArray}, ¬ strEq a b = true → strEq b a = false := fun {a b} h => by
    cases hx : strEq b a with
    | false => rfl
    | true => exact absurd (sy hx) h
  have sk : ∀ (w v : ByteArray) (l : List UInt8) (fs : List (List ByteArray)), strEq w (wordS text) = true → strEq w v = false → wordsR text ((v :: formR l) :: fs) = wordsR text fs := fun w v l fs h1 h2 => wordsR_skip (strEq_ne h1 h2)
  have sk0 : ∀ (v : ByteArray) (l : List UInt8) (fs : List (List ByteArray)), ¬ strEq (wordS text) v = true → wordsR text ((v :: formR l) :: fs) = wordsR text fs := fun v l fs h => wordsR_skip (nt h)
  have fb : ∀ f : ByteArray, (⟨f.data.toList.toArray⟩ : ByteArray) = f := fun f => by simp
  have nil : wordsR text [] = none := rfl
  have rd : ∀ {form : ByteArray}, (readS form text).map (·.2) = some n → ∃ p, readS form text = some p ∧ p.2 = n ∧ ∃ ws, words text = wordS text :: ws ∧ ws.length = form.size := fun {form} h => by
    obtain ⟨p, hp, e⟩ := Option.map_eq_some_iff.1 h
    obtain ⟨ws, e1, e2, _⟩ := read_words hp
    exact ⟨p, hp, e, ws, e1, e2⟩
  unfold chgForms at h
  by_cases h1 : strEq (wordS text) wLeaf = true
  · have q := sy h1
    rw [wordsR_hit q (by rw [sk _ _ _ _ q (by decide +kernel), sk _ _ _ _ q (by decide +kernel), sk _ _ _ _ q (by decide +kernel), sk _ _ _ _ q (by decide +kernel)]; rfl), fb] at h
    obtain ⟨p, hp, e, ws, e1, e2⟩ := rd h
    obtain ⟨a, x, rfl, h0, _⟩ := read_ND hp
    match ws, e2 with
    | [u, v], _ => exact .inl ⟨h1, u, v, x, e1, e.symm, h0⟩
  rw [sk0 _ _ _ h1] at h
  by_cases h2 : strEq (wordS text) wGive = true
  · have q := sy h2
    rw [wordsR_hit q (by rw [sk _ _ _ _ q (by decide +kernel), sk _ _ _ _ q (by decide +kernel), sk _ _ _ _ q (by decide +kernel)]; rfl), fb] at h
    obtain ⟨p, hp, e, ws, e1, e2⟩ := rd h
    obtain ⟨a, b, x, rfl, h0⟩ := read_NND hp
    match ws, e2 with
    | [u, v, w], _ => exact .inr (.inl ⟨h2, u, v, w, x, e1, e.symm, h0⟩)
  rw [sk0 _ _ _ h2] at h
  by_cases h3 : strEq (wordS text) wOrder = true
  · have q := sy h3
    rw [wordsR_hit q (by rw [sk _ _ _ _ q (by decide +kernel), sk _ _ _ _ q (by decide +kernel)]; rfl), fb] at h
    obtain ⟨p, hp, e, ws, e1, e2⟩ := rd h
    obtain ⟨a, rfl⟩ := read_N hp
    match ws, e2 with
    | [u], _ => exact .inr (.inr (.inl ⟨h3, u, e1, e.symm⟩))
  rw [sk0 _ _ _ h3] at h
  by_cases h4 : strEq (wordS text) wTaste = true
  · have q := sy h4
    rw [wordsR_hit q (by rw [sk _ _ _ _ q (by decide +kernel)]; rfl), fb] at h
    obtain ⟨p, hp, e, ws, e1, e2⟩ := rd h
    obtain ⟨i, j, rfl, h0, h00⟩ := read_DD hp
    match ws, e2 with
    | [u, v], _ => exact .inr (.inr (.inr (.inl ⟨h4, u, v, i, j, e1, e.symm, h0, h00⟩)))
  rw [sk0 _ _ _ h4] at h
  by_cases h5 : strEq (wordS text) wOffer = true
  · have q := sy h5
    rw [wordsR_hit q rfl, fb] at h
    obtain ⟨p, hp, e, ws, e1, e2⟩ := rd h
    obtain ⟨i, j, rfl, h0, h00⟩ := read_DD hp
    match ws, e2 with
    | [u, v], _ => exact .inr (.inr (.inr (.inr ⟨h5, u, v, i, j, e1, e.symm, h0, h00⟩)))
  rw [sk0 _ _ _ h5] at h
  cases h
def StS (A : Hp) (v1 v2 : Sl) (a b c d : Int) (v3 : Sl) (s : St) : Prop := SL A v1 s.leaves ∧ SL A v2 s.orders ∧ a = s.t0 ∧ b = s.t1 ∧ c = s.t2 ∧ d = s.t3 ∧ SL A v3 s.offers
theorem StS.gr {A B : Hp} {v1 v2 v3 : Sl} {a b c d : Int} {s : St} (h : StS A v1 v2 a b c d v3 s) (g : Gr A B) : StS B v1 v2 a b c d v3 s := ⟨h.1.gr g, h.2.1.gr g, h.2.2.1, h.2.2.2.1, h.2.2.2.2.1, h.2.2.2.2.2.1, h.2.2.2.2.2.2.gr g⟩
def DoRQ (H : Hp) (v1 v2 v3 : Sl) (s : St) (text : ByteArray) (r : Sl × Sl × Int × Int × Int × Int × Sl × ByteArray × Int) (A : Hp) : Prop :=
  Gr H A ∧ (∀ v ∈ [r.1, r.2.1, r.2.2.2.2.2.2.1], v.len ≠ 0 → H.n ≤ v.b ∨ v ∈ [v1, v2, v3]) ∧ match doS s text with
    | (.inl e, _) => r.2.2.2.2.2.2.2.2 = e ∧ e ≠ 0 ∧ StS A r.1 r.2.1 r.2.2.1 r.2.2.2.1 r.2.2.2.2.1 r.2.2.2.2.2.1 r.2.2.2.2.2.2.1 s
    | (.inr t, w) => r.2.2.2.2.2.2.2.2 = 0 ∧ r.2.2.2.2.2.2.2.1 = w ∧ StS A r.1 r.2.1 r.2.2.1 r.2.2.2.1 r.2.2.2.2.1 r.2.2.2.2.2.1 r.2.2.2.2.2.2.1 t
theorem j0_ok {app : App} {H A P : Hp} {b : Nat} {s t : St} {text : ByteArray} {v1 v2 v3 w1 w2 w3 vw : Sl} {e : Int}
    (hP : Gr H P) (hPn : H.n + 2 ≤ P.n) (gPA : Gr P A) (g0 : P.get H.n = some (.cells (stCells v1 v2 v3 s) false)) (cs : List AV) (g1 : P.get (H.n + 1) = some (.cells cs false)) (hcs : cs.length = 7)
    (hs : StS H v1 v2 s.t0 s.t1 s.t2 s.t3 v3 s) (out : e = 0 → StE A P.n b t w1 w2 w3) (hw : SL P vw (words text)) (hwb : H.n + 2 ≤ vw.b)
    (hd : doS s text = if e = 0 then (.inr t, wordS text) else (.inl e, ByteArray.mk #[])) :
    Lt.Ok (r87_j0 app H.n (H.n + 1) vw b e A) (DoRQ H v1 v2 v3 s text) := by
  unfold r87_j0
  have g0A : A.get H.n = _ := (gPA.2 _ (Hp.get_lt g0)).trans g0
  have g1A : A.get (H.n + 1) = _ := (gPA.2 _ (Hp.get_lt g1)).trans g1
  have fresh : ∀ {x1 x2 x3 : Sl} {B : Hp} {u : St}, (∀ c, c ≠ H.n + 1 → B.get c = A.get c) → B.n = A.n → Gr H B := fun {x1 x2 x3 B u} hB hn => ⟨by rw [hn]; exact Nat.le_trans hP.1 gPA.1, fun c hc => by rw [hB c (by omega), gPA.2 c (by omega), hP.2 c hc]⟩
  refine Lt.Ok.ite (fun he => ?_) fun he => ?_
  · refine Lt.Ok.ld (ldSl_get g0A rfl) (Lt.Ok.ld (ldSl_get g0A rfl) (Lt.Ok.ld (ldI_get g0A rfl) (Lt.Ok.ld (ldI_get g0A rfl) (Lt.Ok.ld (ldI_get g0A rfl) (Lt.Ok.ld (ldI_get g0A rfl) (Lt.Ok.ld (ldSl_get g0A rfl) ?_))))))
    obtain ⟨B, q1, q2, q3, q4⟩ := sts_blk (stCells v1 v2 v3 s) 0 A cs g1A (by rw [hcs]; exact Nat.le_refl _)
    have q2' : B.get (H.n + 1) = some (.cells (stCells v1 v2 v3 s) false) := by
      rw [q2, List.drop_of_length_le (by rw [hcs]; exact Nat.le_refl _)]; rfl
    have gB : Gr H B := fresh (x1 := v1) (x2 := v1) (x3 := v1) (u := s) q4 q3
    refine Lt.Ok.ld q1 (Lt.Ok.ld (ldSl_get q2' rfl) (Lt.Ok.ld (ldSl_get q2' rfl) (Lt.Ok.ld (ldI_get q2' rfl) (Lt.Ok.ld (ldI_get q2' rfl) (Lt.Ok.ld (ldI_get q2' rfl) (Lt.Ok.ld (ldI_get q2' rfl) (Lt.Ok.ld (ldSl_get q2' rfl) (Lt.Ok.ret ⟨gB, fun v hv _ => .inr hv, ?_⟩))))))))
    rw [hd, if_neg he]
    exact ⟨rfl, he, hs.gr gB⟩
  · have he0 : e = 0 := by omega
    have o := out he0
    have gb := o.get
    refine Lt.Ok.ld (ldSl_get gb rfl) (Lt.Ok.ld (ldSl_get gb rfl) (Lt.Ok.ld (ldI_get gb rfl) (Lt.Ok.ld (ldI_get gb rfl) (Lt.Ok.ld (ldI_get gb rfl) (Lt.Ok.ld (ldI_get gb rfl) (Lt.Ok.ld (ldSl_get gb rfl) ?_))))))
    have hwA := hw.gr gPA
    have hl := hwA.len; have hwl := words_len text
    obtain ⟨rt, hrt⟩ := words_head text
    refine Lt.Ok.ck (by omega) (Lt.Ok.ld (SL.ldStr hwA (i := 0) (j := 0) (n := wordS text) (by omega) (by simp [hrt]; rfl)) ?_)
    obtain ⟨B, q1, q2, q3, q4⟩ := sts_blk (stCells w1 w2 w3 t) 0 A cs g1A (by rw [hcs]; exact Nat.le_refl _)
    have q2' : B.get (H.n + 1) = some (.cells (stCells w1 w2 w3 t) false) := by
      rw [q2, List.drop_of_length_le (by rw [hcs]; exact Nat.le_refl _)]; rfl
    have gB : Gr H B := fresh (x1 := v1) (x2 := v1) (x3 := v1) (u := s) q4 q3
    have hwB : SL B vw (words text) := slcg hwA (q4 _ (by omega))
    refine Lt.Ok.ld q1 (Lt.Ok.ck (SL.ldStr hwB (i := 0) (j := 0) (n := wordS text) (by omega) (by simp [hrt]; rfl)) ?_)
    refine Lt.Ok.ld (ldSl_get q2' rfl) (Lt.Ok.ld (ldSl_get q2' rfl) (Lt.Ok.ld (ldI_get q2' rfl) (Lt.Ok.ld (ldI_get q2' rfl) (Lt.Ok.ld (ldI_get q2' rfl) (Lt.Ok.ld (ldI_get q2' rfl) (Lt.Ok.ld (ldSl_get q2' rfl) (Lt.Ok.ret ⟨gB, fun v hv hl => .inl ?_, ?_⟩)))))))
    · have n1 := hP.1
      rcases List.mem_cons.1 hv with rfl | hv
      · have := o.a1.ge hl; omega
      · rcases List.mem_cons.1 hv with rfl | hv
        · have := o.a2.ge hl; omega
        · rcases List.mem_cons.1 hv with rfl | hv
          · have := o.a3.ge hl; omega
          · cases hv
    rw [hd, if_pos he0]
    exact ⟨rfl, rfl, (o.a1.keep fun q => q4 _ (by have := o.a1.ge q; omega)).sl, (o.a2.keep fun q => q4 _ (by have := o.a2.ge q; omega)).sl, rfl, rfl, rfl, rfl, (o.a3.keep fun q => q4 _ (by have := o.a3.ge q; omega)).sl⟩
structure DoE (H P A : Hp) (b : Nat) (s : St) (text : ByteArray) (n : List Int) (v1 v2 v3 w1 w2 w3 vw vn : Sl) : Prop where
  hP : Gr H P
  hPn : H.n + 2 ≤ P.n
  g0 : P.get H.n = some (.cells (stCells v1 v2 v3 s) false)
  g1 : ∃ cs : List AV, P.get (H.n + 1) = some (.cells cs false) ∧ cs.length = 7
  hs : StS H v1 v2 s.t0 s.t1 s.t2 s.t3 v3 s
  hw : SL P vw (words text)
  hn : SL P vn n
  hwb : H.n + 2 ≤ vw.b
  gPA : Gr P A
  out : StE A P.n b s w1 w2 w3
  ok : s.Ok
variable {app : App} {H P A : Hp} {b : Nat} {s : St} {text : ByteArray} {n : List Int} {v1 v2 v3 w1 w2 w3 vw vn : Sl}
theorem DoE.fin (E : DoE H P A b s text n v1 v2 v3 w1 w2 w3 vw vn) {B : Hp} {t : St} {x1 x2 x3 : Sl} (e : Int) (o : Old P.n A B) (out : e = 0 → StE B P.n b t x1 x2 x3)
    (hd : doS s text = if e = 0 then (.inr t, wordS text) else (.inl e, ByteArray.mk #[])) : Lt.Ok (r87_j0 app H.n (H.n + 1) vw b e B) (DoRQ H v1 v2 v3 s text) := by
  obtain ⟨cs, g1, hcs⟩ := E.g1
  have gPB : Gr P B := ⟨Nat.le_trans E.gPA.1 o.1, fun c hc => by rw [o.2 c hc, E.gPA.2 c hc]⟩
  exact j0_ok E.hP E.hPn gPB E.g0 cs g1 hcs E.hs out E.hw E.hwb hd
theorem DoE.gr (E : DoE H P A b s text n v1 v2 v3 w1 w2 w3 vw vn) {B : Hp} (g : Gr A B) : DoE H P B b s text n v1 v2 v3 w1 w2 w3 vw vn :=
  { E with gPA := E.gPA.trans g, out := E.out.gr g }
theorem DoE.old (E : DoE H P A b s text n v1 v2 v3 w1 w2 w3 vw vn) {B : Hp} (o : Old P.n A B) : Gr P B := ⟨Nat.le_trans E.gPA.1 o.1, fun c hc => by rw [o.2 c hc, E.gPA.2 c hc]⟩
def outA (w : ByteArray) : Act → Act × ByteArray
  | .inl e => (.inl e, ByteArray.mk #[])
  | .inr t => (.inr t, w)
theorem doS_of {a : Act} (h : wordsR text chgForms = some n) (ha : actR s text n = a) : doS s text = outA (wordS text) a := by
  rw [← doR_eq]
  unfold doR
  rw [h]
  dsimp only
  rw [ha]
  cases a <;> rfl
theorem wAt_get {ws : List ByteArray} (h : words text = ws) (i : Nat) : wAt text i = ws.getD i (ByteArray.mk #[]) := by unfold wAt; rw [h]
theorem DoE.leaf (E : DoE H P A b s text n v1 v2 v3 w1 w2 w3 vw vn) {a y : ByteArray} {x : Int} (hq : strEq (wordS text) wLeaf = true) (hwd : words text = [wordS text, a, y]) (hn : n = [x]) (hr : wordsR text chgForms = some n) :
    Lt.Ok ((A.ldSl b (0 + 0)).bind fun x58 =>
      ck ((0 : Int) ≤ 1 ∧ 1 < (vw.len : Int)) (
      (A.ldStr vw.b (vw.o + (1 : Int).toNat * 1)).bind fun x60 =>
      ck ((0 : Int) ≤ 0 ∧ 0 < (vn.len : Int)) (
      (A.ldI .i64 vn.b (vn.o + (0 : Int).toNat * 1)).bind fun x62 =>
      (A.apN 2 x58 [.str x60, .int .i64 x62] 1).bind fun x63 =>
      (x63.2.st b (0 + 0) (.sl x63.1)).bind fun H64 =>
      if 0 ≤ idxI (s.find a) then
        (r87_j0 app H.n (H.n + 1) vw b 5 H64)
      else
        (ck ((0 : Int) ≤ 0 ∧ 0 < (vn.len : Int)) (
        (H64.ldI .i64 vn.b (vn.o + (0 : Int).toNat * 1)).bind fun x67 =>
        if 20 < x67 then
          (r87_j0 app H.n (H.n + 1) vw b 2 H64)
        else
          ((H64.ldSl H.n (0 + 0)).bind fun x69 =>
          if 6 ≤ (x69.len : Int) then
            (r87_j0 app H.n (H.n + 1) vw b 7 H64)
          else
            (r87_j0 app H.n (H.n + 1) vw b 0 H64))))))) (DoRQ H v1 v2 v3 s text) := by
  subst hn
  have hd := doS_of (s := s) (a := leafS s a x) hr (by unfold actR; rw [if_pos hq, wAt_get hwd]; rfl)
  have l6 := E.ok.l6
  have hwl := E.hw.len; rw [hwd] at hwl; simp only [List.length_cons, List.length_nil] at hwl
  have hnl := E.hn.len; simp only [List.length_cons, List.length_nil] at hnl
  refine Lt.Ok.ld (ldSl_get E.out.get rfl) (Lt.Ok.ck (by omega) (Lt.Ok.ld (SL.ldStr (E.hw.gr E.gPA) (i := 1) (j := 0) (n := a) (by rw [hwd]; simp) (by simp [hwd]; rfl)) ?_))
  refine Lt.Ok.ck (by omega) (Lt.Ok.ld ((E.hn.gr E.gPA).ldI (i := 0) (j := 0) (n := x) (by simp) rfl) ?_)
  refine E.out.push1 E.gPA.1 a x (by omega) fun B w1' ho old => ?_
  unfold leafS at hd
  refine Lt.Ok.ite (fun hc => ?_) fun hc => ?_
  · rw [if_pos (idxI_nonneg.1 hc)] at hd
    exact E.fin (t := s) (x1 := w1) (x2 := w1) (x3 := w1) 5 old (fun q => by cases q) (by rw [hd, if_neg (by decide)]; rfl)
  · rw [if_neg (fun q => hc (idxI_nonneg.2 q))] at hd
    refine Lt.Ok.ck (by omega) (Lt.Ok.ld ((E.hn.gr (E.old old)).ldI (i := 0) (j := 0) (n := x) (by simp) rfl) ?_)
    refine Lt.Ok.ite (fun h2 => ?_) fun h2 => ?_
    · rw [if_pos h2] at hd
      exact E.fin (t := s) (x1 := w1) (x2 := w1) (x3 := w1) 2 old (fun q => by cases q) (by rw [hd, if_neg (by decide)]; rfl)
    · rw [if_neg h2] at hd
      refine Lt.Ok.ld (ldSl_get (((E.old old).2 _ (Hp.get_lt E.g0)).trans E.g0) rfl) ?_
      have hl1 := E.hs.1.len
      refine Lt.Ok.ite (fun h6 => ?_) fun h6 => ?_
      · rw [if_pos (by omega)] at hd
        exact E.fin (t := s) (x1 := w1) (x2 := w1) (x3 := w1) 7 old (fun q => by cases q) (by rw [hd, if_neg (by decide)]; rfl)
      · rw [if_neg (by omega)] at hd
        exact E.fin 0 old (fun _ => ho) (by rw [hd, if_pos rfl]; rfl)
theorem DoE.order (E : DoE H P A b s text n v1 v2 v3 w1 w2 w3 vw vn) {a : ByteArray} (hq1 : ¬ strEq (wordS text) wLeaf = true) (hq2 : ¬ strEq (wordS text) wGive = true) (hq : strEq (wordS text) wOrder = true) (hwd : words text = [wordS text, a]) (hr : wordsR text chgForms = some n) :
    Lt.Ok ((A.ldSl b (0 + 1)).bind fun x84 =>
          (A.apN 1 x84 [.int .i64 (idxI (s.find a))] 1).bind fun x85 =>
          (x85.2.st b (0 + 1) (.sl x85.1)).bind fun H86 =>
          if idxI (s.find a) < 0 then
            (r87_j0 app H.n (H.n + 1) vw b 4 H86)
          else
            ((H86.ldSl H.n (0 + 0)).bind fun x88 =>
            ck ((0 : Int) ≤ idxI (s.find a) ∧ idxI (s.find a) < (x88.len : Int)) (
            (H86.ldI .i64 x88.b ((x88.o + (idxI (s.find a) : Int).toNat * 2) + 1)).bind fun x90 =>
            if x90 = 0 then
              (r87_j0 app H.n (H.n + 1) vw b 5 H86)
            else
              ((H86.ldSl H.n (0 + 1)).bind fun x92 =>
              if 40 ≤ (x92.len : Int) then
                (r87_j0 app H.n (H.n + 1) vw b 7 H86)
              else
                ((H86.ldSl b (0 + 0)).bind fun x94 =>
                ck ((0 : Int) ≤ idxI (s.find a) ∧ idxI (s.find a) < (x94.len : Int)) (
                (H86.ldI .i64 x94.b ((x94.o + (idxI (s.find a) : Int).toNat * 2) + 1)).bind fun x96 =>
                ck ((0 : Int) ≤ idxI (s.find a) ∧ idxI (s.find a) < (x94.len : Int)) (
                (H86.st x94.b ((x94.o + (idxI (s.find a) : Int).toNat * 2) + 1) (.int .i64 (w64 (x96 - 1)))).bind fun H98 =>
                r87_j0 app H.n (H.n + 1) vw b 0 H98))))))) (DoRQ H v1 v2 v3 s text) := by
  have hd := doS_of (s := s) (a := orderS s a) hr (by unfold actR; rw [if_neg hq1, if_neg hq2, if_pos hq, wAt_get hwd]; rfl)
  have l40 := E.ok.o40
  refine Lt.Ok.ld (ldSl_get E.out.get rfl) ?_
  refine E.out.push2 E.gPA.1 (idxI (s.find a)) (by omega) fun B w2' ho old => ?_
  unfold orderS at hd
  cases hf : s.find a with
  | none =>
    rw [hf] at hd
    exact Lt.Ok.pos (by decide) (E.fin (t := s) (x1 := w1) (x2 := w1) (x3 := w1) 4 old (fun q => by cases q) (by rw [hd, if_neg (by decide)]; rfl))
  | some i =>
    rw [hf] at hd ho
    dsimp only at hd
    have hi := find_lt hf
    obtain ⟨st0, st20⟩ := stock_rng E.ok hi
    have hl1 := E.hs.1.len; have hl2 := E.hs.2.1.len
    have gPB := E.old old
    have g0B : B.get H.n = some (.cells (stCells v1 v2 v3 s) false) := (gPB.2 _ (Hp.get_lt E.g0)).trans E.g0
    have e1 : idxI (some i) = (i : Int) := rfl
    rw [e1]
    refine Lt.Ok.neg (by omega) (Lt.Ok.ld (ldSl_get g0B rfl) (Lt.Ok.ck (by omega) (Lt.Ok.ld (((E.hs.1.gr E.hP).gr gPB).ldI (i := i) (j := 1) (n := stock s i) hi (by rw [stock_eq hi]; rfl)) ?_)))
    refine Lt.Ok.ite (fun h0 => ?_) fun h0 => ?_
    · rw [if_pos h0] at hd
      exact E.fin (t := s) (x1 := w1) (x2 := w1) (x3 := w1) 5 old (fun q => by cases q) (by rw [hd, if_neg (by decide)]; rfl)
    · rw [if_neg h0] at hd
      refine Lt.Ok.ld (ldSl_get g0B rfl) ?_
      refine Lt.Ok.ite (fun h40 => ?_) fun h40 => ?_
      · rw [if_pos (by omega)] at hd
        exact E.fin (t := s) (x1 := w1) (x2 := w1) (x3 := w1) 7 old (fun q => by cases q) (by rw [hd, if_neg (by decide)]; rfl)
      · rw [if_neg (by omega)] at hd
        have hlw := ho.a1.sl.len
        refine Lt.Ok.ld (ldSl_get ho.get rfl) (Lt.Ok.ck (by rw [hlw]; exact ⟨by omega, by exact_mod_cast hi⟩) (Lt.Ok.ld (ho.a1.sl.ldI (i := i) (j := 1) (n := stock s i) hi (by rw [stock_eq hi]; rfl)) (Lt.Ok.ck (by rw [hlw]; exact ⟨by omega, by exact_mod_cast hi⟩) ?_)))
        rw [w64_id (by omega) (by omega)]
        refine ho.putS (i := i) (stock s i - 1) hi fun C hC old2 _ => ?_
        exact E.fin 0 (old.trans old2) (fun _ => hC) (by rw [hd, if_pos rfl]; rfl)
theorem DoE.taste (E : DoE H P A b s text n v1 v2 v3 w1 w2 w3 vw vn) {i j : Int} (hq1 : ¬ strEq (wordS text) wLeaf = true) (hq2 : ¬ strEq (wordS text) wGive = true) (hq3 : ¬ strEq (wordS text) wOrder = true) (hq : strEq (wordS text) wTaste = true) (hn : n = [i, j]) (hi : 0 ≤ i) (hj : 0 ≤ j) (hr : wordsR text chgForms = some n) :
    Lt.Ok (r87_l2 app FUEL H.n (H.n + 1) vw vn b 0 0 s.t0 s.t1 s.t2 s.t3 0 A) (DoRQ H v1 v2 v3 s text) := by
  subst hn
  have hd := doS_of (s := s) (a := tasteS s i j) hr (by unfold actR; rw [if_neg hq1, if_neg hq2, if_neg hq3, if_pos hq]; rfl)
  obtain ⟨t0, t1, t2, t3, ts⟩ := E.ok.ts
  have hnl := E.hn.len; simp only [List.length_cons, List.length_nil] at hnl
  have hnA := E.hn.gr E.gPA
  obtain ⟨K, hK⟩ : ∃ K, FUEL = K + 5 := ⟨FUEL - 5, by unfold FUEL; omega⟩
  have round : ∀ (K : Nat) (sum : Int) (q : Nat) (x : Int) (Q : _ → Hp → Prop), q < 4 → apart false 1 [.int .i64 s.t0, .int .i64 s.t1, .int .i64 s.t2, .int .i64 s.t3] (q * 1) = some (.int .i64 x) →
      Lt.Ok (r87_l2 app K H.n (H.n + 1) vw vn b 0 (w64 (sum + x)) s.t0 s.t1 s.t2 s.t3 ((q + 1 : Nat) : Int) A) Q → Lt.Ok (r87_l2 app (K + 1) H.n (H.n + 1) vw vn b 0 sum s.t0 s.t1 s.t2 s.t3 (q : Int) A) Q := by
    intro K sum q x Q hq hap kk
    rw [r87_l2]
    refine Lt.Ok.pos (by omega) (Lt.Ok.ck (by omega) (Lt.Ok.ld hap (Lt.Ok.ld rfl ?_)))
    rw [w64_succ (by omega)]
    exact kk
  rw [hK]
  refine round _ 0 0 s.t0 _ (by omega) rfl ?_
  rw [show w64 (0 + s.t0) = s.t0 by rw [Int.zero_add, w64_id (by omega) (by omega)]]
  refine round _ _ 1 s.t1 _ (by omega) rfl ?_
  rw [w64_id (n := s.t0 + s.t1) (by omega) (by omega)]
  refine round _ _ 2 s.t2 _ (by omega) rfl ?_
  rw [w64_id (n := s.t0 + s.t1 + s.t2) (by omega) (by omega)]
  refine round _ _ 3 s.t3 _ (by omega) rfl ?_
  rw [w64_id (n := s.t0 + s.t1 + s.t2 + s.t3) (by omega) (by omega)]
  rw [r87_l2]
  refine Lt.Ok.neg (by omega) (Lt.Ok.ck (by omega) (Lt.Ok.ld (hnA.ldI (i := 0) (j := 0) (n := i) (by simp) rfl) ?_))
  unfold tasteS at hd
  have bad : (1 < i ∨ 1 < j) → Lt.Ok (r87_j5 app H.n (H.n + 1) vw vn b 0 (s.t0 + s.t1 + s.t2 + s.t3) true A) (DoRQ H v1 v2 v3 s text) := fun hb => by
    unfold r87_j5
    rw [if_pos hb] at hd
    exact Lt.Ok.pos rfl (E.fin (t := s) (x1 := w1) (x2 := w1) (x3 := w1) 2 (Old.refl _ _) (fun q => by cases q) (by rw [hd, if_neg (by decide)]; rfl))
  refine Lt.Ok.ite (fun h1 => bad (.inl h1)) fun h1 => ?_
  refine Lt.Ok.ck (by omega) (Lt.Ok.ld (hnA.ldI (i := 1) (j := 0) (n := j) (by simp) rfl) ?_)
  by_cases h2 : 1 < j
  · rw [decide_eq_true h2]; exact bad (.inr h2)
  rw [decide_eq_false h2]
  rw [if_neg (by omega)] at hd
  unfold r87_j5
  refine Lt.Ok.neg (by simp) ?_
  refine Lt.Ok.ite (fun h16 => ?_) fun h16 => ?_
  · rw [if_pos (by omega)] at hd
    exact E.fin (t := s) (x1 := w1) (x2 := w1) (x3 := w1) 7 (Old.refl _ _) (fun q => by cases q) (by rw [hd, if_neg (by decide)]; rfl)
  rw [if_neg (by omega)] at hd
  refine Lt.Ok.ck (by omega) (Lt.Ok.ld (hnA.ldI (i := 0) (j := 0) (n := i) (by simp) rfl) (Lt.Ok.ck (by omega) (Lt.Ok.ld (hnA.ldI (i := 1) (j := 0) (n := j) (by simp) rfl) ?_)))
  have hi1 : i = 0 ∨ i = 1 := by omega
  have hj1 : j = 0 ∨ j = 1 := by omega
  have hA := E.out
  rcases hi1 with rfl | rfl <;> rcases hj1 with rfl | rfl
  · refine Lt.Ok.ck (by decide) (Lt.Ok.ld (ldI_get hA.get (n := s.t0) rfl) (Lt.Ok.ck (by decide) ?_))
    rw [w64_id (n := s.t0 + 1) (by omega) (by omega)]
    exact hA.putT (s' := { s with t0 := s.t0 + 1 }) rfl rfl rfl rfl (by decide) fun A3 h3 o3 => E.fin 0 o3 (fun _ => h3) (by rw [hd, if_pos rfl]; rfl)
  · refine Lt.Ok.ck (by decide) (Lt.Ok.ld (ldI_get hA.get (n := s.t1) rfl) (Lt.Ok.ck (by decide) ?_))
    rw [w64_id (n := s.t1 + 1) (by omega) (by omega)]
    exact hA.putT (s' := { s with t1 := s.t1 + 1 }) rfl rfl rfl rfl (by decide) fun A3 h3 o3 => E.fin 0 o3 (fun _ => h3) (by rw [hd, if_pos rfl]; rfl)
  · refine Lt.Ok.ck (by decide) (Lt.Ok.ld (ldI_get hA.get (n := s.t2) rfl) (Lt.Ok.ck (by decide) ?_))
    rw [w64_id (n := s.t2 + 1) (by omega) (by omega)]
    exact hA.putT (s' := { s with t2 := s.t2 + 1 }) rfl rfl rfl rfl (by decide) fun A3 h3 o3 => E.fin 0 o3 (fun _ => h3) (by rw [hd, if_pos rfl]; rfl)
  · refine Lt.Ok.ck (by decide) (Lt.Ok.ld (ldI_get hA.get (n := s.t3) rfl) (Lt.Ok.ck (by decide) ?_))
    rw [w64_id (n := s.t3 + 1) (by omega) (by omega)]
    exact hA.putT (s' := { s with t3 := s.t3 + 1 }) rfl rfl rfl rfl (by decide) fun A3 h3 o3 => E.fin 0 o3 (fun _ => h3) (by rw [hd, if_pos rfl]; rfl)
theorem DoE.offer (E : DoE H P A b s text n v1 v2 v3 w1 w2 w3 vw vn) {i j : Int} (hq1 : ¬ strEq (wordS text) wLeaf = true) (hq2 : ¬ strEq (wordS text) wGive = true) (hq3 : ¬ strEq (wordS text) wOrder = true) (hq4 : ¬ strEq (wordS text) wTaste = true) (hn : n = [i, j]) (hr : wordsR text chgForms = some n) :
    Lt.Ok (r87_l3 app FUEL H.n (H.n + 1) vw vn b 0 false v3 (v3.len : Int) 0 A) (DoRQ H v1 v2 v3 s text) := by
  subst hn
  have hd := doS_of (s := s) (a := offerS s i j) hr (by unfold actR; rw [if_neg hq1, if_neg hq2, if_neg hq3, if_neg hq4]; rfl)
  have f8 := E.ok.f8
  have hnl := E.hn.len; simp only [List.length_cons, List.length_nil] at hnl
  have h3 : SL H v3 s.offers := E.hs.2.2.2.2.2.2
  have hl3 := h3.len
  have h3A := (h3.gr E.hP).gr E.gPA
  refine Lt.Ok.loop (L := fun K (t : Bool × Int) B => r87_l3 app K H.n (H.n + 1) vw vn b 0 t.1 v3 (v3.len : Int) t.2 B) (fun m t B => ∃ q : Nat, t.2 = (q : Int) ∧ q + m = s.offers.length ∧ Gr A B ∧ t.1 = (s.offers.take q).any fun x => decide (x = (i, j))) ?_ FUEL s.offers.length (false, 0) A (by unfold FUEL; omega) ⟨0, rfl, by omega, .refl _, by simp⟩
  rintro K m ⟨old, q'⟩ B ⟨q, hq, hm, g, ho⟩ ih
  dsimp only at *
  subst hq
  rw [r87_l3]
  have hnB := (E.hn.gr E.gPA).gr g
  refine Lt.Ok.ite (fun hlt => ?_) fun hlt => ?_
  · have hql : q < s.offers.length := by omega
    refine Lt.Ok.ck (by omega) (Lt.Ok.ld ((h3A.gr g).ldI (i := q) (j := 0) (n := s.offers[q].1) hql rfl) (Lt.Ok.ld ((h3A.gr g).ldI (i := q) (j := 1) (n := s.offers[q].2) hql rfl) ?_))
    obtain ⟨C, e1, g2, e2⟩ := tmpN B [.int .i64 0, .int .i64 0] [.int .i64 s.offers[q].1, .int .i64 s.offers[q].2] rfl
    refine Lt.Ok.ld e1 ?_
    rw [w64_succ (by omega)]
    refine Lt.Ok.ite (fun hold => ?_) fun hold => ?_
    · refine ih (m - 1) (true, _) C (by omega) ⟨q + 1, rfl, by omega, g.trans g2, ?_⟩
      rw [List.take_succ_eq_append_getElem hql, List.any_append, ← ho, hold]
      rfl
    · refine Lt.Ok.ld (ldI_get e2 rfl) (Lt.Ok.ld (ldI_get e2 rfl) (Lt.Ok.ck (by omega) (Lt.Ok.ld ((hnB.gr g2).ldI (i := 0) (j := 0) (n := i) (by simp) rfl) (Lt.Ok.ck (by omega) (Lt.Ok.ld ((hnB.gr g2).ldI (i := 1) (j := 0) (n := j) (by simp) rfl) ?_)))))
      refine ih (m - 1) (_, _) C (by omega) ⟨q + 1, rfl, by omega, g.trans g2, ?_⟩
      rw [List.take_succ_eq_append_getElem hql, List.any_append, ← ho]
      show AV.keqs [.int .i64 s.offers[q].1, .int .i64 s.offers[q].2] [.int .i64 i, .int .i64 j] = _
      rw [keqs2]
      have : old = false := by simpa using hold
      rw [this]
      simp only [List.any_cons, List.any_nil, Bool.or_false, Bool.false_or]
      rw [Bool.eq_iff_iff, decide_eq_true_eq, decide_eq_true_eq]
      exact eq_comm
  · have hql : q = s.offers.length := by omega
    subst hql
    rw [List.take_length] at ho
    have E' := E.gr g
    have hold : old = decide ((i, j) ∈ s.offers) := by
      rw [ho, Bool.eq_iff_iff, decide_eq_true_eq, List.any_eq_true]
      constructor
      · rintro ⟨x, hx, e⟩
        rw [decide_eq_true_eq] at e
        rw [← e]; exact hx
      · intro h
        exact ⟨_, h, by simp⟩
    refine Lt.Ok.ld (ldSl_get E'.out.get rfl) (Lt.Ok.ck (by omega) (Lt.Ok.ld (hnB.ldI (i := 0) (j := 0) (n := i) (by simp) rfl) (Lt.Ok.ck (by omega) (Lt.Ok.ld (hnB.ldI (i := 1) (j := 0) (n := j) (by simp) rfl) ?_))))
    refine E'.out.push3 E'.gPA.1 i j (by omega) fun C w3' hout o => ?_
    have hnC := E.hn.gr (E'.old o)
    unfold offerS at hd
    refine Lt.Ok.ite (fun h1 => ?_) fun h1 => ?_
    · rw [hold, decide_eq_true_eq] at h1
      rw [if_pos h1] at hd
      exact E'.fin (t := s) (x1 := w1) (x2 := w1) (x3 := w1) 5 o (fun q => by cases q) (by rw [hd, if_neg (by decide)]; rfl)
    · rw [hold, decide_eq_true_eq] at h1
      rw [if_neg h1] at hd
      have bad : (30 < i ∨ 30 < j) → Lt.Ok (r87_j6 app H.n (H.n + 1) vw b 0 true C) (DoRQ H v1 v2 v3 s text) := fun hb => by
        unfold r87_j6
        rw [if_pos hb] at hd
        exact Lt.Ok.pos rfl (E'.fin (t := s) (x1 := w1) (x2 := w1) (x3 := w1) 2 o (fun q => by cases q) (by rw [hd, if_neg (by decide)]; rfl))
      refine Lt.Ok.ck (by omega) (Lt.Ok.ld (hnC.ldI (i := 0) (j := 0) (n := i) (by simp) rfl) ?_)
      refine Lt.Ok.ite (fun h2 => bad (.inl h2)) fun h2 => ?_
      refine Lt.Ok.ck (by omega) (Lt.Ok.ld (hnC.ldI (i := 1) (j := 0) (n := j) (by simp) rfl) ?_)
      by_cases h4 : 30 < j
      · rw [decide_eq_true h4]; exact bad (.inr h4)
      rw [decide_eq_false h4]
      rw [if_neg (by omega)] at hd
      unfold r87_j6
      refine Lt.Ok.neg (by simp) (Lt.Ok.ld (ldSl_get (((E'.old o).2 _ (Hp.get_lt E.g0)).trans E.g0) rfl) ?_)
      refine Lt.Ok.ite (fun h8 => ?_) fun h8 => ?_
      · rw [if_pos (by omega)] at hd
        exact E'.fin (t := s) (x1 := w1) (x2 := w1) (x3 := w1) 7 o (fun q => by cases q) (by rw [hd, if_neg (by decide)]; rfl)
      · rw [if_neg (by omega)] at hd
        exact E'.fin 0 o (fun _ => hout) (by rw [hd, if_pos rfl]; rfl)
variable {app : App} {H P A : Hp} {b : Nat} {s : St} {text : ByteArray} {n : List Int} {v1 v2 v3 w1 w2 w3 vw vn : Sl}
theorem DoE.give (E : DoE H P A b s text n v1 v2 v3 w1 w2 w3 vw vn) {a c y : ByteArray} {x : Int} {bo : Bool} (hq1 : ¬ strEq (wordS text) wLeaf = true) (hq : strEq (wordS text) wGive = true) (hwd : words text = [wordS text, a, c, y]) (hn : n = [x]) (hx : 0 ≤ x) (hr : wordsR text chgForms = some n)
    (hbo : bo = true ↔ (s.find a = none ∨ s.find c = none)) :
    Lt.Ok (r87_j1 app H.n (H.n + 1) vw vn b 0 (idxI (s.find a)) (idxI (s.find c)) bo A) (DoRQ H v1 v2 v3 s text) := by
  subst hn
  have hd := doS_of (s := s) (a := giveS s a c x) hr (by unfold actR; rw [if_neg hq1, if_pos hq, wAt_get hwd, wAt_get hwd]; rfl)
  have hnl := E.hn.len; simp only [List.length_cons, List.length_nil] at hnl
  have l6 := E.ok.l6
  unfold r87_j1
  refine Lt.Ok.ite (fun hb => ?_) fun hb => ?_
  · have : giveS s a c x = .inl 4 := by
      unfold giveS
      rcases hbo.1 hb with h | h
      · rw [h]
      · rw [h]; cases s.find a <;> rfl
    rw [this] at hd
    exact E.fin (t := s) (x1 := w1) (x2 := w1) (x3 := w1) 4 (Old.refl _ _) (fun q => by cases q) (by rw [hd, if_neg (by decide)]; rfl)
  cases hfa : s.find a with
  | none => exact absurd (hbo.2 (.inl hfa)) hb
  | some i =>
  cases hfc : s.find c with
  | none => exact absurd (hbo.2 (.inr hfc)) hb
  | some j =>
  unfold giveS at hd
  rw [hfa, hfc] at hd
  dsimp only at hd
  have hi := find_lt hfa
  have hj := find_lt hfc
  have e1 : idxI (some i) = (i : Int) := rfl
  have e2 : idxI (some j) = (j : Int) := rfl
  rw [e1, e2]
  have g0A : A.get H.n = some (.cells (stCells v1 v2 v3 s) false) := (E.gPA.2 _ (Hp.get_lt E.g0)).trans E.g0
  refine Lt.Ok.ld (ldSl_get g0A rfl) (Lt.Ok.ld (ldSl_get g0A rfl) (Lt.Ok.ld (ldI_get g0A rfl) (Lt.Ok.ld (ldI_get g0A rfl) (Lt.Ok.ld (ldI_get g0A rfl) (Lt.Ok.ld (ldI_get g0A rfl) (Lt.Ok.ld (ldSl_get g0A rfl) ?_))))))
  refine Lt.Ok.bind (stocks_ok ((E.hs.1.gr E.hP).gr E.gPA) (by omega)) fun sv B ⟨g1, hsv⟩ => ?_
  dsimp only
  have hnA := E.hn.gr E.gPA
  refine Lt.Ok.ck (by omega) (Lt.Ok.ld ((hnA.gr g1).ldI (i := 0) (j := 0) (n := x) (by simp) rfl) ?_)
  have gp := Gr.push B (.cells [.int .i64 (i : Int), .int .i64 (j : Int), .int .i64 x] false)
  have hl1 : (s.leaves.map (·.2)).length = s.leaves.length := by simp
  have hi' : i < (s.leaves.map (·.2)).length := by omega
  have hj' : j < (s.leaves.map (·.2)).length := by omega
  have htr : SL (T := Int × Int × Int) (B.push (.cells [.int .i64 (i : Int), .int .i64 (j : Int), .int .i64 x] false)) ⟨false, B.n, 0, 1, 1, 0⟩ [((i : Int), (j : Int), x)] := .of_get (ro := false) (Hp.get_push_new _ _) rfl rfl (Nat.le_refl _) (.inl rfl) rfl
  refine Lt.Ok.bind (given_ok (hsv.gr gp) htr hi' hj' (by omega) fun e he => ?_) fun r C ⟨g2, hr2, hr3⟩ => ?_
  · obtain ⟨q, hq, rfl⟩ := List.mem_map.1 he
    exact E.ok.st q hq
  have esi : (s.leaves.map (·.2))[i] = stock s i := by rw [List.getElem_map, stock_eq hi]
  have esj : (s.leaves.map (·.2))[j] = stock s j := by rw [List.getElem_map, stock_eq hj]
  rw [esi, esj] at hr2 hr3
  refine Lt.Ok.ck (hnA.ldI (i := 0) (j := 0) (n := x) (by simp) rfl) ?_
  have gAC : Gr A C := (g1.trans gp).trans g2
  have EC := E.gr gAC
  refine Lt.Ok.ite (fun hok => ?_) fun hok => ?_
  · obtain ⟨hN, hNb⟩ := hr3 hok
    rw [hok] at hr2
    rw [if_pos (of_decide_eq_true hr2.symm)] at hd
    generalize hNN : ((s.leaves.map (·.2)).set i (stock s i - x)).set j (stock s j + x) = N at hN
    have hNl : N.length = s.leaves.length := by rw [← hNN]; simp
    have hvl := hN.len
    have hNb' : A.n ≤ r.1.b := by
      have := (g1.trans gp).1
      omega
    have w1b : w1.len ≠ 0 → w1.b < A.n := fun q => E.out.a1.lt q
    have hw10 : w1.len ≠ 0 := by rw [E.out.a1.sl.len]; omega
    refine Lt.Ok.loop (L := fun K (q : Int) B => r87_l4 app K H.n (H.n + 1) vw b 0 r.1 (r.1.len : Int) q B) (fun m q' B => ∃ (q : Nat) (lv : List (ByteArray × Int)), q' = (q : Int) ∧ q + m = s.leaves.length ∧ lv.length = s.leaves.length ∧ (∀ z, lv[z]? = if z < q then (s.leaves.zipWith (fun l (x : Int) => (l.1, x)) N)[z]? else s.leaves[z]?) ∧ StE B P.n b { s with leaves := lv } w1 w2 w3 ∧ Old P.n C B ∧ SL B r.1 N) ?_ FUEL s.leaves.length 0 C (by unfold FUEL; omega) ⟨0, s.leaves, rfl, by omega, rfl, fun z => by simp, EC.out, Old.refl _ _, hN⟩
    rintro K m q' B ⟨q, lv, rfl, hm, hlv, hz, ho, old, hNB⟩ ih
    rw [r87_l4]
    refine Lt.Ok.ite (fun hlt => ?_) fun hlt => ?_
    · have hql : q < s.leaves.length := by omega
      have hqN : q < N.length := by omega
      refine Lt.Ok.ck (by omega) (Lt.Ok.ld (hNB.ldI (i := q) (j := 0) (n := N[q]) hqN rfl) (Lt.Ok.ld (ldSl_get ho.get rfl) ?_))
      have hw1l : w1.len = lv.length := ho.a1.sl.len
      refine Lt.Ok.ck (by omega) ?_
      rw [w64_succ (by omega)]
      refine ho.putS (i := q) N[q] (by show q < lv.length; omega) fun D hD old2 only => ?_
      refine ih (m - 1) _ D (by omega) ⟨q + 1, lv.modify q fun l => (l.1, N[q]), rfl, by omega, by rw [List.length_modify]; exact hlv, fun z => ?_, hD, old.trans old2, slcg hNB (only _ (by have := w1b hw10; omega))⟩
      rw [List.getElem?_modify, hz z]
      by_cases hzq : z = q
      · subst hzq
        rw [if_neg (by omega), if_pos (by omega), List.getElem?_eq_getElem hql, List.getElem?_eq_getElem (by rw [List.length_zipWith]; omega), List.getElem_zipWith]
        simp
      · by_cases h1 : z < q
        · rw [if_pos h1, if_pos (by omega)]
          have : ¬ q = z := fun q => hzq q.symm
          simp [this]
        · rw [if_neg h1, if_neg (by omega)]
          have : ¬ q = z := fun q => hzq q.symm
          simp [this]
    · have hql : q = s.leaves.length := by omega
      subst hql
      have elv : lv = (setStock (setStock s i (stock s i - x)) j (stock s j + x)).leaves := by
        refine List.ext_getElem? fun z => ?_
        rw [hz z]
        show _ = ((s.leaves.modify i fun l => (l.1, stock s i - x)).modify j fun l => (l.1, stock s j + x))[z]?
        by_cases h1 : z < s.leaves.length
        · rw [if_pos h1, List.getElem?_eq_getElem (by rw [List.length_zipWith]; omega), List.getElem_zipWith, List.getElem?_modify, List.getElem?_modify, List.getElem?_eq_getElem h1]
          have eN : N[z]? = some (if j = z then stock s j + x else if i = z then stock s i - x else s.leaves[z].2) := by
            rw [← hNN, List.getElem?_set, List.getElem?_set]
            simp only [List.length_set, List.length_map]
            by_cases a1 : j = z
            · subst a1; rw [if_pos rfl, if_pos h1, if_pos rfl]
            · rw [if_neg a1, if_neg a1]
              by_cases a2 : i = z
              · subst a2; rw [if_pos rfl, if_pos h1, if_pos rfl]
              · rw [if_neg a2, if_neg a2, List.getElem?_map, List.getElem?_eq_getElem h1]; rfl
          rw [List.getElem?_eq_getElem (by omega)] at eN
          injection eN with eN
          rw [eN]
          by_cases a1 : j = z <;> by_cases a2 : i = z <;> simp [a1, a2]
        · rw [if_neg h1, List.getElem?_eq_none (by omega), List.getElem?_eq_none (by rw [List.length_modify, List.length_modify]; omega)]
      have e : ({ s with leaves := lv } : St) = setStock (setStock s i (stock s i - x)) j (stock s j + x) := by
        rw [elv]; rfl
      rw [e] at ho
      exact EC.fin 0 old (fun _ => ho) (by rw [hd, if_pos rfl]; rfl)
  · have hf : r.2 = false := by simpa using hok
    rw [hf] at hr2
    rw [if_neg (of_decide_eq_false hr2.symm)] at hd
    exact EC.fin (t := s) (x1 := w1) (x2 := w1) (x3 := w1) 5 (Old.refl _ _) (fun q => by cases q) (by rw [hd, if_neg (by decide)]; rfl)
theorem do_okR {k : Nat} {H : Hp} {v1 v2 v3 : Sl} {a b c d : Int} {s : St} {text : ByteArray} (hs : StS H v1 v2 a b c d v3 s) (ok : s.Ok) (ht : text.size ≤ 1048576) :
    Lt.Ok (r87 (appA (k + 1)) v1 v2 a b c d v3 text H) (DoRQ H v1 v2 v3 s text) := by
  obtain ⟨h1, h2, rfl, rfl, rfl, rfl, h3⟩ := hs
  have hs : StS H v1 v2 s.t0 s.t1 s.t2 s.t3 v3 s := ⟨h1, h2, rfl, rfl, rfl, rfl, h3⟩
  have l6 := ok.l6; have l40 := ok.o40; have l8 := ok.f8
  unfold r87
  refine Lt.Ok.lt ?_
  have en : (H.push (.cells [.sl v1, .sl v2, .int .i64 s.t0, .int .i64 s.t1, .int .i64 s.t2, .int .i64 s.t3, .sl v3] false)).n = H.n + 1 := by simp
  rw [en]
  have gp0 : Gr H ((H.push (.cells [.sl v1, .sl v2, .int .i64 s.t0, .int .i64 s.t1, .int .i64 s.t2, .int .i64 s.t3, .sl v3] false)).push (.cells [.sl ⟨true, 0, 0, 0, 0, 0⟩, .sl ⟨true, 0, 0, 0, 0, 0⟩, .int .i64 0, .int .i64 0, .int .i64 0, .int .i64 0, .sl ⟨true, 0, 0, 0, 0, 0⟩] false)) := (Gr.push _ _).trans (Gr.push _ _)
  have gg0 : ((H.push (.cells [.sl v1, .sl v2, .int .i64 s.t0, .int .i64 s.t1, .int .i64 s.t2, .int .i64 s.t3, .sl v3] false)).push (.cells [.sl ⟨true, 0, 0, 0, 0, 0⟩, .sl ⟨true, 0, 0, 0, 0, 0⟩, .int .i64 0, .int .i64 0, .int .i64 0, .int .i64 0, .sl ⟨true, 0, 0, 0, 0, 0⟩] false)).get H.n = some (.cells (stCells v1 v2 v3 s) false) := by
    rw [Hp.get_push_old _ _ (by simp)]; exact Hp.get_push_new _ _
  have gg1 : ((H.push (.cells [.sl v1, .sl v2, .int .i64 s.t0, .int .i64 s.t1, .int .i64 s.t2, .int .i64 s.t3, .sl v3] false)).push (.cells [.sl ⟨true, 0, 0, 0, 0, 0⟩, .sl ⟨true, 0, 0, 0, 0, 0⟩, .int .i64 0, .int .i64 0, .int .i64 0, .int .i64 0, .sl ⟨true, 0, 0, 0, 0, 0⟩] false)).get (H.n + 1) = some (.cells [.sl ⟨true, 0, 0, 0, 0, 0⟩, .sl ⟨true, 0, 0, 0, 0, 0⟩, .int .i64 0, .int .i64 0, .int .i64 0, .int .i64 0, .sl ⟨true, 0, 0, 0, 0, 0⟩] false) := by
    have := Hp.get_push_new (H.push (.cells [.sl v1, .sl v2, .int .i64 s.t0, .int .i64 s.t1, .int .i64 s.t2, .int .i64 s.t3, .sl v3] false)) (.cells [.sl ⟨true, 0, 0, 0, 0, 0⟩, .sl ⟨true, 0, 0, 0, 0, 0⟩, .int .i64 0, .int .i64 0, .int .i64 0, .int .i64 0, .sl ⟨true, 0, 0, 0, 0, 0⟩] false)
    simpa using this
  have nn0 : ((H.push (.cells [.sl v1, .sl v2, .int .i64 s.t0, .int .i64 s.t1, .int .i64 s.t2, .int .i64 s.t3, .sl v3] false)).push (.cells [.sl ⟨true, 0, 0, 0, 0, 0⟩, .sl ⟨true, 0, 0, 0, 0, 0⟩, .int .i64 0, .int .i64 0, .int .i64 0, .int .i64 0, .sl ⟨true, 0, 0, 0, 0, 0⟩] false)).n = H.n + 2 := by simp
  revert gp0 gg0 gg1 nn0
  generalize (H.push (.cells [.sl v1, .sl v2, .int .i64 s.t0, .int .i64 s.t1, .int .i64 s.t2, .int .i64 s.t3, .sl v3] false)).push (.cells [.sl ⟨true, 0, 0, 0, 0, 0⟩, .sl ⟨true, 0, 0, 0, 0, 0⟩, .int .i64 0, .int .i64 0, .int .i64 0, .int .i64 0, .sl ⟨true, 0, 0, 0, 0, 0⟩] false) = H1
  intro gp0 gg0 gg1 nn0
  have hwq := words_okR (k := k) (H := H1) (text := text) (forms := strC Tryz.f87 [1, 0] 1 2) ht chg_small.1 chg_small.2.1 chg_small.2.2
  rw [chg_forms] at hwq
  refine Lt.Ok.bind hwq fun p P ⟨gP, hq⟩ => ?_
  obtain ⟨vw, vn, okw⟩ := p
  dsimp only at hq ⊢
  have g0P : P.get H.n = some (.cells (stCells v1 v2 v3 s) false) := (gP.2 _ (Hp.get_lt gg0)).trans gg0
  have g1P := (gP.2 _ (Hp.get_lt gg1)).trans gg1
  have gHP := gp0.trans gP
  have hPn : H.n + 2 ≤ P.n := by have := gP.1; omega
  cases hwr : wordsR text chgForms with
  | none =>
    rw [hwr] at hq
    have hd : doS s text = (.inl 3, ByteArray.mk #[]) := by rw [← doR_eq]; unfold doR; rw [hwr]
    rw [show okw = false from hq]
    refine Lt.Ok.neg (by simp) ?_
    refine Lt.Ok.ld (ldSl_get g0P rfl) (Lt.Ok.ld (ldSl_get g0P rfl) (Lt.Ok.ld (ldI_get g0P rfl) (Lt.Ok.ld (ldI_get g0P rfl) (Lt.Ok.ld (ldI_get g0P rfl) (Lt.Ok.ld (ldI_get g0P rfl) (Lt.Ok.ld (ldSl_get g0P rfl) ?_))))))
    obtain ⟨B, q1, q2, q3, q4⟩ := sts_blk (stCells v1 v2 v3 s) 0 P _ g1P (Nat.le_refl _)
    have q2' : B.get (H.n + 1) = some (.cells (stCells v1 v2 v3 s) false) := by rw [q2]; rfl
    have gB : Gr H B := ⟨by rw [q3]; exact gHP.1, fun c hc => by rw [q4 c (by omega), gHP.2 c hc]⟩
    refine Lt.Ok.ld q1 (Lt.Ok.ld (ldSl_get q2' rfl) (Lt.Ok.ld (ldSl_get q2' rfl) (Lt.Ok.ld (ldI_get q2' rfl) (Lt.Ok.ld (ldI_get q2' rfl) (Lt.Ok.ld (ldI_get q2' rfl) (Lt.Ok.ld (ldI_get q2' rfl) (Lt.Ok.ld (ldSl_get q2' rfl) (Lt.Ok.ret ⟨gB, fun v hv _ => .inr hv, ?_⟩))))))))
    rw [hd]
    exact ⟨rfl, by decide, hs.gr gB⟩
  | some n =>
    rw [hwr] at hq
    obtain ⟨hok, hw, hn, hwb⟩ := hq
    refine Lt.Ok.pos hok ?_
    have hsP := hs.gr gHP
    refine Lt.Ok.ld (ldSl_get g0P rfl) (Lt.Ok.ld hsP.1.lds (Lt.Ok.ck (encs_all _) ?_))
    refine Lt.Ok.bind (AccE.copy hsP.1 (by omega) rfl) fun w1 A1 ⟨gA1, a1⟩ => ?_
    dsimp only
    have g01 : A1.get H.n = some (.cells (stCells v1 v2 v3 s) false) := (gA1.2 _ (Hp.get_lt g0P)).trans g0P
    have hs1 := hsP.gr gA1
    refine Lt.Ok.ld (ldSl_get g01 rfl) (Lt.Ok.ld hs1.2.1.lds (Lt.Ok.ck (encs_all _) ?_))
    refine Lt.Ok.bind (AccE.copy hs1.2.1 (by omega) rfl) fun w2 A2 ⟨gA2, a2⟩ => ?_
    dsimp only
    have g02 : A2.get H.n = some (.cells (stCells v1 v2 v3 s) false) := (gA2.2 _ (Hp.get_lt g01)).trans g01
    have hs2 := hs1.gr gA2
    refine Lt.Ok.ld (ldI_get g02 rfl) (Lt.Ok.ld (ldI_get g02 rfl) (Lt.Ok.ld (ldI_get g02 rfl) (Lt.Ok.ld (ldI_get g02 rfl) (Lt.Ok.ld (ldSl_get g02 rfl) (Lt.Ok.ld hs2.2.2.2.2.2.2.lds (Lt.Ok.ck (encs_all _) ?_))))))
    refine Lt.Ok.bind (AccE.copy hs2.2.2.2.2.2.2 (by omega) rfl) fun w3 A3 ⟨gA3, a3⟩ => ?_
    dsimp only
    have g03 : A3.get H.n = some (.cells (stCells v1 v2 v3 s) false) := (gA3.2 _ (Hp.get_lt g02)).trans g02
    have g03p : (A3.push (.cells [.sl ⟨true, 0, 0, 0, 0, 0⟩, .sl ⟨true, 0, 0, 0, 0, 0⟩, .int .i64 0, .int .i64 0, .int .i64 0, .int .i64 0, .sl ⟨true, 0, 0, 0, 0, 0⟩] false)).get H.n = some (.cells (stCells v1 v2 v3 s) false) := by
      rw [Hp.get_push_old _ _ (Hp.get_lt g03)]; exact g03
    obtain ⟨A4, e4, gA4, gb⟩ := tmpN A3 [.sl ⟨true, 0, 0, 0, 0, 0⟩, .sl ⟨true, 0, 0, 0, 0, 0⟩, .int .i64 0, .int .i64 0, .int .i64 0, .int .i64 0, .sl ⟨true, 0, 0, 0, 0, 0⟩] [.sl w1, .sl w2, .int .i64 s.t0, .int .i64 s.t1, .int .i64 s.t2, .int .i64 s.t3, .sl w3] rfl
    refine Lt.Ok.ld e4 ?_
    repeat refine Lt.Ok.ck (by first | exact ldSl_get g0P rfl | exact ldI_get g0P rfl | exact ldSl_get g01 rfl | exact ldI_get g01 rfl | exact ldSl_get g02 rfl | exact ldI_get g02 rfl | exact ldSl_get g03 rfl | exact ldI_get g03 rfl | exact ldSl_get g03p rfl | exact ldI_get g03p rfl) ?_
    have g04 : A4.get H.n = some (.cells (stCells v1 v2 v3 s) false) := (gA4.2 _ (Hp.get_lt g03)).trans g03
    refine Lt.Ok.ld (ldSl_get g04 rfl) (Lt.Ok.ld (ldSl_get g04 rfl) (Lt.Ok.ld (ldI_get g04 rfl) (Lt.Ok.ld (ldI_get g04 rfl) (Lt.Ok.ld (ldI_get g04 rfl) (Lt.Ok.ld (ldI_get g04 rfl) (Lt.Ok.ld (ldSl_get g04 rfl) ?_))))))
    have n1 := gA1.1; have n2 := gA2.1; have n3 := gA3.1
    have l1 : w1.len ≠ 0 → w1.b < A1.n := a1.lt
    have l2 : w2.len ≠ 0 → w2.b < A2.n := a2.lt
    have l3 : w3.len ≠ 0 → w3.b < A3.n := a3.lt
    have k2 : w2.len ≠ 0 → A1.n ≤ w2.b := a2.ge
    have k3 : w3.len ≠ 0 → A2.n ≤ w3.b := a3.ge
    have E : DoE H P A4 A3.n s text n v1 v2 v3 w1 w2 w3 vw vn := ⟨gHP, hPn, g0P, ⟨_, g1P, rfl⟩, hs, hw, hn, by omega, ((gA1.trans gA2).trans gA3).trans gA4,
      ⟨gb, by omega, a1.gr ((gA2.trans gA3).trans gA4), (a2.up fun q => by have := k2 q; omega).gr (gA3.trans gA4), (a3.up fun q => by have := k3 q; omega).gr gA4, fun q => by have := l1 q; omega, fun q => by have := l2 q; omega, fun q => by have := l3 q; omega, fun q q2 => by have := l1 q; have := k2 q2; omega, fun q q2 => by have := l1 q; have := k3 q2; omega, fun q q2 => by have := l2 q; have := k3 q2; omega⟩, ok⟩
    have hwA := hw.gr E.gPA
    have hwl := hwA.len
    have hs4 := hs.gr (E.hP.trans E.gPA)
    have tail : ∀ (a : ByteArray), (∃ r, words text = wordS text :: a :: r) → ∀ (f : Int × Hp → Option ((Sl × Sl × Int × Int × Int × Int × Sl × ByteArray × Int) × Hp)), (∀ B, DoE H P B A3.n s text n v1 v2 v3 w1 w2 w3 vw vn → Lt.Ok (f (idxI (s.find a), B)) (DoRQ H v1 v2 v3 s text)) →
        Lt.Ok (ck ((0 : Int) ≤ 1 ∧ 1 < (vw.len : Int)) ((A4.ldStr vw.b (vw.o + (1 : Int).toNat * 1)).bind fun x53 => (r141 v1 v2 s.t0 s.t1 s.t2 s.t3 v3 x53 A4).bind f)) (DoRQ H v1 v2 v3 s text) := by
      rintro a ⟨r, hwd⟩ f hf
      have hl : vw.len = r.length + 2 := by rw [hwl, hwd]; rfl
      refine Lt.Ok.ck (by omega) (Lt.Ok.ld (SL.ldStr hwA (i := 1) (j := 0) (n := a) (by rw [hwd]; simp) (by simp [hwd]; rfl)) ?_)
      refine Lt.Ok.bind (leaf_okR hs4.1 (by omega) a) fun z B ⟨gB, hz⟩ => ?_
      rw [hz]
      exact hf B (E.gr gB)
    have head : ∀ {B : Hp}, DoE H P B A3.n s text n v1 v2 v3 w1 w2 w3 vw vn → B.ldStr vw.b (vw.o + (0 : Int).toNat * 1) = some (wordS text) := fun {B} EB => by
      obtain ⟨r, hr⟩ := words_head text
      exact SL.ldStr (hw.gr EB.gPA) (i := 0) (j := 0) (n := wordS text) (by rw [hr]; simp) (by simp [hr]; rfl)
    have d1 : ∀ {u v : ByteArray}, strEq (wordS text) u = true → strEq u v = false → ¬ strEq (wordS text) v = true := fun {u v} h1 h2 h3 => by
      rw [← strEq_iff.1 h1, h3] at h2; cases h2
    have wl0 : 0 < vw.len := by have := words_len text; omega
    rcases wordsR_some hwr with ⟨hq, a, y, x, hwd, hnx, hx⟩ | ⟨hq, a, c, y, x, hwd, hnx, hx⟩ | ⟨hq, a, hwd, hnx⟩ | ⟨hq, y, z, i, j, hwd, hnx, hi, hj⟩ | ⟨hq, y, z, i, j, hwd, hnx, hi, hj⟩
    · refine tail a ⟨_, hwd⟩ _ fun B EB => ?_
      refine Lt.Ok.ck (by omega) (Lt.Ok.ld (head EB) (Lt.Ok.pos hq ?_))
      exact EB.leaf hq hwd hnx hwr
    · refine tail a ⟨_, hwd⟩ _ fun B EB => ?_
      refine Lt.Ok.ck (by omega) (Lt.Ok.ld (head EB) (Lt.Ok.neg (d1 hq (by decide +kernel)) (Lt.Ok.pos hq ?_)))
      have g0B : B.get H.n = some (.cells (stCells v1 v2 v3 s) false) := (EB.gPA.2 _ (Hp.get_lt g0P)).trans g0P
      refine Lt.Ok.ld (ldSl_get g0B rfl) (Lt.Ok.ld (ldSl_get g0B rfl) (Lt.Ok.ld (ldI_get g0B rfl) (Lt.Ok.ld (ldI_get g0B rfl) (Lt.Ok.ld (ldI_get g0B rfl) (Lt.Ok.ld (ldI_get g0B rfl) (Lt.Ok.ld (ldSl_get g0B rfl) ?_))))))
      have hl : vw.len = 4 := by rw [hwl, hwd]; rfl
      refine Lt.Ok.ck (by omega) (Lt.Ok.ld (SL.ldStr (hw.gr EB.gPA) (i := 2) (j := 0) (n := c) (by rw [hwd]; simp) (by simp [hwd]; rfl)) ?_)
      refine Lt.Ok.bind (leaf_okR ((hs.gr (EB.hP.trans EB.gPA)).1) (by omega) c) fun z C ⟨gC, hz⟩ => ?_
      subst hz
      dsimp only
      have EC := EB.gr gC
      have hneg : ∀ o : Option Nat, idxI o < 0 ↔ o = none := fun o => by cases o <;> simp [idxI]
      refine Lt.Ok.ite (fun hc => ?_) fun hc => ?_
      · exact EC.give (d1 hq (by decide +kernel)) hq hwd hnx hx hwr ⟨fun _ => .inl ((hneg _).1 hc), fun _ => rfl⟩
      · refine EC.give (d1 hq (by decide +kernel)) hq hwd hnx hx hwr ?_
        rw [decide_eq_true_eq]
        constructor
        · intro h; exact .inr ((hneg _).1 h)
        · rintro (h | h)
          · exact absurd ((hneg _).2 h) hc
          · exact (hneg _).2 h
    · refine tail a ⟨_, hwd⟩ _ fun B EB => ?_
      refine Lt.Ok.ck (by omega) (Lt.Ok.ld (head EB) (Lt.Ok.neg (d1 hq (by decide +kernel)) (Lt.Ok.neg (d1 hq (by decide +kernel)) (Lt.Ok.pos hq ?_))))
      exact EB.order (d1 hq (by decide +kernel)) (d1 hq (by decide +kernel)) hq hwd hwr
    · refine tail y ⟨_, hwd⟩ _ fun B EB => ?_
      refine Lt.Ok.ck (by omega) (Lt.Ok.ld (head EB) (Lt.Ok.neg (d1 hq (by decide +kernel)) (Lt.Ok.neg (d1 hq (by decide +kernel)) (Lt.Ok.neg (d1 hq (by decide +kernel)) (Lt.Ok.pos hq ?_)))))
      have g0B : B.get H.n = some (.cells (stCells v1 v2 v3 s) false) := (EB.gPA.2 _ (Hp.get_lt g0P)).trans g0P
      refine Lt.Ok.ld (ldI_get g0B rfl) (Lt.Ok.ld (ldI_get g0B rfl) (Lt.Ok.ld (ldI_get g0B rfl) (Lt.Ok.ld (ldI_get g0B rfl) ?_)))
      exact EB.taste (d1 hq (by decide +kernel)) (d1 hq (by decide +kernel)) (d1 hq (by decide +kernel)) hq hnx hi hj hwr
    · refine tail y ⟨_, hwd⟩ _ fun B EB => ?_
      refine Lt.Ok.ck (by omega) (Lt.Ok.ld (head EB) (Lt.Ok.neg (d1 hq (by decide +kernel)) (Lt.Ok.neg (d1 hq (by decide +kernel)) (Lt.Ok.neg (d1 hq (by decide +kernel)) (Lt.Ok.neg (d1 hq (by decide +kernel)) ?_)))))
      have g0B : B.get H.n = some (.cells (stCells v1 v2 v3 s) false) := (EB.gPA.2 _ (Hp.get_lt g0P)).trans g0P
      refine Lt.Ok.ld (ldSl_get g0B rfl) ?_
      exact EB.offer (d1 hq (by decide +kernel)) (d1 hq (by decide +kernel)) (d1 hq (by decide +kernel)) (d1 hq (by decide +kernel)) hnx hwr
structure PtrN where
  b : Nat
instance elPtr : El PtrN := ⟨1, fun x => [.ptr x.b 0], fun _ => rfl, fun _ => rfl, by decide⟩
abbrev PgC := ByteArray × Int × PtrN
def pgCells (ps : List Pg) (bs : List Nat) : List PgC := List.zipWith (fun p b => (p.change, (p.parent : Int), ⟨b⟩)) ps bs
structure ChAt (H : Hp) (c : Nat) (pv : Sl) (C : Chs) (t : Nat) : Prop where
  get : H.get c = some (.cells [.sl pv, .int .i64 (C.at' : Int)] false)
  nn : pv.nil = false
  o : pv.o = 0
  len : pv.len = C.pages.length
  cap : pv.cap = pv.len
  opn : pv.opn = 0 ∨ pv.opn = 3
  ne : c ≠ pv.b
  tc : c < t
  tp : pv.b < t
  tn : t ≤ H.n
  ex : ∃ bs : List Nat, bs.length = C.pages.length ∧ H.get pv.b = some (.cells (encs (pgCells C.pages bs)) false) ∧ ∀ i (h : i < bs.length) (h' : i < C.pages.length), StAt H (fun x => x ≠ c ∧ x ≠ pv.b ∧ x < t) bs[i] C.pages[i].st
theorem ChAt.gr {H H' : Hp} {c : Nat} {pv : Sl} {C : Chs} {t : Nat} (h : ChAt H c pv C t) (g : Gr H H') : ChAt H' c pv C t := by
  obtain ⟨bs, h1, h2, h3⟩ := h.ex
  exact ⟨by rw [g.2 _ (Hp.get_lt h.get)]; exact h.get, h.nn, h.o, h.len, h.cap, h.opn, h.ne, h.tc, h.tp, Nat.le_trans h.tn g.1, bs, h1, by rw [g.2 _ (Hp.get_lt h2)]; exact h2, fun i a b => (h3 i a b).gr g⟩
theorem ChAt.keep {H H' : Hp} {c : Nat} {pv : Sl} {C : Chs} {t : Nat} (h : ChAt H c pv C t) (hn : H.n ≤ H'.n) (e : ∀ b, b < t → H'.get b = H.get b) : ChAt H' c pv C t := by
  obtain ⟨bs, h1, h2, h3⟩ := h.ex
  exact ⟨by rw [e _ h.tc]; exact h.get, h.nn, h.o, h.len, h.cap, h.opn, h.ne, h.tc, h.tp, Nat.le_trans h.tn hn, bs, h1, by rw [e _ h.tp]; exact h2, fun i a b => (h3 i a b).mono (fun x hx _ => e x hx.2.2) fun _ _ hx => hx⟩
theorem ChAt.up {H : Hp} {c : Nat} {pv : Sl} {C : Chs} {t t' : Nat} (h : ChAt H c pv C t) (h1 : t ≤ t') (h2 : t' ≤ H.n) : ChAt H c pv C t' := by
  obtain ⟨bs, q1, q2, q3⟩ := h.ex
  exact ⟨h.get, h.nn, h.o, h.len, h.cap, h.opn, h.ne, Nat.lt_of_lt_of_le h.tc h1, Nat.lt_of_lt_of_le h.tp h1, h2, bs, q1, q2, fun i a b => (q3 i a b).mono (fun x hx _ => rfl) fun _ _ hx => ⟨hx.1, hx.2.1, Nat.lt_of_lt_of_le hx.2.2 h1⟩⟩
structure Sp (c p p' : Nat) (H H' : Hp) : Prop where
  n : H.n ≤ H'.n
  q : p' = p ∨ H.n ≤ p'
  e : ∀ b, b < H.n → b ≠ c → b ≠ p → H'.get b = H.get b
theorem Sp.of_gr {c p : Nat} {H H' : Hp} (g : Gr H H') : Sp c p p H H' := ⟨g.1, .inl rfl, fun b hb _ _ => g.2 b hb⟩
theorem Sp.trans {c p p' p'' : Nat} {A B C : Hp} (h : Sp c p p' A B) (k : Sp c p' p'' B C) : Sp c p p'' A C :=
  ⟨Nat.le_trans h.n k.n, by
    have := h.n
    rcases k.q with e | e
    · rcases h.q with e2 | e2
      · exact .inl (e.trans e2)
      · exact .inr (by omega)
    · exact .inr (by omega), fun b hb h1 h2 => by
    have := h.n
    rw [k.e b (by omega) h1 (by rcases h.q with e | e <;> omega), h.e b hb h1 h2]⟩
theorem Sp.gr {c p p' : Nat} {H0 H H' : Hp} (h : Sp c p p' H H') (g : Gr H0 H) (hc : H0.n ≤ c) (hp : H0.n ≤ p) : Gr H0 H' :=
  ⟨Nat.le_trans g.1 h.n, fun b hb => by
    have := g.1
    rw [h.e b (by omega) (by omega) (by omega), g.2 b hb]⟩
section
variable {H : Hp} {c : Nat} {pv : Sl} {C : Chs} {t : Nat}
theorem ChAt.sl (h : ChAt H c pv C t) : ∃ bs : List Nat, bs.length = C.pages.length ∧ SL H pv (pgCells C.pages bs) ∧ ∀ i (h : i < bs.length) (h' : i < C.pages.length), StAt H (fun x => x ≠ c ∧ x ≠ pv.b ∧ x < t) bs[i] C.pages[i].st := by
  obtain ⟨bs, h1, h2, h3⟩ := h.ex
  have hz : (pgCells C.pages bs).length = C.pages.length := by unfold pgCells; rw [List.length_zipWith]; omega
  exact ⟨bs, h1, .of_get h2 h.o (by rw [h.len, hz]) (by rw [h.cap]; exact Nat.le_refl _) h.opn h.nn, h3⟩
theorem pgCells_len {ps : List Pg} {bs : List Nat} (h : bs.length = ps.length) : (pgCells ps bs).length = ps.length := by unfold pgCells; rw [List.length_zipWith]; omega
theorem pgCells_get {ps : List Pg} {bs : List Nat} {i : Nat} (h : i < ps.length) (h' : i < bs.length) : (pgCells ps bs)[i]'(by unfold pgCells; rw [List.length_zipWith]; omega) = (ps[i].change, (ps[i].parent : Int), ⟨bs[i]⟩) := by
  unfold pgCells; rw [List.getElem_zipWith]
theorem ChAt.ldCh (h : ChAt H c pv C t) {i : Nat} (hi : i < C.pages.length) : H.ldStr pv.b (pv.o + i * 3 + 0) = some C.pages[i].change := by
  obtain ⟨bs, h1, h2, _⟩ := h.sl
  exact SL.ldStr h2 (i := i) (j := 0) (by rw [pgCells_len h1]; exact hi) (by rw [pgCells_get hi (by omega)]; rfl)
theorem ChAt.ldPar (h : ChAt H c pv C t) {i : Nat} (hi : i < C.pages.length) : H.ldI .i64 pv.b (pv.o + i * 3 + 1) = some (C.pages[i].parent : Int) := by
  obtain ⟨bs, h1, h2, _⟩ := h.sl
  exact h2.ldI (i := i) (j := 1) (by rw [pgCells_len h1]; exact hi) (by rw [pgCells_get hi (by omega)]; rfl)
theorem ChAt.ldSt (h : ChAt H c pv C t) {i : Nat} (hi : i < C.pages.length) : ∃ b, H.ldP pv.b (pv.o + i * 3 + 2) = some (b, 0) ∧ StAt H (fun x => x ≠ c ∧ x ≠ pv.b ∧ x < t) b C.pages[i].st := by
  obtain ⟨bs, h1, h2, h3⟩ := h.sl
  refine ⟨bs[i]'(by omega), ?_, h3 i (by omega) hi⟩
  have := h2.ld (i := i) (j := 2) (x := .ptr (bs[i]'(by omega)) 0) (by rw [pgCells_len h1]; exact hi) (by rw [pgCells_get hi (by omega)]; rfl)
  have e : pv.o + i * El.sz PgC + 2 = pv.o + i * 3 + 2 := rfl
  rw [e] at this
  simp [Hp.ldP, this, AV.asP]
theorem par_get {i : Nat} (hi : i < C.pages.length) : C.pages[i].parent = C.par i := by unfold Chs.par; rw [List.getElem?_eq_getElem hi]; rfl
theorem chg_get {i : Nat} (hi : i < C.pages.length) : C.pages[i].change = C.chg i := by unfold Chs.chg; rw [List.getElem?_eq_getElem hi]; rfl
theorem now_get {i : Nat} (hi : i < C.pages.length) : C.pages[i].st = C.now i := by unfold Chs.now; rw [List.getElem?_eq_getElem hi]; rfl
theorem ChAt.setAt {α : Type} {Q : α → Hp → Prop} {n : Nat} {f : Hp → Option (α × Hp)} (h : ChAt H c pv C t) (k : ∀ A, ChAt A c pv ⟨C.pages, n⟩ t → Sp c pv.b pv.b H A → Lt.Ok (f A) Q) : Lt.Ok ((H.st c (0 + 1) (.int .i64 (n : Int))).bind f) Q := by
  refine Lt.Ok.st h.get (by simp) fun A e hg => ?_
  subst e
  have oth : ∀ b, b ≠ c → (H.set c (.cells ([AV.sl pv, .int .i64 (C.at' : Int)].set (0 + 1) (.int .i64 (n : Int))) false)).get b = H.get b := fun b hb => Hp.get_set_other _ _ hb
  obtain ⟨bs, h1, h2, h3⟩ := h.ex
  exact k _ ⟨hg, h.nn, h.o, h.len, h.cap, h.opn, h.ne, h.tc, h.tp, by simp; exact h.tn, bs, h1, by rw [oth _ h.ne.symm]; exact h2, fun i a b => (h3 i a b).mono (fun x hx _ => oth x hx.1) fun _ _ hx => hx⟩ ⟨by simp, .inl rfl, fun b _ hb _ => oth b hb⟩
theorem none_ok (h : ChAt H c pv C t) (hC : C.Ok) : r60 c 0 H = some (false, H) := by
  unfold r60
  rw [ldSl_get (n := pv) h.get rfl]
  have := hC.one
  have := h.len
  simp only [Option.bind_some]
  rw [decide_eq_false (by omega)]
theorem now_ok (h : ChAt H c pv C t) (hC : C.Ok) : ∃ b, r61 c 0 H = some ((b, 0), H) ∧ StAt H (fun x => x ≠ c ∧ x ≠ pv.b ∧ x < t) b (C.now C.at') := by
  have hcur := hC.cur
  obtain ⟨b, h1, h2⟩ := h.ldSt hcur
  refine ⟨b, ?_, by rw [← now_get hcur]; exact h2⟩
  unfold r61
  have hl := h.len
  rw [ldSl_get (n := pv) h.get rfl, ldI_get (n := (C.at' : Int)) h.get rfl]
  simp only [Option.bind_some, Go.Lt.ck, Int.toNat_natCast]
  rw [if_pos (by omega), h1]
  rfl
end
theorem app118 (k : Nat) (s : ByteArray) (n : Int) (b o c0 c1 : Nat) (H : Hp) : callv (appA (k + 1)) (.fn 118 [] [.ptr c0 0, .ptr c1 0]) [.agg [.str s, .int .i64 n, .ptr b o]] H = (r118 s n b o c0 c1 H).map fun p => (.bool p.1, p.2) := rfl
theorem r118_ok {H : Hp} {c0 c1 : Nat} {ch : ByteArray} {p : Int} (h0 : H.get c0 = some (.cells [.str ch] false)) (h1 : H.get c1 = some (.cells [.int .i64 p] false)) (s : ByteArray) (n : Int) (b : Nat) :
    ∃ H', r118 s n b 0 c0 c1 H = some (strEq s ch && (decide (n = p) && !strEq s (ByteArray.mk #[])), H') ∧ Gr H H' := by
  have g := Gr.push H (.cells [.str s, .int .i64 n, .ptr b 0] false)
  have hn := Hp.get_push_new H (.cells [.str s, .int .i64 n, .ptr b 0] false)
  refine ⟨H.push (.cells [.str s, .int .i64 n, .ptr b 0] false), ?_, g⟩
  unfold r118 Go.Lt.lt
  dsimp only
  generalize H.push (.cells [.str s, .int .i64 n, .ptr b 0] false) = A at *
  have q1 : A.ldStr H.n (0 + 0) = some s := by simp [Hp.ldStr, ld_of_get hn, AV.asStr]
  have q2 : A.ldStr c0 0 = some ch := by simp [Hp.ldStr, ld_of_get ((g.2 _ (Hp.get_lt h0)).trans h0), AV.asStr]
  have q3 : A.ldI .i64 H.n (0 + 1) = some n := ldI_get hn rfl
  have q4 : A.ldI .i64 c1 0 = some p := ldI_get ((g.2 _ (Hp.get_lt h1)).trans h1) rfl
  rw [q1]
  simp only [Option.bind_some]
  rw [q2]
  simp only [Option.bind_some]
  rw [q3]
  simp only [Option.bind_some]
  rw [q4]
  simp only [Option.bind_some]
  cases hs : strEq s ch with
  | false => rfl
  | true =>
    by_cases hp : n = p
    · rw [if_pos rfl, if_pos hp, decide_eq_true hp]; rfl
    · rw [if_pos rfl, if_neg hp, decide_eq_false hp]; rfl
section
variable {H : Hp} {c : Nat} {pv : Sl} {C : Chs} {t : Nat}
theorem child_ok {k : Nat} (h : ChAt H c pv C t) (hC : C.Ok) (p : Nat) (ch : ByteArray) : Lt.Ok (r65 (appA (k + 1)) c 0 (p : Int) ch H) fun r H' => Gr H H' ∧ r = idxI (C.child p ch) := by
  unfold r65
  refine Lt.Ok.lt ?_
  have g0 := (Gr.push H (.cells [.int .i64 (p : Int)] false)).trans (Gr.push _ (.cells [.str ch] false))
  have h1 : ((H.push (.cells [.int .i64 (p : Int)] false)).push (.cells [.str ch] false)).get (H.push (.cells [.int .i64 (p : Int)] false)).n = some (.cells [.str ch] false) := Hp.get_push_new _ _
  have h2 : ((H.push (.cells [.int .i64 (p : Int)] false)).push (.cells [.str ch] false)).get H.n = some (.cells [.int .i64 (p : Int)] false) := by
    rw [Hp.get_push_old _ _ (by simp)]; exact Hp.get_push_new _ _
  generalize hA : (H.push (.cells [.int .i64 (p : Int)] false)).push (.cells [.str ch] false) = A at *
  have hB := h.gr g0
  have hl := h.len
  have hm := hC.most
  refine Lt.Ok.ld (ldSl_get hB.get rfl) ?_
  unfold r117
  refine Lt.Ok.bind (P := fun r A' => Gr A A' ∧ r = idxI (C.child p ch)) ?_ fun r B ⟨g, e⟩ => Lt.Ok.ret ⟨g0.trans g, e⟩
  refine idx_ok (L := fun K i A' => r117_l0 (appA (k + 1)) K pv (.fn 118 [] [.ptr (H.push (.cells [.int .i64 (p : Int)] false)).n 0, .ptr H.n 0]) (pv.len : Int) i A') (l := C.pages) (fun q => strEq q.change ch && (decide (q.parent = p) && !strEq q.change (ByteArray.mk #[]))) (by omega) (fun K i A' Q hi g k1 k2 => ?_) fun K A' Q g k => ?_
  · rw [r117_l0]
    have hA' := hB.gr g
    obtain ⟨b, hb, _⟩ := hA'.ldSt hi
    refine Lt.Ok.pos (by omega) (Lt.Ok.ck (by omega) (Lt.Ok.ld (hA'.ldCh hi) (Lt.Ok.ld (hA'.ldPar hi) (Lt.Ok.ld hb ?_))))
    rw [app118]
    obtain ⟨B, hr, gB⟩ := r118_ok ((g.2 _ (Hp.get_lt h1)).trans h1) ((g.2 _ (Hp.get_lt h2)).trans h2) C.pages[i].change (C.pages[i].parent : Int) b
    rw [hr]
    simp only [Option.map_some, Option.bind_some, AV.asB, Int.natCast_inj]
    rw [w64_succ (by omega)]
    exact Lt.Ok.ite (fun h => Lt.Ok.ret (k1 B gB h)) fun h => k2 B gB (Bool.not_eq_true _ ▸ h)
  · rw [r117_l0]
    exact Lt.Ok.neg (by omega) (Lt.Ok.ret k)
end
end Go.Lt.P10
