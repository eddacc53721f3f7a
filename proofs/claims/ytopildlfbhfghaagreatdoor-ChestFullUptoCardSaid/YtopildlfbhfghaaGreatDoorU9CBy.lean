/- PLAIN LAWS OF WHAT IS COMPUTED, for the statement 'ChestFull'. Nothing is asked of the input. -/
import Derived.Test.YtopildlfbhfghaaGreatDoorU9CCh
import Derived.Test.YtopildlfbhfghaaGreatDoorU9CGv
set_option linter.unusedVariables false
set_option linter.unusedSimpArgs false
namespace Go.Lt.P10
open Go Go.Lt Go.Proofs
/-! ### a chest whose blocks keep out of some others' way -/
structure ChQ (H : Hp) (c : Nat) (pv : Sl) (C : Chs) (Q : Nat → Prop) : Prop where
  get : H.get c = some (.cells [.sl pv, .int .i64 (C.at' : Int)] false)
  nn : pv.nil = false
  o : pv.o = 0
  len : pv.len = C.pages.length
  cap : pv.cap = pv.len
  opn : pv.opn = 0 ∨ pv.opn = 3
  ne : c ≠ pv.b
  ex : ∃ bs : List Nat, bs.length = C.pages.length ∧ H.get pv.b = some (.cells (encs (pgCells C.pages bs)) false) ∧ ∀ i (h : i < bs.length) (h' : i < C.pages.length), StAt H (fun x => x ≠ c ∧ x ≠ pv.b ∧ Q x) bs[i] C.pages[i].st
section
variable {H : Hp} {c : Nat} {pv : Sl} {C : Chs} {Q : Nat → Prop}
theorem ChQ.at (h : ChQ H c pv C Q) : ChAt H c pv C H.n := by
  obtain ⟨bs, h1, h2, h3⟩ := h.ex
  exact ⟨h.get, h.nn, h.o, h.len, h.cap, h.opn, h.ne, Hp.get_lt h.get, Hp.get_lt h2, Nat.le_refl _, bs, h1, h2, fun i a b => (h3 i a b).mono (fun _ _ _ => rfl) fun x hx q => ⟨q.1, q.2.1, hx⟩⟩
theorem ChQ.keep {H' : Hp} {Q' : Nat → Prop} (h : ChQ H c pv C Q) (e : ∀ b, b < H.n → (b = c ∨ b = pv.b ∨ Q b) → H'.get b = H.get b) (hq : ∀ b, b < H.n → Q b → Q' b) : ChQ H' c pv C Q' := by
  obtain ⟨bs, h1, h2, h3⟩ := h.ex
  exact ⟨by rw [e _ (Hp.get_lt h.get) (.inl rfl)]; exact h.get, h.nn, h.o, h.len, h.cap, h.opn, h.ne, bs, h1, by rw [e _ (Hp.get_lt h2) (.inr (.inl rfl))]; exact h2, fun i a b => (h3 i a b).mono (fun x hx hl => e x hl (.inr (.inr hx.2.2))) fun x hx q => ⟨q.1, q.2.1, hq x hx q.2.2⟩⟩
theorem ChQ.gr {H' : Hp} (h : ChQ H c pv C Q) (g : Gr H H') : ChQ H' c pv C Q := h.keep (fun b hb _ => g.2 b hb) fun _ _ q => q
theorem ChAt.q {H : Hp} {t : Nat} (h : ChAt H c pv C t) : ChQ H c pv C (· < t) := ⟨h.get, h.nn, h.o, h.len, h.cap, h.opn, h.ne, h.ex⟩
theorem ChQ.moved {H' : Hp} {C' : Chs} {Q' : Nat → Prop} (h : ChQ H c pv C Q) (hp : C'.pages = C.pages) (hg : H'.get c = some (.cells [.sl pv, .int .i64 (C'.at' : Int)] false)) (e : ∀ b, b < H.n → b ≠ c → H'.get b = H.get b) (hq : ∀ b, b < H.n → Q b → Q' b) : ChQ H' c pv C' Q' := by
  obtain ⟨bs, h1, h2, h3⟩ := h.ex
  obtain ⟨ps, a⟩ := C'
  dsimp only at hp hg
  subst hp
  exact ⟨hg, h.nn, h.o, h.len, h.cap, h.opn, h.ne, bs, h1, by rw [e _ (Hp.get_lt h2) h.ne.symm]; exact h2, fun i a b => (h3 i a b).mono (fun x hx hl => e x hl hx.1) fun x hx q => ⟨q.1, q.2.1, hq x hx q.2.2⟩⟩
theorem pages_pushQ (h : ChQ H c pv C Q) (hm : C.pages.length ≤ 200) {bs : List Nat} (h1 : bs.length = C.pages.length) (h2 : H.get pv.b = some (.cells (encs (pgCells C.pages bs)) false)) (ch : ByteArray) (p b : Nat) :
    Lt.Ok (H.apN 3 pv [.str ch, .int .i64 (p : Int), .ptr b 0] 1) fun pv' A => pv' = ⟨false, H.n + 1, 0, C.pages.length + 1, C.pages.length + 1, 3⟩ ∧ A.n = H.n + 2 ∧ (∀ x, x < H.n → x ≠ pv.b → A.get x = H.get x) ∧
      A.get (H.n + 1) = some (.cells (encs (pgCells C.pages bs ++ [(ch, (p : Int), ⟨b⟩)])) false) := by
  have hl := h.len; have hcap := h.cap; have ho := h.o
  have hlt := Hp.get_lt h2
  have hsl : SL H pv (pgCells C.pages bs) := .of_get h2 h.o (by rw [h.len, pgCells_len h1]) (by rw [h.cap]; exact Nat.le_refl _) h.opn h.nn
  have hnew : encs (pgCells C.pages bs) ++ [.str ch, .int .i64 (p : Int), .ptr b 0] = encs (pgCells C.pages bs ++ [(ch, (p : Int), ⟨b⟩)]) := by
    rw [encs_append, encs_one]; rfl
  unfold Hp.apN Hp.app
  rw [if_pos (by omega), if_neg (by omega)]
  have hlds := (hsl.gr (Gr.push H (.cells [.str ch, .int .i64 (p : Int), .ptr b 0] false))).lds
  have e3 : pv.len * El.sz PgC = pv.len * 3 := rfl
  rw [e3] at hlds
  rw [hlds]
  simp only [Option.bind_some]
  rcases h.opn with ho | ho
  · rw [if_pos ho]
    refine Lt.Ok.ret ⟨by rw [hl]; rfl, by simp, fun x hx _ => ?_, ?_⟩
    · rw [Hp.get_push_old _ _ (by simp; omega), Hp.get_push_old _ _ hx]
    · rw [← hnew]; exact Hp.get_push_new _ _
  · rw [if_neg (by omega), if_pos ho, Hp.get_push_old _ _ hlt, h2]
    refine Lt.Ok.ret ⟨?_, by simp, fun x hx hne => ?_, ?_⟩
    · simp [hl]
    · rw [Hp.get_push_old _ _ (by simp; omega), Hp.get_set_other _ _ hne, Hp.get_push_old _ _ hx]
    · rw [← hnew]
      have := Hp.get_push_new ((H.push (.cells [.str ch, .int .i64 (p : Int), .ptr b 0] false)).set pv.b .dead) (.cells (encs (pgCells C.pages bs) ++ [.str ch, .int .i64 (p : Int), .ptr b 0]) false)
      simpa using this
theorem doQ_ok {k : Nat} (h : ChQ H c pv C Q) (hC : C.Ok) (hQ : ∀ x, H.n ≤ x → Q x) {line : ByteArray} (hs : line.size ≤ 1048576) : Lt.Ok (r20 (appA (k + 2)) c 0 line H) fun r A => r = (C.do line).2 ∧ ∃ pv', ChQ A c pv' (C.do line).1 Q ∧ Sp c pv.b pv'.b H A := by
  unfold r20 Chs.do
  refine is (none_ok h.at hC) (Lt.Ok.neg (by simp) ?_)
  dsimp only
  obtain ⟨b, hnow, hst⟩ := now_ok h.at hC
  refine is hnow ?_
  dsimp only
  refine Lt.Ok.bind (r64_ok (k := k) hst (hC.st _ hC.cur) hs) fun r A ⟨gA, hr⟩ => ?_
  dsimp only
  have hA := h.gr gA
  have sA : Sp c pv.b pv.b H A := .of_gr gA
  cases hd : doS (C.now C.at') line with
  | mk a w =>
  rw [hd] at hr
  cases a with
  | inl e =>
    obtain ⟨hr, he⟩ := hr
    dsimp only
    refine Lt.Ok.pos (by rw [hr]; exact he) (Lt.Ok.ret ⟨by rw [hr], pv, hA, sA⟩)
  | inr s =>
    obtain ⟨hr1, hr2, hr3, hr4⟩ := hr
    dsimp only
    refine Lt.Ok.neg (by rw [hr1]; simp) (Lt.Ok.ld (ldI_get hA.get rfl) ?_)
    refine Lt.Ok.bind (child_ok (k := k + 1) hA.at hC C.at' line) fun i B ⟨gB, hi⟩ => ?_
    dsimp only at hi ⊢
    have hB := hA.gr gB
    have sB := sA.trans (.of_gr (c := c) (p := pv.b) gB)
    cases hch : C.child C.at' line with
    | some j =>
      rw [hch] at hi
      subst hi
      refine Lt.Ok.pos (by simp [idxI]) ?_
      unfold r20_j0
      simp only [idxI]
      refine Lt.Ok.st hB.get (by simp) fun F e hF => Lt.Ok.ret ⟨by rw [hr2], pv, ?_, sB.trans ?_⟩
      · exact hB.moved rfl (by simpa using hF) (fun b _ hb => by rw [e]; exact Hp.get_set_other _ _ hb) fun _ _ q => q
      · exact ⟨by rw [e]; simp, .inl rfl, fun b _ hb _ => by rw [e]; exact Hp.get_set_other _ _ hb⟩
    | none =>
      rw [hch] at hi
      subst hi
      refine Lt.Ok.neg (by decide) (Lt.Ok.ld (ldSl_get hB.get rfl) ?_)
      have hl := h.len
      refine Lt.Ok.ite (fun hc => Lt.Ok.ret ?_) fun hc => ?_
      · dsimp only
        rw [if_pos (by omega)]
        exact ⟨rfl, pv, hB, sB⟩
      dsimp only
      rw [if_neg (by omega)]
      refine Lt.Ok.ld (ldSl_get hB.get rfl) (Lt.Ok.ld (ldSl_get hB.get rfl) (Lt.Ok.ld (ldI_get hB.get rfl) ?_))
      obtain ⟨nb, no, nw, ne⟩ := r
      dsimp only at hr1 hr2 hr3 hr4 ⊢
      subst hr3
      obtain ⟨bs, hbs, hpg, hst3⟩ := hB.ex
      refine Lt.Ok.bind (pages_pushQ hB hC.most hbs hpg line C.at' nb) fun pv' D ⟨hpv, hDn, hDo, hDg⟩ => ?_
      have hcB := Hp.get_lt hB.get
      have hcne := hB.ne
      have hDc : D.get c = some (.cells [.sl pv, .int .i64 (C.at' : Int)] false) := (hDo c hcB hcne).trans hB.get
      dsimp only
      refine Lt.Ok.st hDc (by simp) fun E e hE => ?_
      subst e
      refine Lt.Ok.ck ?_ ?_
      · exact ldSl_get ((Hp.get_push_old _ _ hcB).trans hB.get) rfl
      have oth : ∀ x, x ≠ c → (D.set c (.cells ([AV.sl pv, .int .i64 (C.at' : Int)].set (0 + 0) (.sl pv')) false)).get x = D.get x := fun x hx => Hp.get_set_other _ _ hx
      have hEn : (D.set c (.cells ([AV.sl pv, .int .i64 (C.at' : Int)].set (0 + 0) (.sl pv')) false)).n = D.n := by simp
      generalize D.set c (.cells ([AV.sl pv, .int .i64 (C.at' : Int)].set (0 + 0) (.sl pv')) false) = E at *
      have hpb : pv'.b = B.n + 1 := by rw [hpv]
      have hpvlt : pv.b < B.n := Hp.get_lt hpg
      have hnB : H.n ≤ B.n := sB.n
      have sE : Sp c pv.b pv'.b B E := ⟨by omega, .inr (by omega), fun x h1 h2 h3 => by rw [oth x h2, hDo x h1 h3]⟩
      have old2 : ∀ x, x ≠ c ∧ x ≠ pv.b → x < B.n → E.get x = B.get x := fun x h1 h2 => by rw [oth x h1.1, hDo x h2 h1.2]
      have hCE : ChQ E c pv' ⟨C.pages ++ [⟨line, C.at', s⟩], C.at'⟩ Q := by
        refine ⟨hE, by rw [hpv], by rw [hpv], by rw [hpv]; simp, by rw [hpv], by rw [hpv]; exact .inr rfl, by rw [hpb]; omega, bs ++ [nb], by simp [hbs], ?_, fun i h1 h2 => ?_⟩
        · rw [hpb, oth _ (by omega), hDg]
          unfold pgCells
          rw [List.zipWith_append hbs.symm]
          rfl
        · by_cases e : i < C.pages.length
          · rw [List.getElem_append_left (by omega), List.getElem_append_left e]
            exact (hst3 i (by omega) e).mono (fun x hx hl => old2 x ⟨hx.1, hx.2.1⟩ hl) fun x hx h => ⟨h.1, by rw [hpb]; omega, h.2.2⟩
          · have : i = C.pages.length := by simp at h2; omega
            subst this
            rw [List.getElem_append_right (by omega), List.getElem_append_right (Nat.le_refl _)]
            simp only [hbs, Nat.sub_self, List.getElem_cons_zero]
            have hnlt : ∀ x, H.n ≤ x → x ≠ c ∧ x ≠ pv.b := fun x hx => by
              have h1 := Hp.get_lt h.get
              have h2 : pv.b < H.n := by obtain ⟨_, _, q, _⟩ := h.ex; exact Hp.get_lt q
              omega
            exact (hr4.gr gB).mono (fun x hx h => old2 x (hnlt x hx) h) fun x hx h => ⟨(hnlt x h).1, by rw [hpb]; omega, hQ x h⟩
      unfold r20_j0
      rw [hl]
      refine Lt.Ok.st hCE.get (by simp) fun F e hF => Lt.Ok.ret ⟨by rw [hr2], pv', ?_, (sB.trans sE).trans ?_⟩
      · exact hCE.moved rfl (by simpa using hF) (fun b _ hb => by rw [e]; exact Hp.get_set_other _ _ hb) fun _ _ q => q
      · exact ⟨by rw [e]; simp, .inl rfl, fun b _ hb _ => by rw [e]; exact Hp.get_set_other _ _ hb⟩
theorem do_ok {k : Nat} {t : Nat} (h : ChAt H c pv C t) (hC : C.Ok) {line : ByteArray} (hs : line.size ≤ 1048576) : Lt.Ok (r20 (appA (k + 2)) c 0 line H) fun r A => r = (C.do line).2 ∧ ∃ pv' t', ChAt A c pv' (C.do line).1 t' ∧ Sp c pv.b pv'.b H A :=
  (doQ_ok (k := k) (Q := fun x => x < t ∨ H.n ≤ x) (h.q.keep (fun _ _ _ => rfl) fun _ _ q => .inl q) hC (fun x hx => .inr hx) hs).mono fun r A ⟨e, pv', q, s⟩ => ⟨e, pv', A.n, q.at, s⟩
end
def Lit (n0 : Nat) (H : Hp) (v : Sl) (l : List Int) : Prop := (v = nilS ∧ l = []) ∨ (v.nil = false ∧ v.o = 0 ∧ (v.opn = 0 ∨ v.opn = 1) ∧ v.cap = v.len ∧ n0 ≤ v.b ∧ H.get v.b = some (.cells (encs l) false) ∧ v.len = l.length)
theorem Lit.sl {n0 : Nat} {H : Hp} {v : Sl} {l : List Int} (h : Lit n0 H v l) : SL H v l := by
  rcases h with ⟨rfl, rfl⟩ | ⟨h1, h2, h3, h4, h5, h6, h7⟩
  · exact SL.nilS
  · exact .of_get h6 h2 h7 (by omega) h3 h1
theorem Lit.len {n0 : Nat} {H : Hp} {v : Sl} {l : List Int} (h : Lit n0 H v l) : v.len = l.length := h.sl.len
theorem Lit.ge {n0 : Nat} {H : Hp} {v : Sl} {l : List Int} (h : Lit n0 H v l) (hn : v.nil = false) : n0 ≤ v.b := by
  rcases h with ⟨rfl, _⟩ | h
  · cases hn
  · exact h.2.2.2.2.1
theorem Lit.lt {n0 : Nat} {H : Hp} {v : Sl} {l : List Int} (h : Lit n0 H v l) (hn : v.nil = false) : v.b < H.n := by
  rcases h with ⟨rfl, _⟩ | h
  · cases hn
  · exact Hp.get_lt h.2.2.2.2.2.1
theorem Lit.keep {n0 : Nat} {H H' : Hp} {v : Sl} {l : List Int} (h : Lit n0 H v l) (e : v.nil = false → H'.get v.b = H.get v.b) : Lit n0 H' v l := by
  rcases h with h | ⟨h1, h2, h3, h4, h5, h6, h7⟩
  · exact .inl h
  · exact .inr ⟨h1, h2, h3, h4, h5, by rw [e h1]; exact h6, h7⟩
theorem AccN.lit {n0 : Nat} {H : Hp} {v : Sl} {l : List Int} (h : AccN n0 H v l) : Lit n0 H v l := by
  have hl := h.1.len
  rcases h.1 with ⟨e, e2⟩ | ⟨h1, h2, h3, h4, h5, h6, h7⟩
  · subst e
    refine .inl ⟨rfl, ?_⟩
    have : l.length = 0 := hl.symm
    exact List.length_eq_zero_iff.1 this
  · exact .inr ⟨h1, h2, .inr h3, h4, h5, h6, hl⟩
theorem Lit.put {α : Type} {Q : α → Hp → Prop} {A : Hp} {n0 : Nat} {w : Sl} {l : List Int} (h : Lit n0 A w l) {i : Nat} (n : Int) (hi : i < l.length) {f : Hp → Option (α × Hp)}
    (k : ∀ A', Lit n0 A' w (l.set i n) → (∀ c, c ≠ w.b → A'.get c = A.get c) → A'.n = A.n → n0 ≤ w.b → Lt.Ok (f A') Q) : Lt.Ok ((A.st w.b (w.o + i * 1) (.int .i64 n)).bind f) Q := by
  rcases h with ⟨_, rfl⟩ | ⟨q1, q2, q3, q4, q5, q6, q7⟩
  · simp at hi
  rw [q2, Nat.zero_add, Nat.mul_one]
  have hel : (encs l).length = l.length * 1 := encs_len l
  refine Lt.Ok.st q6 (by omega) fun A' e hg' => ?_
  subst e
  have oth : ∀ c, c ≠ w.b → (A.set w.b (.cells ((encs l).set i (.int .i64 n)) false)).get c = A.get c := fun c hc => Hp.get_set_other _ _ hc
  exact k _ (.inr ⟨q1, q2, q3, q4, q5, by rw [hg', encs_ints], by simp [q7]⟩) oth (by simp) q5
theorem Lit.push {A : Hp} {n0 : Nat} {v : Sl} {l : List Int} (h : Lit n0 A v l) (hn : n0 ≤ A.n) (x : Int) (hb : l.length < 4294967296) :
    Lt.Ok (A.apN 1 v [.int .i64 x] 1) fun v' A' => Lit n0 A' v' (l ++ [x]) ∧ A.n ≤ A'.n ∧ A.n ≤ v'.b ∧ ∀ c, c < A.n → (v.nil = false → c ≠ v.b) → A'.get c = A.get c := by
  have hl := h.len
  have hlds := (h.sl.gr (Gr.push A (.cells [.int .i64 x] false))).lds
  have e1 : v.len * El.sz Int = v.len * 1 := rfl
  rw [e1] at hlds
  have hnew : encs l ++ [.int .i64 x] = encs (l ++ [x]) := by rw [encs_append, encs_one]; rfl
  unfold Hp.apN Hp.app
  rw [if_pos (by omega)]
  rcases h with ⟨rfl, rfl⟩ | ⟨q1, q2, q3, q4, q5, q6, q7⟩
  · rw [if_neg (by decide)]
    simp only [nilS, Nat.zero_mul, Hp.lds, Option.bind_some, if_true, List.nil_append]
    refine Lt.Ok.ret ⟨.inr ⟨rfl, rfl, .inr rfl, rfl, by simp; omega, Hp.get_push_new _ _, rfl⟩, by simp; omega, by simp, fun c hc _ => ?_⟩
    rw [Hp.get_push_old _ _ (by simp; omega), Hp.get_push_old _ _ hc]
  · rw [if_neg (by omega), hlds]
    simp only [Option.bind_some]
    have hlt := Hp.get_lt q6
    rcases q3 with ho | ho
    · rw [if_pos ho, hnew]
      refine Lt.Ok.ret ⟨.inr ⟨rfl, rfl, .inr rfl, rfl, by simp; omega, Hp.get_push_new _ _, by simp [q7]⟩, by simp; omega, by simp, fun c hc _ => ?_⟩
      rw [Hp.get_push_old _ _ (by simp; omega), Hp.get_push_old _ _ hc]
    · rw [if_neg (by omega), if_pos ho, Hp.get_push_old _ _ hlt, q6, hnew]
      have hgn := Hp.get_push_new ((A.push (.cells [.int .i64 x] false)).set v.b .dead) (.cells (encs (l ++ [x])) false)
      rw [Hp.n_set] at hgn
      refine Lt.Ok.ret ⟨.inr ⟨rfl, rfl, .inr rfl, rfl, by simp; omega, hgn, by simp [q7]⟩, by simp; omega, by simp, fun c hc hne => ?_⟩
      rw [Hp.get_push_old _ _ (by simp; omega), Hp.get_set_other _ _ (hne q1), Hp.get_push_old _ _ hc]
theorem r137_ok {H : Hp} {n0 : Nat} {v : Sl} {l : List Int} (hv : Lit n0 H v l) (hb : l.length ≤ 10000000) : Lt.Ok (r137 v H) fun _ H' => Lit n0 H' v l.reverse ∧ H'.n = H.n ∧ ∀ c, (v.nil = false → c ≠ v.b) → H'.get c = H.get c := by
  unfold r137
  have hlen := hv.len
  have fin : ∀ {q : List Int} {i : Nat}, q.length = l.length → (∀ k, q[k]? = if k < i ∨ l.length - i ≤ k then l.reverse[k]? else l[k]?) → l.length ≤ 2 * i + 1 → q = l.reverse := fun {q i} h1 h2 h3 => by
    refine List.ext_getElem? fun k => ?_
    rw [h2]
    split
    · rfl
    · by_cases hk : k < l.length
      · rw [List.getElem?_reverse hk]
        congr 1; omega
      · omega
  refine Lt.Ok.loop (L := fun K (s : Int × Int) H2 => r137_l0 K v s.1 s.2 H2) (fun m s H' => ∃ (i : Nat) (q : List Int), s.1 = i ∧ s.2 = (l.length : Int) - 1 - i ∧ m = l.length - i ∧ i ≤ l.length ∧ q.length = l.length ∧ Lit n0 H' v q ∧ H'.n = H.n ∧ (∀ c, (v.nil = false → c ≠ v.b) → H'.get c = H.get c) ∧ ∀ k, q[k]? = if k < i ∨ l.length - i ≤ k then l.reverse[k]? else l[k]?) ?_ FUEL l.length (0, w64 ((v.len : Int) - 1)) H (by unfold FUEL; omega) ⟨0, l, rfl, by rw [w64_id (by omega) (by omega)]; omega, by omega, by omega, rfl, hv, rfl, fun _ _ => rfl, fun k => by
    split
    · rename_i hk
      have hk : l.length ≤ k := by omega
      rw [List.getElem?_eq_none hk, List.getElem?_eq_none (by simpa using hk)]
    · rfl⟩
  rintro K m ⟨a, b⟩ H1 ⟨i, q, rfl, rfl, rfl, hi, hql, ho, hn, hoth, hq⟩ ih
  try dsimp only at *
  rw [r137_l0]
  have hol := ho.len
  by_cases h : (i : Int) < (l.length : Int) - 1 - i
  · have hj : ((l.length : Int) - 1 - i).toNat = l.length - 1 - i := by omega
    have hjq : l.length - 1 - i < q.length := by omega
    have hiq : i < q.length := by omega
    rw [hj]
    have hnil : v.nil = false := ho.sl.nonnil fun e => by rw [e] at hiq; simp at hiq
    refine Lt.Ok.pos h (Lt.Ok.ck (by omega) (Lt.Ok.ld (ho.sl.ldI (i := l.length - 1 - i) (j := 0) (n := q[l.length - 1 - i]) hjq rfl) (Lt.Ok.ck (by omega) (Lt.Ok.ld (ho.sl.ldI (i := i) (j := 0) (n := q[i]) hiq rfl) (Lt.Ok.ck (by omega) ?_)))))
    refine ho.put (i := i) q[l.length - 1 - i] hiq fun A oA onA nA _ => Lt.Ok.ck (by omega) (oA.put (i := l.length - 1 - i) q[i] (by rw [List.length_set]; exact hjq) fun B oB onB nB _ => ?_)
    rw [w64_id (n := (i : Int) + 1) (by omega) (by omega), w64_id (n := (l.length : Int) - 1 - i - 1) (by omega) (by omega)]
    refine ih (l.length - (i + 1)) (_, _) B (by omega) ⟨i + 1, _, by simp, by dsimp only; omega, rfl, by omega, by rw [List.length_set, List.length_set]; exact hql, oB, by omega, fun c hc => by rw [onB c (hc hnil), onA c (hc hnil), hoth c hc], fun k => ?_⟩
    have e1 : q[l.length - 1 - i]? = l[l.length - 1 - i]? := by rw [hq, if_neg (by omega)]
    have e2 : q[i]? = l[i]? := by rw [hq, if_neg (by omega)]
    rw [List.getElem?_set, List.getElem?_set]
    by_cases k1 : l.length - 1 - i = k
    · subst k1
      rw [if_pos rfl, if_pos (by rw [List.length_set]; exact hjq), if_pos (by omega), List.getElem?_reverse (by omega), ← List.getElem?_eq_getElem hiq, e2]
      congr 1; omega
    · rw [if_neg k1]
      by_cases k2 : i = k
      · subst k2
        rw [if_pos rfl, if_pos hiq, if_pos (by omega), List.getElem?_reverse (by omega), ← List.getElem?_eq_getElem hjq, e1]
      · rw [if_neg k2, hq]
        by_cases k3 : k < i ∨ l.length - i ≤ k
        · rw [if_pos k3, if_pos (by omega)]
        · rw [if_neg k3, if_neg (by omega)]
  · refine Lt.Ok.neg h (Lt.Ok.ret ⟨?_, hn, hoth⟩)
    rw [← fin hql hq (by omega)]
    exact ho
def ints (l : List Nat) : List Int := l.map fun (x : Nat) => (x : Int)
theorem ints_len (l : List Nat) : (ints l).length = l.length := by simp [ints]
theorem ints_rev (l : List Nat) : (ints l).reverse = ints l.reverse := by simp [ints]
section
variable {H : Hp} {c : Nat} {pv : Sl} {C : Chs} {t : Nat}
theorem Chs.ups_fuel (hC : C.Ok) : ∀ k p, p ≤ k → C.ups k p = C.ups p p
  | 0, p, h => by have : p = 0 := by omega
                  subst this; rfl
  | k + 1, p, h => by
    by_cases h0 : p = 0
    · subst h0; rfl
    · obtain ⟨q, rfl⟩ : ∃ q, p = q + 1 := ⟨p - 1, by omega⟩
      unfold Chs.ups
      rw [if_neg h0]
      have hp : C.par (q + 1) ≤ q := by
        by_cases hl : q + 1 < C.pages.length
        · have := hC.up (q + 1) (by omega) hl; omega
        · unfold Chs.par; rw [List.getElem?_eq_none (by omega)]; simp
      rw [if_neg h0, Chs.ups_fuel hC k _ (by omega), Chs.ups_fuel hC q _ hp]
theorem Chs.ups_len (hC : C.Ok) : ∀ k p, (C.ups k p).length ≤ k
  | 0, p => Nat.le_refl _
  | k + 1, p => by
    unfold Chs.ups
    split
    · simp
    · simp; exact Chs.ups_len hC k _
theorem Chs.ups_mem (hC : C.Ok) : ∀ k p x, x ∈ C.ups k p → 0 < x ∧ x ≤ p
  | 0, p, x, h => by simp [Chs.ups] at h
  | k + 1, p, x, h => by
    unfold Chs.ups at h
    split at h
    · simp at h
    · rcases List.mem_cons.1 h with rfl | h
      · omega
      · have := Chs.ups_mem hC k _ x h
        have := C.par_le hC p
        omega
theorem way_ok (h : ChAt H c pv C t) (hC : C.Ok) {p : Nat} (hp : p < C.pages.length) : Lt.Ok (r81 c 0 (p : Int) H) fun r H' => Gr H H' ∧ Lit H.n H' r (ints (C.way p)) := by
  unfold r81
  have hm := hC.most
  have hl := h.len
  refine Lt.Ok.loop (L := fun K (s : Sl × Int) A => r81_l0 K c 0 s.1 s.2 A) (fun m s A => ∃ (q : Nat) (done : List Nat), s.2 = (q : Int) ∧ q = m ∧ q ≤ p ∧ Gr H A ∧ AccN H.n A s.1 (ints done) ∧ done.length + q ≤ p ∧ C.ups C.pages.length p = done ++ C.ups q q) ?_ FUEL p (⟨true, 0, 0, 0, 0, 0⟩, (p : Int)) H (by unfold FUEL; omega) ⟨p, [], rfl, rfl, Nat.le_refl _, .refl _, ⟨AccL.nilS, fun _ => rfl⟩, by simp, by rw [Chs.ups_fuel hC _ _ (by omega)]; rfl⟩
  rintro K m ⟨v, q'⟩ A ⟨q, done, hq, rfl, hqp, g, ha, hd, hu⟩ ih
  dsimp only at *
  subst hq
  rw [r81_l0]
  have hA := h.gr g
  refine Lt.Ok.ite (fun hne => ?_) fun hne => ?_
  · have hq0 : q ≠ 0 := by omega
    have hql : q < C.pages.length := by omega
    refine Lt.Ok.bind (AccN.push ha g.1 (q : Int) rfl rfl (by rw [ints_len]; omega)) fun v' B ⟨k1, k2, k3, k4⟩ => ?_
    have gB : Gr H B := But.gr k2 ha.1 g
    have hB := h.gr gB
    dsimp only
    refine Lt.Ok.ld (ldSl_get hB.get rfl) (Lt.Ok.ck (by omega) (Lt.Ok.ld (hB.ldPar hql) ?_))
    rw [par_get hql]
    have hup := hC.up q (by omega) hql
    refine ih (C.par q) (v', _) B hup ⟨C.par q, done ++ [q], rfl, rfl, by omega, gB, by unfold ints at k1 ⊢; rw [List.map_append]; exact k1, by simp; omega, ?_⟩
    rw [hu]
    obtain ⟨r, rfl⟩ : ∃ r, q = r + 1 := ⟨q - 1, by omega⟩
    have e : C.ups (r + 1) (r + 1) = (r + 1) :: C.ups r (C.par (r + 1)) := by
      conv => lhs; unfold Chs.ups
      rw [if_neg (by omega)]
    rw [e, Chs.ups_fuel hC r _ (by omega)]
    simp
  · have hq0 : q = 0 := by omega
    subst hq0
    refine Lt.Ok.bind (r137_ok ha.lit (by rw [ints_len]; omega)) fun _ B ⟨k1, k2, k3⟩ => Lt.Ok.ret ⟨⟨by have := g.1; dsimp only; omega, fun b hb => ?_⟩, ?_⟩
    · rw [k3 b fun hn => by have := Acc.ge ha.1 hn; omega, g.2 b hb]
    · dsimp only
      have : C.way p = done.reverse := by
        unfold Chs.way
        rw [hu]
        have : C.ups 0 0 = [] := rfl
        rw [this, List.append_nil]
      rw [this, ← ints_rev]
      exact k1
theorem at_ok (h : ChAt H c pv C t) (hC : C.Ok) : r38 c 0 H = some ((C.at' : Int), H) := by
  unfold r38
  rw [none_ok h hC]
  simp only [Option.bind_some, Bool.false_eq_true, if_false]
  rw [ldI_get (n := (C.at' : Int)) h.get rfl]
  rfl
theorem app130 (k : Nat) (x : Int) (b : Nat) (H : Hp) : callv (appA (k + 1)) (.fn 130 [] [.ptr b 0]) [.int .i64 x] H = (r130 x b H).map fun p => (.bool p.1, p.2) := rfl
theorem has_ok {k : Nat} (h : ChAt H c pv C t) (hC : C.Ok) {v : Sl} {l : List Int} (hv : SL H v l) (hb : l.length ≤ 1048577) : Lt.Ok (r79 (appA (k + 1)) c 0 v H) fun r H' => Gr H H' ∧ r = l.all fun p => decide (0 ≤ p ∧ p < C.pages.length) := by
  unfold r79
  refine Lt.Ok.lt ?_
  have g0 := Gr.push H (.cells [.ptr c 0] false)
  have hn := Hp.get_push_new H (.cells [.ptr c 0] false)
  generalize H.push (.cells [.ptr c 0] false) = A at *
  have hvA := hv.gr g0
  have hl := hvA.len
  have hll := h.len
  unfold r121 r174
  refine Lt.Ok.bind (P := fun r A' => Gr A A' ∧ r = l.any fun p => decide (p < 0 ∨ (C.pages.length : Int) ≤ p)) ?_ fun r B ⟨g, e⟩ => Lt.Ok.ret ⟨g0.trans g, ?_⟩
  · refine Lt.Ok.bind (P := fun r A' => Gr A A' ∧ r = idxI (l.findIdx? fun (p : Int) => decide (p < 0 ∨ (C.pages.length : Int) ≤ p))) ?_ fun r B ⟨g, e⟩ => Lt.Ok.ret ⟨g, ?_⟩
    · refine idx_ok (L := fun K i A' => r174_l0 (appA (k + 1)) K v (.fn 130 [] [.ptr H.n 0]) (v.len : Int) i A') (l := l) (fun (p : Int) => decide (p < 0 ∨ (C.pages.length : Int) ≤ p)) (by omega) (fun K i A' Q hi g k1 k2 => ?_) fun K A' Q g k => ?_
      · rw [r174_l0]
        refine Lt.Ok.pos (by omega) (Lt.Ok.ck (by omega) (Lt.Ok.ld ((hvA.gr g).ldI (i := i) (j := 0) (n := l[i]) hi rfl) ?_))
        rw [app130]
        have hA' := h.gr (g0.trans g)
        have hr : r130 l[i] H.n A' = some (decide (l[i] < 0 ∨ (C.pages.length : Int) ≤ l[i]), A') := by
          unfold r130
          by_cases hneg : l[i] < 0
          · rw [if_pos hneg, decide_eq_true (.inl hneg)]
          · rw [if_neg hneg]
            have q1 : A'.ldP H.n 0 = some (c, 0) := by simp [Hp.ldP, ld_of_get ((g.2 _ (Hp.get_lt hn)).trans hn), AV.asP]
            rw [q1]
            simp only [Option.bind_some]
            rw [ldSl_get (n := pv) hA'.get rfl]
            simp only [Option.bind_some]
            congr 3
            rw [hll]
            exact propext ⟨fun h => .inr h, fun h => by omega⟩
        rw [hr]
        simp only [Option.map_some, Option.bind_some, AV.asB]
        rw [w64_succ (by omega)]
        exact Lt.Ok.ite (fun h => Lt.Ok.ret (k1 A' (.refl _) h)) fun h => k2 A' (.refl _) (Bool.not_eq_true _ ▸ h)
      · rw [r174_l0]
        exact Lt.Ok.neg (by omega) (Lt.Ok.ret k)
    · subst e
      rw [← findIdx_any]
      simp only [idxI_nonneg]
      cases (l.findIdx? _).isSome <;> simp
  · dsimp only at e ⊢
    subst e
    rw [List.not_any_eq_all_not]
    congr 1
    funext x
    rw [← decide_not, decide_eq_decide]; omega
theorem sl_box1 (H : Hp) (x : Int) : SL (H.push (.cells [.int .i64 x] false)) ⟨false, H.n, 0, 1, 1, 0⟩ [x] := .of_get (ro := false) (Hp.get_push_new _ _) rfl rfl (Nat.le_refl _) (.inl rfl) rfl
theorem go_ok {k : Nat} (h : ChAt H c pv C t) (hC : C.Ok) (n : Int) : Lt.Ok (r40 (appA (k + 1)) c 0 n H) fun r A => r = (C.go n).2 ∧ ChAt A c pv (C.go n).1 t ∧ Sp c pv.b pv.b H A := by
  unfold r40 Chs.go
  refine is (none_ok h hC) (Lt.Ok.neg (by simp) ?_)
  dsimp only
  have g0 := Gr.push H (.cells [.int .i64 n] false)
  refine Lt.Ok.bind (has_ok (k := k) (h.gr g0) hC (sl_box1 H n) (by simp)) fun r A ⟨g, e⟩ => ?_
  have hA := h.gr (g0.trans g)
  have sA : Sp c pv.b pv.b H A := .of_gr (g0.trans g)
  dsimp only at e ⊢
  subst e
  simp only [List.all_cons, List.all_nil, Bool.and_true, decide_eq_true_eq]
  by_cases hc : 0 ≤ n ∧ n < (C.pages.length : Int)
  · rw [if_pos hc, if_pos hc]
    obtain ⟨m, rfl⟩ := Int.eq_ofNat_of_zero_le hc.1
    exact hA.setAt fun B hB sB => Lt.Ok.ret ⟨rfl, by simpa using hB, sA.trans sB⟩
  · rw [if_neg hc, if_neg hc]
    exact Lt.Ok.ret ⟨rfl, hA, sA⟩
theorem Chs.way_len (hC : C.Ok) (p : Nat) : (C.way p).length ≤ C.pages.length := by
  unfold Chs.way; rw [List.length_reverse]; exact Chs.ups_len hC _ _
theorem new_ok : Lt.Ok (r47 H) fun r A => r.2 = 0 ∧ Gr H A ∧ H.n ≤ r.1 ∧ ∃ pv t, ChAt A r.1 pv Chs.new t ∧ H.n ≤ pv.b := by
  unfold r47
  refine Lt.Ok.lt ?_
  have g1 := Gr.push H (.cells [.sl ⟨true, 0, 0, 0, 0, 0⟩, .sl ⟨true, 0, 0, 0, 0, 0⟩, .int .i64 0, .int .i64 0, .int .i64 0, .int .i64 0, .sl ⟨true, 0, 0, 0, 0, 0⟩] false)
  have h1 := Hp.get_push_new H (.cells [.sl ⟨true, 0, 0, 0, 0, 0⟩, .sl ⟨true, 0, 0, 0, 0, 0⟩, .int .i64 0, .int .i64 0, .int .i64 0, .int .i64 0, .sl ⟨true, 0, 0, 0, 0, 0⟩] false)
  have n1 := Hp.n_push H (.cells [.sl ⟨true, 0, 0, 0, 0, 0⟩, .sl ⟨true, 0, 0, 0, 0, 0⟩, .int .i64 0, .int .i64 0, .int .i64 0, .int .i64 0, .sl ⟨true, 0, 0, 0, 0, 0⟩] false)
  generalize H.push (.cells [.sl ⟨true, 0, 0, 0, 0, 0⟩, .sl ⟨true, 0, 0, 0, 0, 0⟩, .int .i64 0, .int .i64 0, .int .i64 0, .int .i64 0, .sl ⟨true, 0, 0, 0, 0, 0⟩] false) = A at *
  have g2 := Gr.push A (.cells [.str (ByteArray.mk #[]), .int .i64 0, .ptr H.n 0] false)
  have h2 := Hp.get_push_new A (.cells [.str (ByteArray.mk #[]), .int .i64 0, .ptr H.n 0] false)
  have n2 := Hp.n_push A (.cells [.str (ByteArray.mk #[]), .int .i64 0, .ptr H.n 0] false)
  generalize A.push (.cells [.str (ByteArray.mk #[]), .int .i64 0, .ptr H.n 0] false) = B at *
  have g3 := Gr.push B (.cells [.sl ⟨false, A.n, 0, 1, 1, 0⟩, .int .i64 0] false)
  have h3 := Hp.get_push_new B (.cells [.sl ⟨false, A.n, 0, 1, 1, 0⟩, .int .i64 0] false)
  have n3 := Hp.n_push B (.cells [.sl ⟨false, A.n, 0, 1, 1, 0⟩, .int .i64 0] false)
  generalize B.push (.cells [.sl ⟨false, A.n, 0, 1, 1, 0⟩, .int .i64 0] false) = D at *
  refine Lt.Ok.ret ⟨rfl, (g1.trans g2).trans g3, by dsimp only; omega, ⟨false, A.n, 0, 1, 1, 0⟩, D.n, ⟨h3, rfl, rfl, rfl, rfl, .inl rfl, by show B.n ≠ A.n; omega, Hp.get_lt h3, by show A.n < D.n; omega, Nat.le_refl _, [H.n], rfl, ?_, fun i a b => ?_⟩, by show H.n ≤ A.n; omega⟩
  · rw [g3.2 _ (Hp.get_lt h2)]; exact h2
  · have : i = 0 := by have : i < 1 := a; omega
    subst this
    show StAt D (fun x => x ≠ B.n ∧ x ≠ A.n ∧ x < D.n) H.n St.new
    refine ⟨⟨by show H.n ≠ B.n; omega, by show H.n ≠ A.n; omega, by show H.n < D.n; omega⟩, _, _, _, (g3.2 _ (by omega)).trans ((g2.2 _ (by omega)).trans h1), ⟨SL.nilS, fun _ => rfl, (fun h => by cases h), rfl⟩, ⟨SL.nilS, fun _ => rfl, (fun h => by cases h), rfl⟩, ⟨SL.nilS, fun _ => rfl, (fun h => by cases h), rfl⟩⟩
end
theorem enc_str (l : List ByteArray) : encs l = l.map .str := by
  induction l with
  | nil => rfl
  | cons x l ih => rw [encs_cons, ih]; rfl
theorem SL.sp {T : Type} [El T] {H H' : Hp} {v : Sl} {l : List T} (h : SL H v l) (e : l ≠ [] → H'.get v.b = H.get v.b) : SL H' v l := by
  by_cases hl : l = []
  · subst hl
    have h0 := h.len
    refine ⟨⟨by rw [h0]; simp, rfl⟩, h.cap, h.opn, h.nil⟩
  · exact slcg h (e hl)
theorem SL.lt {T : Type} [El T] {H : Hp} {v : Sl} {l : List T} (h : SL H v l) (hl : l ≠ []) : v.b < H.n := by
  obtain ⟨x, r, rfl⟩ := List.exists_cons_of_ne_nil hl
  have h0 : 0 < (El.enc x).length := by rw [El.len]; exact El.pos
  exact ld_lt (h.ld (i := 0) (j := 0) (x := (El.enc x)[0]) (by simp) (by simp))
def forkL : List Nat → List Nat → Nat → Nat × List Nat
  | x :: xs, y :: ys, a => if x = y then forkL xs ys x else (a, y :: ys)
  | _, ys, a => (a, ys)
def Chs.fork (C : Chs) (a b : Nat) : Nat × List Nat := forkL (C.way a) (C.way b) 0
def Chs.run (C : Chs) : List Nat → Int → Chs × Int
  | [], k => (C, k)
  | p :: l, k => (C.do (C.chg p)).1.run l (if (C.do (C.chg p)).2.2 = 0 then k + 1 else k)
def Chs.move (C : Chs) (to : Int) : Chs × Int × Int := if 0 ≤ to ∧ to < C.pages.length then ((C.run (C.fork C.at' to.toNat).2 0).1, (C.run (C.fork C.at' to.toNat).2 0).2, 0) else (C, 0, 2)
theorem Chs.run_ok : ∀ (l : List Nat) (k : Int) (C : Chs), C.Ok → (C.run l k).1.Ok
  | [], _, _, h => h
  | p :: l, k, C, h => Chs.run_ok l _ _ (Chs.do_ok h _)
theorem Chs.move_ok {C : Chs} (h : C.Ok) (to : Int) : (C.move to).1.Ok := by
  unfold Chs.move
  split
  · exact Chs.run_ok _ _ _ h
  · exact h
theorem Chs.way_mem {C : Chs} (hC : C.Ok) {p x : Nat} (h : x ∈ C.way p) : 0 < x ∧ x ≤ p := by
  unfold Chs.way at h
  rw [List.mem_reverse] at h
  exact Chs.ups_mem hC _ _ _ h
abbrev ActT := Int × Int × Int × ByteArray
def Chs.act (C : Chs) (a : ActT) : Chs :=
  if a.1 = 0 then (C.do a.2.2.2).1 else if a.1 = 2 then (C.go a.2.1).1 else if a.1 = 3 then (C.back a.2.1).1 else if a.1 = 5 then (C.move a.2.1).1 else C
theorem Chs.act_ok {C : Chs} (h : C.Ok) (a : ActT) : (C.act a).Ok := by
  unfold Chs.act
  split
  · exact Chs.do_ok h _
  split
  · exact Chs.go_ok h _
  split
  · exact Chs.back_ok h _
  split
  · exact Chs.move_ok h _
  · exact h
theorem Sp.ok {c p p' : Nat} {H H' : Hp} {b : Nat} (h : Sp c p p' H H') (hb : b < H.n) (h1 : b ≠ c) (h2 : b ≠ p) : b < H'.n ∧ b ≠ p' ∧ H'.get b = H.get b := by
  refine ⟨Nat.lt_of_lt_of_le hb h.n, ?_, h.e b hb h1 h2⟩
  rcases h.q with e | e <;> omega
theorem Chs.ups_step {C : Chs} (hC : C.Ok) {p : Nat} (h0 : p ≠ 0) : C.ups p p = p :: C.ups (C.par p) (C.par p) := by
  obtain ⟨q, rfl⟩ : ∃ q, p = q + 1 := ⟨p - 1, by omega⟩
  have hp : C.par (q + 1) ≤ q := by
    by_cases hl : q + 1 < C.pages.length
    · have := hC.up (q + 1) (by omega) hl; omega
    · unfold Chs.par; rw [List.getElem?_eq_none (by omega)]; simp
  conv => lhs; unfold Chs.ups
  rw [if_neg h0, Chs.ups_fuel hC q _ hp]
theorem Chs.way_eq {C : Chs} (hC : C.Ok) {p : Nat} (hp : p < C.pages.length) : C.way p = (C.ups p p).reverse := by
  unfold Chs.way; rw [Chs.ups_fuel hC _ _ (by omega)]
theorem Chs.way_zero {C : Chs} (hC : C.Ok) : C.way 0 = [] := by
  rw [Chs.way_eq hC (by have := hC.one; omega)]; rfl
theorem Chs.way_step {C : Chs} (hC : C.Ok) {p : Nat} (h0 : p ≠ 0) (hp : p < C.pages.length) : C.way p = C.way (C.par p) ++ [p] := by
  have := hC.up p (by omega) hp
  rw [Chs.way_eq hC hp, Chs.way_eq hC (by omega), Chs.ups_step hC h0, List.reverse_cons]
theorem last_app (q x : Nat) (l : List Nat) : (q :: (l ++ [x])).getLast (by simp) = x := by
  have e : q :: (l ++ [x]) = (q :: l) ++ [x] := rfl
  simp only [e]
  exact List.getLast_concat
def Chs.Chain (C : Chs) : Nat → List Nat → Prop
  | _, [] => True
  | q, x :: l => 0 < x ∧ x < C.pages.length ∧ C.par x = q ∧ C.Chain x l
theorem Chs.chain_append {C : Chs} : ∀ (l : List Nat) (q x : Nat), C.Chain q l → 0 < x → x < C.pages.length → C.par x = (q :: l).getLast (by simp) → C.Chain q (l ++ [x])
  | [], q, x, _, h0, hx, hp => ⟨h0, hx, hp, trivial⟩
  | y :: l, q, x, h, h0, hx, hp => ⟨h.1, h.2.1, h.2.2.1, Chs.chain_append l y x h.2.2.2 h0 hx (by rw [hp, List.getLast_cons_cons])⟩
theorem Chs.ways_last' {C : Chs} (hC : C.Ok) {p : Nat} (hp : p < C.pages.length) : (0 :: C.way p).getLast (by simp) = p := by
  by_cases h0 : p = 0
  · subst h0; simp [Chs.way_zero hC]
  · simp only [Chs.way_step hC h0 hp]; exact last_app _ _ _
theorem Chs.way_chain {C : Chs} (hC : C.Ok) : ∀ (n p : Nat), p ≤ n → p < C.pages.length → C.Chain 0 (C.way p)
  | n, p, hn, hp => by
    by_cases h0 : p = 0
    · subst h0; rw [Chs.way_zero hC]; trivial
    · have hup := hC.up p (by omega) hp
      obtain ⟨n, rfl⟩ : ∃ n', n = n' + 1 := ⟨n - 1, by omega⟩
      rw [Chs.way_step hC h0 hp]
      exact Chs.chain_append _ _ _ (Chs.way_chain hC n _ (by omega) (by omega)) (by omega) hp (Chs.ways_last' hC (by omega)).symm
def Chs.path (C : Chs) (p : Nat) : List ByteArray := (C.way p).map C.chg
structure Along (C : Chs) (p i : Nat) (D : Chs) : Prop where
  ok : D.Ok
  len : D.pages.length = i + 1
  cur : D.at' = i
  st : ∀ q, (0 :: C.way p)[i]? = some q → D.now i = C.now q
  lnk : ∀ j x, j < i → (C.way p)[j]? = some x → D.par (j + 1) = j ∧ D.chg (j + 1) = C.chg x
theorem Along.new {C : Chs} (hC : C.Ok) (p : Nat) : Along C p 0 Chs.new where
  ok := Chs.new_ok
  len := rfl
  cur := rfl
  st := fun q hq => by
    have : q = 0 := by simpa using hq.symm
    subst this
    rw [hC.root.2]; rfl
  lnk := fun j x h => by omega
theorem Chs.way_len_le {C : Chs} (hC : C.Ok) {p : Nat} (hp : p < C.pages.length) : (C.way p).length ≤ p := by
  rw [Chs.way_eq hC hp, List.length_reverse]; exact Chs.ups_len hC _ _
theorem Chs.chain_get {C : Chs} : ∀ (l : List Nat) (q i : Nat) (h : i < l.length), C.Chain q l → 0 < l[i] ∧ l[i] < C.pages.length ∧ C.par l[i] = (q :: l)[i]'(by simp; omega)
  | x :: l, q, 0, _, h => ⟨h.1, h.2.1, h.2.2.1⟩
  | x :: l, q, i + 1, hi, h => Chs.chain_get l x i (by simpa using hi) h.2.2.2
theorem Along.child {C D : Chs} {p i : Nat} (h : Along C p i D) (ch : ByteArray) : D.child i ch = none := by
  unfold Chs.child
  rw [List.findIdx?_eq_none_iff]
  intro q hq
  obtain ⟨j, hj, rfl⟩ := List.mem_iff_getElem.1 hq
  have hl := h.len
  have hpar : D.pages[j].parent = D.par j := par_get hj
  have hchg : D.pages[j].change = D.chg j := chg_get hj
  rw [hpar, hchg]
  by_cases h0 : j = 0
  · subst h0
    rw [h.ok.rc]
    have : strEq (ByteArray.mk #[]) (ByteArray.mk #[]) = true := by decide +kernel
    rw [this]; simp
  · have := h.ok.up j (by omega) hj
    rw [decide_eq_false (by omega)]; simp
theorem Along.step {C D : Chs} {p i : Nat} (hC : C.Ok) (hp : p < C.pages.length) (h : Along C p i D) (hi : i < (C.way p).length) :
    (D.do (C.chg ((C.way p)[i]))).2.2 = 0 ∧ Along C p (i + 1) (D.do (C.chg ((C.way p)[i]))).1 := by
  have hch := Chs.way_chain hC p p (Nat.le_refl _) hp
  obtain ⟨h0, hx, hpar⟩ := Chs.chain_get _ _ i hi hch
  obtain ⟨w, hd⟩ := hC.did _ h0 hx
  have hst := h.st _ (List.getElem?_eq_getElem (by simp; omega))
  rw [hpar] at hd
  have hcur := h.cur
  have hl := h.len
  have hwl := Chs.way_len_le hC hp
  have hm := hC.most
  have hdo : D.do (C.chg ((C.way p)[i])) = (⟨D.pages ++ [⟨C.chg ((C.way p)[i]), i, C.now ((C.way p)[i])⟩], i + 1⟩, w, 0) := by
    unfold Chs.do
    rw [hcur, hst, hd]
    dsimp only
    rw [h.child]
    dsimp only
    rw [if_neg (by omega), hl]
  have hok := Chs.do_ok h.ok (C.chg ((C.way p)[i]))
  rw [hdo] at hok ⊢
  refine ⟨rfl, hok, by simp; omega, rfl, fun q hq => ?_, fun j x hj hq => ?_⟩
  · have : q = (C.way p)[i] := by
      rw [List.getElem?_cons_succ, List.getElem?_eq_getElem hi] at hq
      injection hq with hq; exact hq.symm
    subst this
    unfold Chs.now
    dsimp only
    rw [List.getElem?_append_right (by omega)]
    simp [hl]
  · by_cases he : j = i
    · subst he
      rw [List.getElem?_eq_getElem hi] at hq
      injection hq with hq
      subst hq
      unfold Chs.par Chs.chg
      dsimp only
      rw [List.getElem?_append_right (by omega)]
      simp [hl]
    · obtain ⟨k1, k2⟩ := h.lnk j x (by omega) hq
      have e : (D.pages ++ [(⟨C.chg ((C.way p)[i]), i, C.now ((C.way p)[i])⟩ : Pg)])[j + 1]? = D.pages[j + 1]? := List.getElem?_append_left (by omega)
      exact ⟨by show (Option.map _ _).getD 0 = j; rw [e]; exact k1, by show (Option.map _ _).getD (ByteArray.mk #[]) = _; rw [e]; exact k2⟩
theorem Along.path {C D : Chs} {p i : Nat} (hC : C.Ok) (h : Along C p i D) (hi : i ≤ (C.way p).length) : ∀ j, j ≤ i → (D.way j).map D.chg = ((C.way p).take j).map C.chg
  | 0, _ => by rw [Chs.way_zero h.ok]; rfl
  | j + 1, hj => by
    have hl := h.len
    obtain ⟨k1, k2⟩ := h.lnk j ((C.way p)[j]'(by omega)) (by omega) (List.getElem?_eq_getElem (by omega))
    rw [Chs.way_step h.ok (by omega) (by omega), k1, List.map_append, Along.path hC h hi j (by omega), List.take_succ_eq_append_getElem (by omega), List.map_append]
    simp [k2]
theorem actS_inl {s : St} {w text form r : ByteArray} {f : St → List ByteArray × List Int → Act} {e : Int} (hf : ∀ p e, f s p = .inl e → e ≠ 0) (h : actS s w text form f = (.inl e, r)) : e ≠ 0 ∧ r = ByteArray.mk #[] := by
  unfold actS at h
  split at h
  · injection h with h1 h2
    injection h1 with h1
    subst h1
    exact ⟨by decide, h2.symm⟩
  · split at h
    · rename_i e' he
      injection h with h1 h2
      injection h1 with h1
      subst h1
      exact ⟨hf _ _ he, h2.symm⟩
    · injection h with h1 h2
      cases h1
theorem inl_ne {a b : Int} {h : b ≠ 0} (e : (Sum.inl b : Act) = .inl a) : a ≠ 0 := by injection e with e; omega
theorem doS_inl {s : St} {text r : ByteArray} {e : Int} (h : doS s text = (.inl e, r)) : e ≠ 0 ∧ r = ByteArray.mk #[] := by
  unfold doS at h
  split at h
  · refine actS_inl (fun p e hp => ?_) h
    unfold fLeaf at hp
    split at hp
    · unfold leafS at hp
      split at hp
      · exact inl_ne (h := by decide) hp
      split at hp
      · exact inl_ne (h := by decide) hp
      split at hp
      · exact inl_ne (h := by decide) hp
      · cases hp
    · exact inl_ne (h := by decide) hp
  split at h
  · refine actS_inl (fun p e hp => ?_) h
    unfold fGive at hp
    split at hp
    · unfold giveS at hp
      split at hp
      · split at hp
        · cases hp
        · exact inl_ne (h := by decide) hp
      · exact inl_ne (h := by decide) hp
    · exact inl_ne (h := by decide) hp
  split at h
  · refine actS_inl (fun p e hp => ?_) h
    unfold fOrder at hp
    split at hp
    · unfold orderS at hp
      split at hp
      · exact inl_ne (h := by decide) hp
      split at hp
      · exact inl_ne (h := by decide) hp
      split at hp
      · exact inl_ne (h := by decide) hp
      · cases hp
    · exact inl_ne (h := by decide) hp
  split at h
  · refine actS_inl (fun p e hp => ?_) h
    unfold fTaste at hp
    split at hp
    · unfold tasteS at hp
      split at hp
      · exact inl_ne (h := by decide) hp
      split at hp
      · exact inl_ne (h := by decide) hp
      · cases hp
    · exact inl_ne (h := by decide) hp
  split at h
  · refine actS_inl (fun p e hp => ?_) h
    unfold fOffer at hp
    split at hp
    · unfold offerS at hp
      split at hp
      · exact inl_ne (h := by decide) hp
      split at hp
      · exact inl_ne (h := by decide) hp
      split at hp
      · exact inl_ne (h := by decide) hp
      · cases hp
    · exact inl_ne (h := by decide) hp
  · injection h with h1 h2
    exact ⟨inl_ne (h := by decide) h1, h2.symm⟩
theorem Chs.child_pos {C : Chs} (hC : C.Ok) {p i : Nat} {ch : ByteArray} (h : C.child p ch = some i) : 0 < i := by
  obtain ⟨hi, hp, _⟩ := List.findIdx?_eq_some_iff_getElem.1 h
  rcases Nat.eq_zero_or_pos i with h0 | h0
  · subst h0
    rw [chg_get hi, hC.rc] at hp
    have : strEq (ByteArray.mk #[]) (ByteArray.mk #[]) = true := by decide +kernel
    rw [this] at hp
    simp at hp
  · exact h0
section
variable {H : Hp} {c : Nat} {pv : Sl} {C : Chs} {t : Nat}
theorem path_ok (h : ChAt H c pv C t) (hC : C.Ok) : Lt.Ok (r43 c 0 H) fun r A => Gr H A ∧ AccN H.n A r (C.path C.at') := by
  unfold r43
  refine is (none_ok h hC) (Lt.Ok.neg (by simp) ?_)
  dsimp only
  have hm := hC.most
  refine Lt.Ok.ld (ldI_get h.get rfl) (Lt.Ok.bind (way_ok h hC hC.cur) fun v A ⟨g, hv⟩ => ?_)
  have hA := h.gr g
  have hvs := hv.sl
  have hl := hv.len
  rw [ints_len] at hl
  have hwl := C.way_len hC C.at'
  dsimp only
  refine Lt.Ok.loop (L := fun K (s : Sl × Int) B => r43_l0 K c 0 s.1 v (v.len : Int) s.2 B) (fun m s B => ∃ i : Nat, s.2 = (i : Int) ∧ i + m = (C.way C.at').length ∧ Gr A B ∧ AccN A.n B s.1 (((C.way C.at').take i).map C.chg)) ?_ FUEL (C.way C.at').length (⟨true, 0, 0, 0, 0, 0⟩, 0) A (by unfold FUEL; omega) ⟨0, rfl, by omega, .refl _, ⟨AccL.nilS, fun _ => rfl⟩⟩
  rintro K m ⟨r, i'⟩ B ⟨i, hi, him, gB, ha⟩ ih
  dsimp only at *
  subst hi
  have hB := hA.gr gB
  have hlen := hB.len
  rw [r43_l0]
  refine Lt.Ok.ite (fun hlt => ?_) fun hlt => ?_
  · have hil : i < (C.way C.at').length := by omega
    have hx : (C.way C.at')[i] < C.pages.length := by
      have := (Chs.way_mem hC (List.getElem_mem hil)).2
      have := hC.cur
      omega
    refine Lt.Ok.ck (by omega) (Lt.Ok.ld ((hvs.gr gB).ldI (i := i) (j := 0) (n := ((C.way C.at')[i] : Int)) (by rw [ints_len]; exact hil) (by simp only [ints, List.getElem_map]; rfl)) (Lt.Ok.ld (ldSl_get hB.get rfl) (Lt.Ok.ck (by omega) (Lt.Ok.ld (hB.ldCh hx) ?_))))
    rw [chg_get hx]
    refine Lt.Ok.bind (AccN.push ha gB.1 (C.chg (C.way C.at')[i]) rfl rfl (by simp; omega)) fun r' D ⟨k1, k2, k3, k4⟩ => ?_
    dsimp only
    rw [w64_succ (by omega)]
    refine ih (m - 1) (r', _) D (by omega) ⟨i + 1, rfl, by omega, But.gr k2 ha.1 gB, ?_⟩
    rw [List.take_succ_eq_append_getElem hil, List.map_append]
    exact k1
  · have : i = (C.way C.at').length := by omega
    subst this
    rw [List.take_length] at ha
    have e : AccN H.n B r (C.path C.at') := by
      refine ⟨?_, ha.2⟩
      rcases ha.1 with h | ⟨h1, h2, h3, h4, h5, h6, h7⟩
      · exact .inl h
      · exact .inr ⟨h1, h2, h3, h4, Nat.le_trans g.1 h5, h6, h7⟩
    exact Lt.Ok.ret ⟨g.trans gB, e⟩
end
/-! ### numbers by a length -/
theorem wrapU {n : Int} : 0 ≤ IntKind.wrap .u64 n := by
  unfold IntKind.wrap
  simp [IntKind.signed, IntKind.bits]
  omega
theorem wrapU_id {n : Int} (h0 : 0 ≤ n) (h : n < 9223372036854775808) : IntKind.wrap .u64 n = n := by
  unfold IntKind.wrap
  simp [IntKind.signed, IntKind.bits]
  omega
theorem umod (a : Int) {n : Nat} (h0 : 1 ≤ n) (h1 : n ≤ 1000000) : IntKind.wrap .u64 (n : Int) ≠ 0 ∧ ∃ q : Nat, q < n ∧ w64 (Int.tmod (IntKind.wrap .u64 a) (IntKind.wrap .u64 (n : Int))) = (q : Int) := by
  rw [wrapU_id (n := (n : Int)) (by omega) (by omega)]
  have hm0 : 0 ≤ Int.tmod (IntKind.wrap .u64 a) (n : Int) := Int.tmod_nonneg _ wrapU
  have hm1 : Int.tmod (IntKind.wrap .u64 a) (n : Int) < n := Int.tmod_lt_of_pos _ (by omega)
  rw [w64_id (by omega) (by omega)]
  exact ⟨by omega, (Int.tmod (IntKind.wrap .u64 a) (n : Int)).toNat, by omega, by omega⟩
theorem ints_get {l : List Nat} {i : Nat} (h : i < l.length) : (ints l)[i]'(by rw [ints_len]; exact h) = (l[i] : Int) := by simp [ints]
theorem ints_ld {H : Hp} {v : Sl} {l : List Nat} (h : SL H v (ints l)) {i : Nat} (hi : i < l.length) : H.ldI .i64 v.b (v.o + i * 1) = some (l[i] : Int) := by
  have := h.ldI (i := i) (j := 0) (n := (l[i] : Int)) (by rw [ints_len]; exact hi) (by rw [ints_get hi]; rfl)
  exact this
theorem strEq_self (s : ByteArray) : strEq s s = true := strEq_iff.2 rfl
theorem equal_ok {H : Hp} {v w : Sl} {l : List ByteArray} (hv : SL H v l) (hw : SL H w l) (hb : l.length ≤ 1048577) : Lt.Ok (r42 v w H) fun r A => A = H ∧ r = true := by
  unfold r42
  have hl := hv.len
  have hl2 := hw.len
  refine Lt.Ok.neg (by omega) ?_
  refine Lt.Ok.loop (L := fun K (i : Int) A => r42_l0 K v w (v.len : Int) i A) (fun m i A => ∃ j : Nat, i = (j : Int) ∧ j + m = l.length ∧ A = H) ?_ FUEL l.length 0 H (by unfold FUEL; omega) ⟨0, rfl, by omega, rfl⟩
  rintro K m i A ⟨j, rfl, hj, rfl⟩ ih
  rw [r42_l0]
  refine Lt.Ok.ite (fun hlt => ?_) fun hlt => Lt.Ok.ret ⟨rfl, rfl⟩
  have hjl : j < l.length := by omega
  refine Lt.Ok.ck (by omega) (Lt.Ok.ld (SL.ldStr hv (i := j) (j := 0) hjl rfl) (Lt.Ok.ck (by omega) (Lt.Ok.ld (SL.ldStr hw (i := j) (j := 0) hjl rfl) ?_)))
  refine Lt.Ok.pos (strEq_self _) ?_
  rw [w64_id (n := (j : Int) + 1) (by omega) (by omega)]
  exact ih (m - 1) _ A (by omega) ⟨j + 1, by omega, by omega, rfl⟩
def Chs.kids (C : Chs) (p : Nat) : List Nat := (List.range C.pages.length).filter fun i => decide (0 < i ∧ C.par i = p)
section
variable {H : Hp} {c : Nat} {pv : Sl} {C : Chs} {t : Nat}
theorem kids_ok (h : ChAt H c pv C t) (hC : C.Ok) : Lt.Ok (r44 c 0 H) fun r A => Gr H A ∧ AccN H.n A r (ints (C.kids C.at')) := by
  unfold r44
  refine is (none_ok h hC) (Lt.Ok.neg (by simp) ?_)
  dsimp only
  have hm := hC.most
  have hplen := h.len
  refine Lt.Ok.ld (ldSl_get h.get rfl) ?_
  have e0 : ∀ i, i ≤ C.pages.length → (ints ((List.range i).filter fun i => decide (0 < i ∧ C.par i = C.at'))).length ≤ i := fun i hi => by
    rw [ints_len]
    have := List.length_filter_le (fun i => decide (0 < i ∧ C.par i = C.at')) (List.range i)
    rw [List.length_range] at this
    exact this
  refine Lt.Ok.loop (L := fun K (s : Sl × Int) B => r44_l0 K c 0 s.1 pv (pv.len : Int) s.2 B) (fun m s B => ∃ i : Nat, s.2 = (i : Int) ∧ i + m = C.pages.length ∧ Gr H B ∧ AccN H.n B s.1 (ints ((List.range i).filter fun i => decide (0 < i ∧ C.par i = C.at')))) ?_ FUEL C.pages.length (⟨true, 0, 0, 0, 0, 0⟩, 0) H (by unfold FUEL; omega) ⟨0, rfl, by omega, .refl _, ⟨AccL.nilS, fun _ => rfl⟩⟩
  rintro K m ⟨r, i'⟩ B ⟨i, hi, him, g, ha⟩ ih
  dsimp only at *
  subst hi
  have hB := h.gr g
  rw [r44_l0]
  refine Lt.Ok.ite (fun hlt => ?_) fun hlt => ?_
  · have hil : i < C.pages.length := by omega
    obtain ⟨b, hb, _⟩ := hB.ldSt hil
    have q0 := hB.ldCh hil
    have q1 := hB.ldPar hil
    refine Lt.Ok.ck (by omega) (Lt.Ok.ld q0 (Lt.Ok.ld q1 (Lt.Ok.ld hb ?_)))
    rw [par_get hil, chg_get hil]
    obtain ⟨F, k1, k2, k3, k4⟩ := sts_blk [.str (C.chg i), .int .i64 (C.par i : Int), .ptr b 0] 0 (B.push (.cells [.str (ByteArray.mk #[]), .int .i64 0, .nilptr] false)) _ (Hp.get_push_new _ _) (by simp)
    have k2' : F.get B.n = some (.cells [.str (C.chg i), .int .i64 (C.par i : Int), .ptr b 0] false) := by rw [k2]; simp
    have gF : Gr B F := ⟨by rw [k3]; simp, fun c hc => by rw [k4 c (by omega), Hp.get_push_old _ _ hc]⟩
    have hF := hB.gr gF
    have haF := ha.gr gF
    have gHF := g.trans gF
    refine Lt.Ok.ld k1 ?_
    have er : List.range (i + 1) = List.range i ++ [i] := List.range_succ
    have skip : ¬ (0 < i ∧ C.par i = C.at') → Lt.Ok (r44_j1 (fun v1_ v2_ v3_ v4_ v5_ v6_ H_ => r44_l0 K v1_ v2_ v3_ v4_ v5_ v6_ H_) c 0 r (i : Int) pv (pv.len : Int) (i : Int) false F) (fun r A => Gr H A ∧ AccN H.n A r (ints (C.kids C.at'))) := fun hn => by
      unfold r44_j1
      refine Lt.Ok.neg (by simp) ?_
      rw [w64_succ (by omega)]
      refine ih (m - 1) (r, _) F (by omega) ⟨i + 1, rfl, by omega, gHF, ?_⟩
      rw [er, List.filter_append]
      have : [i].filter (fun i => decide (0 < i ∧ C.par i = C.at')) = [] := by
        rw [List.filter_cons, if_neg (by simpa using hn)]; rfl
      rw [this, List.append_nil]
      exact haF
    refine Lt.Ok.ite (fun h0 => ?_) fun h0 => ?_
    · refine Lt.Ok.ld (ldI_get k2' rfl) (Lt.Ok.ld (ldI_get hF.get rfl) ?_)
      by_cases hp : C.par i = C.at'
      · rw [decide_eq_true (by omega)]
        unfold r44_j1
        refine Lt.Ok.pos rfl (Lt.Ok.bind (AccN.push haF gHF.1 (i : Int) rfl rfl (by have := e0 i (by omega); omega)) fun r' D ⟨j1, j2, j3, j4⟩ => ?_)
        dsimp only
        rw [w64_succ (by omega)]
        refine ih (m - 1) (r', _) D (by omega) ⟨i + 1, rfl, by omega, But.gr j2 haF.1 gHF, ?_⟩
        rw [er, List.filter_append]
        have e1 : [i].filter (fun i => decide (0 < i ∧ C.par i = C.at')) = [i] := by
          rw [List.filter_cons, if_pos (by simp; omega)]; rfl
        rw [e1]
        have e2 : ∀ l : List Nat, ints (l ++ [i]) = ints l ++ [(i : Int)] := fun l => by simp [ints]
        rw [e2]
        exact j1
      · rw [decide_eq_false (by omega)]
        exact skip (fun h => hp h.2)
    · exact skip (fun h => h0 (by omega))
  · have : i = C.pages.length := by omega
    subst this
    exact Lt.Ok.ret ⟨g, ha⟩
end
theorem Chs.kids_mem {C : Chs} {p q : Nat} (h0 : 0 < q) (hq : q < C.pages.length) (hp : C.par q = p) : q ∈ C.kids p := by
  unfold Chs.kids
  rw [List.mem_filter]
  exact ⟨List.mem_range.2 hq, by simp [h0, hp]⟩
theorem kids_len (C : Chs) (p : Nat) : (C.kids p).length ≤ C.pages.length := by
  have := List.length_filter_le (fun i => decide (0 < i ∧ C.par i = p)) (List.range C.pages.length)
  rw [List.length_range] at this
  exact this
/-! ### the reference's chest -/
abbrev RpC := Int × ByteArray
def rpg (ps : List Pg) : List RpC := ps.map fun p => ((p.parent : Int), p.change)
structure RcAt (H : Hp) (c : Nat) (pv : Sl) (C : Chs) : Prop where
  get : H.get c = some (.cells [.sl pv, .int .i64 (C.at' : Int)] false)
  nn : pv.nil = false
  o : pv.o = 0
  len : pv.len = C.pages.length
  cap : pv.cap = pv.len
  opn : pv.opn = 0 ∨ pv.opn = 2
  ne : c ≠ pv.b
  pg : H.get pv.b = some (.cells (encs (rpg C.pages)) false)
section
variable {H : Hp} {c : Nat} {pv : Sl} {C : Chs}
theorem RcAt.keep {H' : Hp} (h : RcAt H c pv C) (e1 : H'.get c = H.get c) (e2 : H'.get pv.b = H.get pv.b) : RcAt H' c pv C := ⟨by rw [e1]; exact h.get, h.nn, h.o, h.len, h.cap, h.opn, h.ne, by rw [e2]; exact h.pg⟩
theorem RcAt.gr {H' : Hp} (h : RcAt H c pv C) (g : Gr H H') : RcAt H' c pv C := h.keep (g.2 _ (Hp.get_lt h.get)) (g.2 _ (Hp.get_lt h.pg))
theorem rpg_len (ps : List Pg) : (rpg ps).length = ps.length := by simp [rpg]
theorem RcAt.sl (h : RcAt H c pv C) : SL H pv (rpg C.pages) := .of_get h.pg h.o (by rw [h.len, rpg_len]) (by rw [h.cap]; exact Nat.le_refl _) h.opn h.nn
theorem rpg_get {ps : List Pg} {i : Nat} (h : i < ps.length) : (rpg ps)[i]'(by rw [rpg_len]; exact h) = ((ps[i].parent : Int), ps[i].change) := by simp [rpg]
theorem RcAt.ldPar (h : RcAt H c pv C) {i : Nat} (hi : i < C.pages.length) : H.ldI .i64 pv.b (pv.o + i * 2 + 0) = some (C.par i : Int) :=
  h.sl.ldI (i := i) (j := 0) (n := (C.par i : Int)) (by rw [rpg_len]; exact hi) (by rw [rpg_get hi, ← par_get hi]; rfl)
theorem RcAt.ldCh (h : RcAt H c pv C) {i : Nat} (hi : i < C.pages.length) : H.ldStr pv.b (pv.o + i * 2 + 1) = some (C.chg i) :=
  SL.ldStr h.sl (i := i) (j := 1) (n := C.chg i) (by rw [rpg_len]; exact hi) (by rw [rpg_get hi, ← chg_get hi]; rfl)
theorem apN_copy {T : Type} [El T] {v : Sl} {l : List T} (h : SL H v l) (hc : v.cap = v.len) (ho : v.opn = 0) (x : T) {es : Nat} {cs : List AV} (hes : es = El.sz T) (hcs : cs = El.enc x) (hb : l.length < 4294967296) :
    Lt.Ok (H.apN es v cs 1) fun v' A => Gr H A ∧ AccN H.n A v' (l ++ [x]) := by
  subst hes; subst hcs
  have hl := h.len
  have g := Gr.push H (.cells (El.enc x) false)
  unfold Hp.apN Hp.app
  rw [if_pos (by omega), if_neg (by omega)]
  rw [(h.gr g).lds]
  simp only [Option.bind_some]
  rw [if_pos ho]
  refine Lt.Ok.ret ⟨g.trans (Gr.push _ _), .inr ⟨rfl, rfl, rfl, rfl, ?_, ?_, ?_⟩, by simp⟩
  · show H.n ≤ (H.push (.cells (El.enc x) false)).n; simp
  · rw [encs_append, encs_one]; exact Hp.get_push_new _ _
  · rw [encs_len, List.length_append, hl]; rfl
theorem app139 (k : Nat) (c : Nat) (p : Int) (H : Hp) : appA (k + 1) 139 [.ptr c 0, .int .i64 p] H = (r139 (appA k) c 0 p H).map fun q => (.sl q.1, q.2) := rfl
theorem way_okR : ∀ (k p : Nat) (H : Hp), RcAt H c pv C → C.Ok → p ≤ k → p < C.pages.length → Lt.Ok (r139 (appA k) c 0 (p : Int) H) fun r A => Gr H A ∧ AccN H.n A r (ints (C.way p)) := by
  intro k
  induction k with
  | zero =>
    intro p H h hC hp hl
    have : p = 0 := by omega
    subst this
    unfold r139
    refine Lt.Ok.pos rfl (Lt.Ok.ret ⟨.refl _, ?_⟩)
    rw [Chs.way_zero hC]
    exact ⟨AccL.nilS, fun _ => rfl⟩
  | succ k ih =>
    intro p H h hC hp hl
    have hlen := h.len; have hm := hC.most
    unfold r139
    refine Lt.Ok.ite (fun h0 => ?_) fun h0 => ?_
    · have : p = 0 := by omega
      subst this
      refine Lt.Ok.ret ⟨.refl _, ?_⟩
      rw [Chs.way_zero hC]
      exact ⟨AccL.nilS, fun _ => rfl⟩
    · refine Lt.Ok.ld (ldSl_get h.get rfl) (Lt.Ok.ck (by omega) (Lt.Ok.ld (h.ldPar hl) ?_))
      rw [app139, Int.toNat_natCast]
      have hup := hC.up p (by omega) hl
      obtain ⟨r, A, e, g, ha⟩ := ih (C.par p) H h hC (by omega) (by omega)
      rw [e]
      simp only [Option.map_some, Option.bind_some, AV.asSl]
      have hsl := ha.1.sl
      have hrl := hsl.len
      refine Lt.Ok.ck ⟨by omega, by omega, by omega, by have := hsl.cap; omega⟩ ?_
      have hcut : SL A (r.cut3 1 (0 : Int).toNat ((r.len : Int)).toNat ((r.len : Int)).toNat) (ints (C.way (C.par p))) := by
        have := SL.cut3 hsl (lo := 0) (hi := r.len) (mx := r.len) (by omega) (by omega) (by omega)
        rw [List.drop_zero, List.take_of_length_le (by omega)] at this
        exact this
      have hway : (ints (C.way (C.par p))).length ≤ 200 := by
        rw [ints_len]
        have := Chs.way_len_le hC (p := C.par p) (by omega)
        omega
      have hcl := hcut.len
      refine Lt.Ok.bind (apN_copy hcut ?_ ?_ (p : Int) rfl rfl (by omega)) fun v' B ⟨g2, hB⟩ => ?_
      · rw [hcl]
        unfold Sl.cut3
        split
        · rename_i hn
          have := hsl.nil hn
          rcases ha.1 with ⟨rfl, e2⟩ | q
          · rw [this.2]; rfl
          · rw [q.1] at hn; cases hn
        · show (r.len : Int).toNat - (0 : Int).toNat = _
          simp; omega
      · unfold Sl.cut3
        split
        · rename_i hn
          rcases ha.1 with ⟨rfl, e2⟩ | q
          · rfl
          · rw [q.1] at hn; cases hn
        · rfl
      · rw [Chs.way_step hC (by omega) hl]
        have e2 : ints (C.way (C.par p) ++ [p]) = ints (C.way (C.par p)) ++ [(p : Int)] := by simp [ints]
        rw [e2]
        refine Lt.Ok.ret ⟨g.trans g2, ?_⟩
        rcases hB.1 with ⟨_, e3⟩ | ⟨a1, a2, a3, a4, a5, a6, a7⟩
        · exfalso
          have := congrArg List.length e3
          rw [encs_append, encs_one, List.length_append] at this
          simp at this
        · exact ⟨.inr ⟨a1, a2, a3, a4, Nat.le_trans g.1 a5, a6, a7⟩, fun q => by simp at q⟩
end
section
variable {C : Chs}
def stepS (s : St) (line : ByteArray) : St := match (doS s line).1 with | .inr t => t | .inl _ => s
theorem now_fold (hC : C.Ok) : ∀ (n p : Nat), p ≤ n → p < C.pages.length → (C.path p).foldl stepS St.new = C.now p := by
  intro n
  induction n with
  | zero =>
    intro p h hp
    have : p = 0 := by omega
    subst this
    unfold Chs.path
    rw [Chs.way_zero hC, hC.root.2]; rfl
  | succ n ih =>
    intro p h hp
    by_cases h0 : p = 0
    · subst h0
      unfold Chs.path
      rw [Chs.way_zero hC, hC.root.2]; rfl
    · have hup := hC.up p (by omega) hp
      have := ih (C.par p) (by omega) (by omega)
      unfold Chs.path at this ⊢
      rw [Chs.way_step hC h0 hp, List.map_append, List.foldl_append, this]
      obtain ⟨w, hw⟩ := hC.did p (by omega) hp
      show stepS (C.now (C.par p)) (C.chg p) = C.now p
      unfold stepS
      rw [hw]
theorem stepS_ok {s : St} (h : s.Ok) (line : ByteArray) : (stepS s line).Ok := by
  unfold stepS
  split
  · rename_i t ht
    exact doS_ok (w := (doS s line).2) h (by rw [← ht])
  · exact h
end
section
variable {H : Hp} {c : Nat} {pv : Sl} {C : Chs}
theorem Chs.way_lt (hC : C.Ok) {p x : Nat} (hp : p < C.pages.length) (h : x ∈ C.way p) : 0 < x ∧ x ≤ p := by
  rw [Chs.way_eq hC hp] at h
  exact Chs.ups_mem hC _ _ _ (List.mem_reverse.1 h)
theorem AccN.down {T : Type} [El T] {n0 n1 : Nat} {A : Hp} {v : Sl} {l : List T} (h : AccN n1 A v l) (hn : n0 ≤ n1) : AccN n0 A v l := by
  refine ⟨?_, h.2⟩
  rcases h.1 with q | ⟨a, b, c, d, e, f, g⟩
  · exact .inl q
  · exact .inr ⟨a, b, c, d, Nat.le_trans hn e, f, g⟩
theorem path_okR {k p : Nat} (h : RcAt H c pv C) (hC : C.Ok) (hk : p ≤ k) (hp : p < C.pages.length) : Lt.Ok (r85 (appA k) c 0 (p : Int) H) fun r A => Gr H A ∧ AccN H.n A r (C.path p) := by
  have hm := hC.most
  unfold r85
  refine Lt.Ok.bind (way_okR k p H h hC hk hp) fun w B ⟨g, hw⟩ => ?_
  dsimp only
  have hws := hw.1.sl
  have hwl := hws.len
  rw [ints_len] at hwl
  have hwm := Chs.way_len_le hC hp
  refine Lt.Ok.loop (L := fun K (t : Sl × Int) A => r85_l0 (appA k) K c 0 t.1 w (w.len : Int) t.2 A) (fun m t A => ∃ i : Nat, t.2 = (i : Int) ∧ i + m = (C.way p).length ∧ Gr B A ∧ AccN B.n A t.1 (((C.way p).take i).map C.chg)) ?_ FUEL (C.way p).length (⟨true, 0, 0, 0, 0, 0⟩, 0) B (by unfold FUEL; omega) ⟨0, rfl, by omega, .refl _, ⟨AccL.nilS, fun _ => rfl⟩⟩
  rintro K m ⟨r, i'⟩ A ⟨i, hi, him, gA, ha⟩ ih
  dsimp only at *
  subst hi
  rw [r85_l0]
  have hA := (h.gr g).gr gA
  have hl := h.len
  refine Lt.Ok.ite (fun hlt => ?_) fun hlt => ?_
  · have hil : i < (C.way p).length := by omega
    obtain ⟨x0, x1⟩ := Chs.way_lt hC hp (List.getElem_mem hil)
    refine Lt.Ok.ck (by omega) (Lt.Ok.ld (ints_ld (hws.gr gA) hil) (Lt.Ok.ld (ldSl_get hA.get rfl) (Lt.Ok.ck (by omega) ?_)))
    rw [Int.toNat_natCast]
    refine Lt.Ok.ld (hA.ldCh (by omega)) ?_
    refine Lt.Ok.bind (AccN.push ha gA.1 (C.chg (C.way p)[i]) rfl rfl (by simp; omega)) fun r' D ⟨k1, k2, k3, k4⟩ => ?_
    dsimp only
    rw [w64_succ (by omega)]
    refine ih (m - 1) (r', _) D (by omega) ⟨i + 1, rfl, by omega, But.gr k2 ha.1 gA, ?_⟩
    rw [List.take_succ_eq_append_getElem hil, List.map_append]
    exact k1
  · have : i = (C.way p).length := by omega
    subst this
    rw [List.take_length] at ha
    exact Lt.Ok.ret ⟨g.trans gA, ha.down g.1⟩
theorem kids_okR (h : RcAt H c pv C) (hC : C.Ok) (p : Nat) : Lt.Ok (r86 c 0 (p : Int) H) fun r A => Gr H A ∧ AccN H.n A r (ints (C.kids p)) := by
  have hm := hC.most; have hl := h.len
  unfold r86
  refine Lt.Ok.ld (ldSl_get h.get rfl) ?_
  have e0 : ∀ i, i ≤ C.pages.length → (ints ((List.range i).filter fun i => decide (0 < i ∧ C.par i = p))).length ≤ i := fun i hi => by
    rw [ints_len]
    have := List.length_filter_le (fun i => decide (0 < i ∧ C.par i = p)) (List.range i)
    rw [List.length_range] at this
    exact this
  refine Lt.Ok.loop (L := fun K (s : Sl × Int) B => r86_l0 K (p : Int) s.1 pv (pv.len : Int) s.2 B) (fun m s B => ∃ i : Nat, s.2 = (i : Int) ∧ i + m = C.pages.length ∧ Gr H B ∧ AccN H.n B s.1 (ints ((List.range i).filter fun i => decide (0 < i ∧ C.par i = p)))) ?_ FUEL C.pages.length (⟨true, 0, 0, 0, 0, 0⟩, 0) H (by unfold FUEL; omega) ⟨0, rfl, by omega, .refl _, ⟨AccL.nilS, fun _ => rfl⟩⟩
  rintro K m ⟨r, i'⟩ B ⟨i, hi, him, g, ha⟩ ih
  dsimp only at *
  subst hi
  have hB := h.gr g
  rw [r86_l0]
  refine Lt.Ok.ite (fun hlt => ?_) fun hlt => ?_
  · have hil : i < C.pages.length := by omega
    refine Lt.Ok.ck (by omega) (Lt.Ok.ld (by have := hB.ldPar hil; exact this) (Lt.Ok.ld (by have := hB.ldCh hil; exact this) ?_))
    obtain ⟨F, k1, gF, k2⟩ := tmpN B [.int .i64 0, .str (ByteArray.mk #[])] [.int .i64 (C.par i : Int), .str (C.chg i)] rfl
    refine Lt.Ok.ld k1 ?_
    have haF := ha.gr gF
    have gHF := g.trans gF
    have er : List.range (i + 1) = List.range i ++ [i] := List.range_succ
    have skip : ¬ (0 < i ∧ C.par i = p) → Lt.Ok (r86_j1 (fun v1_ v2_ v3_ v4_ v5_ H_ => r86_l0 K v1_ v2_ v3_ v4_ v5_ H_) (p : Int) r (i : Int) pv (pv.len : Int) (i : Int) false F) (fun r A => Gr H A ∧ AccN H.n A r (ints (C.kids p))) := fun hn => by
      unfold r86_j1
      refine Lt.Ok.neg (by simp) ?_
      rw [w64_succ (by omega)]
      refine ih (m - 1) (r, _) F (by omega) ⟨i + 1, rfl, by omega, gHF, ?_⟩
      rw [er, List.filter_append]
      have : [i].filter (fun i => decide (0 < i ∧ C.par i = p)) = [] := by
        rw [List.filter_cons, if_neg (by simpa using hn)]; rfl
      rw [this, List.append_nil]
      exact haF
    refine Lt.Ok.ite (fun h0 => ?_) fun h0 => ?_
    · refine Lt.Ok.ld (ldI_get k2 rfl) ?_
      by_cases hp : C.par i = p
      · rw [decide_eq_true (by omega)]
        unfold r86_j1
        refine Lt.Ok.pos rfl (Lt.Ok.bind (AccN.push haF gHF.1 (i : Int) rfl rfl (by have := e0 i (by omega); omega)) fun r' D ⟨j1, j2, j3, j4⟩ => ?_)
        dsimp only
        rw [w64_succ (by omega)]
        refine ih (m - 1) (r', _) D (by omega) ⟨i + 1, rfl, by omega, But.gr j2 haF.1 gHF, ?_⟩
        rw [er, List.filter_append]
        have e1 : [i].filter (fun i => decide (0 < i ∧ C.par i = p)) = [i] := by
          rw [List.filter_cons, if_pos (by simp; omega)]; rfl
        rw [e1]
        have e2 : ∀ l : List Nat, ints (l ++ [i]) = ints l ++ [(i : Int)] := fun l => by simp [ints]
        rw [e2]
        exact j1
      · rw [decide_eq_false (by omega)]
        exact skip (fun h => hp h.2)
    · exact skip (fun h => h0 (by omega))
  · have : i = C.pages.length := by omega
    subst this
    exact Lt.Ok.ret ⟨g, ha⟩
end
/-! ### the books -/
def pgB (p : Pg) : List UInt8 := UInt8.ofNat p.parent :: UInt8.ofNat p.change.size :: p.change.data.toList
def bytesP (l : List Pg) : List UInt8 := (l.map pgB).flatten
def Chs.bytes (C : Chs) : List UInt8 := bytesP (C.pages.drop 1)
theorem pgB_len (p : Pg) : (pgB p).length = 2 + p.change.size := by
  have : p.change.data.toList.length = p.change.size := by rw [Array.length_toList]; rfl
  simp only [pgB, List.length_cons, this]; omega
theorem bytesP_append (a b : List Pg) : bytesP (a ++ b) = bytesP a ++ bytesP b := by simp [bytesP]
theorem bytesP_len : ∀ (l : List Pg), (∀ p ∈ l, p.change.size ≤ 60) → (bytesP l).length ≤ 62 * l.length
  | [], _ => by simp [bytesP]
  | p :: l, h => by
    have h1 := bytesP_len l fun q hq => h q (by simp [hq])
    have h2 := h p (by simp)
    have h3 : (bytesP (p :: l)).length = (pgB p).length + (bytesP l).length := by simp [bytesP]
    rw [h3, pgB_len]
    simp only [List.length_cons]; omega
theorem chg_le {C : Chs} (hC : C.Ok) {i : Nat} (hi : i < C.pages.length) : (C.chg i).size ≤ 60 := by
  by_cases h0 : i = 0
  · subst h0; rw [hC.rc]; decide
  · obtain ⟨w, hd⟩ := hC.did i (by omega) hi
    exact doS_size hd
theorem wrap8 {n : Nat} (h : n < 256) : IntKind.wrap .u8 (n : Int) = ((UInt8.ofNat n).toNat : Int) := by
  have e : (UInt8.ofNat n).toNat = n := by simp [UInt8.toNat_ofNat]; omega
  rw [e]
  unfold IntKind.wrap
  simp [IntKind.signed, IntKind.bits]
  omega
section
variable {H : Hp} {c : Nat} {pv : Sl} {C : Chs} {t : Nat}
theorem bytes_ok (h : ChAt H c pv C t) (hC : C.Ok) : Lt.Ok (r35 c 0 H) fun r A => Gr H A ∧ AccN H.n A r C.bytes := by
  unfold r35
  refine is (none_ok h hC) (Lt.Ok.neg (by simp) ?_)
  dsimp only
  have hm := hC.most; have h1 := hC.one
  have hplen := h.len; have hcap := h.cap; have ho := h.o
  have hopn : pv.opn = 0 ∨ pv.opn = 3 := h.opn
  refine Lt.Ok.ld (ldSl_get h.get rfl) (Lt.Ok.ck (by refine ⟨?_, hopn⟩; omega) ?_)
  have e1 : pv.cut 3 (1 : Int).toNat (pv.len : Int).toNat = ⟨false, pv.b, pv.o + 1 * 3, pv.len - 1, pv.cap - 1, pv.opn⟩ := by
    unfold Sl.cut
    rw [h.nn]; rfl
  rw [e1]
  refine Lt.Ok.loop (L := fun K (s : Sl × Int) B => r35_l0 K s.1 ⟨false, pv.b, pv.o + 1 * 3, pv.len - 1, pv.cap - 1, pv.opn⟩ (((pv.len - 1 : Nat)) : Int) s.2 B) (fun m s B => ∃ i : Nat, s.2 = (i : Int) ∧ i + m = C.pages.length - 1 ∧ Gr H B ∧ AccN H.n B s.1 (bytesP ((C.pages.drop 1).take i))) ?_ FUEL (C.pages.length - 1) (⟨true, 0, 0, 0, 0, 0⟩, 0) H (by unfold FUEL; omega) ⟨0, rfl, by omega, .refl _, ⟨AccL.nilS, fun _ => rfl⟩⟩
  rintro K m ⟨r, i'⟩ B ⟨i, hi, him, g, ha⟩ ih
  dsimp only at *
  subst hi
  have hB := h.gr g
  rw [r35_l0]
  refine Lt.Ok.ite (fun hlt => ?_) fun hlt => ?_
  · have hil : i + 1 < C.pages.length := by omega
    obtain ⟨b, hb, _⟩ := hB.ldSt hil
    have q0 : B.ldStr pv.b (pv.o + 1 * 3 + ((i : Int)).toNat * 3) = some C.pages[i + 1].change := by
      rw [← hB.ldCh hil]; congr 1; simp only [Int.toNat_natCast]; omega
    have q1 : B.ldI .i64 pv.b (pv.o + 1 * 3 + ((i : Int)).toNat * 3 + 1) = some (C.pages[i + 1].parent : Int) := by
      rw [← hB.ldPar hil]; congr 1; simp only [Int.toNat_natCast]; omega
    have q2 : B.ldP pv.b (pv.o + 1 * 3 + ((i : Int)).toNat * 3 + 2) = some (b, 0) := by
      rw [← hb]; congr 1; simp only [Int.toNat_natCast]; omega
    refine Lt.Ok.ck (by first | omega | (dsimp only; omega)) (Lt.Ok.ld q0 (Lt.Ok.ld q1 (Lt.Ok.ld q2 ?_)))
    obtain ⟨F, k1, k2, k3, k4⟩ := sts_blk [.str C.pages[i + 1].change, .int .i64 (C.pages[i + 1].parent : Int), .ptr b 0] 0 (B.push (.cells [.str (ByteArray.mk #[]), .int .i64 0, .nilptr] false)) _ (Hp.get_push_new _ _) (by simp)
    have k2' : F.get B.n = some (.cells [.str C.pages[i + 1].change, .int .i64 (C.pages[i + 1].parent : Int), .ptr b 0] false) := by rw [k2]; simp
    have gF : Gr B F := ⟨by rw [k3]; simp, fun c hc => by rw [k4 c (by omega), Hp.get_push_old _ _ hc]⟩
    have haF := ha.gr gF
    have gHF := g.trans gF
    have hBn := Hp.get_lt k2'
    have q5 : F.ldStr B.n (0 + 0) = some C.pages[i + 1].change := by simp [Hp.ldStr, ld_of_get k2', AV.asStr]
    refine Lt.Ok.ld k1 (Lt.Ok.ld (ldI_get k2' rfl) (Lt.Ok.ld q5 ?_))
    have hpar : C.pages[i + 1].parent < 256 := by
      have := hC.up (i + 1) (by omega) hil
      rw [par_get hil]; omega
    have hchg : C.pages[i + 1].change.size ≤ 60 := by
      have := chg_le hC hil
      rw [← chg_get hil] at this; exact this
    rw [wrap8 hpar, wrap8 (by omega)]
    have hlen1 : (bytesP ((C.pages.drop 1).take i)).length ≤ 62 * 200 := by
      have := bytesP_len ((C.pages.drop 1).take i) fun p hp => by
        have hp := List.mem_of_mem_drop (List.mem_of_mem_take hp)
        obtain ⟨j, hj, rfl⟩ := List.mem_iff_getElem.1 hp
        rw [chg_get hj]; exact chg_le hC hj
      rw [List.length_take, List.length_drop] at this
      omega
    have hsl := haF.1.len
    obtain ⟨r1, D, e1, a1, b1, c1, d1, _, _⟩ := Acc.apN (xs := [AV.int .u8 ((UInt8.ofNat C.pages[i + 1].parent).toNat : Int), .int .u8 ((UInt8.ofNat C.pages[i + 1].change.size).toNat : Int)]) (k := 2) haF.1 (by decide) rfl (by omega) gHF.1
    have e1' : F.apN 1 r [.int .u8 ((UInt8.ofNat C.pages[i + 1].parent).toNat : Int), .int .u8 ((UInt8.ofNat C.pages[i + 1].change.size).toNat : Int)] 2 = some (r1, D) := e1
    rw [e1']
    simp only [Option.bind_some]
    have hrB : r.nil = false → r.b ≠ B.n := fun hn => by
      have := SL.lt ha.1.sl (fun e => by
        have h2 := ha.2 e
        rw [h2] at hn; cases hn)
      omega
    have q6 : D.ldStr B.n (0 + 0) = some C.pages[i + 1].change := by
      have hg : D.get B.n = some (.cells [.str C.pages[i + 1].change, .int .i64 (C.pages[i + 1].parent : Int), .ptr b 0] false) := by
        rw [b1.2 _ hBn (fun hn => (hrB hn).symm)]; exact k2'
      simp [Hp.ldStr, ld_of_get hg, AV.asStr]
    rw [q6]
    simp only [Option.bind_some]
    have gHD : Gr H D := But.gr b1 haF.1 gHF
    obtain ⟨r2, E, e2, a2, b2, c2, d2, f2, _⟩ := Acc.app (xs := bytesAV C.pages[i + 1].change) (k := C.pages[i + 1].change.size) a1 (by decide) (by rw [bytesAV_len]; exact (Nat.mul_one _).symm) (by omega) gHD.1
    have e2' : D.app 1 r1 (bytesAV C.pages[i + 1].change) C.pages[i + 1].change.size = some (r2, E) := e2
    rw [e2']
    simp only [Option.bind_some]
    rw [w64_succ (by omega)]
    have hdr : ((C.pages.drop 1).take (i + 1)) = ((C.pages.drop 1).take i) ++ [C.pages[i + 1]] := by
      rw [List.take_succ_eq_append_getElem (by rw [List.length_drop]; omega), List.getElem_drop]
      congr 2
      congr 1
      omega
    refine ih (m - 1) (r2, _) E (by omega) ⟨i + 1, rfl, by omega, But.gr b2 a1 gHD, ?_, ?_⟩
    · unfold AccL
      rw [hdr, bytesP_append, encs_append]
      have e3 : encs (bytesP [C.pages[i + 1]]) = [AV.int .u8 ((UInt8.ofNat C.pages[i + 1].parent).toNat : Int), .int .u8 ((UInt8.ofNat C.pages[i + 1].change.size).toNat : Int)] ++ bytesAV C.pages[i + 1].change := by
        rw [bytes_encs]
        have : bytesP [C.pages[i + 1]] = UInt8.ofNat C.pages[i + 1].parent :: UInt8.ofNat C.pages[i + 1].change.size :: C.pages[i + 1].change.data.toList := by simp [bytesP, pgB]
        rw [this, encs_cons, encs_cons]
        rfl
      rw [e3, ← List.append_assoc]
      exact a2
    · intro e
      rw [hdr, bytesP_append] at e
      have := congrArg List.length e
      rw [List.length_append] at this
      simp [bytesP, pgB] at this
  · have : i = C.pages.length - 1 := by omega
    subst this
    have e : (C.pages.drop 1).take (C.pages.length - 1) = C.pages.drop 1 := by
      rw [List.take_of_length_le]; rw [List.length_drop]; exact Nat.le_refl _
    rw [e] at ha
    exact Lt.Ok.ret ⟨g, ha⟩
end
theorem bInts_encs : ∀ l : List UInt8, bInts (encs l) = some (l.map fun b => (b.toNat : Int))
  | [] => rfl
  | b :: l => by
    rw [encs_cons]
    show bInts (.int .u8 (b.toNat : Int) :: encs l) = _
    unfold bInts
    rw [bInts_encs l]; rfl
theorem bEq_ok {H : Hp} {v w : Sl} {l : List UInt8} (hv : SL H v l) (hw : SL H w l) : r39 v w H = some (true, H) := by
  unfold r39
  have e1 := hv.lds
  have e2 := hw.lds
  have z1 : v.len * El.sz UInt8 = v.len := Nat.mul_one _
  have z2 : w.len * El.sz UInt8 = w.len := Nat.mul_one _
  rw [z1] at e1; rw [z2] at e2
  rw [e1]
  simp only [Option.bind_some, bInts_encs]
  rw [e2]
  simp only [Option.bind_some, bInts_encs]
  rw [strEq_self]
end Go.Lt.P10
