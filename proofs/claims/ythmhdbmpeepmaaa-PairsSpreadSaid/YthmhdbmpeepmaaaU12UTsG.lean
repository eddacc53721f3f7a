/- PLAIN LAWS OF WHAT IS COMPUTED, for the statement 'PairsSpread'. Nothing is asked of the input. -/
import Derived.Test.YthmhdbmpeepmaaaU12UTsB
import Derived.Test.YthmhdbmpeepmaaaLB
import Derived.Test.YthmhdbmpeepmaaaU12UThI
import Derived.Test.YthmhdbmpeepmaaaU12USl
import Derived.Test.YthmhdbmpeepmaaaU12UThG0
import Derived.Test.YthmhdbmpeepmaaaLB
set_option linter.unusedVariables false
set_option linter.unusedSimpArgs false
namespace Go.Lt.P8
open Go Go.Lt Go.Proofs
theorem lds_frame {A B : Hp} {b : Nat} (e : ∀ cs ro, A.get b = some (.cells cs ro) → B.get b = some (.cells cs ro)) : ∀ {n o : Nat} {xs : List AV}, A.lds b o n = some xs → B.lds b o n = some xs := by
  intro n
  induction n with
  | zero => intro o xs h; exact h
  | succ n ih =>
    intro o xs h
    obtain ⟨x, ys, rfl, h1, h2⟩ := lds_cons_inv h
    refine lds_cons ?_ (ih h2)
    unfold Hp.ld at *
    split at h1
    · rename_i cs ro hg; rw [e cs ro hg]; exact h1
    · cases h1
theorem _root_.Go.Lt.SL.frame {T : Type} [El T] {A B : Hp} {v : Sl} {l : List T} (h : SL A v l) (e : v.nil = false → ∀ cs ro, A.get v.b = some (.cells cs ro) → B.get v.b = some (.cells cs ro)) : SL B v l := by
  cases hn : v.nil with
  | true => obtain ⟨rfl, rfl⟩ := h.nil hn; exact SL.nilS
  | false => exact ⟨⟨h.cs.1, lds_frame (e hn) h.cs.2⟩, h.cap, h.opn, h.nil⟩
/-- slices put together, all that they hold being new -/
structure Out (n0 : Nat) (H : Hp) (x : Sl) (vs : List Sl) (ls : List (List Int)) : Prop where
  acc : Acc n0 1 H x (vs.map .sl)
  all : All (H.hide x) vs ls
  new : ∀ u ∈ vs, u.nil = false → n0 ≤ u.b
theorem Out.sll {n0 : Nat} {H : Hp} {x : Sl} {vs : List Sl} {ls : List (List Int)} (h : Out n0 H x vs ls) : SLL H x vs ls := AccS.sll (n0 := n0) ⟨h.acc, h.all⟩
theorem Out.low {n0 : Nat} {H : Hp} {x : Sl} {vs : List Sl} {ls : List (List Int)} (h : Out n0 H x vs ls) (hn : x.nil = false) : n0 ≤ x.b := by
  rcases h.acc with ⟨rfl, _⟩ | ⟨_, _, _, _, h5, _⟩
  · simp [nilS] at hn
  · exact h5
/-- what lies above n0 being as it was -/
theorem Out.keep {n0 : Nat} {A B : Hp} {x : Sl} {vs : List Sl} {ls : List (List Int)} (h : Out n0 A x vs ls) (e : ∀ c, n0 ≤ c → c < A.n → B.get c = A.get c) : Out n0 B x vs ls := by
  refine ⟨h.acc.keep fun hn => e _ (h.low hn) (h.acc.lt hn), ⟨h.all.1, fun i h1 h2 => (h.all.2 i h1 h2).frame fun hn cs ro hg => ?_⟩, h.new⟩
  obtain ⟨h3, h4⟩ := hide_get hg
  rw [get_hide h4, e _ (h.new _ (List.getElem_mem h1) hn) (Hp.get_lt h3)]
  exact h3
theorem Out.push {n0 : Nat} {H : Hp} {x w : Sl} {vs : List Sl} {ls : List (List Int)} {l : List Int} (h : Out n0 H x vs ls) (hn0 : n0 ≤ H.n) (hw : SL H w l) (hne : w.nil = false → n0 ≤ w.b ∧ (x.nil = false → w.b ≠ x.b)) (hb : ls.length < 4294967296) :
    Ok (H.apN 1 x [.sl w] 1) fun x' H' => Out n0 H' x' (vs ++ [w]) (ls ++ [l]) ∧ But x H H' ∧ (x'.nil = false → (x.nil = false ∧ x'.b = x.b) ∨ H.n ≤ x'.b) := by
  have hl := h.sll.len
  obtain ⟨x', H', h1, h2, h3, h4, h5, h6, h7⟩ := Acc.apN (k := 1) (xs := [.sl w]) h.acc (by omega) rfl (by omega) hn0
  have s : Sub (H.hide x) (H'.hide x') := fun b cs ro e => by
    obtain ⟨e1, e2⟩ := hide_get e
    have hlt := Hp.get_lt e1
    rw [get_hide, h3.2 b hlt e2, e1]
    intro hn
    rcases h4 with rfl | h4
    · exact e2 hn
    · omega
  refine ⟨x', H', h1, ⟨by rw [List.map_append]; exact h2, (h.all.append (All.one (hw.hide fun a b => (hne b).2 a))).sub s, fun u hu hn => ?_⟩, h3, fun hn => ?_⟩
  · rcases List.mem_append.1 hu with hu | hu
    · exact h.new u hu hn
    · rw [List.mem_singleton] at hu; subst hu; exact (hne hn).1
  · rcases h4 with rfl | h4
    · exact .inl ⟨hn, rfl⟩
    · exact .inr h4
/-- where the search for spreads stands in memory -/
structure Spr (v n0 c0 c1 c2 c3 : Nat) (lv : Sl) (l : List Tr) (H : Hp) (x : Sl) (vs : List Sl) (ls : List (List Int)) : Prop where
  v : H.get c0 = some (.cells [.int .i64 v] false)
  o : H.get c1 = some (.cells [.sl x] false)
  t : H.get c2 = some (.cells [.sl lv] false)
  f : H.get c3 = some (.cells [.fn 90 [] [.ptr c0 0, .ptr c1 0, .ptr c2 0, .ptr c3 0]] false)
  l : SL H lv l
  b : Out n0 H x vs ls
structure Apx (n0 c0 c1 c2 c3 : Nat) (lv : Sl) : Prop where
  lt : c0 < n0 ∧ c1 < n0 ∧ c2 < n0 ∧ c3 < n0
  ne : c0 ≠ c1 ∧ c2 ≠ c1 ∧ c3 ≠ c1
  lv : lv.nil = false → lv.b < n0 ∧ lv.b ≠ c1
/-- apart from what is changed -/
def Sep2 (c1 : Nat) (w x : Sl) (H : Hp) : Prop := w.nil = false → w.b < H.n ∧ w.b ≠ c1 ∧ (x.nil = false → w.b ≠ x.b)
theorem Spr.gr {v n0 c0 c1 c2 c3 : Nat} {lv : Sl} {l : List Tr} {H H' : Hp} {x : Sl} {vs : List Sl} {ls : List (List Int)} (h : Spr v n0 c0 c1 c2 c3 lv l H x vs ls) (g : Gr H H') : Spr v n0 c0 c1 c2 c3 lv l H' x vs ls :=
  ⟨by rw [g.2 _ (Hp.get_lt h.v)]; exact h.v, by rw [g.2 _ (Hp.get_lt h.o)]; exact h.o, by rw [g.2 _ (Hp.get_lt h.t)]; exact h.t, by rw [g.2 _ (Hp.get_lt h.f)]; exact h.f, h.l.gr g, h.b.keep fun c _ hc => g.2 c hc⟩
theorem _root_.Go.Lt.SL.fr {T : Type} [El T] {c1 : Nat} {w x x' : Sl} {q : List T} {H H' : Hp} (hw : SL H w q) (hs : Sep2 c1 w x H) (fr : Fr c1 c1 x x' H H') : SL H' w q ∧ Sep2 c1 w x' H' := by
  refine ⟨hw.frame fun hn cs ro hg => ?_, fun hn => ?_⟩
  · obtain ⟨h1, h2, h3⟩ := hs hn
    rw [fr.2.1 _ h1 h2 h2 h3]; exact hg
  · obtain ⟨h1, h2, h3⟩ := hs hn
    refine ⟨by have := fr.1; omega, h2, fun hx => ?_⟩
    rcases fr.2.2 hx with ⟨a, b⟩ | b
    · rw [b]; exact h3 a
    · omega
/-- the search for spreads -/
theorem r90_ok {v n0 c0 c1 c2 c3 : Nat} {lv : Sl} (hv : v ≤ 9) {l : List Tr} (hr : ∀ t ∈ l, inT v t) (hl : l.length ≤ 12) (ap : Apx n0 c0 c1 c2 c3 lv) : ∀ (f k : Nat) (q : List Int) (a b : Nat) (H : Hp) (w x : Sl) (vs : List Sl) (ls : List (List Int)), f ≤ 13 → f ≤ k → a ≤ l.length → l.length + 1 ≤ a + f → b < 512 → q.length ≤ a → n0 ≤ H.n → ls.length ≤ 100000 * (14 - f) →
    SL H w q → Sep2 c1 w x H → Spr v n0 c0 c1 c2 c3 lv l H x vs ls →
    Ok (r90 (app k) a b w c0 c1 c2 c3 H) fun _ H' => ∃ x' vs', Spr v n0 c0 c1 c2 c3 lv l H' x' vs' (ls ++ spF v l f q a b) ∧ Fr c1 c1 x x' H H' := by
  intro f
  induction f with
  | zero => intro k q a b H w x vs ls _ h1 h2; omega
  | succ f ihf =>
    intro k q a b H w x vs ls h13 hk ha hf hb hq hn0 hls hw hs S
    obtain ⟨k, rfl⟩ : ∃ j, k = j + 1 := ⟨k - 1, by omega⟩
    obtain ⟨l0, l1, l2, l3⟩ := ap.lt
    obtain ⟨n0', n1, n2⟩ := ap.ne
    unfold r90
    refine Ok.ld (ldI_get S.v rfl) (Ok.ck (by omega) ?_)
    rw [full hv]
    by_cases hfull : b = 2 ^ v - 1
    · refine Ok.pos (by rw [hfull]) ?_
      rw [spF, if_pos hfull]
      refine Ok.ld (ldSl_get S.o rfl) ?_
      show Ok ((cloneR 1 w H).bind _) _
      refine Ok.bind (clone_ok hw (by omega) rfl) fun w2 H2 ⟨g2, hw2, hn2, ho2⟩ => ?_
      have S2 := S.gr g2
      have hx2 : x.nil = false → x.b < H.n := fun e => S.b.acc.lt e
      have hpush : Ok (H2.apN 1 x [.sl w2] 1) fun x' H' => Out n0 H' x' (vs ++ [w2]) (ls ++ [q]) ∧ But x H2 H' ∧ (x'.nil = false → (x.nil = false ∧ x'.b = x.b) ∨ H2.n ≤ x'.b) := by
        refine S2.b.push (by have := g2.1; omega) hw2 (fun hn => ?_) (by omega)
        rw [hn2] at hn
        have := (ho2 hn).2
        exact ⟨by omega, fun hx => by have := hx2 hx; omega⟩
      refine Ok.bind hpush fun x' H3 ⟨ho, hbt, hx'⟩ => ?_
      have hc1 : ∀ hn : x.nil = false, c1 ≠ x.b := fun hn => by have := S.b.low hn; omega
      have e3 : ∀ c, c < n0 → H3.get c = H2.get c := fun c hc => hbt.2 c (by have := g2.1; omega) fun hn => by have := S.b.low hn; omega
      have o3 : H3.get c1 = some (.cells [.sl x] false) := by rw [e3 _ l1]; exact S2.o
      refine Ok.st o3 (by simp) fun H4 e4 h4 => ?_
      have e4' : ∀ c, c ≠ c1 → H4.get c = H3.get c := fun c hc => by rw [e4, Hp.get_set_other _ _ hc]
      have n4 : H4.n = H3.n := by rw [e4]; simp
      have q2 := g2.1
      have q3 := hbt.1
      have old : ∀ c, c < n0 → c ≠ c1 → H4.get c = H2.get c := fun c hc hne => by rw [e4' c hne, e3 c hc]
      refine Ok.ck (ldSl_get S2.o rfl) (Ok.ck (ldSl_get (by rw [Hp.get_push_old _ _ (Hp.get_lt S2.o)]; exact S2.o) rfl) (Ok.ret ⟨x', vs ++ [w2], ⟨?_, h4, ?_, ?_, ?_, ?_⟩, ?_⟩))
      · rw [old _ l0 n0']; exact S2.v
      · rw [old _ l2 n1]; exact S2.t
      · rw [old _ l3 n2]; exact S2.f
      · refine S2.l.frame fun hn cs ro hg => ?_
        obtain ⟨a1, a2⟩ := ap.lv hn
        rw [old _ a1 a2]; exact hg
      · exact ho.keep fun c hc _ => e4' c (by omega)
      · refine ⟨by omega, fun c hc h1 _ h3 => ?_, fun hn => ?_⟩
        · rw [e4' c h1, hbt.2 c (by omega) h3, g2.2 c hc]
        · rcases hx' hn with h | h
          · exact .inl h
          · exact .inr (by omega)
    · refine Ok.neg (by omega) ?_
      rw [spF_spG hfull]
      refine Ok.loop (L := fun K (s : Int) H' => r90_l0 (app (k + 1)) K b w c2 c3 s H') (fun m s H' => ∃ i : Nat, s = i ∧ a ≤ i ∧ i + m = l.length ∧ ∃ x' vs', Spr v n0 c0 c1 c2 c3 lv l H' x' vs' (ls ++ spG v l f q a b i) ∧ Fr c1 c1 x x' H H') ?_ FUEL (l.length - a) a H (by unfold FUEL; omega)
        ⟨a, rfl, Nat.le_refl _, by omega, x, vs, by rw [spG_none, List.append_nil]; exact S, .gr (.refl _)⟩
      rintro K m s H1 ⟨i, rfl, hai, hm, x1, vs1, S1, fr1⟩ ih
      try dsimp only at *
      rw [r90_l0]
      obtain ⟨hw1, hs1⟩ := hw.fr hs fr1
      have hlen := S1.l.len
      have q1 := fr1.1
      refine Ok.ld (ldSl_get S1.t rfl) ?_
      by_cases h : i < l.length
      · have hg := S1.l
        have hin := hr _ (List.getElem_mem h)
        have hin' := hin
        unfold inT at hin'
        have hsu := spG_succ (v := v) (f := f) (q := q) (b := b) hai h
        have hmk := msk_lt hv hin
        refine Ok.pos (by omega) (Ok.ld (ldSl_get S1.t rfl) (Ok.ck (by omega) (Ok.ld (hg.ldI (i := i) (j := 0) h rfl) (Ok.ck (by omega) (Ok.ld (ldSl_get S1.t rfl) (Ok.ck (by omega) (Ok.ld (hg.ldI (i := i) (j := 1) h rfl) (Ok.ck (by omega) (Ok.ld (ldSl_get S1.t rfl) (Ok.ck (by omega) (Ok.ld (hg.ldI (i := i) (j := 2) h rfl) (Ok.ck (by omega) ?_))))))))))))
        rw [mask hv hin, bits_and_nat (by omega) (by omega)]
        by_cases hc : msk l[i] &&& b = 0
        · rw [if_pos hc] at hsu
          have hcap := hw1.cap
          have hwl := hw1.len
          refine Ok.pos (by rw [hc]; rfl) (Ok.ld (ldV_get S1.f rfl rfl) (Ok.ck (by omega) ?_))
          rw [Int.toNat_natCast]
          refine Ok.bind (grow_sl hw1 (i : Int) rfl rfl (by omega)) fun w2 H2 ⟨g2, hw2, hn2, hb2⟩ => ?_
          have hbm : b ||| msk l[i] < 512 := Nat.or_lt_two_pow (n := 9) (by omega) (by omega)
          have S2 := S1.gr g2
          have q2 := g2.1
          have hx1 : x1.nil = false → x1.b < H1.n := fun e => S1.b.acc.lt e
          have hs2 : Sep2 c1 w2 x1 H2 := fun _ => ⟨hw2.blk (by simp), by omega, fun hx => by have := hx1 hx; omega⟩
          rw [bits_or_nat (by omega) (by omega), w64_succ (by omega)]
          have hcall : Ok (callv (app (k + 1)) (.fn 90 [] [.ptr c0 0, .ptr c1 0, .ptr c2 0, .ptr c3 0]) [.int .i64 ((i + 1 : Nat) : Int), .int .i64 ((b ||| msk l[i] : Nat) : Int), .sl w2] H2) fun r H' => ∃ x' vs', Spr v n0 c0 c1 c2 c3 lv l H' x' vs' (ls ++ spG v l f q a b i ++ spF v l f (q ++ [(i : Int)]) (i + 1) (b ||| msk l[i])) ∧ Fr c1 c1 x1 x' H2 H' := by
            show Ok ((r90 (app k) _ _ w2 c0 c1 c2 c3 H2).map fun p => (AV.tup [], p.2)) _
            obtain ⟨_, H', e, hx⟩ := ihf k (q ++ [(i : Int)]) (i + 1) (b ||| msk l[i]) H2 w2 x1 vs1 _ (by omega) (by omega) (by omega) (by omega) hbm (by simp; omega) (by omega) (by
              have := spG_len (v := v) (f := f) (q := q) (b := b) hai (Nat.le_of_lt h) hl
              rw [List.length_append]; omega) hw2 hs2 S2
            rw [e]
            exact Ok.ret hx
          refine Ok.bind hcall fun r H3 ⟨x3, vs3, S3, fr3⟩ => ?_
          have isv : ∀ A : Hp, A.get c3 = some (.cells [.fn 90 [] [.ptr c0 0, .ptr c1 0, .ptr c2 0, .ptr c3 0]] false) → A.isV c3 0 (.fn 90 [] [.ptr c0 0, .ptr c1 0, .ptr c2 0, .ptr c3 0]) = true := fun A hA => by
            unfold Hp.isV
            rw [ld_of_get hA]
            simp [AV.eqb, AV.eqbs]
          refine Ok.ck (isv _ (by rw [Hp.get_push_old _ _ (Hp.get_lt S1.f)]; exact S1.f)) (Ok.ck (isv _ S2.f) ?_)
          rw [List.append_assoc, ← hsu] at S3
          have fr2 : Fr c1 c1 x1 x1 H1 H2 := .gr g2
          exact ih (m - 1) _ H3 (by omega) ⟨i + 1, rfl, by omega, by omega, x3, vs3, S3, fr1.trans (fr2.trans fr3)⟩
        · rw [if_neg hc, List.append_nil] at hsu
          refine Ok.neg (by omega) ?_
          rw [w64_succ (by omega)]
          exact ih (m - 1) _ H1 (by omega) ⟨i + 1, rfl, by omega, by omega, x1, vs1, by rw [hsu]; exact S1, fr1⟩
      · have : i = l.length := by omega
        subst this
        exact Ok.neg (by omega) (Ok.ret ⟨x1, vs1, S1, fr1⟩)
end Go.Lt.P8
