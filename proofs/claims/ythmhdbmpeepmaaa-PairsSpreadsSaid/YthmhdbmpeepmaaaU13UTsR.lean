/- PLAIN LAWS OF WHAT IS COMPUTED, for the statement 'PairsSpreads'. Nothing is asked of the input. -/
import Derived.Test.YthmhdbmpeepmaaaU13UTsB
import Derived.Test.YthmhdbmpeepmaaaLB
import Derived.Test.YthmhdbmpeepmaaaG13A
set_option linter.unusedVariables false
set_option linter.unusedSimpArgs false
namespace Go.Lt.P8
open Go Go.Lt Go.Proofs
/-- spreads of the reference -/
theorem r93_ok {v : Nat} (hv : v ≤ 9) {l : List Tr} (hr : ∀ t ∈ l, inT v t) (hl : l.length ≤ 12) : ∀ (f k : Nat) (q : List Int) (a b : Nat) (H : Hp) (w lv : Sl), f ≤ k → a ≤ l.length → l.length + 1 ≤ a + f → b < 512 → q.length ≤ a → SL H lv l → SL H w q →
    Ok (r93 (app k) v lv w a b H) fun r H' => Gr H H' ∧ ∃ vs, SLL H' r vs (spF v l f q a b) ∧ ∀ u ∈ vs, u = w ∨ (u.nil = false → H.n ≤ u.b) := by
  intro f
  induction f with
  | zero => intro k q a b H w lv _ h1 h2; omega
  | succ f ihf =>
    intro k q a b H w lv hk ha hf hb hq hlv hw
    obtain ⟨k, rfl⟩ : ∃ j, k = j + 1 := ⟨k - 1, by omega⟩
    have hlen := hlv.len
    unfold r93
    refine Ok.ck (by omega) ?_
    rw [full hv]
    by_cases hfull : b = 2 ^ v - 1
    · refine Ok.pos (by rw [hfull]) (Ok.lt (Ok.ret ⟨.push _ _, [w], ?_, fun u hu => .inl (by simpa using hu)⟩))
      rw [spF, if_pos hfull]
      exact ⟨.of_get (ro := false) (by simp) rfl rfl, Nat.le_refl _, .inl rfl, fun e => (by cases e), .one (hw.gr (.push _ _))⟩
    · refine Ok.neg (by omega) ?_
      refine Ok.mono (P := fun r H' => Gr H H' ∧ ∃ vs, AccS H.n H' r vs (spF v l (f + 1) q a b) ∧ ∀ u ∈ vs, u.nil = false → H.n ≤ u.b) ?_ fun r H' ⟨g, vs, h1, h2⟩ => ⟨g, vs, h1.sll, fun u hu => .inr (h2 u hu)⟩
      rw [spF_spG hfull]
      refine Ok.loop (L := fun K (s : Sl × Int) H' => r93_l0 (app (k + 1)) K v lv w b s.1 s.2 H') (fun m s H' => ∃ i : Nat, s.2 = i ∧ a ≤ i ∧ i + m = l.length ∧ Gr H H' ∧ ∃ vs, AccS H.n H' s.1 vs (spG v l f q a b i) ∧ ∀ u ∈ vs, u.nil = false → H.n ≤ u.b) ?_ FUEL (l.length - a) (⟨true, 0, 0, 0, 0, 0⟩, (a : Int)) H (by unfold FUEL; omega)
        ⟨a, rfl, Nat.le_refl _, by omega, .refl _, [], by rw [spG_none]; exact .nilS, by simp⟩
      rintro K m ⟨v5, s⟩ H1 ⟨i, rfl, hai, hm, g1, vs, h2, h3⟩ ih
      try dsimp only at *
      rw [r93_l0]
      by_cases h : i < l.length
      · have hg := hlv.gr g1
        have hin := hr _ (List.getElem_mem h)
        have hin' := hin
        unfold inT at hin'
        have hsu := spG_succ (v := v) (f := f) (q := q) (b := b) hai h
        have hmk := msk_lt hv hin
        refine Ok.pos (by omega) (Ok.ck (by omega) (Ok.ld (hg.ldI (i := i) (j := 0) h rfl) (Ok.ck (by omega) (Ok.ck (by omega) (Ok.ld (hg.ldI (i := i) (j := 1) h rfl) (Ok.ck (by omega) (Ok.ck (by omega) (Ok.ld (hg.ldI (i := i) (j := 2) h rfl) (Ok.ck (by omega) ?_)))))))))
        rw [mask hv hin, bits_and_nat (by omega) (by omega)]
        by_cases hc : msk l[i] &&& b = 0
        · rw [if_pos hc] at hsu
          have hwg := hw.gr g1
          have hcap := hwg.cap
          have hwl := hwg.len
          refine Ok.pos (by rw [hc]; rfl) (Ok.ck (by omega) ?_)
          rw [Int.toNat_natCast]
          refine Ok.bind (grow_sl hwg (i : Int) rfl rfl (by omega)) fun w2 H2 ⟨g2, hw2, hn2, hb2⟩ => ?_
          have g12 := g1.trans g2
          have hbm : b ||| msk l[i] < 512 := Nat.or_lt_two_pow (n := 9) (by omega) (by omega)
          rw [bits_or_nat (by omega) (by omega), w64_succ (by omega)]
          have hcall : Ok (app (k + 1) 93 [.int .i64 v, .sl lv, .sl w2, .int .i64 ((i + 1 : Nat) : Int), .int .i64 ((b ||| msk l[i] : Nat) : Int)] H2) fun r H' => ∃ x, r = .sl x ∧ Gr H2 H' ∧ ∃ us, SLL H' x us (spF v l f (q ++ [(i : Int)]) (i + 1) (b ||| msk l[i])) ∧ ∀ u ∈ us, u = w2 ∨ (u.nil = false → H2.n ≤ u.b) := by
            show Ok ((r93 (app k) v lv w2 _ _ H2).map fun p => (AV.sl p.1, p.2)) _
            obtain ⟨x, H', e, hx⟩ := ihf k (q ++ [(i : Int)]) (i + 1) (b ||| msk l[i]) H2 w2 lv (by omega) (by omega) (by omega) hbm (by simp; omega) (hlv.gr g12) hw2
            rw [e]
            exact ⟨_, _, rfl, x, rfl, hx⟩
          refine Ok.bind hcall fun r H3 ⟨x, hr3, g3, us, hx, hus⟩ => ?_
          subst hr3
          refine Ok.ld rfl (Ok.ld hx.lds (Ok.ck (by simp [AV.one]) ?_))
          have hxl := hx.len
          have hvl := hx.vlen
          have g23 := g2.trans g3
          have hv5 : v5.nil = false → v5.b < H1.n := fun e => h2.1.lt e
          have q2 := g2.1
          have hal : All (H3.hide v5) us (spF v l f (q ++ [(i : Int)]) (i + 1) (b ||| msk l[i])) := ⟨hx.all.1, fun k k1 k2 => (hx.all.2 k k1 k2).hide fun e1 e2 => by
            have hb := hv5 e1
            rcases hus _ (List.getElem_mem k1) with e | e
            · rw [e]; omega
            · have := e e2; omega⟩
          have hb1 := spG_len (v := v) (f := f) (q := q) (b := b) hai (Nat.le_of_lt h) hl
          have hb2' := spF_len12 (v := v) (f := f) (q := q ++ [(i : Int)]) (a := i + 1) (b := b ||| msk l[i]) (by omega) hl
          refine Ok.bind ((h2.gr g23).app (g1.trans g23) hal rfl (by omega) (by omega)) fun v6 H4 ⟨a4, g4, _, _⟩ => ?_
          refine ih (m - 1) (v6, _) H4 (by omega) ⟨i + 1, rfl, by omega, by omega, g4, vs ++ us, by rw [hsu]; exact a4, fun u hu hn => ?_⟩
          have q1 := g1.1
          rcases List.mem_append.1 hu with hu | hu
          · exact h3 u hu hn
          · rcases hus u hu with e | e
            · rw [e]; omega
            · have := e hn; omega
        · rw [if_neg hc, List.append_nil] at hsu
          refine Ok.neg (by omega) ?_
          rw [w64_succ (by omega)]
          exact ih (m - 1) (v5, _) H1 (by omega) ⟨i + 1, rfl, by omega, by omega, g1, vs, by rw [hsu]; exact h2, h3⟩
      · have : i = l.length := by omega
        subst this
        exact Ok.neg (by omega) (Ok.ret ⟨g1, vs, h2, h3⟩)
theorem r55_ok {v k : Nat} (hv : v ≤ 9) {l : List Tr} (hr : ∀ t ∈ l, inT v t) (hl : l.length ≤ 12) (hk : 13 ≤ k) {H : Hp} {lv : Sl} (hlv : SL H lv l) : Ok (r55 (app k) v lv H) fun r H' => Gr H H' ∧ ∃ vs, SLL H' r vs (spF v l 13 [] 0 0) := by
  unfold r55
  refine Ok.bind (r93_ok hv hr hl 13 k [] 0 0 H _ lv hk (by omega) (by omega) (by omega) (by simp) hlv SL.nilS) fun r H1 ⟨g, vs, h, _⟩ => Ok.ret ⟨g, vs, h⟩
end Go.Lt.P8
