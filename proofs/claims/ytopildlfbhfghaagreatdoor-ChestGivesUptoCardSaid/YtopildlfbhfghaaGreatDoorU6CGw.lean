/- PLAIN LAWS OF WHAT IS COMPUTED, for the statement 'ChestGives'. Nothing is asked of the input. -/
import Derived.Test.YtopildlfbhfghaaGreatDoorU6CIx
set_option linter.unusedVariables false
set_option linter.unusedSimpArgs false
namespace Go.Lt.P10
open Go Go.Lt Go.Proofs
theorem r165_ok {H : Hp} {w : ByteArray} (hs : w.size ≤ 4194304) : Ok (r165 w H) fun r H' => Gr H H' ∧ r = isNameS w := by
 unfold r165
 refine Ok.lt ?_
 refine Ok.loop (L := fun K (_ : Unit) A => r165_l0 K w H.n A) (fun m _ A => ∃ p f : Nat, A.get H.n = some (.iter w p) ∧ w.size ≤ p + m ∧ m < f ∧ isNameS w = nameF w f p ∧ Gr H A) ?_ FUEL w.size () _ (by unfold FUEL; omega) ⟨0, w.size + 1, Hp.get_push_new _ _, by omega, by omega, rfl, Gr.push _ _⟩
 rintro K m _ A ⟨p, f, hg, hm, hf, hw, g⟩ ih
 rw [r165_l0]
 obtain ⟨f, rfl⟩ : ∃ f', f = f' + 1 := ⟨f - 1, by omega⟩
 rw [nameF] at hw
 by_cases hp : p < w.size
 ·rw [if_pos hp] at hw
  have hn : A.nxt H.n = some (some ((p : Int), ((Utf8.decode w p).1 : Int)), A.set H.n (.iter w (p + (Utf8.decode w p).2))) := by
   unfold Hp.nxt; rw [hg]; simp [hp]
  rw [hn]
  have g' : Gr H (A.set H.n (.iter w (p + (Utf8.decode w p).2))) := g.set (Nat.le_refl _)
  simp only [Option.bind_some, Option.isSome_some, if_true]
  refine Ok.ite (fun h => ?_) fun h => ?_
  ·rw [if_pos h] at hw
   exact Ok.ret ⟨g', hw.symm⟩
  ·rw [if_neg h] at hw
   unfold r165_j1
   refine Ok.ite (fun h2 => ?_) fun h2 => ?_
   ·rw [if_pos (by simpa using h2)] at hw
    exact Ok.ret ⟨g', hw.symm⟩
   ·rw [if_neg (by simpa using h2)] at hw
    have h1 := width_pos w p hp
    exact ih (m - (Utf8.decode w p).2) () _ (by omega) ⟨p + (Utf8.decode w p).2, f, Hp.get_set_same _ _ (Hp.get_lt hg), by omega, by omega, hw, g'⟩
 ·rw [if_neg hp] at hw
  have hn : A.nxt H.n = some (none, A) := by
   unfold Hp.nxt; rw [hg]; simp [hp]
  rw [hn]
  simp only [Option.bind_some, Option.isSome_none, Bool.false_eq_true, if_false]
  refine Ok.ite (fun h => ?_) fun h => ?_
  ·rw [if_pos h] at hw; exact Ok.ret ⟨g, hw.symm⟩
  ·rw [if_neg h] at hw; exact Ok.ret ⟨g, hw.symm⟩
theorem r166_ok {k : Nat} {H : Hp} {s : ByteArray} (hs : s.size ≤ 4194304) : ∃ n b, r166 (appA (k + 1)) s H = some ((n, b), H) ∧ (b = true → numS s = some n) ∧ (b = false → numS s = none) := by
 unfold r166
 rw [app53]
 unfold atoiP
 rw [if_pos (by omega)]
 unfold atoiV numS
 cases ha : Lib.atoiAll s.data.toList with
 | «syntax» =>
  refine ⟨0, false, ?_, by simp, by simp⟩
  rfl
 | range =>
  refine ⟨Lib.atoiSat s.data.toList, false, ?_, by simp, by simp⟩
  rfl
 | ok v =>
  obtain ⟨hb0, hb1⟩ := Lib.atoiAll_bounds ha
  simp only [Option.bind_some, AV.asT, Go.Lt.ck, List.length_cons, List.length_nil, if_true, List.getElem?_cons_zero, List.getElem?_cons_succ, AV.asI, AV.ifc, Bool.false_eq_true, if_false, app33, itoaP]
  by_cases h0 : 0 ≤ v
  ·rw [if_pos h0]
   by_cases h3 : (s.size : Int) ≤ 3
   ·rw [if_pos h3, if_pos (by omega)]
    refine ⟨v, strEq (itoaA v) s, rfl, fun h => by rw [if_pos ⟨h0, by omega, h⟩], fun h => by rw [if_neg (fun q => by rw [q.2.2] at h; cases h)]⟩
   ·rw [if_neg h3]
    exact ⟨v, false, rfl, by simp, fun _ => by rw [if_neg (fun q => h3 (by omega))]⟩
  ·rw [if_neg h0]
   exact ⟨v, false, rfl, by simp, fun _ => by rw [if_neg (fun q => h0 q.1)]⟩
theorem slcg {T : Type} [El T] {H H' : Hp} {v : Sl} {l : List T} (h : SL H v l) (e : H'.get v.b = H.get v.b) : SL H' v l := ⟨h.cs.congr e, h.cap, h.opn, h.nil⟩
theorem AccL.push0 {T : Type} [El T] {n0 : Nat} {H : Hp} {v : Sl} {l : List T} (h : AccL n0 H v l) (hn : n0 ≤ H.n) (x : T) {es : Nat} {cs : List AV} (hes : es = El.sz T) (hcs : cs = El.enc x) (hb : l.length < 4294967296) :
  Ok (H.apN es v cs 1) fun v' H' => AccL n0 H' v' (l ++ [x]) ∧ But v H H' ∧ (v' = v ∨ H.n ≤ v'.b) ∧ v'.nil = false := by
 subst hes; subst hcs
 have hl := h.len
 obtain ⟨v', H', h1, h2, h3, h4, h5, h6, h7⟩ := Acc.apN (k := 1) (xs := El.enc x) h (El.pos (T := T)) (by rw [El.len, Nat.one_mul]) (by rw [hl]; omega) hn
 refine ⟨v', H', h1, ?_, h3, h4, h6 (by omega)⟩
 unfold AccL
 rw [encs_append, encs_one]
 exact h2
theorem Acc.ge {n0 es : Nat} {H : Hp} {v : Sl} {cs : List AV} (h : Acc n0 es H v cs) (hn : v.nil = false) : n0 ≤ v.b := by
 rcases h with ⟨rfl, _⟩ | ⟨_, _, _, _, h, _⟩
 ·simp [Lt.nilS] at hn
 ·exact h
structure Rd1 (H0 A : Hp) (b0 : Nat) (w : Sl) (ws : List ByteArray) (n1 : Nat) (a n : Sl) (na : List ByteArray) (nu : List Int) : Prop where
 g : Gr H0 A
 h0 : H0.n ≤ b0
 h1 : b0 < n1
 h2 : n1 ≤ A.n
 get : A.get b0 = some (.cells [.sl a, .sl n] false)
 sw : SL A w ws
 wb : w.b ≠ b0
 w1 : w.b < n1
 aa : AccL n1 A a na
 an : AccL n1 A n nu
 ne : a.nil = false → n.nil = false → a.b ≠ n.b
theorem Rd1.gr {H0 A A' : Hp} {b0 : Nat} {w : Sl} {ws : List ByteArray} {n1 : Nat} {a n : Sl} {na : List ByteArray} {nu : List Int} (r : Rd1 H0 A b0 w ws n1 a n na nu) (g : Gr A A') : Rd1 H0 A' b0 w ws n1 a n na nu :=
 ⟨r.g.trans g, r.h0, r.h1, Nat.le_trans r.h2 g.1, by rw [g.2 _ (Hp.get_lt r.get)]; exact r.get, r.sw.gr g, r.wb, r.w1, r.aa.gr g, r.an.gr g, r.ne⟩
theorem Rd1.name {H0 A : Hp} {b0 : Nat} {w : Sl} {ws : List ByteArray} {n1 : Nat} {a n : Sl} {na : List ByteArray} {nu : List Int} (r : Rd1 H0 A b0 w ws n1 a n na nu) (x : ByteArray) (hb : na.length < 4294967296) {α : Type} {Q : α → Hp → Prop} {f : Hp → Option (α × Hp)}
  (k : ∀ A' a', Rd1 H0 A' b0 w ws n1 a' n (na ++ [x]) nu → Ok (f A') Q) : Ok ((A.apN 1 a [.str x] 1).bind fun x7 => (x7.2.st b0 (0 + 0) (.sl x7.1)).bind f) Q := by
 refine Ok.bind (AccL.push0 r.aa r.h2 x rfl rfl hb) fun a' A1 ⟨h1, h2, h3, h4⟩ => ?_
 have ab : a.nil = false → n1 ≤ a.b := fun h => Acc.ge r.aa h
 have old : ∀ b, b < n1 → A1.get b = A.get b := fun b hb => h2.2 b (by have := r.h2; omega) fun h => by have := ab h; omega
 have hg : A1.get b0 = some (.cells [.sl a, .sl n] false) := by rw [old _ r.h1]; exact r.get
 have a'b : n1 ≤ a'.b := Acc.ge h1 h4
 have r1 := r.h1; have r2 := r.h2; have r3 := r.w1; have h21 := h2.1
 refine Ok.st hg (by simp) fun A' e hg' => ?_
 subst e
 have oth : ∀ b, b ≠ b0 → (A1.set b0 (.cells ([AV.sl a, AV.sl n].set (0 + 0) (.sl a')) false)).get b = A1.get b := fun b hb => Hp.get_set_other _ _ hb
 refine k _ a' ⟨⟨by simp; have := r.g.1; omega, fun b hb => by rw [oth b (by have := r.h0; omega), old b (by have := r.h0; omega), r.g.2 b hb]⟩, r.h0, r.h1, by simp; omega, hg', ?_, r.wb, r.w1, ?_, ?_, ?_⟩
 ·exact slcg r.sw (by rw [oth _ r.wb, old _ r.w1])
 ·exact h1.keep fun h => oth _ (by omega)
 ·refine Acc.keep r.an fun h => ?_
  have h5 := Acc.ge r.an h
  have h6 := Acc.lt r.an h
  rw [oth _ (by omega), h2.2 _ h6 fun h7 => (r.ne h7 h).symm]
 ·intro _ h
  have h6 := Acc.lt r.an h
  rcases h3 with rfl | h3
  ·exact r.ne h4 h
  ·omega
theorem Rd1.num {H0 A : Hp} {b0 : Nat} {w : Sl} {ws : List ByteArray} {n1 : Nat} {a n : Sl} {na : List ByteArray} {nu : List Int} (r : Rd1 H0 A b0 w ws n1 a n na nu) (x : Int) (hb : nu.length < 4294967296) {α : Type} {Q : α → Hp → Prop} {f : Hp → Option (α × Hp)}
  (k : ∀ A' n', Rd1 H0 A' b0 w ws n1 a n' na (nu ++ [x]) → Ok (f A') Q) : Ok ((A.apN 1 n [.int .i64 x] 1).bind fun x7 => (x7.2.st b0 (0 + 1) (.sl x7.1)).bind f) Q := by
 refine Ok.bind (AccL.push0 r.an r.h2 x rfl rfl hb) fun n' A1 ⟨h1, h2, h3, h4⟩ => ?_
 have ab : n.nil = false → n1 ≤ n.b := fun h => Acc.ge r.an h
 have old : ∀ b, b < n1 → A1.get b = A.get b := fun b hb => h2.2 b (by have := r.h2; omega) fun h => by have := ab h; omega
 have hg : A1.get b0 = some (.cells [.sl a, .sl n] false) := by rw [old _ r.h1]; exact r.get
 have n'b : n1 ≤ n'.b := Acc.ge h1 h4
 have r1 := r.h1; have r2 := r.h2; have r3 := r.w1; have h21 := h2.1
 refine Ok.st hg (by simp) fun A' e hg' => ?_
 subst e
 have oth : ∀ b, b ≠ b0 → (A1.set b0 (.cells ([AV.sl a, AV.sl n].set (0 + 1) (.sl n')) false)).get b = A1.get b := fun b hb => Hp.get_set_other _ _ hb
 refine k _ n' ⟨⟨by simp; have := r.g.1; omega, fun b hb => by rw [oth b (by have := r.h0; omega), old b (by have := r.h0; omega), r.g.2 b hb]⟩, r.h0, r.h1, by simp; omega, hg', ?_, r.wb, r.w1, ?_, ?_, ?_⟩
 ·exact slcg r.sw (by rw [oth _ r.wb, old _ r.w1])
 ·refine Acc.keep r.aa fun h => ?_
  have h5 := Acc.ge r.aa h
  have h6 := Acc.lt r.aa h
  rw [oth _ (by omega), h2.2 _ h6 fun h7 => (r.ne h h7)]
 ·exact h1.keep fun h => oth _ (by omega)
 ·intro h _
  have h6 := Acc.lt r.aa h
  rcases h3 with rfl | h3
  ·exact r.ne h h4
  ·omega
def RdQ (H : Hp) (form text : ByteArray) (r : Sl × Sl × Bool) (H' : Hp) : Prop :=
 Gr H H' ∧ match readS form text with
  | none => r.2.2 = false
  | some p => r.2.2 = true ∧ SL H' r.1 p.1 ∧ SL H' r.2.1 p.2
theorem bt_get {s : ByteArray} {i : Nat} (h : i < s.size) : bt s (i : Int) = (s.data.toList[i]'(by rw [Array.length_toList]; exact h)).toNat := by
 unfold bt
 simp only [Int.toNat_natCast]
 congr 2
 have : s.get! i = s.data[i]! := rfl
 rw [this, getElem!_pos s.data i h]
 simp
theorem r108_j2_t {k : Nat} {kt : ByteArray → Nat → Sl → Int → Int → Hp → Option ((Sl × Sl × Bool) × Hp)} {v1 : ByteArray} {v2 : Nat} {v4 : Sl} {v5 v6 : Int} {H : Hp} : r108_j2 (appA k) kt v1 v2 true v4 v5 v6 H = kt v1 v2 v4 v5 (w64 (v6 + 1)) H := rfl
theorem rd_no {H0 A : Hp} {b0 : Nat} {cs : List AV} (g : Gr H0 A) (h0 : H0.n ≤ b0) (hg : A.get b0 = some (.cells cs false)) (hl : cs.length = 2) {form text : ByteArray} (hr : readS form text = none) :
  Ok ((A.sts b0 0 [.sl ⟨true, 0, 0, 0, 0, 0⟩, .sl ⟨true, 0, 0, 0, 0, 0⟩]).bind fun H2 => (H2.ldSl b0 0).bind fun x3 => (H2.ldSl b0 (0 + 1)).bind fun x4 => some ((x3, x4, false), H2)) (RdQ H0 form text) := by
 obtain ⟨A2, h1, h2, h3, h4⟩ := sts_blk [.sl ⟨true, 0, 0, 0, 0, 0⟩, .sl ⟨true, 0, 0, 0, 0, 0⟩] 0 A cs hg (by simp [hl])
 have h2' : A2.get b0 = some (.cells [.sl ⟨true, 0, 0, 0, 0, 0⟩, .sl ⟨true, 0, 0, 0, 0, 0⟩] false) := by rw [h2]; simp [hl]
 refine Ok.ld h1 (Ok.ld (ldSl_get h2' rfl) (Ok.ld (ldSl_get h2' rfl) (Ok.ret ⟨⟨by rw [h3]; exact g.1, fun b hb => by rw [h4 b (by omega), g.2 b hb]⟩, ?_⟩)))
 rw [hr]
theorem r108_l1_ok {k : Nat} {H0 H1 : Hp} {form text : ByteArray} {b0 : Nat} {w : Sl} {ws : List ByteArray} {n1 : Nat} (hlen : ws.length = form.size) (hf : form.size ≤ 8) (hws : ∀ x ∈ ws, x.size ≤ 4194304)
  (hread : readS form text = parseS form.data.toList ws) (r : Rd1 H0 H1 b0 w ws n1 ⟨true, 0, 0, 0, 0, 0⟩ ⟨true, 0, 0, 0, 0, 0⟩ [] []) :
  Ok (r108_l1 (appA (k + 1)) FUEL form b0 w (w.len : Int) 0 H1) (RdQ H0 form text) := by
 have hfl : form.data.toList.length = form.size := by rw [Array.length_toList]; rfl
 have hwl := r.sw.len
 refine Ok.loop (L := fun K (i : Int) A => r108_l1 (appA (k + 1)) K form b0 w (w.len : Int) i A) (fun m s A => ∃ (i : Nat) (a n : Sl) (na : List ByteArray) (nu : List Int), s = (i : Int) ∧ i + m = ws.length ∧ Rd1 H0 A b0 w ws n1 a n na nu ∧ na.length ≤ i ∧ nu.length ≤ i ∧
  parseS form.data.toList ws = (parseS (form.data.toList.drop i) (ws.drop i)).map fun p => (na ++ p.1, nu ++ p.2)) ?_ FUEL ws.length 0 H1 (by unfold FUEL; omega) ⟨0, _, _, [], [], rfl, by omega, r, by simp, by simp, ?_⟩
 ·rintro K m s A ⟨i, a, n, na, nu, rfl, him, r, hna, hnu, hp⟩ ih
  rw [r108_l1]
  by_cases hi : i < ws.length
  ·have hi2 : i < form.data.toList.length := by omega
   refine Ok.pos (by omega) (Ok.ck (by omega) (Ok.ld (SL.ldStr r.sw (i := i) (j := 0) hi rfl) (Ok.ck (by omega) ?_)))
   rw [bt_get (by omega)]
   rw [List.drop_eq_getElem_cons hi2, List.drop_eq_getElem_cons hi, parseS] at hp
   refine Ok.ite (fun hc => ?_) fun hc => ?_
   ·have hc' : form.data.toList[i] = 110 := by
     apply UInt8.toNat_inj.1
     have : (110 : UInt8).toNat = 110 := rfl
     omega
    rw [if_pos hc'] at hp
    refine Ok.ld (ldSl_get r.get rfl) (Rd1.name r ws[i] (by omega) fun A1 a1 r1 => ?_)
    refine Ok.bind (r165_ok (hws _ (List.getElem_mem hi))) fun b A2 ⟨g2, hb⟩ => ?_
    have r2 := r1.gr g2
    dsimp only
    cases b with
    | false =>
     rw [if_neg (by rw [← hb]; simp)] at hp
     exact rd_no r2.g r.h0 r2.get rfl (by rw [hread, hp]; rfl)
    | true =>
     rw [r108_j2_t, w64_succ (by omega)]
     rw [if_pos hb.symm] at hp
     refine ih (m - 1) _ _ (by omega) ⟨i + 1, _, _, _, _, rfl, by omega, r2, by simp; omega, by omega, ?_⟩
     rw [hp, Option.map_map]
     congr 1
     funext p
     simp
   ·have hc' : ¬ form.data.toList[i] = 110 := by
     intro e; apply hc; rw [e]; rfl
    rw [if_neg hc'] at hp
    obtain ⟨n1', b, hn, ht, hff⟩ := r166_ok (k := k) (H := A) (hws _ (List.getElem_mem hi))
    refine is hn ?_
    dsimp only
    refine Ok.ld (ldSl_get r.get rfl) (Rd1.num r n1' (by omega) fun A1 a1 r1 => ?_)
    cases b with
    | false =>
     rw [hff rfl] at hp
     exact rd_no r1.g r.h0 r1.get rfl (by rw [hread, hp]; rfl)
    | true =>
     rw [r108_j2_t, w64_succ (by omega)]
     rw [ht rfl] at hp
     refine ih (m - 1) _ _ (by omega) ⟨i + 1, _, _, _, _, rfl, by omega, r1, by omega, by simp; omega, ?_⟩
     rw [hp, Option.bind_some, Option.map_map]
     congr 1
     funext p
     simp
  ·have hie : i = ws.length := by omega
   refine Ok.neg (by omega) ?_
   rw [List.drop_of_length_le (by omega), List.drop_of_length_le (by omega), show parseS [] [] = some ([], []) from rfl] at hp
   obtain ⟨A2, h1, h2, h3, h4⟩ := sts_blk [.sl a, .sl n] 0 A [.sl a, .sl n] r.get (by simp)
   have h2' : A2.get b0 = some (.cells [.sl a, .sl n] false) := by rw [h2]; simp
   refine Ok.ld (ldSl_get r.get rfl) (Ok.ld (ldSl_get r.get rfl) (Ok.ld h1 (Ok.ld (ldSl_get h2' rfl) (Ok.ld (ldSl_get h2' rfl) (Ok.ret ⟨⟨by rw [h3]; exact r.g.1, fun b hb => by rw [h4 b (by have := r.h0; omega), r.g.2 b hb]⟩, ?_⟩)))))
   rw [hread, hp]
   simp only [Option.map_some, List.append_nil]
   have same : ∀ b, A2.get b = A.get b := fun b => by
    by_cases e : b = b0
    ·subst e; rw [h2', r.get]
    ·exact h4 b e
   exact ⟨trivial, slcg r.aa.sl (same _), slcg r.an.sl (same _)⟩
 ·simp only [List.drop_zero, List.nil_append]
  cases parseS form.data.toList ws <;> rfl
theorem extract_size_le {s : ByteArray} {a b : Nat} : (s.extract a b).size ≤ s.size := by rw [ByteArray.size_extract]; omega
theorem wordsN_size : ∀ k s, ∀ x ∈ wordsN k s, x.size ≤ s.size
 | 0, s, x, h => by simp [wordsN] at h; subst h; exact Nat.le_refl _
 | k + 1, s, x, h => by
  unfold wordsN at h
  split at h
  ·simp at h; subst h; exact Nat.le_refl _
  ·rcases List.mem_cons.1 h with rfl | h
   ·exact extract_size_le
   ·exact Nat.le_trans (wordsN_size k _ x h) extract_size_le
theorem r108_ok {k : Nat} {H : Hp} {form text : ByteArray} (hf : form.size ≤ 8) (hs : text.size ≤ 4194304) : Ok (r108 (appA (k + 1)) form text H) (RdQ H form text) := by
 unfold r108
 refine Ok.lt (Ok.bind (r52_ok (s := text) hs) fun v A ⟨hv, hn, hvb, g⟩ => ?_)
 dsimp only
 have hl := hv.len
 have hwl := words_len text
 have g0 : Gr H A := (Gr.push _ _).trans g
 have hb0 : A.get H.n = some (.cells [.sl ⟨true, 0, 0, 0, 0, 0⟩, .sl ⟨true, 0, 0, 0, 0, 0⟩] false) := by rw [g.2 _ (by simp)]; exact Hp.get_push_new _ _
 have hvb' : v.b = H.n + 1 := by rw [hvb]; simp
 have hcap := hv.cap
 have hopn : v.opn = 0 ∨ v.opn = 1 := hv.opn
 refine Ok.ck (by refine ⟨?_, hopn⟩; omega) ?_
 have e1 : v.cut 1 (1 : Int).toNat ((v.len : Int) : Int).toNat = v.cut 1 1 v.len := rfl
 rw [e1]
 have hcut : SL A (v.cut 1 1 v.len) (words text).tail := by
  have := hv.cut (lo := 1) (hi := v.len) (by omega) (by omega)
  rw [List.take_of_length_le (by rw [List.length_drop]; omega), List.drop_one] at this
  exact this
 have hcl := hcut.len
 refine Ok.ite (fun hne => ?_) fun hne => ?_
 ·unfold r108_j0
  rw [if_pos rfl]
  refine rd_no g0 (Nat.le_refl _) hb0 rfl ?_
  unfold readS
  rw [if_neg]
  rintro ⟨h1, _⟩
  exact hne (by rw [hcl, h1])
 ·refine Ok.bind (r164_ok hs) fun b A2 ⟨g2, hb⟩ => ?_
  dsimp only
  have hb02 : A2.get H.n = some (.cells [.sl ⟨true, 0, 0, 0, 0, 0⟩, .sl ⟨true, 0, 0, 0, 0, 0⟩] false) := by rw [g2.2 _ (Hp.get_lt hb0)]; exact hb0
  have hlen : (words text).tail.length = form.size := by omega
  unfold r108_j0
  cases b with
  | false =>
   rw [if_pos (by rfl)]
   refine rd_no (g0.trans g2) (Nat.le_refl _) hb02 rfl ?_
   unfold readS
   rw [if_neg]
   rintro ⟨_, h1⟩
   rw [← hb] at h1; cases h1
  | true =>
   rw [if_neg (by simp)]
   have hvlt : v.b < A.n := by
    have h0 : 0 < (words text).length := hwl.1
    have := hv.ld (i := 0) (j := 0) (x := .str (words text)[0]) h0 rfl
    exact ld_lt this
   refine r108_l1_ok (n1 := A2.n) hlen hf (fun x hx => Nat.le_trans (wordsN_size _ _ x (List.mem_of_mem_tail hx)) hs) ?_ ⟨g0.trans g2, Nat.le_refl _, by have := g0.trans g2; have := Hp.get_lt hb02; omega, Nat.le_refl _, hb02, hcut.gr g2, ?_, ?_, AccL.nilS, AccL.nilS, fun h => by cases h⟩
   ·unfold readS
    rw [if_pos ⟨hlen, hb.symm⟩]
   ·simp [Sl.cut, hn, hvb']
   ·have := g2.1
    simp [Sl.cut, hn]; omega
structure LAt {T : Type} [El T] (H : Hp) (P : Nat → Prop) (v : Sl) (l : List T) : Prop where
 sl : SL H v l
 nil : l = [] → v = nilS
 p : v.nil = false → P v.b
 o : v.o = 0
theorem LAt.mono {T : Type} [El T] {H H' : Hp} {P P' : Nat → Prop} {v : Sl} {l : List T} (h : LAt H P v l) (e : ∀ b, P b → b < H.n → H'.get b = H.get b) (hp : ∀ b, b < H.n → P b → P' b) : LAt H' P' v l := by
 by_cases hl : l = []
 ·have := h.nil hl
  subst this; subst hl
  exact ⟨SL.nilS, fun _ => rfl, (fun h => by cases h), rfl⟩
 ·have hn := h.sl.nonnil hl
  have hlt : v.b < H.n := by
   obtain ⟨x, r, rfl⟩ := List.exists_cons_of_ne_nil hl
   have h0 : 0 < (El.enc x).length := by rw [El.len]; exact El.pos
   have := h.sl.ld (i := 0) (j := 0) (x := (El.enc x)[0]) (by simp) (by simp)
   exact ld_lt this
  exact ⟨slcg h.sl (e _ (h.p hn) hlt), h.nil, fun _ => hp _ hlt (h.p hn), h.o⟩
def stCells (v1 v2 v3 : Sl) (s : St) : List AV := [.sl v1, .sl v2, .int .i64 s.t0, .int .i64 s.t1, .int .i64 s.t2, .int .i64 s.t3, .sl v3]
def StAt (H : Hp) (P : Nat → Prop) (b : Nat) (s : St) : Prop := P b ∧ ∃ v1 v2 v3, H.get b = some (.cells (stCells v1 v2 v3 s) false) ∧ LAt H P v1 s.leaves ∧ LAt H P v2 s.orders ∧ LAt H P v3 s.offers
theorem StAt.mono {H H' : Hp} {P P' : Nat → Prop} {b : Nat} {s : St} (h : StAt H P b s) (e : ∀ b, P b → b < H.n → H'.get b = H.get b) (hp : ∀ b, b < H.n → P b → P' b) : StAt H' P' b s := by
 obtain ⟨hb, v1, v2, v3, hg, h1, h2, h3⟩ := h
 have hlt := Hp.get_lt hg
 exact ⟨hp _ hlt hb, v1, v2, v3, by rw [e _ hb hlt]; exact hg, h1.mono e hp, h2.mono e hp, h3.mono e hp⟩
theorem StAt.gr {H H' : Hp} {P : Nat → Prop} {b : Nat} {s : St} (h : StAt H P b s) (g : Gr H H') : StAt H' P b s := h.mono (fun b _ hb => g.2 b hb) fun _ _ h => h
def AccN {T : Type} [El T] (n0 : Nat) (H : Hp) (v : Sl) (l : List T) : Prop := AccL n0 H v l ∧ (l = [] → v = nilS)
theorem AccN.lat {T : Type} [El T] {n0 : Nat} {H : Hp} {v : Sl} {l : List T} (h : AccN n0 H v l) : LAt H (n0 ≤ ·) v l := ⟨h.1.sl, h.2, fun hn => Acc.ge h.1 hn, by rcases h.1 with ⟨e, _⟩ | ⟨_, h2, _⟩; rw [e]; rfl; exact h2⟩
theorem AccN.keep {T : Type} [El T] {n0 : Nat} {H H' : Hp} {v : Sl} {l : List T} (h : AccN n0 H v l) (e : v.nil = false → H'.get v.b = H.get v.b) : AccN n0 H' v l := ⟨Acc.keep h.1 e, h.2⟩
theorem AccN.gr {T : Type} [El T] {n0 : Nat} {H H' : Hp} {v : Sl} {l : List T} (h : AccN n0 H v l) (g : Gr H H') : AccN n0 H' v l := ⟨AccL.gr h.1 g, h.2⟩
structure StO (H : Hp) (n0 b : Nat) (s : St) (v1 v2 v3 : Sl) : Prop where
 get : H.get b = some (.cells (stCells v1 v2 v3 s) false)
 lo : n0 ≤ b
 a1 : AccN n0 H v1 s.leaves
 a2 : AccN n0 H v2 s.orders
 a3 : AccN n0 H v3 s.offers
 b1 : v1.nil = false → v1.b ≠ b
 b2 : v2.nil = false → v2.b ≠ b
 b3 : v3.nil = false → v3.b ≠ b
 d12 : v1.nil = false → v2.nil = false → v1.b ≠ v2.b
 d13 : v1.nil = false → v3.nil = false → v1.b ≠ v3.b
 d23 : v2.nil = false → v3.nil = false → v2.b ≠ v3.b
theorem StO.at {H : Hp} {n0 b : Nat} {s : St} {v1 v2 v3 : Sl} (h : StO H n0 b s v1 v2 v3) : StAt H (n0 ≤ ·) b s := ⟨h.lo, v1, v2, v3, h.get, h.a1.lat, h.a2.lat, h.a3.lat⟩
theorem StO.gr {H H' : Hp} {n0 b : Nat} {s : St} {v1 v2 v3 : Sl} (h : StO H n0 b s v1 v2 v3) (g : Gr H H') : StO H' n0 b s v1 v2 v3 :=
 ⟨by rw [g.2 _ (Hp.get_lt h.get)]; exact h.get, h.lo, h.a1.gr g, h.a2.gr g, h.a3.gr g, h.b1, h.b2, h.b3, h.d12, h.d13, h.d23⟩
theorem clone_n {T : Type} [El T] {H : Hp} {v : Sl} {l : List T} (h : SL H v l) (h0 : l = [] → v = nilS) (hb : l.length ≤ 4294967296) {es n0 : Nat} (hes : es = El.sz T) (hn0 : n0 ≤ H.n) :
  Ok (cloneR es v H) fun w H' => Gr H H' ∧ AccN n0 H' w l ∧ (w.nil = false → H.n ≤ w.b) := by
 subst hes
 unfold cloneR
 have hlen := h.len
 by_cases hl : l = []
 ·have := h0 hl
  subst this; subst hl
  exact Ok.pos rfl (Ok.ret ⟨.refl _, ⟨AccL.nilS, fun _ => rfl⟩, fun h => by cases h⟩)
 ·have hn := h.nonnil hl
  refine Ok.neg (by rw [hn]; simp) (Ok.ld (h.gr (Gr.push H (.cells [] false))).lds (Ok.ck (encs_all l) ?_))
  have hpos : 0 < l.length := List.length_pos_iff.2 hl
  unfold Hp.app
  simp only [Nat.zero_add]
  rw [if_pos (by omega), if_neg (by omega)]
  simp only [Nat.zero_mul, Hp.lds, Option.bind_some, if_true, List.nil_append]
  refine Ok.ret ⟨(Gr.push _ _).trans (.push _ _), ⟨.inr ⟨rfl, rfl, rfl, rfl, ?_, Hp.get_push_new _ _, by rw [encs_len, hlen]⟩, fun e => absurd e hl⟩, fun _ => by simp⟩
  simp; omega
theorem r168_eq (v : Sl) (H : Hp) : r168 v H = cloneR 2 v H := rfl
theorem r18_eq (v : Sl) (H : Hp) : r18 v H = cloneR 1 v H := rfl
theorem r169_eq (v : Sl) (H : Hp) : r169 v H = cloneR 2 v H := rfl
theorem nameF_size {w : ByteArray} : ∀ k p, nameF w k p = true → w.size ≤ 8
 | 0, p, h => by cases h
 | k + 1, p, h => by
  unfold nameF at h
  split at h
  ·split at h
   ·cases h
   ·split at h
    ·cases h
    ·exact nameF_size k _ h
  ·split at h
   ·cases h
   ·have := of_decide_eq_true h; omega
theorem isNameS_size {w : ByteArray} (h : isNameS w = true) : w.size ≤ 8 := nameF_size _ _ h
structure St.Ok (s : St) : Prop where
 l6 : s.leaves.length ≤ 6
 st : ∀ x ∈ s.leaves, 0 ≤ x.2 ∧ x.2 ≤ 20
 na : ∀ x ∈ s.leaves, isNameS x.1 = true
 un : (s.leaves.map (·.1)).Nodup
 o40 : s.orders.length ≤ 40
 ol : ∀ i ∈ s.orders, 0 ≤ i ∧ i < s.leaves.length
 ts : 0 ≤ s.t0 ∧ 0 ≤ s.t1 ∧ 0 ≤ s.t2 ∧ 0 ≤ s.t3 ∧ s.t0 + s.t1 + s.t2 + s.t3 ≤ 16
 f8 : s.offers.length ≤ 8
 fl : ∀ x ∈ s.offers, 0 ≤ x.1 ∧ x.1 ≤ 30 ∧ 0 ≤ x.2 ∧ x.2 ≤ 30
theorem St.Ok.nm {s : St} (h : s.Ok) : ∀ x ∈ s.leaves, x.1.size ≤ 8 := fun x hx => isNameS_size (h.na x hx)
theorem clone_state {H : Hp} {P : Nat → Prop} {b : Nat} {s : St} (h : StAt H P b s) (hs : s.Ok) : Lt.Ok (r111 b 0 H) fun r H' => Gr H H' ∧ r.2 = 0 ∧ ∃ v1 v2 v3, StO H' H.n r.1 s v1 v2 v3 := by
 obtain ⟨_, v1, v2, v3, hg, h1, h2, h3⟩ := h
 unfold r111
 have l6 := hs.l6; have o40 := hs.o40; have f8 := hs.f8
 refine Lt.Ok.ld (ldSl_get hg rfl) ?_
 rw [r168_eq]
 refine Lt.Ok.bind (clone_n (n0 := H.n) h1.sl h1.nil (by omega) rfl (Nat.le_refl _)) fun w1 A1 ⟨g1, a1, c1⟩ => ?_
 have hg1 : A1.get b = _ := (g1.2 _ (Hp.get_lt hg)).trans hg
 refine Lt.Ok.ld (ldSl_get hg1 rfl) ?_
 rw [r18_eq]
 refine Lt.Ok.bind (clone_n (n0 := H.n) (h2.sl.gr g1) h2.nil (by omega) rfl g1.1) fun w2 A2 ⟨g2, a2, c2⟩ => ?_
 have hg2 : A2.get b = _ := (g2.2 _ (Hp.get_lt hg1)).trans hg1
 refine Lt.Ok.ld (ldI_get hg2 rfl) (Lt.Ok.ld (ldI_get hg2 rfl) (Lt.Ok.ld (ldI_get hg2 rfl) (Lt.Ok.ld (ldI_get hg2 rfl) (Lt.Ok.ld (ldSl_get hg2 rfl) ?_))))
 rw [r169_eq]
 refine Lt.Ok.bind (clone_n (n0 := H.n) ((h3.sl.gr g1).gr g2) h3.nil (by omega) rfl (by have := g1.1; have := g2.1; omega)) fun w3 A3 ⟨g3, a3, c3⟩ => ?_
 have hg3 : A3.get b = _ := (g3.2 _ (Hp.get_lt hg2)).trans hg2
 refine Lt.Ok.ck (ldSl_get hg rfl) (Lt.Ok.ck (ldI_get hg rfl) (Lt.Ok.ck (ldI_get hg rfl) (Lt.Ok.ck (ldI_get hg rfl) (Lt.Ok.ck (ldI_get hg rfl) (Lt.Ok.ck (ldSl_get hg rfl) ?_)))))
 refine Lt.Ok.ck (ldI_get hg1 rfl) (Lt.Ok.ck (ldI_get hg1 rfl) (Lt.Ok.ck (ldI_get hg1 rfl) (Lt.Ok.ck (ldI_get hg1 rfl) (Lt.Ok.ck (ldSl_get hg1 rfl) ?_))))
 refine Lt.Ok.ck (ldSl_get hg2 rfl) ?_
 refine Lt.Ok.ck (ldSl_get hg3 rfl) (Lt.Ok.ck (ldI_get hg3 rfl) (Lt.Ok.ck (ldI_get hg3 rfl) (Lt.Ok.ck (ldI_get hg3 rfl) (Lt.Ok.ck (ldI_get hg3 rfl) (Lt.Ok.ck (ldSl_get hg3 rfl) ?_)))))
 have gp := Gr.push A3 (.cells [.sl w1, .sl w2, .int .i64 s.t0, .int .i64 s.t1, .int .i64 s.t2, .int .i64 s.t3, .sl w3] false)
 have n1 := g1.1; have n2 := g2.1; have n3 := g3.1
 have m1 : w1.nil = false → w1.b < A1.n := fun h => Acc.lt a1.1 h
 have m2 : w2.nil = false → w2.b < A2.n := fun h => Acc.lt a2.1 h
 have m3 : w3.nil = false → w3.b < A3.n := fun h => Acc.lt a3.1 h
 refine Lt.Ok.ret ⟨((g1.trans g2).trans g3).trans gp, rfl, w1, w2, w3, Hp.get_push_new _ _, by show H.n ≤ A3.n; omega, ((a1.gr g2).gr g3).gr gp, (a2.gr g3).gr gp, a3.gr gp, ?_, ?_, ?_, ?_, ?_, ?_⟩
 ·intro h; have := m1 h; show w1.b ≠ A3.n; omega
 ·intro h; have := m2 h; show w2.b ≠ A3.n; omega
 ·intro h; have := m3 h; show w3.b ≠ A3.n; omega
 ·intro h h'; have := m1 h; have := c2 h'; omega
 ·intro h h'; have := m1 h; have := c3 h'; omega
 ·intro h h'; have := m2 h; have := c3 h'; omega
theorem r198_ok {H : Hp} {name : ByteArray} {b : Nat} (hg : H.get b = some (.cells [.str name] false)) (x : ByteArray) (n : Int) : ∃ H', r198 x n b H = some (strEq x name, H') ∧ Gr H H' := by
 refine ⟨H.push (.cells [.str x, .int .i64 n] false), ?_, Gr.push _ _⟩
 unfold r198 Go.Lt.lt
 have h1 : (H.push (.cells [.str x, .int .i64 n] false)).ldStr H.n (0 + 0) = some x := by
  simp [Hp.ldStr, Hp.ld, AV.asStr]
 have h2 : (H.push (.cells [.str x, .int .i64 n] false)).ldStr b 0 = some name := by
  have : (H.push (.cells [.str x, .int .i64 n] false)).get b = some (.cells [.str name] false) := by rw [Hp.get_push_old _ _ (Hp.get_lt hg)]; exact hg
  simp [Hp.ldStr, ld_of_get this, AV.asStr]
 dsimp only
 rw [h1, Option.bind_some, h2]
 rfl
theorem r197_ok {k : Nat} {H : Hp} {name : ByteArray} {b : Nat} (hg : H.get b = some (.cells [.str name] false)) {v : Sl} {l : List (ByteArray × Int)} (h : SL H v l) (hb : l.length ≤ 4194305) :
  Lt.Ok (r197 (appA (k + 1)) v (.fn 198 [] [.ptr b 0]) H) fun r H' => Gr H H' ∧ r = idxI (l.findIdx? fun x => strEq x.1 name) := by
 unfold r197
 have hl := h.len
 refine idx_ok (L := fun K i A => r197_l0 (appA (k + 1)) K v (.fn 198 [] [.ptr b 0]) (v.len : Int) i A) (l := l) (fun x => strEq x.1 name) (by omega) (fun K i A Q hi g k1 k2 => ?_) fun K A Q g k => ?_
 ·rw [r197_l0]
  refine Lt.Ok.pos (by omega) (Lt.Ok.ck (by omega) ?_)
  have hld : A.ldStr v.b (v.o + ((i : Int)).toNat * 2) = some l[i].1 := by
   have := SL.ldStr (h.gr g) (i := i) (j := 0) (n := l[i].1) hi rfl
   exact this
  have hld2 : A.ldI .i64 v.b ((v.o + ((i : Int)).toNat * 2) + 1) = some l[i].2 := by
   have := (h.gr g).ldI (i := i) (j := 1) (n := l[i].2) hi rfl
   exact this
  refine Lt.Ok.ld hld (Lt.Ok.ld hld2 ?_)
  rw [app198]
  obtain ⟨A', hr, g'⟩ := r198_ok ((g.2 _ (Hp.get_lt hg)).trans hg) l[i].1 l[i].2
  rw [hr]
  simp only [Option.map_some, Option.bind_some, AV.asB]
  rw [w64_succ (by omega)]
  exact Lt.Ok.ite (fun h => Lt.Ok.ret (k1 A' g' h)) fun h => k2 A' g' (by simpa using h)
 ·rw [r197_l0]
  exact Lt.Ok.neg (by omega) (Lt.Ok.ret k)
theorem r154_ok {k : Nat} {H : Hp} {b : Nat} {v1 v2 v3 : Sl} {s s' : St} (hg : H.get b = some (.cells (stCells v1 v2 v3 s') false)) (h : SL H v1 s.leaves) (hb : s.leaves.length ≤ 4194305) (name : ByteArray) :
  Lt.Ok (r154 (appA (k + 1)) b 0 name H) fun r H' => Gr H H' ∧ r = idxI (s.find name) := by
 unfold r154
 refine Lt.Ok.lt ?_
 have gp := Gr.push H (.cells [.str name] false)
 have hg1 := (gp.2 _ (Hp.get_lt hg)).trans hg
 refine Lt.Ok.ld (ldSl_get hg1 rfl) (Lt.Ok.bind (r197_ok (k := k) (Hp.get_push_new _ _) (h.gr gp) hb) fun r A ⟨g, e⟩ => Lt.Ok.ret ⟨gp.trans g, e⟩)
def Old (n0 : Nat) (A B : Hp) : Prop := A.n ≤ B.n ∧ ∀ c, c < n0 → B.get c = A.get c
theorem Old.refl (n0 : Nat) (A : Hp) : Old n0 A A := ⟨Nat.le_refl _, fun _ _ => rfl⟩
theorem Old.trans {n0 : Nat} {A B C : Hp} (h : Old n0 A B) (k : Old n0 B C) : Old n0 A C := ⟨Nat.le_trans h.1 k.1, fun c hc => (k.2 c hc).trans (h.2 c hc)⟩
theorem Old.of_gr {n0 : Nat} {A B : Hp} (g : Gr A B) (h : n0 ≤ A.n) : Old n0 A B := ⟨g.1, fun c hc => g.2 c (by omega)⟩
theorem AccN.push {T : Type} [El T] {n0 : Nat} {H : Hp} {v : Sl} {l : List T} (h : AccN n0 H v l) (hn : n0 ≤ H.n) (x : T) {es : Nat} {cs : List AV} (hes : es = El.sz T) (hcs : cs = El.enc x) (hb : l.length < 4294967296) :
  Lt.Ok (H.apN es v cs 1) fun v' H' => AccN n0 H' v' (l ++ [x]) ∧ But v H H' ∧ (v' = v ∨ H.n ≤ v'.b) ∧ v'.nil = false :=
 (AccL.push0 h.1 hn x hes hcs hb).mono fun v' H' ⟨a, b, c, d⟩ => ⟨⟨a, fun e => by simp at e⟩, b, c, d⟩
section
variable {α : Type} {Q : α → Hp → Prop} {A : Hp} {n0 b : Nat} {s : St} {v1 v2 v3 : Sl}
theorem StO.push1 (h : StO A n0 b s v1 v2 v3) (hn : n0 ≤ A.n) (x : ByteArray) (n : Int) (hb : s.leaves.length < 4294967296) {f : Hp → Option (α × Hp)}
  (k : ∀ A' v1', StO A' n0 b { s with leaves := s.leaves ++ [(x, n)] } v1' v2 v3 → Old n0 A A' → Lt.Ok (f A') Q) : Lt.Ok ((A.apN 2 v1 [.str x, .int .i64 n] 1).bind fun y => (y.2.st b (0 + 0) (.sl y.1)).bind f) Q := by
 refine Lt.Ok.bind (AccN.push h.a1 hn (x, n) rfl rfl hb) fun v1' A1 ⟨h1, h2, h3, h4⟩ => ?_
 have hlt := Hp.get_lt h.get
 have hg : A1.get b = _ := (h2.2 b hlt fun q => (h.b1 q).symm).trans h.get
 have hm := h2.1
 refine Lt.Ok.st hg (by simp [stCells]) fun A' e hg' => ?_
 subst e
 have oth : ∀ c, c ≠ b → (A1.set b (.cells ((stCells v1 v2 v3 s).set (0 + 0) (.sl v1')) false)).get c = A1.get c := fun c hc => Hp.get_set_other _ _ hc
 have v1b : v1'.b ≠ b := by
  rcases h3 with rfl | h3
  ·exact h.b1 h4
  ·omega
 have lo := h.lo
 refine k _ v1' ⟨hg', h.lo, h1.keep fun q => oth _ v1b, h.a2.keep fun q => ?_, h.a3.keep fun q => ?_, fun _ => v1b, h.b2, h.b3, fun q q2 => ?_, fun q q2 => ?_, h.d23⟩ ⟨by simp; omega, fun c hc => ?_⟩
 ·rw [oth _ (h.b2 q), h2.2 _ (Acc.lt h.a2.1 q) fun q1 => (h.d12 q1 q).symm]
 ·rw [oth _ (h.b3 q), h2.2 _ (Acc.lt h.a3.1 q) fun q1 => (h.d13 q1 q).symm]
 ·have := Acc.lt h.a2.1 q2
  rcases h3 with rfl | h3
  ·exact h.d12 h4 q2
  ·omega
 ·have := Acc.lt h.a3.1 q2
  rcases h3 with rfl | h3
  ·exact h.d13 h4 q2
  ·omega
 ·rw [oth _ (by omega), h2.2 c (by omega) fun q => by have := Acc.ge h.a1.1 q; omega]
theorem StO.push2 (h : StO A n0 b s v1 v2 v3) (hn : n0 ≤ A.n) (n : Int) (hb : s.orders.length < 4294967296) {f : Hp → Option (α × Hp)}
  (k : ∀ A' v2', StO A' n0 b { s with orders := s.orders ++ [n] } v1 v2' v3 → Old n0 A A' → Lt.Ok (f A') Q) : Lt.Ok ((A.apN 1 v2 [.int .i64 n] 1).bind fun y => (y.2.st b (0 + 1) (.sl y.1)).bind f) Q := by
 refine Lt.Ok.bind (AccN.push h.a2 hn n rfl rfl hb) fun v2' A1 ⟨h1, h2, h3, h4⟩ => ?_
 have hlt := Hp.get_lt h.get
 have hg : A1.get b = _ := (h2.2 b hlt fun q => (h.b2 q).symm).trans h.get
 have hm := h2.1
 refine Lt.Ok.st hg (by simp [stCells]) fun A' e hg' => ?_
 subst e
 have oth : ∀ c, c ≠ b → (A1.set b (.cells ((stCells v1 v2 v3 s).set (0 + 1) (.sl v2')) false)).get c = A1.get c := fun c hc => Hp.get_set_other _ _ hc
 have v2b : v2'.b ≠ b := by
  rcases h3 with rfl | h3
  ·exact h.b2 h4
  ·omega
 have lo := h.lo
 refine k _ v2' ⟨hg', h.lo, h.a1.keep fun q => ?_, h1.keep fun q => oth _ v2b, h.a3.keep fun q => ?_, h.b1, fun _ => v2b, h.b3, fun q q2 => ?_, h.d13, fun q q2 => ?_⟩ ⟨by simp; omega, fun c hc => ?_⟩
 ·rw [oth _ (h.b1 q), h2.2 _ (Acc.lt h.a1.1 q) fun q1 => (h.d12 q q1)]
 ·rw [oth _ (h.b3 q), h2.2 _ (Acc.lt h.a3.1 q) fun q1 => (h.d23 q1 q).symm]
 ·have := Acc.lt h.a1.1 q
  rcases h3 with rfl | h3
  ·exact h.d12 q h4
  ·omega
 ·have := Acc.lt h.a3.1 q2
  rcases h3 with rfl | h3
  ·exact h.d23 h4 q2
  ·omega
 ·rw [oth _ (by omega), h2.2 c (by omega) fun q => by have := Acc.ge h.a2.1 q; omega]
theorem StO.push3 (h : StO A n0 b s v1 v2 v3) (hn : n0 ≤ A.n) (x y : Int) (hb : s.offers.length < 4294967296) {f : Hp → Option (α × Hp)}
  (k : ∀ A' v3', StO A' n0 b { s with offers := s.offers ++ [(x, y)] } v1 v2 v3' → Old n0 A A' → Lt.Ok (f A') Q) : Lt.Ok ((A.apN 2 v3 [.int .i64 x, .int .i64 y] 1).bind fun y => (y.2.st b (0 + 6) (.sl y.1)).bind f) Q := by
 refine Lt.Ok.bind (AccN.push h.a3 hn (x, y) rfl rfl hb) fun v3' A1 ⟨h1, h2, h3, h4⟩ => ?_
 have hlt := Hp.get_lt h.get
 have hg : A1.get b = _ := (h2.2 b hlt fun q => (h.b3 q).symm).trans h.get
 have hm := h2.1
 refine Lt.Ok.st hg (by simp [stCells]) fun A' e hg' => ?_
 subst e
 have oth : ∀ c, c ≠ b → (A1.set b (.cells ((stCells v1 v2 v3 s).set (0 + 6) (.sl v3')) false)).get c = A1.get c := fun c hc => Hp.get_set_other _ _ hc
 have v3b : v3'.b ≠ b := by
  rcases h3 with rfl | h3
  ·exact h.b3 h4
  ·omega
 have lo := h.lo
 refine k _ v3' ⟨hg', h.lo, h.a1.keep fun q => ?_, h.a2.keep fun q => ?_, h1.keep fun q => oth _ v3b, h.b1, h.b2, fun _ => v3b, h.d12, fun q q2 => ?_, fun q q2 => ?_⟩ ⟨by simp; omega, fun c hc => ?_⟩
 ·rw [oth _ (h.b1 q), h2.2 _ (Acc.lt h.a1.1 q) fun q1 => (h.d13 q q1)]
 ·rw [oth _ (h.b2 q), h2.2 _ (Acc.lt h.a2.1 q) fun q1 => (h.d23 q q1)]
 ·have := Acc.lt h.a1.1 q
  rcases h3 with rfl | h3
  ·exact h.d13 q h4
  ·omega
 ·have := Acc.lt h.a2.1 q
  rcases h3 with rfl | h3
  ·exact h.d23 q h4
  ·omega
 ·rw [oth _ (by omega), h2.2 c (by omega) fun q => by have := Acc.ge h.a3.1 q; omega]
theorem StO.putT (h : StO A n0 b s v1 v2 v3) {o : Nat} {n : Int} {s' : St} (e : (stCells v1 v2 v3 s).set o (.int .i64 n) = stCells v1 v2 v3 s') (e1 : s'.leaves = s.leaves) (e2 : s'.orders = s.orders) (e3 : s'.offers = s.offers) (ho : o < 7) {f : Hp → Option (α × Hp)}
  (k : ∀ A', StO A' n0 b s' v1 v2 v3 → Old n0 A A' → Lt.Ok (f A') Q) : Lt.Ok ((A.st b o (.int .i64 n)).bind f) Q := by
 refine Lt.Ok.st h.get (by simp [stCells]; omega) fun A' e' hg' => ?_
 subst e'
 have oth : ∀ c, c ≠ b → (A.set b (.cells ((stCells v1 v2 v3 s).set o (.int .i64 n)) false)).get c = A.get c := fun c hc => Hp.get_set_other _ _ hc
 have lo := h.lo
 refine k _ ⟨by rw [hg', e], h.lo, ?_, ?_, ?_, h.b1, h.b2, h.b3, h.d12, h.d13, h.d23⟩ ⟨by simp, fun c hc => oth _ (by omega)⟩
 ·rw [e1]; exact h.a1.keep fun q => oth _ (h.b1 q)
 ·rw [e2]; exact h.a2.keep fun q => oth _ (h.b2 q)
 ·rw [e3]; exact h.a3.keep fun q => oth _ (h.b3 q)
theorem encs_leaf : ∀ (l : List (ByteArray × Int)) (i : Nat) (n : Int), i < l.length → (encs l).set (i * 2 + 1) (.int .i64 n) = encs (l.modify i fun x => (x.1, n))
 | [], i, n, h => by simp at h
 | (x, m) :: l, 0, n, h => rfl
 | (x, m) :: l, i + 1, n, h => by
  rw [encs_cons, show (El.enc (x, m) : List AV) = [.str x, .int .i64 m] from rfl, List.modify_succ_cons, encs_cons, show (El.enc (x, m) : List AV) = [.str x, .int .i64 m] from rfl, ← encs_leaf l i n (by simpa using h)]
  rw [show (i + 1) * 2 + 1 = (i * 2 + 1) + 2 by omega]
  rfl
theorem StO.putS (h : StO A n0 b s v1 v2 v3) {i : Nat} (n : Int) (hi : i < s.leaves.length) {f : Hp → Option (α × Hp)}
  (k : ∀ A', StO A' n0 b (setStock s i n) v1 v2 v3 → Old n0 A A' → Only v1.b A A' → Lt.Ok (f A') Q) : Lt.Ok ((A.st v1.b (v1.o + i * 2 + 1) (.int .i64 n)).bind f) Q := by
 have hnil : v1.nil = false := h.a1.1.sl.nonnil fun e => by rw [e] at hi; simp at hi
 obtain ⟨q1, q2, q3, q4, q5, q6, q7⟩ : v1.nil = false ∧ v1.o = 0 ∧ v1.opn = 2 ∧ v1.cap = v1.len ∧ n0 ≤ v1.b ∧ A.get v1.b = some (.cells (encs s.leaves) false) ∧ (encs s.leaves).length = v1.len * 2 := by
  rcases h.a1.1 with ⟨e, _⟩ | q
  ·rw [e] at hnil; cases hnil
  ·exact q
 have hl := h.a1.1.len
 rw [q2, Nat.zero_add]
 refine Lt.Ok.st q6 (by omega) fun A' e hg' => ?_
 subst e
 have hg2 : (A.set v1.b (.cells ((encs s.leaves).set (i * 2 + 1) (.int .i64 n)) false)).get v1.b = some (.cells (encs (setStock s i n).leaves) false) := by rw [hg', encs_leaf _ _ _ hi]; rfl
 have oth : ∀ c, c ≠ v1.b → (A.set v1.b (.cells ((encs s.leaves).set (i * 2 + 1) (.int .i64 n)) false)).get c = A.get c := fun c hc => Hp.get_set_other _ _ hc
 have hb1 := h.b1 hnil
 refine k _ ⟨by rw [oth _ hb1.symm]; exact h.get, h.lo, ⟨.inr ⟨q1, q2, q3, q4, q5, hg2, by rw [encs_len, hl]; simp [setStock]⟩, fun e => ?_⟩, h.a2.keep fun q => oth _ (h.d12 hnil q).symm, h.a3.keep fun q => oth _ (h.d13 hnil q).symm, h.b1, h.b2, h.b3, h.d12, h.d13, h.d23⟩ ⟨by simp, fun c hc => oth _ (by omega)⟩ ⟨by simp, fun c _ hc => oth _ hc⟩
 exfalso
 have e1 : ({ s with leaves := s.leaves.modify i fun l => (l.1, n) } : St).leaves = [] := e
 have : (s.leaves.modify i fun l => (l.1, n)).length = 0 := by rw [show (s.leaves.modify i fun l => (l.1, n)) = [] from e1]; rfl
 rw [List.length_modify] at this
 omega
end
def ActQ (n0 b : Nat) (H : Hp) (a : Act) (e : Int) (H' : Hp) : Prop :=
 Old n0 H H' ∧ match a with
  | .inl x => e = x ∧ x ≠ 0
  | .inr s' => e = 0 ∧ ∃ v1 v2 v3, StO H' n0 b s' v1 v2 v3
theorem fst_of_one {T : Type} [El T] {H : Hp} {w : Sl} {x : T} {l : List T} (h : SL H w (x :: l)) : (0 : Int) ≤ 0 ∧ 0 < (w.len : Int) := by
 have := h.len
 simp at this
 omega
theorem leaf_ok {k : Nat} {H : Hp} {n0 b : Nat} {s : St} {v1 v2 v3 wn wu : Sl} {a : ByteArray} {n : Int} (h : StO H n0 b s v1 v2 v3) (hs : s.Ok) (hn : n0 ≤ H.n) (hna : SL H wn [a]) (hnu : SL H wu [n]) :
  Lt.Ok (r112 (appA (k + 1)) b 0 wn wu H) (ActQ n0 b H (leafS s a n)) := by
 unfold r112
 refine Lt.Ok.lt ?_
 have g0 := Gr.push H (.cells [.sl wn, .sl wu] false)
 have hl0 := Hp.get_push_new H (.cells [.sl wn, .sl wu] false)
 have l6 := hs.l6
 refine Lt.Ok.ld (ldSl_get hl0 rfl) (Lt.Ok.ck (fst_of_one hna) (Lt.Ok.ld (SL.ldStr (hna.gr g0) (i := 0) (j := 0) (n := a) (by simp) rfl) ?_))
 refine Lt.Ok.bind (r154_ok (k := k) (h.gr g0).get (h.gr g0).a1.1.sl (by omega) a) fun r A ⟨g, e⟩ => ?_
 subst e
 have gA := g0.trans g
 have hA := h.gr gA
 have hlA := (g.2 _ (Hp.get_lt hl0)).trans hl0
 have old := Old.of_gr (n0 := n0) gA hn
 unfold leafS
 dsimp only
 refine Lt.Ok.ite (fun hc => Lt.Ok.ret ⟨old, ?_⟩) fun hc => ?_
 ·rw [if_pos (idxI_nonneg.1 hc)]; exact ⟨rfl, by decide⟩
 rw [if_neg fun q => hc (idxI_nonneg.2 q)]
 refine Lt.Ok.ld (ldSl_get hlA rfl) (Lt.Ok.ck (fst_of_one hnu) (Lt.Ok.ld ((hnu.gr gA).ldI (i := 0) (j := 0) (n := n) (by simp) rfl) ?_))
 refine Lt.Ok.ite (fun hc => Lt.Ok.ret ⟨old, ?_⟩) fun hc => ?_
 ·rw [if_pos hc]; exact ⟨rfl, by decide⟩
 rw [if_neg hc]
 have hlen := hA.a1.1.len
 refine Lt.Ok.ld (ldSl_get hA.get rfl) (Lt.Ok.ite (fun hc => Lt.Ok.ret ⟨old, ?_⟩) fun hc => ?_)
 ·rw [if_pos (by omega)]; exact ⟨rfl, by decide⟩
 rw [if_neg (by omega)]
 refine Lt.Ok.ld (ldSl_get hA.get rfl) (Lt.Ok.ld (ldSl_get hlA rfl) (Lt.Ok.ck (fst_of_one hna) (Lt.Ok.ld (SL.ldStr (hna.gr gA) (i := 0) (j := 0) (n := a) (by simp) rfl) (Lt.Ok.ld (ldSl_get hlA rfl) (Lt.Ok.ck (fst_of_one hnu) (Lt.Ok.ld ((hnu.gr gA).ldI (i := 0) (j := 0) (n := n) (by simp) rfl) ?_))))))
 have := gA.1
 exact hA.push1 (by omega) a n (by omega) fun A' v1' h' o' => Lt.Ok.ret ⟨old.trans o', rfl, _, _, _, h'⟩
theorem find_lt {s : St} {a : ByteArray} {i : Nat} (h : s.find a = some i) : i < s.leaves.length := (List.findIdx?_eq_some_iff_getElem.1 h).1
theorem stock_eq {s : St} {i : Nat} (h : i < s.leaves.length) : stock s i = s.leaves[i].2 := by
 unfold stock; rw [List.getD_eq_getElem?_getD, List.getElem?_eq_getElem h]; rfl
theorem stock_rng {s : St} (hs : s.Ok) {i : Nat} (h : i < s.leaves.length) : 0 ≤ stock s i ∧ stock s i ≤ 20 := by rw [stock_eq h]; exact hs.st _ (List.getElem_mem h)
theorem order_ok {k : Nat} {H : Hp} {n0 b : Nat} {s : St} {v1 v2 v3 wn wu : Sl} {a : ByteArray} (h : StO H n0 b s v1 v2 v3) (hs : s.Ok) (hn : n0 ≤ H.n) (hna : SL H wn [a]) :
  Lt.Ok (r114 (appA (k + 1)) b 0 wn wu H) (ActQ n0 b H (orderS s a)) := by
 unfold r114
 refine Lt.Ok.lt ?_
 have g0 := Gr.push H (.cells [.sl wn, .sl wu] false)
 have hl0 := Hp.get_push_new H (.cells [.sl wn, .sl wu] false)
 have l6 := hs.l6
 have o40 := hs.o40
 refine Lt.Ok.ld (ldSl_get hl0 rfl) (Lt.Ok.ck (fst_of_one hna) (Lt.Ok.ld (SL.ldStr (hna.gr g0) (i := 0) (j := 0) (n := a) (by simp) rfl) ?_))
 refine Lt.Ok.bind (r154_ok (k := k) (h.gr g0).get (h.gr g0).a1.1.sl (by omega) a) fun r A ⟨g, e⟩ => ?_
 subst e
 have gA := g0.trans g
 have hA := h.gr gA
 have old := Old.of_gr (n0 := n0) gA hn
 unfold orderS
 dsimp only
 cases hf : s.find a with
 | none => exact Lt.Ok.pos (by decide) (Lt.Ok.ret ⟨old, rfl, by decide⟩)
 | some i =>
  have hi := find_lt hf
  have hl1 := hA.a1.1.len
  have hl2 := hA.a2.1.len
  refine Lt.Ok.neg (by simp [idxI]) (Lt.Ok.ld (ldSl_get hA.get rfl) (Lt.Ok.ck (by simp only [idxI]; omega) ?_))
  have hst : A.ldI .i64 v1.b ((v1.o + (idxI (some i)).toNat * 2) + 1) = some (stock s i) := by
   rw [stock_eq hi]
   exact hA.a1.1.sl.ldI (i := i) (j := 1) hi rfl
  refine Lt.Ok.ld hst ?_
  dsimp only
  refine Lt.Ok.ite (fun hc => Lt.Ok.ret ⟨old, ?_⟩) fun hc => ?_
  ·rw [if_pos hc]; exact ⟨rfl, by decide⟩
  rw [if_neg hc]
  refine Lt.Ok.ld (ldSl_get hA.get rfl) (Lt.Ok.ite (fun hc => Lt.Ok.ret ⟨old, ?_⟩) fun hc => ?_)
  ·rw [if_pos (by omega)]; exact ⟨rfl, by decide⟩
  rw [if_neg (by omega)]
  have hr := stock_rng hs hi
  refine Lt.Ok.ld (ldSl_get hA.get rfl) (Lt.Ok.ck (by simp only [idxI]; omega) (Lt.Ok.ld hst (Lt.Ok.ck (by simp only [idxI]; omega) ?_)))
  rw [show w64 (stock s i - 1) = stock s i - 1 from w64_id (by omega) (by omega)]
  have := gA.1
  refine hA.putS (i := i) _ hi fun A1 h1 o1 _ => ?_
  refine Lt.Ok.ld (ldSl_get h1.get rfl) ?_
  have := o1.1
  exact h1.push2 (by omega) _ (by show s.orders.length < _; omega) fun A2 v2' h2 o2 => Lt.Ok.ret ⟨(old.trans o1).trans o2, rfl, _, _, _, h2⟩
theorem taste_ok {H : Hp} {n0 b : Nat} {s : St} {v1 v2 v3 wn wu : Sl} {i j : Int} (h : StO H n0 b s v1 v2 v3) (hs : s.Ok) (hn : n0 ≤ H.n) (hnu : SL H wu [i, j]) (hi : 0 ≤ i) (hj : 0 ≤ j) :
  Lt.Ok (r115 b 0 wn wu H) (ActQ n0 b H (tasteS s i j)) := by
 unfold r115
 refine Lt.Ok.lt ?_
 have g0 := Gr.push H (.cells [.sl wn, .sl wu] false)
 have hl0 := Hp.get_push_new H (.cells [.sl wn, .sl wu] false)
 have hB := h.gr g0
 have hlu := hnu.len
 simp only [List.length_cons, List.length_nil] at hlu
 refine Lt.Ok.ld (ldSl_get hl0 rfl) (Lt.Ok.ck (by omega) (Lt.Ok.ld ((hnu.gr g0).ldI (i := 0) (j := 0) (n := i) (by simp) rfl) ?_))
 refine Lt.Ok.ld (ldSl_get hl0 rfl) (Lt.Ok.ck (by omega) (Lt.Ok.ld ((hnu.gr g0).ldI (i := 1) (j := 0) (n := j) (by simp) rfl) ?_))
 refine Lt.Ok.ld (ldI_get hB.get rfl) (Lt.Ok.ld (ldI_get hB.get rfl) (Lt.Ok.ld (ldI_get hB.get rfl) (Lt.Ok.ld (ldI_get hB.get rfl) ?_)))
 obtain ⟨K, hK⟩ : ∃ K, FUEL = K + 3 := ⟨FUEL - 3, by unfold FUEL; omega⟩
 rw [hK]
 obtain ⟨t0, t1, t2, t3, ts⟩ := hs.ts
 have round : ∀ (K : Nat) (A : Hp) (sum : Int) (q : Nat) (x y : Int) (Q : Int → Hp → Prop), Gr H A → q < 2 → apart true 2 [.int .i64 s.t0, .int .i64 s.t1, .int .i64 s.t2, .int .i64 s.t3] (q * 2) = some (.agg [.int .i64 x, .int .i64 y]) →
   (∀ A', Gr H A' → Lt.Ok (r115_l0 K b 0 i j (w64 (sum + w64 (x + y))) s.t0 s.t1 s.t2 s.t3 ((q + 1 : Nat) : Int) A') Q) → Lt.Ok (r115_l0 (K + 1) b 0 i j sum s.t0 s.t1 s.t2 s.t3 (q : Int) A) Q := by
  intro K A sum q x y Q gA hq hap kk
  rw [r115_l0]
  refine Lt.Ok.pos (by omega) (Lt.Ok.ck (by omega) (Lt.Ok.ld hap (Lt.Ok.ld rfl (Lt.Ok.ck rfl (Lt.Ok.ld rfl (Lt.Ok.ld rfl (Lt.Ok.ld rfl (Lt.Ok.ld rfl ?_))))))))
  obtain ⟨A2, h1, h2, h3, h4⟩ := sts_blk [.int .i64 x, .int .i64 y] 0 (A.push (.cells [.int .i64 0, .int .i64 0] false)) _ (Hp.get_push_new _ _) (by simp)
  have h2' : A2.get A.n = some (.cells [.int .i64 x, .int .i64 y] false) := by rw [h2]; simp
  refine Lt.Ok.ld h1 (Lt.Ok.ld (ldI_get h2' rfl) (Lt.Ok.ld (ldI_get h2' rfl) ?_))
  rw [w64_succ (by omega)]
  exact kk A2 (gA.trans ⟨by rw [h3]; simp, fun c hc => by rw [h4 c (by omega), Hp.get_push_old _ _ hc]⟩)
 refine round _ _ 0 0 s.t0 s.t1 _ g0 (by omega) rfl fun A1 gA1 => ?_
 refine round _ _ _ 1 s.t2 s.t3 _ gA1 (by omega) rfl fun A2 gA2 => ?_
 have e1 : w64 (0 + w64 (s.t0 + s.t1)) = s.t0 + s.t1 := by rw [w64_id (n := s.t0 + s.t1) (by omega) (by omega), Int.zero_add, w64_id (by omega) (by omega)]
 have e2 : w64 (s.t0 + s.t1 + w64 (s.t2 + s.t3)) = s.t0 + s.t1 + (s.t2 + s.t3) := by rw [w64_id (n := s.t2 + s.t3) (by omega) (by omega), w64_id (by omega) (by omega)]
 rw [e1, e2, r115_l0]
 refine Lt.Ok.neg (by omega) ?_
 have hA := h.gr gA2
 have old := Old.of_gr (n0 := n0) gA2 hn
 unfold tasteS
 have fin : ¬ (1 < i ∨ 1 < j) → Lt.Ok (r115_j1 b 0 i j (s.t0 + s.t1 + (s.t2 + s.t3)) false A2) (ActQ n0 b H (if 1 < i ∨ 1 < j then .inl 2 else if s.t0 + s.t1 + (s.t2 + s.t3) = 16 then .inl 7
 else .inr (if i = 0 then if j = 0 then { s with t0 := s.t0 + 1 } else { s with t1 := s.t1 + 1 } else if j = 0 then { s with t2 := s.t2 + 1 } else { s with t3 := s.t3 + 1 }))) := by
  intro hno
  rw [if_neg hno]
  unfold r115_j1
  refine Lt.Ok.neg (by simp) (Lt.Ok.ite (fun hc => Lt.Ok.ret ⟨old, ?_⟩) fun hc => ?_)
  ·rw [if_pos hc]; exact ⟨rfl, by decide⟩
  rw [if_neg hc]
  have hi1 : i = 0 ∨ i = 1 := by omega
  have hj1 : j = 0 ∨ j = 1 := by omega
  rcases hi1 with rfl | rfl <;> rcases hj1 with rfl | rfl
  ·refine Lt.Ok.ck (by decide) (Lt.Ok.ck (by decide) (Lt.Ok.ld (ldI_get hA.get (n := s.t0) rfl) (Lt.Ok.ck (by decide) (Lt.Ok.ck (by decide) ?_))))
   rw [w64_id (by omega) (by omega)]
   exact hA.putT (s' := { s with t0 := s.t0 + 1 }) rfl rfl rfl rfl (by decide) fun A3 h3 o3 => Lt.Ok.ret ⟨old.trans o3, rfl, _, _, _, h3⟩
  ·refine Lt.Ok.ck (by decide) (Lt.Ok.ck (by decide) (Lt.Ok.ld (ldI_get hA.get (n := s.t1) rfl) (Lt.Ok.ck (by decide) (Lt.Ok.ck (by decide) ?_))))
   rw [w64_id (by omega) (by omega)]
   exact hA.putT (s' := { s with t1 := s.t1 + 1 }) rfl rfl rfl rfl (by decide) fun A3 h3 o3 => Lt.Ok.ret ⟨old.trans o3, rfl, _, _, _, h3⟩
  ·refine Lt.Ok.ck (by decide) (Lt.Ok.ck (by decide) (Lt.Ok.ld (ldI_get hA.get (n := s.t2) rfl) (Lt.Ok.ck (by decide) (Lt.Ok.ck (by decide) ?_))))
   rw [w64_id (by omega) (by omega)]
   exact hA.putT (s' := { s with t2 := s.t2 + 1 }) rfl rfl rfl rfl (by decide) fun A3 h3 o3 => Lt.Ok.ret ⟨old.trans o3, rfl, _, _, _, h3⟩
  ·refine Lt.Ok.ck (by decide) (Lt.Ok.ck (by decide) (Lt.Ok.ld (ldI_get hA.get (n := s.t3) rfl) (Lt.Ok.ck (by decide) (Lt.Ok.ck (by decide) ?_))))
   rw [w64_id (by omega) (by omega)]
   exact hA.putT (s' := { s with t3 := s.t3 + 1 }) rfl rfl rfl rfl (by decide) fun A3 h3 o3 => Lt.Ok.ret ⟨old.trans o3, rfl, _, _, _, h3⟩
 refine Lt.Ok.ite (fun hc => ?_) fun hc => ?_
 ·unfold r115_j1
  exact Lt.Ok.pos rfl (Lt.Ok.ret ⟨old, by rw [if_pos (.inl hc)]; exact ⟨rfl, by decide⟩⟩)
 ·by_cases hc2 : 1 < j
  ·rw [decide_eq_true hc2]
   unfold r115_j1
   exact Lt.Ok.pos rfl (Lt.Ok.ret ⟨old, by rw [if_pos (.inr hc2)]; exact ⟨rfl, by decide⟩⟩)
  ·rw [decide_eq_false hc2]
   exact fin (by omega)
theorem keqs2 (a b c d : Int) : AV.keqs [.int .i64 a, .int .i64 b] [.int .i64 c, .int .i64 d] = decide ((c, d) = (a, b)) := by
 simp only [AV.keqs, AV.keq1, Bool.and_true]
 rw [Bool.eq_iff_iff]
 simp only [Bool.and_eq_true, decide_eq_true_eq, beq_iff_eq, Prod.mk.injEq]
 constructor
 ·rintro ⟨h1, h2⟩; simp_all
 ·rintro ⟨h1, h2⟩; simp_all
theorem r230_ok {H : Hp} {v : Sl} {l : List (Int × Int)} (h : SL H v l) (hb : l.length ≤ 4194305) (x y : Int) : Lt.Ok (r230 v x y H) fun r H' => Gr H H' ∧ r = idxI (l.findIdx? fun p => decide (p = (x, y))) := by
 unfold r230
 refine Lt.Ok.lt ?_
 have g0 := Gr.push H (.cells [.int .i64 x, .int .i64 y] false)
 have hn := Hp.get_push_new H (.cells [.int .i64 x, .int .i64 y] false)
 have h := h.gr g0
 have hl := h.len
 refine (idx_ok (L := fun K i A => r230_l0 K v H.n (v.len : Int) i A) (l := l) (fun p => decide (p = (x, y))) (by omega) (fun K i A Q hi g k1 k2 => ?_) fun K A Q g k => ?_).mono fun r A ⟨g, e⟩ => ⟨g0.trans g, e⟩
 ·rw [r230_l0]
  have hn' := (g.2 _ (Hp.get_lt hn)).trans hn
  have q1 : A.ldI .i64 v.b (v.o + ((i : Int)).toNat * 2) = some l[i].1 := (h.gr g).ldI (i := i) (j := 0) hi rfl
  have q2 : A.ldI .i64 v.b ((v.o + ((i : Int)).toNat * 2) + 1) = some l[i].2 := (h.gr g).ldI (i := i) (j := 1) hi rfl
  refine Lt.Ok.pos (by omega) (Lt.Ok.ld (ldI_get hn' rfl) (Lt.Ok.ld (ldI_get hn' rfl) (Lt.Ok.ck (by omega) (Lt.Ok.ld q1 (Lt.Ok.ld q2 ?_)))))
  rw [keqs2, w64_succ (by omega)]
  exact Lt.Ok.ite (fun h => Lt.Ok.ret (k1 A (.refl _) h)) fun h => k2 A (.refl _) (by simpa only [Bool.not_eq_true] using h)
 ·rw [r230_l0]
  exact Lt.Ok.neg (by omega) (Lt.Ok.ret k)
theorem r170_ok {H : Hp} {v : Sl} {l : List (Int × Int)} (h : SL H v l) (hb : l.length ≤ 4194305) (x y : Int) : Lt.Ok (r170 v x y H) fun r H' => Gr H H' ∧ r = decide ((x, y) ∈ l) := by
 unfold r170
 refine Lt.Ok.lt ?_
 have g0 := Gr.push H (.cells [.int .i64 x, .int .i64 y] false)
 have hn := Hp.get_push_new H (.cells [.int .i64 x, .int .i64 y] false)
 refine Lt.Ok.ld (ldI_get hn rfl) (Lt.Ok.ld (ldI_get hn rfl) (Lt.Ok.bind (r230_ok (h.gr g0) hb x y) fun r A ⟨g, e⟩ => Lt.Ok.ret ⟨g0.trans g, ?_⟩))
 subst e
 rw [decide_eq_decide]
 dsimp only
 rw [idxI_nonneg, findIdx_any, List.any_eq_true]
 constructor
 ·rintro ⟨p, hp, e⟩
  simp only [decide_eq_true_eq] at e
  subst e; exact hp
 ·intro hp
  exact ⟨_, hp, by simp⟩
theorem offer_ok {H : Hp} {n0 b : Nat} {s : St} {v1 v2 v3 wn wu : Sl} {i j : Int} (h : StO H n0 b s v1 v2 v3) (hs : s.Ok) (hn : n0 ≤ H.n) (hnu : SL H wu [i, j]) :
  Lt.Ok (r116 b 0 wn wu H) (ActQ n0 b H (offerS s i j)) := by
 unfold r116
 refine Lt.Ok.lt ?_
 have g0 := Gr.push H (.cells [.sl wn, .sl wu] false)
 have hl0 := Hp.get_push_new H (.cells [.sl wn, .sl wu] false)
 have hB := h.gr g0
 have hlu := hnu.len
 have f8 := hs.f8
 simp only [List.length_cons, List.length_nil] at hlu
 refine Lt.Ok.ld (ldSl_get hl0 rfl) (Lt.Ok.ck (by omega) (Lt.Ok.ld ((hnu.gr g0).ldI (i := 0) (j := 0) (n := i) (by simp) rfl) ?_))
 refine Lt.Ok.ld (ldSl_get hl0 rfl) (Lt.Ok.ck (by omega) (Lt.Ok.ld ((hnu.gr g0).ldI (i := 1) (j := 0) (n := j) (by simp) rfl) ?_))
 generalize hB1 : H.push (.cells [.sl wn, .sl wu] false) = B at *
 obtain ⟨A2, h1, h2, h3, h4⟩ := sts_blk [.int .i64 i, .int .i64 j] 0 (B.push (.cells [.int .i64 0, .int .i64 0] false)) _ (Hp.get_push_new _ _) (by simp)
 have h2' : A2.get B.n = some (.cells [.int .i64 i, .int .i64 j] false) := by rw [h2]; simp
 have gA2 : Gr H A2 := g0.trans ⟨by rw [h3]; simp, fun c hc => by rw [h4 c (by omega), Hp.get_push_old _ _ hc]⟩
 have hA2 := h.gr gA2
 refine Lt.Ok.ld h1 (Lt.Ok.ld (ldSl_get hA2.get rfl) (Lt.Ok.ld (ldI_get h2' rfl) (Lt.Ok.ld (ldI_get h2' rfl) ?_)))
 refine Lt.Ok.bind (r170_ok hA2.a3.1.sl (by omega) i j) fun r A ⟨g, e⟩ => ?_
 have gA := gA2.trans g
 have hA := h.gr gA
 have hp := (g.2 _ (Hp.get_lt h2')).trans h2'
 have old := Old.of_gr (n0 := n0) gA hn
 have hl3 := hA.a3.1.len
 unfold offerS
 dsimp only
 refine Lt.Ok.ite (fun hc => Lt.Ok.ret ⟨old, ?_⟩) fun hc => ?_
 ·rw [if_pos (by rw [e] at hc; simpa using hc)]; exact ⟨rfl, by decide⟩
 rw [if_neg (by rw [e] at hc; simpa using hc)]
 refine Lt.Ok.ld (ldI_get hp rfl) (Lt.Ok.ld (ldI_get hp rfl) ?_)
 have em : (30 < (if i < j then j else i)) ↔ (30 < i ∨ 30 < j) := by split <;> omega
 refine Lt.Ok.ite (fun hc => Lt.Ok.ret ⟨old, ?_⟩) fun hc => ?_
 ·rw [if_pos (em.1 hc)]; exact ⟨rfl, by decide⟩
 rw [if_neg fun q => hc (em.2 q)]
 refine Lt.Ok.ld (ldSl_get hA.get rfl) (Lt.Ok.ite (fun hc => Lt.Ok.ret ⟨old, ?_⟩) fun hc => ?_)
 ·rw [if_pos (by omega)]; exact ⟨rfl, by decide⟩
 rw [if_neg (by omega)]
 refine Lt.Ok.ld (ldSl_get hA.get rfl) (Lt.Ok.ld (ldI_get hp rfl) (Lt.Ok.ld (ldI_get hp rfl) ?_))
 have := gA.1
 exact hA.push3 (by omega) i j (by omega) fun A' v' h' o' => Lt.Ok.ret ⟨old.trans o', rfl, _, _, _, h'⟩
theorem r153_ok {H : Hp} {b : Nat} {s : St} {v1 v2 v3 : Sl} (hg : H.get b = some (.cells (stCells v1 v2 v3 s) false)) (h : SL H v1 s.leaves) (hb : s.leaves.length ≤ 4194305) :
  Lt.Ok (r153 b 0 H) fun r H' => Gr H H' ∧ AccN H.n H' r (s.leaves.map (·.2)) := by
 unfold r153
 refine Lt.Ok.ld (ldSl_get hg rfl) ?_
 have hl := h.len
 refine Lt.Ok.loop (L := fun K (q : Sl × Int) A => r153_l0 K q.1 v1 (v1.len : Int) q.2 A) (fun m q A => ∃ i : Nat, q.2 = (i : Int) ∧ i + m = s.leaves.length ∧ Gr H A ∧ AccN H.n A q.1 ((s.leaves.take i).map (·.2))) ?_ FUEL s.leaves.length (⟨true, 0, 0, 0, 0, 0⟩, 0) H (by unfold FUEL; omega) ⟨0, rfl, by omega, .refl _, AccL.nilS, fun _ => rfl⟩
 rintro K m ⟨acc, i'⟩ A ⟨i, hi, him, g, ha⟩ ih
 dsimp only at *
 subst hi
 rw [r153_l0]
 refine Lt.Ok.ite (fun hlt => ?_) fun hlt => ?_
 ·have hi : i < s.leaves.length := by omega
  have q1 : A.ldStr v1.b (v1.o + ((i : Int)).toNat * 2) = some s.leaves[i].1 := SL.ldStr (h.gr g) (i := i) (j := 0) hi rfl
  have q2 : A.ldI .i64 v1.b ((v1.o + ((i : Int)).toNat * 2) + 1) = some s.leaves[i].2 := (h.gr g).ldI (i := i) (j := 1) hi rfl
  refine Lt.Ok.ck (by omega) (Lt.Ok.ld q1 (Lt.Ok.ld q2 ?_))
  obtain ⟨A2, h1, h2, h3, h4⟩ := sts_blk [.str s.leaves[i].1, .int .i64 s.leaves[i].2] 0 (A.push (.cells [.str (ByteArray.mk #[]), .int .i64 0] false)) _ (Hp.get_push_new _ _) (by simp)
  have h2' : A2.get A.n = some (.cells [.str s.leaves[i].1, .int .i64 s.leaves[i].2] false) := by rw [h2]; simp
  have gA2 : Gr A A2 := ⟨by rw [h3]; simp, fun c hc => by rw [h4 c (by omega), Hp.get_push_old _ _ hc]⟩
  refine Lt.Ok.ld h1 (Lt.Ok.ld (ldI_get h2' rfl) ?_)
  refine Lt.Ok.bind (AccN.push (ha.gr gA2) (g.trans gA2).1 s.leaves[i].2 rfl rfl (by simp; omega)) fun acc' A3 ⟨k1, k2, k3, k4⟩ => ?_
  dsimp only
  rw [w64_succ (by omega)]
  refine ih (m - 1) (acc', _) A3 (by omega) ⟨i + 1, rfl, by omega, (But.gr k2 (ha.gr gA2).1 (g.trans gA2)), ?_⟩
  rw [List.take_succ_eq_append_getElem hi, List.map_append]
  exact k1
 ·have : i = s.leaves.length := by omega
  subst this
  rw [List.take_length] at ha
  exact Lt.Ok.ret ⟨g, ha⟩
theorem encs_ints : ∀ (l : List Int) (i : Nat) (n : Int), (encs l).set i (.int .i64 n) = encs (l.set i n)
 | [], i, n => rfl
 | m :: l, 0, n => rfl
 | m :: l, i + 1, n => by
  rw [encs_cons, show (El.enc m : List AV) = [.int .i64 m] from rfl, List.set_cons_succ, encs_cons, show (El.enc m : List AV) = [.int .i64 m] from rfl, ← encs_ints l i n]
  rfl
theorem AccN.put {α : Type} {Q : α → Hp → Prop} {A : Hp} {n0 : Nat} {w : Sl} {l : List Int} (h : AccN n0 A w l) {i : Nat} (n : Int) (hi : i < l.length) {f : Hp → Option (α × Hp)}
  (k : ∀ A', AccN n0 A' w (l.set i n) → (∀ c, c ≠ w.b → A'.get c = A.get c) → A'.n = A.n → n0 ≤ w.b → Lt.Ok (f A') Q) : Lt.Ok ((A.st w.b (w.o + i * 1) (.int .i64 n)).bind f) Q := by
 have hnil : w.nil = false := h.1.sl.nonnil fun e => by rw [e] at hi; simp at hi
 obtain ⟨q1, q2, q3, q4, q5, q6, q7⟩ : w.nil = false ∧ w.o = 0 ∧ w.opn = 1 ∧ w.cap = w.len ∧ n0 ≤ w.b ∧ A.get w.b = some (.cells (encs l) false) ∧ (encs l).length = w.len * 1 := by
  rcases h.1 with ⟨e, _⟩ | q
  ·rw [e] at hnil; cases hnil
  ·exact q
 have hl := h.1.len
 rw [q2, Nat.zero_add, Nat.mul_one]
 refine Lt.Ok.st q6 (by omega) fun A' e hg' => ?_
 subst e
 have oth : ∀ c, c ≠ w.b → (A.set w.b (.cells ((encs l).set i (.int .i64 n)) false)).get c = A.get c := fun c hc => Hp.get_set_other _ _ hc
 refine k _ ⟨.inr ⟨q1, q2, q3, q4, q5, by rw [hg', encs_ints], by rw [encs_len, hl]; simp⟩, fun e => ?_⟩ oth (by simp) q5
 have := congrArg List.length e
 simp at this
 rw [this] at hi; simp at hi
theorem r110_ok {H : Hp} {v : Sl} {l : List Int} (h : SL H v l) (h1 : 1 ≤ l.length) (hb : l.length ≤ 4194305) : Lt.Ok (r110 v H) fun r H' => H' = H ∧ (0 ≤ r ↔ ∀ e ∈ l, 0 ≤ e) := by
 have hl := h.len
 unfold r110
 refine Lt.Ok.neg (by omega) (Lt.Ok.ck (by omega) (Lt.Ok.ld (h.ldI (i := 0) (j := 0) (n := l[0]) (by omega) rfl) ?_))
 refine Lt.Ok.loop (L := fun K (q : Int × Int) A => r110_l0 K v q.1 q.2 A) (fun m q A => A = H ∧ ∃ i : Nat, q.2 = (i : Int) ∧ 1 ≤ i ∧ i + m = l.length ∧ (0 ≤ q.1 ↔ ∀ e ∈ l.take i, 0 ≤ e)) ?_ FUEL (l.length - 1) (l[0], 1) H (by unfold FUEL; omega) ⟨rfl, 1, rfl, by omega, by omega, ?_⟩
 ·rintro K m ⟨x, i'⟩ A ⟨rfl, i, hi, hi1, him, hx⟩ ih
  dsimp only at *
  subst hi
  rw [r110_l0]
  refine Lt.Ok.ite (fun hlt => ?_) fun hlt => ?_
  ·have hi : i < l.length := by omega
   refine Lt.Ok.ck (by omega) (Lt.Ok.ld (h.ldI (i := i) (j := 0) (n := l[i]) hi rfl) ?_)
   rw [w64_succ (by omega)]
   refine ih (m - 1) (if l[i] < x then l[i] else x, _) A (by omega) ⟨rfl, i + 1, rfl, by omega, by omega, ?_⟩
   rw [List.take_succ_eq_append_getElem hi]
   dsimp only
   constructor
   ·intro h0 e he
    rcases List.mem_append.1 he with he | he
    ·exact hx.1 (by split at h0 <;> omega) e he
    ·simp at he; subst he; split at h0 <;> omega
   ·intro h0
    have := hx.2 fun e he => h0 e (List.mem_append_left _ he)
    have := h0 l[i] (List.mem_append_right _ (List.mem_singleton.2 rfl))
    split <;> omega
  ·have : i = l.length := by omega
   subst this
   rw [List.take_length] at hx
   exact Lt.Ok.ret ⟨rfl, hx⟩
 ·obtain ⟨x, r, rfl⟩ : ∃ x r, l = x :: r := List.exists_cons_of_length_pos (by omega)
  simp
theorem r94_ok {H : Hp} {v : Sl} {l : List Int} (h : SL H v l) (h1 : 1 ≤ l.length) (hb : l.length ≤ 4194305) : Lt.Ok (r94 v H) fun r H' => H' = H ∧ (r ≤ 20 ↔ ∀ e ∈ l, e ≤ 20) := by
 have hl := h.len
 unfold r94
 refine Lt.Ok.neg (by omega) (Lt.Ok.ck (by omega) (Lt.Ok.ld (h.ldI (i := 0) (j := 0) (n := l[0]) (by omega) rfl) ?_))
 refine Lt.Ok.loop (L := fun K (q : Int × Int) A => r94_l0 K v q.1 q.2 A) (fun m q A => A = H ∧ ∃ i : Nat, q.2 = (i : Int) ∧ 1 ≤ i ∧ i + m = l.length ∧ (q.1 ≤ 20 ↔ ∀ e ∈ l.take i, e ≤ 20)) ?_ FUEL (l.length - 1) (l[0], 1) H (by unfold FUEL; omega) ⟨rfl, 1, rfl, by omega, by omega, ?_⟩
 ·rintro K m ⟨x, i'⟩ A ⟨rfl, i, hi, hi1, him, hx⟩ ih
  dsimp only at *
  subst hi
  rw [r94_l0]
  refine Lt.Ok.ite (fun hlt => ?_) fun hlt => ?_
  ·have hi : i < l.length := by omega
   refine Lt.Ok.ck (by omega) (Lt.Ok.ld (h.ldI (i := i) (j := 0) (n := l[i]) hi rfl) ?_)
   rw [w64_succ (by omega)]
   refine ih (m - 1) (if x < l[i] then l[i] else x, _) A (by omega) ⟨rfl, i + 1, rfl, by omega, by omega, ?_⟩
   rw [List.take_succ_eq_append_getElem hi]
   dsimp only
   constructor
   ·intro h0 e he
    rcases List.mem_append.1 he with he | he
    ·exact hx.1 (by split at h0 <;> omega) e he
    ·simp at he; subst he; split at h0 <;> omega
   ·intro h0
    have := hx.2 fun e he => h0 e (List.mem_append_left _ he)
    have := h0 l[i] (List.mem_append_right _ (List.mem_singleton.2 rfl))
    split <;> omega
  ·have : i = l.length := by omega
   subst this
   rw [List.take_length] at hx
   exact Lt.Ok.ret ⟨rfl, hx⟩
 ·obtain ⟨x, r, rfl⟩ : ∃ x r, l = x :: r := List.exists_cons_of_length_pos (by omega)
  simp
def Good (n : Nat) (l : List Int) : Prop := 1 ≤ l.length ∧ l.length ≤ 6 ∧ l.length = n ∧ ∀ e ∈ l, 0 ≤ e ∧ e ≤ 20
theorem r63_ok {H : Hp} {a0 a1 : Sl} {x y : List Int} (hx : SL H a0 x) (hy : SL H a1 y) (hbx : x.length ≤ 4194305) (hby : y.length ≤ 4194305) :
  Lt.Ok (r63 ⟨false, H.n, 0, 2, 2, 0⟩ (H.push (.cells [.sl a0, .sl a1] false))) fun r H' => Gr H H' ∧ (r = true ↔ Good x.length x ∧ Good x.length y) := by
 unfold r63
 have g0 := Gr.push H (.cells [.sl a0, .sl a1] false)
 have hg := Hp.get_push_new H (.cells [.sl a0, .sl a1] false)
 obtain ⟨K, hK⟩ : ∃ K, FUEL = K + 3 := ⟨FUEL - 3, by unfold FUEL; omega⟩
 rw [hK]
 generalize H.push (.cells [.sl a0, .sl a1] false) = A at *
 have hlx := (hx.gr g0).len
 have round : ∀ (K : Nat) (q : Nat) (a : Sl) (l : List Int) (Q : Bool → Hp → Prop), q < 2 → A.ldSl H.n (0 + ((q : Nat) : Int).toNat * 1) = some a → SL A a l → l.length ≤ 4194305 → (¬ Good x.length l → Q false A) →
   (Good x.length l → Lt.Ok (r63_l0 K ⟨false, H.n, 0, 2, 2, 0⟩ ⟨false, H.n, 0, 2, 2, 0⟩ 2 ((q + 1 : Nat) : Int) A) Q) → Lt.Ok (r63_l0 (K + 1) ⟨false, H.n, 0, 2, 2, 0⟩ ⟨false, H.n, 0, 2, 2, 0⟩ 2 (q : Int) A) Q := by
  intro K q a l Q hq hld hl hbl k1 k2
  have hll := hl.len
  rw [r63_l0]
  refine Lt.Ok.pos (by omega) (Lt.Ok.ck (by show (0 : Int) ≤ (q : Int) ∧ (q : Int) < 2; omega) (Lt.Ok.ld hld ?_))
  unfold r63_j1
  refine Lt.Ok.ite (fun hc => Lt.Ok.pos rfl (Lt.Ok.ret (k1 fun h => by have := h.1; omega))) fun hc1 => ?_
  refine Lt.Ok.ite (fun hc => Lt.Ok.pos rfl (Lt.Ok.ret (k1 fun h => by have := h.2.1; omega))) fun hc2 => ?_
  refine Lt.Ok.ck (by show (0 : Int) ≤ 0 ∧ (0 : Int) < 2; decide) (Lt.Ok.ld (b := a0) (ldSl_get hg rfl) ?_)
  refine Lt.Ok.ite (fun hc => Lt.Ok.pos rfl (Lt.Ok.ret (k1 fun h => by have := h.2.2.1; omega))) fun hc3 => ?_
  refine Lt.Ok.bind (r110_ok hl (by omega) hbl) fun r A' ⟨e, hr⟩ => ?_
  subst e
  dsimp only
  refine Lt.Ok.ite (fun hc => Lt.Ok.pos rfl (Lt.Ok.ret (k1 fun h => by have := hr.2 fun e he => (h.2.2.2 e he).1; omega))) fun hc4 => ?_
  refine Lt.Ok.bind (r94_ok hl (by omega) hbl) fun r2 A' ⟨e, hr2⟩ => ?_
  subst e
  dsimp only
  rw [w64_succ (by omega)]
  by_cases hc : 20 < r2
  ·rw [decide_eq_true hc]
   exact Lt.Ok.pos rfl (Lt.Ok.ret (k1 fun h => by have := hr2.2 fun e he => (h.2.2.2 e he).2; omega))
  ·rw [decide_eq_false hc]
   exact Lt.Ok.neg (by simp) (k2 ⟨by omega, by omega, by omega, fun e he => ⟨hr.1 (by omega) e he, hr2.1 (by omega) e he⟩⟩)
 refine round _ 0 a0 x _ (by omega) (ldSl_get hg rfl) (hx.gr g0) hbx (fun hn => ⟨g0, by simp; exact fun h => absurd h hn⟩) fun h0 => ?_
 refine round _ 1 a1 y _ (by omega) (ldSl_get hg rfl) (hy.gr g0) hby (fun hn => ⟨g0, by simp; exact fun _ => hn⟩) fun h1 => ?_
 rw [r63_l0]
 exact Lt.Ok.neg (by show ¬ (2 : Int) < 2; decide) (Lt.Ok.ret ⟨g0, by simp [h0, h1]⟩)
theorem r21_ok {H : Hp} {v w : Sl} {l m : List Int} (h : SL H v l) (h' : SL H w m) (hb : l.length ≤ 4194305) : Lt.Ok (r21 v w H) fun r H' => H' = H ∧ (r = true ↔ l = m) := by
 have hl := h.len; have hm := h'.len
 unfold r21
 refine Lt.Ok.ite (fun hc => Lt.Ok.ret ⟨rfl, by simp; intro e; apply hc; rw [hl, hm, e]⟩) fun hc => ?_
 have hlm : l.length = m.length := by omega
 refine Lt.Ok.loop (L := fun K (q : Int) A => r21_l0 K v w (v.len : Int) q A) (fun k q A => A = H ∧ ∃ i : Nat, q = (i : Int) ∧ i + k = l.length ∧ l.take i = m.take i) ?_ FUEL l.length 0 H (by unfold FUEL; omega) ⟨rfl, 0, rfl, by omega, rfl⟩
 rintro K k q A ⟨rfl, i, rfl, him, ht⟩ ih
 rw [r21_l0]
 refine Lt.Ok.ite (fun hlt => ?_) fun hlt => ?_
 ·have hi : i < l.length := by omega
  refine Lt.Ok.ck (by omega) (Lt.Ok.ld (h.ldI (i := i) (j := 0) (n := l[i]) hi rfl) (Lt.Ok.ck (by omega) (Lt.Ok.ld (h'.ldI (i := i) (j := 0) (n := m[i]) (by omega) rfl) ?_)))
  refine Lt.Ok.ite (fun hne => Lt.Ok.ret ⟨rfl, by simp; rintro rfl; exact hne rfl⟩) fun he => ?_
  rw [w64_succ (by omega)]
  refine ih (k - 1) _ A (by omega) ⟨rfl, i + 1, rfl, by omega, ?_⟩
  rw [List.take_succ_eq_append_getElem hi, List.take_succ_eq_append_getElem (by omega), ht]
  have : l[i] = m[i] := by simpa using he
  rw [this]
 ·have : i = l.length := by omega
  subst this
  rw [List.take_length, hlm, List.take_length] at ht
  exact Lt.Ok.ret ⟨rfl, by simp [ht]⟩
def CanS (x : List Int) (i j : Nat) (n : Int) : Prop := i ≠ j ∧ 1 ≤ n ∧ n ≤ 20 ∧ 2 * n ≤ x.getD i 0 - x.getD j 0
theorem r67_ok {H A : Hp} {w : Sl} {x : List Int} {i j : Nat} {n : Int} (gA : Gr H A) (h : AccN H.n A w x) (hi : i < x.length) (hj : j < x.length) (hb : x.length ≤ 4194305) (hx : ∀ e ∈ x, 0 ≤ e ∧ e ≤ 20) :
  Lt.Ok (r67 (i : Int) (j : Int) n w A) fun r A' => Gr H A' ∧ (r = true ↔ CanS x i j n) ∧ (r = true → AccN H.n A' w ((x.set i (x.getD i 0 - n)).set j (x.getD j 0 + n))) := by
 unfold r67
 refine Lt.Ok.lt ?_
 have g0 := Gr.push A (.cells [.int .i64 (i : Int), .int .i64 (j : Int), .int .i64 n] false)
 have hg := Hp.get_push_new A (.cells [.int .i64 (i : Int), .int .i64 (j : Int), .int .i64 n] false)
 have hw := h.gr g0
 have hbn : A.n < (A.push (.cells [.int .i64 (i : Int), .int .i64 (j : Int), .int .i64 n] false)).n := by simp
 generalize A.push (.cells [.int .i64 (i : Int), .int .i64 (j : Int), .int .i64 n] false) = B at *
 have gB := gA.trans g0
 have hl := hw.1.len
 have ei : x.getD i 0 = x[i] := by rw [List.getD_eq_getElem?_getD, List.getElem?_eq_getElem hi]; rfl
 have ej : x.getD j 0 = x[j] := by rw [List.getD_eq_getElem?_getD, List.getElem?_eq_getElem hj]; rfl
 have ri := hx _ (List.getElem_mem hi)
 have rj := hx _ (List.getElem_mem hj)
 unfold r67_j0 CanS
 rw [ei, ej]
 refine Lt.Ok.ld (ldI_get hg rfl) (Lt.Ok.neg (by omega) (Lt.Ok.ld (ldI_get hg rfl) (Lt.Ok.neg (by omega) (Lt.Ok.ld (ldI_get hg rfl) (Lt.Ok.neg (by omega) (Lt.Ok.ld (ldI_get hg rfl) (Lt.Ok.neg (by omega) ?_)))))))
 refine Lt.Ok.ld (ldI_get hg rfl) (Lt.Ok.ld (ldI_get hg rfl) (Lt.Ok.ite (fun hc => Lt.Ok.pos rfl (Lt.Ok.ret ⟨gB, by simp; omega, by simp⟩)) fun hc1 => ?_))
 refine Lt.Ok.ld (ldI_get hg rfl) (Lt.Ok.ite (fun hc => Lt.Ok.pos rfl (Lt.Ok.ret ⟨gB, by simp; omega, by simp⟩)) fun hc2 => ?_)
 refine Lt.Ok.ld (ldI_get hg rfl) (Lt.Ok.ite (fun hc => Lt.Ok.pos rfl (Lt.Ok.ret ⟨gB, by simp; omega, by simp⟩)) fun hc3 => ?_)
 refine Lt.Ok.ld (ldI_get hg rfl) (Lt.Ok.ck (by omega) (Lt.Ok.ld (hw.1.sl.ldI (i := i) (j := 0) (n := x[i]) hi rfl) ?_))
 refine Lt.Ok.ld (ldI_get hg rfl) (Lt.Ok.ck (by omega) (Lt.Ok.ld (hw.1.sl.ldI (i := j) (j := 0) (n := x[j]) hj rfl) (Lt.Ok.ld (ldI_get hg rfl) ?_)))
 rw [w64_id (n := x[i] - x[j]) (by omega) (by omega), w64_id (n := 2 * n) (by omega) (by omega)]
 by_cases hc : x[i] - x[j] < 2 * n
 ·rw [decide_eq_true hc]
  exact Lt.Ok.pos rfl (Lt.Ok.ret ⟨gB, by simp; omega, by simp⟩)
 ·rw [decide_eq_false hc]
  refine Lt.Ok.neg (by simp) (Lt.Ok.ld (ldI_get hg rfl) (Lt.Ok.ck (by omega) (Lt.Ok.ld (hw.1.sl.ldI (i := i) (j := 0) (n := x[i]) hi rfl) (Lt.Ok.ld (ldI_get hg rfl) (Lt.Ok.ck (by omega) ?_)))))
  rw [w64_id (n := x[i] - n) (by omega) (by omega)]
  have hwlt : w.nil = false → w.b < A.n := fun q => Acc.lt h.1 q
  have hwn : w.nil = false := hw.1.sl.nonnil fun e => by rw [e] at hi; simp at hi
  have hwA := hwlt hwn
  refine hw.put (i := i) (x[i] - n) hi fun A1 h1 o1 n1 b1 => ?_
  have hg1 := (o1 A.n (by omega)).trans hg
  have hxj : (x.set i (x[i] - n))[j]'(by simpa using hj) = x[j] := by
   rw [List.getElem_set_ne (by omega)]
  refine Lt.Ok.ld (ldI_get hg1 rfl) (Lt.Ok.ck (by omega) (Lt.Ok.ld (h1.1.sl.ldI (i := j) (j := 0) (n := x[j]) (by simpa using hj) (by rw [hxj]; rfl)) (Lt.Ok.ld (ldI_get hg1 rfl) (Lt.Ok.ck (by omega) ?_))))
  rw [w64_id (n := x[j] + n) (by omega) (by omega)]
  refine h1.put (i := j) (x[j] + n) (by simpa using hj) fun A2 h2 o2 n2 b2 => Lt.Ok.ret ⟨⟨by have := gB.1; omega, fun c hc => by rw [o2 c (by omega), o1 c (by omega), gB.2 c hc]⟩, by simp; omega, fun _ => h2⟩
theorem r24_ok {H : Hp} {a0 a1 a2 : Sl} {x y : List Int} {i j : Nat} {n : Int} (hx : SL H a0 x) (hx0 : x = [] → a0 = nilS) (hy : SL H a1 y) (hg : SL H a2 [((i : Int), (j : Int), n)]) (hi : i < x.length) (hj : j < x.length) (hb : x.length ≤ 4194305) (hby : y.length ≤ 4194305) :
  Lt.Ok (r24 a0 a1 a2 H) fun r H' => Gr H H' ∧ (r.1 = true ↔ (Good x.length x ∧ Good x.length y) ∧ CanS x i j n ∧ (x.set i (x.getD i 0 - n)).set j (x.getD j 0 + n) = y) ∧ (r.1 = true → r.2 = 0) := by
 unfold r24
 refine Lt.Ok.bind (r63_ok hx hy hb hby) fun b A ⟨g, hr⟩ => ?_
 dsimp only
 refine Lt.Ok.ite (fun hc => ?_) fun hc => Lt.Ok.ret ⟨g, by simp; intro h1 h2; exact absurd (hr.2 ⟨h1, h2⟩) hc, by simp⟩
 obtain ⟨gx, gy⟩ := hr.1 hc
 rw [r18_eq]
 refine Lt.Ok.bind (clone_n (n0 := A.n) (hx.gr g) hx0 (by omega) rfl (Nat.le_refl _)) fun w A2 ⟨g2, hw, _⟩ => ?_
 have hl2 := hg.len
 simp only [List.length_cons, List.length_nil] at hl2
 obtain ⟨K, hK⟩ : ∃ K, FUEL = K + 2 := ⟨FUEL - 2, by unfold FUEL; omega⟩
 dsimp only
 rw [hK, r24_l0]
 have hg2 := (hg.gr g).gr g2
 refine Lt.Ok.pos (by omega) (Lt.Ok.ck (by omega) (Lt.Ok.ld (hg2.ldI (i := 0) (j := 0) (n := (i : Int)) (by simp) rfl) (Lt.Ok.ld (hg2.ldI (i := 0) (j := 1) (n := (j : Int)) (by simp) rfl) (Lt.Ok.ld (hg2.ldI (i := 0) (j := 2) (n := n) (by simp) rfl) ?_))))
 obtain ⟨A3, h1, h2, h3, h4⟩ := sts_blk [.int .i64 (i : Int), .int .i64 (j : Int), .int .i64 n] 0 (A2.push (.cells [.int .i64 0, .int .i64 0, .int .i64 0] false)) _ (Hp.get_push_new _ _) (by simp)
 have h2' : A3.get A2.n = some (.cells [.int .i64 (i : Int), .int .i64 (j : Int), .int .i64 n] false) := by rw [h2]; simp
 have g3 : Gr A2 A3 := ⟨by rw [h3]; simp, fun c hc => by rw [h4 c (by omega), Hp.get_push_old _ _ hc]⟩
 refine Lt.Ok.ld h1 (Lt.Ok.ld (ldI_get h2' rfl) (Lt.Ok.ld (ldI_get h2' rfl) (Lt.Ok.ld (ldI_get h2' rfl) ?_)))
 refine Lt.Ok.bind (r67_ok (H := A) (n := n) (g2.trans g3) (hw.gr g3) hi hj hb gx.2.2.2) fun b A4 ⟨g4, hc4, hw4⟩ => ?_
 dsimp only
 refine Lt.Ok.ite (fun hct => ?_) fun hct => Lt.Ok.ret ⟨g.trans g4, by simp; intro _ _ q; exact absurd (hc4.2 q) hct, by simp⟩
 have hw4 := hw4 hct
 rw [show w64 (0 + 1) = (1 : Int) from by decide, r24_l0]
 refine Lt.Ok.neg (by omega) (Lt.Ok.bind (r21_ok hw4.1.sl ((hy.gr g).gr g4) (by simp; omega)) fun r A5 ⟨e, h5⟩ => Lt.Ok.ret ⟨by rw [e]; exact g.trans g4, ?_, fun _ => rfl⟩)
 dsimp only
 rw [h5]
 exact ⟨fun h => ⟨⟨gx, gy⟩, hc4.1 hct, h⟩, fun h => h.2.2⟩
def mix (l : List (ByteArray × Int)) (y : List Int) (k : Nat) : List (ByteArray × Int) := l.mapIdx fun q x => if q < k then (x.1, y.getD q 0) else x
theorem mix_zero (l : List (ByteArray × Int)) (y : List Int) : mix l y 0 = l := by
 unfold mix
 apply List.ext_getElem
 ·simp
 ·intro i h1 h2; simp
theorem mix_len (l : List (ByteArray × Int)) (y : List Int) (k : Nat) : (mix l y k).length = l.length := by simp [mix]
theorem mix_get (l : List (ByteArray × Int)) (y : List Int) (k q : Nat) (hq : q < l.length) : (mix l y k)[q]'(by rw [mix_len]; exact hq) = if q < k then (l[q].1, y.getD q 0) else l[q] := by
 simp [mix]
theorem mix_succ (l : List (ByteArray × Int)) (y : List Int) (k : Nat) : (mix l y k).modify k (fun x => (x.1, y.getD k 0)) = mix l y (k + 1) := by
 apply List.ext_getElem
 ·simp [mix]
 ·intro i h1 h2
  have hi : i < l.length := by rw [mix_len] at h2; exact h2
  rw [List.getElem_modify, mix_get _ _ _ _ hi, mix_get _ _ _ _ hi]
  by_cases e : k = i
  ·subst e
   rw [if_pos rfl, if_neg (by omega), if_pos (by omega)]
  ·rw [if_neg e]
   by_cases h : i < k
   ·rw [if_pos h, if_pos (by omega)]
   ·rw [if_neg h, if_neg (by omega)]
theorem mix_give (l : List (ByteArray × Int)) {i j : Nat} (hi : i < l.length) (hj : j < l.length) (hij : i ≠ j) (a b : Int) :
  mix l (((l.map (·.2)).set i a).set j b) l.length = (l.modify i fun x => (x.1, a)).modify j fun x => (x.1, b) := by
 apply List.ext_getElem
 ·simp [mix]
 ·intro q h1 h2
  have hq : q < l.length := by rw [mix_len] at h1; exact h1
  rw [mix_get _ _ _ _ hq, if_pos hq, List.getElem_modify, List.getElem_modify, List.getD_eq_getElem?_getD, List.getElem?_eq_getElem (by simpa using hq)]
  simp only [Option.getD_some]
  rw [List.getElem_set]
  by_cases e : j = q
  ·subst e; rw [if_pos rfl, if_pos rfl, if_neg hij]
  ·rw [if_neg e, if_neg e, List.getElem_set]
   by_cases e2 : i = q
   ·subst e2; rw [if_pos rfl, if_pos rfl]
   ·rw [if_neg e2, if_neg e2]; simp
theorem r113_l1_ok {k : Nat} {H : Hp} {n0 b : Nat} {s : St} {v1 v2 v3 w : Sl} {y : List Int} (h : StO H n0 b s v1 v2 v3) (hs : s.Ok) (hy : SL H w y) (hl : y.length = s.leaves.length) (hw : ∀ c, c = v1.b → v1.nil = false → w.b ≠ c) (hn : n0 ≤ H.n) :
  Lt.Ok (r113_l1 (appA k) FUEL b 0 w (w.len : Int) 0 H) fun e H' => e = 0 ∧ Old n0 H H' ∧ StO H' n0 b { s with leaves := mix s.leaves y s.leaves.length } v1 v2 v3 := by
 have l6 := hs.l6
 have hlen := hy.len
 refine Lt.Ok.loop (L := fun K (q : Int) A => r113_l1 (appA k) K b 0 w (w.len : Int) q A) (fun m q A => ∃ i : Nat, q = (i : Int) ∧ i + m = s.leaves.length ∧ Old n0 H A ∧ SL A w y ∧ StO A n0 b { s with leaves := mix s.leaves y i } v1 v2 v3) ?_ FUEL s.leaves.length 0 H (by unfold FUEL; omega) ⟨0, rfl, by omega, .refl _ _, hy, by rw [mix_zero]; exact h⟩
 rintro K m q A ⟨i, rfl, him, o, hyA, hA⟩ ih
 rw [r113_l1]
 refine Lt.Ok.ite (fun hlt => ?_) fun hlt => ?_
 ·have hi : i < y.length := by omega
  have hl1 := hA.a1.1.len
  rw [mix_len] at hl1
  refine Lt.Ok.ck (by omega) (Lt.Ok.ld (hyA.ldI (i := i) (j := 0) (n := y.getD i 0) hi (by rw [List.getD_eq_getElem?_getD, List.getElem?_eq_getElem hi]; rfl)) (Lt.Ok.ld (ldSl_get hA.get rfl) (Lt.Ok.ck (by omega) ?_)))
  refine hA.putS (i := i) (y.getD i 0) (by rw [mix_len]; omega) fun A1 h1 o1 on1 => ?_
  rw [w64_succ (by omega)]
  refine ih (m - 1) _ A1 (by omega) ⟨i + 1, rfl, by omega, o.trans o1, ?_, ?_⟩
  ·have hnil : v1.nil = false := hA.a1.1.sl.nonnil fun e => by
    have := congrArg List.length e
    rw [mix_len] at this
    simp at this; rw [this] at hl; simp at hl; rw [hl] at hi; simp at hi
   have hwlt : w.b < A.n := ld_lt (hyA.ld (i := i) (j := 0) (x := .int .i64 y[i]) hi rfl)
   exact slcg hyA (on1.2 _ hwlt (hw _ rfl hnil))
  ·have : setStock { s with leaves := mix s.leaves y i } i (y.getD i 0) = { s with leaves := mix s.leaves y (i + 1) } := by
    unfold setStock; dsimp only; rw [mix_succ]
   rw [← this]; exact h1
 ·have : i = s.leaves.length := by omega
  subst this
  exact Lt.Ok.ret ⟨rfl, o, hA⟩
theorem getD_stock {s : St} {i : Nat} (h : i < s.leaves.length) : (s.leaves.map (·.2)).getD i 0 = stock s i := by
 rw [stock_eq h, List.getD_eq_getElem?_getD, List.getElem?_map, List.getElem?_eq_getElem h]; rfl
theorem set_mem {l : List Int} {i : Nat} {a e : Int} (h : e ∈ l.set i a) : e = a ∨ e ∈ l := (List.mem_or_eq_of_mem_set h).symm.imp id id
theorem give_ok {k : Nat} {H : Hp} {n0 b : Nat} {s : St} {v1 v2 v3 wn wu : Sl} {a c : ByteArray} {n : Int} (h : StO H n0 b s v1 v2 v3) (hs : s.Ok) (hn : n0 ≤ H.n) (hna : SL H wn [a, c]) (hnu : SL H wu [n]) :
  Lt.Ok (r113 (appA (k + 1)) b 0 wn wu H) (ActQ n0 b H (giveS s a c n)) := by
 unfold r113
 refine Lt.Ok.lt ?_
 have g0 := Gr.push H (.cells [.sl wn, .sl wu] false)
 have hl0 := Hp.get_push_new H (.cells [.sl wn, .sl wu] false)
 have l6 := hs.l6
 generalize H.push (.cells [.sl wn, .sl wu] false) = H1 at *
 have hln := hna.len
 have hlu := hnu.len
 simp only [List.length_cons, List.length_nil] at hln hlu
 have e0 : ∀ {A : Hp}, Gr H A → A.ldStr wn.b (wn.o + (0 : Int).toNat * 1) = some a := fun g => SL.ldStr (hna.gr g) (i := 0) (j := 0) (n := a) (by simp) rfl
 have e1 : ∀ {A : Hp}, Gr H A → A.ldStr wn.b (wn.o + (1 : Int).toNat * 1) = some c := fun g => SL.ldStr (hna.gr g) (i := 1) (j := 0) (n := c) (by simp) rfl
 have e2 : ∀ {A : Hp}, Gr H A → A.ldI .i64 wu.b (wu.o + (0 : Int).toNat * 1) = some n := fun g => (hnu.gr g).ldI (i := 0) (j := 0) (n := n) (by simp) rfl
 refine Lt.Ok.ld (ldSl_get hl0 rfl) (Lt.Ok.ck (by omega) (Lt.Ok.ld (e0 g0) ?_))
 refine Lt.Ok.bind (r154_ok (k := k) (h.gr g0).get (h.gr g0).a1.1.sl (by omega) a) fun r1 A ⟨g, q1⟩ => ?_
 have gA := g0.trans g
 have hA := h.gr gA
 have hlA := (g.2 _ (Hp.get_lt hl0)).trans hl0
 refine Lt.Ok.ld (ldSl_get hlA rfl) (Lt.Ok.ck (by omega) (Lt.Ok.ld (e1 gA) ?_))
 refine Lt.Ok.bind (r154_ok (k := k) hA.get hA.a1.1.sl (by omega) c) fun r2 B ⟨g2, q2⟩ => ?_
 have gB := gA.trans g2
 have hB := h.gr gB
 have hlB := (g2.2 _ (Hp.get_lt hlA)).trans hlA
 refine Lt.Ok.ld (ldSl_get hlB rfl) (Lt.Ok.ck (by omega) (Lt.Ok.ld (e2 gB) ?_))
 refine Lt.Ok.ck (ldSl_get hl0 rfl) (Lt.Ok.ck (e1 g0) (Lt.Ok.ck (ldSl_get hl0 rfl) (Lt.Ok.ck (e2 g0) (Lt.Ok.ck (ldSl_get hlA rfl) (Lt.Ok.ck (e2 gA) (Lt.Ok.ck (ldSl_get hlB rfl) (Lt.Ok.ck (e1 gB) ?_)))))))
 dsimp only
 have old := Old.of_gr (n0 := n0) gB hn
 unfold giveS
 subst q1; subst q2
 cases hf1 : s.find a with
 | none =>
  refine Lt.Ok.pos (by decide) ?_
  unfold r113_j0
  exact Lt.Ok.pos rfl (Lt.Ok.ret ⟨old, rfl, by decide⟩)
 | some i =>
  refine Lt.Ok.neg (by simp [idxI]) ?_
  cases hf2 : s.find c with
  | none =>
   unfold r113_j0
   exact Lt.Ok.pos (by simp [idxI]) (Lt.Ok.ret ⟨old, rfl, by decide⟩)
  | some j =>
   have hi := find_lt hf1
   have hj := find_lt hf2
   unfold r113_j0
   rw [show decide (idxI (some j) < 0) = false from decide_eq_false (by simp [idxI])]
   refine Lt.Ok.neg (by simp) ?_
   simp only [idxI]
   have lo := h.lo
   refine Lt.Ok.bind (r153_ok hB.get hB.a1.1.sl (by omega)) fun xs C ⟨g3, hx⟩ => ?_
   rw [r18_eq]
   have ne : s.leaves ≠ [] := fun e => by rw [e] at hi; simp at hi
   have nex : s.leaves.map (·.2) ≠ [] := fun e => ne (List.map_eq_nil_iff.1 e)
   refine Lt.Ok.bind (clone_n (n0 := C.n) hx.1.sl hx.2 (by simp; omega) rfl (Nat.le_refl _)) fun w D ⟨g4, hw, _⟩ => ?_
   dsimp only
   have hwl := hw.1.len
   simp only [List.length_map] at hwl
   have ri := stock_rng hs hi
   have rj := stock_rng hs hj
   have gi : (s.leaves.map (·.2))[i]'(by simpa using hi) = stock s i := by rw [stock_eq hi]; simp
   have gj : (s.leaves.map (·.2))[j]'(by simpa using hj) = stock s j := by rw [stock_eq hj]; simp
   have gC := gB.trans g3
   have gD := gC.trans g4
   refine Lt.Ok.ck (by omega) (Lt.Ok.ld (hw.1.sl.ldI (i := i) (j := 0) (n := stock s i) (by simpa using hi) (by rw [gi]; rfl)) (Lt.Ok.ck (by omega) ?_))
   refine hw.put (i := i) _ (by simpa using hi) fun D1 h1 o1 n1 b1 => ?_
   generalize hy1 : w64 (stock s i - n) = y1 at *
   have hyj : ((s.leaves.map (·.2)).set i y1)[j]'(by simpa using hj) = if i = j then y1 else stock s j := by
    rw [List.getElem_set]; split
    ·rfl
    ·rw [gj]
   refine Lt.Ok.ck (by omega) (Lt.Ok.ld (h1.1.sl.ldI (i := j) (j := 0) (n := if i = j then y1 else stock s j) (by simpa using hj) (by rw [hyj]; rfl)) (Lt.Ok.ck (by omega) ?_))
   refine h1.put (i := j) _ (by simpa using hj) fun D2 h2 o2 n2 b2 => ?_
   generalize hy2 : w64 ((if i = j then y1 else stock s j) + n) = y2 at *
   have gD2 : Gr C D2 := ⟨by have := g4.1; omega, fun q hq => by rw [o2 q (by omega), o1 q (by omega), g4.2 q hq]⟩
   have hxD := hx.gr gD2
   have gp := Gr.push D2 (.cells [.int .i64 (i : Int), .int .i64 (j : Int), .int .i64 n] false)
   have hgs : SL (D2.push (.cells [.int .i64 (i : Int), .int .i64 (j : Int), .int .i64 n] false)) ⟨false, D2.n, 0, 1, 1, 0⟩ [((i : Int), (j : Int), n)] :=
    .of_get (ro := false) (Hp.get_push_new _ _) rfl rfl (Nat.le_refl _) (.inl rfl) rfl
   refine Lt.Ok.bind (r24_ok (hxD.1.sl.gr gp) hxD.2 (h2.1.sl.gr gp) hgs (by simpa using hi) (by simpa using hj) (by simp; omega) (by simp; omega)) fun r E ⟨g5, hr, hr0⟩ => ?_
   have gE : Gr H E := (gC.trans gD2).trans (gp.trans g5)
   have oldE := Old.of_gr (n0 := n0) gE hn
   dsimp only at hr hr0 ⊢
   have cond : r.1 = true ↔ (i ≠ j ∧ 1 ≤ n ∧ n ≤ 20 ∧ 2 * n ≤ stock s i - stock s j) := by
    rw [hr]
    unfold CanS
    rw [getD_stock hi, getD_stock hj]
    constructor
    ·exact fun h => h.2.1
    ·intro hc
     obtain ⟨c1, c2, c3, c4⟩ := hc
     have y1e : y1 = stock s i - n := by rw [← hy1, w64_id (by omega) (by omega)]
     have y2e : y2 = stock s j + n := by rw [← hy2, if_neg c1, w64_id (by omega) (by omega)]
     have xs20 : ∀ e ∈ s.leaves.map (·.2), 0 ≤ e ∧ e ≤ 20 := fun e he => by
      obtain ⟨p, hp, rfl⟩ := List.mem_map.1 he
      exact hs.st p hp
     refine ⟨⟨⟨by simp; omega, by simp; omega, rfl, xs20⟩, by simp; omega, by simp; omega, by simp, fun e he => ?_⟩, ⟨c1, c2, c3, c4⟩, by rw [y1e, y2e]⟩
     rcases set_mem he with rfl | he
     ·omega
     ·rcases set_mem he with rfl | he
      ·omega
      ·exact xs20 e he
   unfold r113_j2
   refine Lt.Ok.ite (fun hc => ?_) fun hc => ?_
   ·have hc' := cond.1 hc
    rw [if_pos hc', hr0 hc]
    refine Lt.Ok.neg (by simp) ?_
    obtain ⟨c1, c2, c3, c4⟩ := hc'
    have y1e : y1 = stock s i - n := by rw [← hy1, w64_id (by omega) (by omega)]
    have y2e : y2 = stock s j + n := by rw [← hy2, if_neg c1, w64_id (by omega) (by omega)]
    have hE := h.gr gE
    have hwE := (h2.gr (gp.trans g5))
    have hC := h.gr gC
    refine (r113_l1_ok hE hs hwE.1.sl (by simp) (fun q hq hn1 => ?_) (by have := gE.1; omega)).mono fun e F ⟨he, of, hF⟩ => ⟨oldE.trans of, he, v1, v2, v3, ?_⟩
    ·have := Acc.lt hC.a1.1 hn1
     omega
    ·subst y1e; subst y2e
     rw [mix_give _ hi hj c1] at hF
     exact hF
   ·rw [if_neg fun q => hc (cond.2 q)]
    exact Lt.Ok.pos rfl (Lt.Ok.ret ⟨oldE, rfl, by decide⟩)
end Go.Lt.P10
