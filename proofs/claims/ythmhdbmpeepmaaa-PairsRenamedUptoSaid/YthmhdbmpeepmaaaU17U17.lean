/- PLAIN LAWS OF WHAT IS COMPUTED, for the statement 'PairsRenamed'. Nothing is asked of the input. -/
import Derived.Test.YthmhdbmpeepmaaaU17URrE
import Derived.Test.YthmhdbmpeepmaaaLB
import Derived.Test.YthmhdbmpeepmaaaU17URrL
import Derived.Test.YthmhdbmpeepmaaaU17URrS
import Derived.Test.YthmhdbmpeepmaaaU17URrV
import Derived.Test.YthmhdbmpeepmaaaU17UAll0
import Derived.Test.YthmhdbmpeepmaaaU17UAllP
import Derived.Test.YthmhdbmpeepmaaaU17UAwk
import Derived.Test.YthmhdbmpeepmaaaU17UCmp
import Derived.Test.YthmhdbmpeepmaaaU17URd
set_option linter.unusedVariables false
set_option linter.unusedSimpArgs false
namespace Go.Lt.P8
open Go Go.Lt Go.Proofs
/-- the comparison of this law's own -/
theorem says67 (k : Nat) : CmpSays (app (k + 1)) (.fn 67 [] []) := by
  intro H p q
  show Ok ((r67 p.1 p.2 q.1 q.2 H).map fun p => (AV.int .i64 p.1, p.2)) _
  have h : Ok (r67 p.1 p.2 q.1 q.2 H) fun c H' => Gr H H' ∧ c = cmpP p q := by
    unfold r67
    refine Ok.lt ?_
    have n1 : (H.push (.cells [.int .i64 p.1, .int .i64 p.2] false)).n = H.n + 1 := by simp
    have b0 : ((H.push (.cells [.int .i64 p.1, .int .i64 p.2] false)).push (.cells [.int .i64 q.1, .int .i64 q.2] false)).get H.n = some (.cells (encs [p.1, p.2]) false) := by rw [Hp.get_push_old _ _ (by simp), Hp.get_push_new]; rfl
    have b1 : ((H.push (.cells [.int .i64 p.1, .int .i64 p.2] false)).push (.cells [.int .i64 q.1, .int .i64 q.2] false)).get (H.push (.cells [.int .i64 p.1, .int .i64 p.2] false)).n = some (.cells (encs [q.1, q.2]) false) := by rw [Hp.get_push_new]; rfl
    refine Ok.bind (r50_ok (l := [p.1, p.2]) (l' := [q.1, q.2]) (.of_get b0 rfl rfl (Nat.le_refl _) (.inl rfl) rfl) (.of_get b1 rfl rfl (Nat.le_refl _) (.inl rfl) rfl) (by simp)) fun c H' ⟨e, hc⟩ => Ok.ret ⟨by rw [e]; exact (Gr.push _ _).trans (.push _ _), ?_⟩
    rw [hc]
    unfold cmpP cmpI
    rw [cmpL, cmpL, cmpL]
    by_cases a : p.1 < q.1
    · simp [a]
    · by_cases b : q.1 < p.1
      · simp [a, b]
      · simp [a, b]
  obtain ⟨c, H', e, g, rfl⟩ := h
  rw [e]
  exact Ok.ret ⟨g, rfl⟩
def nmF (name : List Int) (x : Int) : Int := name.getD x.toNat 0
theorem names_of {n : Nat} {name : List Int} (h : (∀ i (h : i < name.length), 0 ≤ name[i] ∧ name[i] < name.length) ∧ name.Nodup) (hl : name.length = 2 * n) : Names n (nmF name) := by
  have e : ∀ x : Int, 0 ≤ x → x < 2 * (n : Int) → ∃ h : x.toNat < name.length, nmF name x = name[x.toNat] := fun x h0 h1 => by
    refine ⟨by omega, ?_⟩
    unfold nmF
    rw [List.getD_eq_getElem?_getD, List.getElem?_eq_getElem (by omega)]; rfl
  refine ⟨fun x h0 h1 => ?_, fun x y a b c d he => ?_⟩
  · obtain ⟨k, ek⟩ := e x h0 h1
    have := h.1 _ k
    omega
  · obtain ⟨k, ek⟩ := e x a b
    obtain ⟨m, em⟩ := e y c d
    rw [ek, em] at he
    have := nodup_inj h.2 k m he
    omega
theorem inner17 {n : Nat} {name : List Int} (hnm : Names n (nmF name)) (hnl : name.length = 2 * n) (hn : n ≤ 4) {Hb : Hp} {v2 : Sl} (hname : SL Hb v2 name) {v3 x v5 : Sl} {v1 v6 v7 : Int} {kt : Int → Sl → Sl → Sl → Int → Int → Hp → Option (Bool × Hp)} {r : List Pr} (hr : r.length ≤ 12) (hin : ∀ p ∈ r, inP n p) {H : Hp} (g : Gr Hb H) (ho : Own H x r) (hx : Hb.n ≤ x.b)
    (k : ∀ r' H', Own H' x r' → Only x.b H H' → Renamed (nmF name) r r' → Ok (kt v1 v2 v3 v5 v6 (w64 (v7 + 1)) H') T) :
    Ok (r17_l3 (app 10) kt FUEL v1 v2 v3 x v5 v6 v7 x (x.len : Int) 0 H) T := by
  have hlen := ho.len
  rw [hlen]
  refine Ok.loop (L := fun K (s : Int) H' => r17_l3 (app 10) kt K v1 v2 v3 x v5 v6 v7 x r.length s H') (fun m s H' => ∃ i : Nat, s = i ∧ i + m = r.length ∧ Only x.b H H' ∧ Own H' x ((r.take i).map (ren (nmF name)) ++ r.drop i)) ?_ FUEL r.length 0 H (by unfold FUEL; omega) ⟨0, rfl, by omega, .refl _ _, by simpa using ho⟩
  rintro K m s H1 ⟨i, rfl, hm, g1, o1⟩ ih
  try dsimp only at *
  rw [r17_l3]
  by_cases h : i < r.length
  · have hp := hin _ (List.getElem_mem h)
    have hp' := hp
    unfold inP at hp'
    have hq : ((r.take i).map (ren (nmF name)) ++ r.drop i)[i]'(by simp; omega) = r[i] := by
      rw [List.getElem_append_right (by simp; omega)]
      simp [show min i r.length = i by omega]
    have gg : Gr Hb H1 := g1.gr g hx
    have s1 := o1.sl
    have l0 := s1.ldI (i := i) (j := 0) (n := r[i].1) (by simp; omega) (by rw [hq]; rfl)
    have l1 := s1.ldI (i := i) (j := 1) (n := r[i].2) (by simp; omega) (by rw [hq]; rfl)
    refine Ok.pos (by omega) (Ok.ck (by omega) (Ok.ld l0 (Ok.ld l1 ?_)))
    obtain ⟨D, hD, hD', gD, nD⟩ := sts2 H1 (.int .i64 r[i].1) (.int .i64 r[i].2) (.int .i64 0) (.int .i64 0)
    have q0 : D.ldI .i64 H1.n (0 + (0 : Int).toNat * 1) = some r[i].1 := ldI_get hD' rfl
    have q1 : D.ldI .i64 H1.n (0 + (1 : Int).toNat * 1) = some r[i].2 := ldI_get hD' rfl
    obtain ⟨a, ha⟩ : ∃ a : Nat, r[i].1 = a := ⟨r[i].1.toNat, by omega⟩
    obtain ⟨b, hb⟩ : ∃ b : Nat, r[i].2 = b := ⟨r[i].2.toNat, by omega⟩
    have hnl2 := hname.len
    have sn := hname.gr (gg.trans gD)
    have na : nmF name r[i].1 = name[a]'(by omega) := by unfold nmF; rw [ha, Int.toNat_natCast, List.getD_eq_getElem?_getD, List.getElem?_eq_getElem (by omega)]; rfl
    have nb : nmF name r[i].2 = name[b]'(by omega) := by unfold nmF; rw [hb, Int.toNat_natCast, List.getD_eq_getElem?_getD, List.getElem?_eq_getElem (by omega)]; rfl
    have m0 : D.ldI .i64 v2.b (v2.o + (r[i].1 : Int).toNat * 1) = some (nmF name r[i].1) := by rw [na, ha]; exact sn.ldI (i := a) (j := 0) (by omega) rfl
    have m1 : D.ldI .i64 v2.b (v2.o + (r[i].2 : Int).toNat * 1) = some (nmF name r[i].2) := by rw [nb, hb]; exact sn.ldI (i := b) (j := 0) (by omega) rfl
    refine Ok.ld hD (Ok.ld q0 (Ok.ck (by omega) (Ok.ld m0 (Ok.ld q1 (Ok.ck (by omega) (Ok.ld m1 (Ok.ck (by omega) ?_)))))))
    have oD := o1.gr gD
    refine oD.put (j := i) (by simp; omega) (ren (nmF name) r[i]) rfl rfl fun H2 o2 g2 n2 => ?_
    rw [w64_succ (by omega)]
    refine ih (m - 1) _ H2 (by omega) ⟨i + 1, rfl, by omega, g1.trans ((Gr.only gD).trans g2), ?_⟩
    have e : ((r.take i).map (ren (nmF name)) ++ r.drop i).set i (ren (nmF name) r[i]) = (r.take (i + 1)).map (ren (nmF name)) ++ r.drop (i + 1) := by
      rw [List.set_append_right _ _ (by simp; omega), List.take_succ_eq_append_getElem h, List.drop_eq_getElem_cons h, List.map_append, List.length_map, List.length_take, show i - min i r.length = 0 by omega, List.set_cons_zero, List.append_assoc]
      rfl
    rw [← e]
    exact o2
  · have : i = r.length := by omega
    subst this
    rw [List.take_length, List.drop_length, List.append_nil] at o1
    refine Ok.neg (by omega) (Ok.bind (r66_ok (k := 9) (says67 9) (by simpa using hr) o1) fun _ H2 ⟨q', o2, g2, hp, hs⟩ => ?_)
    exact k q' H2 o2 (g1.trans g2) ⟨hp, hs⟩
theorem outer17 {n : Nat} {name : List Int} (hnm : Names n (nmF name)) (hnl : name.length = 2 * n) (hn1 : 1 ≤ n) (hn : n ≤ 4) {Hb H : Hp} {v2 w : Sl} (hname : SL Hb v2 name) (g : Gr Hb H) {ws : List Sl} {ls : List (List Pr)} (hV : RoundsV n ls []) (hl : ls.length = 2 * n - 1)
    (ha : AccS Hb.n H w ws ls) (hs : Sep (H.hide w) Hb.n ws ls) :
    Ok (r17_l1 (app 10) FUEL n v2 w w (w.len : Int) 0 H) T := by
  have hwl := ha.sll.len
  have hvl := ha.2.1
  rw [hwl]
  refine Ok.loop (L := fun K (s : Int) H' => r17_l1 (app 10) K n v2 w w ls.length s H') (fun m s H' => ∃ i : Nat, s = i ∧ i + m = ls.length ∧ Gr Hb H' ∧ ∃ ms, ms.length = ls.length ∧ Acc Hb.n 1 H' w (ws.map .sl) ∧ Sep (H'.hide w) Hb.n ws ms ∧ (∀ j (h : j < ls.length) (h' : j < ms.length), j < i → Renamed (nmF name) ls[j] ms[j]) ∧ (∀ j (h : j < ls.length) (h' : j < ms.length), i ≤ j → ms[j] = ls[j])) ?_ FUEL ls.length 0 H (by unfold FUEL; omega) ⟨0, rfl, by omega, g, ls, rfl, ha.1, hs, fun j _ _ h => by omega, fun j _ _ _ => rfl⟩
  rintro K m s H1 ⟨i, rfl, hm, g1, ms, hml, h1, hS, hd, ht⟩ ih
  try dsimp only at *
  have hwn : w.nil = false := by
    rcases h1 with ⟨rfl, e⟩ | ⟨e, _⟩
    · simp [nilS] at hwl; omega
    · exact e
  have nonnil : ∀ j (hj : j < ws.length), ws[j].nil = false := fun j hj => by
    have := (ha.2.2 j hj (by omega)).nonnil
    apply this
    intro e
    have := (hV.each _ (List.getElem_mem (show j < ls.length by omega))).1
    rw [e] at this
    simp at this; omega
  rw [r17_l1]
  by_cases h : i < ls.length
  · have hiw : i < ws.length := by omega
    have hld : H1.ldSl w.b (w.o + i * 1) = some ws[i] := by
      have := h1.cs.ld (i := i) (by simp; omega)
      simp only [List.getElem_map] at this
      simp [Hp.ldSl, this, AV.asSl]
    obtain ⟨o1, lo⟩ := hS.1 i hiw (by omega) (nonnil i hiw)
    rw [ht i h (by omega) (Nat.le_refl _)] at o1
    obtain ⟨e1, e2⟩ := hide_get o1.get
    have o1' : Own H1 ws[i] ls[i] := ⟨o1.nn, o1.o, o1.len, o1.cap, o1.opn, e1⟩
    have hne := e2 hwn
    obtain ⟨a, b, c, d⟩ := hV.each _ (List.getElem_mem h)
    refine Ok.pos (by omega) (Ok.ck (by omega) (Ok.ld hld ?_))
    refine inner17 hnm hnl hn hname (by omega) c g1 o1' lo fun r' H2 o2 g2 hren => ?_
    rw [w64_succ (by omega)]
    refine ih (m - 1) _ H2 (by omega) ⟨i + 1, rfl, by omega, g2.gr g1 lo, ms.set i r', by simpa using hml, h1.keep (fun hn => g2.2 _ (h1.lt hn) (fun e => hne e.symm)), ?_, fun j hj hj' hji => ?_, fun j hj hj' hji => ?_⟩
    · refine ⟨fun j hj hj' hn => ?_, hS.2⟩
      by_cases ej : j = i
      · subst ej
        refine ⟨?_, lo⟩
        rw [List.getElem_set_self]
        exact ⟨o2.nn, o2.o, o2.len, o2.cap, o2.opn, by rw [get_hide (fun _ => hne)]; exact o2.get⟩
      · obtain ⟨oj, lj⟩ := hS.1 j hj (by omega) hn
        obtain ⟨f1, f2⟩ := hide_get oj.get
        rw [List.getElem_set_ne (fun e => ej e.symm)]
        have hb := hS.2 j i hj hiw hn (nonnil i hiw) ej
        exact ⟨⟨oj.nn, oj.o, oj.len, oj.cap, oj.opn, by rw [get_hide f2, g2.2 _ (Hp.get_lt f1) hb]; exact f1⟩, lj⟩
    · by_cases ej : j = i
      · subst ej
        rw [List.getElem_set_self]; exact hren
      · rw [List.getElem_set_ne (fun e => ej e.symm)]
        exact hd j hj (by simpa using hj') (by omega)
    · rw [List.getElem_set_ne (by omega)]
      exact ht j hj (by simpa using hj') (by omega)
  · have hV2 : RoundsV n ms [] := hV.renamed hnm hml.symm fun j a b => hd j a b (by omega)
    have hsll : SLL H1 w ws ms := by
      refine ⟨h1.cs, ?_, ?_, fun e => (by rw [hwn] at e; cases e), ⟨by omega, fun j a b => ?_⟩⟩
      · rcases h1 with ⟨rfl, e⟩ | ⟨_, _, _, e, _⟩
        · simp [nilS]
        · omega
      · rcases h1 with ⟨rfl, e⟩ | ⟨_, _, e, _⟩
        · simp [nilS]
        · exact .inr e
      · exact (hS.1 j a b (nonnil j a)).1.sl.sub hide_sub
    refine Ok.neg (by omega) (Ok.bind (r62_ok (n := (n : Int)) hsll (by omega) (fun l hl' => by have := (hV2.each l hl').1; omega)) fun r H2 ⟨g2, hr⟩ => ?_)
    subst hr
    have hok : isRF n ms [] = true := (isRF_iff ms [] (by simp)).2 hV2
    rw [if_pos (show 1 ≤ (n : Int) ∧ (n : Int) ≤ 4 by omega), Int.toNat_natCast]
    refine Ok.pos ?_ (Ok.pos rfl (Ok.bind awake_ok fun b _ hb => Ok.ret hb))
    rw [hok, decide_eq_true (by omega)]
    rfl
theorem renamedLaw {n : Int} {H : Hp} {v w : Sl} {vs : List Sl} {ls : List (List Pr)} {name : List Int} (hv : SLL H v vs ls) (hw : SL H w name) (hb : ls.length < 9223372036854775808) (hb2 : name.length < 4294967296) : Ok (r17 (app 10) n v w H) T := by
  unfold r17
  refine Ok.bind (r63_ok hv hb) fun v2 H2 ⟨g2, ws, h2, _⟩ => ?_
  refine Ok.bind (r62_cut (n := n) (H0 := H) h2.sll) fun r H3 ⟨g3, hr⟩ => ?_
  subst hr
  have g13 := g2.trans g3
  by_cases hn : 1 ≤ n ∧ n ≤ 4
  · rw [if_pos hn]
    refine Ok.neg (by simp) (Ok.neg (by omega) ?_)
    rw [decide_eq_false (show ¬ 4 < n by omega)]
    obtain ⟨n, rfl⟩ : ∃ m : Nat, n = m := ⟨n.toNat, by omega⟩
    rw [Int.toNat_natCast]
    have hre : ∀ H', Gr H H' → Ok (r64 n v H') fun b H'' => Gr H' H'' ∧ b = okR n ls := fun H' g => (r64_ok (by omega) (by omega) (hv.gr g)).mono fun b H'' ⟨a, c⟩ => ⟨a, by rw [c]; unfold okR; rw [isR_eq]⟩
    unfold r17_j0
    refine Ok.neg (by simp) ?_
    cases hok : okR n ls with
    | false =>
      refine Ok.neg (by simp) ?_
      unfold r17_j2
      refine Ok.pos rfl (Ok.bind (hre _ g13) fun b H4 ⟨_, hb4⟩ => ?_)
      rw [hok] at hb4
      subst hb4
      exact Ok.pos rfl (Ok.bind awake_ok fun b _ hb => Ok.ret hb)
    | true =>
      refine Ok.pos rfl (Ok.bind (hre _ g13) fun b H4 ⟨g4, hb4⟩ => ?_)
      rw [hok] at hb4
      subst hb4
      refine Ok.pos rfl ?_
      have g14 := g13.trans g4
      rw [show w64 (2 * (n : Int)) = ((2 * n : Nat) : Int) by rw [w64_id (by omega) (by omega)]; push_cast; rfl]
      refine Ok.bind (r65_ok (hw.gr g14) hb2 (n := 2 * n) (by omega)) fun b H5 ⟨g5, hb5⟩ => ?_
      have g15 := g14.trans g5
      cases b with
      | false =>
        unfold r17_j2
        refine Ok.pos rfl (Ok.bind (hre _ g15) fun b H6 ⟨_, hb6⟩ => ?_)
        rw [hok] at hb6
        subst hb6
        exact Ok.pos rfl (Ok.bind awake_ok fun b _ hb => Ok.ret hb)
      | true =>
        have hnames := hb5.1 rfl
        unfold r17_j2
        refine Ok.neg (by simp) (Ok.bind (r63_ok (hv.gr g15) hb) fun v6 H6 ⟨g6, ws6, h6, s6⟩ => ?_)
        unfold okR at hok
        rw [Bool.and_eq_true, decide_eq_true_iff] at hok
        have hV := (isRF_iff ls [] (by simp)).1 hok.2
        have hcut : cutR ls = ls := by
          unfold cutR
          rw [List.take_of_length_le (by omega)]
          conv => rhs; rw [← List.map_id ls]
          exact List.map_congr_left fun r hr => by
            have := (hV.each r hr).1
            rw [List.take_of_length_le (by omega)]; rfl
        rw [hcut] at h6 s6
        have hl := hnames.2
        have hnm := hnames.1
        rw [← hl] at hnm
        have := (all_pins (l := name)).1 ⟨hnm, rfl⟩
        exact outer17 (names_of this hl) hl (by omega) (by omega) (hw.gr g15) g6 hV hok.1 h6 s6
  · rw [if_neg hn]
    refine Ok.pos (by simp) ?_
    unfold r17_j0
    exact Ok.pos rfl (Ok.pos rfl (Ok.bind awake_ok fun b _ hb => Ok.ret hb))
theorem lawCall17 (H : Hp) (xs : List AV) (_ : NoOwn H) (h : B.RdAs 1048576 H [.int .i64, .sl (.sl (.rep 2 (.int .i64))), .sl (.int .i64)] xs) : ∃ H1, CallSim Try.prog 17 xs H (.bool true) H1 := by
  obtain ⟨x, _, rfl, hx, y, _, rfl, hy, z, _, rfl, hz, rfl⟩ := h
  obtain ⟨a0, e0, _⟩ : B.Rd 1048576 H (.int .i64) [x] := hx
  injection e0 with e0
  subst e0
  obtain ⟨v, vs, ls, rfl, hv, hb, _⟩ := rd_sll (enc_rep2 enc_int) (B.weak (by decide) hy)
  obtain ⟨w, name, rfl, hw, hb2⟩ := B.rd_sl enc_int (by decide) hz
  obtain ⟨b, H1, h1, rfl⟩ := renamedLaw (n := a0) hv hw (by unfold maxLen at hb; omega) (by omega)
  exact ⟨H1, sim17 (happ := appSim 10) h1⟩
end Go.Lt.P8
