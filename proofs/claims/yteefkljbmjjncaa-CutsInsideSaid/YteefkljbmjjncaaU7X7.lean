/- PLAIN LAWS OF WHAT IS COMPUTED, for the statement 'CutsInside'. Nothing is asked of the input. -/
import Derived.Test.YteefkljbmjjncaaU7XTk
import Derived.Test.YteefkljbmjjncaaLB
set_option linter.unusedVariables false
set_option linter.unusedSimpArgs false
namespace Go.Lt.P2
open Go Go.Lt Go.Proofs
theorem okq7 {p : List Sd} {m : List Pr} : okP (p.take 9) (m.take 9) ↔ okP p m := by
  by_cases h1 : p.length ≤ 9
  · rw [List.take_of_length_le h1]
    by_cases h2 : m.length ≤ 9
    · rw [List.take_of_length_le h2]
    · constructor
      · intro c; have a := c.2.1; have b := c.1.1.2; rw [List.length_take] at a; omega
      · intro c; have a := c.2.1; have b := c.1.1.2; omega
  · constructor
    · intro c; have b := c.1.1.2; rw [List.length_take] at b; omega
    · intro c; have b := c.1.1.2; omega
theorem insideLaw {H : Hp} {v vm : Sl} {p : List Sd} {m : List Pr} (hv : SL H v p) (hm : SL H vm m) (hb : p.length < 9223372036854775808) (hb2 : m.length < 9223372036854775808) (x : Pa) (kk : Int) : Ok (r7 (appA 20) v x.1.1 x.1.2 x.2.1 x.2.2 vm kk H) fun r _ => r = true := by
  unfold r7
  have l1 : (p.take 9).length ≤ 1000 := by rw [List.length_take]; omega
  have l2 : (m.take 9).length ≤ 1000 := by rw [List.length_take]; omega
  have awkt : ∀ (X : Hp), Ok ((appA 20 21 [] X).bind fun p => (p.1.asB).bind fun x => some (x, p.2)) fun r _ => r = true := fun X => Ok.ld (awk 20 _) (Ok.ld rfl (Ok.ret rfl))
  refine Ok.box (.nil H) fun A gA c => Ok.bind (r18_ok (hv.gr gA) hb) fun w B ⟨gB, hw⟩ => ?_
  have c0 := c
  have c := c.gr gB
  refine Ok.cld c (.head _) rfl (Ok.cld c (.head _) rfl (Ok.cld c (.head _) rfl (Ok.cld c (.head _) rfl (Ok.bind (r17_ok (k := 16) (x := x) hw l1) fun y C ⟨gC, hy1, hy2⟩ => ?_))))
  have c := c.gr gC
  refine Ok.cck c0 (.head _) rfl (Ok.cck c0 (.head _) rfl (Ok.cck c0 (.head _) rfl (Ok.cck c0 (.head _) rfl ?_)))
  by_cases hpx : plateP p ∧ ptP x
  case neg =>
    have e := hy2 fun q => hpx ⟨plate_take.1 q.1, q.2⟩
    subst e
    unfold r7_j0
    exact Ok.pos (by simp) (Ok.pos rfl (Ok.pos rfl (awkt _)))
  obtain ⟨hp, hx⟩ := hpx
  rw [plate_eq hp] at hy1
  have hy := hy1 ⟨hp, hx⟩
  have h6 := hp.1.2
  have hsd := hp.2.1
  have hx' := hx
  unfold ptP frP at hx'
  refine Ok.neg (by rw [hy.2]; simp) (Ok.bind (r19_ok (hv.gr c.g)) fun z D ⟨gD, hz⟩ => ?_)
  subst hz
  rw [decide_eq_true hp]
  have c := c.gr gD
  refine Ok.pos rfl (Ok.cld c (.head _) rfl (Ok.cld c (.head _) rfl (Ok.cld c (.head _) rfl (Ok.cld c (.head _) rfl (Ok.own r20_ok fun _ => ?_)))))
  rw [decide_eq_true hx]
  unfold r7_j0
  have hvl := hv.len
  refine Ok.neg (by simp) ?_
  rw [hvl]
  have bnd : ∀ (a b cc N M : Int), (-N ≤ a ∧ a ≤ N) → (-N ≤ b ∧ b ≤ N) → (-M ≤ cc ∧ cc ≤ M) → N ≤ 3000 → M ≤ 30000 → ((-30000000 ≤ a * x.1.1 ∧ a * x.1.1 ≤ 30000000) ∧ (-30000000 ≤ b * x.2.1 ∧ b * x.2.1 ≤ 30000000) ∧ -3000000 ≤ cc * x.1.2 ∧ cc * x.1.2 ≤ 3000000) ∧ (-3000000000 ≤ a * x.1.1 * x.2.2 ∧ a * x.1.1 * x.2.2 ≤ 3000000000) ∧ (-3000000000 ≤ b * x.2.1 * x.1.2 ∧ b * x.2.1 * x.1.2 ≤ 3000000000) ∧ -300000000 ≤ cc * x.1.2 * x.2.2 ∧ cc * x.1.2 * x.2.2 ≤ 300000000 := fun a b cc N M ha hb' hc' hN hM => by
    have n1 : -30000000 ≤ a * x.1.1 ∧ a * x.1.1 ≤ 30000000 := mul_bd (A := 3000) (B := 10000) (by omega) (by omega) (by omega) (by omega)
    have n2 : -30000000 ≤ b * x.2.1 ∧ b * x.2.1 ≤ 30000000 := mul_bd (A := 3000) (B := 10000) (by omega) (by omega) (by omega) (by omega)
    have n3 : -3000000 ≤ cc * x.1.2 ∧ cc * x.1.2 ≤ 3000000 := mul_bd (A := 30000) (B := 100) (by omega) (by omega) (by omega) (by omega)
    have n4 : -3000000000 ≤ a * x.1.1 * x.2.2 ∧ a * x.1.1 * x.2.2 ≤ 3000000000 := mul_bd (A := 30000000) (B := 100) (by omega) (by omega) (by omega) (by omega)
    have n5 : -3000000000 ≤ b * x.2.1 * x.1.2 ∧ b * x.2.1 * x.1.2 ≤ 3000000000 := mul_bd (A := 30000000) (B := 100) (by omega) (by omega) (by omega) (by omega)
    have n6 : -300000000 ≤ cc * x.1.2 * x.2.2 ∧ cc * x.1.2 * x.2.2 ≤ 300000000 := mul_bd (A := 3000000) (B := 100) (by omega) (by omega) (by omega) (by omega)
    exact ⟨⟨n1, n2, n3⟩, n4, n5, n6⟩
  refine Ok.loop (L := fun K (s : Int) H2 => r7_l1 (appA 20) K v vm kk H.n y.1 v p.length s H2) (fun mm s H' => Cx H H' [(H.n, [.int .i64 x.1.1, .int .i64 x.1.2, .int .i64 x.2.1, .int .i64 x.2.2])] ∧ ∃ i : Nat, s = i ∧ i + mm = p.length) ?_ FUEL p.length 0 D (by unfold FUEL; omega) ⟨c, 0, rfl, by omega⟩
  rintro K mm s H1 ⟨c, i, rfl, hmm⟩ ih
  try dsimp only at *
  rw [r7_l1]
  by_cases h : i < p.length
  · have hg := hv.gr c.g
    have mi := List.getElem_mem h
    have hsi := hsd _ mi
    have l0 := hg.ldI (i := i) (j := 0) h rfl
    have l1 := hg.ldI (i := i) (j := 1) h rfl
    have l2 := hg.ldI (i := i) (j := 2) h rfl
    have hin : y.1 = true → lqs p[i] (paq x) := fun q => (hy.1.1 q).1 _ mi
    generalize p[i] = u at *
    unfold sideP at hsi
    refine Ok.pos (by omega) (Ok.ck (by omega) (Ok.ld l0 (Ok.ld l1 (Ok.ld l2 (Ok.alo c fun E gE c => ?_)))))
    have nxt : Ok (r7_j2 (appA 20) (fun v1_ v2_ v3_ v4_ v5_ v6_ v7_ v8_ H_ => r7_l1 (appA 20) K v1_ v2_ v3_ v4_ v5_ v6_ v7_ v8_ H_) v vm kk H.n y.1 v p.length i false E) fun r _ => r = true := by
      unfold r7_j2
      rw [w64_succ (by omega)]
      exact Ok.neg (by simp) (ih (mm - 1) _ E (by omega) ⟨c.weak (.cons _ (.refl _)), i + 1, rfl, by omega⟩)
    refine Ok.ite (fun hc => ?_) fun hc => ?_
    · obtain ⟨⟨n1, n2, n3⟩, n4, n5, n6⟩ := bnd u.1 u.2.1 u.2.2 4 40 hsi.1 hsi.2.1 hsi.2.2.2 (by decide) (by decide)
      refine Ok.cld c (.head _) rfl (Ok.cld c (.tail _ (.head _)) rfl (Ok.cld c (.tail _ (.head _)) rfl (Ok.cld c (.head _) rfl (Ok.cld c (.tail _ (.head _)) rfl (Ok.cld c (.tail _ (.head _)) rfl (Ok.cld c (.head _) rfl (Ok.cld c (.tail _ (.head _)) rfl (Ok.cld c (.tail _ (.head _)) rfl ?_))))))))
      rw [w64_id (n := u.1 * x.1.1) (by omega) (by omega), w64_id (n := u.2.1 * x.2.1) (by omega) (by omega), w64_id (n := u.2.2 * x.1.2) (by omega) (by omega), w64_id (n := u.1 * x.1.1 * x.2.2) (by omega) (by omega), w64_id (n := u.2.1 * x.2.1 * x.1.2) (by omega) (by omega), w64_id (n := u.2.2 * x.1.2 * x.2.2) (by omega) (by omega), w64_id (by omega) (by omega)]
      have e3 : lqs u (paq x) ↔ u.1 * x.1.1 * x.2.2 + u.2.1 * x.2.1 * x.1.2 ≤ u.2.2 * x.1.2 * x.2.2 := lqs_dv2 (by omega) (by omega)
      have := e3.1 (hin hc)
      rw [decide_eq_false (by omega)]
      rw [hc] at nxt
      exact nxt
    · have hf : y.1 = false := by simpa using hc
      rw [hf] at nxt
      exact nxt
  · refine Ok.neg (by omega) (Ok.bind (r18_ok (hv.gr c.g) hb) fun w2 E ⟨gE, hw2⟩ => ?_)
    have c := c.gr gE
    refine Ok.bind (r28_ok (hm.gr c.g) hb2) fun w3 F ⟨gF, hw3⟩ => ?_
    have c := c.gr gF
    refine Ok.bind (r27_ok (k := 19) (hw2.gr gF) hw3 l1 l2) fun s G ⟨gG, hs⟩ => ?_
    have c := c.gr gG
    refine Ok.alo c fun I gI c => ?_
    by_cases hok : okP p m
    case neg =>
      rw [if_neg (fun q => hok (okq7.1 q))] at hs
      subst hs
      exact Ok.pos (by simp) (Ok.pos rfl (awkt _))
    rw [if_pos (okq7.2 hok)] at hs
    have hml : m.take 9 = m := List.take_of_length_le (by have := hok.2.1; omega)
    rw [hml, plate_eq hp] at hs
    by_cases hc : (cutQ p m).2.2.2 = true
    case neg =>
      rw [if_neg hc] at hs
      subst hs
      exact Ok.pos (by simp) (Ok.neg (by simp) (Ok.pos rfl (awkt _)))
    rw [if_pos hc] at hs
    subst hs
    have bd := cut_bd hok hc
    have hk : y.1 = true → lqs ((cutQ p m).1, (cutQ p m).2.1, (cutQ p m).2.2.1) (paq x) := fun q => inside_cut hok hc (hy.1.1 q).1 (hy.1.1 q).2
    have hval : (cutQ p m).2.2.2 = true := hc
    generalize hq : cutQ p m = cq at *
    obtain ⟨ca, cb, cc, cf⟩ := cq
    dsimp only at bd hk hval ⊢
    have ht0 := Int.tmod_nonneg 50 (wrapU (n := kk))
    have ht1 := Int.tmod_lt_of_pos (IntKind.wrap .u64 kk) (show (0 : Int) < 50 by decide)
    have fin : Ok (r7_j3 (appA 20) v vm kk G.n false I) fun r _ => r = true := by
      unfold r7_j3
      have cI := c
      refine Ok.neg (by simp) (Ok.bind (r18_ok (hv.gr c.g) hb) fun w4 J1 ⟨g1, hw4⟩ => ?_)
      have c := c.gr g1
      have cJ1 := c
      refine Ok.bind (r28_ok (hm.gr c.g) hb2) fun w5 J2 ⟨g2, hw5⟩ => ?_
      have c := c.gr g2
      rw [plate_eq hp] at hw4
      rw [hml] at hw5
      refine Ok.cld c (.head _) rfl (Ok.cld c (.head _) rfl (Ok.cld c (.head _) rfl ?_))
      rw [w64_id (n := Int.tmod (IntKind.wrap .u64 kk) 50) (by omega) (by omega)]
      generalize Int.tmod (IntKind.wrap .u64 kk) 50 = mo at *
      rw [w64_id (n := cc + mo) (by omega) (by omega)]
      refine Ok.bind (r29_ok (k := 19) (s := (ca, cb, cc + mo)) (hw4.gr g2) hw5 (by omega) (by have := hok.2.1; omega)) fun a1 J3 ⟨g3, ha1⟩ => ?_
      have c := c.gr g3
      have cJ3 := c
      refine Ok.cck cI (.head _) rfl (Ok.cck cI (.head _) rfl (Ok.cck cI (.head _) rfl (Ok.cck cJ1 (.head _) rfl (Ok.cck cJ1 (.head _) rfl (Ok.cck cJ1 (.head _) rfl ?_)))))
      refine Ok.bind (r18_ok (hv.gr c.g) hb) fun w6 J4 ⟨g4, hw6⟩ => ?_
      have c := c.gr g4
      have cJ4 := c
      refine Ok.bind (r28_ok (hm.gr c.g) hb2) fun w7 J5 ⟨g5, hw7⟩ => ?_
      have c := c.gr g5
      rw [plate_eq hp] at hw6
      rw [hml] at hw7
      refine Ok.cld c (.head _) rfl (Ok.cld c (.head _) rfl (Ok.cld c (.head _) rfl ?_))
      rw [w64_id (n := cc - 1) (by omega) (by omega), w64_id (n := cc - 1 - mo) (by omega) (by omega)]
      refine Ok.bind (r29_ok (k := 19) (s := (ca, cb, cc - 1 - mo)) (hw6.gr g5) hw7 (by omega) (by have := hok.2.1; omega)) fun a2 J6 ⟨g6, ha2⟩ => ?_
      refine Ok.cck cJ3 (.head _) rfl (Ok.cck cJ3 (.head _) rfl (Ok.cck cJ3 (.head _) rfl (Ok.cck cJ4 (.head _) rfl (Ok.cck cJ4 (.head _) rfl (Ok.cck cJ4 (.head _) rfl ?_)))))
      rw [if_pos hok, hq, decide_eq_true (show _ ∧ _ from ⟨hval, rfl, rfl, by dsimp only; omega⟩)] at ha1
      rw [if_pos hok, hq, decide_eq_false (show ¬ _ from fun w => by have := w.2.2.2; dsimp only at this; omega)] at ha2
      subst ha1 ha2
      exact Ok.pos rfl (Ok.neg (by simp) (Ok.pos rfl (Ok.pos rfl (awkt _))))
    refine Ok.neg (by simp) (Ok.cld c (.head _) rfl (Ok.neg (by dsimp only; omega) (Ok.cld c (.head _) rfl (Ok.neg (by dsimp only; omega) (Ok.cld c (.head _) rfl (Ok.neg (by dsimp only; omega) (Ok.cld c (.head _) rfl (Ok.neg (by dsimp only; omega) (Ok.cld c (.head _) rfl (Ok.neg (by dsimp only; omega) (Ok.cld c (.head _) rfl (Ok.neg (by dsimp only; omega) ?_))))))))))))
    refine Ok.ite (fun hin => ?_) fun _ => fin
    obtain ⟨⟨n1, n2, n3⟩, n4, n5, n6⟩ := bnd ca cb cc 3000 30000 (by omega) (by omega) (by omega) (by decide) (by decide)
    refine Ok.cld c (.head _) rfl (Ok.cld c (.tail _ (.head _)) rfl (Ok.cld c (.tail _ (.head _)) rfl (Ok.cld c (.head _) rfl (Ok.cld c (.tail _ (.head _)) rfl (Ok.cld c (.tail _ (.head _)) rfl (Ok.cld c (.head _) rfl (Ok.cld c (.tail _ (.head _)) rfl (Ok.cld c (.tail _ (.head _)) rfl ?_))))))))
    rw [w64_id (n := ca * x.1.1) (by omega) (by omega), w64_id (n := cb * x.2.1) (by omega) (by omega), w64_id (n := cc * x.1.2) (by omega) (by omega), w64_id (n := ca * x.1.1 * x.2.2) (by omega) (by omega), w64_id (n := cb * x.2.1 * x.1.2) (by omega) (by omega), w64_id (n := cc * x.1.2 * x.2.2) (by omega) (by omega), w64_id (by omega) (by omega)]
    have e3 : lqs (ca, cb, cc) (paq x) ↔ ca * x.1.1 * x.2.2 + cb * x.2.1 * x.1.2 ≤ cc * x.1.2 * x.2.2 := lqs_dv2 (by omega) (by omega)
    have := e3.1 (hk hin)
    rw [decide_eq_false (by omega)]
    exact fin
theorem lawCall7 (H : Hp) (xs : List AV) (_ : NoOwn H) (h : RdAs H [.sl (.pair (.int .i64) (.pair (.int .i64) (.pair (.int .i64) .unit))), .pair (.pair (.int .i64) (.pair (.int .i64) .unit)) (.pair (.pair (.int .i64) (.pair (.int .i64) .unit)) .unit), .sl (.pair (.int .i64) (.pair (.int .i64) .unit)), .int .i64] xs) : ∃ H1, CallSim Try.prog 7 xs H (.bool true) H1 := by
  obtain ⟨x, _, rfl, hx, y, _, rfl, hy, z, _, rfl, hzz, w, _, rfl, hw, rfl⟩ := h
  obtain ⟨v, l, rfl, hv, hb⟩ := rd_sl (enc_pair enc_int (enc_pair enc_int (enc_unit enc_int))) hx
  obtain ⟨zs, rfl, hz⟩ : ∃ zs, y = .agg zs ∧ Rd H (.pair (.pair (.int .i64) (.pair (.int .i64) .unit)) (.pair (.pair (.int .i64) (.pair (.int .i64) .unit)) .unit)) zs := hy
  obtain ⟨⟨⟨a, b⟩, c, d⟩, rfl⟩ := (enc_pair (enc_pair enc_int (enc_unit enc_int)) (enc_unit (enc_pair enc_int (enc_unit enc_int)))).2 H zs hz
  obtain ⟨vm, m, rfl, hm, hb2⟩ := rd_sl (enc_pair enc_int (enc_unit enc_int)) hzz
  obtain ⟨n, hn, _⟩ := hw
  injection hn with hn
  subst hn
  obtain ⟨r, H1, h1, rfl⟩ := insideLaw hv hm (by unfold maxLen at hb; omega) (by unfold maxLen at hb2; omega) ((a, b), (c, d)) n
  exact ⟨H1, sim7 (happ := appASim 20) h1⟩
end Go.Lt.P2
