/- PLAIN LAWS OF WHAT IS COMPUTED, for the statement 'ChestFork'. Nothing is asked of the input. -/
import Derived.Test.YtnigfapfghgmnaaGreatDoorU3CFp
import Derived.Test.YtnigfapfghgmnaaGreatDoorLB
set_option linter.unusedVariables false
set_option linter.unusedSimpArgs false
namespace Go.Lt.P10
open Go Go.Lt Go.Proofs
theorem wrapU {n : Int} : 0 ≤ IntKind.wrap .u64 n := by
  unfold IntKind.wrap
  simp [IntKind.signed, IntKind.bits]
  omega
theorem wrapU_id {n : Int} (h0 : 0 ≤ n) (h : n < 9223372036854775808) : IntKind.wrap .u64 n = n := by
  unfold IntKind.wrap
  simp [IntKind.signed, IntKind.bits]
  omega
/-- a number by a length -/
theorem umod (a : Int) {n : Nat} (h0 : 1 ≤ n) (h1 : n ≤ 1000000) : IntKind.wrap .u64 (n : Int) ≠ 0 ∧ ∃ q : Nat, q < n ∧ w64 (Int.tmod (IntKind.wrap .u64 a) (IntKind.wrap .u64 (n : Int))) = (q : Int) := by
  rw [wrapU_id (n := (n : Int)) (by omega) (by omega)]
  have hm0 : 0 ≤ Int.tmod (IntKind.wrap .u64 a) (n : Int) := Int.tmod_nonneg _ wrapU
  have hm1 : Int.tmod (IntKind.wrap .u64 a) (n : Int) < n := Int.tmod_lt_of_pos _ (by omega)
  rw [w64_id (by omega) (by omega)]
  exact ⟨by omega, (Int.tmod (IntKind.wrap .u64 a) (n : Int)).toNat, by omega, by omega⟩
theorem Chs.Fork_at (D : Chs) (q : Nat) (a b : Int) : Chs.Fork ⟨D.pages, q⟩ a b = D.Fork a b := by
  unfold Chs.Fork Chs.fork
  rw [Chs.way_at D q a.toNat, Chs.way_at D q b.toNat]
theorem ints_get {l : List Nat} {i : Nat} (h : i < l.length) : (ints l)[i]'(by rw [ints_len]; exact h) = (l[i] : Int) := by simp [ints]
theorem ints_ld {H : Hp} {v : Sl} {l : List Nat} (h : SL H v (ints l)) {i : Nat} (hi : i < l.length) : H.ldI .i64 v.b (v.o + i * 1) = some (l[i] : Int) := by
  have := h.ldI (i := i) (j := 0) (n := (l[i] : Int)) (by rw [ints_len]; exact hi) (by rw [ints_get hi]; rfl)
  exact this
section
variable {H : Hp} {c : Nat} {pv : Sl} {C : Chs} {t : Nat}
theorem Fork_in (C : Chs) {a b : Nat} (ha : a < C.pages.length) (hb : b < C.pages.length) : C.Fork (a : Int) (b : Int) = (((C.fork a b).1 : Int), 0) := by
  unfold Chs.Fork
  rw [if_pos (by omega)]
  simp only [Int.toNat_natCast]
/-- how far the two ways are the same -/
theorem r3_l5_ok {k : Nat} {x y : Sl} {a b : Nat} (h : ChAt H c pv C t) (hC : C.Ok) (ha : a < C.pages.length) (hb : b < C.pages.length) (hx : SL H x (ints (C.ways a))) (hy : SL H y (ints (C.ways b))) :
    Lt.Ok (r3_l5 (appA (k + 2)) FUEL (a : Int) c 0 (C.pages.length : Int) ((C.fork a b).1 : Int) x y 0 H) fun r _ => r = true := by
  have hm := hC.most
  have hlx := hx.len; have hly := hy.len
  rw [ints_len] at hlx hly
  have hla : (C.ways a).length = (C.way a).length + 1 := rfl
  have hlb : (C.ways b).length = (C.way b).length + 1 := rfl
  have hwa := Chs.way_len hC a
  have hwb := Chs.way_len hC b
  have hle := same_le (C.way a) (C.way b)
  have fin : ∀ K, Lt.Ok (r3_j7 (appA (k + 2)) K (a : Int) c 0 (C.pages.length : Int) ((C.fork a b).1 : Int) x y ((same (C.way a) (C.way b) : Nat) : Int) false H) fun r _ => r = true := fun K => by
    unfold r3_j7
    refine Lt.Ok.neg (by simp) (Lt.Ok.bind (Fork_ok h hC (a : Int) (C.pages.length : Int)) fun r A ⟨g, hr⟩ => ?_)
    have hF : C.Fork (a : Int) (C.pages.length : Int) = (0, 2) := by unfold Chs.Fork; rw [if_neg (by omega)]
    rw [hF] at hr
    subst hr
    have hxA := hx.gr g
    have hf := forkL_same (C.way a) (C.way b) 0
    have hi : same (C.way a) (C.way b) < (C.ways a).length := by omega
    have he : (C.ways a)[same (C.way a) (C.way b)] = (C.fork a b).1 := by
      have e0 : (0 :: C.way a) = C.ways a := rfl
      rw [e0, List.getElem?_eq_getElem hi] at hf
      injection hf
    refine Lt.Ok.ck (by omega) (Lt.Ok.ld (ints_ld hxA hi) ?_)
    refine Lt.Ok.pos (by rw [he]) (Lt.Ok.pos rfl ?_)
    rw [app13]
    exact Lt.Ok.ret rfl
  refine Lt.Ok.loop (L := fun K (s : Int) A => r3_l5 (appA (k + 2)) K (a : Int) c 0 (C.pages.length : Int) ((C.fork a b).1 : Int) x y s A) (fun m s A => ∃ j : Nat, s = (j : Int) ∧ j + m = same (C.way a) (C.way b) ∧ A = H) ?_ FUEL (same (C.way a) (C.way b)) 0 H (by unfold FUEL; omega) ⟨0, rfl, by omega, rfl⟩
  rintro K m s A ⟨j, rfl, hj, rfl⟩ ih
  rw [r3_l5, w64_id (n := (j : Int) + 1) (by omega) (by omega)]
  refine Lt.Ok.ite (fun h1 => Lt.Ok.ite (fun h2 => ?_) fun h2 => ?_) fun h1 => ?_
  · have e1 : ((j : Int) + 1).toNat = j + 1 := by omega
    rw [e1]
    refine Lt.Ok.ck (by omega) (Lt.Ok.ld (ints_ld hx (i := j + 1) (by omega)) (Lt.Ok.ck (by omega) (Lt.Ok.ld (ints_ld hy (i := j + 1) (by omega)) ?_)))
    have ex : (C.ways a)[j + 1]'(by omega) = (C.way a)[j]'(by omega) := rfl
    have ey : (C.ways b)[j + 1]'(by omega) = (C.way b)[j]'(by omega) := rfl
    rw [ex, ey]
    by_cases hlt : j < same (C.way a) (C.way b)
    · obtain ⟨_, _, e⟩ := same_get _ _ j hlt
      rw [decide_eq_true (by omega)]
      unfold r3_j7
      rw [w64_id (n := (j : Int) + 1) (by omega) (by omega)]
      exact Lt.Ok.pos rfl (ih (m - 1) _ A (by omega) ⟨j + 1, by omega, by omega, rfl⟩)
    · have e : j = same (C.way a) (C.way b) := by omega
      have hne := same_stop (C.way a) (C.way b) (by omega) (by omega)
      have hne : (C.way a)[j]'(by omega) ≠ (C.way b)[j]'(by omega) := by simp only [e]; exact hne
      rw [decide_eq_false (by omega), e]
      exact fin _
  · have e : j = same (C.way a) (C.way b) := by omega
    rw [e]; exact fin _
  · have e : j = same (C.way a) (C.way b) := by omega
    rw [e]; exact fin _
theorem Chs.ways_at (C : Chs) (q p : Nat) : Chs.ways ⟨C.pages, q⟩ p = C.ways p := by unfold Chs.ways; rw [Chs.way_at]
theorem Chs.fork_at (C : Chs) (q a b : Nat) : Chs.fork ⟨C.pages, q⟩ a b = C.fork a b := by unfold Chs.fork; rw [Chs.way_at C q a, Chs.way_at C q b]
theorem r3_j6_ok {k : Nat} {x : Sl} {a b : Nat} (h : ChAt H c pv C t) (hC : C.Ok) (ha : a < C.pages.length) (hb : b < C.pages.length) (hx : SL H x (ints (C.ways a))) (hxb : x.b ≠ c ∧ x.b ≠ pv.b) :
    Lt.Ok (r3_j6 (appA (k + 2)) (a : Int) (b : Int) c 0 (C.pages.length : Int) ((C.fork a b).1 : Int) x H) fun r _ => r = true := by
  unfold r3_j6
  refine Lt.Ok.bind (go_ok (k := k + 1) h hC (b : Int)) fun r A ⟨hr, hA, sA⟩ => ?_
  have hgo : C.go (b : Int) = (⟨C.pages, b⟩, 0) := by
    unfold Chs.go
    rw [if_pos (by omega)]; simp only [Int.toNat_natCast]
  rw [hgo] at hr hA
  dsimp only at hr hA ⊢
  subst hr
  have hne : ints (C.ways a) ≠ [] := by simp [ints, Chs.ways]
  have hxlt := SL.lt hx hne
  have hxA := SL.sp hx fun _ => sA.e _ hxlt hxb.1 hxb.2
  have hD := Chs.ok_at hC hb
  refine Lt.Ok.neg (by simp) (Lt.Ok.bind (ways_ok (k := k + 1) hA hD) fun y B ⟨hy, hyb, hB, sB⟩ => ?_)
  have hxB := SL.sp hxA fun _ => sB.e _ (SL.lt hxA hne) hxb.1 hxb.2
  rw [Chs.ways_at] at hy
  have := r3_l5_ok (k := k) (x := x) (y := y) (a := a) (b := b) hB hD ha hb (by rw [Chs.ways_at]; exact hxB) (by rw [Chs.ways_at]; exact hy)
  rw [Chs.fork_at] at this
  exact this
theorem r3_j3_ok {k : Nat} {a b : Nat} (h : ChAt H c pv ⟨C.pages, a⟩ t) (hC : C.Ok) (ha : a < C.pages.length) (hb : b < C.pages.length) :
    Lt.Ok (r3_j3 (appA (k + 2)) (a : Int) (b : Int) c 0 (C.pages.length : Int) ((C.fork a b).1 : Int) false H) fun r _ => r = true := by
  unfold r3_j3
  have hD := Chs.ok_at hC ha
  have hm := hC.most
  have hct := h.tc; have hpt := h.tp; have htn := h.tn
  refine Lt.Ok.neg (by simp) (Lt.Ok.bind (ways_ok (k := k + 1) h hD) fun x A ⟨hx, hxb, hA, sA⟩ => ?_)
  rw [Chs.ways_at] at hx
  dsimp only at hx ⊢
  have hne : ints (C.ways a) ≠ [] := by simp [ints, Chs.ways]
  have hxne : x.b ≠ c ∧ x.b ≠ pv.b := by omega
  have hlx := hx.len
  rw [ints_len] at hlx
  have hwl := Chs.way_len hC a
  have hla : (C.ways a).length = (C.way a).length + 1 := rfl
  refine Lt.Ok.ite (fun h0 => ?_) fun h0 => ?_
  · obtain ⟨h2, hp⟩ := Chs.ways_par hC (p := a) (by omega) ha
    rw [List.getElem?_eq_getElem (by omega)] at hp
    injection hp with hp
    have e1 : w64 ((x.len : Int) - 2) = (((C.ways a).length - 2 : Nat) : Int) := by rw [w64_id (by omega) (by omega)]; omega
    rw [e1]
    simp only [Int.toNat_natCast]
    refine Lt.Ok.ck (by omega) (Lt.Ok.ld (ints_ld hx (by omega)) ?_)
    rw [hp]
    have hup := hC.up a (by omega) ha
    refine Lt.Ok.bind (Fork_ok (k := k + 1) hA hD (a : Int) (C.par a : Int)) fun r B ⟨g, hr⟩ => ?_
    rw [Chs.Fork_at, Fork_in C ha (by omega), Chs.fork_par hC (by omega) ha] at hr
    subst hr
    have hxB := hx.gr g
    refine Lt.Ok.neg (by simp) (Lt.Ok.ck (by omega) (Lt.Ok.ld (ints_ld hxB (by omega)) ?_))
    rw [hp]
    unfold r3_j4
    rw [decide_eq_false (by simp)]
    have := r3_j6_ok (k := k) (x := x) (a := a) (b := b) (hA.gr g) hD ha hb (by rw [Chs.ways_at]; exact hxB) hxne
    rw [Chs.fork_at] at this
    exact Lt.Ok.neg (by simp) this
  · have := r3_j6_ok (k := k) (x := x) (a := a) (b := b) hA hD ha hb (by rw [Chs.ways_at]; exact hx) hxne
    rw [Chs.fork_at] at this
    exact this
theorem r3_j1_ok {k : Nat} {q : Nat} (a0 b0 : Int) (h : ChAt H c pv ⟨C.pages, q⟩ t) (hq : q < C.pages.length) (hC : C.Ok) :
    Lt.Ok (r3_j1 (appA (k + 2)) a0 b0 c 0 (C.pages.length : Int) false H) fun r _ => r = true := by
  have hm := hC.most; have h1 := hC.one
  obtain ⟨hn, a, ha, ea⟩ := umod a0 (n := C.pages.length) (by omega) (by omega)
  obtain ⟨_, b, hb, eb⟩ := umod b0 (n := C.pages.length) (by omega) (by omega)
  unfold r3_j1
  rw [ea, eb]
  have hD := Chs.ok_at hC hq
  refine Lt.Ok.neg (by simp) (Lt.Ok.ck hn (Lt.Ok.ck hn ?_))
  refine Lt.Ok.bind (Fork_ok (k := k + 1) h hD (a : Int) (b : Int)) fun r1 A ⟨g1, e1⟩ => ?_
  refine Lt.Ok.bind (Fork_ok (k := k + 1) (h.gr g1) hD (b : Int) (a : Int)) fun r2 B ⟨g2, e2⟩ => ?_
  refine Lt.Ok.bind (Fork_ok (k := k + 1) (h.gr (g1.trans g2)) hD (a : Int) (a : Int)) fun r3 E ⟨g3, e3⟩ => ?_
  have hE := h.gr ((g1.trans g2).trans g3)
  rw [Chs.Fork_at, Fork_in C ha hb] at e1
  rw [Chs.Fork_at, Fork_in C hb ha] at e2
  rw [Chs.Fork_at, Fork_in C ha ha, Chs.fork_self hC ha] at e3
  subst e1; subst e2; subst e3
  have hle1 := Chs.fork_le hC a b
  have hle2 := Chs.fork_le hC b a
  have hcm := Chs.fork_comm (C := C) a b
  dsimp only
  refine Lt.Ok.neg (by simp) (Lt.Ok.neg (by simp) (Lt.Ok.neg (by simp) (Lt.Ok.neg (by omega) (Lt.Ok.neg (by simp) (Lt.Ok.neg (by omega) (Lt.Ok.neg (by split <;> omega) ?_))))))
  refine Lt.Ok.bind (go_ok (k := k + 1) hE hD (a : Int)) fun r F ⟨hr, hF, sF⟩ => ?_
  have hgo : Chs.go ⟨C.pages, q⟩ (a : Int) = (⟨C.pages, a⟩, 0) := by
    unfold Chs.go
    rw [if_pos (by dsimp only; omega)]; simp only [Int.toNat_natCast]
  rw [hgo] at hr hF
  dsimp only at hr hF ⊢
  subst hr
  rw [decide_eq_false (by decide)]
  exact r3_j3_ok (k := k) hF hC ha hb
theorem forkLaw {k : Nat} {H : Hp} {v : Sl} {l : List ActT} (hv : SL H v l) (hb : ∀ a ∈ l, a.2.2.2.size ≤ 1048576) (a0 b0 : Int) : Lt.Ok (r3 (appA (k + 2)) v a0 b0 H) fun r _ => r = true := by
  unfold r3
  refine Lt.Ok.bind (played_ok (k := k) hv hb) fun r A ⟨h0, g, hc, pv, C, t, hA, hC, _⟩ => ?_
  obtain ⟨c, o⟩ := r
  dsimp only at h0 hA ⊢
  subst h0
  have hm := hC.most; have h1 := hC.one
  refine Lt.Ok.loop (L := fun K (s : Int) D => r3_l0 (appA (k + 2)) K a0 b0 c 0 s D) (fun m s D => ∃ i q : Nat, s = (i : Int) ∧ i + m = C.pages.length ∧ q < C.pages.length ∧ ChAt D c pv ⟨C.pages, q⟩ t) ?_ FUEL C.pages.length 0 A (by unfold FUEL; omega) ⟨0, C.at', rfl, by omega, hC.cur, hA⟩
  rintro K m s D ⟨i, q, rfl, him, hq, hD⟩ ih
  rw [r3_l0]
  have hok := Chs.ok_at hC hq
  refine Lt.Ok.bind (go_ok (k := k + 1) hD hok (i : Int)) fun r E ⟨hr, hE, sE⟩ => ?_
  by_cases hi : i < C.pages.length
  · have hgo : Chs.go ⟨C.pages, q⟩ (i : Int) = (⟨C.pages, i⟩, 0) := by
      unfold Chs.go
      rw [if_pos (by dsimp only; omega)]; simp only [Int.toNat_natCast]
    rw [hgo] at hr hE
    dsimp only at hr hE ⊢
    subst hr
    rw [decide_eq_true (by omega)]
    unfold r3_j2
    rw [w64_id (n := (i : Int) + 1) (by omega) (by omega)]
    exact Lt.Ok.pos rfl (Lt.Ok.pos rfl (ih (m - 1) _ E (by omega) ⟨i + 1, i, by omega, by omega, hi, hE⟩))
  · have hgo : Chs.go ⟨C.pages, q⟩ (i : Int) = (⟨C.pages, q⟩, 2) := by
      unfold Chs.go
      rw [if_neg (by dsimp only; omega)]
    rw [hgo] at hr hE
    dsimp only at hr hE ⊢
    subst hr
    have e : i = C.pages.length := by omega
    subst e
    unfold r3_j2
    refine Lt.Ok.neg (by simp) (Lt.Ok.neg (by simp) (Lt.Ok.neg (by omega) ?_))
    rw [decide_eq_false (by omega)]
    exact r3_j1_ok (k := k) a0 b0 hE hq hC
end
theorem encAct : B.EncP 1048576 (.pair (.int .i64) (.pair (.int .i64) (.pair (.int .i64) (.pair .str .unit)))) ActT (fun a => True ∧ True ∧ True ∧ a.2.2.2.size ≤ 1048576) :=
  B.encP_pair B.encP_int (B.encP_pair B.encP_int (B.encP_pair B.encP_int (B.encP_unit B.encP_str)))
theorem lawCall3 (H : Hp) (xs : List AV) (_ : NoOwn H) (h : B.RdAs 1048576 H [.sl (.pair (.int .i64) (.pair (.int .i64) (.pair (.int .i64) (.pair .str .unit)))), .int .i64, .int .i64] xs) : ∃ H1, CallSim Tryz.prog 3 xs H (.bool true) H1 := by
  obtain ⟨x, _, rfl, hx, y, _, rfl, hy, z, _, rfl, hz, rfl⟩ := h
  obtain ⟨v, l, rfl, hv, _, hb⟩ := B.rd_slP encAct (by decide) hx
  obtain ⟨a0, e0, _⟩ : B.Rd 1048576 H (.int .i64) [y] := hy
  injection e0 with e0
  subst e0
  obtain ⟨b0, e0, _⟩ : B.Rd 1048576 H (.int .i64) [z] := hz
  injection e0 with e0
  subst e0
  obtain ⟨b, H1, h1, rfl⟩ := forkLaw (k := 18) hv (fun a ha => (hb a ha).2.2.2) a0 b0
  exact ⟨H1, sim3 (happ := appASim 20) h1⟩
end Go.Lt.P10
