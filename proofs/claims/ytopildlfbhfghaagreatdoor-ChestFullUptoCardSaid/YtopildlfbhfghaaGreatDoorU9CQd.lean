/- PLAIN LAWS OF WHAT IS COMPUTED, for the statement 'ChestFull'. Nothing is asked of the input. -/
import Derived.Test.YtopildlfbhfghaaGreatDoorU9CBy
import Derived.Test.YtopildlfbhfghaaGreatDoorU9CGv
set_option linter.unusedVariables false
set_option linter.unusedSimpArgs false
set_option maxHeartbeats 4000000
namespace Go.Lt.P10
open Go Go.Lt Go.Proofs
theorem slk {T : Type} [El T] {A B : Hp} {v : Sl} {l : List T} (h : SL A v l) (e : v.len ≠ 0 → B.get v.b = A.get v.b) : SL B v l := by
  by_cases h0 : v.len = 0
  · have hl := h.len
    have : l = [] := List.length_eq_zero_iff.1 (by omega)
    subst this
    exact ⟨⟨h.cs.1, rfl⟩, h.cap, h.opn, h.nil⟩
  · exact slcg h (e h0)
section
variable {H : Hp} {c : Nat} {pv : Sl} {C : Chs}
theorem state_okR {k p : Nat} (h : RcAt H c pv C) (hC : C.Ok) (hk : p ≤ k + 1) (hp : p < C.pages.length) :
    Lt.Ok (r84 (appA (k + 1)) c 0 (p : Int) H) fun r A => Gr H A ∧ StS A r.1 r.2.1 r.2.2.1 r.2.2.2.1 r.2.2.2.2.1 r.2.2.2.2.2.1 r.2.2.2.2.2.2 (C.now p) := by
  have hm := hC.most
  unfold r84
  refine Lt.Ok.lt (Lt.Ok.lt ?_)
  have en : (H.push (.cells [.sl ⟨true, 0, 0, 0, 0, 0⟩, .sl ⟨true, 0, 0, 0, 0, 0⟩, .int .i64 0, .int .i64 0, .int .i64 0, .int .i64 0, .sl ⟨true, 0, 0, 0, 0, 0⟩] false)).n = H.n + 1 := by simp
  rw [en]
  have g0 : Gr H ((H.push (.cells [.sl ⟨true, 0, 0, 0, 0, 0⟩, .sl ⟨true, 0, 0, 0, 0, 0⟩, .int .i64 0, .int .i64 0, .int .i64 0, .int .i64 0, .sl ⟨true, 0, 0, 0, 0, 0⟩] false)).push (.cells [.sl ⟨true, 0, 0, 0, 0, 0⟩, .sl ⟨true, 0, 0, 0, 0, 0⟩, .int .i64 0, .int .i64 0, .int .i64 0, .int .i64 0, .sl ⟨true, 0, 0, 0, 0, 0⟩] false)) := (Gr.push _ _).trans (Gr.push _ _)
  have q0 : ((H.push (.cells [.sl ⟨true, 0, 0, 0, 0, 0⟩, .sl ⟨true, 0, 0, 0, 0, 0⟩, .int .i64 0, .int .i64 0, .int .i64 0, .int .i64 0, .sl ⟨true, 0, 0, 0, 0, 0⟩] false)).push (.cells [.sl ⟨true, 0, 0, 0, 0, 0⟩, .sl ⟨true, 0, 0, 0, 0, 0⟩, .int .i64 0, .int .i64 0, .int .i64 0, .int .i64 0, .sl ⟨true, 0, 0, 0, 0, 0⟩] false)).get H.n = some (.cells (stCells nilS nilS nilS St.new) false) := by
    rw [Hp.get_push_old _ _ (by simp)]; exact Hp.get_push_new _ _
  have q1 : ((H.push (.cells [.sl ⟨true, 0, 0, 0, 0, 0⟩, .sl ⟨true, 0, 0, 0, 0, 0⟩, .int .i64 0, .int .i64 0, .int .i64 0, .int .i64 0, .sl ⟨true, 0, 0, 0, 0, 0⟩] false)).push (.cells [.sl ⟨true, 0, 0, 0, 0, 0⟩, .sl ⟨true, 0, 0, 0, 0, 0⟩, .int .i64 0, .int .i64 0, .int .i64 0, .int .i64 0, .sl ⟨true, 0, 0, 0, 0, 0⟩] false)).get (H.n + 1) = some (.cells (stCells nilS nilS nilS St.new) false) := by
    have := Hp.get_push_new (H.push (.cells [.sl ⟨true, 0, 0, 0, 0, 0⟩, .sl ⟨true, 0, 0, 0, 0, 0⟩, .int .i64 0, .int .i64 0, .int .i64 0, .int .i64 0, .sl ⟨true, 0, 0, 0, 0, 0⟩] false)) (.cells [.sl ⟨true, 0, 0, 0, 0, 0⟩, .sl ⟨true, 0, 0, 0, 0, 0⟩, .int .i64 0, .int .i64 0, .int .i64 0, .int .i64 0, .sl ⟨true, 0, 0, 0, 0, 0⟩] false)
    rw [en] at this
    exact this
  have qn : ((H.push (.cells [.sl ⟨true, 0, 0, 0, 0, 0⟩, .sl ⟨true, 0, 0, 0, 0, 0⟩, .int .i64 0, .int .i64 0, .int .i64 0, .int .i64 0, .sl ⟨true, 0, 0, 0, 0, 0⟩] false)).push (.cells [.sl ⟨true, 0, 0, 0, 0, 0⟩, .sl ⟨true, 0, 0, 0, 0, 0⟩, .int .i64 0, .int .i64 0, .int .i64 0, .int .i64 0, .sl ⟨true, 0, 0, 0, 0, 0⟩] false)).n = H.n + 2 := by simp
  revert g0 q0 q1 qn
  generalize (H.push (.cells [.sl ⟨true, 0, 0, 0, 0, 0⟩, .sl ⟨true, 0, 0, 0, 0, 0⟩, .int .i64 0, .int .i64 0, .int .i64 0, .int .i64 0, .sl ⟨true, 0, 0, 0, 0, 0⟩] false)).push (.cells [.sl ⟨true, 0, 0, 0, 0, 0⟩, .sl ⟨true, 0, 0, 0, 0, 0⟩, .int .i64 0, .int .i64 0, .int .i64 0, .int .i64 0, .sl ⟨true, 0, 0, 0, 0, 0⟩] false) = H2
  intro g0 q0 q1 qn
  refine Lt.Ok.bind (path_okR (k := k + 1) (h.gr g0) hC hk hp) fun w B ⟨gB, hw⟩ => ?_
  dsimp only
  have hws := hw.1.sl
  have hwl := hws.len
  have hpl : (C.path p).length ≤ 200 := by
    unfold Chs.path
    rw [List.length_map]
    have := Chs.way_len_le hC hp
    omega
  have q0B := (gB.2 _ (Hp.get_lt q0)).trans q0
  have q1B := (gB.2 _ (Hp.get_lt q1)).trans q1
  have nB := gB.1
  have hwb : w.len ≠ 0 → H2.n ≤ w.b ∧ w.b < B.n := fun q => by
    have hn : w.nil = false := by
      rcases hw.1 with ⟨rfl, _⟩ | h
      · exact absurd rfl q
      · exact h.1
    exact ⟨Acc.ge hw.1 hn, Acc.lt hw.1 hn⟩
  have szs : ∀ x ∈ C.path p, x.size ≤ 1048576 := fun x hx => by
    obtain ⟨y, hy, rfl⟩ := List.mem_map.1 hx
    have hy2 := (Chs.way_lt hC hp hy).2
    have := chg_le hC (show y < C.pages.length by omega)
    omega
  refine Lt.Ok.loop (L := fun K (i : Int) A => r84_l0 (appA (k + 1)) K H.n (H.n + 1) w (w.len : Int) i A) (fun m i' A => ∃ (i : Nat) (x1 x2 x3 : Sl), i' = (i : Int) ∧ i + m = (C.path p).length ∧ B.n ≤ A.n ∧ (∀ c, c < B.n → c ≠ H.n + 1 → A.get c = B.get c) ∧ A.get (H.n + 1) = some (.cells (stCells x1 x2 x3 (((C.path p).take i).foldl stepS St.new)) false) ∧
      SL A x1 (((C.path p).take i).foldl stepS St.new).leaves ∧ SL A x2 (((C.path p).take i).foldl stepS St.new).orders ∧ SL A x3 (((C.path p).take i).foldl stepS St.new).offers ∧ (((C.path p).take i).foldl stepS St.new).Ok ∧ ∀ v ∈ [x1, x2, x3], v.len ≠ 0 → v.b ≠ H.n + 1 ∧ v.b ≠ H.n) ?_ FUEL (C.path p).length 0 B (by unfold FUEL; omega)
    ⟨0, nilS, nilS, nilS, rfl, by omega, Nat.le_refl _, fun _ _ _ => rfl, q1B, SL.nilS, SL.nilS, SL.nilS, St.new_ok, fun v hv hl => by
      exfalso
      simp only [List.mem_cons, List.not_mem_nil, or_false] at hv
      rcases hv with rfl | rfl | rfl <;> exact hl rfl⟩
  rintro K m i' A ⟨i, x1, x2, x3, rfl, him, nA, oth, gs, s1, s2, s3, sok, loc⟩ ih
  rw [r84_l0]
  generalize hS : ((C.path p).take i).foldl stepS St.new = S at *
  have hS' : StS A x1 x2 S.t0 S.t1 S.t2 S.t3 x3 S := ⟨s1, s2, rfl, rfl, rfl, rfl, s3⟩
  refine Lt.Ok.ite (fun hlt => ?_) fun hlt => ?_
  · have hil : i < (C.path p).length := by omega
    have hwA : SL A w (C.path p) := slk hws fun q => oth _ (hwb q).2 (by have := (hwb q).1; omega)
    refine Lt.Ok.ck (by omega) (Lt.Ok.ld (SL.ldStr hwA (i := i) (j := 0) (n := (C.path p)[i]) hil rfl) ?_)
    refine Lt.Ok.ld (ldSl_get gs rfl) (Lt.Ok.ld (ldSl_get gs rfl) (Lt.Ok.ld (ldI_get gs rfl) (Lt.Ok.ld (ldI_get gs rfl) (Lt.Ok.ld (ldI_get gs rfl) (Lt.Ok.ld (ldI_get gs rfl) (Lt.Ok.ld (ldSl_get gs rfl) ?_))))))
    refine Lt.Ok.bind (do_okR (k := k) hS' sok (szs _ (List.getElem_mem hil))) fun r D ⟨gD, rl, rm⟩ => ?_
    have st : StS D r.1 r.2.1 r.2.2.1 r.2.2.2.1 r.2.2.2.2.1 r.2.2.2.2.2.1 r.2.2.2.2.2.2.1 (stepS S (C.path p)[i]) := by
      unfold stepS
      rcases hd : doS S (C.path p)[i] with ⟨e | t, w'⟩
      · rw [hd] at rm; exact rm.2.2
      · rw [hd] at rm; exact rm.2.2
    have gsD : D.get (H.n + 1) = _ := (gD.2 _ (Hp.get_lt gs)).trans gs
    obtain ⟨E, k1, k2, k3, k4⟩ := sts_blk [.sl r.1, .sl r.2.1, .int .i64 r.2.2.1, .int .i64 r.2.2.2.1, .int .i64 r.2.2.2.2.1, .int .i64 r.2.2.2.2.2.1, .sl r.2.2.2.2.2.2.1] 0 D _ gsD (Nat.le_refl _)
    refine Lt.Ok.ld k1 ?_
    rw [w64_succ (by omega)]
    have loc2 : ∀ v ∈ [r.1, r.2.1, r.2.2.2.2.2.2.1], v.len ≠ 0 → v.b ≠ H.n + 1 ∧ v.b ≠ H.n := fun v hv hl => by
      have hlt := Hp.get_lt gs
      rcases rl v hv hl with h | h
      · exact ⟨by omega, by omega⟩
      · exact loc v h hl
    obtain ⟨t1, t2, t3, t4, t5, t6, t7⟩ := st
    have eS : ((C.path p).take (i + 1)).foldl stepS St.new = stepS S (C.path p)[i] := by
      rw [List.take_succ_eq_append_getElem hil, List.foldl_append, hS]; rfl
    refine ih (m - 1) _ E (by omega) ⟨i + 1, r.1, r.2.1, r.2.2.2.2.2.2.1, rfl, by omega, by rw [k3]; have := gD.1; omega, fun c hc hne => by rw [k4 c hne, gD.2 c (by omega), oth c hc hne], ?_, ?_, ?_, ?_, ?_, loc2⟩
    · rw [k2, eS, t3, t4, t5, t6]; rfl
    · rw [eS]; exact slk t1 fun q => k4 _ (loc2 _ (by simp) q).1
    · rw [eS]; exact slk t2 fun q => k4 _ (loc2 _ (by simp) q).1
    · rw [eS]; exact slk t7 fun q => k4 _ (loc2 _ (by simp) q).1
    · rw [eS]; exact stepS_ok sok _
  · have : i = (C.path p).length := by omega
    subst this
    rw [List.take_length, now_fold hC p p (Nat.le_refl _) hp] at hS
    subst hS
    refine Lt.Ok.ld (ldSl_get gs rfl) (Lt.Ok.ld (ldSl_get gs rfl) (Lt.Ok.ld (ldI_get gs rfl) (Lt.Ok.ld (ldI_get gs rfl) (Lt.Ok.ld (ldI_get gs rfl) (Lt.Ok.ld (ldI_get gs rfl) (Lt.Ok.ld (ldSl_get gs rfl) ?_))))))
    have q0A : A.get H.n = _ := (oth H.n (by omega) (by omega)).trans q0B
    obtain ⟨E, k1, k2, k3, k4⟩ := sts_blk (stCells x1 x2 x3 (C.now p)) 0 A _ q0A (Nat.le_refl _)
    have k2' : E.get H.n = some (.cells (stCells x1 x2 x3 (C.now p)) false) := by rw [k2]; rfl
    refine Lt.Ok.ld k1 (Lt.Ok.ld (ldSl_get k2' rfl) (Lt.Ok.ld (ldSl_get k2' rfl) (Lt.Ok.ld (ldI_get k2' rfl) (Lt.Ok.ld (ldI_get k2' rfl) (Lt.Ok.ld (ldI_get k2' rfl) (Lt.Ok.ld (ldI_get k2' rfl) (Lt.Ok.ld (ldSl_get k2' rfl) (Lt.Ok.ret ⟨?_, ?_⟩))))))))
    · exact ⟨by rw [k3]; omega, fun c hc => by rw [k4 c (by omega), oth c (by omega) (by omega), gB.2 c (by omega), g0.2 c hc]⟩
    · exact ⟨slk s1 fun q => k4 _ (loc _ (by simp) q).2, slk s2 fun q => k4 _ (loc _ (by simp) q).2, rfl, rfl, rfl, rfl, slk s3 fun q => k4 _ (loc _ (by simp) q).2⟩
end
/-! ### the state as a string -/
theorem asStrs_map : ∀ l : List ByteArray, asStrs (l.map .str) = some l
  | [] => rfl
  | x :: l => by simp only [List.map_cons, asStrs, asStrs_map l, Option.map_some]
def szs (l : List ByteArray) : Nat := (l.map (·.size)).sum
theorem szs_le {K : Nat} : ∀ {l : List ByteArray}, (∀ x ∈ l, x.size ≤ K) → szs l ≤ l.length * K
  | [], _ => by simp [szs]
  | x :: l, h => by
    have h1 := h x (by simp)
    have h2 := szs_le (l := l) fun y hy => h y (by simp [hy])
    simp only [szs, List.map_cons, List.sum_cons, List.length_cons, Nat.add_mul, Nat.one_mul] at h2 ⊢
    omega
theorem join_size (xs : List ByteArray) (sep : ByteArray) : (joinA xs sep).size ≤ szs xs + xs.length * sep.size := by
  have hj : (joinA xs sep).size = (Lib.join (xs.map (·.data.toList)) sep.data.toList).length := by simp [joinA, ByteArray.size]
  rw [hj]
  cases xs with
  | nil => simp [Lib.join_nil]
  | cons x r =>
    rw [List.map_cons, Lib.join_cons, List.length_append]
    have ht : ∀ l : List ByteArray, (Lib.joinTail sep.data.toList (l.map (·.data.toList))).length = szs l + l.length * sep.size := by
      intro l
      induction l with
      | nil => simp [Lib.joinTail, szs]
      | cons y l ih =>
        have e : (Lib.joinTail sep.data.toList ((y :: l).map (·.data.toList))).length = (sep.data.toList.length + y.data.toList.length) + (Lib.joinTail sep.data.toList (l.map (·.data.toList))).length := by
          simp [Lib.joinTail]; omega
        have e1 : sep.data.toList.length = sep.size := by rw [Array.length_toList]; rfl
        have e2 : y.data.toList.length = y.size := by rw [Array.length_toList]; rfl
        rw [e, ih, e1, e2]
        simp only [szs, List.map_cons, List.sum_cons, List.length_cons, Nat.add_mul, Nat.one_mul]
        omega
    have e2 : x.data.toList.length = x.size := by rw [Array.length_toList]; rfl
    rw [ht, e2]
    simp only [szs, List.map_cons, List.sum_cons, List.length_cons, Nat.add_mul, Nat.one_mul]
    omega
theorem app109 (k : Nat) (v : Sl) (sep : ByteArray) (H : Hp) : appA (k + 1) 109 [.sl v, .str sep] H = joinP v sep H := rfl
theorem app131 (k : Nat) (b : Nat) (s : ByteArray) (H : Hp) : appA (k + 1) 131 [.ptr b 0, .str s] H = wsP b s H := rfl
theorem app136 (k : Nat) (b : Nat) (H : Hp) : appA (k + 1) 136 [.ptr b 0] H = strP b H := rfl
theorem app132 (k : Nat) (b : Nat) (w : ByteArray) (v : Sl) (H : Hp) : callv (appA (k + 1)) (.fn 132 [] [.ptr b 0]) [.str w, .sl v] H = (r132 (appA k) w v b H).map fun p => (.tup [], p.2) := rfl
theorem join_ok {H : Hp} {v : Sl} {l : List ByteArray} (h : SL H v l) (sep : ByteArray) (hl : l.length ≤ 1048577) (hs : szs l + l.length * sep.size ≤ 140737488355328) : joinP v sep H = some (.str (joinA l sep), H) := by
  unfold joinP
  have e := h.lds
  have e1 : v.len * El.sz ByteArray = v.len := Nat.mul_one _
  rw [e1, enc_str] at e
  rw [e]
  simp only [Option.bind_some, asStrs_map]
  have := join_size l sep
  rw [if_pos ⟨by omega, by omega⟩]
def BldAt (n0 : Nat) (H : Hp) (b : Nat) (o : Option ByteArray) : Prop :=
  n0 ≤ b ∧ ((o = none ∧ H.get b = some (.bld none 0)) ∨ ∃ l q, o = some l ∧ n0 ≤ q ∧ b ≠ q ∧ H.get b = some (.bld (some q) l.size) ∧ H.get q = some (.buf l))
theorem BldAt.gr {n0 b : Nat} {H H' : Hp} {o : Option ByteArray} (h : BldAt n0 H b o) (g : Gr H H') : BldAt n0 H' b o := by
  obtain ⟨h0, h⟩ := h
  refine ⟨h0, ?_⟩
  rcases h with ⟨h1, h2⟩ | ⟨l, q, h1, h2, h3, h4, h5⟩
  · exact .inl ⟨h1, by rw [g.2 _ (Hp.get_lt h2)]; exact h2⟩
  · exact .inr ⟨l, q, h1, h2, h3, by rw [g.2 _ (Hp.get_lt h4)]; exact h4, by rw [g.2 _ (Hp.get_lt h5)]; exact h5⟩
def accO (o : Option ByteArray) (s : ByteArray) : ByteArray := match o with | none => s | some l => l ++ s
def szO (o : Option ByteArray) : Nat := match o with | none => 0 | some l => l.size
theorem szO_acc (o : Option ByteArray) (s : ByteArray) : (accO o s).size = szO o + s.size := by
  cases o with
  | none => simp [accO, szO]
  | some l => simp [accO, szO, ByteArray.size_append]
structure Lo (n0 : Nat) (H H' : Hp) : Prop where
  n : H.n ≤ H'.n
  e : ∀ c, c < n0 → H'.get c = H.get c
theorem Lo.refl (n0 : Nat) (H : Hp) : Lo n0 H H := ⟨Nat.le_refl _, fun _ _ => rfl⟩
theorem Lo.trans {n0 : Nat} {A B C : Hp} (h : Lo n0 A B) (k : Lo n0 B C) : Lo n0 A C := ⟨Nat.le_trans h.n k.n, fun c hc => (k.e c hc).trans (h.e c hc)⟩
theorem Lo.of_gr {n0 : Nat} {A B : Hp} (g : Gr A B) (h : n0 ≤ A.n) : Lo n0 A B := ⟨g.1, fun c hc => g.2 c (by omega)⟩
theorem ws_ok {n0 b : Nat} {H : Hp} {o : Option ByteArray} (h : BldAt n0 H b o) {s : ByteArray} (h1 : 1 ≤ s.size) (h2 : szO o + s.size ≤ 16777216) :
    ∃ A, wsP b s H = some (.tup [.int .i64 s.size, .niliface], A) ∧ BldAt n0 A b (some (accO o s)) ∧ Lo n0 H A := by
  obtain ⟨h0, h⟩ := h
  rcases h with ⟨rfl, hg⟩ | ⟨l, q, rfl, hq0, hbq, hg, hgq⟩
  · have hb := Hp.get_lt hg
    refine ⟨_, by unfold wsP; rw [hg]; simp only; rw [if_pos ⟨h1, by simp only [szO] at h2; omega⟩], ⟨h0, .inr ⟨s, H.n, rfl, by omega, by omega, ?_, ?_⟩⟩, ⟨by simp, fun c hc => ?_⟩⟩
    · exact Hp.get_set_same _ _ (by simp; omega)
    · rw [Hp.get_set_other _ _ (by omega)]
      have : H.n = (H.set b .dead).n := by simp
      conv => lhs; arg 2; rw [this]
      exact Hp.get_push_new _ _
    · rw [Hp.get_set_other _ _ (by omega), Hp.get_push_old _ _ (by simp; omega), Hp.get_set_other _ _ (by omega)]
  · have hb := Hp.get_lt hg
    have hqn := Hp.get_lt hgq
    have hsz : (l ++ s).size = l.size + s.size := ByteArray.size_append ..
    refine ⟨_, by unfold wsP; rw [hg]; simp only; rw [hgq]; simp only; rw [if_pos ⟨trivial, h1, by simp only [szO] at h2; omega, hbq⟩], ⟨h0, .inr ⟨l ++ s, H.n, rfl, by omega, by omega, ?_, ?_⟩⟩, ⟨by simp, fun c hc => ?_⟩⟩
    · rw [hsz]; exact Hp.get_set_same _ _ (by simp; omega)
    · rw [Hp.get_set_other _ _ (by omega)]
      have : H.n = ((H.set q .dead).set b .dead).n := by simp
      conv => lhs; arg 2; rw [this]
      exact Hp.get_push_new _ _
    · rw [Hp.get_set_other _ _ (by omega), Hp.get_push_old _ _ (by simp; omega), Hp.get_set_other _ _ (by omega), Hp.get_set_other _ _ (by omega)]
theorem str_ok {n0 b : Nat} {H : Hp} {l : ByteArray} (h : BldAt n0 H b (some l)) (h1 : 1 ≤ l.size) : ∃ A, strP b H = some (.str l, A) ∧ Lo n0 H A := by
  obtain ⟨h0, h⟩ := h
  rcases h with ⟨e, _⟩ | ⟨l', q, e, hq0, hbq, hg, hgq⟩
  · cases e
  injection e with e
  subst e
  refine ⟨_, by unfold strP; rw [hg]; simp only; rw [hgq]; simp only; rw [if_pos ⟨trivial, h1, hbq⟩], ⟨by simp, fun c hc => ?_⟩⟩
  rw [Hp.get_set_other _ _ (by omega), Hp.get_set_other _ _ (by omega)]
def lineA (w : ByteArray) (l : List ByteArray) : ByteArray := joinA (w :: l) (ByteArray.mk #[32]) ++ ByteArray.mk #[10]
theorem line_size (w : ByteArray) (l : List ByteArray) : 1 ≤ (lineA w l).size ∧ (lineA w l).size ≤ w.size + szs l + l.length + 2 := by
  have h := join_size (w :: l) (ByteArray.mk #[32])
  have e : (ByteArray.mk #[32]).size = 1 := rfl
  have e2 : (ByteArray.mk #[10]).size = 1 := rfl
  unfold lineA
  rw [ByteArray.size_append, e2]
  rw [e] at h
  simp only [szs, List.map_cons, List.sum_cons, List.length_cons, Nat.mul_one] at h ⊢
  omega
theorem r132_ok {k n0 b : Nat} {H : Hp} {o : Option ByteArray} {v : Sl} {l : List ByteArray} (h : BldAt n0 H b o) (hn : n0 ≤ H.n) (hv : SL H v l) (w : ByteArray) (hl : l.length ≤ 1000) (hs : szO o + w.size + szs l + l.length + 2 ≤ 16777216) :
    Lt.Ok (r132 (appA (k + 1)) w v b H) fun _ A => BldAt n0 A b (some (accO o (lineA w l))) ∧ Lo n0 H A := by
  unfold r132
  have g0 := Gr.push H (.cells [.str w] false)
  have hg := Hp.get_push_new H (.cells [.str w] false)
  have hnn := Hp.n_push H (.cells [.str w] false)
  generalize H.push (.cells [.str w] false) = A at *
  have hvA := hv.gr g0
  have hlen := hvA.len
  have hlds := hvA.lds
  have e1 : v.len * El.sz ByteArray = v.len * 1 := rfl
  rw [e1] at hlds
  refine Lt.Ok.ld hlds (Lt.Ok.ck ?_ ?_)
  · rw [enc_str, List.all_map, List.all_eq_true]; intro x _; rfl
  have key : Lt.Ok (A.app 1 ⟨false, H.n, 0, 1, 1, 0⟩ (encs l) v.len) fun r B => Gr A B ∧ SL B r (w :: l) := by
    unfold Hp.app
    rw [if_pos (by dsimp only; omega)]
    by_cases h0 : v.len = 0
    · have : l = [] := List.length_eq_zero_iff.1 (by omega)
      subst this
      rw [if_pos (by dsimp only; omega), if_neg (by simp)]
      simp only [encs, List.flatMap_nil, Hp.sts, Option.map_some]
      exact Lt.Ok.ret ⟨.refl _, .of_get (ro := false) hg rfl (by simp [h0]) (by simp [h0]) (.inl rfl) rfl⟩
    · rw [if_neg (by dsimp only; omega)]
      have hld : A.lds H.n (0 + 0) 1 = some [.str w] := by
        have := lds_cells (H := A) (b := H.n) (ro := false) [.str w] [] hg
        exact this
      have : A.lds (⟨false, H.n, 0, 1, 1, 0⟩ : Sl).b (⟨false, H.n, 0, 1, 1, 0⟩ : Sl).o ((⟨false, H.n, 0, 1, 1, 0⟩ : Sl).len * 1) = some [.str w] := hld
      rw [this]
      simp only [Option.bind_some, if_true]
      refine Lt.Ok.ret ⟨Gr.push _ _, .of_get (ro := false) (Hp.get_push_new _ _) rfl (by simp [hlen]; omega) (Nat.le_refl _) (.inr rfl) rfl⟩
  refine Lt.Ok.bind key fun r B ⟨gB, hr⟩ => ?_
  dsimp only
  rw [app109, join_ok hr _ (by simp; omega) (by
    have : (ByteArray.mk #[32]).size = 1 := rfl
    rw [this]
    simp only [szs, List.map_cons, List.sum_cons, List.length_cons]
    unfold szs at hs
    omega)]
  simp only [Option.bind_some, AV.asStr]
  have hls := line_size w l
  have hjs : (joinA (w :: l) (ByteArray.mk #[32])).size + (ByteArray.mk #[10]).size = (lineA w l).size := by unfold lineA; rw [ByteArray.size_append]
  refine Lt.Ok.ck (by omega) ?_
  rw [app131]
  obtain ⟨D, e, hD, lD⟩ := ws_ok (h.gr (g0.trans gB)) (s := lineA w l) hls.1 (by omega)
  have e' : wsP b (joinA (w :: l) (ByteArray.mk #[32]) ++ ByteArray.mk #[10]) B = some (.tup [.int .i64 (lineA w l).size, .niliface], D) := e
  rw [e']
  simp only [Option.bind_some, AV.asT, List.length_cons, List.length_nil]
  refine Lt.Ok.ck (by simp) ?_
  simp only [List.getElem?_cons_zero, List.getElem?_cons_succ, Option.bind_some, AV.asI, if_true]
  exact Lt.Ok.ret ⟨hD, (Lo.of_gr (g0.trans gB) hn).trans lD⟩
def nameOf (s : St) (i : Int) : ByteArray := (s.leaves.getD i.toNat (ByteArray.mk #[], 0)).1
theorem names_ok {H : Hp} {P : Nat → Prop} {b : Nat} {s : St} (h : StAt H P b s) {v : Sl} {l : List Int} (hv : SL H v l) (hl : l.length ≤ 1000) (hr : ∀ i ∈ l, 0 ≤ i ∧ i < s.leaves.length) :
    Lt.Ok (r133 b 0 v H) fun r A => Gr H A ∧ SL A r (l.map (nameOf s)) := by
  unfold r133
  obtain ⟨hb, v1, v2, v3, hg, h1, _, _⟩ := h
  have hlen := hv.len
  have h1len := h1.sl.len
  refine Lt.Ok.loop (L := fun K (t : Sl × Int) A => r133_l0 K b 0 t.1 v (v.len : Int) t.2 A) (fun m t A => ∃ i : Nat, t.2 = (i : Int) ∧ i + m = l.length ∧ Gr H A ∧ AccN H.n A t.1 ((l.take i).map (nameOf s))) ?_ FUEL l.length (⟨true, 0, 0, 0, 0, 0⟩, 0) H (by unfold FUEL; omega) ⟨0, rfl, by omega, .refl _, ⟨AccL.nilS, fun _ => rfl⟩⟩
  rintro K m ⟨r, i'⟩ A ⟨i, hi, him, g, ha⟩ ih
  dsimp only at *
  subst hi
  rw [r133_l0]
  refine Lt.Ok.ite (fun hlt => ?_) fun hlt => ?_
  · have hil : i < l.length := by omega
    obtain ⟨k0, k1⟩ := hr l[i] (List.getElem_mem hil)
    obtain ⟨q, hq⟩ := Int.eq_ofNat_of_zero_le k0
    have hql : q < s.leaves.length := by omega
    refine Lt.Ok.ck (by omega) (Lt.Ok.ld ((hv.gr g).ldI (i := i) (j := 0) (n := (q : Int)) hil (by rw [hq]; rfl)) (Lt.Ok.ld (ldSl_get (n := v1) ((g.2 _ (Hp.get_lt hg)).trans hg) rfl) (Lt.Ok.ck (by omega) (Lt.Ok.ld (SL.ldStr (h1.sl.gr g) (i := q) (j := 0) hql rfl) ?_))))
    refine Lt.Ok.bind (AccN.push ha g.1 s.leaves[q].1 rfl rfl (by simp; omega)) fun r' B ⟨k1, k2, k3, k4⟩ => ?_
    dsimp only
    rw [w64_succ (by omega)]
    refine ih (m - 1) (r', _) B (by omega) ⟨i + 1, rfl, by omega, But.gr k2 ha.1 g, ?_⟩
    rw [List.take_succ_eq_append_getElem hil, List.map_append]
    have e : [l[i]].map (nameOf s) = [s.leaves[q].1] := by
      simp only [List.map_cons, List.map_nil, nameOf, hq, Int.toNat_natCast, List.getD_eq_getElem?_getD, List.getElem?_eq_getElem hql, Option.getD_some]
    rw [e]; exact k1
  · have : i = l.length := by omega
    subst this
    rw [List.take_length] at ha
    exact Lt.Ok.ret ⟨g, ha.1.sl⟩
theorem numbers_ok {k : Nat} {H : Hp} {v : Sl} {l : List Int} (hv : SL H v l) (hl : l.length ≤ 1000) (hr : ∀ i ∈ l, -9223372036854775808 ≤ i ∧ i ≤ 9223372036854775807) :
    Lt.Ok (r134 (appA (k + 1)) v H) fun r A => Gr H A ∧ SL A r (l.map itoaA) := by
  unfold r134
  have hlen := hv.len
  refine Lt.Ok.loop (L := fun K (t : Sl × Int) A => r134_l0 (appA (k + 1)) K t.1 v (v.len : Int) t.2 A) (fun m t A => ∃ i : Nat, t.2 = (i : Int) ∧ i + m = l.length ∧ Gr H A ∧ AccN H.n A t.1 ((l.take i).map itoaA)) ?_ FUEL l.length (⟨true, 0, 0, 0, 0, 0⟩, 0) H (by unfold FUEL; omega) ⟨0, rfl, by omega, .refl _, ⟨AccL.nilS, fun _ => rfl⟩⟩
  rintro K m ⟨r, i'⟩ A ⟨i, hi, him, g, ha⟩ ih
  dsimp only at *
  subst hi
  rw [r134_l0]
  refine Lt.Ok.ite (fun hlt => ?_) fun hlt => ?_
  · have hil : i < l.length := by omega
    refine Lt.Ok.ck (by omega) (Lt.Ok.ld ((hv.gr g).ldI (i := i) (j := 0) (n := l[i]) hil rfl) ?_)
    rw [app33]
    unfold itoaP
    rw [if_pos (hr _ (List.getElem_mem hil))]
    simp only [Option.bind_some, AV.asStr]
    refine Lt.Ok.bind (AccN.push ha g.1 (itoaA l[i]) rfl rfl (by simp; omega)) fun r' B ⟨k1, k2, k3, k4⟩ => ?_
    dsimp only
    rw [w64_succ (by omega)]
    refine ih (m - 1) (r', _) B (by omega) ⟨i + 1, rfl, by omega, But.gr k2 ha.1 g, ?_⟩
    rw [List.take_succ_eq_append_getElem hil, List.map_append]
    exact k1
  · have : i = l.length := by omega
    subst this
    rw [List.take_length] at ha
    exact Lt.Ok.ret ⟨g, ha.1.sl⟩
theorem concat_ok {H : Hp} {b : Nat} {x y : Sl} {l1 l2 : List Int} (hg : H.get b = some (.cells [.sl x, .sl y] false)) (hx : SL H x l1) (hy : SL H y l2) (h0 : 1 ≤ l1.length + l2.length) (hl : l1.length + l2.length ≤ 1000) :
    Lt.Ok (r135 ⟨false, b, 0, 2, 2, 0⟩ H) fun r A => Gr H A ∧ SL A r (l1 ++ l2) := by
  unfold r135
  have e : ∃ k, FUEL = k + 3 := ⟨FUEL - 3, by unfold FUEL; omega⟩
  obtain ⟨k, e⟩ := e
  have hxl := hx.len; have hyl := hy.len
  have q1 : ∀ A : Hp, A.get b = some (.cells [.sl x, .sl y] false) → A.ldSl b (0 + (0 : Int).toNat * 1) = some x := fun A h => ldSl_get (n := x) h rfl
  have q2 : ∀ A : Hp, A.get b = some (.cells [.sl x, .sl y] false) → A.ldSl b (0 + (1 : Int).toNat * 1) = some y := fun A h => ldSl_get (n := y) h rfl
  rw [e, r135_l0]
  dsimp only
  refine Lt.Ok.pos (by first | omega | (dsimp only; omega)) (Lt.Ok.ck (by first | omega | (dsimp only; omega)) (Lt.Ok.ld (q1 H hg) ?_))
  rw [w64_id (n := 0 + (x.len : Int)) (by omega) (by omega), w64_id (n := (0 : Int) + 1) (by omega) (by omega)]
  refine Lt.Ok.neg (by omega) ?_
  rw [r135_l0]
  refine Lt.Ok.pos (by first | omega | (dsimp only; omega)) (Lt.Ok.ck (by first | omega | (dsimp only; omega)) (Lt.Ok.ld (q2 H hg) ?_))
  rw [w64_id (n := 0 + (x.len : Int) + (y.len : Int)) (by omega) (by omega), w64_id (n := (0 : Int) + 1 + 1) (by omega) (by omega)]
  refine Lt.Ok.neg (by omega) ?_
  rw [r135_l0]
  refine Lt.Ok.neg (by first | omega | (dsimp only; omega)) ?_
  have hN : 0 + (x.len : Int) + (y.len : Int) = ((l1.length + l2.length : Nat) : Int) := by omega
  rw [hN]
  generalize hNN : l1.length + l2.length = N at *
  have hgrow : Lt.Ok (r186 ⟨true, 0, 0, 0, 0, 0⟩ (N : Int) H) fun r A => r = ⟨false, H.n, 0, 0, N, 1⟩ ∧ A = H.push (.cells (zerosA [.int .i64 0] (N * 1)) false) := by
    unfold r186
    have e1 : w64 ((N : Int) - w64 (((0 : Nat) : Int) - ((0 : Nat) : Int))) = (N : Int) := by rw [w64_id (n := ((0 : Nat) : Int) - ((0 : Nat) : Int)) (by omega) (by omega), w64_id (by omega) (by omega)]; omega
    dsimp only
    rw [e1]
    simp only [Int.toNat_natCast]
    exact Lt.Ok.neg (by omega) (Lt.Ok.ck trivial (Lt.Ok.pos (by omega) (Lt.Ok.ck trivial (Lt.Ok.ck (by simp) (Lt.Ok.ck rfl (Lt.Ok.ck (by omega) (Lt.Ok.ck (by simp) (Lt.Ok.lt (Lt.Ok.ret ⟨rfl, rfl⟩)))))))))
  refine Lt.Ok.bind hgrow fun r A ⟨er, eA⟩ => ?_
  subst er
  have g0 : Gr H A := by rw [eA]; exact Gr.push _ _
  have hbn := Hp.get_lt hg
  have hAg : A.get H.n = some (.cells (zerosA [.int .i64 0] (N * 1)) false) := by rw [eA]; exact Hp.get_push_new _ _
  have hAb := (g0.2 b hbn).trans hg
  have hAn : H.n < A.n := Hp.get_lt hAg
  rw [e, r135_l1]
  dsimp only
  have hz : (zerosA [.int .i64 0] (N * 1)).length = N := by rw [zerosA_len]; omega
  generalize zerosA [AV.int .i64 0] (N * 1) = zs at *
  have e1 : x.len * El.sz Int = x.len * 1 := rfl
  have e2 : y.len * El.sz Int = y.len * 1 := rfl
  have one : ∀ l : List Int, (encs l).all AV.one = true := fun l => by
    rw [List.all_eq_true]
    intro z hz
    have : ∀ l : List Int, ∀ z ∈ encs l, AV.one z = true := by
      intro l
      induction l with
      | nil => intro z hz; cases hz
      | cons a l ih =>
        intro z hz
        rw [encs_cons] at hz
        rcases List.mem_append.1 hz with hz | hz
        · have : z = .int .i64 a := by simpa [El.enc] using hz
          subst this; rfl
        · exact ih z hz
    exact this l z hz
  have el : ∀ l : List Int, (encs l).length = l.length := fun l => by rw [encs_len]; exact Nat.mul_one _
  refine Lt.Ok.pos (by first | omega | (dsimp only; omega)) (Lt.Ok.ck (by first | omega | (dsimp only; omega)) (Lt.Ok.ld (q1 A hAb) (Lt.Ok.ld (by have := (hx.gr g0).lds; rw [e1] at this; exact this) (Lt.Ok.ck (one _) ?_))))
  obtain ⟨B, b1, b2, b3, b4⟩ := sts_blk (encs l1) 0 A zs hAg (by rw [el]; omega)
  have hap : A.app 1 ⟨false, H.n, 0, 0, N, 1⟩ (encs l1) x.len = some (⟨false, H.n, 0, x.len, N, 1⟩, B) := by
    unfold Hp.app
    rw [if_pos (by first | omega | (dsimp only; omega)), if_pos (by first | omega | (dsimp only; omega)), if_neg (by simp)]
    dsimp only
    rw [Nat.zero_mul, Nat.zero_add, b1]
    simp
  rw [hap]
  simp only [Option.bind_some]
  rw [w64_id (n := (0 : Int) + 1) (by omega) (by omega), r135_l1]
  have gB : Gr H B := ⟨by rw [b3]; omega, fun c hc => by rw [b4 c (by omega)]; exact g0.2 c hc⟩
  have hBb := (gB.2 b hbn).trans hg
  refine Lt.Ok.pos (by first | omega | (dsimp only; omega)) (Lt.Ok.ck (by first | omega | (dsimp only; omega)) (Lt.Ok.ld (q2 B hBb) (Lt.Ok.ld (by have := (hy.gr gB).lds; rw [e2] at this; exact this) (Lt.Ok.ck (one _) ?_))))
  obtain ⟨D, d1, d2, d3, d4⟩ := sts_blk (encs l2) l1.length B _ b2 (by simp only [List.take_zero, List.nil_append, List.length_append, List.length_drop, el, hz, Nat.zero_add]; omega)
  have hap : B.app 1 ⟨false, H.n, 0, x.len, N, 1⟩ (encs l2) y.len = some (⟨false, H.n, 0, N, N, 1⟩, D) := by
    unfold Hp.app
    rw [if_pos (by first | omega | (dsimp only; omega)), if_pos (by first | omega | (dsimp only; omega)), if_neg (by simp)]
    dsimp only
    rw [Nat.zero_add, Nat.mul_one, hxl, d1]
    simp only [Option.map_some]
    congr 3
    omega
  rw [hap]
  simp only [Option.bind_some]
  rw [w64_id (n := (0 : Int) + 1 + 1) (by omega) (by omega), r135_l1]
  refine Lt.Ok.neg (by first | omega | (dsimp only; omega)) (Lt.Ok.ret ⟨⟨by rw [d3, b3]; omega, fun c hc => by rw [d4 c (by omega)]; exact gB.2 c hc⟩, ?_⟩)
  refine .of_get (ro := false) (v := ⟨false, H.n, 0, N, N, 1⟩) (l := l1 ++ l2) ?_ rfl (by simp [hNN]) (Nat.le_refl _) (.inr rfl) rfl
  rw [d2]
  congr 2
  rw [encs_append]
  have t1 : (List.take 0 zs ++ encs l1 ++ List.drop (0 + (encs l1).length) zs).take l1.length = encs l1 := by
    simp only [List.take_zero, List.nil_append]
    rw [List.take_append_of_le_length (by rw [el]; exact Nat.le_refl _), List.take_of_length_le (by rw [el]; exact Nat.le_refl _)]
  have t2 : (List.take 0 zs ++ encs l1 ++ List.drop (0 + (encs l1).length) zs).drop (l1.length + (encs l2).length) = [] := by
    apply List.drop_eq_nil_of_le
    simp only [List.take_zero, List.nil_append, List.length_append, List.length_drop, el, hz, Nat.zero_add]
    omega
  rw [t1, t2, List.append_nil]
/-! ### text -/
def wLeafSp : ByteArray := ByteArray.mk #[108, 101, 97, 102, 32]
def wOrders : ByteArray := ByteArray.mk #[111, 114, 100, 101, 114, 115]
def wTastes : ByteArray := ByteArray.mk #[116, 97, 115, 116, 101, 115]
def wOffers : ByteArray := ByteArray.mk #[111, 102, 102, 101, 114, 115]
def leafLn (l : ByteArray × Int) : ByteArray := (((wLeafSp ++ l.1) ++ ByteArray.mk #[32]) ++ itoaA l.2) ++ ByteArray.mk #[10]
def offW (p : Int × Int) : ByteArray := (itoaA p.1 ++ ByteArray.mk #[44]) ++ itoaA p.2
def leavesO (l : List (ByteArray × Int)) : Option ByteArray := l.foldl (fun o x => some (accO o (leafLn x))) none
def textS (s : St) : ByteArray :=
  accO (some (accO (some (accO (leavesO s.leaves) (lineA wOrders (s.orders.map (nameOf s))))) (lineA wTastes ([s.t0, s.t1, s.t2, s.t3].map itoaA)))) (lineA wOffers (s.offers.map offW))
theorem itoa_small {n : Int} (h0 : 0 ≤ n) (h1 : n ≤ 40) : (itoaA n).size ≤ 4 := by
  obtain ⟨k, rfl⟩ := Int.eq_ofNat_of_zero_le h0
  have key : ∀ k : Nat, k < 41 → (itoaA (k : Int)).size ≤ 4 := by decide +kernel
  exact key k (by omega)
theorem leafLn_size {l : ByteArray × Int} (h1 : l.1.size ≤ 8) (h2 : 0 ≤ l.2 ∧ l.2 ≤ 20) : 1 ≤ (leafLn l).size ∧ (leafLn l).size ≤ 19 := by
  have := itoa_small h2.1 (by omega)
  unfold leafLn wLeafSp
  simp only [ByteArray.size_append]
  have e1 : (ByteArray.mk #[108, 101, 97, 102, 32]).size = 5 := rfl
  have e2 : (ByteArray.mk #[32]).size = 1 := rfl
  have e3 : (ByteArray.mk #[10]).size = 1 := rfl
  omega
theorem leavesO_size : ∀ (l : List (ByteArray × Int)), (∀ x ∈ l, x.1.size ≤ 8 ∧ 0 ≤ x.2 ∧ x.2 ≤ 20) → szO (leavesO l) ≤ 19 * l.length := by
  intro l
  have key : ∀ (l : List (ByteArray × Int)) (o : Option ByteArray), (∀ x ∈ l, x.1.size ≤ 8 ∧ 0 ≤ x.2 ∧ x.2 ≤ 20) → szO (l.foldl (fun o x => some (accO o (leafLn x))) o) ≤ szO o + 19 * l.length := by
    intro l
    induction l with
    | nil => intro o _; simp
    | cons x l ih =>
      intro o h
      have h1 := ih (some (accO o (leafLn x))) fun y hy => h y (by simp [hy])
      have h2 := leafLn_size (h x (by simp)).1 (h x (by simp)).2
      have h3 : szO (some (accO o (leafLn x))) = szO o + (leafLn x).size := szO_acc o _
      rw [h3] at h1
      simp only [List.foldl_cons, List.length_cons]
      omega
  intro h
  have := key l none h
  have e : szO none = 0 := rfl
  unfold leavesO
  omega
theorem szs_names {s : St} (hs : s.Ok) : szs (s.orders.map (nameOf s)) ≤ 40 * 8 := by
  have h := szs_le (K := 8) (l := s.orders.map (nameOf s)) fun x hx => by
    obtain ⟨i, hi, rfl⟩ := List.mem_map.1 hx
    obtain ⟨h0, h1⟩ := hs.ol i hi
    unfold nameOf
    have hlt : i.toNat < s.leaves.length := by omega
    rw [List.getD_eq_getElem?_getD, List.getElem?_eq_getElem hlt]
    exact hs.nm _ (List.getElem_mem hlt)
  have := hs.o40
  rw [List.length_map] at h
  omega
theorem szs_tastes {s : St} (hs : s.Ok) : szs ([s.t0, s.t1, s.t2, s.t3].map itoaA) ≤ 16 := by
  obtain ⟨a0, a1, a2, a3, a4⟩ := hs.ts
  exact szs_le (K := 4) (l := [s.t0, s.t1, s.t2, s.t3].map itoaA) fun x hx => by
    obtain ⟨i, hi, rfl⟩ := List.mem_map.1 hx
    simp only [List.mem_cons, List.not_mem_nil, or_false] at hi
    rcases hi with rfl | rfl | rfl | rfl <;> exact itoa_small (by omega) (by omega)
theorem offW_size {p : Int × Int} (h : 0 ≤ p.1 ∧ p.1 ≤ 30 ∧ 0 ≤ p.2 ∧ p.2 ≤ 30) : (offW p).size ≤ 9 := by
  have h1 := itoa_small h.1 (by omega)
  have h2 := itoa_small h.2.2.1 (by omega)
  unfold offW
  simp only [ByteArray.size_append]
  have e2 : (ByteArray.mk #[44]).size = 1 := rfl
  omega
theorem r80_l1_ok {k n0 bb b o : Nat} {H A : Hp} {s : St} {v3 : Sl} {o2 : ByteArray} (hs : s.Ok) (h3 : SL H v3 s.offers) (hn : n0 = H.n) (lA : Lo n0 H A) (hB : BldAt n0 A bb (some o2)) (h2 : o2.size ≤ 100000) :
    Lt.Ok (r80_l1 (appA (k + 2)) FUEL bb bb ⟨true, 0, 0, 0, 0, 0⟩ v3 (v3.len : Int) 0 A) fun r B => Gr H B ∧ r = accO (some o2) (lineA wOffers (s.offers.map offW)) := by
  subst hn
  have hl := h3.len
  have h8 := hs.f8
  refine Lt.Ok.loop (L := fun K (t : Sl × Int) D => r80_l1 (appA (k + 2)) K bb bb t.1 v3 (v3.len : Int) t.2 D) (fun m t D => ∃ i : Nat, t.2 = (i : Int) ∧ i + m = s.offers.length ∧ Gr A D ∧ AccN A.n D t.1 ((s.offers.take i).map offW)) ?_ FUEL s.offers.length (⟨true, 0, 0, 0, 0, 0⟩, 0) A (by unfold FUEL; omega) ⟨0, rfl, by omega, .refl _, ⟨AccL.nilS, fun _ => rfl⟩⟩
  rintro K m ⟨r, i'⟩ D ⟨i, hi, him, g, ha⟩ ih
  dsimp only at *
  subst hi
  have lD : Lo H.n H D := lA.trans (.of_gr g lA.n)
  have hD := hB.gr g
  have h3D : SL D v3 s.offers := SL.sp h3 fun hne => lD.e _ (SL.lt h3 hne)
  rw [r80_l1]
  refine Lt.Ok.ite (fun hlt => ?_) fun hlt => ?_
  · have hil : i < s.offers.length := by omega
    have hx := hs.fl _ (List.getElem_mem hil)
    have e0 : D.ldI .i64 v3.b (v3.o + ((i : Int)).toNat * 2) = some s.offers[i].1 := h3D.ldI (i := i) (j := 0) hil rfl
    have e1 : D.ldI .i64 v3.b ((v3.o + ((i : Int)).toNat * 2) + 1) = some s.offers[i].2 := h3D.ldI (i := i) (j := 1) hil rfl
    refine Lt.Ok.ck (by omega) (Lt.Ok.ld e0 (Lt.Ok.ld e1 ?_))
    obtain ⟨F, q1, q2, q3, q4⟩ := sts_blk [.int .i64 s.offers[i].1, .int .i64 s.offers[i].2] 0 (D.push (.cells [.int .i64 0, .int .i64 0] false)) _ (Hp.get_push_new _ _) (by simp)
    have q2' : F.get D.n = some (.cells [.int .i64 s.offers[i].1, .int .i64 s.offers[i].2] false) := by rw [q2]; simp
    have gF : Gr D F := ⟨by rw [q3]; simp, fun c hc => by rw [q4 c (by omega), Hp.get_push_old _ _ hc]⟩
    refine Lt.Ok.ld q1 (Lt.Ok.ld (ldI_get q2' rfl) ?_)
    rw [app33]
    unfold itoaP
    rw [if_pos (by omega)]
    simp only [Option.bind_some, AV.asStr]
    have z1 := itoa_small hx.1 (by omega)
    have z2 := itoa_small hx.2.2.1 (by omega)
    have z3 : (ByteArray.mk #[44]).size = 1 := rfl
    refine Lt.Ok.ck (by omega) (Lt.Ok.ld (ldI_get q2' rfl) ?_)
    rw [app33]
    unfold itoaP
    rw [if_pos (by omega)]
    simp only [Option.bind_some, AV.asStr]
    refine Lt.Ok.ck (by rw [ByteArray.size_append]; omega) ?_
    have haF := ha.gr gF
    refine Lt.Ok.bind (AccN.push haF (g.trans gF).1 (offW s.offers[i]) rfl rfl (by simp; omega)) fun r' B ⟨k1, k2, k3, k4⟩ => ?_
    dsimp only
    refine Lt.Ok.ck (ldI_get q2' rfl) ?_
    rw [w64_succ (by omega)]
    refine ih (m - 1) (r', _) B (by omega) ⟨i + 1, rfl, by omega, But.gr k2 haF.1 (g.trans gF), ?_⟩
    rw [List.take_succ_eq_append_getElem hil, List.map_append]; exact k1
  · have : i = s.offers.length := by omega
    subst this
    rw [List.take_length] at ha
    rw [app132]
    have hsz : szs (s.offers.map offW) ≤ 8 * 9 := by
      have := szs_le (K := 9) (l := s.offers.map offW) fun x hx => by
        obtain ⟨p, hp, rfl⟩ := List.mem_map.1 hx
        exact offW_size (hs.fl p hp)
      rw [List.length_map] at this
      omega
    have hw : wOffers.size = 6 := rfl
    refine Lt.Ok.bind (P := fun _ B => BldAt H.n B bb (some (accO (some o2) (lineA wOffers (s.offers.map offW)))) ∧ Lo H.n D B) ?_ fun _ B ⟨hB, lB⟩ => ?_
    · obtain ⟨u, B, e1, h1, h2'⟩ := r132_ok (k := k) hD lD.n ha.1.sl wOffers (by rw [List.length_map]; omega) (by simp only [szO]; rw [List.length_map]; omega)
      have e1 : r132 (appA (k + 1)) wOffers r bb D = some (u, B) := e1
      show Lt.Ok ((r132 (appA (k + 1)) wOffers r bb D).map _) _
      rw [e1]
      exact Lt.Ok.ret ⟨h1, h2'⟩
    · rw [app136]
      obtain ⟨E, e1, lE⟩ := str_ok hB (by have := line_size wOffers (s.offers.map offW); simp only [accO, ByteArray.size_append]; omega)
      dsimp only
      rw [e1]
      simp only [Option.bind_some, AV.asStr]
      have := (lD.trans lB).trans lE
      exact Lt.Ok.ret ⟨⟨this.n, this.e⟩, rfl⟩
theorem text_ok {k : Nat} {H : Hp} {P : Nat → Prop} {b : Nat} {s : St} (h : StAt H P b s) (hs : s.Ok) : Lt.Ok (r80 (appA (k + 2)) b 0 H) fun r A => Gr H A ∧ r = textS s := by
  unfold r80
  refine Lt.Ok.lt ?_
  have hst := h
  obtain ⟨hb, v1, v2, v3, hg, h1, h2, h3⟩ := h
  have hbn := Hp.get_lt hg
  have g0 := Gr.push H (.bld none 0)
  have hB0 : BldAt H.n (H.push (.bld none 0)) H.n none := ⟨Nat.le_refl _, .inl ⟨rfl, Hp.get_push_new _ _⟩⟩
  have hn0 := Hp.n_push H (.bld none 0)
  generalize H.push (.bld none 0) = A0 at *
  have h6 := hs.l6
  have hl1 := h1.sl.len
  refine Lt.Ok.ld (ldSl_get (n := v1) ((g0.2 _ hbn).trans hg) rfl) ?_
  have hall : ∀ x ∈ s.leaves, x.1.size ≤ 8 ∧ 0 ≤ x.2 ∧ x.2 ≤ 20 := fun x hx => ⟨hs.nm x hx, hs.st x hx⟩
  refine Lt.Ok.loop (L := fun K (i : Int) D => r80_l0 (appA (k + 2)) K b 0 H.n v1 (v1.len : Int) i D) (fun m i' D => ∃ i : Nat, i' = (i : Int) ∧ i + m = s.leaves.length ∧ Lo H.n H D ∧ BldAt H.n D H.n (leavesO (s.leaves.take i))) ?_ FUEL s.leaves.length 0 A0 (by unfold FUEL; omega) ⟨0, rfl, by omega, .of_gr g0 (Nat.le_refl _), hB0⟩
  rintro K m i' D ⟨i, rfl, him, lD, hD⟩ ih
  have h1D : SL D v1 s.leaves := SL.sp h1.sl fun hne => lD.e _ (SL.lt h1.sl hne)
  rw [r80_l0]
  refine Lt.Ok.ite (fun hlt => ?_) fun hlt => ?_
  · have hil : i < s.leaves.length := by omega
    have hx := hall _ (List.getElem_mem hil)
    have e0 : D.ldStr v1.b (v1.o + ((i : Int)).toNat * 2) = some s.leaves[i].1 := SL.ldStr h1D (i := i) (j := 0) hil rfl
    have e1 : D.ldI .i64 v1.b ((v1.o + ((i : Int)).toNat * 2) + 1) = some s.leaves[i].2 := h1D.ldI (i := i) (j := 1) hil rfl
    refine Lt.Ok.ck (by omega) (Lt.Ok.ld e0 (Lt.Ok.ld e1 ?_))
    obtain ⟨F, q1, q2, q3, q4⟩ := sts_blk [.str s.leaves[i].1, .int .i64 s.leaves[i].2] 0 (D.push (.cells [.str (ByteArray.mk #[]), .int .i64 0] false)) _ (Hp.get_push_new _ _) (by simp)
    have q2' : F.get D.n = some (.cells [.str s.leaves[i].1, .int .i64 s.leaves[i].2] false) := by rw [q2]; simp
    have gF : Gr D F := ⟨by rw [q3]; simp, fun c hc => by rw [q4 c (by omega), Hp.get_push_old _ _ hc]⟩
    have q5 : F.ldStr D.n (0 + 0) = some s.leaves[i].1 := by simp [Hp.ldStr, ld_of_get q2', AV.asStr]
    have z0 := itoa_small hx.2.1 (by omega)
    have z1 : (ByteArray.mk #[108, 101, 97, 102, 32]).size = 5 := rfl
    have z2 : (ByteArray.mk #[32]).size = 1 := rfl
    have z3 : (ByteArray.mk #[10]).size = 1 := rfl
    refine Lt.Ok.ld q1 (Lt.Ok.ld q5 (Lt.Ok.ck (by omega) (Lt.Ok.ck (by simp only [ByteArray.size_append]; omega) (Lt.Ok.ld (ldI_get q2' rfl) ?_))))
    rw [app33]
    unfold itoaP
    rw [if_pos (by omega)]
    simp only [Option.bind_some, AV.asStr]
    refine Lt.Ok.ck (by simp only [ByteArray.size_append]; omega) (Lt.Ok.ck (by simp only [ByteArray.size_append]; omega) ?_)
    rw [app131]
    have hsz := leavesO_size (s.leaves.take i) fun x hx => hall x (List.mem_of_mem_take hx)
    rw [List.length_take] at hsz
    have hln := leafLn_size hx.1 hx.2
    obtain ⟨E, e2, hE, lE⟩ := ws_ok (hD.gr gF) (s := leafLn s.leaves[i]) hln.1 (by omega)
    have e2 : wsP H.n (((((ByteArray.mk #[108, 101, 97, 102, 32]) ++ s.leaves[i].1) ++ (ByteArray.mk #[32])) ++ itoaA s.leaves[i].2) ++ (ByteArray.mk #[10])) F = some (.tup [.int .i64 (leafLn s.leaves[i]).size, .niliface], E) := e2
    rw [e2]
    simp only [Option.bind_some, AV.asT, List.length_cons, List.length_nil]
    refine Lt.Ok.ck (by simp) ?_
    simp only [List.getElem?_cons_zero, List.getElem?_cons_succ, Option.bind_some, AV.asI, if_true]
    refine Lt.Ok.ck q5 ?_
    rw [w64_succ (by omega)]
    refine ih (m - 1) _ E (by omega) ⟨i + 1, rfl, by omega, (lD.trans (.of_gr gF lD.n)).trans lE, ?_⟩
    have e3 : leavesO (s.leaves.take (i + 1)) = some (accO (leavesO (s.leaves.take i)) (leafLn s.leaves[i])) := by
      unfold leavesO
      rw [List.take_succ_eq_append_getElem hil, List.foldl_append]; rfl
    rw [e3]; exact hE
  · have : i = s.leaves.length := by omega
    subst this
    rw [List.take_length] at hD
    have hgD : D.get b = some (.cells (stCells v1 v2 v3 s) false) := (lD.e _ hbn).trans hg
    have h2D : SL D v2 s.orders := SL.sp h2.sl fun hne => lD.e _ (SL.lt h2.sl hne)
    have hsD : StAt D P b s := hst.mono (fun c _ hc => lD.e c hc) fun _ _ hc => hc
    refine Lt.Ok.ld (ldSl_get (n := v2) hgD rfl) (Lt.Ok.bind (names_ok hsD h2D (by have := hs.o40; omega) hs.ol) fun r2 E ⟨gE, hr2⟩ => ?_)
    have hDE := hD.gr gE
    have lE := lD.trans (.of_gr gE lD.n)
    have sz0 := leavesO_size s.leaves hall
    have sz1 := szs_names hs
    have o40 := hs.o40
    dsimp only
    rw [app132]
    have hw1 : wOrders.size = 6 := rfl
    have hw2 : wTastes.size = 6 := rfl
    refine Lt.Ok.bind (P := fun _ B => BldAt H.n B H.n (some (accO (leavesO s.leaves) (lineA wOrders (s.orders.map (nameOf s))))) ∧ Lo H.n E B) ?_ fun _ B ⟨hB, lB⟩ => ?_
    · obtain ⟨u, B, e1, k1, k2⟩ := r132_ok (k := k) hDE lE.n hr2 wOrders (by rw [List.length_map]; omega) (by rw [List.length_map]; omega)
      have e1 : r132 (appA (k + 1)) (ByteArray.mk #[111, 114, 100, 101, 114, 115]) r2 H.n E = some (u, B) := e1
      rw [e1]
      exact Lt.Ok.ret ⟨k1, k2⟩
    dsimp only
    have lB' := lE.trans lB
    have hgB : B.get b = some (.cells (stCells v1 v2 v3 s) false) := (lB'.e _ hbn).trans hg
    have n1 := line_size wOrders (s.orders.map (nameOf s))
    rw [List.length_map] at n1
    have n2 := szO_acc (leavesO s.leaves) (lineA wOrders (s.orders.map (nameOf s)))
    generalize ho1 : accO (leavesO s.leaves) (lineA wOrders (s.orders.map (nameOf s))) = o1 at *
    generalize hx1 : (⟨false, b, ((0 + 2) + (0 : Int).toNat * 2) + (0 : Int).toNat * 1, (((2 : Nat) : Int) : Int).toNat - (0 : Int).toNat, 2 - (0 : Int).toNat, 0⟩ : Sl) = x
    generalize hy1 : (⟨false, b, ((0 + 2) + (1 : Int).toNat * 2) + (0 : Int).toNat * 1, (((2 : Nat) : Int) : Int).toNat - (0 : Int).toNat, 2 - (0 : Int).toNat, 0⟩ : Sl) = y
    have g3 := Gr.push B (.cells [.sl x, .sl y] false)
    have hg3 := Hp.get_push_new B (.cells [.sl x, .sl y] false)
    generalize B.push (.cells [.sl x, .sl y] false) = B3 at *
    have hgB3 := (g3.2 b (Hp.get_lt hgB)).trans hgB
    have hx : SL B3 x [s.t0, s.t1] := by
      subst hx1
      refine ⟨⟨rfl, ?_⟩, Nat.le_refl _, .inl rfl, fun h => by cases h⟩
      simp [Hp.lds, ld_of_get hgB3, stCells, encs, El.enc]
    have hy : SL B3 y [s.t2, s.t3] := by
      subst hy1
      refine ⟨⟨rfl, ?_⟩, Nat.le_refl _, .inl rfl, fun h => by cases h⟩
      simp [Hp.lds, ld_of_get hgB3, stCells, encs, El.enc]
    obtain ⟨t0, t1, t2, t3, t4⟩ := hs.ts
    refine Lt.Ok.bind (concat_ok hg3 hx hy (by simp) (by simp)) fun r4 B4 ⟨g4, hr4⟩ => ?_
    dsimp only at hr4 ⊢
    refine Lt.Ok.bind (numbers_ok (k := k + 1) hr4 (by simp) (fun i hi => by
      simp only [List.cons_append, List.nil_append, List.mem_cons, List.not_mem_nil, or_false] at hi
      rcases hi with rfl | rfl | rfl | rfl <;> omega)) fun r5 B5 ⟨g5, hr5⟩ => ?_
    dsimp only at hr5 ⊢
    rw [app132]
    have g35 := (g3.trans g4).trans g5
    have l5 := lB'.trans (.of_gr g35 lB'.n)
    have sz2 := szs_tastes hs
    refine Lt.Ok.bind (P := fun _ C => BldAt H.n C H.n (some (accO (some o1) (lineA wTastes ([s.t0, s.t1, s.t2, s.t3].map itoaA)))) ∧ Lo H.n B5 C) ?_ fun _ C ⟨hC, lC⟩ => ?_
    · obtain ⟨u, C, e1, k1, k2⟩ := r132_ok (k := k) (hB.gr g35) l5.n hr5 wTastes (by simp) (by
        have : szs (([s.t0, s.t1] ++ [s.t2, s.t3]).map itoaA) ≤ 16 := sz2
        have e : (([s.t0, s.t1] ++ [s.t2, s.t3]).map itoaA).length = 4 := by simp
        have e2 : szO (some o1) = o1.size := rfl
        omega)
      have e1 : r132 (appA (k + 1)) (ByteArray.mk #[116, 97, 115, 116, 101, 115]) r5 H.n B5 = some (u, C) := e1
      rw [e1]
      exact Lt.Ok.ret ⟨k1, k2⟩
    dsimp only
    have lC' := l5.trans lC
    have hgC : C.get b = some (.cells (stCells v1 v2 v3 s) false) := (lC'.e _ hbn).trans hg
    have m1 := line_size wTastes ([s.t0, s.t1, s.t2, s.t3].map itoaA)
    have m2 := szO_acc (some o1) (lineA wTastes ([s.t0, s.t1, s.t2, s.t3].map itoaA))
    have m3 : ([s.t0, s.t1, s.t2, s.t3].map itoaA).length = 4 := rfl
    have e2 : szO (some o1) = o1.size := rfl
    refine Lt.Ok.ld (ldSl_get (n := v3) hgC rfl) ((r80_l1_ok (k := k) (b := b) (o := 0) hs h3.sl rfl lC' hC (by omega)).mono fun r Z ⟨gZ, hr⟩ => ⟨gZ, ?_⟩)
    rw [hr]
    unfold textS
    rw [ho1]
theorem state_ok {k : Nat} {H : Hp} {c : Nat} {pv : Sl} {C : Chs} {t : Nat} (h : ChAt H c pv C t) (hC : C.Ok) : Lt.Ok (r41 (appA (k + 2)) c 0 H) fun r A => Gr H A ∧ r = textS (C.now C.at') := by
  unfold r41
  refine is (none_ok h hC) (Lt.Ok.neg (by simp) ?_)
  obtain ⟨b, e, hst⟩ := now_ok h hC
  refine is e ?_
  exact Lt.Ok.bind (text_ok hst (hC.st _ hC.cur)) fun r A h => Lt.Ok.ret h
/-! ### the reference's Text -/
def Ls (b : ByteArray) : List UInt8 := b.data.toList
theorem Ls_app (a b : ByteArray) : Ls (a ++ b) = Ls a ++ Ls b := by simp [Ls]
theorem Ls_inj {a b : ByteArray} (h : Ls a = Ls b) : a = b := by
  cases a with | mk a => cases b with | mk b => exact congrArg ByteArray.mk (Array.toList_inj.1 h)
def tailL (l : List ByteArray) : List UInt8 := (l.map fun x => (32 : UInt8) :: Ls x).flatten
theorem Ls_join (w : ByteArray) (l : List ByteArray) : Ls (joinA (w :: l) (ByteArray.mk #[32])) = Ls w ++ tailL l := by
  unfold joinA Ls
  simp only [List.map_cons, Lib.join_cons, Lib.joinTail, List.map_map]
  congr 1
theorem Ls_line (w : ByteArray) (l : List ByteArray) : Ls (lineA w l) = Ls w ++ tailL l ++ [10] := by
  unfold lineA
  rw [Ls_app, Ls_join]; rfl
theorem accO_L (o : Option ByteArray) (s : ByteArray) : Ls (accO o s) = (match o with | none => [] | some l => Ls l) ++ Ls s := by
  cases o with
  | none => rfl
  | some l => exact Ls_app l s
def oL : Option ByteArray → List UInt8 | none => [] | some l => Ls l
theorem leavesO_L (l : List (ByteArray × Int)) : oL (leavesO l) = (l.map fun x => Ls (leafLn x)).flatten := by
  have key : ∀ (l : List (ByteArray × Int)) (o : Option ByteArray), oL (l.foldl (fun o x => some (accO o (leafLn x))) o) = oL o ++ (l.map fun x => Ls (leafLn x)).flatten := by
    intro l
    induction l with
    | nil => intro o; simp
    | cons x l ih =>
      intro o
      rw [List.foldl_cons, ih]
      have e : oL (some (accO o (leafLn x))) = oL o ++ Ls (leafLn x) := by
        cases o with
        | none => rfl
        | some q => exact Ls_app q _
      rw [e]
      simp
  have := key l none
  simpa [oL, leavesO] using this
theorem textS_L (s : St) : Ls (textS s) = (s.leaves.map fun x => Ls (leafLn x)).flatten ++ (Ls wOrders ++ tailL (s.orders.map (nameOf s)) ++ [10]) ++ (Ls wTastes ++ tailL ([s.t0, s.t1, s.t2, s.t3].map itoaA) ++ [10]) ++ (Ls wOffers ++ tailL (s.offers.map offW) ++ [10]) := by
  unfold textS
  rw [accO_L]
  simp only [accO_L, Ls_line]
  rw [← leavesO_L]
  cases leavesO s.leaves <;> simp [oL]
def spW (x : ByteArray) : ByteArray := ByteArray.mk #[32] ++ x
def toldR (w : ByteArray) (l : List ByteArray) : ByteArray := l.foldl (fun o x => o ++ spW x) w
def spOff (p : Int × Int) : ByteArray := ((ByteArray.mk #[32] ++ itoaA p.1) ++ ByteArray.mk #[44]) ++ itoaA p.2
def nlOffers : ByteArray := ByteArray.mk #[10, 111, 102, 102, 101, 114, 115]
def textR (s : St) : ByteArray :=
  (s.offers.foldl (fun o x => o ++ spOff x) (toldR (s.leaves.foldl (fun o x => o ++ leafLn x) (ByteArray.mk #[]) ++ wOrders) (s.orders.map (nameOf s)) ++ ((ByteArray.mk #[10] ++ toldR wTastes ([s.t0, s.t1, s.t2, s.t3].map itoaA)) ++ nlOffers))) ++ ByteArray.mk #[10]
theorem foldl_L {α : Type} (f : α → ByteArray) : ∀ (l : List α) (o : ByteArray), Ls (l.foldl (fun o x => o ++ f x) o) = Ls o ++ (l.map fun x => Ls (f x)).flatten
  | [], o => by simp
  | x :: l, o => by
    rw [List.foldl_cons, foldl_L f l, Ls_app]; simp
theorem toldR_L (w : ByteArray) (l : List ByteArray) : Ls (toldR w l) = Ls w ++ tailL l := by
  unfold toldR
  rw [foldl_L]
  congr 1
theorem textR_eq (s : St) : textR s = textS s := by
  refine Ls_inj ?_
  rw [textS_L]
  unfold textR
  rw [Ls_app, foldl_L, Ls_app, toldR_L, Ls_app, foldl_L, Ls_app, Ls_app, toldR_L]
  have e1 : Ls (ByteArray.mk #[]) = [] := rfl
  have e2 : Ls (ByteArray.mk #[10]) = [10] := rfl
  have e3 : Ls nlOffers = 10 :: Ls wOffers := rfl
  have e4 : (s.offers.map fun x => Ls (spOff x)).flatten = tailL (s.offers.map offW) := by
    unfold tailL
    rw [List.map_map]
    congr 1
  rw [e1, e2, e3, e4]
  simp
theorem fold_size {α : Type} (f : α → ByteArray) (k : Nat) : ∀ (l : List α) (o : ByteArray), (∀ x ∈ l, (f x).size ≤ k) → (l.foldl (fun o x => o ++ f x) o).size ≤ o.size + l.length * k
  | [], o, h => by simp
  | x :: l, o, h => by
    have h1 := h x (by simp)
    have := fold_size f k l (o ++ f x) fun y hy => h y (by simp [hy])
    rw [List.foldl_cons, List.length_cons, Nat.succ_mul]
    rw [ByteArray.size_append] at this
    omega
theorem fold_take {α : Type} (f : α → ByteArray) (l : List α) (o : ByteArray) {i : Nat} (h : i < l.length) : (l.take (i + 1)).foldl (fun o x => o ++ f x) o = (l.take i).foldl (fun o x => o ++ f x) o ++ f l[i] := by
  rw [List.take_succ_eq_append_getElem h, List.foldl_append]; rfl
theorem told_ok {k : Nat} {H : Hp} {v : Sl} {l : List Int} {w : ByteArray} (hv : SL H v l) (hl : l.length ≤ 1000) (hr : ∀ x ∈ l, 0 ≤ x ∧ x ≤ 40) (hw : w.size ≤ 1000) :
    r138 (appA (k + 1)) w v H = some ((toldR w (l.map itoaA), 0), H) := by
  have key : Lt.Ok (r138 (appA (k + 1)) w v H) fun r A => A = H ∧ r = (toldR w (l.map itoaA), 0) := by
    unfold r138
    have hlen := hv.len
    have sz : ∀ i, i ≤ l.length → ((l.take i).foldl (fun o x => o ++ spW (itoaA x)) w).size ≤ 1000 + i * 5 := fun i hi => by
      have := fold_size (fun x => spW (itoaA x)) 5 (l.take i) w fun x hx => by
        have hx := hr x (List.mem_of_mem_take hx)
        have := itoa_small hx.1 hx.2
        unfold spW
        rw [ByteArray.size_append]
        have : (ByteArray.mk #[32]).size = 1 := rfl
        omega
      rw [List.length_take, Nat.min_eq_left hi] at this
      omega
    refine Lt.Ok.loop (L := fun K (t : ByteArray × Int) A => r138_l0 (appA (k + 1)) K t.1 v (v.len : Int) t.2 A) (fun m t A => ∃ i : Nat, t.2 = (i : Int) ∧ i + m = l.length ∧ A = H ∧ t.1 = (l.take i).foldl (fun o x => o ++ spW (itoaA x)) w) ?_ FUEL l.length (w, 0) H (by unfold FUEL; omega) ⟨0, rfl, by omega, rfl, by simp⟩
    rintro K m ⟨o, i'⟩ A ⟨i, hi, him, rfl, ho⟩ ih
    dsimp only at *
    subst hi
    rw [r138_l0]
    refine Lt.Ok.ite (fun hlt => ?_) fun hlt => ?_
    · have hil : i < l.length := by omega
      have hx := hr _ (List.getElem_mem hil)
      have hit := itoa_small hx.1 hx.2
      have hsz := sz i (by omega)
      rw [← ho] at hsz
      refine Lt.Ok.ck (by omega) (Lt.Ok.ld (hv.ldI (i := i) (j := 0) (n := l[i]) hil rfl) ?_)
      rw [app33]
      unfold itoaP
      rw [if_pos ⟨by omega, by omega⟩]
      simp only [Option.bind_some, AV.asStr]
      have e1 : (ByteArray.mk #[32]).size = 1 := rfl
      refine Lt.Ok.ck (by omega) (Lt.Ok.ck (by rw [ByteArray.size_append]; omega) ?_)
      rw [w64_succ (by omega)]
      refine ih (m - 1) (_, _) A (by omega) ⟨i + 1, rfl, by omega, rfl, ?_⟩
      rw [fold_take (fun x => spW (itoaA x)) l w hil, ← ho]
      rfl
    · have : i = l.length := by omega
      subst this
      rw [List.take_length] at ho
      refine Lt.Ok.ret ⟨rfl, ?_⟩
      rw [ho]
      unfold toldR
      rw [List.foldl_map]
  obtain ⟨r, A, e, rfl, rfl⟩ := key
  exact e
theorem nameOf_size {s : St} (hs : s.Ok) {i : Int} (h : 0 ≤ i ∧ i < s.leaves.length) : (nameOf s i).size ≤ 8 := by
  unfold nameOf
  rw [List.getD_eq_getElem?_getD, List.getElem?_eq_getElem (by omega)]
  exact hs.nm _ (List.getElem_mem _)
theorem nameOf_get {s : St} {i : Int} (h : i.toNat < s.leaves.length) : nameOf s i = s.leaves[i.toNat].1 := by
  unfold nameOf
  rw [List.getD_eq_getElem?_getD, List.getElem?_eq_getElem h]; rfl
theorem text_okR {k : Nat} {H : Hp} {v1 v2 v3 : Sl} {a b c d : Int} {s : St} (hS : StS H v1 v2 a b c d v3 s) (ok : s.Ok) : Lt.Ok (r83 (appA (k + 1)) v1 v2 a b c d v3 H) fun r A => Gr H A ∧ r = textS s := by
  obtain ⟨h1, h2, rfl, rfl, rfl, rfl, h3⟩ := hS
  have l6 := ok.l6; have l40 := ok.o40; have l8 := ok.f8
  obtain ⟨t0, t1, t2, t3, ts⟩ := ok.ts
  rw [← textR_eq]
  unfold r83
  refine Lt.Ok.lt ?_
  have g0 := Gr.push H (.cells [.sl v1, .sl v2, .int .i64 s.t0, .int .i64 s.t1, .int .i64 s.t2, .int .i64 s.t3, .sl v3] false)
  have q0 := Hp.get_push_new H (.cells [.sl v1, .sl v2, .int .i64 s.t0, .int .i64 s.t1, .int .i64 s.t2, .int .i64 s.t3, .sl v3] false)
  revert g0 q0
  generalize H.push (.cells [.sl v1, .sl v2, .int .i64 s.t0, .int .i64 s.t1, .int .i64 s.t2, .int .i64 s.t3, .sl v3] false) = H1
  intro g0 q0
  refine Lt.Ok.ld (ldSl_get q0 rfl) ?_
  have hl1 := h1.len; have hl2 := h2.len; have hl3 := h3.len
  have e1 : (ByteArray.mk #[32]).size = 1 := rfl
  have e5 : (ByteArray.mk #[108, 101, 97, 102, 32]).size = 5 := rfl
  have e10 : (ByteArray.mk #[10]).size = 1 := rfl
  have e44 : (ByteArray.mk #[44]).size = 1 := rfl
  have z1 : ∀ i, i ≤ s.leaves.length → ((s.leaves.take i).foldl (fun o x => o ++ leafLn x) (ByteArray.mk #[])).size ≤ i * 19 := fun i hi => by
    have := fold_size leafLn 19 (s.leaves.take i) (ByteArray.mk #[]) fun x hx => (leafLn_size (ok.nm _ (List.mem_of_mem_take hx)) (ok.st _ (List.mem_of_mem_take hx))).2
    rw [List.length_take, Nat.min_eq_left hi, show (ByteArray.mk #[]).size = 0 from rfl] at this
    omega
  refine Lt.Ok.loop (L := fun K (t : ByteArray × Int) A => r83_l0 (appA (k + 1)) K H.n t.1 v1 (v1.len : Int) t.2 A) (fun m t A => ∃ i : Nat, t.2 = (i : Int) ∧ i + m = s.leaves.length ∧ Gr H1 A ∧ t.1 = (s.leaves.take i).foldl (fun o x => o ++ leafLn x) (ByteArray.mk #[])) ?_ FUEL s.leaves.length (ByteArray.mk #[], 0) H1 (by unfold FUEL; omega) ⟨0, rfl, by omega, .refl _, by simp⟩
  rintro K m ⟨o, i'⟩ A ⟨i, hi, him, gA, ho⟩ ih
  dsimp only at *
  subst hi
  rw [r83_l0]
  have hsz := z1 i (by omega)
  rw [← ho] at hsz
  refine Lt.Ok.ite (fun hlt => ?_) fun hlt => ?_
  · have hil : i < s.leaves.length := by omega
    have h1A := (h1.gr g0).gr gA
    refine Lt.Ok.ck (by omega) (Lt.Ok.ld (SL.ldStr h1A (i := i) (j := 0) (n := s.leaves[i].1) hil rfl) (Lt.Ok.ld (h1A.ldI (i := i) (j := 1) (n := s.leaves[i].2) hil rfl) ?_))
    obtain ⟨B, k1, gB, k2⟩ := tmpN A [.str (ByteArray.mk #[]), .int .i64 0] [.str s.leaves[i].1, .int .i64 s.leaves[i].2] rfl
    have hnm := ok.nm _ (List.getElem_mem hil)
    have hst := ok.st _ (List.getElem_mem hil)
    have hit := itoa_small hst.1 (by omega)
    refine Lt.Ok.ld k1 (Lt.Ok.ld (ldStr_get k2 rfl) (Lt.Ok.ck (by omega) (Lt.Ok.ck (by rw [ByteArray.size_append]; omega) (Lt.Ok.ld (ldI_get k2 rfl) ?_))))
    rw [app33]
    unfold itoaP
    rw [if_pos ⟨by omega, by omega⟩]
    simp only [Option.bind_some, AV.asStr]
    refine Lt.Ok.ck (by simp only [ByteArray.size_append]; omega) (Lt.Ok.ck (by simp only [ByteArray.size_append]; omega) (Lt.Ok.ck (by simp only [ByteArray.size_append]; omega) (Lt.Ok.ck (ldStr_get k2 rfl) ?_)))
    rw [w64_succ (by omega)]
    refine ih (m - 1) (_, _) B (by omega) ⟨i + 1, rfl, by omega, gA.trans gB, ?_⟩
    rw [fold_take leafLn s.leaves _ hil, ← ho]
    rfl
  · have hil : i = s.leaves.length := by omega
    subst hil
    rw [List.take_length] at ho
    have q0A : A.get H.n = _ := (gA.2 _ (Hp.get_lt q0)).trans q0
    have e6 : (ByteArray.mk #[111, 114, 100, 101, 114, 115]).size = 6 := rfl
    refine Lt.Ok.ck (by omega) (Lt.Ok.ld (ldSl_get q0A rfl) ?_)
    have hw : (o ++ ByteArray.mk #[111, 114, 100, 101, 114, 115]).size ≤ 130 := by rw [ByteArray.size_append]; omega
    generalize hW : o ++ ByteArray.mk #[111, 114, 100, 101, 114, 115] = W at hw ⊢
    have z2 : ∀ i, i ≤ s.orders.length → ((s.orders.take i).foldl (fun o x => o ++ spW (nameOf s x)) W).size ≤ 130 + i * 9 := fun i hi => by
      have := fold_size (fun x => spW (nameOf s x)) 9 (s.orders.take i) W fun x hx => by
        have := nameOf_size ok (ok.ol _ (List.mem_of_mem_take hx))
        unfold spW
        rw [ByteArray.size_append]; omega
      rw [List.length_take, Nat.min_eq_left hi] at this
      omega
    refine Lt.Ok.loop (L := fun K (t : ByteArray × Int) B => r83_l1 (appA (k + 1)) K H.n t.1 v2 (v2.len : Int) t.2 B) (fun m t B => ∃ i : Nat, t.2 = (i : Int) ∧ i + m = s.orders.length ∧ B = A ∧ t.1 = (s.orders.take i).foldl (fun o x => o ++ spW (nameOf s x)) W) ?_ FUEL s.orders.length (W, 0) A (by unfold FUEL; omega) ⟨0, rfl, by omega, rfl, by simp⟩
    rintro K2 m2 ⟨o2, i'⟩ A' ⟨i, hi, him2, rfl, ho2⟩ ih2
    dsimp only at *
    subst hi
    rw [r83_l1]
    have hsz2 := z2 i (by omega)
    rw [← ho2] at hsz2
    refine Lt.Ok.ite (fun hlt => ?_) fun hlt => ?_
    · have hil : i < s.orders.length := by omega
      have hr := ok.ol _ (List.getElem_mem hil)
      refine Lt.Ok.ck (by omega) (Lt.Ok.ld (((h2.gr g0).gr gA).ldI (i := i) (j := 0) (n := s.orders[i]) hil rfl) (Lt.Ok.ld (ldSl_get q0A rfl) (Lt.Ok.ck (by omega) ?_)))
      have hns := nameOf_size ok hr
      have hld : A'.ldStr v1.b ((v1.o + (s.orders[i] : Int).toNat * 2) + 0) = some (nameOf s s.orders[i]) :=
        SL.ldStr ((h1.gr g0).gr gA) (i := (s.orders[i] : Int).toNat) (j := 0) (n := nameOf s s.orders[i]) (by omega) (by rw [nameOf_get (by omega)]; rfl)
      refine Lt.Ok.ld hld (Lt.Ok.ck (by omega) (Lt.Ok.ck (by simp only [ByteArray.size_append]; omega) ?_))
      rw [w64_succ (by omega)]
      refine ih2 (m2 - 1) (_, _) A' (by omega) ⟨i + 1, rfl, by omega, rfl, ?_⟩
      rw [fold_take (fun x => spW (nameOf s x)) s.orders _ hil, ← ho2]
      rfl
    · have hil : i = s.orders.length := by omega
      subst hil
      rw [List.take_length] at ho2
      have hts : SL A' ⟨false, H.n, (0 + 2) + (0 : Int).toNat * 1, (((4 : Nat) : Int) : Int).toNat - (0 : Int).toNat, 4 - (0 : Int).toNat, 0⟩ [s.t0, s.t1, s.t2, s.t3] := by
        refine ⟨⟨rfl, lds_of_get fun i hi => ?_⟩, Nat.le_refl _, .inl rfl, fun h => by cases h⟩
        rw [ld_of_get q0A]
        have : i < 4 := hi
        rcases i with _ | _ | _ | _ | i
        · rfl
        · rfl
        · rfl
        · rfl
        · omega
      refine is (told_ok hts (by simp) (fun x hx => by
        simp only [List.mem_cons, List.not_mem_nil, or_false] at hx
        rcases hx with rfl | rfl | rfl | rfl <;> omega) (by decide)) ?_
      dsimp only
      have hT : (toldR (ByteArray.mk #[116, 97, 115, 116, 101, 115]) ([s.t0, s.t1, s.t2, s.t3].map itoaA)).size ≤ 30 := by
        have i0 := itoa_small t0 (by omega)
        have i1 := itoa_small t1 (by omega)
        have i2 := itoa_small t2 (by omega)
        have i3 := itoa_small t3 (by omega)
        have e7 : (ByteArray.mk #[116, 97, 115, 116, 101, 115]).size = 6 := rfl
        simp only [toldR, List.map_cons, List.map_nil, List.foldl_cons, List.foldl_nil, spW, ByteArray.size_append]
        omega
      have e8 : (ByteArray.mk #[10, 111, 102, 102, 101, 114, 115]).size = 7 := rfl
      refine Lt.Ok.ck (by omega) (Lt.Ok.ck (by rw [ByteArray.size_append]; omega) (Lt.Ok.ck (by simp only [ByteArray.size_append]; omega) (Lt.Ok.ld (ldSl_get q0A rfl) ?_)))
      generalize hX : o2 ++ (((ByteArray.mk #[10]) ++ (toldR (ByteArray.mk #[116, 97, 115, 116, 101, 115]) ([s.t0, s.t1, s.t2, s.t3].map itoaA))) ++ (ByteArray.mk #[10, 111, 102, 102, 101, 114, 115])) = X
      have hXs : X.size ≤ 600 := by rw [← hX]; simp only [ByteArray.size_append]; omega
      have z3 : ∀ i, i ≤ s.offers.length → ((s.offers.take i).foldl (fun o x => o ++ spOff x) X).size ≤ 600 + i * 10 := fun i hi => by
        have := fold_size spOff 10 (s.offers.take i) X fun x hx => by
          have := ok.fl _ (List.mem_of_mem_take hx)
          have i1 := itoa_small this.1 (by omega)
          have i2 := itoa_small this.2.2.1 (by omega)
          unfold spOff
          simp only [ByteArray.size_append]; omega
        rw [List.length_take, Nat.min_eq_left hi] at this
        omega
      refine Lt.Ok.loop (L := fun K (t : ByteArray × Int) B => r83_l2 (appA (k + 1)) K t.1 v3 (v3.len : Int) t.2 B) (fun m t B => ∃ i : Nat, t.2 = (i : Int) ∧ i + m = s.offers.length ∧ Gr A' B ∧ t.1 = (s.offers.take i).foldl (fun o x => o ++ spOff x) X) ?_ FUEL s.offers.length (X, 0) A' (by unfold FUEL; omega) ⟨0, rfl, by omega, .refl _, by simp⟩
      rintro K3 m3 ⟨o3, i'⟩ B ⟨i, hi, him3, gB, ho3⟩ ih3
      dsimp only at *
      subst hi
      rw [r83_l2]
      have hsz3 := z3 i (by omega)
      rw [← ho3] at hsz3
      refine Lt.Ok.ite (fun hlt => ?_) fun hlt => ?_
      · have hil : i < s.offers.length := by omega
        have h3B := ((h3.gr g0).gr gA).gr gB
        have hfl := ok.fl _ (List.getElem_mem hil)
        have i1 := itoa_small hfl.1 (by omega)
        have i2 := itoa_small hfl.2.2.1 (by omega)
        refine Lt.Ok.ck (by omega) (Lt.Ok.ld (h3B.ldI (i := i) (j := 0) (n := s.offers[i].1) hil rfl) (Lt.Ok.ld (h3B.ldI (i := i) (j := 1) (n := s.offers[i].2) hil rfl) ?_))
        obtain ⟨D, k1, gD, k2⟩ := tmpN B [.int .i64 0, .int .i64 0] [.int .i64 s.offers[i].1, .int .i64 s.offers[i].2] rfl
        refine Lt.Ok.ld k1 (Lt.Ok.ld (ldI_get k2 rfl) ?_)
        rw [app33]
        unfold itoaP
        rw [if_pos ⟨by omega, by omega⟩]
        simp only [Option.bind_some, AV.asStr]
        refine Lt.Ok.ck (by omega) (Lt.Ok.ck (by rw [ByteArray.size_append]; omega) (Lt.Ok.ld (ldI_get k2 rfl) ?_))
        rw [app33]
        unfold itoaP
        rw [if_pos ⟨by omega, by omega⟩]
        simp only [Option.bind_some, AV.asStr]
        refine Lt.Ok.ck (by simp only [ByteArray.size_append]; omega) (Lt.Ok.ck (by simp only [ByteArray.size_append]; omega) (Lt.Ok.ck (ldI_get k2 rfl) ?_))
        rw [w64_succ (by omega)]
        refine ih3 (m3 - 1) (_, _) D (by omega) ⟨i + 1, rfl, by omega, gB.trans gD, ?_⟩
        rw [fold_take spOff s.offers _ hil, ← ho3]
        rfl
      · have hil : i = s.offers.length := by omega
        subst hil
        rw [List.take_length] at ho3
        refine Lt.Ok.ck (by omega) (Lt.Ok.ret ⟨(g0.trans gA).trans gB, ?_⟩)
        rw [ho3, ← hX, ho2, ← hW, ho]
        unfold textR toldR
        simp only [List.foldl_map]
        rfl
theorem equalN_ok {H : Hp} {v w : Sl} {l : List Int} (hv : SL H v l) (hw : SL H w l) (hb : l.length ≤ 1048577) : Lt.Ok (r21 v w H) fun r A => A = H ∧ r = true := by
  unfold r21
  have hl := hv.len
  have hl2 := hw.len
  refine Lt.Ok.neg (by omega) ?_
  refine Lt.Ok.loop (L := fun K (i : Int) A => r21_l0 K v w (v.len : Int) i A) (fun m i A => ∃ j : Nat, i = (j : Int) ∧ j + m = l.length ∧ A = H) ?_ FUEL l.length 0 H (by unfold FUEL; omega) ⟨0, rfl, by omega, rfl⟩
  rintro K m i A ⟨j, rfl, hj, rfl⟩ ih
  rw [r21_l0]
  refine Lt.Ok.ite (fun hlt => ?_) fun hlt => Lt.Ok.ret ⟨rfl, rfl⟩
  have hjl : j < l.length := by omega
  refine Lt.Ok.ck (by omega) (Lt.Ok.ld (hv.ldI (i := j) (j := 0) (n := l[j]) hjl rfl) (Lt.Ok.ck (by omega) (Lt.Ok.ld (hw.ldI (i := j) (j := 0) (n := l[j]) hjl rfl) ?_)))
  refine Lt.Ok.neg (by simp) ?_
  rw [w64_id (n := (j : Int) + 1) (by omega) (by omega)]
  exact ih (m - 1) _ A (by omega) ⟨j + 1, by omega, by omega, rfl⟩
theorem alike_ok {k : Nat} {H : Hp} {c d : Nat} {pv pw : Sl} {C : Chs} {t : Nat} (h : ChAt H c pv C t) (hR : RcAt H d pw C) (hC : C.Ok) : Lt.Ok (r46 (appA (k + 200)) c 0 d 0 H) fun r A => Gr H A ∧ r = true := by
  have hm := hC.most; have hcur := hC.cur
  unfold r46
  refine is (at_ok h hC) ?_
  dsimp only
  refine Lt.Ok.ld (ldI_get hR.get rfl) (Lt.Ok.pos rfl ?_)
  refine Lt.Ok.bind (state_ok (k := k + 198) h hC) fun r1 A1 ⟨g1, e1⟩ => ?_
  subst e1
  dsimp only
  have R1 := hR.gr g1
  refine Lt.Ok.ld (ldI_get R1.get rfl) ?_
  refine Lt.Ok.bind (state_okR (k := k + 199) R1 hC (by omega) hC.cur) fun r2 A2 ⟨g2, hst⟩ => ?_
  dsimp only
  refine Lt.Ok.bind (text_okR (k := k + 199) hst (hC.st _ hC.cur)) fun r3 A3 ⟨g3, e3⟩ => ?_
  subst e3
  dsimp only
  refine Lt.Ok.pos (strEq_iff.2 rfl) ?_
  have g13 := (g1.trans g2).trans g3
  have h3 := h.gr g13
  have R2 := R1.gr g2
  have R3 := R2.gr g3
  refine Lt.Ok.bind (path_ok h3 hC) fun p A4 ⟨g4, hp⟩ => ?_
  dsimp only
  have R4 := R3.gr g4
  refine Lt.Ok.ld (ldI_get R4.get rfl) ?_
  refine Lt.Ok.bind (path_okR (k := k + 200) R4 hC (by omega) hC.cur) fun q A5 ⟨g5, hq⟩ => ?_
  dsimp only
  have hpl : (C.path C.at').length ≤ 200 := by
    unfold Chs.path
    rw [List.length_map]
    have := Chs.way_len_le hC hC.cur
    omega
  refine Lt.Ok.bind (equal_ok (hp.gr g5).1.sl hq.1.sl (by omega)) fun b A6 ⟨e6, hb⟩ => ?_
  subst e6; subst hb
  dsimp only
  refine Lt.Ok.pos rfl ?_
  have R5 := R4.gr g5
  have h5 := (h3.gr g4).gr g5
  refine Lt.Ok.bind (kids_ok h5 hC) fun u A7 ⟨g7, hu⟩ => ?_
  dsimp only
  have R7 := R5.gr g7
  refine Lt.Ok.ld (ldI_get R7.get rfl) ?_
  refine Lt.Ok.bind (kids_okR R7 hC C.at') fun v A8 ⟨g8, hv⟩ => ?_
  dsimp only
  have hkl := kids_len C C.at'
  refine Lt.Ok.bind (equalN_ok (hu.gr g8).1.sl hv.1.sl (by rw [ints_len]; omega)) fun b A9 ⟨e9, hb⟩ => ?_
  subst e9; subst hb
  dsimp only
  repeat refine Lt.Ok.ck (by first | exact ldI_get hR.get rfl | exact ldI_get R1.get rfl | exact ldI_get R2.get rfl | exact ldI_get R3.get rfl | exact ldI_get R4.get rfl | exact ldI_get R5.get rfl | exact ldI_get R7.get rfl) ?_
  exact Lt.Ok.ret ⟨(((g13.trans g4).trans g5).trans g7).trans g8, rfl⟩
/-! ### reading books, in plain Lean -/
def Chs.rd : Nat → Chs → List UInt8 → Option Chs
  | 0, _, _ => none
  | _ + 1, C, [] => some ⟨C.pages, 0⟩
  | _ + 1, _, [_] => none
  | k + 1, C, p :: n :: r =>
    if r.length < n.toNat then none else if (C.go (p.toNat : Int)).2 ≠ 0 then none
    else if ((C.go (p.toNat : Int)).1.do ⟨(r.take n.toNat).toArray⟩).2.2 ≠ 0 ∨ ((C.go (p.toNat : Int)).1.do ⟨(r.take n.toNat).toArray⟩).1.pages.length = C.pages.length then none
    else Chs.rd k ((C.go (p.toNat : Int)).1.do ⟨(r.take n.toNat).toArray⟩).1 (r.drop n.toNat)
theorem u8_nat {n : Nat} (h : n < 256) : (UInt8.ofNat n).toNat = n := by simp [UInt8.toNat_ofNat]; omega
theorem Chs.rd_own {C : Chs} (hC : C.Ok) : ∀ (m i q k : Nat), 1 ≤ i → i + m = C.pages.length → m < k → Chs.rd k ⟨C.pages.take i, q⟩ (bytesP (C.pages.drop i)) = some ⟨C.pages, 0⟩
  | 0, i, q, k, h1, hi, hk => by
    obtain ⟨k, rfl⟩ : ∃ k', k = k' + 1 := ⟨k - 1, by omega⟩
    have e : C.pages.drop i = [] := List.drop_of_length_le (by omega)
    rw [e, List.take_of_length_le (by omega)]
    rfl
  | m + 1, i, q, k, h1, hi, hk => by
    obtain ⟨k, rfl⟩ : ∃ k', k = k' + 1 := ⟨k - 1, by omega⟩
    have hil : i < C.pages.length := by omega
    have hm := hC.most
    have hlen : (C.pages.take i).length = i := by rw [List.length_take]; omega
    have hup := hC.up i (by omega) hil
    have hsz := chg_le hC hil
    have ep : C.pages[i].parent = C.par i := par_get hil
    have ec : C.pages[i].change = C.chg i := chg_get hil
    have en : C.pages[i].st = C.now i := now_get hil
    have eb : bytesP (C.pages.drop i) = UInt8.ofNat (C.par i) :: UInt8.ofNat (C.chg i).size :: ((C.chg i).data.toList ++ bytesP (C.pages.drop (i + 1))) := by
      rw [List.drop_eq_getElem_cons hil]
      show pgB C.pages[i] ++ bytesP _ = _
      unfold pgB
      rw [ep, ec]; rfl
    have hcl : (C.chg i).data.toList.length = (C.chg i).size := by rw [Array.length_toList]; rfl
    have u1 := u8_nat (n := C.par i) (by omega)
    have u2 := u8_nat (n := (C.chg i).size) (by omega)
    have hgo : Chs.go ⟨C.pages.take i, q⟩ (C.par i : Int) = (⟨C.pages.take i, C.par i⟩, 0) := by
      unfold Chs.go
      rw [if_pos (by dsimp only; rw [hlen]; omega)]; simp only [Int.toNat_natCast]
    have hget : ∀ j, j < i → (C.pages.take i)[j]? = C.pages[j]? := fun j hj => List.getElem?_take_of_lt hj
    have hnow : (⟨C.pages.take i, C.par i⟩ : Chs).now (C.par i) = C.now (C.par i) := by unfold Chs.now; dsimp only; rw [hget _ hup]
    obtain ⟨w, hd⟩ := hC.did i (by omega) hil
    have hchild : (⟨C.pages.take i, C.par i⟩ : Chs).child (C.par i) (C.chg i) = none := by
      have hu := hC.uq i (by omega) hil
      unfold Chs.child at hu ⊢
      dsimp only
      obtain ⟨_, _, hlt⟩ := List.findIdx?_eq_some_iff_getElem.1 hu
      rw [List.findIdx?_eq_none_iff]
      intro x hx
      obtain ⟨j, hj, rfl⟩ := List.mem_iff_getElem.1 hx
      rw [hlen] at hj
      have := hlt j hj
      rw [List.getElem_take]
      simpa using this
    have hdo : Chs.do ⟨C.pages.take i, C.par i⟩ (C.chg i) = (⟨C.pages.take (i + 1), i⟩, w, 0) := by
      unfold Chs.do
      dsimp only
      rw [hnow, hd]
      dsimp only
      rw [hchild]
      dsimp only
      rw [hlen, if_neg (by omega), List.take_succ_eq_append_getElem hil]
      congr 4
      rw [← ep, ← ec, ← en]
    rw [eb]
    unfold Chs.rd
    have htk : ((C.chg i).data.toList ++ bytesP (C.pages.drop (i + 1))).take (UInt8.ofNat (C.chg i).size).toNat = (C.chg i).data.toList := by
      rw [u2, ← hcl, List.take_left]
    have hdr : ((C.chg i).data.toList ++ bytesP (C.pages.drop (i + 1))).drop (UInt8.ofNat (C.chg i).size).toNat = bytesP (C.pages.drop (i + 1)) := by
      rw [u2, ← hcl, List.drop_left]
    have hst : (⟨(C.chg i).data.toList.toArray⟩ : ByteArray) = C.chg i := by simp
    rw [htk, hdr, hst, u1, hgo]
    dsimp only
    rw [hdo]
    dsimp only
    rw [if_neg (by rw [List.length_append, u2, hcl]; omega), if_neg (by decide), if_neg (by rw [List.length_take, hlen]; omega)]
    exact Chs.rd_own hC m (i + 1) i k (by omega) (by omega) (by omega)
theorem Chs.rd_bytes {C : Chs} (hC : C.Ok) {k : Nat} (hk : C.pages.length ≤ k) : Chs.rd k Chs.new C.bytes = some ⟨C.pages, 0⟩ := by
  have hone := hC.one
  have h := Chs.rd_own hC (C.pages.length - 1) 1 0 k (Nat.le_refl _) (by omega) (by omega)
  have e : C.pages.take 1 = Chs.new.pages := by
    rw [List.take_succ_eq_append_getElem (by omega), List.take_zero]
    have ep : C.pages[0].parent = C.par 0 := par_get (by omega)
    have ec : C.pages[0].change = C.chg 0 := chg_get (by omega)
    have en : C.pages[0].st = C.now 0 := now_get (by omega)
    have e3 : C.pages[0] = ⟨ByteArray.mk #[], 0, St.new⟩ := by
      have h1 := hC.rc; have h2 := hC.root
      rw [h1] at ec; rw [h2.1] at ep; rw [h2.2] at en
      cases hx : C.pages[0] with
      | mk a b d =>
        rw [hx] at ep ec en
        dsimp only at ep ec en
        rw [ep, ec, en]
    rw [e3]; rfl
  rw [e] at h
  exact h
/-! ### Read -/
theorem Chs.rd_two : ∀ (k k' : Nat) (C : Chs) (l : List UInt8), l.length < k → l.length < k' → Chs.rd k C l = Chs.rd k' C l
  | 0, _, C, l, h, _ => by omega
  | _ + 1, 0, C, l, _, h => by omega
  | k + 1, k' + 1, C, [], _, _ => rfl
  | k + 1, k' + 1, C, [x], _, _ => rfl
  | k + 1, k' + 1, C, p :: n :: r, h, h' => by
    simp only [List.length_cons] at h h'
    have hl : (r.drop n.toNat).length ≤ r.length := by rw [List.length_drop]; omega
    unfold Chs.rd
    rw [Chs.rd_two k k' _ (r.drop n.toNat) (by omega) (by omega)]
theorem Chs.rd_fuel (k : Nat) (C : Chs) (l : List UInt8) (h : l.length < k) : Chs.rd k C l = Chs.rd (l.length + 1) C l := Chs.rd_two _ _ _ _ h (by omega)
theorem SL.ldU8 {H : Hp} {v : Sl} {l : List UInt8} (h : SL H v l) {i : Nat} (hi : i < l.length) : H.ldI .u8 v.b (v.o + i * 1) = some (l[i].toNat : Int) := by
  have := h.ld (i := i) (j := 0) (x := .int .u8 (l[i].toNat : Int)) hi rfl
  have e : v.o + i * El.sz UInt8 + 0 = v.o + i * 1 := rfl
  rw [e] at this
  show (H.ld v.b (v.o + i * 1)).bind (AV.asI .u8) = _
  rw [this]; rfl
theorem strNums (l : List UInt8) : strOfNums (l.map fun b => (b.toNat : Int)) = ⟨l.toArray⟩ := by
  unfold strOfNums
  congr 2
  rw [List.map_map]
  conv => rhs; rw [← List.map_id l]
  refine List.map_congr_left fun b _ => ?_
  simp
theorem read_ok {k : Nat} {H : Hp} {v : Sl} {l : List UInt8} (hv : SL H v l) (hb : l.length ≤ 1000000) :
    Lt.Ok (r36 (appA (k + 2)) v H) fun r A => Gr H A ∧ match Chs.rd (l.length + 1) Chs.new l with
      | none => r = (.nilptr, 3)
      | some X => ∃ d pw t, r = (.ptr d 0, 0) ∧ ChAt A d pw X t ∧ X.Ok ∧ H.n ≤ d ∧ H.n ≤ pw.b := by
  unfold r36
  refine Lt.Ok.bind new_ok fun r A ⟨h0, g, hc, pv, t0, hA, hp⟩ => ?_
  obtain ⟨c, o⟩ := r
  dsimp only at h0 hc hA ⊢
  subst h0
  have hbv : l ≠ [] → v.b < H.n := fun hne => SL.lt hv hne
  refine Lt.Ok.loop (L := fun K (s : Sl) D => r36_l0 (appA (k + 2)) K s c 0 D) (fun m s D => ∃ (q : List UInt8) (pe : Sl) (E : Chs) (te : Nat), q.length = m ∧ Gr H D ∧ ChAt D c pe E te ∧ E.Ok ∧ H.n ≤ pe.b ∧ SL D s q ∧ (q ≠ [] → s.b < H.n) ∧ q.length ≤ l.length ∧ Chs.rd (q.length + 1) E q = Chs.rd (l.length + 1) Chs.new l) ?_ FUEL l.length v A (by unfold FUEL; omega) ⟨l, pv, Chs.new, t0, rfl, g, hA, Chs.new_ok, hp, hv.gr g, hbv, Nat.le_refl _, rfl⟩
  rintro K m s D ⟨q, pe, E, te, hqm, gD, hD, hE, hpe, hs, hsb, hql, hrd⟩ ih
  have hsl := hs.len
  rw [← hrd]
  rw [r36_l0]
  have fail : ∀ (KK) (A : Hp), Gr H A → Chs.rd (q.length + 1) E q = none → Lt.Ok (r36_j1 (appA (k + 2)) KK s c 0 true A) (fun r A => Gr H A ∧ match Chs.rd (q.length + 1) E q with
      | none => r = (.nilptr, 3)
      | some X => ∃ d pw t, r = (.ptr d 0, 0) ∧ ChAt A d pw X t ∧ X.Ok ∧ H.n ≤ d ∧ H.n ≤ pw.b) := fun KK A gA e => by
    unfold r36_j1
    rw [e]
    exact Lt.Ok.pos rfl (Lt.Ok.ret ⟨gA, rfl⟩)
  match q, hqm, hs, hsl, hsb, hql, hrd, fail with
  | [], hqm, hs, hsl, hsb, hql, hrd, fail =>
    refine Lt.Ok.neg (by simp at hsl; omega) ?_
    have e : Chs.rd (([] : List UInt8).length + 1) E [] = some ⟨E.pages, 0⟩ := rfl
    rw [e]
    refine hD.setAt fun F hF sF => Lt.Ok.ret ⟨sF.gr gD hc hpe, c, pe, te, rfl, hF, ⟨hE.one, hE.most, by dsimp only; have := hE.one; omega, hE.root, hE.up, hE.st, hE.did, hE.uq, hE.rc⟩, hc, hpe⟩
  | [x], hqm, hs, hsl, hsb, hql, hrd, fail =>
    simp only [List.length_cons, List.length_nil] at hsl
    exact Lt.Ok.pos (by omega) (Lt.Ok.pos (by omega) (fail _ D gD rfl))
  | p :: n :: r, hqm, hs, hsl, hsb, hql, hrd, fail =>
    simp only [List.length_cons] at hsl hqm hql
    have hn8 : n.toNat < 256 := n.toNat_lt
    have hp8 : p.toNat < 256 := p.toNat_lt
    have u1 : D.ldI .u8 s.b (s.o + (1 : Int).toNat * 1) = some (n.toNat : Int) := SL.ldU8 hs (i := 1) (by simp)
    have u0 : D.ldI .u8 s.b (s.o + (0 : Int).toNat * 1) = some (p.toNat : Int) := SL.ldU8 hs (i := 0) (by simp)
    have w1 : w64 (2 + w64 (n.toNat : Int)) = ((2 + n.toNat : Nat) : Int) := by rw [w64_id (n := (n.toNat : Int)) (by omega) (by omega), w64_id (by omega) (by omega)]; omega
    refine Lt.Ok.pos (by omega) (Lt.Ok.neg (by omega) (Lt.Ok.ck (by omega) (Lt.Ok.ld u1 ?_)))
    rw [w1]
    refine Lt.Ok.ite (fun hlt => ?_) fun hlt => ?_
    · refine fail _ D gD ?_
      unfold Chs.rd
      rw [if_pos (by omega)]
    have hrl : n.toNat ≤ r.length := by omega
    refine Lt.Ok.ck (by omega) (Lt.Ok.ld u0 ?_)
    rw [w64_id (n := (p.toNat : Int)) (by omega) (by omega)]
    refine Lt.Ok.bind (go_ok (k := k + 1) hD hE (p.toNat : Int)) fun rg F ⟨hrg, hF, sF⟩ => ?_
    have gF := sF.gr gD hc hpe
    have hsne := hsb (by simp)
    have hsF : SL F s (p :: n :: r) := SL.sp hs fun _ => sF.e _ (by have := gD.1; omega) (by omega) (by omega)
    by_cases hgo : (E.go (p.toNat : Int)).2 ≠ 0
    · rw [decide_eq_true (by dsimp only; rw [hrg]; exact hgo)]
      refine fail _ F gF ?_
      unfold Chs.rd
      rw [if_neg (by omega), if_pos hgo]
    rw [decide_eq_false (by dsimp only; rw [hrg]; exact hgo)]
    dsimp only
    unfold r36_j1
    have hE2 := Chs.go_ok hE (p.toNat : Int)
    have hgp : (E.go (p.toNat : Int)).1.pages = E.pages := by unfold Chs.go; split <;> rfl
    have hFl := hF.len
    rw [hgp] at hFl
    have u1' : F.ldI .u8 s.b (s.o + (1 : Int).toNat * 1) = some (n.toNat : Int) := SL.ldU8 hsF (i := 1) (by simp)
    have hcap := hsF.cap
    have hopn : s.opn = 0 ∨ s.opn = 1 := hsF.opn
    refine Lt.Ok.neg (by simp) (Lt.Ok.ld (ldSl_get hF.get rfl) (Lt.Ok.ck (by omega) (Lt.Ok.ld u1' ?_)))
    rw [w1]
    refine Lt.Ok.ck (by refine ⟨?_, hopn⟩; omega) ?_
    have ec : s.cut 1 (2 : Int).toNat (((2 + n.toNat : Nat) : Int)).toNat = s.cut (El.sz UInt8) 2 (2 + n.toNat) := rfl
    rw [ec]
    have hcut := hsF.cut (lo := 2) (hi := 2 + n.toNat) (by omega) (by simp only [List.length_cons]; omega)
    have e2 : 2 + n.toNat - 2 = n.toNat := by omega
    rw [e2] at hcut
    have e3 : (p :: n :: r).drop 2 = r := rfl
    rw [e3] at hcut
    have hlds := hcut.lds
    have z1 : (s.cut (El.sz UInt8) 2 (2 + n.toNat)).len * El.sz UInt8 = (s.cut (El.sz UInt8) 2 (2 + n.toNat)).len := Nat.mul_one _
    rw [z1] at hlds
    rw [hlds]
    simp only [Option.bind_some, bInts_encs]
    rw [strNums]
    have hlsz : (ByteArray.mk (r.take n.toNat).toArray).size = n.toNat := by
      show (r.take n.toNat).toArray.size = _
      simp; omega
    generalize hline : (ByteArray.mk (r.take n.toNat).toArray) = line at *
    refine Lt.Ok.bind (do_ok (k := k) hF hE2 (line := line) (by omega)) fun rd G ⟨hr, pe', te', hG, sG⟩ => ?_
    have hE3 := Chs.do_ok hE2 line
    have gG := sG.gr gF hc hpe
    have hsG : SL G s (p :: n :: r) := SL.sp hsF fun _ => sG.e _ (by have := gF.1; omega) (by omega) (by omega)
    have hpe' : H.n ≤ pe'.b := by have := gF.1; rcases sG.q with e | e <;> omega
    have hGl := hG.len
    have gd : ∀ b, (r36_j2 (appA (k + 2)) (fun v1_ v2_ v3_ H_ => r36_l0 (appA (k + 2)) K v1_ v2_ v3_ H_) s c 0 line b G) = (r36_j2 (appA (k + 2)) (fun v1_ v2_ v3_ H_ => r36_l0 (appA (k + 2)) K v1_ v2_ v3_ H_) s c 0 line b G) := fun _ => rfl
    by_cases hz : ((E.go (p.toNat : Int)).1.do line).2.2 ≠ 0 ∨ ((E.go (p.toNat : Int)).1.do line).1.pages.length = E.pages.length
    · have en : Chs.rd ((p :: n :: r).length + 1) E (p :: n :: r) = none := by
        unfold Chs.rd
        rw [if_neg (by omega), if_neg hgo, hline, if_pos hz]
      rw [en]
      dsimp only
      have stop : Lt.Ok (r36_j2 (appA (k + 2)) (fun v1_ v2_ v3_ H_ => r36_l0 (appA (k + 2)) K v1_ v2_ v3_ H_) s c 0 line true G) (fun r A => Gr H A ∧ r = (.nilptr, 3)) := by
        unfold r36_j2
        exact Lt.Ok.pos rfl (Lt.Ok.ret ⟨gG, rfl⟩)
      by_cases hz1 : ((E.go (p.toNat : Int)).1.do line).2.2 ≠ 0
      · exact Lt.Ok.pos (by rw [hr]; exact hz1) stop
      · refine Lt.Ok.neg (by rw [hr]; exact hz1) (Lt.Ok.ld (ldSl_get hG.get rfl) ?_)
        rw [decide_eq_true (by rcases hz with hz | hz; exact absurd hz hz1; omega)]
        exact stop
    · have hz1 : ¬ ((E.go (p.toNat : Int)).1.do line).2.2 ≠ 0 := fun h => hz (.inl h)
      have hz2 : ¬ ((E.go (p.toNat : Int)).1.do line).1.pages.length = E.pages.length := fun h => hz (.inr h)
      refine Lt.Ok.neg (by dsimp only; rw [hr]; exact hz1) (Lt.Ok.ld (ldSl_get hG.get rfl) ?_)
      rw [decide_eq_false (by omega)]
      unfold r36_j2
      have w2 : w64 (2 + (line.size : Int)) = ((2 + n.toNat : Nat) : Int) := by rw [w64_id (by omega) (by omega)]; omega
      rw [w2]
      refine Lt.Ok.neg (by simp) (Lt.Ok.ck (by refine ⟨?_, hopn⟩; omega) ?_)
      have ec2 : s.cut 1 (((2 + n.toNat : Nat) : Int)).toNat ((s.len : Int)).toNat = s.cut (El.sz UInt8) (2 + n.toNat) s.len := rfl
      rw [ec2]
      have hcut2 := hsG.cut (lo := 2 + n.toNat) (hi := s.len) (by omega) (by simp only [List.length_cons]; omega)
      have e4 : (p :: n :: r).drop (2 + n.toNat) = r.drop n.toNat := by
        rw [Nat.add_comm]; rfl
      rw [e4, List.take_of_length_le (by rw [List.length_drop]; omega)] at hcut2
      have hnn : s.nil = false := hs.nonnil (by simp)
      have hen : Chs.rd ((p :: n :: r).length + 1) E (p :: n :: r) = Chs.rd ((r.drop n.toNat).length + 1) ((E.go (p.toNat : Int)).1.do line).1 (r.drop n.toNat) := by
        have hl : (r.drop n.toNat).length ≤ r.length := by rw [List.length_drop]; omega
        conv => lhs; unfold Chs.rd
        rw [if_neg (by omega), if_neg hgo, hline, if_neg hz, Chs.rd_fuel _ _ _ (by simp only [List.length_cons]; omega)]
      have := ih (r.drop n.toNat).length (s.cut (El.sz UInt8) (2 + n.toNat) s.len) G (by rw [List.length_drop]; omega) ⟨r.drop n.toNat, pe', _, te', rfl, gG, hG, hE3, hpe', hcut2, fun _ => by
        have : (s.cut (El.sz UInt8) (2 + n.toNat) s.len).b = s.b := by simp [Sl.cut, hnn]
        rw [this]; exact hsne, by rw [List.length_drop]; omega, by rw [← hen]; exact hrd⟩
      rw [hrd]
      exact this
/-! ### two chests side by side -/
section
variable {H : Hp} {c : Nat} {pv : Sl} {C : Chs} {t : Nat}
theorem go2_ok {k : Nat} (h : ChAt H c pv C t) (hC : C.Ok) (n : Int) : Lt.Ok (r40 (appA (k + 1)) c 0 n H) fun r A => r = (C.go n).2 ∧ ChAt A c pv (C.go n).1 t ∧ H.n ≤ A.n ∧ ∀ b, b < H.n → b ≠ c → A.get b = H.get b := by
  unfold r40 Chs.go
  refine is (none_ok h hC) (Lt.Ok.neg (by simp) ?_)
  dsimp only
  have g0 := Gr.push H (.cells [.int .i64 n] false)
  refine Lt.Ok.bind (has_ok (k := k) (h.gr g0) hC (sl_box1 H n) (by simp)) fun r A ⟨g, e⟩ => ?_
  have hA := h.gr (g0.trans g)
  have gA := g0.trans g
  dsimp only at e ⊢
  subst e
  simp only [List.all_cons, List.all_nil, Bool.and_true, decide_eq_true_eq]
  by_cases hc : 0 ≤ n ∧ n < (C.pages.length : Int)
  · rw [if_pos hc, if_pos hc]
    obtain ⟨m, rfl⟩ := Int.eq_ofNat_of_zero_le hc.1
    refine Lt.Ok.st hA.get (by simp) fun B e hg => ?_
    have oth : ∀ b, b ≠ c → B.get b = A.get b := fun b hb => by rw [e]; exact Hp.get_set_other _ _ hb
    have hn : B.n = A.n := by rw [e]; simp
    obtain ⟨bs, h1, h2, h3⟩ := hA.ex
    refine Lt.Ok.ret ⟨rfl, ⟨by simpa using hg, hA.nn, hA.o, hA.len, hA.cap, hA.opn, hA.ne, hA.tc, hA.tp, by have := hA.tn; omega, bs, h1, by rw [oth _ hA.ne.symm]; exact h2, fun i a b => (h3 i a b).mono (fun x hx _ => oth x hx.1) fun _ _ hx => hx⟩, by have := gA.1; omega, fun b hb hbc => by rw [oth b hbc]; exact gA.2 b hb⟩
  · rw [if_neg hc, if_neg hc]
    exact Lt.Ok.ret ⟨rfl, hA, gA.1, fun b hb _ => gA.2 b hb⟩
end
section
variable {H : Hp} {c : Nat} {pv : Sl} {C : Chs} {Q : Nat → Prop}
theorem Chs.go_pages (C : Chs) (n : Int) : (C.go n).1.pages = C.pages := by
  unfold Chs.go; split <;> rfl
theorem goQ_ok {k : Nat} (h : ChQ H c pv C Q) (hC : C.Ok) (n : Int) : Lt.Ok (r40 (appA (k + 1)) c 0 n H) fun r A => r = (C.go n).2 ∧ ChQ A c pv (C.go n).1 Q ∧ H.n ≤ A.n ∧ ∀ b, b < H.n → b ≠ c → A.get b = H.get b := by
  refine (go2_ok (k := k) h.at hC n).mono fun r A ⟨h1, h2, h3, h4⟩ => ⟨h1, ?_, h3, h4⟩
  exact h.moved (Chs.go_pages C n) h2.get h4 fun _ _ q => q
end
end Go.Lt.P10
