/- PLAIN LAWS OF WHAT IS COMPUTED, for the statement 'DealsEqual'. Nothing is asked of the input. -/
import Derived.Test.YtficeemoekikdaaU9VNt
import Derived.Test.YtficeemoekikdaaLB
set_option linter.unusedVariables false
set_option linter.unusedSimpArgs false
namespace Go.Lt.P5
open Go Go.Lt Go.Proofs
theorem awakeE (k : Nat) (H : Hp) : appA k 19 [] H = some (.bool true, H) := rfl
def addN (L : List Pr) (x : Pr) : List Pr := if x ∈ L then L else L ++ [x]
def bothF (L : List Pr) (x : Pr) : List Pr := addN (addN L x) (x.2, x.1)
theorem addN_in {L : List Pr} {x : Pr} (h : x ∈ L) : addN L x = L := if_pos h
theorem addN_out {L : List Pr} {x : Pr} (h : ¬ x ∈ L) : addN L x = L ++ [x] := if_neg h
theorem addN_nd {L : List Pr} {x : Pr} (h : L.Nodup) : (addN L x).Nodup := by
  unfold addN
  split
  · exact h
  · rename_i c
    refine List.nodup_append.2 ⟨h, by simp, fun a ha b hb e => ?_⟩
    rw [List.mem_singleton] at hb
    subst hb; subst e
    exact c ha
theorem mem_addN {L : List Pr} {x y : Pr} : y ∈ addN L x ↔ y ∈ L ∨ y = x := by
  unfold addN
  split
  · rename_i c
    exact ⟨.inl, fun h => h.elim id fun e => e ▸ c⟩
  · rw [List.mem_append, List.mem_singleton]
theorem addN_len {L : List Pr} {x : Pr} : (addN L x).length ≤ L.length + 1 := by
  unfold addN
  split <;> simp
theorem both_mem (l : List Pr) : ∀ y, y ∈ l.foldl bothF [] ↔ y ∈ l ∨ (y.2, y.1) ∈ l := by
  have key : ∀ (l L : List Pr) y, y ∈ l.foldl bothF L ↔ y ∈ L ∨ y ∈ l ∨ (y.2, y.1) ∈ l := by
    intro l
    induction l with
    | nil => intro L y; simp
    | cons x l ih =>
      intro L y
      rw [List.foldl_cons, ih]
      unfold bothF
      rw [mem_addN, mem_addN, List.mem_cons, List.mem_cons]
      have e : y = (x.2, x.1) ↔ (y.2, y.1) = x := ⟨fun h => by rw [h], fun h => by rw [← h]⟩
      rw [e]
      grind
  intro y
  rw [key]
  simp
theorem both_nd (l : List Pr) : (l.foldl bothF []).Nodup := by
  have key : ∀ (l L : List Pr), L.Nodup → (l.foldl bothF L).Nodup := by
    intro l
    induction l with
    | nil => intro L h; exact h
    | cons x l ih => intro L h; rw [List.foldl_cons]; exact ih _ (addN_nd (addN_nd h))
  exact key l [] List.nodup_nil
theorem both_off {l : List Pr} (ho : offP l) (h8 : (l.foldl bothF []).length ≤ 8) : offP (l.foldl bothF []) := by
  refine ⟨?_, h8, fun x hx => ?_, both_nd l⟩
  · match l, ho with
    | x :: r, _ =>
      have : x ∈ (x :: r).foldl bothF [] := (both_mem _ x).2 (.inl List.mem_cons_self)
      exact List.length_pos_iff.2 (List.ne_nil_of_mem this)
  · rcases (both_mem l x).1 hx with h | h
    · exact ho.2.2.1 _ h
    · have := ho.2.2.1 _ h
      unfold num at *
      dsimp only at this
      omega
theorem both_sym (l : List Pr) : ∀ o, o ∈ l.foldl bothF [] ↔ (o.2, o.1) ∈ l.foldl bothF [] := fun o => by
  rw [both_mem, both_mem]
  dsimp only
  exact ⟨fun h => h.symm, fun h => h.symm⟩
section
variable {l : List Pr} {f : Int}
theorem eq_prod (hs : ∀ o, o ∈ l ↔ (o.2, o.1) ∈ l) {p h : Rat × Rat} (hp : IsProd l (f, f) p) (hh : IsHalf l (f, f) h) (hrm : roomP l (f, f)) : p.1 = p.2 ∧ p = h := by
  have e : p = (p.2, p.1) := hp.uniq (hp.swp hs)
  have e1 : p.1 = p.2 := congrArg Prod.fst e
  refine ⟨e1, ?_⟩
  have hd := hh.deal hrm
  obtain ⟨m, h1, rfl⟩ := hh
  have h2 := hp.max _ _ hd.1 hd.2.1 hd.2.2
  have h3 := (h1 (p.1 - f)).1 (by
    have := hp.reg
    have e2 : ((f, f) : Pr).1 = f := rfl
    have e3 : ((f, f) : Pr).2 = f := rfl
    rw [e2, e3]
    exact this.down (by grind) (by grind))
  have hx := hp.x
  have hm := h1.pos hrm (by decide) (by decide)
  dsimp only at *
  rw [← e1] at h2
  have e4 : (f : Rat) + m - f = m := by grind
  rw [e4] at h2
  have hge : m ≤ p.1 - f := by
    by_cases c : m ≤ p.1 - f
    · exact c
    · have a1 := Rat.mul_lt_mul_of_pos_left (show p.1 - f < m by grind) (show 0 < p.1 - f by grind)
      have a2 := Rat.mul_le_mul_of_nonneg_right h3 (Rat.le_of_lt hm)
      grind
  have : p.1 - f = m := Rat.le_antisymm h3 hge
  exact Prod.ext (by dsimp only; grind) (by dsimp only; grind)
theorem eq_best (hs : ∀ o, o ∈ l ↔ (o.2, o.1) ∈ l) {b h : Rat × Rat} (hb : IsBest l (f, f) b) (hh : IsHalf l (f, f) h) (hrm : roomP l (f, f)) : b.1 = b.2 ∧ b = h := by
  obtain ⟨m, h1, rfl⟩ := hh
  obtain ⟨a, c, t, b1, b2, b3, rfl⟩ := hb
  have e : a = c := b1.uniq (IsTop.swp (l' := l) hs b2)
  subst e
  have ha := b1.pos hrm (by decide) (by decide)
  refine ⟨rfl, ?_⟩
  have k1 := (h1 (t * a)).1 (by rw [Rat.mul_one]; exact b3.reg)
  have e0 : m / a * a = m := Rat.div_mul_cancel (by grind)
  have k2 := (b3 (m / a)).1 (by rw [e0]; have := h1.reg; rw [Rat.mul_one] at this; exact this)
  have k3 := Rat.mul_le_mul_of_nonneg_right k2 (Rat.le_of_lt ha)
  rw [e0] at k3
  rw [Rat.le_antisymm k1 k3]
theorem eq_half {h : Rat × Rat} (hh : IsHalf l (f, f) h) : h.1 = h.2 := by
  obtain ⟨m, h1, rfl⟩ := hh
  rfl
end
/-- all three give both the same -/
theorem eqLoop {HH H : Hp} {b1 : Nat} {p b h : Rat × Rat} (hp : p.1 = p.2) (hb : b.1 = b.2) (hh : h.1 = h.2) (e1 : p = h) (e2 : b = h) (c : Cx HH H [(b1, pt12 p b h)]) :
    Ok (r9_l2 (appA 20) FUEL b1 (fq p.1).1 (fq p.1).2 (fq p.2).1 (fq p.2).2 (fq b.1).1 (fq b.1).2 (fq b.2).1 (fq b.2).2 (fq h.1).1 (fq h.1).2 (fq h.2).1 (fq h.2).2 0 H) fun r _ => r = true := by
  refine Ok.loop (L := fun K (s : Int) H2 => r9_l2 (appA 20) K b1 (fq p.1).1 (fq p.1).2 (fq p.2).1 (fq p.2).2 (fq b.1).1 (fq b.1).2 (fq b.2).1 (fq b.2).2 (fq h.1).1 (fq h.1).2 (fq h.2).1 (fq h.2).2 s H2) (fun m s H' => ∃ i : Nat, s = i ∧ i + m = 3 ∧ Cx HH H' [(b1, pt12 p b h)]) ?_ FUEL 3 0 H (by unfold FUEL; omega) ⟨0, rfl, rfl, c⟩
  rintro K m s H1 ⟨i, rfl, hm, c⟩ ih
  try dsimp only at *
  rw [r9_l2]
  by_cases hi : i < 3
  · obtain ⟨q, q1, q2, q3, qa, _⟩ := nth3 (p := p) (b := b) (h := h) hi
    have qa : apart true 4 [.int .i64 (fq p.1).1, .int .i64 (fq p.1).2, .int .i64 (fq p.2).1, .int .i64 (fq p.2).2, .int .i64 (fq b.1).1, .int .i64 (fq b.1).2, .int .i64 (fq b.2).1, .int .i64 (fq b.2).2, .int .i64 (fq h.1).1, .int .i64 (fq h.1).2, .int .i64 (fq h.2).1, .int .i64 (fq h.2).2] (i * 4) = some (.agg [.int .i64 (fq q.1).1, .int .i64 (fq q.1).2, .int .i64 (fq q.2).1, .int .i64 (fq q.2).2]) := qa
    have hq : q.1 = q.2 := by
      rcases (show i = 0 ∨ i = 1 ∨ i = 2 by omega) with cc | cc | cc
      · rw [q1 cc]; exact hp
      · rw [q2 cc]; exact hb
      · rw [q3 cc]; exact hh
    rw [Int.toNat_natCast]
    refine Ok.pos (by omega) (Ok.ck (by omega) (Ok.ld (b := .agg [.int .i64 (fq q.1).1, .int .i64 (fq q.1).2, .int .i64 (fq q.2).1, .int .i64 (fq q.2).2]) qa (Ok.ld rfl (Ok.ck rfl (Ok.ld rfl (Ok.ld rfl (Ok.ld rfl (Ok.ld rfl (Ok.ld rfl (Ok.ld rfl (Ok.ld rfl (Ok.ld rfl (Ok.alo c fun E gE c => ?_)))))))))))))
    refine Ok.cld c (.head _) rfl (Ok.cld c (.head _) rfl (Ok.cld c (.head _) rfl (Ok.cld c (.head _) rfl (Ok.pos (by rw [hq]; simp) ?_))))
    rw [w64_succ (by omega)]
    exact ih (m - 1) _ E (by omega) ⟨i + 1, rfl, by omega, c.weak (.cons _ (.refl _))⟩
  · subst e1; subst e2
    refine Ok.neg (by omega) ?_
    repeat (refine Ok.cld c (.head _) rfl ?_)
    refine Ok.pos (by simp) ?_
    repeat (refine Ok.cld c (.head _) rfl ?_)
    exact Ok.pos (by simp) (Ok.ld (awakeE 20 _) (Ok.ld rfl (Ok.ret rfl)))
/-- the rules on both -/
theorem equalEnd {H0' H : Hp} {w v : Sl} {L l : List Pr} {f i n : Int} (hL : L = l.foldl bothF []) (ho : offP l) (hw : AccL H0'.n H w L) (hn : ¬ i < n) (K : Nat) : Ok (r9_l0 (appA 20) (K + 1) f w v n i H) fun r _ => r = true := by
  have hs := hw.sl
  have hlen := hs.len
  rw [r9_l0]
  refine Ok.neg hn (Ok.ite (fun _ => Ok.ld (awakeE 20 _) (Ok.ld rfl (Ok.ret rfl))) fun c8 => ?_)
  have h8 : (l.foldl bothF []).length ≤ 8 := by rw [← hL]; omega
  have hob := both_off ho h8
  have hsym := both_sym l
  rw [← hL] at hob hsym h8
  refine Ok.bind (r39_ok (k := 17) (d := (f, f)) hs (by omega)) fun r A ⟨gA, hr⟩ => ?_
  rcases hr with ⟨_, hd, hrm, p, b, h, hp, hpd, hbt, hh, hpb, hbb, hhb, rfl⟩ | ⟨hno, rfl⟩
  · refine Ok.alo (.nil A) fun C gC c => Ok.pos rfl ?_
    have c : Cx A C [(A.n, pt12 p b h)] := c
    show Ok (r9_j3 (appA 20) A.n true false C) _
    unfold r9_j3
    refine Ok.neg (by simp) ?_
    repeat (refine Ok.cld c (.head _) rfl ?_)
    obtain ⟨a1, a2⟩ := eq_prod hsym hp hh hrm
    obtain ⟨b1, b2⟩ := eq_best hsym hbt hh hrm
    exact eqLoop a1 b1 (eq_half hh) a2 b2 c
  · refine Ok.alo (.nil A) fun C gC c => Ok.pos rfl ?_
    show Ok (r9_j3 (appA 20) A.n true true C) _
    unfold r9_j3
    exact Ok.pos rfl (Ok.pos rfl (Ok.ld (awakeE 20 _) (Ok.ld rfl (Ok.ret rfl))))
/-- an offer and the same exchanged -/
theorem r9_l1_ok {H0' H : Hp} {w v z : Sl} {L : List Pr} {x : Pr} {f n i : Int} {kt0 : Int → Sl → Sl → Int → Int → Hp → Option (Bool × Hp)} (hw : AccL H0'.n H w L) (hlen : L.length ≤ 100) (g : Gr H0' H) (hz : SL H z [x, (x.2, x.1)]) (hzn : ¬ (w.nil = false ∧ z.b = w.b)) (hz0 : H0'.n ≤ z.b)
    (hk : ∀ w' H', AccL H0'.n H' w' (bothF L x) → Gr H0' H' → Ok (kt0 f w' v n (w64 (i + 1)) H') fun r _ => r = true) : Ok (r9_l1 (appA 20) kt0 FUEL f w v n i z 2 0 H) fun r _ => r = true := by
  have hzl := hz.len
  refine Ok.loop (L := fun K (s : Sl × Int) H2 => r9_l1 (appA 20) kt0 K f s.1 v n i z 2 s.2 H2) (fun m s H' => ∃ j : Nat, s.2 = j ∧ j + m = 2 ∧ AccL H0'.n H' s.1 (([x, (x.2, x.1)].take j).foldl addN L) ∧ Gr H0' H' ∧ SL H' z [x, (x.2, x.1)] ∧ ¬ (s.1.nil = false ∧ z.b = s.1.b)) ?_ FUEL 2 (w, 0) H (by unfold FUEL; omega) ⟨0, rfl, rfl, hw, g, hz, hzn⟩
  rintro K m ⟨u, s⟩ H1 ⟨j, rfl, hm, hu, g1, hz, hzn⟩ ih
  try dsimp only at *
  rw [r9_l1]
  by_cases h : j < 2
  · have hj : j < [x, (x.2, x.1)].length := by simpa using h
    have hzlt := SL.lt hz (by simp)
    have hll : (([x, (x.2, x.1)].take j).foldl addN L).length ≤ 200 := by
      match j, h with
      | 0, _ => simp; omega
      | 1, _ => have := @addN_len L x; simp; omega
    refine Ok.pos (by omega) (Ok.ck (by omega) (Ok.ld (hz.ldI (i := j) (j := 0) hj rfl) (Ok.ld (hz.ldI (i := j) (j := 1) hj rfl) (Ok.alo (.nil H1) fun A gA c => ?_))))
    refine Ok.cld c (.head _) rfl (Ok.cld c (.head _) rfl (Ok.bind (r32_ok (hu.gr gA).sl (by omega) _ _) fun r B ⟨gB, hr⟩ => ?_))
    subst hr
    have c := c.gr gB
    have gX := gA.trans gB
    have huB := hu.gr gX
    have eN : ([x, (x.2, x.1)].take (j + 1)).foldl addN L = addN (([x, (x.2, x.1)].take j).foldl addN L) [x, (x.2, x.1)][j] := by
      rw [List.take_succ_eq_append_getElem hj, List.foldl_append]; rfl
    by_cases hin : [x, (x.2, x.1)][j] ∈ ([x, (x.2, x.1)].take j).foldl addN L
    · rw [decide_eq_true (show ([x, (x.2, x.1)][j].1, [x, (x.2, x.1)][j].2) ∈ _ from hin)]
      refine Ok.pos rfl ?_
      rw [w64_succ (by omega)]
      refine ih (m - 1) (u, _) B (by omega) ⟨j + 1, rfl, by omega, ?_, g1.trans gX, hz.gr gX, hzn⟩
      rw [eN, addN_in hin]
      exact huB
    · rw [decide_eq_false (show ¬ ([x, (x.2, x.1)][j].1, [x, (x.2, x.1)][j].2) ∈ _ from hin)]
      refine Ok.neg (by simp) (Ok.cld c (.head _) rfl (Ok.cld c (.head _) rfl ?_))
      refine Ok.bind (huB.push (g1.trans gX) [x, (x.2, x.1)][j] rfl rfl (by omega)) fun u' C ⟨hu', gC, bt, hub, hun⟩ => ?_
      rw [w64_succ (by omega)]
      refine ih (m - 1) (u', _) C (by omega) ⟨j + 1, rfl, by omega, ?_, gC, (hz.gr gX).congr (bt.2 _ (by have := gX.1; omega) fun hnn e => hzn ⟨hnn, e⟩), ?_⟩
      · rw [eN, addN_out hin]
        exact hu'
      · rintro ⟨_, e⟩
        dsimp only at e
        rcases hub with rfl | hub
        · exact hzn ⟨hun, e⟩
        · have := gX.1; omega
  · refine Ok.neg (by omega) ?_
    have hj : j = 2 := by omega
    subst hj
    exact hk u H1 hu g1
theorem equalLaw {H : Hp} {v : Sl} {l : List Pr} (hv : SL H v l) (hb : l.length < 9223372036854775808) (f : Int) : Ok (r9 (appA 20) v f H) fun r _ => r = true := by
  unfold r9
  refine Ok.bind (r26_ok hv hb) fun o A ⟨gA, hoo⟩ => ?_
  subst hoo
  by_cases ho : offP l
  case neg =>
    rw [decide_eq_false ho]
    exact Ok.neg (by simp) (Ok.ld (awakeE 20 _) (Ok.ld rfl (Ok.ret rfl)))
  rw [decide_eq_true ho]
  have hlen := hv.len
  have h8 := ho.2.1
  have hvA := hv.gr gA
  refine Ok.pos rfl ?_
  dsimp only
  rw [hlen]
  refine Ok.loop (L := fun K (s : Sl × Int) H2 => r9_l0 (appA 20) K f s.1 v l.length s.2 H2) (fun m s H' => ∃ i : Nat, s.2 = i ∧ i + m = l.length ∧ AccL A.n H' s.1 ((l.take i).foldl bothF []) ∧ Gr A H' ∧ ((l.take i).foldl bothF []).length ≤ 2 * i) ?_ FUEL l.length (⟨true, 0, 0, 0, 0, 0⟩, 0) A (by unfold FUEL; omega) ⟨0, rfl, by omega, AccL.nilS, .refl _, by simp⟩
  rintro K m ⟨u, s⟩ H1 ⟨i, rfl, hm, hu, g1, hle⟩ ih
  try dsimp only at *
  by_cases h : i < l.length
  · have hg := hvA.gr g1
    rw [r9_l0]
    refine Ok.pos (by omega) (Ok.ck (by omega) (Ok.ld (hg.ldI (i := i) (j := 0) h rfl) (Ok.ld (hg.ldI (i := i) (j := 1) h rfl) (Ok.alo (.nil H1) fun B gB c => ?_))))
    refine Ok.cld c (.head _) rfl (Ok.cld c (.head _) rfl (Ok.cld c (.head _) rfl (Ok.cld c (.head _) rfl (Ok.box c fun C gC c => ?_))))
    have hs : SL (T := Pr) C ⟨false, B.n, 0, 2, 2, 0⟩ [l[i], (l[i].2, l[i].1)] := .of_get (ro := false) (c.e _ (.head _)) rfl rfl (Nat.le_refl _) (.inl rfl) rfl
    have gX := gB.trans gC
    refine r9_l1_ok (H0' := A) (hu.gr gX) (by omega) (g1.trans gX) hs ?_ (by have := g1.1; have := gB.1; dsimp only; omega) fun w' H' hw' g' => ?_
    · rintro ⟨hnn, e⟩
      have : u.b < H1.n := Acc.lt (show Acc A.n (El.sz Pr) H1 u _ from hu) hnn
      have := gB.1
      dsimp only at e
      omega
    · rw [w64_succ (by omega)]
      have eN : (l.take (i + 1)).foldl bothF [] = bothF ((l.take i).foldl bothF []) l[i] := by
        rw [List.take_succ_eq_append_getElem h, List.foldl_append]; rfl
      refine ih (m - 1) (w', _) H' (by omega) ⟨i + 1, rfl, by omega, by rw [eN]; exact hw', g', ?_⟩
      rw [eN]
      show (addN (addN ((l.take i).foldl bothF []) l[i]) (l[i].2, l[i].1)).length ≤ _
      have a1 := @addN_len (addN ((l.take i).foldl bothF []) l[i]) (l[i].2, l[i].1)
      have a2 := @addN_len ((l.take i).foldl bothF []) l[i]
      omega
  · rw [List.take_of_length_le (by omega)] at hu
    exact equalEnd rfl ho hu (by omega) K
theorem lawCall9 (H : Hp) (xs : List AV) (_ : NoOwn H) (h : RdAs H [.sl (.rep 2 (.int .i64)), .int .i64] xs) : ∃ H1, CallSim Try.prog 9 xs H (.bool true) H1 := by
  obtain ⟨x, _, rfl, hx, z, _, rfl, hz, rfl⟩ := h
  obtain ⟨v, l, rfl, hv, hb⟩ := rd_sl (enc_rep2 enc_int) hx
  obtain ⟨n, hn, _⟩ := hz
  injection hn with hn
  subst hn
  obtain ⟨r, H1, h1, rfl⟩ := equalLaw hv (by unfold maxLen at hb; omega) n
  exact ⟨H1, sim9 (happ := appASim 20) h1⟩
end Go.Lt.P5
