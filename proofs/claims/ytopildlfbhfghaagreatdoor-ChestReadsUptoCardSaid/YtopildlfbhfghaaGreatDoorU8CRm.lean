/- PLAIN LAWS OF WHAT IS COMPUTED, for the statement 'ChestReads'. Nothing is asked of the input. -/
import Derived.Test.YtopildlfbhfghaaGreatDoorU8CRx
set_option linter.unusedVariables false
set_option linter.unusedSimpArgs false
set_option maxHeartbeats 4000000
namespace Go.Lt.P10
open Go Go.Lt Go.Proofs
theorem read_okR {k : Nat} {H : Hp} {v : Sl} {l : List UInt8} (hv : SL H v l) (hb : l.length ≤ 1000000) :
    Lt.Ok (r45 (appA (k + 200)) v H) fun r A => Gr H A ∧ match Chs.rd (l.length + 1) Chs.new l with
      | none => r = (.nilptr, 3)
      | some X => ∃ d pw, r = (.ptr d 0, 0) ∧ RcAt A d pw X ∧ X.Ok ∧ H.n ≤ d ∧ H.n ≤ pw.b := by
  unfold r45
  refine Lt.Ok.bind new_okR fun r A ⟨h0, g, hc, pv, hA, hp⟩ => ?_
  obtain ⟨c, o⟩ := r
  dsimp only at h0 hc hA ⊢
  subst h0
  have hbv : l ≠ [] → v.b < H.n := fun hne => SL.lt hv hne
  refine Lt.Ok.loop (L := fun K (s : Sl) D => r45_l0 (appA (k + 200)) K s c 0 D) (fun m s D => ∃ (q : List UInt8) (pe : Sl) (E : Chs), q.length = m ∧ Gr H D ∧ RcAt D c pe E ∧ E.Ok ∧ H.n ≤ pe.b ∧ SL D s q ∧ (q ≠ [] → s.b < H.n) ∧ q.length ≤ l.length ∧ Chs.rd (q.length + 1) E q = Chs.rd (l.length + 1) Chs.new l) ?_ FUEL l.length v A (by unfold FUEL; omega) ⟨l, pv, Chs.new, rfl, g, hA, Chs.new_ok, hp, hv.gr g, hbv, Nat.le_refl _, rfl⟩
  rintro K m s D ⟨q, pe, E, hqm, gD, hD, hE, hpe, hs, hsb, hql, hrd⟩ ih
  have hsl := hs.len
  rw [← hrd]
  rw [r45_l0]
  have fail : ∀ (KK) (A : Hp), Gr H A → Chs.rd (q.length + 1) E q = none → Lt.Ok (r45_j1 (appA (k + 200)) KK s c 0 true A) (fun r A => Gr H A ∧ match Chs.rd (q.length + 1) E q with
      | none => r = (.nilptr, 3)
      | some X => ∃ d pw, r = (.ptr d 0, 0) ∧ RcAt A d pw X ∧ X.Ok ∧ H.n ≤ d ∧ H.n ≤ pw.b) := fun KK A gA e => by
    unfold r45_j1
    rw [e]
    exact Lt.Ok.pos rfl (Lt.Ok.ret ⟨gA, rfl⟩)
  match q, hqm, hs, hsl, hsb, hql, hrd, fail with
  | [], hqm, hs, hsl, hsb, hql, hrd, fail =>
    refine Lt.Ok.neg (by simp at hsl; omega) ?_
    have e : Chs.rd (([] : List UInt8).length + 1) E [] = some ⟨E.pages, 0⟩ := rfl
    rw [e]
    refine hD.setAt fun F hF sF => Lt.Ok.ret ⟨sF.gr gD hc hpe, c, pe, rfl, hF, ⟨hE.one, hE.most, by dsimp only; have := hE.one; omega, hE.root, hE.up, hE.st, hE.did, hE.uq, hE.rc⟩, hc, hpe⟩
  | [x], hqm, hs, hsl, hsb, hql, hrd, fail =>
    simp only [List.length_cons, List.length_nil] at hsl
    exact Lt.Ok.pos (by omega) (Lt.Ok.pos (by omega) (fail _ D gD rfl))
  | p :: n :: r, hqm, hs, hsl, hsb, hql, hrd, fail =>
    simp only [List.length_cons] at hsl hqm hql
    have hn8 : n.toNat < 256 := n.toNat_lt
    have hp8 : p.toNat < 256 := p.toNat_lt
    have u1 : D.ldI .u8 s.b (s.o + (1 : Int).toNat * 1) = some (n.toNat : Int) := SL.ldU8 hs (i := 1) (by simp)
    have u0 : D.ldI .u8 s.b (s.o + (0 : Int).toNat * 1) = some (p.toNat : Int) := SL.ldU8 hs (i := 0) (by simp)
    have w1 : w64 (2 + w64 (n.toNat : Int)) = ((2 + n.toNat : Nat) : Int) := by rw [w64_id (n := (n.toNat : Int)) (by omega) (by omega), w64_id (by omega) (by omega)]; omega
    refine Lt.Ok.pos (by omega) (Lt.Ok.neg (by omega) (Lt.Ok.ck (by omega) (Lt.Ok.ld u1 ?_)))
    rw [w1]
    refine Lt.Ok.ite (fun hlt => ?_) fun hlt => ?_
    · refine fail _ D gD ?_
      unfold Chs.rd
      rw [if_pos (by omega)]
    have hrl : n.toNat ≤ r.length := by omega
    refine Lt.Ok.ck (by omega) (Lt.Ok.ld u0 ?_)
    rw [w64_id (n := (p.toNat : Int)) (by omega) (by omega)]
    refine is (is_okR hD (p.toNat : Int)) ?_
    have hsne := hsb (by simp)
    dsimp only
    by_cases hgo : (E.go (p.toNat : Int)).2 ≠ 0
    · have hno : ¬ (0 ≤ (p.toNat : Int) ∧ (p.toNat : Int) < E.pages.length) := fun q => hgo (by unfold Chs.go; rw [if_pos q])
      rw [decide_eq_false hno]
      refine fail _ D gD ?_
      unfold Chs.rd
      rw [if_neg (by omega), if_pos hgo]
    have hyes : 0 ≤ (p.toNat : Int) ∧ (p.toNat : Int) < E.pages.length := by
      by_cases q : 0 ≤ (p.toNat : Int) ∧ (p.toNat : Int) < E.pages.length
      · exact q
      · exfalso
        apply hgo
        unfold Chs.go
        rw [if_neg q]
        simp
    rw [decide_eq_true hyes]
    unfold r45_j1
    have hE2 := Chs.go_ok hE (p.toNat : Int)
    have hgp : (E.go (p.toNat : Int)).1.pages = E.pages := by unfold Chs.go; split <;> rfl
    have hgo1 : (E.go (p.toNat : Int)).1 = ⟨E.pages, p.toNat⟩ := by unfold Chs.go; rw [if_pos hyes]; rfl
    have hcap := hs.cap
    have hopn : s.opn = 0 ∨ s.opn = 1 := hs.opn
    refine Lt.Ok.neg (by simp) (Lt.Ok.ck (by omega) (Lt.Ok.ld u1 ?_))
    rw [w1]
    refine Lt.Ok.ck (by refine ⟨?_, hopn⟩; omega) ?_
    have ec : s.cut 1 (2 : Int).toNat (((2 + n.toNat : Nat) : Int)).toNat = s.cut (El.sz UInt8) 2 (2 + n.toNat) := rfl
    rw [ec]
    have hcut := hs.cut (lo := 2) (hi := 2 + n.toNat) (by omega) (by simp only [List.length_cons]; omega)
    have e2 : 2 + n.toNat - 2 = n.toNat := by omega
    rw [e2] at hcut
    have e3 : (p :: n :: r).drop 2 = r := rfl
    rw [e3] at hcut
    have hlds := hcut.lds
    have z1 : (s.cut (El.sz UInt8) 2 (2 + n.toNat)).len * El.sz UInt8 = (s.cut (El.sz UInt8) 2 (2 + n.toNat)).len := Nat.mul_one _
    rw [z1] at hlds
    rw [hlds]
    simp only [Option.bind_some, bInts_encs]
    rw [strNums]
    have hlsz : (ByteArray.mk (r.take n.toNat).toArray).size = n.toNat := by
      show (r.take n.toNat).toArray.size = _
      simp; omega
    generalize hline : (ByteArray.mk (r.take n.toNat).toArray) = line at *
    refine Lt.Ok.ld (ldSl_get hD.get rfl) (Lt.Ok.ck (by omega) (Lt.Ok.ld u0 ?_))
    rw [w64_id (n := (p.toNat : Int)) (by omega) (by omega)]
    have hDl := hD.len
    refine hD.setAt (n := p.toNat) fun F hF sF => ?_
    have gF := sF.gr gD hc hpe
    have hsF : SL F s (p :: n :: r) := SL.sp hs fun _ => sF.e _ (by have := gD.1; omega) (by omega) (by omega)
    rw [← hgo1] at hF
    have hcur : (E.go (p.toNat : Int)).1.at' ≤ k + 199 + 1 := by have := hE2.cur; have := hE2.most; omega
    refine Lt.Ok.bind (chdo_okR (k := k + 199) hF hE2 hcur (line := line) (by omega)) fun rd G ⟨hr, pe', hG, sG⟩ => ?_
    have hE3 := Chs.do_ok hE2 line
    have gG := sG.gr gF hc hpe
    have hsG : SL G s (p :: n :: r) := SL.sp hsF fun _ => sG.e _ (by have := gF.1; omega) (by omega) (by omega)
    have hpe' : H.n ≤ pe'.b := by have := gF.1; rcases sG.q with e | e <;> omega
    have hGl := hG.len
    have gd : ∀ b, (r45_j2 (appA (k + 200)) (fun v1_ v2_ v3_ H_ => r45_l0 (appA (k + 200)) K v1_ v2_ v3_ H_) s c 0 b G) = (r45_j2 (appA (k + 200)) (fun v1_ v2_ v3_ H_ => r45_l0 (appA (k + 200)) K v1_ v2_ v3_ H_) s c 0 b G) := fun _ => rfl
    by_cases hz : ((E.go (p.toNat : Int)).1.do line).2.2 ≠ 0 ∨ ((E.go (p.toNat : Int)).1.do line).1.pages.length = E.pages.length
    · have en : Chs.rd ((p :: n :: r).length + 1) E (p :: n :: r) = none := by
        unfold Chs.rd
        rw [if_neg (by omega), if_neg hgo, hline, if_pos hz]
      rw [en]
      dsimp only
      have stop : Lt.Ok (r45_j2 (appA (k + 200)) (fun v1_ v2_ v3_ H_ => r45_l0 (appA (k + 200)) K v1_ v2_ v3_ H_) s c 0 true G) (fun r A => Gr H A ∧ r = (.nilptr, 3)) := by
        unfold r45_j2
        exact Lt.Ok.pos rfl (Lt.Ok.ret ⟨gG, rfl⟩)
      by_cases hz1 : ((E.go (p.toNat : Int)).1.do line).2.2 ≠ 0
      · exact Lt.Ok.pos (by rw [hr]; exact hz1) stop
      · refine Lt.Ok.neg (by rw [hr]; exact hz1) (Lt.Ok.ld (ldSl_get hG.get rfl) ?_)
        rw [decide_eq_true (by rcases hz with hz | hz; exact absurd hz hz1; omega)]
        exact stop
    · have hz1 : ¬ ((E.go (p.toNat : Int)).1.do line).2.2 ≠ 0 := fun h => hz (.inl h)
      have hz2 : ¬ ((E.go (p.toNat : Int)).1.do line).1.pages.length = E.pages.length := fun h => hz (.inr h)
      refine Lt.Ok.neg (by dsimp only; rw [hr]; exact hz1) (Lt.Ok.ld (ldSl_get hG.get rfl) ?_)
      rw [decide_eq_false (by omega)]
      unfold r45_j2
      have u1G : G.ldI .u8 s.b (s.o + (1 : Int).toNat * 1) = some (n.toNat : Int) := SL.ldU8 hsG (i := 1) (by simp)
      refine Lt.Ok.neg (by simp) (Lt.Ok.ck (by omega) (Lt.Ok.ld u1G ?_))
      rw [w1]
      refine Lt.Ok.ck (by refine ⟨?_, hopn⟩; omega) ?_
      have ec2 : s.cut 1 (((2 + n.toNat : Nat) : Int)).toNat ((s.len : Int)).toNat = s.cut (El.sz UInt8) (2 + n.toNat) s.len := rfl
      rw [ec2]
      have hcut2 := hsG.cut (lo := 2 + n.toNat) (hi := s.len) (by omega) (by simp only [List.length_cons]; omega)
      have e4 : (p :: n :: r).drop (2 + n.toNat) = r.drop n.toNat := by
        rw [Nat.add_comm]; rfl
      rw [e4, List.take_of_length_le (by rw [List.length_drop]; omega)] at hcut2
      have hnn : s.nil = false := hs.nonnil (by simp)
      have hen : Chs.rd ((p :: n :: r).length + 1) E (p :: n :: r) = Chs.rd ((r.drop n.toNat).length + 1) ((E.go (p.toNat : Int)).1.do line).1 (r.drop n.toNat) := by
        have hl : (r.drop n.toNat).length ≤ r.length := by rw [List.length_drop]; omega
        conv => lhs; unfold Chs.rd
        rw [if_neg (by omega), if_neg hgo, hline, if_neg hz, Chs.rd_fuel _ _ _ (by simp only [List.length_cons]; omega)]
      have := ih (r.drop n.toNat).length (s.cut (El.sz UInt8) (2 + n.toNat) s.len) G (by rw [List.length_drop]; omega) ⟨r.drop n.toNat, pe', _, rfl, gG, hG, hE3, hpe', hcut2, fun _ => by
        have : (s.cut (El.sz UInt8) (2 + n.toNat) s.len).b = s.b := by simp [Sl.cut, hnn]
        rw [this]; exact hsne, by rw [List.length_drop]; omega, by rw [← hen]; exact hrd⟩
      rw [hrd]
      exact this
end Go.Lt.P10
