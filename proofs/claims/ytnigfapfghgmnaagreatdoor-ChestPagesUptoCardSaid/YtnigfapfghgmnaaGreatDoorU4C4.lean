/- PLAIN LAWS OF WHAT IS COMPUTED, for the statement 'ChestPages'. Nothing is asked of the input. -/
import Derived.Test.YtnigfapfghgmnaaGreatDoorU4CPg
import Derived.Test.YtnigfapfghgmnaaGreatDoorLB
set_option linter.unusedVariables false
set_option linter.unusedSimpArgs false
namespace Go.Lt.P10
open Go Go.Lt Go.Proofs
section
variable {k : Nat} {c : Nat} {K : Nat → Nat → Int → Sl → Int → Int → Hp → Option (Bool × Hp)} {va : Sl} {vl vi : Int}
theorem j5_ok {H : Hp} {pv : Sl} {C C' : Chs} {t n0 ab : Nat} {kind e : Int} {n m : Int} {line : ByteArray} {bf pa : Sl} (h : ChAt H c pv C' t) (hC : C.Ok) (hd : Did C C' kind e line) (hbf : SL H bf C.bytes) (hpa : AccN n0 H pa (C.path C.at')) (hn0 : n0 ≤ H.n) (hab : H.get ab = some (.cells [.int .i64 kind, .int .i64 n, .int .i64 m, .str line] false)) (hlt : ab < n0) (hs : line.size ≤ 1048576) (hbl : C.bytes.length ≤ 1000000)
    (kk : ∀ A, H.n ≤ A.n → (∀ x, x < n0 → A.get x = H.get x) → ChAt A c pv C' t → Lt.Ok (K c 0 (C'.pages.length : Int) va vl (w64 (vi + 1)) A) fun r _ => r = true) :
    Lt.Ok (r4_j5 (appA (k + 2)) K c 0 (C.pages.length : Int) ab (C.at' : Int) pa bf e va vl vi H) fun r _ => r = true := by
  unfold r4_j5
  have hC' := hd.ok
  have habn := Hp.get_lt hab
  refine Lt.Ok.bind (bytes_ok h hC') fun r A ⟨g, hr⟩ => ?_
  dsimp only at hr ⊢
  obtain ⟨ex, hex⟩ := hd.pre
  rw [hex] at hr
  refine Lt.Ok.bind (hasPre_ok hr.1.sl (hbf.gr g)) fun b B ⟨eB, eb⟩ => ?_
  subst eB; subst eb
  refine Lt.Ok.pos rfl ?_
  have j4 : ∀ D, Gr H D → Lt.Ok (r4_j4 (appA (k + 2)) K c 0 (C.pages.length : Int) ab (C.at' : Int) pa bf e va vl vi false D) fun r _ => r = true := fun D gD => by
    unfold r4_j4
    have habD := (gD.2 _ habn).trans hab
    have hD := h.gr gD
    have hpaD : AccN n0 D pa (C.path C.at') := hpa.gr gD
    have kk' : ∀ A, D.n ≤ A.n → (∀ x, x < n0 → A.get x = D.get x) → ChAt A c pv C' t → Lt.Ok (K c 0 (C'.pages.length : Int) va vl (w64 (vi + 1)) A) fun r _ => r = true := fun A h1 h2 h3 =>
      kk A (Nat.le_trans gD.1 h1) (fun x hx => by rw [h2 x hx, gD.2 x (by omega)]) h3
    refine Lt.Ok.neg (by simp) (Lt.Ok.ld (ldI_get habD rfl) (Lt.Ok.ite (fun hk => ?_) fun hk => ?_))
    · exact j3_ok (k := k) hD hC hd hbf.len hpaD (by have := gD.1; omega) habD hlt hs hbl (by rw [decide_eq_decide]; exact ⟨fun h => ⟨hk, h⟩, fun h => h.2⟩) kk'
    · exact j3_ok (k := k) hD hC hd hbf.len hpaD (by have := gD.1; omega) habD hlt hs hbl (by rw [decide_eq_false]; exact fun h => hk h.1) kk'
  refine Lt.Ok.ld (ldI_get ((g.2 _ habn).trans hab) rfl) (Lt.Ok.ite (fun hk => ?_) fun hk => ?_)
  · refine Lt.Ok.bind (bytes_ok (h.gr g) hC') fun r2 B ⟨g2, hr2⟩ => ?_
    dsimp only at hr2 ⊢
    have hl := hr2.1.len
    rw [hd.oth hk] at hl
    have hl2 := hbf.len
    rw [decide_eq_false (by omega)]
    exact j4 B (g.trans g2)
  · exact j4 _ g
end
section
variable {k : Nat} {H : Hp} {c : Nat} {pv : Sl} {C : Chs} {t : Nat}
/-- the pages, one by one -/
theorem l6_ok (hC : C.Ok) : ∀ (q : Nat), q < C.pages.length → ChAt H c pv ⟨C.pages, q⟩ t → Lt.Ok (r4_l6 (appA (k + 2)) FUEL c 0 (C.pages.length : Int) (C.pages.length : Int) 0 H) fun r _ => r = true := by
  intro q hq h
  have hm := hC.most; have h1 := hC.one
  refine Lt.Ok.loop (L := fun K (i : Int) D => r4_l6 (appA (k + 2)) K c 0 (C.pages.length : Int) (C.pages.length : Int) i D) (fun m i' D => ∃ i q : Nat, i' = (i : Int) ∧ i + m = C.pages.length ∧ q < C.pages.length ∧ ChAt D c pv ⟨C.pages, q⟩ t) ?_ FUEL C.pages.length 0 H (by unfold FUEL; omega) ⟨0, q, rfl, by omega, hq, h⟩
  rintro K m i' D ⟨p, q, rfl, him, hq, hD⟩ ih
  have hok := Chs.ok_at hC hq
  rw [r4_l6]
  refine Lt.Ok.ite (fun hlt => ?_) fun hlt => ?_
  · have hp : p < C.pages.length := by omega
    refine Lt.Ok.bind (go_ok (k := k + 1) hD hok (p : Int)) fun r E ⟨hr, hE, sE⟩ => ?_
    rw [Chs.go_in ⟨C.pages, q⟩ hp] at hr hE
    dsimp only at hr hE ⊢
    subst hr
    have hpk := Chs.ok_at hC hp
    refine Lt.Ok.neg (by simp) (Lt.Ok.bind (path_ok hE hpk) fun pa F ⟨gF, hpa⟩ => ?_)
    have hF := hE.gr gF
    have hpl := hpa.1.len
    dsimp only at hpl ⊢
    refine Lt.Ok.bind (kids_ok hF hpk) fun ks G ⟨gG, hks⟩ => ?_
    have hG := hF.gr gG
    dsimp only at hks ⊢
    have hkl := hks.1.len
    rw [ints_len] at hkl
    have hkle := kids_len (⟨C.pages, p⟩ : Chs) p
    dsimp only at hkle
    have hkp : ∀ x ∈ (⟨C.pages, p⟩ : Chs).kids p, p < x ∧ x < C.pages.length ∧ C.par x = p := fun x hx => by
      unfold Chs.kids at hx
      rw [List.mem_filter] at hx
      obtain ⟨h1, h2⟩ := hx
      have h1 := List.mem_range.1 h1
      simp only [decide_eq_true_eq] at h2
      have h3 : C.par x = p := h2.2
      have := hC.up x h2.1 h1
      exact ⟨by omega, h1, h3⟩
    have next : ∀ (q' : Nat) (Z : Hp), q' < C.pages.length → ChAt Z c pv ⟨C.pages, q'⟩ t → Lt.Ok (r4_j10 (appA (k + 2)) (fun v1_ v2_ v3_ v4_ v5_ H_ => r4_l6 (appA (k + 2)) K v1_ v2_ v3_ v4_ v5_ H_) c 0 (C.pages.length : Int) (C.pages.length : Int) (p : Int) false Z) fun r _ => r = true := fun q' Z hq' hZ => by
      unfold r4_j10
      rw [w64_id (n := (p : Int) + 1) (by omega) (by omega)]
      exact Lt.Ok.neg (by simp) (ih (m - 1) _ Z (by omega) ⟨p + 1, q', by omega, by omega, hq', hZ⟩)
    refine Lt.Ok.loop (L := fun K' (i : Int) D => r4_l8 (appA (k + 2)) (fun v1_ v2_ v3_ v4_ v5_ H_ => r4_l6 (appA (k + 2)) K v1_ v2_ v3_ v4_ v5_ H_) K' c 0 (C.pages.length : Int) (p : Int) (pa.len : Int) (C.pages.length : Int) (p : Int) ks (ks.len : Int) i D) (fun m' i' Z => ∃ i : Nat, i' = (i : Int) ∧ i + m' = ks.len ∧ Z = G) ?_ FUEL ks.len 0 G (by unfold FUEL; omega) ⟨0, rfl, by omega, rfl⟩
    rintro K' m' i' Z ⟨i, rfl, him', rfl⟩ ih'
    rw [r4_l8]
    refine Lt.Ok.ite (fun hlt' => ?_) fun hlt' => ?_
    · have hil : i < ((⟨C.pages, p⟩ : Chs).kids p).length := by omega
      obtain ⟨x1, x2, _⟩ := hkp _ (List.getElem_mem hil)
      refine Lt.Ok.ck (by omega) (Lt.Ok.ld (ints_ld hks.1.sl hil) (Lt.Ok.neg (by omega) ?_))
      rw [decide_eq_false (by omega)]
      unfold r4_j9
      rw [w64_id (n := (i : Int) + 1) (by omega) (by omega)]
      exact Lt.Ok.neg (by simp) (ih' (m' - 1) _ Z (by omega) ⟨i + 1, by omega, by omega, rfl⟩)
    · refine Lt.Ok.ite (fun h0 => ?_) fun h0 => next p Z hp hG
      have hup := hC.up p (by omega) hp
      have hl1 : pa.len = (C.way p).length := by
        rw [hpl, Chs.path_at]; unfold Chs.path; rw [List.length_map]
      have hws := Chs.way_step hC (p := p) (by omega) hp
      have hwl : 1 ≤ (C.way p).length := by rw [hws]; simp
      refine Lt.Ok.neg (by omega) (Lt.Ok.bind (back_ok hG hpk 1) fun r N ⟨hr, hN, sN⟩ => ?_)
      rw [Chs.back_one hpk, if_neg (by dsimp only; omega)] at hr hN
      dsimp only at hr hN ⊢
      have epar : (⟨C.pages, p⟩ : Chs).par p = C.par p := rfl
      rw [epar] at hN
      subst hr
      have hqk := Chs.ok_at hC (q := C.par p) (by omega)
      refine Lt.Ok.neg (by simp) (is (at_ok hN hqk) (Lt.Ok.neg (by dsimp only; omega) ?_))
      dsimp only
      refine Lt.Ok.bind (kids_ok hN hqk) fun k2 O ⟨gO, hk2⟩ => ?_
      have hO := hN.gr gO
      dsimp only at hk2 ⊢
      have hmem : (p : Int) ∈ ints ((⟨C.pages, C.par p⟩ : Chs).kids (C.par p)) := List.mem_map.2 ⟨p, Chs.kids_mem (C := ⟨C.pages, C.par p⟩) (by omega) hp rfl, rfl⟩
      have hk2l := kids_len (⟨C.pages, C.par p⟩ : Chs) (C.par p)
      dsimp only at hk2l
      refine Lt.Ok.bind (contains_ok hk2.1.sl (by rw [ints_len]; omega) _ hmem) fun b P ⟨eP, eb⟩ => ?_
      subst eP; subst eb
      exact next (C.par p) P (by omega) hO
  · refine Lt.Ok.bind (go_ok (k := k + 1) hD hok (C.pages.length : Int)) fun r E ⟨hr, hE, sE⟩ => ?_
    have e1 : Chs.go ⟨C.pages, q⟩ (C.pages.length : Int) = (⟨C.pages, q⟩, 2) := by unfold Chs.go; rw [if_neg (by dsimp only; omega)]
    rw [e1] at hr hE
    dsimp only at hr hE ⊢
    refine Lt.Ok.pos hr (Lt.Ok.bind (go_ok (k := k + 1) hE hok (-1)) fun r F ⟨hr, hF, sF⟩ => ?_)
    have e2 : Chs.go ⟨C.pages, q⟩ (-1) = (⟨C.pages, q⟩, 2) := by unfold Chs.go; rw [if_neg (by dsimp only; omega)]
    rw [e2] at hr
    refine Lt.Ok.pos hr ?_
    rw [app13]
    exact Lt.Ok.ret rfl
theorem pagesLaw {v : Sl} {l : List ActT} (hv : SL H v l) (hb : ∀ a ∈ l, a.2.2.2.size ≤ 1048576) : Lt.Ok (r4 (appA (k + 2)) v H) fun r _ => r = true := by
  unfold r4
  refine Lt.Ok.bind new_ok fun r A ⟨h0, g, hc, pv, t0, hA, hp⟩ => ?_
  obtain ⟨c, o⟩ := r
  dsimp only at h0 hc hA ⊢
  subst h0
  have hl := hv.len
  have hcap := hv.cap
  have hopn : v.opn = 0 ∨ v.opn = 4 := hv.opn
  generalize hN : (if 40 < (v.len : Int) then (40 : Int) else (v.len : Int)) = N
  obtain ⟨n, rfl⟩ : ∃ n : Nat, N = n := by
    split at hN
    · exact ⟨40, by omega⟩
    · exact ⟨v.len, by omega⟩
  have hn : n ≤ v.len ∧ n ≤ 40 := by split at hN <;> omega
  refine Lt.Ok.ck (by refine ⟨?_, hopn⟩; omega) ?_
  simp only [Int.toNat_zero, Int.toNat_natCast]
  have hcut : SL A (v.cut 4 0 n) (l.take n) := by
    have := (hv.gr g).cut (lo := 0) (hi := n) (by omega) (by omega)
    rw [List.drop_zero, Nat.sub_zero] at this
    exact this
  have hln : (l.take n).length = n := by rw [List.length_take]; omega
  have hcl := hcut.len
  rw [hln] at hcl
  have hlt : l.take n ≠ [] → (v.cut 4 0 n).b < H.n := fun hne => by
    have hvn : v.nil = false := hv.nonnil fun e => hne (by rw [e]; simp)
    have : (v.cut 4 0 n).b = v.b := by simp [Sl.cut, hvn]
    rw [this]
    exact SL.lt hv fun e => hne (by rw [e]; simp)
  generalize v.cut 4 0 n = w at *
  generalize hm : l.take n = m at *
  have hbm : ∀ a ∈ m, a.2.2.2.size ≤ 1048576 := fun a ha => hb a (by rw [← hm] at ha; exact List.mem_of_mem_take ha)
  refine Lt.Ok.loop (L := fun K (s : Int × Int) D => r4_l0 (appA (k + 2)) K c 0 s.1 w (w.len : Int) s.2 D) (fun t s D => ∃ (q : Nat) (pe : Sl) (E : Chs) (te : Nat), s.2 = (q : Int) ∧ q + t = m.length ∧ s.1 = (E.pages.length : Int) ∧ Gr H D ∧ ChAt D c pe E te ∧ E.Ok ∧ H.n ≤ pe.b) ?_ FUEL m.length (1, 0) A (by unfold FUEL; omega) ⟨0, pv, Chs.new, t0, rfl, by omega, rfl, g, hA, Chs.new_ok, hp⟩
  rintro K t ⟨s1, i⟩ D ⟨q, pe, E, te, hi, hqt, hs1, gD, hD, hE, hpe⟩ ih
  dsimp only at *
  subst hi; subst hs1
  rw [r4_l0]
  refine Lt.Ok.ite (fun hlt' => ?_) fun hlt' => ?_
  · have hq : q < m.length := by omega
    have hw : SL D w m := by
      refine SL.sp hcut fun hne => ?_
      have := hlt hne
      rw [gD.2 _ this, g.2 _ this]
    have e0 : D.ldI .i64 w.b (w.o + ((q : Int)).toNat * 4) = some m[q].1 := hw.ldI (i := q) (j := 0) hq rfl
    have e1 : D.ldI .i64 w.b ((w.o + ((q : Int)).toNat * 4) + 1) = some m[q].2.1 := hw.ldI (i := q) (j := 1) hq rfl
    have e2 : D.ldI .i64 w.b ((w.o + ((q : Int)).toNat * 4) + 2) = some m[q].2.2.1 := hw.ldI (i := q) (j := 2) hq rfl
    have e3 : D.ldStr w.b ((w.o + ((q : Int)).toNat * 4) + 3) = some m[q].2.2.2 := SL.ldStr hw (i := q) (j := 3) hq rfl
    refine Lt.Ok.ck (by omega) (Lt.Ok.ld e0 (Lt.Ok.ld e1 (Lt.Ok.ld e2 (Lt.Ok.ld e3 ?_))))
    have hsz := hbm _ (List.getElem_mem hq)
    generalize m[q] = act at *
    obtain ⟨kind, an, am, line⟩ := act
    dsimp only at *
    obtain ⟨F, h1, h2, h3, h4⟩ := sts_blk [.int .i64 kind, .int .i64 an, .int .i64 am, .str line] 0 (D.push (.cells [.int .i64 0, .int .i64 0, .int .i64 0, .str (ByteArray.mk #[])] false)) _ (Hp.get_push_new _ _) (by simp)
    have h2' : F.get D.n = some (.cells [.int .i64 kind, .int .i64 an, .int .i64 am, .str line] false) := by rw [h2]; simp
    have gF : Gr D F := ⟨by rw [h3]; simp, fun c hc => by rw [h4 c (by omega), Hp.get_push_old _ _ hc]⟩
    have hF := hD.gr gF
    have hDn := Hp.get_lt h2'
    refine Lt.Ok.ld h1 (is (at_ok hF hE) ?_)
    dsimp only
    refine Lt.Ok.bind (path_ok hF hE) fun pa G ⟨gG, hpa⟩ => ?_
    have hG := hF.gr gG
    dsimp only at hpa ⊢
    refine Lt.Ok.bind (bytes_ok hG hE) fun bf I ⟨gI, hbf⟩ => ?_
    have hI := hG.gr gI
    dsimp only at hbf ⊢
    have gFI := gG.trans gI
    have hpaI := hpa.gr gI
    have gHI := (gD.trans gF).trans gFI
    have habI := (gFI.2 _ hDn).trans h2'
    have q3 : I.ldStr D.n (0 + 3) = some line := by simp [Hp.ldStr, ld_of_get habI, AV.asStr]
    have hEm := hE.most
    have hbl : E.bytes.length ≤ 1000000 := by
      have := bytesP_len (E.pages.drop 1) fun p hp => by
        have hp := List.mem_of_mem_drop hp
        obtain ⟨j, hj, rfl⟩ := List.mem_iff_getElem.1 hp
        rw [chg_get hj]; exact chg_le hE hj
      rw [List.length_drop] at this
      unfold Chs.bytes
      omega
    have hbfb : E.bytes ≠ [] → bf.b < I.n ∧ bf.b ≠ c ∧ bf.b ≠ pe.b := fun hne => by
      have h1 : G.n ≤ bf.b := Acc.ge hbf.1 (hbf.1.sl.nonnil hne)
      have h2 := hG.tc; have h3 := hG.tp; have h4 := hG.tn
      have := SL.lt hbf.1.sl hne
      omega
    have hpab : E.path E.at' ≠ [] → pa.b < I.n ∧ pa.b ≠ c ∧ pa.b ≠ pe.b := fun hne => by
      have h1 : F.n ≤ pa.b := Acc.ge hpa.1 (hpa.1.sl.nonnil hne)
      have h2 := hF.tc; have h3 := hF.tp; have h4 := hF.tn
      have := SL.lt hpaI.1.sl hne
      omega
    have hctn := hI.tc; have hptn := hI.tp; have htn := hI.tn
    have hcD := hD.tc; have hpD := hD.tp; have htD := hD.tn
    -- what follows the act
    have fin : ∀ (E' : Chs) (e : Int) (J : Hp) (pe' : Sl) (te' : Nat), Did E E' kind e line → ChAt J c pe' E' te' → Sp c pe.b pe'.b I J →
        Lt.Ok (r4_j5 (appA (k + 2)) (fun v1_ v2_ v3_ v4_ v5_ v6_ H_ => r4_l0 (appA (k + 2)) K v1_ v2_ v3_ v4_ v5_ v6_ H_) c 0 (E.pages.length : Int) D.n (E.at' : Int) pa bf e w (w.len : Int) (q : Int) J) fun r _ => r = true := by
      intro E' e J pe' te' hdid hJ sJ
      have hbfJ := SL.sp hbf.1.sl fun hne => sJ.e _ (hbfb hne).1 (hbfb hne).2.1 (hbfb hne).2.2
      have hpaJ : AccN F.n J pa (E.path E.at') := hpaI.keep fun hn => by
        have hne : E.path E.at' ≠ [] := fun e => by have := hpaI.2 e; rw [this] at hn; cases hn
        exact sJ.e _ (hpab hne).1 (hpab hne).2.1 (hpab hne).2.2
      have habJ := (sJ.e D.n (by have := gFI.1; omega) (by omega) (by omega)).trans habI
      refine j5_ok (k := k) (n0 := F.n) hJ hE hdid hbfJ hpaJ (by have := gFI.1; have := sJ.n; omega) habJ hDn hsz hbl fun Z hZn hZ hZc => ?_
      rw [w64_succ (by omega)]
      refine ih (t - 1) (_, _) Z (by omega) ⟨q + 1, pe', E', te', rfl, by omega, rfl, ⟨by have := gHI.1; have := sJ.n; omega, fun x hx => ?_⟩, hZc, hdid.ok, ?_⟩
      · have := gD.1; have := gF.1; have := gFI.1
        rw [hZ x (by omega), sJ.e x (by omega) (by omega) (by omega), gHI.2 x hx]
      · have := gHI.1
        rcases sJ.q with e | e <;> omega
    refine Lt.Ok.ld (ldI_get habI rfl) (Lt.Ok.ite (fun hk => ?_) fun hk => ?_)
    · refine Lt.Ok.ld q3 (Lt.Ok.bind (do_ok (k := k) hI hE hsz) fun r J ⟨hr, pg, tg, hJ, sJ⟩ => ?_)
      dsimp only
      rw [hr]
      exact fin _ _ J pg tg (by rw [hk]; exact did_do hE line) hJ sJ
    refine Lt.Ok.ite (fun hk2 => ?_) fun hk2 => ?_
    · refine Lt.Ok.ld (ldI_get habI rfl) (Lt.Ok.bind (go_ok (k := k + 1) hI hE an) fun r J ⟨hr, hJ, sJ⟩ => ?_)
      dsimp only
      rw [hr]
      refine fin _ _ J pe te (did_same (Chs.go_ok hE an) (by omega) ?_ fun he => ?_) hJ sJ
      · unfold Chs.go; split <;> rfl
      · unfold Chs.go at he ⊢
        split
        · rename_i hc; rw [if_pos hc] at he; exact absurd rfl he
        · rfl
    refine Lt.Ok.ite (fun hk3 => ?_) fun hk3 => ?_
    · refine Lt.Ok.ld (ldI_get habI rfl) (Lt.Ok.bind (back_ok hI hE an) fun r J ⟨hr, hJ, sJ⟩ => ?_)
      dsimp only
      rw [hr]
      refine fin _ _ J pe te (did_same (Chs.back_ok hE an) (by omega) ?_ fun he => ?_) hJ sJ
      · unfold Chs.back; split
        · rfl
        · split <;> rfl
      · unfold Chs.back at he ⊢
        split
        · rfl
        · rename_i hc
          rw [if_neg hc] at he
          split
          · rfl
          · rename_i hc2; rw [if_neg hc2] at he; exact absurd rfl he
    · exact fin E 3 I pe te (did_same hE (by omega) rfl fun _ => rfl) hI (.of_gr (.refl _))
  · exact l6_ok (k := k) hE E.at' hE.cur hD
end
theorem encAct : B.EncP 1048576 (.pair (.int .i64) (.pair (.int .i64) (.pair (.int .i64) (.pair .str .unit)))) ActT (fun a => True ∧ True ∧ True ∧ a.2.2.2.size ≤ 1048576) :=
  B.encP_pair B.encP_int (B.encP_pair B.encP_int (B.encP_pair B.encP_int (B.encP_unit B.encP_str)))
theorem lawCall4 (H : Hp) (xs : List AV) (_ : NoOwn H) (h : B.RdAs 1048576 H [.sl (.pair (.int .i64) (.pair (.int .i64) (.pair (.int .i64) (.pair .str .unit))))] xs) : ∃ H1, CallSim Tryz.prog 4 xs H (.bool true) H1 := by
  obtain ⟨x, _, rfl, hx, rfl⟩ := h
  obtain ⟨v, l, rfl, hv, _, hb⟩ := B.rd_slP encAct (by decide) hx
  obtain ⟨b, H1, h1, rfl⟩ := pagesLaw (k := 18) hv (fun a ha => (hb a ha).2.2.2)
  exact ⟨H1, sim4 (happ := appASim 20) h1⟩
end Go.Lt.P10
