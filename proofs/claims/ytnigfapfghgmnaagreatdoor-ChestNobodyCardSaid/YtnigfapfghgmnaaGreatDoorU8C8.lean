/- PLAIN LAWS OF WHAT IS COMPUTED, for the statement 'ChestNobody'. Nothing is asked of the input. -/
import Derived.Test.YtnigfapfghgmnaaGreatDoorU8CAw
import Derived.Test.YtnigfapfghgmnaaGreatDoorLB
set_option linter.unusedVariables false
set_option linter.unusedSimpArgs false
set_option maxRecDepth 100000
namespace Go.Lt.P10
open Go Go.Lt Go.Proofs
/-- awake is known -/
noncomputable def appB (k : Nat) : App := ⟨fun f xs H => match f, xs with
  | 13, [] => some (.bool true, H)
  | f, xs => appJ k f xs H, (appJ k).yld⟩
theorem appBSim (k : Nat) : AppSim Tryz.prog (appB k) := by
  refine ⟨fun f xs H v H1 h => ?_, (appJSim k).2⟩
  unfold appB at h
  simp only at h
  split at h
  · injection h with h
    injection h with h1 h2
    subst h1; subst h2
    obtain ⟨p, hp, he⟩ := Option.map_eq_some_iff.1 awakeH0
    have := sim13 (happ := appJSim 20) hp
    rw [he] at this
    exact ⟨ok13, this.own rfl rfl H⟩
  · exact (appJSim k).1 _ _ _ _ _ h
/-- a chest that neither New nor Read made -/
def Nob (H : Hp) (c : AV) : Prop := c = .nilptr ∨ ∃ b, c = .ptr b 0 ∧ H.ldSl b 0 = some ⟨true, 0, 0, 0, 0, 0⟩
theorem r28n {H : Hp} {c : AV} (h : Nob H c) : r28 c H = some (true, H) := by
  rcases h with rfl | ⟨b, rfl, h⟩
  · rfl
  · simp [r28, AV.isp, AV.asP, h]
theorem r8_j1f {app : App} {kt0 : ByteArray → Int → Int → Sl → Int → Int → Hp → Option (Bool × Hp)} {v1 : ByteArray} {v2 v3 : Int} {v4 : Sl} {v5 v6 : Int} {H : Hp} :
    r8_j1 app kt0 v1 v2 v3 v4 v5 v6 false H = kt0 v1 v2 v3 v4 v5 (w64 (v6 + 1)) H := rfl
theorem strEq0 : strEq (ByteArray.mk #[]) (ByteArray.mk #[]) = true := by decide +kernel
theorem r18n {H : Hp} {c : AV} {app : App} (h : Nob H c) (line : ByteArray) : r18 app c line H = some (((ByteArray.mk #[]), 1), H) := by
  unfold r18; rw [r28n h]; rfl
theorem r27n {H : Hp} {c : AV} {app : App} (h : Nob H c) (line : ByteArray) : r27 app c line H = some (((ByteArray.mk #[]), 1), H) := by
  unfold r27; rw [r28n h]; rfl
theorem r11n {H : Hp} {c : AV} (h : Nob H c) (n m : Int) : r11 c n m H = some ((0, 1), H) := by
  unfold r11; rw [r28n h]; rfl
theorem r25n {H : Hp} {c : AV} {app : App} (h : Nob H c) (n : Int) : r25 app c n H = some ((0, 1), H) := by
  unfold r25; rw [r28n h]; rfl
theorem r10n {H : Hp} {c : AV} (h : Nob H c) (n : Int) : r10 c n H = some (1, H) := by
  unfold r10; rw [r28n h]; rfl
theorem r19n {H : Hp} {c : AV} (h : Nob H c) (n : Int) : r19 c n H = some (1, H) := by
  unfold r19; rw [r28n h]; rfl
theorem r15n {H : Hp} {c : AV} (h : Nob H c) : r15 c  H = some (0, H) := by
  unfold r15; rw [r28n h]; rfl
theorem r16n {H : Hp} {c : AV} (h : Nob H c) : r16 c  H = some (⟨true, 0, 0, 0, 0, 0⟩, H) := by
  unfold r16; rw [r28n h]; rfl
theorem r22n {H : Hp} {c : AV} (h : Nob H c) : r22 c  H = some (⟨true, 0, 0, 0, 0, 0⟩, H) := by
  unfold r22; rw [r28n h]; rfl
theorem r17n {H : Hp} {c : AV} (h : Nob H c) : r17 c  H = some (⟨true, 0, 0, 0, 0, 0⟩, H) := by
  unfold r17; rw [r28n h]; rfl
theorem r24n {H : Hp} {c : AV} (h : Nob H c) : r24 c  H = some (ByteArray.mk #[], H) := by
  unfold r24; rw [r28n h]; rfl
theorem is {α : Type} {x : Option (α × Hp)} {a : α} {H : Hp} {β : Type} {f : α × Hp → Option (β × Hp)} {Q : β → Hp → Prop} (h : x = some (a, H)) (k : Ok (f (a, H)) Q) : Ok (x.bind f) Q := by rw [h]; exact k
theorem round {H : Hp} {k : Nat} {line : ByteArray} {n m : Int} {s : Sl} {len i : Int} {c : AV} {Q : Bool → Hp → Prop} (hi : i < len) (h0 : (0 : Int) ≤ i ∧ i < (s.len : Int)) (hld : H.ldV s.b (s.o + i.toNat * 1) = some c) (hc : Nob H c)
    (hk : Ok (r8_l0 (appB 20) k line n m s len (w64 (i + 1)) H) Q) : Ok (r8_l0 (appB 20) (k + 1) line n m s len i H) Q := by
  rw [r8_l0]
  refine Ok.pos hi (Ok.ck h0 (Ok.ld hld ?_))
  refine is (r18n hc _) (is (r27n hc _) (is (r11n hc _ _) (is (r25n hc _) ?_)))
  refine Ok.pos strEq0 (Ok.pos strEq0 (Ok.neg (fun h => h rfl) (Ok.neg (fun h => h rfl) (Ok.neg (fun h => h rfl) (Ok.neg (fun h => h rfl) (Ok.neg (fun h => h rfl) (Ok.neg (fun h => h rfl) ?_)))))))
  refine is (r10n hc _) (Ok.neg (fun h => h rfl) (is (r19n hc _) (Ok.neg (fun h => h rfl) (is (r15n hc) (Ok.neg (fun h => h rfl) (is (r16n hc) (is (r22n hc) (is (r17n hc) ?_))))))))
  refine Ok.neg (fun h => h (by dsimp only; decide)) (is (r24n hc) ?_)
  show Ok (r8_j1 _ _ _ _ _ _ _ _ (!(strEq (ByteArray.mk #[]) (ByteArray.mk #[]))) _) Q
  rw [strEq0]
  exact hk
theorem nobodyLaw (line : ByteArray) (n m : Int) (H : Hp) : ∃ H1, r8 (appB 20) line n m H = some (true, H1) := by
  have e : ∃ k, FUEL = k + 3 := ⟨FUEL - 3, by unfold FUEL; omega⟩
  obtain ⟨k, e⟩ := e
  have g : Ok (r8 (appB 20) line n m H) (fun b _ => b = true) := by
    unfold r8
    refine Ok.lt ?_
    rw [e]
    have g0 : (((H.push (.cells [.sl ⟨true, 0, 0, 0, 0, 0⟩, .int .i64 0] false)).push (.cells [.nilptr, .ptr H.n 0] false))).get H.n = some (.cells [.sl ⟨true, 0, 0, 0, 0, 0⟩, .int .i64 0] false) := by
      rw [Hp.get_push_old _ _ (by simp)]; simp
    have g1 : (((H.push (.cells [.sl ⟨true, 0, 0, 0, 0, 0⟩, .int .i64 0] false)).push (.cells [.nilptr, .ptr H.n 0] false))).get (H.n + 1) = some (.cells [.nilptr, .ptr H.n 0] false) := by
      simp [Hp.get_push]
    refine round (by dsimp only; decide) (by dsimp only; decide) (c := .nilptr) (by simp [Hp.ldV, Hp.ld, g1, AV.isU]) (.inl rfl) ?_
    refine round (by dsimp only; decide) (by dsimp only; decide) (c := .ptr H.n 0) (by simp [Hp.ldV, Hp.ld, g1, AV.isU]; rfl) (.inr ⟨_, rfl, by simp [Hp.ldSl, Hp.ld, g0, AV.asSl]⟩) ?_
    rw [r8_l0]
    refine Ok.neg (by dsimp only; decide) ?_
    exact ⟨_, _, rfl, rfl⟩
  obtain ⟨b, H1, h, rfl⟩ := g
  exact ⟨H1, h⟩
theorem lawCall8 (H : Hp) (xs : List AV) (_ : NoOwn H) (h : RdAs H [.str, .int .i64, .int .i64] xs) : ∃ H1, CallSim Tryz.prog 8 xs H (.bool true) H1 := by
  obtain ⟨x, _, rfl, hx, y, _, rfl, hy, z, _, rfl, hz, rfl⟩ := h
  obtain ⟨line, ⟨⟩, _⟩ := hx
  obtain ⟨n, ⟨⟩, _⟩ := hy
  obtain ⟨m, ⟨⟩, _⟩ := hz
  obtain ⟨H1, h1⟩ := nobodyLaw line n m H
  exact ⟨H1, sim8 (happ := appBSim 20) h1⟩
end Go.Lt.P10
