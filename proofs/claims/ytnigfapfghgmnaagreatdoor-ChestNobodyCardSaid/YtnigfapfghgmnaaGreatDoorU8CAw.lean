/- PLAIN LAWS OF WHAT IS COMPUTED, for the statement 'ChestNobody'. Nothing is asked of the input. -/
import Derived.Shelf.Strings.OnBuilder
import Derived.Test.YtnigfapfghgmnaaGreatDoorProg
import Derived.Test.YtnigfapfghgmnaaGreatDoorG8A
set_option linter.unusedVariables false
set_option linter.unusedSimpArgs false
namespace Go.Proofs
open Go.Shelf
def Tryz.lays156_ren : Go.Shelf.Ren := ⟨fun | 156 => 55 | 165 => 85 | 166 => 52 | 169 => 59 | 240 => 83 | 241 => 114 | 276 => 112 | 277 => 169 | n => n, fun | 31 => 38 | 9 => 9 | 3 => 3 | 4 => 4 | 0 => 0 | 20 => 20 | 72 => 91 | 76 => 96 | 70 => 89 | 37 => 40 | 75 => 95 | 127 => 124 | 164 => 162 | 5 => 5 | 80 => 49 | n => n, fun | n => n⟩
theorem Tryz.lays156 : Go.Proofs.Lays.n156 Tryz.prog Tryz.lays156_ren := {
  mixed := by kernel_rfl
  f156 := Tryz.func55.trans (congrArg some (by kernel_rfl))
  f165 := Tryz.func85.trans (congrArg some (by kernel_rfl))
  f166 := Tryz.func52.trans (congrArg some (by kernel_rfl))
  f169 := Tryz.func59.trans (congrArg some (by kernel_rfl))
  f240 := Tryz.func83.trans (congrArg some (by kernel_rfl))
  f241 := Tryz.func114.trans (congrArg some (by kernel_rfl))
  f276 := Tryz.func112.trans (congrArg some (by kernel_rfl))
  f277 := Tryz.func169.trans (congrArg some (by kernel_rfl))
  t0 := Tryz.underlying0
  a0 := Tryz.isAgg0
  z0 := Tryz.sizeOf0
  v0 := Tryz.zeroValue0
  t3 := Tryz.underlying3
  a3 := Tryz.isAgg3
  z3 := Tryz.sizeOf3
  v3 := Tryz.zeroValue3
  t4 := Tryz.underlying4
  a4 := Tryz.isAgg4
  z4 := Tryz.sizeOf4
  v4 := Tryz.zeroValue4
  t9 := Tryz.underlying9
  a9 := Tryz.isAgg9
  z9 := Tryz.sizeOf9
  v9 := Tryz.zeroValue9
  t20 := Tryz.underlying20
  a20 := Tryz.isAgg20
  z20 := Tryz.sizeOf20
  v20 := Tryz.zeroValue20
  t31 := Tryz.underlying38
  a31 := Tryz.isAgg38
  z31 := Tryz.sizeOf38
  v31 := Tryz.zeroValue38
  t37 := Tryz.underlying40
  a37 := Tryz.isAgg40
  z37 := Tryz.sizeOf40
  v37 := Tryz.zeroValue40
  t70 := Tryz.underlying89
  a70 := Tryz.isAgg89
  z70 := Tryz.sizeOf89
  v70 := Tryz.zeroValue89
  t72 := Tryz.underlying91
  a72 := Tryz.isAgg91
  z72 := Tryz.sizeOf91
  v72 := Tryz.zeroValue91
  t75 := Tryz.underlying95
  a75 := Tryz.isAgg95
  z75 := Tryz.sizeOf95
  v75 := Tryz.zeroValue95
  t76 := Tryz.underlying96
  a76 := Tryz.isAgg96
  z76 := Tryz.sizeOf96
  v76 := Tryz.zeroValue96
  t127 := Tryz.underlying124
  a127 := Tryz.isAgg124
  z127 := Tryz.sizeOf124
  v127 := Tryz.zeroValue124
  t164 := Tryz.underlying162
  a164 := Tryz.isAgg162
  z164 := Tryz.sizeOf162
  v164 := Tryz.zeroValue162 }
theorem Tryz.Builder_Extra_156 : Builder.Extra Tryz.prog Tryz.lays156_ren := {
  sizeBuilder := by kernel_rfl
  liesBuilder := by kernel_rfl
  t5 := Tryz.underlying5
  a5 := Tryz.isAgg5
  z5 := Tryz.sizeOf5
  v5 := Tryz.zeroValue5
  infoByte := by kernel_rfl
  cellsByte := by kernel_rfl
  sizeByte := by kernel_rfl
  neB5 := by decide }
open Go.RowKit in
/-- No element: the empty string; the world is as it was. (Whatever the slice's address and capacity: a nil slice too.) (LAID: no walk: one application.) -/
theorem Tryz.strings_Join_none (a : Option Addr) (c : Nat) (sep : ByteArray) (w : World) :
    Calls Tryz.prog 55 #[.slice a 0 c, .string sep] w fun e w' => e = .returned (.string ⟨#[]⟩) ∧ w' = w := Any.strings_Join_none Tryz.lays156 Tryz.Builder_Extra_156 a c sep w
open Go.RowKit in
/-- strings.Join: "Join concatenates the elements of its first argument to create a single string. The separator string sep is placed between elements in the resulting string.": HOWEVER MANY ELEMENTS. Below the heap's end the world is as it was. (LAID: no walk: one application.) -/
theorem Tryz.strings_Join (bk o c : Nat) (xs : List ByteArray) (sep : ByteArray) (w : World) (hcells : ∀ (j : Nat) x, xs[j]? = some x → w.cell? ⟨bk, o + j, none⟩ = some (.string x)) (hbk : bk < w.heap.size) (hN : xs.length ≤ 140737488355328) (hcap : xs.length ≤ c) (hlen : (Lib.join (xs.map (·.data.toList)) sep.data.toList).length ≤ 140737488355328) :
    Calls Tryz.prog 55 #[.slice (some ⟨bk, o, none⟩) xs.length c, .string sep] w fun e w' => e = .returned (.string ⟨(Lib.join (xs.map (·.data.toList)) sep.data.toList).toArray⟩) ∧ Below w.heap.size w w' := Any.strings_Join Tryz.lays156 Tryz.Builder_Extra_156 bk o c xs sep w hcells hbk hN hcap hlen
end Go.Proofs

namespace Go.Lt.P10
open Go Go.Lt Go.Proofs
def asStrs : List AV → Option (List ByteArray)
  | [] => some []
  | .str s :: l => (asStrs l).map (s :: ·)
  | _ => none
def joinA (xs : List ByteArray) (sep : ByteArray) : ByteArray := ⟨(Lib.join (xs.map (·.data.toList)) sep.data.toList).toArray⟩
/-- strings.Join -/
def joinP (s : Sl) (sep : ByteArray) (H : Hp) : Option (AV × Hp) :=
  (H.lds s.b s.o s.len).bind fun l => (asStrs l).bind fun xs =>
    if xs.length ≤ 140737488355328 ∧ (joinA xs sep).size ≤ 140737488355328 then some (.str (joinA xs sep), H) else none
theorem asStrs_get : ∀ {l : List AV} {xs : List ByteArray}, asStrs l = some xs → l = xs.map .str
  | [], xs, h => by simp [asStrs] at h; subst h; rfl
  | .str s :: l, xs, h => by
    simp only [asStrs, Option.map_eq_some_iff] at h
    obtain ⟨ys, h, rfl⟩ := h
    rw [asStrs_get h]; rfl
  | .undef :: _, _, h => by simp [asStrs] at h
  | .bool _ :: _, _, h => by simp [asStrs] at h
  | .int _ _ :: _, _, h => by simp [asStrs] at h
  | .ptr _ _ :: _, _, h => by simp [asStrs] at h
  | .nilptr :: _, _, h => by simp [asStrs] at h
  | .sl _ :: _, _, h => by simp [asStrs] at h
  | .map _ :: _, _, h => by simp [asStrs] at h
  | .nilmap :: _, _, h => by simp [asStrs] at h
  | .fn _ _ _ :: _, _, h => by simp [asStrs] at h
  | .yld _ :: _, _, h => by simp [asStrs] at h
  | .nilfn :: _, _, h => by simp [asStrs] at h
  | .iface _ _ :: _, _, h => by simp [asStrs] at h
  | .niliface :: _, _, h => by simp [asStrs] at h
  | .agg _ :: _, _, h => by simp [asStrs] at h
  | .tup _ :: _, _, h => by simp [asStrs] at h
  | .gptr _ :: _, _, h => by simp [asStrs] at h
theorem Below.keep {w w' : World} (h : RowKit.Below w.heap.size w w') : Keep (Kp.all w) w w' := ⟨h.os, h.tape, h.output, h.size, h.block⟩
theorem joinSim {s : Sl} {sep : ByteArray} {H : Hp} {v : AV} {H1 : Hp} (h : joinP s sep H = some (v, H1)) : CallSim Tryz.prog 55 [.sl s, .str sep] H v H1 := by
  unfold joinP at h
  obtain ⟨l, hl, h⟩ := Option.bind_eq_some_iff.1 h
  obtain ⟨xs, hx, h⟩ := Option.bind_eq_some_iff.1 h
  split at h
  case isFalse => cases h
  rename_i hb
  injection h with h
  injection h with h1 h2
  subst h1; subst h2
  refine ⟨Nat.le_refl _, fun B w0 m w args' hr hi => ?_⟩
  obtain ⟨v1, r1, e1, g1, hr1⟩ := hr.cons_inv
  obtain ⟨v2, r2, e2, g2, hr2⟩ := hr1.cons_inv
  have e0 := hr2.nil_inv
  rw [e2, e0, g2.str_inv] at e1
  have hargs : args' = #[v1, .string sep] := by rw [← Array.toList_inj, e1]
  subst hargs
  have hle : xs.length = s.len := by
    have := (lds_get hl).1
    rw [asStrs_get hx] at this
    simpa using this
  have nil : ∀ a c, v1 = .slice a 0 c → s.len = 0 → Calls Tryz.prog 55 #[v1, .string sep] w fun e w' => ∃ v' m', e = .returned v' ∧ Ext H.n m m' ∧ RV m' H.n (.str (joinA xs sep)) v' ∧ Inv B w0 m' H w' := by
    intro a c hv h0
    subst hv
    refine (Tryz.strings_Join_none a c sep w).mono fun e w1 he => ?_
    obtain ⟨rfl, rfl⟩ := he
    have : xs = [] := List.length_eq_zero_iff.1 (by omega)
    subst this
    exact ⟨_, m, rfl, .refl _ _, .str _, hi⟩
  rcases g1.sl_inv with ⟨rfl, e⟩ | ⟨a, hn, _, h0, _, e⟩ | ⟨cap', hn, hbn, hlc, hcc, _, _, e⟩
  · exact nil _ _ e rfl
  · exact nil _ _ e h0
  by_cases h0 : s.len = 0
  · rw [h0] at e; exact nil _ _ e h0
  obtain ⟨us, hlen, hc, hv⟩ := hi.lds Tryz.prog hl
  subst e
  rw [← hle]
  refine (Tryz.strings_Join (m s.b).blk ((m s.b).sh + s.o) cap' xs sep w (fun j x hj => ?_) ?_ hb.1 (by omega) (by simpa [joinA, ByteArray.size] using hb.2)).mono fun e w1 he => ?_
  · have hj1 : j < xs.length := (List.getElem?_eq_some_iff.1 hj).1
    have hj2 := (List.getElem?_eq_some_iff.1 hj).2
    have hj3 : j < us.length := by omega
    rw [hc j hj3]
    have hj4 : j < l.length := by rw [asStrs_get hx]; simpa using hj1
    have hv2 := hv.2 j hj4 hj3
    have : l[j] = .str x := by
      have e2 := asStrs_get hx
      simp only [e2, List.getElem_map, hj2]
    rw [this] at hv2
    rw [hv2.str_inv]
  · have h1 : 0 < us.length := by omega
    have := hc 0 h1
    unfold World.cell? at this
    simp only at this
    by_cases hlt : (m s.b).blk < w.heap.size
    · exact hlt
    · rw [Array.getElem?_eq_none (by omega)] at this
      simp at this
  · obtain ⟨rfl, hbel⟩ := he
    exact ⟨_, m, rfl, .refl _ _, .str _, hi.keepAll (Below.keep hbel)⟩
end Go.Lt.P10

set_option maxRecDepth 100000
namespace Go.Lt.P10
open Go Go.Lt Go.Proofs
theorem ok55 : FnOk Tryz.prog 55 := ⟨⟨Tryz.f55, Tryz.func55, by kernel_rfl, rfl⟩⟩
/-- strings.Join is told -/
noncomputable def ovr (a : App) : App := ⟨fun f xs H => match f, xs with
  | 55, [.sl s, .str sep] => joinP s sep H
  | f, xs => a.call f xs H, a.yld⟩
noncomputable def appJ : Nat → App
  | 0 => ⟨fun _ _ _ => none, fun _ _ _ => none⟩
  | k + 1 => ovr ⟨disp (appJ k), ydisp (appJ k)⟩
theorem ovrSim {a : App} (h : AppSim Tryz.prog a) : AppSim Tryz.prog (ovr a) := by
  refine ⟨fun f xs H v H1 hc => ?_, h.2⟩
  simp only [ovr] at hc
  split at hc
  · exact ⟨ok55, joinSim hc⟩
  · exact h.1 _ _ _ _ _ hc
theorem appJSim : ∀ k, AppSim Tryz.prog (appJ k)
  | 0 => ⟨fun f xs H v H1 h => (by cases h), fun l xs H v H1 h => (by cases h)⟩
  | k + 1 => ovrSim ⟨dispSim (appJSim k), ydispSim (appJSim k)⟩
theorem awakeH0 : ((r13 (appJ 20) H0).map (·.1)) = some true := by decide +kernel
end Go.Lt.P10
