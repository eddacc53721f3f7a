/- PLAIN LAWS OF WHAT IS COMPUTED, for the statement 'ChestFork'. Nothing is asked of the input. -/
import Derived.Shelf.Strings.OnBuilder
import Derived.Shelf.Strconv.Itoa3
import Derived.Shelf.Strconv.AtoiAll
import Derived.Test.YtnigfapfghgmnaaGreatDoorProg
import Derived.Test.YtnigfapfghgmnaaGreatDoorLB
import Derived.Lib.Bytealg
import Derived.Laws.RangeAny
import Derived.Test.YtnigfapfghgmnaaGreatDoorG3A
set_option linter.unusedVariables false
set_option linter.unusedSimpArgs false
namespace Go.Proofs
open Go.Shelf
def Tryz.lays156_ren : Go.Shelf.Ren := ⟨fun | 156 => 55 | 165 => 85 | 166 => 52 | 169 => 59 | 240 => 83 | 241 => 114 | 276 => 112 | 277 => 169 | n => n, fun | 31 => 38 | 9 => 9 | 3 => 3 | 4 => 4 | 0 => 0 | 20 => 20 | 72 => 91 | 76 => 96 | 70 => 89 | 37 => 40 | 75 => 95 | 127 => 124 | 164 => 162 | 5 => 5 | 80 => 49 | n => n, fun | n => n⟩
theorem Tryz.lays156 : Go.Proofs.Lays.n156 Tryz.prog Tryz.lays156_ren := {
  mixed := by kernel_rfl
  f156 := Tryz.func55.trans (congrArg some (by kernel_rfl))
  f165 := Tryz.func85.trans (congrArg some (by kernel_rfl))
  f166 := Tryz.func52.trans (congrArg some (by kernel_rfl))
  f169 := Tryz.func59.trans (congrArg some (by kernel_rfl))
  f240 := Tryz.func83.trans (congrArg some (by kernel_rfl))
  f241 := Tryz.func114.trans (congrArg some (by kernel_rfl))
  f276 := Tryz.func112.trans (congrArg some (by kernel_rfl))
  f277 := Tryz.func169.trans (congrArg some (by kernel_rfl))
  t0 := Tryz.underlying0
  a0 := Tryz.isAgg0
  z0 := Tryz.sizeOf0
  v0 := Tryz.zeroValue0
  t3 := Tryz.underlying3
  a3 := Tryz.isAgg3
  z3 := Tryz.sizeOf3
  v3 := Tryz.zeroValue3
  t4 := Tryz.underlying4
  a4 := Tryz.isAgg4
  z4 := Tryz.sizeOf4
  v4 := Tryz.zeroValue4
  t9 := Tryz.underlying9
  a9 := Tryz.isAgg9
  z9 := Tryz.sizeOf9
  v9 := Tryz.zeroValue9
  t20 := Tryz.underlying20
  a20 := Tryz.isAgg20
  z20 := Tryz.sizeOf20
  v20 := Tryz.zeroValue20
  t31 := Tryz.underlying38
  a31 := Tryz.isAgg38
  z31 := Tryz.sizeOf38
  v31 := Tryz.zeroValue38
  t37 := Tryz.underlying40
  a37 := Tryz.isAgg40
  z37 := Tryz.sizeOf40
  v37 := Tryz.zeroValue40
  t70 := Tryz.underlying89
  a70 := Tryz.isAgg89
  z70 := Tryz.sizeOf89
  v70 := Tryz.zeroValue89
  t72 := Tryz.underlying91
  a72 := Tryz.isAgg91
  z72 := Tryz.sizeOf91
  v72 := Tryz.zeroValue91
  t75 := Tryz.underlying95
  a75 := Tryz.isAgg95
  z75 := Tryz.sizeOf95
  v75 := Tryz.zeroValue95
  t76 := Tryz.underlying96
  a76 := Tryz.isAgg96
  z76 := Tryz.sizeOf96
  v76 := Tryz.zeroValue96
  t127 := Tryz.underlying124
  a127 := Tryz.isAgg124
  z127 := Tryz.sizeOf124
  v127 := Tryz.zeroValue124
  t164 := Tryz.underlying162
  a164 := Tryz.isAgg162
  z164 := Tryz.sizeOf162
  v164 := Tryz.zeroValue162 }
theorem Tryz.Builder_Extra_156 : Builder.Extra Tryz.prog Tryz.lays156_ren := {
  sizeBuilder := by kernel_rfl
  liesBuilder := by kernel_rfl
  t5 := Tryz.underlying5
  a5 := Tryz.isAgg5
  z5 := Tryz.sizeOf5
  v5 := Tryz.zeroValue5
  infoByte := by kernel_rfl
  cellsByte := by kernel_rfl
  sizeByte := by kernel_rfl
  neB5 := by decide }
open Go.RowKit in
/-- No element: the empty string; the world is as it was. (Whatever the slice's address and capacity: a nil slice too.) (LAID: no walk: one application.) -/
theorem Tryz.strings_Join_none (a : Option Addr) (c : Nat) (sep : ByteArray) (w : World) :
    Calls Tryz.prog 55 #[.slice a 0 c, .string sep] w fun e w' => e = .returned (.string ⟨#[]⟩) ∧ w' = w := Any.strings_Join_none Tryz.lays156 Tryz.Builder_Extra_156 a c sep w
open Go.RowKit in
/-- strings.Join: "Join concatenates the elements of its first argument to create a single string. The separator string sep is placed between elements in the resulting string.": HOWEVER MANY ELEMENTS. Below the heap's end the world is as it was. (LAID: no walk: one application.) -/
theorem Tryz.strings_Join (bk o c : Nat) (xs : List ByteArray) (sep : ByteArray) (w : World) (hcells : ∀ (j : Nat) x, xs[j]? = some x → w.cell? ⟨bk, o + j, none⟩ = some (.string x)) (hbk : bk < w.heap.size) (hN : xs.length ≤ 140737488355328) (hcap : xs.length ≤ c) (hlen : (Lib.join (xs.map (·.data.toList)) sep.data.toList).length ≤ 140737488355328) :
    Calls Tryz.prog 55 #[.slice (some ⟨bk, o, none⟩) xs.length c, .string sep] w fun e w' => e = .returned (.string ⟨(Lib.join (xs.map (·.data.toList)) sep.data.toList).toArray⟩) ∧ Below w.heap.size w w' := Any.strings_Join Tryz.lays156 Tryz.Builder_Extra_156 bk o c xs sep w hcells hbk hN hcap hlen
def Tryz.laysM171_ren : Go.Shelf.Ren := ⟨fun | 171 => 53 | 243 => 84 | 246 => 113 | 283 => 165 | 284 => 166 | 285 => 167 | 286 => 168 | 129 => 227 | 317 => 226 | 318 => 228 | 319 => 229 | 320 => 230 | 337 => 248 | 338 => 249 | n => n, fun | 3 => 3 | 9 => 9 | 2 => 2 | 4 => 4 | 171 => 213 | 0 => 0 | 53 => 214 | 37 => 40 | 5 => 5 | 173 => 217 | 212 => 263 | 51 => 251 | 20 => 20 | 213 => 264 | 46 => 27 | 232 => 299 | 233 => 300 | n => n, fun | 17 => 1 | 18 => 6 | 19 => 7 | n => n⟩
theorem Tryz.laysM171 : Go.Proofs.LaysM.n171 Tryz.prog Tryz.laysM171_ren := {
  mixed := by kernel_rfl
  f129 := Tryz.func227.trans (congrArg some (by kernel_rfl))
  f171 := Tryz.func53.trans (congrArg some (by kernel_rfl))
  f243 := Tryz.func84.trans (congrArg some (by kernel_rfl))
  f246 := Tryz.func113.trans (congrArg some (by kernel_rfl))
  f283 := Tryz.func165.trans (congrArg some (by kernel_rfl))
  f284 := Tryz.func166.trans (congrArg some (by kernel_rfl))
  f285 := Tryz.func167.trans (congrArg some (by kernel_rfl))
  f286 := Tryz.func168.trans (congrArg some (by kernel_rfl))
  f317 := Tryz.func226.trans (congrArg some (by kernel_rfl))
  f318 := Tryz.func228.trans (congrArg some (by kernel_rfl))
  f319 := Tryz.func229.trans (congrArg some (by kernel_rfl))
  f320 := Tryz.func230.trans (congrArg some (by kernel_rfl))
  f337 := Tryz.func248.trans (congrArg some (by kernel_rfl))
  f338 := Tryz.func249.trans (congrArg some (by kernel_rfl))
  t0 := Tryz.underlying0
  a0 := Tryz.isAgg0
  z0 := Tryz.sizeOf0
  v0 := Tryz.zeroValue0
  t2 := Tryz.underlying2
  a2 := Tryz.isAgg2
  z2 := Tryz.sizeOf2
  v2 := Tryz.zeroValue2
  t3 := Tryz.underlying3
  a3 := Tryz.isAgg3
  z3 := Tryz.sizeOf3
  v3 := Tryz.zeroValue3
  t4 := Tryz.underlying4
  a4 := Tryz.isAgg4
  z4 := Tryz.sizeOf4
  v4 := Tryz.zeroValue4
  t5 := Tryz.underlying5
  a5 := Tryz.isAgg5
  z5 := Tryz.sizeOf5
  v5 := Tryz.zeroValue5
  t9 := Tryz.underlying9
  a9 := Tryz.isAgg9
  z9 := Tryz.sizeOf9
  v9 := Tryz.zeroValue9
  t20 := Tryz.underlying20
  a20 := Tryz.isAgg20
  z20 := Tryz.sizeOf20
  v20 := Tryz.zeroValue20
  t37 := Tryz.underlying40
  a37 := Tryz.isAgg40
  z37 := Tryz.sizeOf40
  v37 := Tryz.zeroValue40
  t46 := Tryz.underlying27
  a46 := Tryz.isAgg27
  z46 := Tryz.sizeOf27
  v46 := Tryz.zeroValue27
  t51 := Tryz.underlying251
  a51 := Tryz.isAgg251
  z51 := Tryz.sizeOf251
  v51 := Tryz.zeroValue251
  t53 := Tryz.underlying214
  a53 := Tryz.isAgg214
  z53 := Tryz.sizeOf214
  v53 := Tryz.zeroValue214
  t171 := Tryz.underlying213
  a171 := Tryz.isAgg213
  z171 := Tryz.sizeOf213
  v171 := Tryz.zeroValue213
  t173 := Tryz.underlying217
  a173 := Tryz.isAgg217
  z173 := Tryz.sizeOf217
  v173 := Tryz.zeroValue217
  t212 := Tryz.underlying263
  a212 := Tryz.isAgg263
  z212 := Tryz.sizeOf263
  v212 := Tryz.zeroValue263
  t213 := Tryz.underlying264
  a213 := Tryz.isAgg264
  z213 := Tryz.sizeOf264
  t232 := Tryz.underlying299
  a232 := Tryz.isAgg299
  z232 := Tryz.sizeOf299
  v232 := Tryz.zeroValue299
  t233 := Tryz.underlying300
  a233 := Tryz.isAgg300
  z233 := Tryz.sizeOf300
  v233 := Tryz.zeroValue300
  g17 := by kernel_rfl
  g18 := by kernel_rfl
  g19 := by kernel_rfl
  i0 := by kernel_rfl
  i2 := by kernel_rfl
  i3 := by kernel_rfl
  i4 := by kernel_rfl
  i5 := by kernel_rfl
  i9 := by kernel_rfl
  i20 := by kernel_rfl
  i37 := by kernel_rfl
  i46 := by kernel_rfl
  i51 := by kernel_rfl
  i53 := by kernel_rfl
  i171 := by kernel_rfl
  i173 := by kernel_rfl
  i212 := by kernel_rfl
  i232 := by kernel_rfl
  i233 := by kernel_rfl
  m17 := by kernel_rfl
  m18 := by kernel_rfl
  m19 := by kernel_rfl }
open Go.RowKit Go.Sort Go.Lib in
/-- strconv.Itoa: "Itoa is equivalent to FormatInt(int64(i), 10).": i's DECIMAL NUMERAL ('Lib.itoa': a '-' where i is negative, then the digits), FOR EVERY int. The world behind the call: the world before it, new blocks behind the heap (the library's 'var a [24]byte'), draws. (LAID: no walk: one application.) -/
theorem Tryz.strconv_Itoa (n : Int) (h0 : -9223372036854775808 ≤ n) (h1 : n ≤ 9223372036854775807) (w : World) (htab : Lib.TabIs Tryz.prog w "internal/strconv.uint64pow10" .u64 Lib.pow10Tab) :
    Calls Tryz.prog 53 #[.int .i64 n] w fun e w' => e = .returned (.string ⟨(Lib.itoa n).toArray⟩) ∧ ∃ k os, w' = grow (w.drewN k) os := Any.strconv_Itoa Tryz.laysM171 n h0 h1 w htab
def Tryz.laysC172_ren : Go.Shelf.Ren := ⟨fun | 172 => 111 | 244 => 163 | 245 => 164 | 247 => 221 | 279 => 222 | 280 => 223 | 281 => 224 | 282 => 225 | 287 => 245 | 316 => 246 | 171 => 53 | 205 => 247 | 321 => 258 | 322 => 259 | 243 => 84 | 246 => 113 | 283 => 165 | 284 => 166 | 285 => 167 | 286 => 168 | 129 => 227 | 317 => 226 | 318 => 228 | 319 => 229 | 320 => 230 | 337 => 248 | 338 => 249 | n => n, fun | 9 => 9 | 3 => 3 | 75 => 95 | 76 => 96 | 4 => 4 | 5 => 5 | 167 => 256 | 37 => 40 | 0 => 0 | 85 => 257 | 2 => 2 | 168 => 259 | 53 => 214 | 175 => 278 | 46 => 27 | 210 => 282 | 127 => 124 | 145 => 298 | 143 => 296 | 21 => 21 | 171 => 213 | 173 => 217 | 212 => 263 | 51 => 251 | 20 => 20 | 213 => 264 | 232 => 299 | 233 => 300 | 80 => 49 | n => n, fun | 15 => 2 | 16 => 3 | 17 => 1 | 18 => 6 | 19 => 7 | n => n⟩
theorem Tryz.laysC172 : Go.Proofs.LaysC.n172 Tryz.prog Tryz.laysC172_ren := {
  mixed := by kernel_rfl
  f129 := Tryz.func227.trans (congrArg some (by kernel_rfl))
  f171 := Tryz.func53.trans (congrArg some (by kernel_rfl))
  f172 := Tryz.func111.trans (congrArg some (by kernel_rfl))
  f205 := Tryz.func247.trans (congrArg some (by kernel_rfl))
  f243 := Tryz.func84.trans (congrArg some (by kernel_rfl))
  f244 := Tryz.func163.trans (congrArg some (by kernel_rfl))
  f245 := Tryz.func164.trans (congrArg some (by kernel_rfl))
  f246 := Tryz.func113.trans (congrArg some (by kernel_rfl))
  f247 := Tryz.func221.trans (congrArg some (by kernel_rfl))
  f279 := Tryz.func222.trans (congrArg some (by kernel_rfl))
  f280 := Tryz.func223.trans (congrArg some (by kernel_rfl))
  f281 := Tryz.func224.trans (congrArg some (by kernel_rfl))
  f282 := Tryz.func225.trans (congrArg some (by kernel_rfl))
  f283 := Tryz.func165.trans (congrArg some (by kernel_rfl))
  f284 := Tryz.func166.trans (congrArg some (by kernel_rfl))
  f285 := Tryz.func167.trans (congrArg some (by kernel_rfl))
  f286 := Tryz.func168.trans (congrArg some (by kernel_rfl))
  f287 := Tryz.func245.trans (congrArg some (by kernel_rfl))
  f316 := Tryz.func246.trans (congrArg some (by kernel_rfl))
  f317 := Tryz.func226.trans (congrArg some (by kernel_rfl))
  f318 := Tryz.func228.trans (congrArg some (by kernel_rfl))
  f319 := Tryz.func229.trans (congrArg some (by kernel_rfl))
  f320 := Tryz.func230.trans (congrArg some (by kernel_rfl))
  f321 := Tryz.func258.trans (congrArg some (by kernel_rfl))
  f322 := Tryz.func259.trans (congrArg some (by kernel_rfl))
  f337 := Tryz.func248.trans (congrArg some (by kernel_rfl))
  f338 := Tryz.func249.trans (congrArg some (by kernel_rfl))
  t0 := Tryz.underlying0
  a0 := Tryz.isAgg0
  z0 := Tryz.sizeOf0
  v0 := Tryz.zeroValue0
  t2 := Tryz.underlying2
  a2 := Tryz.isAgg2
  z2 := Tryz.sizeOf2
  v2 := Tryz.zeroValue2
  t3 := Tryz.underlying3
  a3 := Tryz.isAgg3
  z3 := Tryz.sizeOf3
  v3 := Tryz.zeroValue3
  t4 := Tryz.underlying4
  a4 := Tryz.isAgg4
  z4 := Tryz.sizeOf4
  v4 := Tryz.zeroValue4
  t5 := Tryz.underlying5
  a5 := Tryz.isAgg5
  z5 := Tryz.sizeOf5
  v5 := Tryz.zeroValue5
  t9 := Tryz.underlying9
  a9 := Tryz.isAgg9
  z9 := Tryz.sizeOf9
  v9 := Tryz.zeroValue9
  t20 := Tryz.underlying20
  a20 := Tryz.isAgg20
  z20 := Tryz.sizeOf20
  v20 := Tryz.zeroValue20
  t21 := Tryz.underlying21
  a21 := Tryz.isAgg21
  z21 := Tryz.sizeOf21
  v21 := Tryz.zeroValue21
  t37 := Tryz.underlying40
  a37 := Tryz.isAgg40
  z37 := Tryz.sizeOf40
  v37 := Tryz.zeroValue40
  t46 := Tryz.underlying27
  a46 := Tryz.isAgg27
  z46 := Tryz.sizeOf27
  v46 := Tryz.zeroValue27
  t51 := Tryz.underlying251
  a51 := Tryz.isAgg251
  z51 := Tryz.sizeOf251
  v51 := Tryz.zeroValue251
  t53 := Tryz.underlying214
  a53 := Tryz.isAgg214
  z53 := Tryz.sizeOf214
  v53 := Tryz.zeroValue214
  t75 := Tryz.underlying95
  a75 := Tryz.isAgg95
  z75 := Tryz.sizeOf95
  v75 := Tryz.zeroValue95
  t76 := Tryz.underlying96
  a76 := Tryz.isAgg96
  z76 := Tryz.sizeOf96
  v76 := Tryz.zeroValue96
  t85 := Tryz.underlying257
  a85 := Tryz.isAgg257
  z85 := Tryz.sizeOf257
  v85 := Tryz.zeroValue257
  t127 := Tryz.underlying124
  a127 := Tryz.isAgg124
  z127 := Tryz.sizeOf124
  v127 := Tryz.zeroValue124
  t143 := Tryz.underlying296
  a143 := Tryz.isAgg296
  z143 := Tryz.sizeOf296
  v143 := Tryz.zeroValue296
  t145 := Tryz.underlying298
  a145 := Tryz.isAgg298
  z145 := Tryz.sizeOf298
  v145 := Tryz.zeroValue298
  t167 := Tryz.underlying256
  a167 := Tryz.isAgg256
  z167 := Tryz.sizeOf256
  v167 := Tryz.zeroValue256
  t168 := Tryz.underlying259
  a168 := Tryz.isAgg259
  z168 := Tryz.sizeOf259
  v168 := Tryz.zeroValue259
  t171 := Tryz.underlying213
  a171 := Tryz.isAgg213
  z171 := Tryz.sizeOf213
  v171 := Tryz.zeroValue213
  t173 := Tryz.underlying217
  a173 := Tryz.isAgg217
  z173 := Tryz.sizeOf217
  v173 := Tryz.zeroValue217
  t175 := Tryz.underlying278
  a175 := Tryz.isAgg278
  z175 := Tryz.sizeOf278
  v175 := Tryz.zeroValue278
  t210 := Tryz.underlying282
  a210 := Tryz.isAgg282
  z210 := Tryz.sizeOf282
  v210 := Tryz.zeroValue282
  t212 := Tryz.underlying263
  a212 := Tryz.isAgg263
  z212 := Tryz.sizeOf263
  v212 := Tryz.zeroValue263
  t213 := Tryz.underlying264
  a213 := Tryz.isAgg264
  z213 := Tryz.sizeOf264
  t232 := Tryz.underlying299
  a232 := Tryz.isAgg299
  z232 := Tryz.sizeOf299
  v232 := Tryz.zeroValue299
  t233 := Tryz.underlying300
  a233 := Tryz.isAgg300
  z233 := Tryz.sizeOf300
  v233 := Tryz.zeroValue300
  g15 := by kernel_rfl
  g16 := by kernel_rfl
  g17 := by kernel_rfl
  g18 := by kernel_rfl
  g19 := by kernel_rfl
  t80 := Tryz.underlying49
  a80 := Tryz.isAgg49
  z80 := Tryz.sizeOf49
  v80 := Tryz.zeroValue49
  i0 := by kernel_rfl
  i2 := by kernel_rfl
  i3 := by kernel_rfl
  i4 := by kernel_rfl
  i5 := by kernel_rfl
  i9 := by kernel_rfl
  i20 := by kernel_rfl
  i21 := by kernel_rfl
  i37 := by kernel_rfl
  i46 := by kernel_rfl
  i51 := by kernel_rfl
  i53 := by kernel_rfl
  i75 := by kernel_rfl
  i76 := by kernel_rfl
  i80 := by kernel_rfl
  i85 := by kernel_rfl
  i127 := by kernel_rfl
  i143 := by kernel_rfl
  i145 := by kernel_rfl
  i167 := by kernel_rfl
  i168 := by kernel_rfl
  i171 := by kernel_rfl
  i173 := by kernel_rfl
  i175 := by kernel_rfl
  i210 := by kernel_rfl
  i212 := by kernel_rfl
  i232 := by kernel_rfl
  i233 := by kernel_rfl
  m15 := by kernel_rfl
  m16 := by kernel_rfl
  m17 := by kernel_rfl
  m18 := by kernel_rfl
  m19 := by kernel_rfl
  c0 := by kernel_rfl
  c2 := by kernel_rfl
  c3 := by kernel_rfl
  c4 := by kernel_rfl
  c5 := by kernel_rfl
  c9 := by kernel_rfl
  c20 := by kernel_rfl
  c21 := by kernel_rfl
  c37 := by kernel_rfl
  c46 := by kernel_rfl
  c51 := by kernel_rfl
  c53 := by kernel_rfl
  c75 := by kernel_rfl
  c76 := by kernel_rfl
  c80 := by kernel_rfl
  c85 := by kernel_rfl
  c127 := by kernel_rfl
  c143 := by kernel_rfl
  c145 := by kernel_rfl
  c167 := by kernel_rfl
  c168 := by kernel_rfl
  c171 := by kernel_rfl
  c173 := by kernel_rfl
  c175 := by kernel_rfl
  c210 := by kernel_rfl
  c212 := by kernel_rfl
  c213 := by kernel_rfl
  c232 := by kernel_rfl
  c233 := by kernel_rfl }
open Go.RowKit in
/-- strconv.Atoi, AT EVERY STRING THAT SPELLS AN int ('Lib.atoiAll .. = .ok v'; of whatever length: leading zeros count): v, AND NO ERROR. The world: as it was, or with the one new row that '[]byte(..)' lays. (LAID: no walk: one application.) -/
theorem Tryz.strconv_Atoi_ok (s : ByteArray) (hmax : s.size ≤ 9223372036854775806) (v : Int) (h : Lib.atoiAll s.data.toList = .ok v) (w : World) :
    Calls Tryz.prog 111 #[.string s] w fun e w' => e = .returned (.tuple #[.int .i64 v, .nilIface]) ∧ (w' = w ∨ ∃ t, w' = Lib.bytesWorld w 5 t) := Any.strconv_Atoi_ok Tryz.laysC172 s hmax v h w
open Go.RowKit in
/-- strconv.Atoi, AT EVERY STRING THAT IS NO DECIMAL NUMERAL ('.syntax'): 0, AND AN ERROR THAT IS NOT nil: a *NumError in a new block N: {Func: "Atoi", Num: s's bytes, Err: what the variable ErrSyntax holds}. Of what was there nothing has turned. (LAID: no walk: one application.) -/
theorem Tryz.strconv_Atoi_syntax (s : ByteArray) (hlim : s.size ≤ 281474976710656) (h : Lib.atoiAll s.data.toList = .«syntax») (ev : Value) (w : World) (hv : w.cell? ⟨2, 0, none⟩ = some ev) (hev : ev = .nilIface ∨ ∃ te pe, ev = .iface te pe) :
    Calls Tryz.prog 111 #[.string s] w fun e w' => ∃ N, e = .returned (.tuple #[.int .i64 (0), .iface 259 (.pointer (some ⟨N, 0, none⟩))]) ∧ w.heap.size ≤ N ∧ w'.heap[N]? = some (.cells #[.string ⟨#[65, 116, 111, 105]⟩, .string s, ev] 282 (0, 0)) ∧ Below w.heap.size w w' := Any.strconv_Atoi_syntax Tryz.laysC172 s hlim h ev w hv hev
open Go.RowKit in
/-- strconv.Atoi, AT EVERY NUMERAL THAT NO int HOLDS ('.range'): THE GREATEST OR THE LEAST int, BY THE SIGN ('Lib.atoiSat'), AND AN ERROR THAT IS NOT nil: a *NumError in a new block N: {Func: "Atoi", Num: s's bytes, Err: what the variable ErrRange holds}. Of what was there nothing has turned. (LAID: no walk: one application.) -/
theorem Tryz.strconv_Atoi_range (s : ByteArray) (hlim : s.size ≤ 281474976710656) (h : Lib.atoiAll s.data.toList = .range) (ev : Value) (w : World) (hv : w.cell? ⟨3, 0, none⟩ = some ev) (hev : ev = .nilIface ∨ ∃ te pe, ev = .iface te pe) :
    Calls Tryz.prog 111 #[.string s] w fun e w' => ∃ N, e = .returned (.tuple #[.int .i64 (Lib.atoiSat s.data.toList), .iface 259 (.pointer (some ⟨N, 0, none⟩))]) ∧ w.heap.size ≤ N ∧ w'.heap[N]? = some (.cells #[.string ⟨#[65, 116, 111, 105]⟩, .string s, ev] 282 (0, 0)) ∧ Below w.heap.size w w' := Any.strconv_Atoi_range Tryz.laysC172 s hlim h ev w hv hev
end Go.Proofs

namespace Go.Lt.P10
open Go Go.Lt Go.Proofs
def asStrs : List AV → Option (List ByteArray)
  | [] => some []
  | .str s :: l => (asStrs l).map (s :: ·)
  | _ => none
def joinA (xs : List ByteArray) (sep : ByteArray) : ByteArray := ⟨(Lib.join (xs.map (·.data.toList)) sep.data.toList).toArray⟩
/-- strings.Join -/
def joinP (s : Sl) (sep : ByteArray) (H : Hp) : Option (AV × Hp) :=
  (H.lds s.b s.o s.len).bind fun l => (asStrs l).bind fun xs =>
    if xs.length ≤ 140737488355328 ∧ (joinA xs sep).size ≤ 140737488355328 then some (.str (joinA xs sep), H) else none
theorem asStrs_get : ∀ {l : List AV} {xs : List ByteArray}, asStrs l = some xs → l = xs.map .str
  | [], xs, h => by simp [asStrs] at h; subst h; rfl
  | .str s :: l, xs, h => by
    simp only [asStrs, Option.map_eq_some_iff] at h
    obtain ⟨ys, h, rfl⟩ := h
    rw [asStrs_get h]; rfl
  | .undef :: _, _, h => by simp [asStrs] at h
  | .bool _ :: _, _, h => by simp [asStrs] at h
  | .int _ _ :: _, _, h => by simp [asStrs] at h
  | .ptr _ _ :: _, _, h => by simp [asStrs] at h
  | .nilptr :: _, _, h => by simp [asStrs] at h
  | .sl _ :: _, _, h => by simp [asStrs] at h
  | .map _ :: _, _, h => by simp [asStrs] at h
  | .nilmap :: _, _, h => by simp [asStrs] at h
  | .fn _ _ _ :: _, _, h => by simp [asStrs] at h
  | .yld _ :: _, _, h => by simp [asStrs] at h
  | .nilfn :: _, _, h => by simp [asStrs] at h
  | .iface _ _ :: _, _, h => by simp [asStrs] at h
  | .niliface :: _, _, h => by simp [asStrs] at h
  | .agg _ :: _, _, h => by simp [asStrs] at h
  | .tup _ :: _, _, h => by simp [asStrs] at h
  | .gptr _ :: _, _, h => by simp [asStrs] at h
theorem Below.keep {w w' : World} (h : RowKit.Below w.heap.size w w') : Keep (Kp.all w) w w' := ⟨h.os, h.tape, h.output, h.size, h.block⟩
theorem joinSim {s : Sl} {sep : ByteArray} {H : Hp} {v : AV} {H1 : Hp} (h : joinP s sep H = some (v, H1)) : CallSim Tryz.prog 55 [.sl s, .str sep] H v H1 := by
  unfold joinP at h
  obtain ⟨l, hl, h⟩ := Option.bind_eq_some_iff.1 h
  obtain ⟨xs, hx, h⟩ := Option.bind_eq_some_iff.1 h
  split at h
  case isFalse => cases h
  rename_i hb
  injection h with h
  injection h with h1 h2
  subst h1; subst h2
  refine ⟨Nat.le_refl _, fun B w0 m w args' hr hi => ?_⟩
  obtain ⟨v1, r1, e1, g1, hr1⟩ := hr.cons_inv
  obtain ⟨v2, r2, e2, g2, hr2⟩ := hr1.cons_inv
  have e0 := hr2.nil_inv
  rw [e2, e0, g2.str_inv] at e1
  have hargs : args' = #[v1, .string sep] := by rw [← Array.toList_inj, e1]
  subst hargs
  have hle : xs.length = s.len := by
    have := (lds_get hl).1
    rw [asStrs_get hx] at this
    simpa using this
  have nil : ∀ a c, v1 = .slice a 0 c → s.len = 0 → Calls Tryz.prog 55 #[v1, .string sep] w fun e w' => ∃ v' m', e = .returned v' ∧ Ext H.n m m' ∧ RV m' H.n (.str (joinA xs sep)) v' ∧ Inv B w0 m' H w' := by
    intro a c hv h0
    subst hv
    refine (Tryz.strings_Join_none a c sep w).mono fun e w1 he => ?_
    obtain ⟨rfl, rfl⟩ := he
    have : xs = [] := List.length_eq_zero_iff.1 (by omega)
    subst this
    exact ⟨_, m, rfl, .refl _ _, .str _, hi⟩
  rcases g1.sl_inv with ⟨rfl, e⟩ | ⟨a, hn, _, h0, _, e⟩ | ⟨cap', hn, hbn, hlc, hcc, _, _, e⟩
  · exact nil _ _ e rfl
  · exact nil _ _ e h0
  by_cases h0 : s.len = 0
  · rw [h0] at e; exact nil _ _ e h0
  obtain ⟨us, hlen, hc, hv⟩ := hi.lds Tryz.prog hl
  subst e
  rw [← hle]
  refine (Tryz.strings_Join (m s.b).blk ((m s.b).sh + s.o) cap' xs sep w (fun j x hj => ?_) ?_ hb.1 (by omega) (by simpa [joinA, ByteArray.size] using hb.2)).mono fun e w1 he => ?_
  · have hj1 : j < xs.length := (List.getElem?_eq_some_iff.1 hj).1
    have hj2 := (List.getElem?_eq_some_iff.1 hj).2
    have hj3 : j < us.length := by omega
    rw [hc j hj3]
    have hj4 : j < l.length := by rw [asStrs_get hx]; simpa using hj1
    have hv2 := hv.2 j hj4 hj3
    have : l[j] = .str x := by
      have e2 := asStrs_get hx
      simp only [e2, List.getElem_map, hj2]
    rw [this] at hv2
    rw [hv2.str_inv]
  · have h1 : 0 < us.length := by omega
    have := hc 0 h1
    unfold World.cell? at this
    simp only at this
    by_cases hlt : (m s.b).blk < w.heap.size
    · exact hlt
    · rw [Array.getElem?_eq_none (by omega)] at this
      simp at this
  · obtain ⟨rfl, hbel⟩ := he
    exact ⟨_, m, rfl, .refl _ _, .str _, hi.keepAll (Below.keep hbel)⟩
/-- strconv.Itoa -/
def itoaA (n : Int) : ByteArray := ⟨(Lib.itoa n).toArray⟩
def itoaP (n : Int) (H : Hp) : Option (AV × Hp) := if -9223372036854775808 ≤ n ∧ n ≤ 9223372036854775807 then some (.str (itoaA n), H) else none
theorem itoaSim {n : Int} {H : Hp} {v : AV} {H1 : Hp} (h : itoaP n H = some (v, H1)) : CallSim Tryz.prog 53 [.int .i64 n] H v H1 := by
  unfold itoaP at h
  split at h
  case isFalse => cases h
  rename_i hb
  injection h with h
  injection h with h1 h2
  subst h1; subst h2
  refine ⟨Nat.le_refl _, fun B w0 m w args' hr hi => ?_⟩
  obtain ⟨v1, r1, e1, g1, hr1⟩ := hr.cons_inv
  have e0 := hr1.nil_inv
  rw [e0, g1.int_inv] at e1
  have hargs : args' = #[.int .i64 n] := by rw [← Array.toList_inj, e1]
  subst hargs
  have htab : Lib.TabIs Tryz.prog w "internal/strconv.uint64pow10" .u64 Lib.pow10Tab := by
    obtain ⟨hB, cs, e, fr, hp, hh⟩ := hi.glob 1 _ (.head _)
    have hw : w.heap[1]? = some (.cells cs e fr) := by rw [hi.below.block 1 hB]; exact hh
    unfold Lib.TabIs World.var?
    rw [show Tryz.prog.globalNamed "internal/strconv.uint64pow10" = some 1 by kernel_rfl, Option.bind_some, hw]
    simp only
    rw [hp]
  refine (Tryz.strconv_Itoa n hb.1 hb.2 w htab).mono fun e w1 he => ?_
  obtain ⟨rfl, k, os, rfl⟩ := he
  refine ⟨_, m, rfl, .refl _ _, .str _, hi.keepAll ⟨rfl, rfl, rfl, by simp [Go.Sort.grow, World.drewN], fun i hi => ?_⟩⟩
  have hi : i < w.heap.size := hi
  simp [Go.Sort.grow, World.drewN, Array.getElem?_append, hi]
/-- strconv.Atoi -/
def atoiV (s : ByteArray) : AV := match Lib.atoiAll s.data.toList with
  | .ok v => .tup [.int .i64 v, .niliface]
  | .syntax => .tup [.int .i64 0, .iface 259 .undef]
  | .range => .tup [.int .i64 (Lib.atoiSat s.data.toList), .iface 259 .undef]
def atoiP (s : ByteArray) (H : Hp) : Option (AV × Hp) := if s.size ≤ 281474976710656 then some (atoiV s, H) else none
theorem errCell {B : Kp} {w0 w : World} {m : Nat → Loc} {H : Hp} (hi : Inv B w0 m H w) {g : Nat} (hg : (g, fun cs => ∃ t p, cs = #[Value.iface t p]) ∈ glbs) : ∃ t p, w.cell? ⟨g, 0, none⟩ = some (.iface t p) := by
  obtain ⟨hB, cs, e, fr, ⟨t, p, hp⟩, hh⟩ := hi.glob g _ hg
  have hw : w.heap[g]? = some (.cells cs e fr) := by rw [hi.below.block g hB]; exact hh
  refine ⟨t, p, ?_⟩
  simp [World.cell?, hw, hp]
theorem atoiSim {s : ByteArray} {H : Hp} {v : AV} {H1 : Hp} (h : atoiP s H = some (v, H1)) : CallSim Tryz.prog 111 [.str s] H v H1 := by
  unfold atoiP at h
  split at h
  case isFalse => cases h
  rename_i hb
  injection h with h
  injection h with h1 h2
  subst h1; subst h2
  refine ⟨Nat.le_refl _, fun B w0 m w args' hr hi => ?_⟩
  obtain ⟨v1, r1, e1, g1, hr1⟩ := hr.cons_inv
  have e0 := hr1.nil_inv
  rw [e0, g1.str_inv] at e1
  have hargs : args' = #[.string s] := by rw [← Array.toList_inj, e1]
  subst hargs
  have tup2 : ∀ (a b : AV) (x y : Value), RV m H.n a x → RV m H.n b y → RV m H.n (.tup [a, b]) (.tuple #[x, y]) := fun a b x y h1 h2 => .tup _ _ rfl fun i h h' => by
    match i, h with
    | 0, _ => exact h1
    | 1, _ => exact h2
  unfold atoiV
  cases ha : Lib.atoiAll s.data.toList with
  | ok v =>
    refine (Tryz.strconv_Atoi_ok s (by omega) v ha w).mono fun e w1 he => ?_
    obtain ⟨rfl, he⟩ := he
    refine ⟨_, m, rfl, .refl _ _, tup2 _ _ _ _ (.int _ _) .niliface, ?_⟩
    rcases he with rfl | ⟨t, rfl⟩
    · exact hi
    · exact hi.keepAll ⟨rfl, rfl, rfl, by rw [Lib.bytesWorld_size]; omega, fun i h => Lib.bytesWorld_at_old _ _ _ _ h⟩
  | «syntax» =>
    obtain ⟨t, p, hc⟩ := errCell hi (g := 2) (.tail _ (.head _))
    refine (Tryz.strconv_Atoi_syntax s hb ha _ w hc (.inr ⟨t, p, rfl⟩)).mono fun e w1 he => ?_
    obtain ⟨N, rfl, _, _, hbel⟩ := he
    exact ⟨_, m, rfl, .refl _ _, tup2 _ _ _ _ (.int _ _) (.iface _ _ _ (.undef _)), hi.keepAll (Below.keep hbel)⟩
  | range =>
    obtain ⟨t, p, hc⟩ := errCell hi (g := 3) (.tail _ (.tail _ (.head _)))
    refine (Tryz.strconv_Atoi_range s hb ha _ w hc (.inr ⟨t, p, rfl⟩)).mono fun e w1 he => ?_
    obtain ⟨N, rfl, _, _, hbel⟩ := he
    exact ⟨_, m, rfl, .refl _ _, tup2 _ _ _ _ (.int _ _) (.iface _ _ _ (.undef _)), hi.keepAll (Below.keep hbel)⟩
theorem ok55 : FnOk Tryz.prog 55 := ⟨⟨Tryz.f55, Tryz.func55, by kernel_rfl, rfl⟩⟩
theorem ok53 : FnOk Tryz.prog 53 := ⟨⟨Tryz.f53, Tryz.func53, by kernel_rfl, rfl⟩⟩
theorem ok111 : FnOk Tryz.prog 111 := ⟨⟨Tryz.f111, Tryz.func111, by kernel_rfl, rfl⟩⟩
/-- functions of the library are told -/
noncomputable def told (a : App) : App := ⟨fun f xs H => match f, xs with
  | 55, [.sl s, .str sep] => joinP s sep H
  | 53, [.int .i64 n] => itoaP n H
  | 111, [.str s] => atoiP s H
  | f, xs => a.call f xs H, a.yld⟩
theorem toldSim {a : App} (h : AppSim Tryz.prog a) : AppSim Tryz.prog (told a) := by
  refine ⟨fun f xs H v H1 hc => ?_, h.2⟩
  simp only [told] at hc
  split at hc
  · exact ⟨ok55, joinSim hc⟩
  · exact ⟨ok53, itoaSim hc⟩
  · exact ⟨ok111, atoiSim hc⟩
  · exact h.1 _ _ _ _ _ hc
end Go.Lt.P10

namespace Go.Lt.P10
open Go Go.Lt Go.Proofs
/-! ### words of a line -/
def sp : ByteArray := ByteArray.mk #[32]
theorem strIdx_cases (s : ByteArray) (c : Int) : strIdx s c = -1 ∨ ∃ i : Nat, strIdx s c = i ∧ i < s.size := by
  unfold strIdx
  split
  · rename_i i h
    exact .inr ⟨i, rfl, List.mem_range.1 (List.mem_of_find?_eq_some h)⟩
  · exact .inl rfl
theorem strCnt_eq (s : ByteArray) (c : Int) : ∃ k : Nat, strCnt s c = k ∧ k ≤ s.size := by
  unfold strCnt
  rw [Lib.foldl_data, show ((0 : Nat) : Int) = 0 from rfl, Lib.count_foldl]
  refine ⟨_, by rw [Int.zero_add], ?_⟩
  unfold Lib.countByte
  have := List.count_le_length (a := c.toNat.toUInt8) (l := s.data.toList)
  simpa using this
def wordsN : Nat → ByteArray → List ByteArray
  | 0, s => [s]
  | k + 1, s => if strIdx s 32 < 0 then [s] else s.extract 0 (strIdx s 32).toNat :: wordsN k (s.extract ((strIdx s 32).toNat + 1) s.size)
/-- what stands between the blanks -/
def words (s : ByteArray) : List ByteArray := wordsN (strCnt s 32).toNat s
theorem wordsN_len : ∀ k s, 1 ≤ (wordsN k s).length ∧ (wordsN k s).length ≤ k + 1
  | 0, _ => ⟨Nat.le_refl _, Nat.le_refl _⟩
  | k + 1, s => by
    unfold wordsN
    split
    · simp
    · have := wordsN_len k (s.extract ((strIdx s 32).toNat + 1) s.size)
      simp only [List.length_cons]; omega
theorem words_len (s : ByteArray) : 1 ≤ (words s).length ∧ (words s).length ≤ s.size + 1 := by
  obtain ⟨k, hk, hs⟩ := strCnt_eq s 32
  unfold words
  rw [hk]
  have := wordsN_len k s
  simp only [Int.toNat_natCast]; omega
/-- the first word -/
def wordS (s : ByteArray) : ByteArray := if 0 ≤ strIdx s 32 then s.extract 0 (strIdx s 32).toNat else s
def isLineS (s : ByteArray) : Bool := decide (s.size ≤ 60) && (!(words s).any fun w => strEq (ByteArray.mk #[]) w) && s.data.toList.all fun c => decide (32 ≤ c.toNat ∧ c.toNat ≤ 126)
theorem width_pos (s : ByteArray) (pos : Nat) (h : pos < s.size) : 1 ≤ (Utf8.decode s pos).2 := by
  by_cases ha : (s[pos]'h).toNat < 128
  · rw [decode_ascii s pos h ha]
    exact Nat.le_refl _
  · exact (decode_high s pos h (by omega)).2
def nameF (w : ByteArray) : Nat → Nat → Bool
  | 0, _ => false
  | k + 1, p => if p < w.size then if ((Utf8.decode w p).1 : Int) < 97 then false else if 122 < ((Utf8.decode w p).1 : Int) then false else nameF w k (p + (Utf8.decode w p).2)
    else if strEq w (ByteArray.mk #[]) = true then false else decide ((w.size : Int) ≤ 8)
def isNameS (w : ByteArray) : Bool := nameF w (w.size + 1) 0
/-- a number of at most three digits, written as it is -/
def numS (w : ByteArray) : Option Int := match Lib.atoiAll w.data.toList with
  | .ok v => if 0 ≤ v ∧ w.size ≤ 3 ∧ strEq (itoaA v) w = true then some v else none
  | _ => none
def parseS : List UInt8 → List ByteArray → Option (List ByteArray × List Int)
  | f :: fs, x :: xs => if f = 110 then if isNameS x = true then (parseS fs xs).map fun p => (x :: p.1, p.2) else none
    else (numS x).bind fun n => (parseS fs xs).map fun p => (p.1, n :: p.2)
  | _, _ => some ([], [])
def readS (form text : ByteArray) : Option (List ByteArray × List Int) :=
  if (words text).tail.length = form.size ∧ isLineS text = true then parseS form.data.toList (words text).tail else none

/-! ### states -/
structure St where
  leaves : List (ByteArray × Int)
  orders : List Int
  t0 : Int
  t1 : Int
  t2 : Int
  t3 : Int
  offers : List (Int × Int)
def St.new : St := ⟨[], [], 0, 0, 0, 0, []⟩
def St.find (s : St) (name : ByteArray) : Option Nat := s.leaves.findIdx? fun l => strEq l.1 name
/-- what a change comes to: an error or a state -/
abbrev Act := Int ⊕ St
def leafS (s : St) (name : ByteArray) (n : Int) : Act :=
  if (s.find name).isSome then .inl 5 else if 20 < n then .inl 2 else if s.leaves.length = 6 then .inl 7 else .inr { s with leaves := s.leaves ++ [(name, n)] }
def stock (s : St) (i : Nat) : Int := (s.leaves.getD i (ByteArray.mk #[], 0)).2
def setStock (s : St) (i : Nat) (n : Int) : St := { s with leaves := s.leaves.modify i fun l => (l.1, n) }
def giveS (s : St) (a b : ByteArray) (n : Int) : Act :=
  match s.find a, s.find b with
  | some i, some j => if i ≠ j ∧ 1 ≤ n ∧ n ≤ 20 ∧ 2 * n ≤ stock s i - stock s j then .inr (setStock (setStock s i (stock s i - n)) j (stock s j + n)) else .inl 5
  | _, _ => .inl 4
def orderS (s : St) (a : ByteArray) : Act :=
  match s.find a with
  | none => .inl 4
  | some i => if stock s i = 0 then .inl 5 else if s.orders.length = 40 then .inl 7 else .inr { setStock s i (stock s i - 1) with orders := s.orders ++ [(i : Int)] }
def tasteS (s : St) (i j : Int) : Act :=
  if 1 < i ∨ 1 < j then .inl 2 else if s.t0 + s.t1 + (s.t2 + s.t3) = 16 then .inl 7
  else .inr (if i = 0 then if j = 0 then { s with t0 := s.t0 + 1 } else { s with t1 := s.t1 + 1 } else if j = 0 then { s with t2 := s.t2 + 1 } else { s with t3 := s.t3 + 1 })
def offerS (s : St) (i j : Int) : Act :=
  if (i, j) ∈ s.offers then .inl 5 else if 30 < i ∨ 30 < j then .inl 2 else if s.offers.length = 8 then .inl 7 else .inr { s with offers := s.offers ++ [(i, j)] }
/-- what is done with the words of a line: the form, and the change -/
def wLeaf : ByteArray := ByteArray.mk #[108, 101, 97, 102]
def wGive : ByteArray := ByteArray.mk #[103, 105, 118, 101]
def wOrder : ByteArray := ByteArray.mk #[111, 114, 100, 101, 114]
def wTaste : ByteArray := ByteArray.mk #[116, 97, 115, 116, 101]
def wOffer : ByteArray := ByteArray.mk #[111, 102, 102, 101, 114]
def fND : ByteArray := ByteArray.mk #[110, 100]
def fNND : ByteArray := ByteArray.mk #[110, 110, 100]
def fN : ByteArray := ByteArray.mk #[110]
def fDD : ByteArray := ByteArray.mk #[100, 100]
def actS (s : St) (w text : ByteArray) (form : ByteArray) (f : St → List ByteArray × List Int → Act) : Act × ByteArray :=
  match readS form text with
  | none => (.inl 3, ByteArray.mk #[])
  | some p => match f s p with
    | .inl e => (.inl e, ByteArray.mk #[])
    | .inr t => (.inr t, w)
def fLeaf (s : St) : List ByteArray × List Int → Act
  | ([a], [n]) => leafS s a n
  | _ => .inl 3
def fGive (s : St) : List ByteArray × List Int → Act
  | ([a, b], [n]) => giveS s a b n
  | _ => .inl 3
def fOrder (s : St) : List ByteArray × List Int → Act
  | ([a], []) => orderS s a
  | _ => .inl 3
def fTaste (s : St) : List ByteArray × List Int → Act
  | ([], [i, j]) => tasteS s i j
  | _ => .inl 3
def fOffer (s : St) : List ByteArray × List Int → Act
  | ([], [i, j]) => offerS s i j
  | _ => .inl 3
/-- a change of a line -/
def doS (s : St) (text : ByteArray) : Act × ByteArray :=
  if strEq (wordS text) wLeaf = true then actS s (wordS text) text fND fLeaf
  else if strEq (wordS text) wGive = true then actS s (wordS text) text fNND fGive
  else if strEq (wordS text) wOrder = true then actS s (wordS text) text fN fOrder
  else if strEq (wordS text) wTaste = true then actS s (wordS text) text fDD fTaste
  else if strEq (wordS text) wOffer = true then actS s (wordS text) text fDD fOffer
  else (.inl 3, ByteArray.mk #[])
end Go.Lt.P10

namespace Go.Lt.P10
open Go Go.Lt Go.Proofs
theorem is {α β : Type} {x : Option (α × Hp)} {a : α} {H : Hp} {f : α × Hp → Option (β × Hp)} {Q : β → Hp → Prop} (h : x = some (a, H)) (k : Ok (f (a, H)) Q) : Ok (x.bind f) Q := by rw [h]; exact k
theorem sp_data : sp.data.toList = [32] := by decide +kernel
theorem strIdx_self (c : UInt8) : strIdx (ByteArray.mk #[c]) (c.toNat : Int) = 0 := by
  unfold strIdx
  have h1 : (ByteArray.mk #[c])[0]! = c := rfl
  have : (List.range (ByteArray.mk #[c]).size).find? (fun i => (ByteArray.mk #[c])[i]! == ((c.toNat : Int)).toNat.toUInt8) = some 0 := by
    rw [show List.range (ByteArray.mk #[c]).size = [0] from rfl, List.find?_cons]
    simp [h1]
  rw [this]; rfl
theorem bt_sp : bt sp 0 = 32 := by decide +kernel
theorem strEq_iff {a b : ByteArray} : strEq a b = true ↔ a = b := by
  unfold strEq
  rw [beq_iff_eq]
  constructor
  · intro h
    have := Array.toList_inj.1 h
    cases a; cases b; simpa using this
  · rintro rfl; rfl
theorem r100_sp (s : ByteArray) (H : Hp) : r100 s sp H = some (strIdx s 32, H) := by
  unfold r100
  rw [if_neg (show ¬ (sp.size : Int) = 0 by decide +kernel)]
  unfold r100_j0
  have h1 : (sp.size : Int) = 1 := by decide +kernel
  cases he : strEq sp s with
  | true =>
    rw [if_pos rfl]
    have := strEq_iff.1 he
    subst this
    have h2 : strIdx sp 32 = 0 := strIdx_self 32
    rw [h2]
  | false =>
    rw [if_neg (by simp), if_pos h1, ck, if_pos (by rw [h1]; decide), bt_sp]
    rfl
theorem r160_sp (s : ByteArray) (H : Hp) : r160 s sp H = some (strIdx s 32, H) := by
  unfold r160; rw [r100_sp]; rfl
theorem r71_sp (s : ByteArray) (H : Hp) (hs : s.size ≤ 1048576) : ∃ r, r71 s sp H = some ((wordS s, r), H) := by
  unfold r71
  rw [r100_sp]
  simp only [Option.bind_some]
  unfold wordS
  rcases strIdx_cases s 32 with h | ⟨i, h, hi⟩
  · rw [h]; exact ⟨_, rfl⟩
  · rw [h]
    have h1 : sp.size = 1 := by decide +kernel
    have hw : w64 ((i : Int) + (sp.size : Int)) = ((i + 1 : Nat) : Int) := by rw [h1]; exact w64_succ (by omega)
    rw [hw, if_pos (by omega), if_pos (by omega), ck, if_pos (by omega), ck, if_pos (by omega)]
    exact ⟨_, rfl⟩
theorem r42_sp (s : ByteArray) (H : Hp) (hs : s.size ≤ 1048576) : ∃ r, r42 s sp H = some ((wordS s, r), H) := by
  obtain ⟨r, h⟩ := r71_sp s H hs
  unfold r42
  rw [h]
  exact ⟨_, rfl⟩
theorem SL.of_pre {T : Type} [El T] {H : Hp} {v : Sl} {l : List T} {r cs : List AV} {ro : Bool} (h : H.get v.b = some (.cells cs ro)) (hc : cs.take (l.length * El.sz T) = encs l) (ho : v.o = 0) (hl : v.len = l.length) (hcp : v.len ≤ v.cap) (hp : v.opn = 0 ∨ v.opn = El.sz T) (hn : v.nil = false) : SL H v l := by
  refine ⟨⟨by rw [encs_len, hl], lds_of_get fun i hi => ?_⟩, hcp, hp, fun e => by rw [hn] at e; cases e⟩
  rw [ld_of_get h, ho, Nat.zero_add]
  have h2 : (encs l)[i]? = (cs.take (l.length * El.sz T))[i]? := by rw [hc]
  rw [encs_len] at hi
  rw [List.getElem?_take_of_lt hi] at h2
  rw [← h2, List.getElem?_eq_getElem]
theorem SL.ldStr {T : Type} [El T] {H : Hp} {v : Sl} {l : List T} (h : SL H v l) {i j : Nat} {n : ByteArray} (hi : i < l.length) (e : (El.enc l[i])[j]? = some (.str n)) : H.ldStr v.b (v.o + i * El.sz T + j) = some n := by
  simp [Hp.ldStr, SL.ld h hi e, AV.asStr]
/-- strings.Split -/
theorem r107_j2_ok {H : Hp} {v1 : ByteArray} {v2 : Sl} {i N : Nat} {cs : List AV} {done : List ByteArray} (h2 : v2 = ⟨false, v2.b, 0, N, N, 0⟩) (hg : H.get v2.b = some (.cells cs false)) (hl : cs.length = N) (hi : i < N) (hN : N ≤ 1048577)
    (ht : cs.take i = encs done) (hd : done.length = i) :
    Ok (r107_j2 v1 v2 (i : Int) H) fun v H' => SL H' v (done ++ [v1]) ∧ v.nil = false ∧ v.b = v2.b ∧ H'.n = H.n ∧ ∀ b, b ≠ v2.b → H'.get b = H.get b := by
  unfold r107_j2
  have hln : v2.len = N := by rw [h2]
  have hcp : v2.cap = N := by rw [h2]
  have hop : v2.opn = 0 := by rw [h2]
  have ho : v2.o = 0 := by rw [h2]
  have hnil : v2.nil = false := by rw [h2]
  refine Ok.ck (by omega) ?_
  rw [ho]
  refine Ok.st hg (by simp; omega) fun H' e hg' => ?_
  subst e
  have hw : w64 ((i : Int) + 1) = ((i + 1 : Nat) : Int) := w64_succ (by omega)
  rw [hw]
  refine Ok.ck (by rw [hcp, hop]; simp; omega) (Ok.ret ?_)
  simp only [Int.toNat_zero, Int.toNat_natCast, Nat.zero_add, Nat.mul_one] at hg' ⊢
  have hcut : v2.cut 1 0 (i + 1) = ⟨false, v2.b, 0, i + 1, N, 0⟩ := by rw [h2]; simp [Sl.cut]
  rw [hcut]
  refine ⟨SL.of_pre (r := []) hg' ?_ rfl (by simp; omega) (by show i + 1 ≤ N; omega) (.inl rfl) rfl, rfl, rfl, by simp, fun b hb => Hp.get_set_other _ _ hb⟩
  rw [encs_append, encs_one, List.length_append, hd]
  show ((cs.set i (.str v1)).take ((i + 1) * 1)) = _
  rw [Nat.mul_one, List.take_succ_eq_append_getElem (by simp; omega), List.getElem_set_self, List.take_set_of_le (Nat.le_refl _), ht]
  rfl
theorem r107_l0_ok {H0 H : Hp} {v5 : Sl} {s0 : ByteArray} {N : Nat} (h5 : v5 = ⟨false, v5.b, 0, N, N, 0⟩) (hN1 : 1 ≤ N) (hN : N ≤ 1048577) (hs0 : s0.size ≤ 1048576) {cs : List AV} (hg : H.get v5.b = some (.cells cs false)) (hl : cs.length = N) :
    Ok (r107_l0 FUEL s0 sp 0 ((N - 1 : Nat) : Int) v5 0 H) fun v H' => SL H' v (wordsN (N - 1) s0) ∧ v.nil = false ∧ v.b = v5.b ∧ H'.n = H.n ∧ ∀ b, b ≠ v5.b → H'.get b = H.get b := by
  have hln : v5.len = N := by rw [h5]
  have hcp : v5.cap = N := by rw [h5]
  have hop : v5.opn = 0 := by rw [h5]
  have ho : v5.o = 0 := by rw [h5]
  refine Ok.loop (L := fun K (s : ByteArray × Int) H => r107_l0 K s.1 sp 0 ((N - 1 : Nat) : Int) v5 s.2 H) (fun m s A => ∃ (i : Nat) (done : List ByteArray) (cs : List AV), s.2 = (i : Int) ∧ i + m = N - 1 ∧ s.1.size ≤ 1048576 ∧ A.get v5.b = some (.cells cs false) ∧ cs.length = N ∧ cs.take i = encs done ∧ done.length = i ∧ wordsN (N - 1) s0 = done ++ wordsN m s.1 ∧ A.n = H.n ∧ ∀ b, b ≠ v5.b → A.get b = H.get b) ?_ FUEL (N - 1) (s0, 0) H (by unfold FUEL; omega) ⟨0, [], cs, rfl, by omega, hs0, hg, hl, rfl, rfl, rfl, rfl, fun _ _ => rfl⟩
  rintro K m ⟨s, i'⟩ A ⟨i, done, cs, hi, him, hsz, hgA, hlA, ht, hd, hw, hn, hoth⟩ ih
  dsimp only at *
  subst hi
  rw [r107_l0]
  refine Ok.ite (fun hlt => ?_) fun hlt => ?_
  · have hlt' : i < N - 1 := by omega
    refine is (r160_sp s A) ?_
    obtain ⟨m', rfl⟩ : ∃ m', m = m' + 1 := ⟨m - 1, by omega⟩
    refine Ok.ite (fun hneg => ?_) fun hneg => ?_
    · refine (r107_j2_ok h5 hgA hlA (by omega) hN ht hd).mono fun v H' ⟨a, b, c, d, e⟩ => ⟨?_, b, c, by omega, fun x hx => by rw [e x hx, hoth x hx]⟩
      rw [hw]
      have : wordsN (m' + 1) s = [s] := by unfold wordsN; rw [if_pos hneg]
      rw [this]; exact a
    · dsimp only at hneg ⊢
      rcases strIdx_cases s 32 with h | ⟨j, h, hj⟩
      · rw [h] at hneg; exact absurd hneg (by decide)
      · rw [h]
        have h1 : sp.size = 1 := by decide +kernel
        have hw0 : w64 ((j : Int) + 0) = (j : Int) := by rw [w64_id (by omega) (by omega)]; omega
        have hw1 : w64 ((j : Int) + (sp.size : Int)) = ((j + 1 : Nat) : Int) := by rw [h1]; exact w64_succ (by omega)
        rw [hw0, hw1]
        refine Ok.ck (by omega) (Ok.ck (by omega) ?_)
        rw [ho]
        refine Ok.st hgA (by simp; omega) fun H' e hg' => ?_
        refine Ok.ck (by omega) ?_
        rw [w64_succ (show i < 9223372036854775807 by omega)]
        simp only [Int.toNat_zero, Int.toNat_natCast, Nat.zero_add, Nat.mul_one] at hg' ⊢
        refine ih m' (s.extract (j + 1) s.size, ((i + 1 : Nat) : Int)) H' (by omega) ⟨i + 1, done ++ [s.extract 0 j], _, rfl, by omega, ?_, hg', by simp; omega, ?_, by simp [hd], ?_, by rw [e]; simp; omega, fun b hb => by rw [e, Hp.get_set_other _ _ hb, hoth b hb]⟩
        · simp [ByteArray.size_extract]; omega
        · rw [encs_append, encs_one, List.take_succ_eq_append_getElem (by simp; omega), List.getElem_set_self, List.take_set_of_le (Nat.le_refl _), ht]
          rfl
        · rw [hw]
          have : wordsN (m' + 1) s = s.extract 0 j :: wordsN m' (s.extract (j + 1) s.size) := by
            conv => lhs; unfold wordsN
            rw [if_neg (by omega), h]; rfl
          rw [this]; simp
  · have : i = N - 1 := by omega
    have hm : m = 0 := by omega
    subst hm
    refine (r107_j2_ok h5 hgA hlA (by omega) hN ht hd).mono fun v H' ⟨a, b, c, d, e⟩ => ⟨?_, b, c, by omega, fun x hx => by rw [e x hx, hoth x hx]⟩
    rw [hw]; exact a
theorem r79_ok {H : Hp} {s : ByteArray} (hs : s.size ≤ 1048576) : Ok (r79 s sp H) fun v H' => SL H' v (words s) ∧ v.nil = false ∧ v.b = H.n ∧ Gr H H' := by
  unfold r79 r107
  rw [if_neg (by decide), if_neg (by decide +kernel), if_pos (by decide)]
  unfold r159
  rw [if_neg (show ¬ (sp.size : Int) = 0 by decide +kernel), if_pos (show (sp.size : Int) = 1 by decide +kernel), ck, if_pos (by decide +kernel), bt_sp]
  simp only [Option.bind_some]
  obtain ⟨k, hk, hks⟩ := strCnt_eq s 32
  rw [hk, w64_succ (by omega)]
  unfold r107_j1
  have e1 : (if (w64 ((s.size : Int) + 1)) < ((k + 1 : Nat) : Int) then (w64 ((s.size : Int) + 1)) else ((k + 1 : Nat) : Int)) = ((k + 1 : Nat) : Int) := by
    rw [w64_succ (by omega), if_neg (by omega)]
  rw [e1]
  refine Ok.bind (P := fun v H' => SL H' v (words s) ∧ v.nil = false ∧ v.b = H.n ∧ Gr H H') ?_ fun v H' h => Ok.ret h
  refine Ok.ck (by omega) (Ok.lt ?_)
  simp only [Int.toNat_natCast, Nat.mul_one]
  have e2 : w64 (((k + 1 : Nat) : Int) - 1) = ((k + 1 - 1 : Nat) : Int) := by rw [w64_id (by omega) (by omega)]; omega
  rw [e2]
  refine (r107_l0_ok (H0 := H) (v5 := ⟨false, H.n, 0, k + 1, k + 1, 0⟩) rfl (by omega) (by omega) hs (Hp.get_push_new _ _) (by rw [zerosA_len])).mono fun v H' ⟨a, b, c, d, e⟩ => ⟨?_, b, c, ⟨by rw [d]; simp, fun b hb => by rw [e b (by show b ≠ H.n; omega), Hp.get_push_old _ _ hb]⟩⟩
  have : words s = wordsN (k + 1 - 1) s := by unfold words; rw [hk]; rfl
  rw [this]; exact a
end Go.Lt.P10

set_option maxRecDepth 100000
namespace Go.Lt.P10
open Go Go.Lt Go.Proofs
noncomputable def appJ : Nat → App
  | 0 => ⟨fun _ _ _ => none, fun _ _ _ => none⟩
  | k + 1 => told ⟨disp (appJ k), ydisp (appJ k)⟩
theorem appJSim : ∀ k, AppSim Tryz.prog (appJ k)
  | 0 => ⟨fun f xs H v H1 h => (by cases h), fun l xs H v H1 h => (by cases h)⟩
  | k + 1 => toldSim ⟨dispSim (appJSim k), ydispSim (appJSim k)⟩
theorem awakeH0 : ((r13 (appJ 20) H0).map (·.1)) = some true := by decide +kernel
/-- awake is known -/
noncomputable def awk (a : App) : App := ⟨fun f xs H => match f, xs with
  | 13, [] => some (.bool true, H)
  | f, xs => a.call f xs H, a.yld⟩
noncomputable def appA : Nat → App
  | 0 => ⟨fun _ _ _ => none, fun _ _ _ => none⟩
  | k + 1 => awk (told ⟨disp (appA k), ydisp (appA k)⟩)
theorem awkSim {a : App} (h : AppSim Tryz.prog a) : AppSim Tryz.prog (awk a) := by
  refine ⟨fun f xs H v H1 hc => ?_, h.2⟩
  simp only [awk] at hc
  split at hc
  · injection hc with h
    injection h with h1 h2
    subst h1; subst h2
    obtain ⟨p, hp, he⟩ := Option.map_eq_some_iff.1 awakeH0
    have := sim13 (happ := appJSim 20) hp
    rw [he] at this
    exact ⟨ok13, this.own rfl rfl H⟩
  · exact h.1 _ _ _ _ _ hc
theorem appASim : ∀ k, AppSim Tryz.prog (appA k)
  | 0 => ⟨fun f xs H v H1 h => (by cases h), fun l xs H v H1 h => (by cases h)⟩
  | k + 1 => awkSim (toldSim ⟨dispSim (appASim k), ydispSim (appASim k)⟩)
theorem app13 (k : Nat) (H : Hp) : appA (k + 1) 13 [] H = some (.bool true, H) := rfl
theorem app53 (k : Nat) (n : Int) (H : Hp) : appA (k + 1) 53 [.int .i64 n] H = itoaP n H := rfl
theorem app111 (k : Nat) (s : ByteArray) (H : Hp) : appA (k + 1) 111 [.str s] H = atoiP s H := rfl
theorem app110 (k : Nat) (x : Int) (H : Hp) : callv (appA (k + 1)) (.fn 110 [] []) [.int .u8 x] H = (r110 x H).map fun p => (.bool p.1, p.2) := rfl
theorem app102 (k : Nat) (s : ByteArray) (n : Int) (b : Nat) (H : Hp) : callv (appA (k + 1)) (.fn 102 [] [.ptr b 0]) [.agg [.str s, .int .i64 n]] H = (r102 s n b H).map fun p => (.bool p.1, p.2) := rfl
end Go.Lt.P10

namespace Go.Lt.P10
open Go Go.Lt Go.Proofs
def idxI : Option Nat → Int
  | some i => i
  | none => -1
theorem idxI_nonneg {o : Option Nat} : 0 ≤ idxI o ↔ o.isSome = true := by
  cases o <;> simp [idxI]
/-- a search from the front -/
theorem idx_ok {T : Type} {L : Nat → Int → Hp → Option (Int × Hp)} {H0 : Hp} {l : List T} (p : T → Bool) (hb : l.length ≤ 4294967296)
    (step : ∀ K (i : Nat) H (Q : Int → Hp → Prop) (hi : i < l.length), Gr H0 H → (∀ H', Gr H H' → p l[i] = true → Q (i : Int) H') → (∀ H', Gr H H' → p l[i] = false → Ok (L K ((i + 1 : Nat) : Int) H') Q) → Ok (L (K + 1) (i : Int) H) Q)
    (fin : ∀ K H (Q : Int → Hp → Prop), Gr H0 H → Q (-1) H → Ok (L (K + 1) (l.length : Int) H) Q) :
    Ok (L FUEL 0 H0) fun r H' => Gr H0 H' ∧ r = idxI (l.findIdx? p) := by
  refine Ok.loop (L := fun K (i : Int) H => L K i H) (fun m s A => ∃ i : Nat, s = (i : Int) ∧ i + m = l.length ∧ Gr H0 A ∧ ∀ j (h : j < l.length), j < i → p l[j] = false) ?_ FUEL l.length 0 H0 (by unfold FUEL; omega) ⟨0, rfl, by omega, .refl _, fun j _ h => by omega⟩
  rintro K m s A ⟨i, rfl, him, g, hf⟩ ih
  by_cases hi : i < l.length
  · refine step K i A _ hi g (fun H' g' hp => ⟨g.trans g', ?_⟩) fun H' g' hp => ih (m - 1) _ H' (by omega) ⟨i + 1, rfl, by omega, g.trans g', fun j h hj => ?_⟩
    · rw [show l.findIdx? p = some i from List.findIdx?_eq_some_iff_getElem.2 ⟨hi, hp, fun j hj => by rw [hf j (by omega) hj]; simp⟩]
      rfl
    · by_cases e : j = i
      · subst e; exact hp
      · exact hf j h (by omega)
  · have : i = l.length := by omega
    subst this
    refine fin K A _ g ⟨g, ?_⟩
    rw [show l.findIdx? p = none from List.findIdx?_eq_none_iff.2 fun x hx => by
      obtain ⟨j, hj, rfl⟩ := List.mem_iff_getElem.1 hx
      exact hf j hj hj]
    rfl
instance elU8 : El UInt8 := ⟨1, fun x => [.int .u8 (x.toNat : Int)], fun _ => rfl, fun _ => rfl, by decide⟩
theorem bytes_encs (s : ByteArray) : bytesAV s = encs s.data.toList := by
  unfold bytesAV encs
  generalize s.data.toList = l
  induction l with
  | nil => rfl
  | cons x l ih => rw [List.map_cons, List.flatMap_cons, ih]; rfl
theorem findIdx_any {T : Type} (p : T → Bool) (l : List T) : (l.findIdx? p).isSome = l.any p := by
  induction l with
  | nil => rfl
  | cons x l ih =>
    rw [List.findIdx?_cons, List.any_cons]
    cases hp : p x
    · simp only [Bool.false_eq_true, if_false, Option.isSome_map, ih, Bool.false_or]
    · simp
theorem r161_ok {H : Hp} {v : Sl} {l : List ByteArray} (h : SL H v l) (hb : l.length ≤ 1048577) (x : ByteArray) : Ok (r161 v x H) fun r H' => Gr H H' ∧ r = idxI (l.findIdx? fun y => strEq x y) := by
  unfold r161
  have hl := h.len
  refine idx_ok (L := fun K i A => r161_l0 K v x (v.len : Int) i A) (fun y => strEq x y) (by omega) (fun K i A Q hi g k1 k2 => ?_) fun K A Q g k => ?_
  · rw [r161_l0]
    refine Ok.pos (by omega) (Ok.ck (by omega) ?_)
    refine Ok.ld (SL.ldStr (h.gr g) (i := i) (j := 0) hi rfl) ?_
    rw [w64_succ (by omega)]
    exact Ok.ite (fun h => Ok.ret (k1 A (.refl _) h)) fun h => k2 A (.refl _) (by simpa using h)
  · rw [r161_l0]
    exact Ok.neg (by omega) (Ok.ret k)
theorem r108_ok {H : Hp} {v : Sl} {l : List ByteArray} (h : SL H v l) (hb : l.length ≤ 1048577) (x : ByteArray) : Ok (r108 v x H) fun r H' => Gr H H' ∧ r = l.any fun y => strEq x y := by
  unfold r108
  refine Ok.bind (r161_ok h hb x) fun r A ⟨g, e⟩ => Ok.ret ⟨g, ?_⟩
  subst e
  rw [← findIdx_any]
  simp only [idxI_nonneg]
  cases (l.findIdx? _).isSome <;> simp
theorem r162_ok {k : Nat} {H : Hp} {v : Sl} {l : List UInt8} (h : SL H v l) (hb : l.length ≤ 1048577) : Ok (r162 (appA (k + 1)) v (.fn 110 [] []) H) fun r H' => Gr H H' ∧ r = idxI (l.findIdx? fun (c : UInt8) => decide (c.toNat < 32 ∨ 126 < c.toNat)) := by
  unfold r162
  have hl := h.len
  refine idx_ok (L := fun K i A => r162_l0 (appA (k + 1)) K v (.fn 110 [] []) (v.len : Int) i A) (fun (c : UInt8) => decide (c.toNat < 32 ∨ 126 < c.toNat)) (by omega) (fun K i A Q hi g k1 k2 => ?_) fun K A Q g k => ?_
  · rw [r162_l0]
    refine Ok.pos (by omega) (Ok.ck (by omega) ?_)
    have hld : A.ldI .u8 v.b (v.o + ((i : Int)).toNat * 1) = some (l[i].toNat : Int) := by
      have := (h.gr g).ld (i := i) (j := 0) (x := .int .u8 (l[i].toNat : Int)) hi rfl
      simp only [Int.toNat_natCast]
      have e : v.o + i * El.sz UInt8 + 0 = v.o + i * 1 := rfl
      rw [e] at this
      unfold Hp.ldI; rw [this]; rfl
    refine Ok.ld hld ?_
    rw [app110]
    have hr : ∃ b : Bool, r110 (l[i].toNat : Int) A = some (b, A) ∧ b = decide (l[i].toNat < 32 ∨ 126 < l[i].toNat) := by
      unfold r110
      by_cases h32 : (l[i].toNat : Int) < 32
      · rw [if_pos h32]; exact ⟨true, rfl, by simp; omega⟩
      · rw [if_neg h32]
        refine ⟨_, rfl, ?_⟩
        rw [decide_eq_decide]; omega
    obtain ⟨b, hr, hbe⟩ := hr
    rw [hr]
    simp only [Option.map_some, Option.bind_some, AV.asB]
    rw [w64_succ (by omega), hbe]
    exact Ok.ite (fun h => Ok.ret (k1 A (.refl _) h)) fun h => k2 A (.refl _) (by simpa using h)
  · rw [r162_l0]
    exact Ok.neg (by omega) (Ok.ret k)
theorem r80_ok {k : Nat} {H : Hp} {s : ByteArray} (hs : s.size ≤ 1048576) : Ok (r80 (appA (k + 1)) s H) fun r H' => Gr H H' ∧ r = isLineS s := by
  unfold r80
  refine Ok.ite (fun h60 => ?_) fun h60 => Ok.ret ⟨.refl _, ?_⟩
  · refine Ok.bind (r79_ok hs) fun v A ⟨hv, hn, hvb, g⟩ => ?_
    refine Ok.bind (r108_ok hv (by have := (words_len s).2; omega) _) fun b A2 ⟨g2, hb⟩ => ?_
    dsimp only at hb ⊢
    subst hb
    refine Ok.ite (fun hc => Ok.ret ⟨g.trans g2, ?_⟩) fun hc => ?_
    · unfold isLineS
      rw [hc]; simp
    · unfold r109
      have hsl : SL (A2.push (.cells (bytesAV s) false)) ⟨false, A2.n, 0, s.size, s.size, 1⟩ s.data.toList := by
        refine .of_get (ro := false) ?_ rfl ?_ (Nat.le_refl _) (.inr rfl) rfl
        · rw [← bytes_encs]; exact Hp.get_push_new _ _
        · rw [Array.length_toList]; rfl
      have hl : s.data.toList.length ≤ 1048577 := by rw [Array.length_toList]; show s.size ≤ _; omega
      refine Ok.bind (P := fun b H' => Gr A2 H' ∧ b = s.data.toList.any fun (c : UInt8) => decide (c.toNat < 32 ∨ 126 < c.toNat)) ?_ fun b A3 ⟨g3, hb⟩ => Ok.ret ⟨(g.trans g2).trans g3, ?_⟩
      · refine Ok.bind (r162_ok (k := k) hsl hl) fun r A3 ⟨g3, e⟩ => Ok.ret ⟨(Gr.push _ _).trans g3, ?_⟩
        subst e
        rw [← findIdx_any]
        simp only [idxI_nonneg]
        cases (s.data.toList.findIdx? _).isSome <;> simp
      · dsimp only at hb ⊢
        subst hb
        unfold isLineS
        simp only [Bool.not_eq_true] at hc
        rw [hc, decide_eq_true (show s.size ≤ 60 by omega), Bool.not_false, Bool.true_and, Bool.true_and, List.not_any_eq_all_not]
        congr 1
        funext c
        rw [← decide_not, decide_eq_decide]; omega
  · unfold isLineS
    rw [decide_eq_false (show ¬ s.size ≤ 60 by omega)]; rfl
end Go.Lt.P10

namespace Go.Lt.P10
open Go Go.Lt Go.Proofs
/-- isName -/
theorem r81_ok {H : Hp} {w : ByteArray} (hs : w.size ≤ 1048576) : Ok (r81 w H) fun r H' => Gr H H' ∧ r = isNameS w := by
  unfold r81
  refine Ok.lt ?_
  refine Ok.loop (L := fun K (_ : Unit) A => r81_l0 K w H.n A) (fun m _ A => ∃ p f : Nat, A.get H.n = some (.iter w p) ∧ w.size ≤ p + m ∧ m < f ∧ isNameS w = nameF w f p ∧ Gr H A) ?_ FUEL w.size () _ (by unfold FUEL; omega) ⟨0, w.size + 1, Hp.get_push_new _ _, by omega, by omega, rfl, Gr.push _ _⟩
  rintro K m _ A ⟨p, f, hg, hm, hf, hw, g⟩ ih
  rw [r81_l0]
  obtain ⟨f, rfl⟩ : ∃ f', f = f' + 1 := ⟨f - 1, by omega⟩
  rw [nameF] at hw
  by_cases hp : p < w.size
  · rw [if_pos hp] at hw
    have hn : A.nxt H.n = some (some ((p : Int), ((Utf8.decode w p).1 : Int)), A.set H.n (.iter w (p + (Utf8.decode w p).2))) := by
      unfold Hp.nxt; rw [hg]; simp [hp]
    rw [hn]
    have g' : Gr H (A.set H.n (.iter w (p + (Utf8.decode w p).2))) := g.set (Nat.le_refl _)
    simp only [Option.bind_some, Option.isSome_some, if_true]
    refine Ok.ite (fun h => ?_) fun h => ?_
    · rw [if_pos h] at hw
      exact Ok.ret ⟨g', hw.symm⟩
    · rw [if_neg h] at hw
      unfold r81_j1
      refine Ok.ite (fun h2 => ?_) fun h2 => ?_
      · rw [if_pos (by simpa using h2)] at hw
        exact Ok.ret ⟨g', hw.symm⟩
      · rw [if_neg (by simpa using h2)] at hw
        have h1 := width_pos w p hp
        exact ih (m - (Utf8.decode w p).2) () _ (by omega) ⟨p + (Utf8.decode w p).2, f, Hp.get_set_same _ _ (Hp.get_lt hg), by omega, by omega, hw, g'⟩
  · rw [if_neg hp] at hw
    have hn : A.nxt H.n = some (none, A) := by
      unfold Hp.nxt; rw [hg]; simp [hp]
    rw [hn]
    simp only [Option.bind_some, Option.isSome_none, Bool.false_eq_true, if_false]
    refine Ok.ite (fun h => ?_) fun h => ?_
    · rw [if_pos h] at hw; exact Ok.ret ⟨g, hw.symm⟩
    · rw [if_neg h] at hw; exact Ok.ret ⟨g, hw.symm⟩
/-- number -/
theorem r82_ok {k : Nat} {H : Hp} {s : ByteArray} (hs : s.size ≤ 1048576) : ∃ n b, r82 (appA (k + 1)) s H = some ((n, b), H) ∧ (b = true → numS s = some n) ∧ (b = false → numS s = none) := by
  unfold r82
  rw [app111]
  unfold atoiP
  rw [if_pos (by omega)]
  unfold atoiV numS
  cases ha : Lib.atoiAll s.data.toList with
  | «syntax» =>
    refine ⟨0, false, ?_, by simp, by simp⟩
    rfl
  | range =>
    refine ⟨Lib.atoiSat s.data.toList, false, ?_, by simp, by simp⟩
    rfl
  | ok v =>
    obtain ⟨hb0, hb1⟩ := Lib.atoiAll_bounds ha
    simp only [Option.bind_some, AV.asT, Go.Lt.ck, List.length_cons, List.length_nil, if_true, List.getElem?_cons_zero, List.getElem?_cons_succ, AV.asI, AV.ifc, Bool.false_eq_true, if_false, app53, itoaP]
    by_cases h0 : 0 ≤ v
    · rw [if_pos h0]
      by_cases h3 : (s.size : Int) ≤ 3
      · rw [if_pos h3, if_pos (by omega)]
        refine ⟨v, strEq (itoaA v) s, rfl, fun h => by rw [if_pos ⟨h0, by omega, h⟩], fun h => by rw [if_neg (fun q => by rw [q.2.2] at h; cases h)]⟩
      · rw [if_neg h3]
        exact ⟨v, false, rfl, by simp, fun _ => by rw [if_neg (fun q => h3 (by omega))]⟩
    · rw [if_neg h0]
      exact ⟨v, false, rfl, by simp, fun _ => by rw [if_neg (fun q => h0 q.1)]⟩
theorem slcg {T : Type} [El T] {H H' : Hp} {v : Sl} {l : List T} (h : SL H v l) (e : H'.get v.b = H.get v.b) : SL H' v l := ⟨h.cs.congr e, h.cap, h.opn, h.nil⟩
theorem AccL.push0 {T : Type} [El T] {n0 : Nat} {H : Hp} {v : Sl} {l : List T} (h : AccL n0 H v l) (hn : n0 ≤ H.n) (x : T) {es : Nat} {cs : List AV} (hes : es = El.sz T) (hcs : cs = El.enc x) (hb : l.length < 4294967296) :
    Ok (H.apN es v cs 1) fun v' H' => AccL n0 H' v' (l ++ [x]) ∧ But v H H' ∧ (v' = v ∨ H.n ≤ v'.b) ∧ v'.nil = false := by
  subst hes; subst hcs
  have hl := h.len
  obtain ⟨v', H', h1, h2, h3, h4, h5, h6, h7⟩ := Acc.apN (k := 1) (xs := El.enc x) h (El.pos (T := T)) (by rw [El.len, Nat.one_mul]) (by rw [hl]; omega) hn
  refine ⟨v', H', h1, ?_, h3, h4, h6 (by omega)⟩
  unfold AccL
  rw [encs_append, encs_one]
  exact h2
theorem Acc.ge {n0 es : Nat} {H : Hp} {v : Sl} {cs : List AV} (h : Acc n0 es H v cs) (hn : v.nil = false) : n0 ≤ v.b := by
  rcases h with ⟨rfl, _⟩ | ⟨_, _, _, _, h, _⟩
  · simp [Lt.nilS] at hn
  · exact h
/-- what is put together while a line is read: its block, the words -/
structure Rd1 (H0 A : Hp) (b0 : Nat) (w : Sl) (ws : List ByteArray) (n1 : Nat) (a n : Sl) (na : List ByteArray) (nu : List Int) : Prop where
  g : Gr H0 A
  h0 : H0.n ≤ b0
  h1 : b0 < n1
  h2 : n1 ≤ A.n
  get : A.get b0 = some (.cells [.sl a, .sl n] false)
  sw : SL A w ws
  wb : w.b ≠ b0
  w1 : w.b < n1
  aa : AccL n1 A a na
  an : AccL n1 A n nu
  ne : a.nil = false → n.nil = false → a.b ≠ n.b
theorem Rd1.gr {H0 A A' : Hp} {b0 : Nat} {w : Sl} {ws : List ByteArray} {n1 : Nat} {a n : Sl} {na : List ByteArray} {nu : List Int} (r : Rd1 H0 A b0 w ws n1 a n na nu) (g : Gr A A') : Rd1 H0 A' b0 w ws n1 a n na nu :=
  ⟨r.g.trans g, r.h0, r.h1, Nat.le_trans r.h2 g.1, by rw [g.2 _ (Hp.get_lt r.get)]; exact r.get, r.sw.gr g, r.wb, r.w1, r.aa.gr g, r.an.gr g, r.ne⟩
theorem Rd1.name {H0 A : Hp} {b0 : Nat} {w : Sl} {ws : List ByteArray} {n1 : Nat} {a n : Sl} {na : List ByteArray} {nu : List Int} (r : Rd1 H0 A b0 w ws n1 a n na nu) (x : ByteArray) (hb : na.length < 4294967296) {α : Type} {Q : α → Hp → Prop} {f : Hp → Option (α × Hp)}
    (k : ∀ A' a', Rd1 H0 A' b0 w ws n1 a' n (na ++ [x]) nu → Ok (f A') Q) : Ok ((A.apN 1 a [.str x] 1).bind fun x7 => (x7.2.st b0 (0 + 0) (.sl x7.1)).bind f) Q := by
  refine Ok.bind (AccL.push0 r.aa r.h2 x rfl rfl hb) fun a' A1 ⟨h1, h2, h3, h4⟩ => ?_
  have ab : a.nil = false → n1 ≤ a.b := fun h => Acc.ge r.aa h
  have old : ∀ b, b < n1 → A1.get b = A.get b := fun b hb => h2.2 b (by have := r.h2; omega) fun h => by have := ab h; omega
  have hg : A1.get b0 = some (.cells [.sl a, .sl n] false) := by rw [old _ r.h1]; exact r.get
  have a'b : n1 ≤ a'.b := Acc.ge h1 h4
  have r1 := r.h1; have r2 := r.h2; have r3 := r.w1; have h21 := h2.1
  refine Ok.st hg (by simp) fun A' e hg' => ?_
  subst e
  have oth : ∀ b, b ≠ b0 → (A1.set b0 (.cells ([AV.sl a, AV.sl n].set (0 + 0) (.sl a')) false)).get b = A1.get b := fun b hb => Hp.get_set_other _ _ hb
  refine k _ a' ⟨⟨by simp; have := r.g.1; omega, fun b hb => by rw [oth b (by have := r.h0; omega), old b (by have := r.h0; omega), r.g.2 b hb]⟩, r.h0, r.h1, by simp; omega, hg', ?_, r.wb, r.w1, ?_, ?_, ?_⟩
  · exact slcg r.sw (by rw [oth _ r.wb, old _ r.w1])
  · exact h1.keep fun h => oth _ (by omega)
  · refine Acc.keep r.an fun h => ?_
    have h5 := Acc.ge r.an h
    have h6 := Acc.lt r.an h
    rw [oth _ (by omega), h2.2 _ h6 fun h7 => (r.ne h7 h).symm]
  · intro _ h
    have h6 := Acc.lt r.an h
    rcases h3 with rfl | h3
    · exact r.ne h4 h
    · omega
theorem Rd1.num {H0 A : Hp} {b0 : Nat} {w : Sl} {ws : List ByteArray} {n1 : Nat} {a n : Sl} {na : List ByteArray} {nu : List Int} (r : Rd1 H0 A b0 w ws n1 a n na nu) (x : Int) (hb : nu.length < 4294967296) {α : Type} {Q : α → Hp → Prop} {f : Hp → Option (α × Hp)}
    (k : ∀ A' n', Rd1 H0 A' b0 w ws n1 a n' na (nu ++ [x]) → Ok (f A') Q) : Ok ((A.apN 1 n [.int .i64 x] 1).bind fun x7 => (x7.2.st b0 (0 + 1) (.sl x7.1)).bind f) Q := by
  refine Ok.bind (AccL.push0 r.an r.h2 x rfl rfl hb) fun n' A1 ⟨h1, h2, h3, h4⟩ => ?_
  have ab : n.nil = false → n1 ≤ n.b := fun h => Acc.ge r.an h
  have old : ∀ b, b < n1 → A1.get b = A.get b := fun b hb => h2.2 b (by have := r.h2; omega) fun h => by have := ab h; omega
  have hg : A1.get b0 = some (.cells [.sl a, .sl n] false) := by rw [old _ r.h1]; exact r.get
  have n'b : n1 ≤ n'.b := Acc.ge h1 h4
  have r1 := r.h1; have r2 := r.h2; have r3 := r.w1; have h21 := h2.1
  refine Ok.st hg (by simp) fun A' e hg' => ?_
  subst e
  have oth : ∀ b, b ≠ b0 → (A1.set b0 (.cells ([AV.sl a, AV.sl n].set (0 + 1) (.sl n')) false)).get b = A1.get b := fun b hb => Hp.get_set_other _ _ hb
  refine k _ n' ⟨⟨by simp; have := r.g.1; omega, fun b hb => by rw [oth b (by have := r.h0; omega), old b (by have := r.h0; omega), r.g.2 b hb]⟩, r.h0, r.h1, by simp; omega, hg', ?_, r.wb, r.w1, ?_, ?_, ?_⟩
  · exact slcg r.sw (by rw [oth _ r.wb, old _ r.w1])
  · refine Acc.keep r.aa fun h => ?_
    have h5 := Acc.ge r.aa h
    have h6 := Acc.lt r.aa h
    rw [oth _ (by omega), h2.2 _ h6 fun h7 => (r.ne h h7)]
  · exact h1.keep fun h => oth _ (by omega)
  · intro h _
    have h6 := Acc.lt r.aa h
    rcases h3 with rfl | h3
    · exact r.ne h h4
    · omega
/-- what reading a line comes to -/
def RdQ (H : Hp) (form text : ByteArray) (r : Sl × Sl × Bool) (H' : Hp) : Prop :=
  Gr H H' ∧ match readS form text with
    | none => r.2.2 = false
    | some p => r.2.2 = true ∧ SL H' r.1 p.1 ∧ SL H' r.2.1 p.2
theorem bt_get {s : ByteArray} {i : Nat} (h : i < s.size) : bt s (i : Int) = (s.data.toList[i]'(by rw [Array.length_toList]; exact h)).toNat := by
  unfold bt
  simp only [Int.toNat_natCast]
  congr 2
  have : s.get! i = s.data[i]! := rfl
  rw [this, getElem!_pos s.data i h]
  simp
theorem r49_j2_t {k : Nat} {kt : ByteArray → Nat → Sl → Int → Int → Hp → Option ((Sl × Sl × Bool) × Hp)} {v1 : ByteArray} {v2 : Nat} {v4 : Sl} {v5 v6 : Int} {H : Hp} : r49_j2 (appA k) kt v1 v2 true v4 v5 v6 H = kt v1 v2 v4 v5 (w64 (v6 + 1)) H := rfl
/-- the line is none -/
theorem rd_no {H0 A : Hp} {b0 : Nat} {cs : List AV} (g : Gr H0 A) (h0 : H0.n ≤ b0) (hg : A.get b0 = some (.cells cs false)) (hl : cs.length = 2) {form text : ByteArray} (hr : readS form text = none) :
    Ok ((A.sts b0 0 [.sl ⟨true, 0, 0, 0, 0, 0⟩, .sl ⟨true, 0, 0, 0, 0, 0⟩]).bind fun H2 => (H2.ldSl b0 0).bind fun x3 => (H2.ldSl b0 (0 + 1)).bind fun x4 => some ((x3, x4, false), H2)) (RdQ H0 form text) := by
  obtain ⟨A2, h1, h2, h3, h4⟩ := sts_blk [.sl ⟨true, 0, 0, 0, 0, 0⟩, .sl ⟨true, 0, 0, 0, 0, 0⟩] 0 A cs hg (by simp [hl])
  have h2' : A2.get b0 = some (.cells [.sl ⟨true, 0, 0, 0, 0, 0⟩, .sl ⟨true, 0, 0, 0, 0, 0⟩] false) := by rw [h2]; simp [hl]
  refine Ok.ld h1 (Ok.ld (ldSl_get h2' rfl) (Ok.ld (ldSl_get h2' rfl) (Ok.ret ⟨⟨by rw [h3]; exact g.1, fun b hb => by rw [h4 b (by omega), g.2 b hb]⟩, ?_⟩)))
  rw [hr]
theorem r49_l1_ok {k : Nat} {H0 H1 : Hp} {form text : ByteArray} {b0 : Nat} {w : Sl} {ws : List ByteArray} {n1 : Nat} (hlen : ws.length = form.size) (hf : form.size ≤ 8) (hws : ∀ x ∈ ws, x.size ≤ 1048576)
    (hread : readS form text = parseS form.data.toList ws) (r : Rd1 H0 H1 b0 w ws n1 ⟨true, 0, 0, 0, 0, 0⟩ ⟨true, 0, 0, 0, 0, 0⟩ [] []) :
    Ok (r49_l1 (appA (k + 1)) FUEL form b0 w (w.len : Int) 0 H1) (RdQ H0 form text) := by
  have hfl : form.data.toList.length = form.size := by rw [Array.length_toList]; rfl
  have hwl := r.sw.len
  refine Ok.loop (L := fun K (i : Int) A => r49_l1 (appA (k + 1)) K form b0 w (w.len : Int) i A) (fun m s A => ∃ (i : Nat) (a n : Sl) (na : List ByteArray) (nu : List Int), s = (i : Int) ∧ i + m = ws.length ∧ Rd1 H0 A b0 w ws n1 a n na nu ∧ na.length ≤ i ∧ nu.length ≤ i ∧
    parseS form.data.toList ws = (parseS (form.data.toList.drop i) (ws.drop i)).map fun p => (na ++ p.1, nu ++ p.2)) ?_ FUEL ws.length 0 H1 (by unfold FUEL; omega) ⟨0, _, _, [], [], rfl, by omega, r, by simp, by simp, ?_⟩
  · rintro K m s A ⟨i, a, n, na, nu, rfl, him, r, hna, hnu, hp⟩ ih
    rw [r49_l1]
    by_cases hi : i < ws.length
    · have hi2 : i < form.data.toList.length := by omega
      refine Ok.pos (by omega) (Ok.ck (by omega) (Ok.ld (SL.ldStr r.sw (i := i) (j := 0) hi rfl) (Ok.ck (by omega) ?_)))
      rw [bt_get (by omega)]
      rw [List.drop_eq_getElem_cons hi2, List.drop_eq_getElem_cons hi, parseS] at hp
      refine Ok.ite (fun hc => ?_) fun hc => ?_
      · have hc' : form.data.toList[i] = 110 := by
          apply UInt8.toNat_inj.1
          have : (110 : UInt8).toNat = 110 := rfl
          omega
        rw [if_pos hc'] at hp
        refine Ok.ld (ldSl_get r.get rfl) (Rd1.name r ws[i] (by omega) fun A1 a1 r1 => ?_)
        refine Ok.bind (r81_ok (hws _ (List.getElem_mem hi))) fun b A2 ⟨g2, hb⟩ => ?_
        have r2 := r1.gr g2
        dsimp only
        cases b with
        | false =>
          rw [if_neg (by rw [← hb]; simp)] at hp
          exact rd_no r2.g r.h0 r2.get rfl (by rw [hread, hp]; rfl)
        | true =>
          rw [r49_j2_t, w64_succ (by omega)]
          rw [if_pos hb.symm] at hp
          refine ih (m - 1) _ _ (by omega) ⟨i + 1, _, _, _, _, rfl, by omega, r2, by simp; omega, by omega, ?_⟩
          rw [hp, Option.map_map]
          congr 1
          funext p
          simp
      · have hc' : ¬ form.data.toList[i] = 110 := by
          intro e; apply hc; rw [e]; rfl
        rw [if_neg hc'] at hp
        obtain ⟨n1', b, hn, ht, hff⟩ := r82_ok (k := k) (H := A) (hws _ (List.getElem_mem hi))
        refine is hn ?_
        dsimp only
        refine Ok.ld (ldSl_get r.get rfl) (Rd1.num r n1' (by omega) fun A1 a1 r1 => ?_)
        cases b with
        | false =>
          rw [hff rfl] at hp
          exact rd_no r1.g r.h0 r1.get rfl (by rw [hread, hp]; rfl)
        | true =>
          rw [r49_j2_t, w64_succ (by omega)]
          rw [ht rfl] at hp
          refine ih (m - 1) _ _ (by omega) ⟨i + 1, _, _, _, _, rfl, by omega, r1, by omega, by simp; omega, ?_⟩
          rw [hp, Option.bind_some, Option.map_map]
          congr 1
          funext p
          simp
    · have hie : i = ws.length := by omega
      refine Ok.neg (by omega) ?_
      rw [List.drop_of_length_le (by omega), List.drop_of_length_le (by omega), show parseS [] [] = some ([], []) from rfl] at hp
      obtain ⟨A2, h1, h2, h3, h4⟩ := sts_blk [.sl a, .sl n] 0 A [.sl a, .sl n] r.get (by simp)
      have h2' : A2.get b0 = some (.cells [.sl a, .sl n] false) := by rw [h2]; simp
      refine Ok.ld (ldSl_get r.get rfl) (Ok.ld (ldSl_get r.get rfl) (Ok.ld h1 (Ok.ld (ldSl_get h2' rfl) (Ok.ld (ldSl_get h2' rfl) (Ok.ret ⟨⟨by rw [h3]; exact r.g.1, fun b hb => by rw [h4 b (by have := r.h0; omega), r.g.2 b hb]⟩, ?_⟩)))))
      rw [hread, hp]
      simp only [Option.map_some, List.append_nil]
      have same : ∀ b, A2.get b = A.get b := fun b => by
        by_cases e : b = b0
        · subst e; rw [h2', r.get]
        · exact h4 b e
      exact ⟨trivial, slcg r.aa.sl (same _), slcg r.an.sl (same _)⟩
  · simp only [List.drop_zero, List.nil_append]
    cases parseS form.data.toList ws <;> rfl
theorem extract_size_le {s : ByteArray} {a b : Nat} : (s.extract a b).size ≤ s.size := by rw [ByteArray.size_extract]; omega
theorem wordsN_size : ∀ k s, ∀ x ∈ wordsN k s, x.size ≤ s.size
  | 0, s, x, h => by simp [wordsN] at h; subst h; exact Nat.le_refl _
  | k + 1, s, x, h => by
    unfold wordsN at h
    split at h
    · simp at h; subst h; exact Nat.le_refl _
    · rcases List.mem_cons.1 h with rfl | h
      · exact extract_size_le
      · exact Nat.le_trans (wordsN_size k _ x h) extract_size_le
theorem r49_ok {k : Nat} {H : Hp} {form text : ByteArray} (hf : form.size ≤ 8) (hs : text.size ≤ 1048576) : Ok (r49 (appA (k + 1)) form text H) (RdQ H form text) := by
  unfold r49
  refine Ok.lt (Ok.bind (r79_ok (s := text) hs) fun v A ⟨hv, hn, hvb, g⟩ => ?_)
  dsimp only
  have hl := hv.len
  have hwl := words_len text
  have g0 : Gr H A := (Gr.push _ _).trans g
  have hb0 : A.get H.n = some (.cells [.sl ⟨true, 0, 0, 0, 0, 0⟩, .sl ⟨true, 0, 0, 0, 0, 0⟩] false) := by rw [g.2 _ (by simp)]; exact Hp.get_push_new _ _
  have hvb' : v.b = H.n + 1 := by rw [hvb]; simp
  have hcap := hv.cap
  have hopn : v.opn = 0 ∨ v.opn = 1 := hv.opn
  refine Ok.ck (by refine ⟨?_, hopn⟩; omega) ?_
  have e1 : v.cut 1 (1 : Int).toNat ((v.len : Int) : Int).toNat = v.cut 1 1 v.len := rfl
  rw [e1]
  have hcut : SL A (v.cut 1 1 v.len) (words text).tail := by
    have := hv.cut (lo := 1) (hi := v.len) (by omega) (by omega)
    rw [List.take_of_length_le (by rw [List.length_drop]; omega), List.drop_one] at this
    exact this
  have hcl := hcut.len
  refine Ok.ite (fun hne => ?_) fun hne => ?_
  · unfold r49_j0
    rw [if_pos rfl]
    refine rd_no g0 (Nat.le_refl _) hb0 rfl ?_
    unfold readS
    rw [if_neg]
    rintro ⟨h1, _⟩
    exact hne (by rw [hcl, h1])
  · refine Ok.bind (r80_ok hs) fun b A2 ⟨g2, hb⟩ => ?_
    dsimp only
    have hb02 : A2.get H.n = some (.cells [.sl ⟨true, 0, 0, 0, 0, 0⟩, .sl ⟨true, 0, 0, 0, 0, 0⟩] false) := by rw [g2.2 _ (Hp.get_lt hb0)]; exact hb0
    have hlen : (words text).tail.length = form.size := by omega
    unfold r49_j0
    cases b with
    | false =>
      rw [if_pos (by rfl)]
      refine rd_no (g0.trans g2) (Nat.le_refl _) hb02 rfl ?_
      unfold readS
      rw [if_neg]
      rintro ⟨_, h1⟩
      rw [← hb] at h1; cases h1
    | true =>
      rw [if_neg (by simp)]
      have hvlt : v.b < A.n := by
        have h0 : 0 < (words text).length := hwl.1
        have := hv.ld (i := 0) (j := 0) (x := .str (words text)[0]) h0 rfl
        exact ld_lt this
      refine r49_l1_ok (n1 := A2.n) hlen hf (fun x hx => Nat.le_trans (wordsN_size _ _ x (List.mem_of_mem_tail hx)) hs) ?_ ⟨g0.trans g2, Nat.le_refl _, by have := g0.trans g2; have := Hp.get_lt hb02; omega, Nat.le_refl _, hb02, hcut.gr g2, ?_, ?_, AccL.nilS, AccL.nilS, fun h => by cases h⟩
      · unfold readS
        rw [if_pos ⟨hlen, hb.symm⟩]
      · simp [Sl.cut, hn, hvb']
      · have := g2.1
        simp [Sl.cut, hn]; omega
end Go.Lt.P10

namespace Go.Lt.P10
open Go Go.Lt Go.Proofs
/-- a list that stands in blocks of some kind; the empty one is nil -/
structure LAt {T : Type} [El T] (H : Hp) (P : Nat → Prop) (v : Sl) (l : List T) : Prop where
  sl : SL H v l
  nil : l = [] → v = nilS
  p : v.nil = false → P v.b
theorem LAt.mono {T : Type} [El T] {H H' : Hp} {P P' : Nat → Prop} {v : Sl} {l : List T} (h : LAt H P v l) (e : ∀ b, P b → b < H.n → H'.get b = H.get b) (hp : ∀ b, b < H.n → P b → P' b) : LAt H' P' v l := by
  by_cases hl : l = []
  · have := h.nil hl
    subst this; subst hl
    exact ⟨SL.nilS, fun _ => rfl, fun h => by cases h⟩
  · have hn := h.sl.nonnil hl
    have hlt : v.b < H.n := by
      obtain ⟨x, r, rfl⟩ := List.exists_cons_of_ne_nil hl
      have h0 : 0 < (El.enc x).length := by rw [El.len]; exact El.pos
      have := h.sl.ld (i := 0) (j := 0) (x := (El.enc x)[0]) (by simp) (by simp)
      exact ld_lt this
    exact ⟨slcg h.sl (e _ (h.p hn) hlt), h.nil, fun _ => hp _ hlt (h.p hn)⟩
def stCells (v1 v2 v3 : Sl) (s : St) : List AV := [.sl v1, .sl v2, .int .i64 s.t0, .int .i64 s.t1, .int .i64 s.t2, .int .i64 s.t3, .sl v3]
/-- a state in the heap -/
def StAt (H : Hp) (P : Nat → Prop) (b : Nat) (s : St) : Prop := P b ∧ ∃ v1 v2 v3, H.get b = some (.cells (stCells v1 v2 v3 s) false) ∧ LAt H P v1 s.leaves ∧ LAt H P v2 s.orders ∧ LAt H P v3 s.offers
theorem StAt.mono {H H' : Hp} {P P' : Nat → Prop} {b : Nat} {s : St} (h : StAt H P b s) (e : ∀ b, P b → b < H.n → H'.get b = H.get b) (hp : ∀ b, b < H.n → P b → P' b) : StAt H' P' b s := by
  obtain ⟨hb, v1, v2, v3, hg, h1, h2, h3⟩ := h
  have hlt := Hp.get_lt hg
  exact ⟨hp _ hlt hb, v1, v2, v3, by rw [e _ hb hlt]; exact hg, h1.mono e hp, h2.mono e hp, h3.mono e hp⟩
theorem StAt.gr {H H' : Hp} {P : Nat → Prop} {b : Nat} {s : St} (h : StAt H P b s) (g : Gr H H') : StAt H' P b s := h.mono (fun b _ hb => g.2 b hb) fun _ _ h => h
def AccN {T : Type} [El T] (n0 : Nat) (H : Hp) (v : Sl) (l : List T) : Prop := AccL n0 H v l ∧ (l = [] → v = nilS)
theorem AccN.lat {T : Type} [El T] {n0 : Nat} {H : Hp} {v : Sl} {l : List T} (h : AccN n0 H v l) : LAt H (n0 ≤ ·) v l := ⟨h.1.sl, h.2, fun hn => Acc.ge h.1 hn⟩
theorem AccN.keep {T : Type} [El T] {n0 : Nat} {H H' : Hp} {v : Sl} {l : List T} (h : AccN n0 H v l) (e : v.nil = false → H'.get v.b = H.get v.b) : AccN n0 H' v l := ⟨Acc.keep h.1 e, h.2⟩
theorem AccN.gr {T : Type} [El T] {n0 : Nat} {H H' : Hp} {v : Sl} {l : List T} (h : AccN n0 H v l) (g : Gr H H') : AccN n0 H' v l := ⟨AccL.gr h.1 g, h.2⟩
/-- a state of one's own, that may be changed -/
structure StO (H : Hp) (n0 b : Nat) (s : St) (v1 v2 v3 : Sl) : Prop where
  get : H.get b = some (.cells (stCells v1 v2 v3 s) false)
  lo : n0 ≤ b
  a1 : AccN n0 H v1 s.leaves
  a2 : AccN n0 H v2 s.orders
  a3 : AccN n0 H v3 s.offers
  b1 : v1.nil = false → v1.b ≠ b
  b2 : v2.nil = false → v2.b ≠ b
  b3 : v3.nil = false → v3.b ≠ b
  d12 : v1.nil = false → v2.nil = false → v1.b ≠ v2.b
  d13 : v1.nil = false → v3.nil = false → v1.b ≠ v3.b
  d23 : v2.nil = false → v3.nil = false → v2.b ≠ v3.b
theorem StO.at {H : Hp} {n0 b : Nat} {s : St} {v1 v2 v3 : Sl} (h : StO H n0 b s v1 v2 v3) : StAt H (n0 ≤ ·) b s := ⟨h.lo, v1, v2, v3, h.get, h.a1.lat, h.a2.lat, h.a3.lat⟩
theorem StO.gr {H H' : Hp} {n0 b : Nat} {s : St} {v1 v2 v3 : Sl} (h : StO H n0 b s v1 v2 v3) (g : Gr H H') : StO H' n0 b s v1 v2 v3 :=
  ⟨by rw [g.2 _ (Hp.get_lt h.get)]; exact h.get, h.lo, h.a1.gr g, h.a2.gr g, h.a3.gr g, h.b1, h.b2, h.b3, h.d12, h.d13, h.d23⟩
/-- slices.Clone of a list that is nil where it is empty -/
theorem clone_n {T : Type} [El T] {H : Hp} {v : Sl} {l : List T} (h : SL H v l) (h0 : l = [] → v = nilS) (hb : l.length ≤ 4294967296) {es n0 : Nat} (hes : es = El.sz T) (hn0 : n0 ≤ H.n) :
    Ok (cloneR es v H) fun w H' => Gr H H' ∧ AccN n0 H' w l ∧ (w.nil = false → H.n ≤ w.b) := by
  subst hes
  unfold cloneR
  have hlen := h.len
  by_cases hl : l = []
  · have := h0 hl
    subst this; subst hl
    exact Ok.pos rfl (Ok.ret ⟨.refl _, ⟨AccL.nilS, fun _ => rfl⟩, fun h => by cases h⟩)
  · have hn := h.nonnil hl
    refine Ok.neg (by rw [hn]; simp) (Ok.ld (h.gr (Gr.push H (.cells [] false))).lds (Ok.ck (encs_all l) ?_))
    have hpos : 0 < l.length := List.length_pos_iff.2 hl
    unfold Hp.app
    simp only [Nat.zero_add]
    rw [if_pos (by omega), if_neg (by omega)]
    simp only [Nat.zero_mul, Hp.lds, Option.bind_some, if_true, List.nil_append]
    refine Ok.ret ⟨(Gr.push _ _).trans (.push _ _), ⟨.inr ⟨rfl, rfl, rfl, rfl, ?_, Hp.get_push_new _ _, by rw [encs_len, hlen]⟩, fun e => absurd e hl⟩, fun _ => by simp⟩
    simp; omega
theorem r72_eq (v : Sl) (H : Hp) : r72 v H = cloneR 2 v H := rfl
theorem r73_eq (v : Sl) (H : Hp) : r73 v H = cloneR 1 v H := rfl
theorem r74_eq (v : Sl) (H : Hp) : r74 v H = cloneR 2 v H := rfl
/-- bounds of a state -/
structure St.Ok (s : St) : Prop where
  l6 : s.leaves.length ≤ 6
  st : ∀ x ∈ s.leaves, 0 ≤ x.2 ∧ x.2 ≤ 20
  nm : ∀ x ∈ s.leaves, x.1.size ≤ 8
  o40 : s.orders.length ≤ 40
  ol : ∀ i ∈ s.orders, 0 ≤ i ∧ i < s.leaves.length
  ts : 0 ≤ s.t0 ∧ 0 ≤ s.t1 ∧ 0 ≤ s.t2 ∧ 0 ≤ s.t3 ∧ s.t0 + s.t1 + s.t2 + s.t3 ≤ 16
  f8 : s.offers.length ≤ 8
  fl : ∀ x ∈ s.offers, 0 ≤ x.1 ∧ x.1 ≤ 30 ∧ 0 ≤ x.2 ∧ x.2 ≤ 30
theorem clone_state {H : Hp} {P : Nat → Prop} {b : Nat} {s : St} (h : StAt H P b s) (hs : s.Ok) : Lt.Ok (r43 b 0 H) fun r H' => Gr H H' ∧ r.2 = 0 ∧ ∃ v1 v2 v3, StO H' H.n r.1 s v1 v2 v3 := by
  obtain ⟨_, v1, v2, v3, hg, h1, h2, h3⟩ := h
  unfold r43
  have l6 := hs.l6; have o40 := hs.o40; have f8 := hs.f8
  refine Lt.Ok.ld (ldSl_get hg rfl) ?_
  rw [r72_eq]
  refine Lt.Ok.bind (clone_n (n0 := H.n) h1.sl h1.nil (by omega) rfl (Nat.le_refl _)) fun w1 A1 ⟨g1, a1, c1⟩ => ?_
  have hg1 : A1.get b = _ := (g1.2 _ (Hp.get_lt hg)).trans hg
  refine Lt.Ok.ld (ldSl_get hg1 rfl) ?_
  rw [r73_eq]
  refine Lt.Ok.bind (clone_n (n0 := H.n) (h2.sl.gr g1) h2.nil (by omega) rfl g1.1) fun w2 A2 ⟨g2, a2, c2⟩ => ?_
  have hg2 : A2.get b = _ := (g2.2 _ (Hp.get_lt hg1)).trans hg1
  refine Lt.Ok.ld (ldI_get hg2 rfl) (Lt.Ok.ld (ldI_get hg2 rfl) (Lt.Ok.ld (ldI_get hg2 rfl) (Lt.Ok.ld (ldI_get hg2 rfl) (Lt.Ok.ld (ldSl_get hg2 rfl) ?_))))
  rw [r74_eq]
  refine Lt.Ok.bind (clone_n (n0 := H.n) ((h3.sl.gr g1).gr g2) h3.nil (by omega) rfl (by have := g1.1; have := g2.1; omega)) fun w3 A3 ⟨g3, a3, c3⟩ => ?_
  have hg3 : A3.get b = _ := (g3.2 _ (Hp.get_lt hg2)).trans hg2
  refine Lt.Ok.ck (ldSl_get hg rfl) (Lt.Ok.ck (ldI_get hg rfl) (Lt.Ok.ck (ldI_get hg rfl) (Lt.Ok.ck (ldI_get hg rfl) (Lt.Ok.ck (ldI_get hg rfl) (Lt.Ok.ck (ldSl_get hg rfl) ?_)))))
  refine Lt.Ok.ck (ldI_get hg1 rfl) (Lt.Ok.ck (ldI_get hg1 rfl) (Lt.Ok.ck (ldI_get hg1 rfl) (Lt.Ok.ck (ldI_get hg1 rfl) (Lt.Ok.ck (ldSl_get hg1 rfl) ?_))))
  refine Lt.Ok.ck (ldSl_get hg2 rfl) ?_
  refine Lt.Ok.ck (ldSl_get hg3 rfl) (Lt.Ok.ck (ldI_get hg3 rfl) (Lt.Ok.ck (ldI_get hg3 rfl) (Lt.Ok.ck (ldI_get hg3 rfl) (Lt.Ok.ck (ldI_get hg3 rfl) (Lt.Ok.ck (ldSl_get hg3 rfl) ?_)))))
  have gp := Gr.push A3 (.cells [.sl w1, .sl w2, .int .i64 s.t0, .int .i64 s.t1, .int .i64 s.t2, .int .i64 s.t3, .sl w3] false)
  have n1 := g1.1; have n2 := g2.1; have n3 := g3.1
  have m1 : w1.nil = false → w1.b < A1.n := fun h => Acc.lt a1.1 h
  have m2 : w2.nil = false → w2.b < A2.n := fun h => Acc.lt a2.1 h
  have m3 : w3.nil = false → w3.b < A3.n := fun h => Acc.lt a3.1 h
  refine Lt.Ok.ret ⟨((g1.trans g2).trans g3).trans gp, rfl, w1, w2, w3, Hp.get_push_new _ _, by show H.n ≤ A3.n; omega, ((a1.gr g2).gr g3).gr gp, (a2.gr g3).gr gp, a3.gr gp, ?_, ?_, ?_, ?_, ?_, ?_⟩
  · intro h; have := m1 h; show w1.b ≠ A3.n; omega
  · intro h; have := m2 h; show w2.b ≠ A3.n; omega
  · intro h; have := m3 h; show w3.b ≠ A3.n; omega
  · intro h h'; have := m1 h; have := c2 h'; omega
  · intro h h'; have := m1 h; have := c3 h'; omega
  · intro h h'; have := m2 h; have := c3 h'; omega
/-- find -/
theorem r102_ok {H : Hp} {name : ByteArray} {b : Nat} (hg : H.get b = some (.cells [.str name] false)) (x : ByteArray) (n : Int) : ∃ H', r102 x n b H = some (strEq x name, H') ∧ Gr H H' := by
  refine ⟨H.push (.cells [.str x, .int .i64 n] false), ?_, Gr.push _ _⟩
  unfold r102 Go.Lt.lt
  have h1 : (H.push (.cells [.str x, .int .i64 n] false)).ldStr H.n (0 + 0) = some x := by
    simp [Hp.ldStr, Hp.ld, AV.asStr]
  have h2 : (H.push (.cells [.str x, .int .i64 n] false)).ldStr b 0 = some name := by
    have : (H.push (.cells [.str x, .int .i64 n] false)).get b = some (.cells [.str name] false) := by rw [Hp.get_push_old _ _ (Hp.get_lt hg)]; exact hg
    simp [Hp.ldStr, ld_of_get this, AV.asStr]
  dsimp only
  rw [h1, Option.bind_some, h2]
  rfl
theorem r101_ok {k : Nat} {H : Hp} {name : ByteArray} {b : Nat} (hg : H.get b = some (.cells [.str name] false)) {v : Sl} {l : List (ByteArray × Int)} (h : SL H v l) (hb : l.length ≤ 1048577) :
    Lt.Ok (r101 (appA (k + 1)) v (.fn 102 [] [.ptr b 0]) H) fun r H' => Gr H H' ∧ r = idxI (l.findIdx? fun x => strEq x.1 name) := by
  unfold r101
  have hl := h.len
  refine idx_ok (L := fun K i A => r101_l0 (appA (k + 1)) K v (.fn 102 [] [.ptr b 0]) (v.len : Int) i A) (l := l) (fun x => strEq x.1 name) (by omega) (fun K i A Q hi g k1 k2 => ?_) fun K A Q g k => ?_
  · rw [r101_l0]
    refine Lt.Ok.pos (by omega) (Lt.Ok.ck (by omega) ?_)
    have hld : A.ldStr v.b (v.o + ((i : Int)).toNat * 2) = some l[i].1 := by
      have := SL.ldStr (h.gr g) (i := i) (j := 0) (n := l[i].1) hi rfl
      exact this
    have hld2 : A.ldI .i64 v.b ((v.o + ((i : Int)).toNat * 2) + 1) = some l[i].2 := by
      have := (h.gr g).ldI (i := i) (j := 1) (n := l[i].2) hi rfl
      exact this
    refine Lt.Ok.ld hld (Lt.Ok.ld hld2 ?_)
    rw [app102]
    obtain ⟨A', hr, g'⟩ := r102_ok ((g.2 _ (Hp.get_lt hg)).trans hg) l[i].1 l[i].2
    rw [hr]
    simp only [Option.map_some, Option.bind_some, AV.asB]
    rw [w64_succ (by omega)]
    exact Lt.Ok.ite (fun h => Lt.Ok.ret (k1 A' g' h)) fun h => k2 A' g' (by simpa using h)
  · rw [r101_l0]
    exact Lt.Ok.neg (by omega) (Lt.Ok.ret k)
theorem r75_ok {k : Nat} {H : Hp} {b : Nat} {v1 v2 v3 : Sl} {s s' : St} (hg : H.get b = some (.cells (stCells v1 v2 v3 s') false)) (h : SL H v1 s.leaves) (hb : s.leaves.length ≤ 1048577) (name : ByteArray) :
    Lt.Ok (r75 (appA (k + 1)) b 0 name H) fun r H' => Gr H H' ∧ r = idxI (s.find name) := by
  unfold r75
  refine Lt.Ok.lt ?_
  have gp := Gr.push H (.cells [.str name] false)
  have hg1 := (gp.2 _ (Hp.get_lt hg)).trans hg
  refine Lt.Ok.ld (ldSl_get hg1 rfl) (Lt.Ok.bind (r101_ok (k := k) (Hp.get_push_new _ _) (h.gr gp) hb) fun r A ⟨g, e⟩ => Lt.Ok.ret ⟨gp.trans g, e⟩)
end Go.Lt.P10
