/- PLAIN LAWS OF WHAT IS COMPUTED, for the statement 'ChestGives'. Nothing is asked of the input. -/
import Derived.Shelf.Strings.OnBuilder
import Derived.Shelf.Strconv.Itoa3
import Derived.Shelf.Strconv.AtoiAll
import Derived.Test.YtopildlfbhfghaaGreatDoorProg
import Derived.Test.YtopildlfbhfghaaGreatDoorLB
import Derived.Shelf.Strings.Builder1
import Derived.WalkKit
import Derived.ProofKit
import Derived.Shelf.Strings.SlTrimAscii
import Derived.Lib.Bytealg
import Derived.Laws.RangeAny
import Derived.Test.YtopildlfbhfghaaGreatDoorG6A
set_option linter.unusedVariables false
set_option linter.unusedSimpArgs false
namespace Go.Proofs
open Go.Shelf
def Tryz.lays156_ren : Go.Shelf.Ren := ⟨fun | 156 => 109 | 165 => 167 | 166 => 131 | 169 => 136 | 240 => 185 | 241 => 229 | 276 => 243 | 277 => 293 | n => n, fun | 31 => 22 | 9 => 9 | 3 => 3 | 4 => 4 | 0 => 0 | 20 => 20 | 72 => 184 | 76 => 99 | 70 => 182 | 37 => 75 | 75 => 98 | 127 => 251 | 164 => 309 | 5 => 5 | 80 => 83 | n => n, fun | n => n⟩
theorem Tryz.lays156 : Go.Proofs.Lays.n156 Tryz.prog Tryz.lays156_ren := {
 mixed := by kernel_rfl
 f156 := Tryz.func109.trans (congrArg some (by kernel_rfl))
 f165 := Tryz.func167.trans (congrArg some (by kernel_rfl))
 f166 := Tryz.func131.trans (congrArg some (by kernel_rfl))
 f169 := Tryz.func136.trans (congrArg some (by kernel_rfl))
 f240 := Tryz.func185.trans (congrArg some (by kernel_rfl))
 f241 := Tryz.func229.trans (congrArg some (by kernel_rfl))
 f276 := Tryz.func243.trans (congrArg some (by kernel_rfl))
 f277 := Tryz.func293.trans (congrArg some (by kernel_rfl))
 t0 := Tryz.underlying0
 a0 := Tryz.isAgg0
 z0 := Tryz.sizeOf0
 v0 := Tryz.zeroValue0
 t3 := Tryz.underlying3
 a3 := Tryz.isAgg3
 z3 := Tryz.sizeOf3
 v3 := Tryz.zeroValue3
 t4 := Tryz.underlying4
 a4 := Tryz.isAgg4
 z4 := Tryz.sizeOf4
 v4 := Tryz.zeroValue4
 t9 := Tryz.underlying9
 a9 := Tryz.isAgg9
 z9 := Tryz.sizeOf9
 v9 := Tryz.zeroValue9
 t20 := Tryz.underlying20
 a20 := Tryz.isAgg20
 z20 := Tryz.sizeOf20
 v20 := Tryz.zeroValue20
 t31 := Tryz.underlying22
 a31 := Tryz.isAgg22
 z31 := Tryz.sizeOf22
 v31 := Tryz.zeroValue22
 t37 := Tryz.underlying75
 a37 := Tryz.isAgg75
 z37 := Tryz.sizeOf75
 v37 := Tryz.zeroValue75
 t70 := Tryz.underlying182
 a70 := Tryz.isAgg182
 z70 := Tryz.sizeOf182
 v70 := Tryz.zeroValue182
 t72 := Tryz.underlying184
 a72 := Tryz.isAgg184
 z72 := Tryz.sizeOf184
 v72 := Tryz.zeroValue184
 t75 := Tryz.underlying98
 a75 := Tryz.isAgg98
 z75 := Tryz.sizeOf98
 v75 := Tryz.zeroValue98
 t76 := Tryz.underlying99
 a76 := Tryz.isAgg99
 z76 := Tryz.sizeOf99
 v76 := Tryz.zeroValue99
 t127 := Tryz.underlying251
 a127 := Tryz.isAgg251
 z127 := Tryz.sizeOf251
 v127 := Tryz.zeroValue251
 t164 := Tryz.underlying309
 a164 := Tryz.isAgg309
 z164 := Tryz.sizeOf309
 v164 := Tryz.zeroValue309 }
theorem Tryz.Builder_Extra_156 : Builder.Extra Tryz.prog Tryz.lays156_ren := {
 sizeBuilder := by kernel_rfl
 liesBuilder := by kernel_rfl
 t5 := Tryz.underlying5
 a5 := Tryz.isAgg5
 z5 := Tryz.sizeOf5
 v5 := Tryz.zeroValue5
 infoByte := by kernel_rfl
 cellsByte := by kernel_rfl
 sizeByte := by kernel_rfl
 neB5 := by decide }
open Go.RowKit in
theorem Tryz.strings_Join_none (a : Option Addr) (c : Nat) (sep : ByteArray) (w : World) :
  Calls Tryz.prog 109 #[.slice a 0 c, .string sep] w fun e w' => e = .returned (.string ⟨#[]⟩) ∧ w' = w := Any.strings_Join_none Tryz.lays156 Tryz.Builder_Extra_156 a c sep w
open Go.RowKit in
theorem Tryz.strings_Join (bk o c : Nat) (xs : List ByteArray) (sep : ByteArray) (w : World) (hcells : ∀ (j : Nat) x, xs[j]? = some x → w.cell? ⟨bk, o + j, none⟩ = some (.string x)) (hbk : bk < w.heap.size) (hN : xs.length ≤ 140737488355328) (hcap : xs.length ≤ c) (hlen : (Lib.join (xs.map (·.data.toList)) sep.data.toList).length ≤ 140737488355328) :
  Calls Tryz.prog 109 #[.slice (some ⟨bk, o, none⟩) xs.length c, .string sep] w fun e w' => e = .returned (.string ⟨(Lib.join (xs.map (·.data.toList)) sep.data.toList).toArray⟩) ∧ Below w.heap.size w w' := Any.strings_Join Tryz.lays156 Tryz.Builder_Extra_156 bk o c xs sep w hcells hbk hN hcap hlen
def Tryz.laysM171_ren : Go.Shelf.Ren := ⟨fun | 171 => 33 | 243 => 78 | 246 => 129 | 283 => 181 | 284 => 182 | 285 => 183 | 286 => 184 | 129 => 239 | 317 => 238 | 318 => 240 | 319 => 241 | 320 => 242 | 337 => 299 | 338 => 300 | n => n, fun | 3 => 3 | 9 => 9 | 2 => 2 | 4 => 4 | 171 => 244 | 0 => 0 | 53 => 245 | 37 => 75 | 5 => 5 | 173 => 248 | 212 => 305 | 51 => 306 | 20 => 20 | 213 => 307 | 46 => 46 | 232 => 385 | 233 => 386 | n => n, fun | 17 => 2 | 18 => 6 | 19 => 7 | n => n⟩
theorem Tryz.laysM171 : Go.Proofs.LaysM.n171 Tryz.prog Tryz.laysM171_ren := {
 mixed := by kernel_rfl
 f129 := Tryz.func239.trans (congrArg some (by kernel_rfl))
 f171 := Tryz.func33.trans (congrArg some (by kernel_rfl))
 f243 := Tryz.func78.trans (congrArg some (by kernel_rfl))
 f246 := Tryz.func129.trans (congrArg some (by kernel_rfl))
 f283 := Tryz.func181.trans (congrArg some (by kernel_rfl))
 f284 := Tryz.func182.trans (congrArg some (by kernel_rfl))
 f285 := Tryz.func183.trans (congrArg some (by kernel_rfl))
 f286 := Tryz.func184.trans (congrArg some (by kernel_rfl))
 f317 := Tryz.func238.trans (congrArg some (by kernel_rfl))
 f318 := Tryz.func240.trans (congrArg some (by kernel_rfl))
 f319 := Tryz.func241.trans (congrArg some (by kernel_rfl))
 f320 := Tryz.func242.trans (congrArg some (by kernel_rfl))
 f337 := Tryz.func299.trans (congrArg some (by kernel_rfl))
 f338 := Tryz.func300.trans (congrArg some (by kernel_rfl))
 t0 := Tryz.underlying0
 a0 := Tryz.isAgg0
 z0 := Tryz.sizeOf0
 v0 := Tryz.zeroValue0
 t2 := Tryz.underlying2
 a2 := Tryz.isAgg2
 z2 := Tryz.sizeOf2
 v2 := Tryz.zeroValue2
 t3 := Tryz.underlying3
 a3 := Tryz.isAgg3
 z3 := Tryz.sizeOf3
 v3 := Tryz.zeroValue3
 t4 := Tryz.underlying4
 a4 := Tryz.isAgg4
 z4 := Tryz.sizeOf4
 v4 := Tryz.zeroValue4
 t5 := Tryz.underlying5
 a5 := Tryz.isAgg5
 z5 := Tryz.sizeOf5
 v5 := Tryz.zeroValue5
 t9 := Tryz.underlying9
 a9 := Tryz.isAgg9
 z9 := Tryz.sizeOf9
 v9 := Tryz.zeroValue9
 t20 := Tryz.underlying20
 a20 := Tryz.isAgg20
 z20 := Tryz.sizeOf20
 v20 := Tryz.zeroValue20
 t37 := Tryz.underlying75
 a37 := Tryz.isAgg75
 z37 := Tryz.sizeOf75
 v37 := Tryz.zeroValue75
 t46 := Tryz.underlying46
 a46 := Tryz.isAgg46
 z46 := Tryz.sizeOf46
 v46 := Tryz.zeroValue46
 t51 := Tryz.underlying306
 a51 := Tryz.isAgg306
 z51 := Tryz.sizeOf306
 v51 := Tryz.zeroValue306
 t53 := Tryz.underlying245
 a53 := Tryz.isAgg245
 z53 := Tryz.sizeOf245
 v53 := Tryz.zeroValue245
 t171 := Tryz.underlying244
 a171 := Tryz.isAgg244
 z171 := Tryz.sizeOf244
 v171 := Tryz.zeroValue244
 t173 := Tryz.underlying248
 a173 := Tryz.isAgg248
 z173 := Tryz.sizeOf248
 v173 := Tryz.zeroValue248
 t212 := Tryz.underlying305
 a212 := Tryz.isAgg305
 z212 := Tryz.sizeOf305
 v212 := Tryz.zeroValue305
 t213 := Tryz.underlying307
 a213 := Tryz.isAgg307
 z213 := Tryz.sizeOf307
 t232 := Tryz.underlying385
 a232 := Tryz.isAgg385
 z232 := Tryz.sizeOf385
 v232 := Tryz.zeroValue385
 t233 := Tryz.underlying386
 a233 := Tryz.isAgg386
 z233 := Tryz.sizeOf386
 v233 := Tryz.zeroValue386
 g17 := by kernel_rfl
 g18 := by kernel_rfl
 g19 := by kernel_rfl
 i0 := by kernel_rfl
 i2 := by kernel_rfl
 i3 := by kernel_rfl
 i4 := by kernel_rfl
 i5 := by kernel_rfl
 i9 := by kernel_rfl
 i20 := by kernel_rfl
 i37 := by kernel_rfl
 i46 := by kernel_rfl
 i51 := by kernel_rfl
 i53 := by kernel_rfl
 i171 := by kernel_rfl
 i173 := by kernel_rfl
 i212 := by kernel_rfl
 i232 := by kernel_rfl
 i233 := by kernel_rfl
 m17 := by kernel_rfl
 m18 := by kernel_rfl
 m19 := by kernel_rfl }
open Go.RowKit Go.Sort Go.Lib in
theorem Tryz.strconv_Itoa (n : Int) (h0 : -9223372036854775808 ≤ n) (h1 : n ≤ 9223372036854775807) (w : World) (htab : Lib.TabIs Tryz.prog w "internal/strconv.uint64pow10" .u64 Lib.pow10Tab) :
  Calls Tryz.prog 33 #[.int .i64 n] w fun e w' => e = .returned (.string ⟨(Lib.itoa n).toArray⟩) ∧ ∃ k os, w' = grow (w.drewN k) os := Any.strconv_Itoa Tryz.laysM171 n h0 h1 w htab
def Tryz.laysC172_ren : Go.Shelf.Ren := ⟨fun | 172 => 53 | 244 => 89 | 245 => 90 | 247 => 147 | 279 => 148 | 280 => 149 | 281 => 150 | 282 => 151 | 287 => 194 | 316 => 195 | 171 => 33 | 205 => 196 | 321 => 250 | 322 => 251 | 243 => 78 | 246 => 129 | 283 => 181 | 284 => 182 | 285 => 183 | 286 => 184 | 129 => 239 | 317 => 238 | 318 => 240 | 319 => 241 | 320 => 242 | 337 => 299 | 338 => 300 | n => n, fun | 9 => 9 | 3 => 3 | 75 => 98 | 76 => 99 | 4 => 4 | 5 => 5 | 167 => 205 | 37 => 75 | 0 => 0 | 85 => 206 | 2 => 2 | 168 => 208 | 53 => 245 | 175 => 255 | 46 => 46 | 210 => 259 | 127 => 251 | 145 => 314 | 143 => 312 | 21 => 21 | 171 => 244 | 173 => 248 | 212 => 305 | 51 => 306 | 20 => 20 | 213 => 307 | 232 => 385 | 233 => 386 | 80 => 83 | n => n, fun | 15 => 0 | 16 => 1 | 17 => 2 | 18 => 6 | 19 => 7 | n => n⟩
theorem Tryz.laysC172 : Go.Proofs.LaysC.n172 Tryz.prog Tryz.laysC172_ren := {
 mixed := by kernel_rfl
 f129 := Tryz.func239.trans (congrArg some (by kernel_rfl))
 f171 := Tryz.func33.trans (congrArg some (by kernel_rfl))
 f172 := Tryz.func53.trans (congrArg some (by kernel_rfl))
 f205 := Tryz.func196.trans (congrArg some (by kernel_rfl))
 f243 := Tryz.func78.trans (congrArg some (by kernel_rfl))
 f244 := Tryz.func89.trans (congrArg some (by kernel_rfl))
 f245 := Tryz.func90.trans (congrArg some (by kernel_rfl))
 f246 := Tryz.func129.trans (congrArg some (by kernel_rfl))
 f247 := Tryz.func147.trans (congrArg some (by kernel_rfl))
 f279 := Tryz.func148.trans (congrArg some (by kernel_rfl))
 f280 := Tryz.func149.trans (congrArg some (by kernel_rfl))
 f281 := Tryz.func150.trans (congrArg some (by kernel_rfl))
 f282 := Tryz.func151.trans (congrArg some (by kernel_rfl))
 f283 := Tryz.func181.trans (congrArg some (by kernel_rfl))
 f284 := Tryz.func182.trans (congrArg some (by kernel_rfl))
 f285 := Tryz.func183.trans (congrArg some (by kernel_rfl))
 f286 := Tryz.func184.trans (congrArg some (by kernel_rfl))
 f287 := Tryz.func194.trans (congrArg some (by kernel_rfl))
 f316 := Tryz.func195.trans (congrArg some (by kernel_rfl))
 f317 := Tryz.func238.trans (congrArg some (by kernel_rfl))
 f318 := Tryz.func240.trans (congrArg some (by kernel_rfl))
 f319 := Tryz.func241.trans (congrArg some (by kernel_rfl))
 f320 := Tryz.func242.trans (congrArg some (by kernel_rfl))
 f321 := Tryz.func250.trans (congrArg some (by kernel_rfl))
 f322 := Tryz.func251.trans (congrArg some (by kernel_rfl))
 f337 := Tryz.func299.trans (congrArg some (by kernel_rfl))
 f338 := Tryz.func300.trans (congrArg some (by kernel_rfl))
 t0 := Tryz.underlying0
 a0 := Tryz.isAgg0
 z0 := Tryz.sizeOf0
 v0 := Tryz.zeroValue0
 t2 := Tryz.underlying2
 a2 := Tryz.isAgg2
 z2 := Tryz.sizeOf2
 v2 := Tryz.zeroValue2
 t3 := Tryz.underlying3
 a3 := Tryz.isAgg3
 z3 := Tryz.sizeOf3
 v3 := Tryz.zeroValue3
 t4 := Tryz.underlying4
 a4 := Tryz.isAgg4
 z4 := Tryz.sizeOf4
 v4 := Tryz.zeroValue4
 t5 := Tryz.underlying5
 a5 := Tryz.isAgg5
 z5 := Tryz.sizeOf5
 v5 := Tryz.zeroValue5
 t9 := Tryz.underlying9
 a9 := Tryz.isAgg9
 z9 := Tryz.sizeOf9
 v9 := Tryz.zeroValue9
 t20 := Tryz.underlying20
 a20 := Tryz.isAgg20
 z20 := Tryz.sizeOf20
 v20 := Tryz.zeroValue20
 t21 := Tryz.underlying21
 a21 := Tryz.isAgg21
 z21 := Tryz.sizeOf21
 v21 := Tryz.zeroValue21
 t37 := Tryz.underlying75
 a37 := Tryz.isAgg75
 z37 := Tryz.sizeOf75
 v37 := Tryz.zeroValue75
 t46 := Tryz.underlying46
 a46 := Tryz.isAgg46
 z46 := Tryz.sizeOf46
 v46 := Tryz.zeroValue46
 t51 := Tryz.underlying306
 a51 := Tryz.isAgg306
 z51 := Tryz.sizeOf306
 v51 := Tryz.zeroValue306
 t53 := Tryz.underlying245
 a53 := Tryz.isAgg245
 z53 := Tryz.sizeOf245
 v53 := Tryz.zeroValue245
 t75 := Tryz.underlying98
 a75 := Tryz.isAgg98
 z75 := Tryz.sizeOf98
 v75 := Tryz.zeroValue98
 t76 := Tryz.underlying99
 a76 := Tryz.isAgg99
 z76 := Tryz.sizeOf99
 v76 := Tryz.zeroValue99
 t85 := Tryz.underlying206
 a85 := Tryz.isAgg206
 z85 := Tryz.sizeOf206
 v85 := Tryz.zeroValue206
 t127 := Tryz.underlying251
 a127 := Tryz.isAgg251
 z127 := Tryz.sizeOf251
 v127 := Tryz.zeroValue251
 t143 := Tryz.underlying312
 a143 := Tryz.isAgg312
 z143 := Tryz.sizeOf312
 v143 := Tryz.zeroValue312
 t145 := Tryz.underlying314
 a145 := Tryz.isAgg314
 z145 := Tryz.sizeOf314
 v145 := Tryz.zeroValue314
 t167 := Tryz.underlying205
 a167 := Tryz.isAgg205
 z167 := Tryz.sizeOf205
 v167 := Tryz.zeroValue205
 t168 := Tryz.underlying208
 a168 := Tryz.isAgg208
 z168 := Tryz.sizeOf208
 v168 := Tryz.zeroValue208
 t171 := Tryz.underlying244
 a171 := Tryz.isAgg244
 z171 := Tryz.sizeOf244
 v171 := Tryz.zeroValue244
 t173 := Tryz.underlying248
 a173 := Tryz.isAgg248
 z173 := Tryz.sizeOf248
 v173 := Tryz.zeroValue248
 t175 := Tryz.underlying255
 a175 := Tryz.isAgg255
 z175 := Tryz.sizeOf255
 v175 := Tryz.zeroValue255
 t210 := Tryz.underlying259
 a210 := Tryz.isAgg259
 z210 := Tryz.sizeOf259
 v210 := Tryz.zeroValue259
 t212 := Tryz.underlying305
 a212 := Tryz.isAgg305
 z212 := Tryz.sizeOf305
 v212 := Tryz.zeroValue305
 t213 := Tryz.underlying307
 a213 := Tryz.isAgg307
 z213 := Tryz.sizeOf307
 t232 := Tryz.underlying385
 a232 := Tryz.isAgg385
 z232 := Tryz.sizeOf385
 v232 := Tryz.zeroValue385
 t233 := Tryz.underlying386
 a233 := Tryz.isAgg386
 z233 := Tryz.sizeOf386
 v233 := Tryz.zeroValue386
 g15 := by kernel_rfl
 g16 := by kernel_rfl
 g17 := by kernel_rfl
 g18 := by kernel_rfl
 g19 := by kernel_rfl
 t80 := Tryz.underlying83
 a80 := Tryz.isAgg83
 z80 := Tryz.sizeOf83
 v80 := Tryz.zeroValue83
 i0 := by kernel_rfl
 i2 := by kernel_rfl
 i3 := by kernel_rfl
 i4 := by kernel_rfl
 i5 := by kernel_rfl
 i9 := by kernel_rfl
 i20 := by kernel_rfl
 i21 := by kernel_rfl
 i37 := by kernel_rfl
 i46 := by kernel_rfl
 i51 := by kernel_rfl
 i53 := by kernel_rfl
 i75 := by kernel_rfl
 i76 := by kernel_rfl
 i80 := by kernel_rfl
 i85 := by kernel_rfl
 i127 := by kernel_rfl
 i143 := by kernel_rfl
 i145 := by kernel_rfl
 i167 := by kernel_rfl
 i168 := by kernel_rfl
 i171 := by kernel_rfl
 i173 := by kernel_rfl
 i175 := by kernel_rfl
 i210 := by kernel_rfl
 i212 := by kernel_rfl
 i232 := by kernel_rfl
 i233 := by kernel_rfl
 m15 := by kernel_rfl
 m16 := by kernel_rfl
 m17 := by kernel_rfl
 m18 := by kernel_rfl
 m19 := by kernel_rfl
 c0 := by kernel_rfl
 c2 := by kernel_rfl
 c3 := by kernel_rfl
 c4 := by kernel_rfl
 c5 := by kernel_rfl
 c9 := by kernel_rfl
 c20 := by kernel_rfl
 c21 := by kernel_rfl
 c37 := by kernel_rfl
 c46 := by kernel_rfl
 c51 := by kernel_rfl
 c53 := by kernel_rfl
 c75 := by kernel_rfl
 c76 := by kernel_rfl
 c80 := by kernel_rfl
 c85 := by kernel_rfl
 c127 := by kernel_rfl
 c143 := by kernel_rfl
 c145 := by kernel_rfl
 c167 := by kernel_rfl
 c168 := by kernel_rfl
 c171 := by kernel_rfl
 c173 := by kernel_rfl
 c175 := by kernel_rfl
 c210 := by kernel_rfl
 c212 := by kernel_rfl
 c213 := by kernel_rfl
 c232 := by kernel_rfl
 c233 := by kernel_rfl }
open Go.RowKit in
theorem Tryz.strconv_Atoi_ok (s : ByteArray) (hmax : s.size ≤ 9223372036854775806) (v : Int) (h : Lib.atoiAll s.data.toList = .ok v) (w : World) :
  Calls Tryz.prog 53 #[.string s] w fun e w' => e = .returned (.tuple #[.int .i64 v, .nilIface]) ∧ (w' = w ∨ ∃ t, w' = Lib.bytesWorld w 5 t) := Any.strconv_Atoi_ok Tryz.laysC172 s hmax v h w
open Go.RowKit in
theorem Tryz.strconv_Atoi_syntax (s : ByteArray) (hlim : s.size ≤ 281474976710656) (h : Lib.atoiAll s.data.toList = .«syntax») (ev : Value) (w : World) (hv : w.cell? ⟨0, 0, none⟩ = some ev) (hev : ev = .nilIface ∨ ∃ te pe, ev = .iface te pe) :
  Calls Tryz.prog 53 #[.string s] w fun e w' => ∃ N, e = .returned (.tuple #[.int .i64 (0), .iface 208 (.pointer (some ⟨N, 0, none⟩))]) ∧ w.heap.size ≤ N ∧ w'.heap[N]? = some (.cells #[.string ⟨#[65, 116, 111, 105]⟩, .string s, ev] 259 (0, 0)) ∧ Below w.heap.size w w' := Any.strconv_Atoi_syntax Tryz.laysC172 s hlim h ev w hv hev
open Go.RowKit in
theorem Tryz.strconv_Atoi_range (s : ByteArray) (hlim : s.size ≤ 281474976710656) (h : Lib.atoiAll s.data.toList = .range) (ev : Value) (w : World) (hv : w.cell? ⟨1, 0, none⟩ = some ev) (hev : ev = .nilIface ∨ ∃ te pe, ev = .iface te pe) :
  Calls Tryz.prog 53 #[.string s] w fun e w' => ∃ N, e = .returned (.tuple #[.int .i64 (Lib.atoiSat s.data.toList), .iface 208 (.pointer (some ⟨N, 0, none⟩))]) ∧ w.heap.size ≤ N ∧ w'.heap[N]? = some (.cells #[.string ⟨#[65, 116, 111, 105]⟩, .string s, ev] 259 (0, 0)) ∧ Below w.heap.size w w' := Any.strconv_Atoi_range Tryz.laysC172 s hlim h ev w hv hev
end Go.Proofs

namespace Go.Lt.P10
open Go Go.Lt Go.Proofs Go.RowKit
/-! ### strings.Builder over the world -/
theorem run_bapp {w : World} {v : Value} {n : Nat} {xs : List Value} {s : ByteArray} (hv : w.ownsRow 0 5 1 v n xs) (h1 : 1 ≤ s.size) (h2 : n + s.size ≤ 16777216) :
  ∃ v' w', (Builtin.append_ #[75, 9] 75 #[v, .string s]).run Tryz.prog w = .ok v' w' ∧ w'.ownsRow 0 5 1 v' (n + s.size) (xs ++ Lib.strCells s) ∧ w.grownBy w' v.ownBlock ∧
   ∃ g cap, v' = .slice (some ⟨g, 0, none⟩) (n + s.size) cap ∧ (v.ownBlock = some g ∨ w.heap.size ≤ g) := by
 obtain ⟨i, hi, hz0, hz1, hz2⟩ := info_parts Tryz.Builder_Extra_156.infoByte
 have ht : Tryz.prog.underlying 75 = some (.slice 5) := Tryz.underlying75
 have hu : Tryz.prog.underlying 9 = some .string := Tryz.underlying9
 obtain ⟨v', w', hr, ho, hg, _⟩ := Lib.run_append_own_string (P := Tryz.prog) w 0 75 9 75 5 i ht hu hi hz0 hz1 hz2 v n xs hv s (by unfold maxLen; omega) (by omega) (Nat.zero_le _)
 refine ⟨v', w', hr, ho, hg, ?_⟩
 rcases hv.2 with ⟨rfl, rfl⟩ | ⟨g, cap, cur, rfl, hbg, hgg, hnc, hcm, hcs, htake⟩
 ·have hr2 := run_append_nil_string (P := Tryz.prog) w 75 9 75 5 i (.int .u8 0) ht hu hi hz0 s (by omega) (by omega) (by rw [hz2]; omega)
  rw [hr2] at hr
  injection hr with e1 e2
  exact ⟨_, _, by rw [← e1, Nat.zero_add], .inr (Nat.le_refl _)⟩
 ·by_cases hroom : n + s.size ≤ cap
  ·have hcs' : cur.size = cap := by simpa using hcs
   have hr2 := Lib.run_append_room_string (P := Tryz.prog) w 75 9 75 5 i ht hu hi hz1 g n cap cur hgg s hroom (by omega)
   rw [hr2] at hr
   injection hr with e1 e2
   exact ⟨_, _, e1.symm, .inl rfl⟩
  ·have holds : ∀ j u, xs[j]? = some u → w.cell? ((⟨g, 0, none⟩ : Addr).add j) = some u := hv.cells (g := g) rfl
   have hr2 := Lib.run_append_grow_string (P := Tryz.prog) w 75 9 75 5 i (.int .u8 0) ht hu hi hz0 ⟨g, 0, none⟩ n cap xs (by rw [hz1]; simpa using hv.1) holds s (by omega) (by omega) (by rw [hz2]; exact growslice_fits (by omega) (by omega))
   rw [hr2] at hr
   injection hr with e1 e2
   exact ⟨_, _, e1.symm, .inr (Nat.le_refl _)⟩
end Go.Lt.P10

namespace Go.Lt.P10
open Go Go.Lt Go.Proofs Go.RowKit
theorem wp_bapp {w : World} {ops : Array Oper} {rest : List Oper} {o : Oper} {a : Act} {Q : Exit → Act → World → Prop} (hgd : o.guard = none) (sl x : Operand)
  (ho : o.op = .call { callee := .builtin .append, args := #[sl, x], argTypes := #[75, 9] }) (hty : o.type = 75)
  {v : Value} {n : Nat} {xs : List Value} (hs : a.eval sl = v) (hown : w.ownsRow 0 5 1 v n xs) {s : ByteArray} (hx : a.eval x = .string s) (h1 : 1 ≤ s.size) (h2 : n + s.size ≤ 16777216)
  (h : ∀ g cap w', w'.ownsRow 0 5 1 (.slice (some ⟨g, 0, none⟩) (n + s.size) cap) (n + s.size) (xs ++ Lib.strCells s) → w.grownBy w' v.ownBlock → (v.ownBlock = some g ∨ w.heap.size ≤ g) →
   wpList Tryz.prog ops Q rest (a.put o.dst (.slice (some ⟨g, 0, none⟩) (n + s.size) cap)) w') : wpList Tryz.prog ops Q (o :: rest) a w := by
 refine wpList_plain hgd fun K hK => ?_
 obtain ⟨v', w', hr, k2, k3, g, cap, rfl, k4⟩ := run_bapp hown h1 h2
 unfold Oper.wp execOp
 simp only [ho, hty, resolve, invoke, builtin, Sem.run_bind, Sem.run_pure, Result.andThen_ok, List.map_toArray, List.map_cons, List.map_nil, hs, hx, hr]
 exact hK _ _ (h g cap w' k2 k3 k4)
theorem setCell_same {w : World} {bb : Nat} {p v : Value} (h : w.heap[bb]? = some (.cells #[p, v] 184 (0, 0))) : w.setCell ⟨bb, 0, none⟩ p = w := by
 have key : ∀ (a b : World), a.heap = b.heap → a.tape = b.tape → a.drawn = b.drawn → a.os = b.os → a.output = b.output → a = b := by
  rintro ⟨_, _, _, _, _⟩ ⟨_, _, _, _, _⟩ h1 h2 h3 h4 h5
  simp only at h1 h2 h3 h4 h5
  subst h1; subst h2; subst h3; subst h4; subst h5
  rfl
 refine key _ _ ?_ rfl rfl rfl rfl
 refine Array.ext_getElem? fun i => ?_
 by_cases e : i = bb
 ·subst e
  simp [World.setCell, Array.getElem?_modify, h]
 ·exact Below.heap_setCell _ _ _ _ e
set_option maxHeartbeats 1000000 in
set_option maxRecDepth 100000 in
theorem ws_walk {w : World} {bb : Nat} {p v : Value} {n : Nat} {xs : List Value} {s : ByteArray} (hbk : w.heap[bb]? = some (.cells #[p, v] 184 (0, 0))) (hp : p = .pointer none ∨ p = .pointer (some ⟨bb, 0, none⟩))
  (hv : w.ownsRow 0 5 1 v n xs) (hne : v.ownBlock ≠ some bb) (h1 : 1 ≤ s.size) (h2 : n + s.size ≤ 16777216) :
  Calls Tryz.prog 131 #[.pointer (some ⟨bb, 0, none⟩), .string s] w fun e w' => e = .returned (.tuple #[.int .i64 s.size, .nilIface]) ∧ ∃ g cap w2,
   w2.ownsRow 0 5 1 (.slice (some ⟨g, 0, none⟩) (n + s.size) cap) (n + s.size) (xs ++ Lib.strCells s) ∧ (w.setCell ⟨bb, 0, none⟩ (.pointer (some ⟨bb, 0, none⟩))).grownBy w2 v.ownBlock ∧ (v.ownBlock = some g ∨ w.heap.size ≤ g) ∧
   w' = w2.setCell ⟨bb, 1, none⟩ (.slice (some ⟨g, 0, none⟩) (n + s.size) cap) := by
 have L := Tryz.lays156
 have X := Tryz.Builder_Extra_156
 have hlt : bb < w.heap.size := (Array.getElem?_eq_some_iff.1 hbk).1
 have hcc : Calls Tryz.prog 185 #[.pointer (some ⟨bb, 0, none⟩)] w fun e w' => e = .returned (.tuple #[]) ∧ w' = w.setCell ⟨bb, 0, none⟩ (.pointer (some ⟨bb, 0, none⟩)) := by
  rcases hp with rfl | rfl
  ·exact Any.Builder_copyCheck_fresh (P := Tryz.prog) (ρ := Tryz.lays156_ren) { L with } X.toX72 bb w (by simp [World.cell?, hbk]) (by simp [World.shape?, hbk]; rfl) (by simp [World.frozen?, hbk])
  ·refine (Any.Builder_copyCheck_used (P := Tryz.prog) (ρ := Tryz.lays156_ren) { L with } X.toX72 bb w (by simp [World.cell?, hbk])).mono ?_
   rintro e w' ⟨rfl, rfl⟩
   refine ⟨rfl, ?_⟩
   exact (setCell_same hbk).symm
 go_enter Tryz.func131, Tryz.ntmps131
 go_wp2_with (go_at_call 185; refine hcc.mono ?_)
 rintro e w1 ⟨rfl, rfl⟩
 generalize hw1 : w.setCell ⟨bb, 0, none⟩ (.pointer (some ⟨bb, 0, none⟩)) = w1
 have hb1 : w1.heap[bb]? = some (.cells #[.pointer (some ⟨bb, 0, none⟩), v] 184 (0, 0)) := by
  subst hw1; simp [World.setCell, Array.getElem?_modify, hbk]
 have hown1 : w1.ownsRow 0 5 1 v n xs := by
  subst hw1
  exact hv.kept (row := some bb) ⟨rfl, rfl, rfl, by simp [World.setCell], fun k _ hk => Below.heap_setCell _ _ _ _ (fun e => hk (by simp [e]))⟩ (.inr hne)
 have c1 : w1.cell? ⟨bb, 1, none⟩ = some v := by simp [World.cell?, hb1]
 have hsz : w1.heap.size = w.heap.size := by subst hw1; simp [World.setCell]
 go_wp2_with (at_builtin; refine wp_bapp rfl _ _ rfl rfl rfl hown1 rfl h1 h2 ?_)
 intro g cap w2 k1 k2 k3
 have hlt1 : bb < w1.heap.size := by omega
 have hb2 : w2.heap[bb]? = some (.cells #[.pointer (some ⟨bb, 0, none⟩), v] 184 (0, 0)) := by
  rw [k2.block bb hlt1 (fun e => hne e.symm)]
  exact hb1
 have d0 : w2.cell? ⟨bb, 0, none⟩ = some (.pointer (some ⟨bb, 0, none⟩)) := by simp [World.cell?, hb2]
 have d1 : w2.cell? ⟨bb, 1, none⟩ = some v := by simp [World.cell?, hb2]
 have f1 : w2.frozen? ⟨bb, 1, none⟩ = false := by simp [World.frozen?, hb2]
 go_wp2
 go_ret2
 exact ⟨rfl, g, cap, w2, k1, by rw [hw1]; exact k2, k3, rfl⟩
theorem freeze_oth {w1 : World} {g n k : Nat} (h : k ≠ g) : (w1.freeze ⟨g, 0, none⟩ n).heap[k]? = w1.heap[k]? := by
 unfold World.freeze
 simp only
 split
 ·rfl
 ·simp [Array.getElem?_modify, Ne.symm h]
set_option maxHeartbeats 1000000 in
set_option maxRecDepth 100000 in
theorem str_walk {w : World} {bb g : Nat} {p : Value} {c : Array Value} {l : ByteArray} (hbk : w.heap[bb]? = some (.cells #[p, .slice (some ⟨g, 0, none⟩) l.size c.size] 184 (0, 0))) (hg : w.heap[g]? = some (.cells c 5 (0, 0)))
  (h0 : 1 ≤ l.size) (hl : l.size ≤ c.size) (hm : c.size ≤ maxLen) (hc : c.toList.take l.size = Lib.byteCells l.data.toList) :
  Calls Tryz.prog 136 #[.pointer (some ⟨bb, 0, none⟩)] w fun e w' => e = .returned (.string l) ∧ Below g w w' ∧ ∀ k, k < w.heap.size → k ≠ g → w'.heap[k]? = w.heap[k]? := by
 have L := Tryz.lays156
 have X := Tryz.Builder_Extra_156
 have hll : l.data.toList.length = l.size := by rw [Array.length_toList]; rfl
 have hne : l.data.toList ≠ [] := fun e => by rw [e] at hll; simp at hll; omega
 have c1 : ∀ w1 : World, w1.heap = w.heap → w1.cell? ⟨bb, 1, none⟩ = some (.slice (some ⟨g, 0, none⟩) l.size c.size) := fun w1 h => by simp [World.cell?, h, hbk]
 have hSD : ∀ w1 : World, w1.heap = w.heap → (Builtin.unsafeSliceData_ #[75] 251 #[.slice (some ⟨g, 0, none⟩) l.size c.size]).run Tryz.prog w1 = .ok (.pointer (some ⟨g, 0, none⟩)) w1 := fun w1 h =>
  Lib.run_unsafeSliceData_row _ _ _ _ _ _ (by omega)
 have hUS : ∀ w1 : World, w1.heap = w.heap → (Builtin.unsafeString_ #[251, 3] 9 #[.pointer (some ⟨g, 0, none⟩), .int .i64 l.size]).run Tryz.prog w1 = .ok (.string l) (w1.freeze ⟨g, 0, none⟩ l.size) := fun w1 h => by
  have := Lib.run_unsafeString_row (P := Tryz.prog) w1 251 3 9 5 Tryz.underlying251 X.cellsByte g c.size (by simp [World.shape?, h, hg]) l.data.toList hne (by omega) (by unfold maxLen at hm; omega) ?_
  ·rw [hll] at this
   simpa using this
  ·intro j x hx
   have hj := (List.getElem?_eq_some_iff.1 hx).1
   have h3 : (c.toList.take l.size)[j]? = (Lib.byteCells l.data.toList)[j]? := by rw [hc]
   rw [List.getElem?_take_of_lt (by omega)] at h3
   simp only [Lib.byteCells, List.getElem?_map, hx, Option.map_some, Array.getElem?_toList] at h3
   have ea : (⟨g, 0, none⟩ : Addr).add j = ⟨g, j, none⟩ := by
    unfold Addr.add
    split
    ·rename_i e; rw [e]
    ·simp
   rw [ea]
   simp [World.cell?, h, hg, h3]
 have c1 := c1 w.drew rfl
 have hSD := hSD w.drew rfl
 have hUS := hUS w.drew rfl
 have mixed : Tryz.prog.follows Departure.mixedOrders = true := L.mixed
 go_enter Tryz.func136, Tryz.ntmps136
 go_wp2
 go_region_o
 all_goals (go_wp2; go_ret; exact ⟨rfl, Lib.below_freeze (Below.drew (Below.refl g w)) (p := ⟨g, 0, none⟩) (Nat.le_refl _) _, fun k hk hne => freeze_oth (w1 := w.drew) hne⟩)
end Go.Lt.P10

namespace Go.Lt.P10
open Go Go.Lt Go.Proofs Go.RowKit
/-! ### strings.Builder over the abstract heap -/
def wsP (b : Nat) (s : ByteArray) (H : Hp) : Option (AV × Hp) :=
 match H.get b with
 | some (.bld none _) => if 1 ≤ s.size ∧ s.size ≤ 16777216 then some (.tup [.int .i64 s.size, .niliface], ((H.set b .dead).push (.buf s)).set b (.bld (some H.n) s.size)) else none
 | some (.bld (some q) len) => match H.get q with
  | some (.buf l) => if len = l.size ∧ 1 ≤ s.size ∧ l.size + s.size ≤ 16777216 ∧ b ≠ q then some (.tup [.int .i64 s.size, .niliface], (((H.set q .dead).set b .dead).push (.buf (l ++ s))).set b (.bld (some H.n) (l.size + s.size))) else none
  | _ => none
 | _ => none
def strP (b : Nat) (H : Hp) : Option (AV × Hp) :=
 match H.get b with
 | some (.bld (some q) len) => match H.get q with
  | some (.buf l) => if len = l.size ∧ 1 ≤ l.size ∧ b ≠ q then some (.str l, (H.set q .dead).set b .dead) else none
  | _ => none
 | _ => none
theorem tup2 {m : Nat → Loc} {n : Nat} {a b : AV} {x y : Value} (h1 : RV m n a x) (h2 : RV m n b y) : RV m n (.tup [a, b]) (.tuple #[x, y]) := .tup _ _ rfl fun i h h' => by
 match i, h with
 | 0, _ => exact h1
 | 1, _ => exact h2
theorem strCells_app (l s : ByteArray) : Lib.strCells l ++ Lib.strCells s = Lib.strCells (l ++ s) := by simp [Lib.strCells]
theorem Inv.kill {B : Kp} {w0 w : World} {m : Nat → Loc} {H : Hp} (hi : Inv B w0 m H w) {b : Nat} {k0 : Blk} (hg : H.get b = some k0) : Inv B w0 m (H.set b .dead) w where
 below := hi.below
 glob := hi.glob
 hB := hi.hB
 rel := fun b' k h => by
  by_cases e : b' = b
  ·subst e
   rw [Hp.get_set_same H _ (Hp.get_lt hg)] at h
   injection h with h
   subst h
   trivial
  ·rw [Hp.get_set_other H _ e] at h
   rw [Hp.n_set]
   exact hi.rel b' k h
 hid := hi.hidSet hg (fun h => by cases h)
 excl := fun b1 b2 k1 k2 hne h1 h2 ho hl => by
  by_cases e1 : b1 = b
  ·subst e1
   rw [Hp.get_set_same H _ (Hp.get_lt hg)] at h1
   injection h1 with h1
   subst h1
   cases ho
  ·by_cases e2 : b2 = b
   ·subst e2
    rw [Hp.get_set_same H _ (Hp.get_lt hg)] at h2
    injection h2 with h2
    subst h2
    cases hl
   ·rw [Hp.get_set_other H _ e1] at h1
    rw [Hp.get_set_other H _ e2] at h2
    exact hi.excl b1 b2 k1 k2 hne h1 h2 ho hl
theorem Inv.turn {B : Kp} {w0 w w' : World} {m : Nat → Loc} {H : Hp} (hi : Inv B w0 m H w) (hb : Keep (fun k => B k) w w') (h : ∀ b k, H.get b = some k → k.live = true → w'.heap[(m b).blk]? = w.heap[(m b).blk]?) : Inv B w0 m H w' where
 below := hi.below.trans hb
 glob := hi.glob
 hB := fun k hk => Nat.lt_of_lt_of_le (hi.hB k hk) hb.size
 rel := fun b k hg => by
  by_cases hl : k.live = true
  ·exact (hi.rel b k hg).mono (.refl _ _) (Nat.le_refl _) (Hp.get_lt hg) (fun _ => h b k hg hl)
  ·cases k <;> simp_all [Blk.live, BlkRel]
 hid := hi.hid
 excl := hi.excl
theorem Inv.adopt {B : Kp} {w0 w : World} {m : Nat → Loc} {H : Hp} (hi : Inv B w0 m H w) (k : Blk) (l : Loc) (hk : BlkRel B (newLoc H m l) (H.n + 1) w H.n k) (hx : ¬ B.x l.blk)
  (hfr : ∀ b k', H.get b = some k' → k'.live = true → (m b).blk ≠ l.blk) : Inv B w0 (newLoc H m l) (H.push k) w where
 below := hi.below
 glob := hi.glob
 hB := hi.hB
 rel := fun b k' h => by
  rw [Hp.get_push] at h
  by_cases e : b = H.n
  ·subst e
   rw [if_pos rfl] at h
   cases h
   exact hk
  ·rw [if_neg e] at h
   exact (hi.rel b k' h).mono (newLoc_ext H m l) (by simp) (Hp.get_lt h) (fun _ => rfl)
 hid := fun b k' h h2 => by
  rw [Hp.get_push] at h
  by_cases e : b = H.n
  ·subst e
   rw [newLoc_new]
   exact hx
  ·rw [if_neg e] at h
   rw [newLoc_old (Hp.get_lt h)]
   exact hi.hid b k' h h2
 excl := fun b b' k1 k2 hne h1 h2 ho hl2 => by
  rw [Hp.get_push] at h1 h2
  by_cases e : b = H.n
  ·rw [if_neg (by omega)] at h2
   subst e
   rw [newLoc_new, newLoc_old (Hp.get_lt h2)]
   exact (hfr b' k2 h2 hl2).symm
  ·rw [if_neg e] at h1
   by_cases e' : b' = H.n
   ·subst e'
    rw [newLoc_new, newLoc_old (Hp.get_lt h1)]
    exact hfr b k1 h1 (owned_live ho)
   ·rw [if_neg e'] at h2
    rw [newLoc_old (Hp.get_lt h1), newLoc_old (Hp.get_lt h2)]
    exact hi.excl b b' k1 k2 hne h1 h2 ho hl2
theorem Inv.wake {B : Kp} {w0 w : World} {m : Nat → Loc} {H : Hp} (hi : Inv B w0 m H w) {b : Nat} {k : Blk} (hg : b < H.n) (hk : BlkRel B m H.n w b k) (hx : ¬ B.x (m b).blk)
  (hfr : ∀ b' k', b' ≠ b → H.get b' = some k' → k'.live = true → (m b').blk ≠ (m b).blk) : Inv B w0 m (H.set b k) w where
 below := hi.below
 glob := hi.glob
 hB := hi.hB
 rel := fun b' k' h => by
  rw [Hp.n_set]
  by_cases e : b' = b
  ·subst e
   rw [Hp.get_set_same H _ hg] at h
   injection h with h
   subst h
   exact hk
  ·rw [Hp.get_set_other H _ e] at h
   exact hi.rel b' k' h
 hid := fun b' k' h h2 => by
  by_cases e : b' = b
  ·subst e; exact hx
  ·rw [Hp.get_set_other H _ e] at h
   exact hi.hid b' k' h h2
 excl := fun b1 b2 k1 k2 hne h1 h2 ho hl => by
  by_cases e1 : b1 = b
  ·subst e1
   rw [Hp.get_set_other H _ (Ne.symm hne)] at h2
   exact (hfr b2 k2 (Ne.symm hne) h2 hl).symm
  ·rw [Hp.get_set_other H _ e1] at h1
   by_cases e2 : b2 = b
   ·subst e2
    exact hfr b1 k1 e1 h1 (owned_live ho)
   ·rw [Hp.get_set_other H _ e2] at h2
    exact hi.excl b1 b2 k1 k2 hne h1 h2 ho hl
theorem ws_post {w : World} {bb : Nat} {p v : Value} {n : Nat} {xs : List Value} {s : ByteArray} (hbk : w.heap[bb]? = some (.cells #[p, v] 184 (0, 0))) (hp : p = .pointer none ∨ p = .pointer (some ⟨bb, 0, none⟩))
  (hv : w.ownsRow 0 5 1 v n xs) (hne : v.ownBlock ≠ some bb) (h1 : 1 ≤ s.size) (h2 : n + s.size ≤ 16777216) :
  Calls Tryz.prog 131 #[.pointer (some ⟨bb, 0, none⟩), .string s] w fun e w' => e = .returned (.tuple #[.int .i64 s.size, .nilIface]) ∧ ∃ g c, w'.heap[bb]? = some (.cells #[.pointer (some ⟨bb, 0, none⟩), .slice (some ⟨g, 0, none⟩) (n + s.size) c.size] 184 (0, 0)) ∧
   g ≠ bb ∧ w'.heap[g]? = some (.cells c 5 (0, 0)) ∧ n + s.size ≤ c.size ∧ c.size ≤ maxLen ∧ c.toList.take (n + s.size) = xs ++ Lib.strCells s ∧ (v.ownBlock = some g ∨ w.heap.size ≤ g) ∧
   w'.os = w.os ∧ w'.tape = w.tape ∧ w'.output = w.output ∧ w.heap.size ≤ w'.heap.size ∧ ∀ k, k < w.heap.size → k ≠ bb → some k ≠ v.ownBlock → w'.heap[k]? = w.heap[k]? := by
 refine (ws_walk hbk hp hv hne h1 h2).mono ?_
 rintro e w' ⟨rfl, g, cap, w2, ho, hg, hgo, rfl⟩
 have hlt : bb < w.heap.size := (Array.getElem?_eq_some_iff.1 hbk).1
 have hgb : g ≠ bb := by
  rcases hgo with h | h
  ·intro e; subst e; exact hne h
  ·omega
 rcases ho.2 with ⟨hx, _⟩ | ⟨g', cap', c, hx, _, hc1, hc2, hc3, hc4, hc5⟩
 ·cases hx
 injection hx with hx1 hx2 hx3
 injection hx1 with hx1
 injection hx1 with hx1
 subst hx1; subst hx3
 have hcs : c.size = cap := by omega
 have hb1 : (w.setCell ⟨bb, 0, none⟩ (.pointer (some ⟨bb, 0, none⟩))).heap[bb]? = some (.cells #[.pointer (some ⟨bb, 0, none⟩), v] 184 (0, 0)) := by simp [World.setCell, Array.getElem?_modify, hbk]
 have hs1 : (w.setCell ⟨bb, 0, none⟩ (.pointer (some ⟨bb, 0, none⟩))).heap.size = w.heap.size := by simp [World.setCell]
 have hb2 : w2.heap[bb]? = some (.cells #[.pointer (some ⟨bb, 0, none⟩), v] 184 (0, 0)) := by
  rw [hg.block bb (by omega) (fun e => hne e.symm)]; exact hb1
 refine ⟨rfl, g, c, by simp [World.setCell, Array.getElem?_modify, hb2, hcs], hgb, ?_, by omega, by omega, by simpa using hc5, hgo, hg.os, hg.tape, hg.output, ?_, fun k hk hkb hko => ?_⟩
 ·rw [Below.heap_setCell _ _ _ _ hgb]; exact hc1
 ·have := hg.size
  simp only [World.setCell, Array.size_modify] at this ⊢
  exact this
 ·rw [Below.heap_setCell _ _ _ _ hkb, hg.block k (by omega) hko, Below.heap_setCell _ _ _ _ hkb]
end Go.Lt.P10

namespace Go.Lt.P10
open Go Go.Lt Go.Proofs Go.RowKit
theorem ptr0 {m : Nat → Loc} {n b : Nat} {v : Value} (h : RV m n (.ptr b 0) v) (hs : (m b).sh = 0) : b < n ∧ v = .pointer (some ⟨(m b).blk, 0, none⟩) := by
 obtain ⟨h1, h2⟩ := h.ptr_inv
 rw [hs] at h2
 exact ⟨h1, h2⟩
theorem ws_done {B : Kp} {w0 w w' : World} {m : Nat → Loc} {H : Hp} {b g : Nat} {c : Array Value} {l : ByteArray} {n0 : Nat} (hi : Inv B w0 m H w) (hn : H.n = n0) (hb : b < H.n) (hbd : H.get b = some .dead) (hsh : (m b).sh = 0) (hBb : ¬ B (m b).blk) (hBg : ¬ B g)
  (hlb : ∀ b' k', H.get b' = some k' → k'.live = true → (m b').blk ≠ (m b).blk) (hlg : ∀ b' k', H.get b' = some k' → k'.live = true → (m b').blk ≠ g)
  (h1 : w'.heap[(m b).blk]? = some (.cells #[.pointer (some ⟨(m b).blk, 0, none⟩), .slice (some ⟨g, 0, none⟩) l.size c.size] 184 (0, 0))) (hgb : g ≠ (m b).blk) (h2 : w'.heap[g]? = some (.cells c 5 (0, 0))) (h3 : l.size ≤ c.size) (h4 : c.size ≤ maxLen) (h5 : c.toList.take l.size = Lib.strCells l)
  (k1 : w'.os = w.os) (k2 : w'.tape = w.tape) (k3 : w'.output = w.output) (k4 : w.heap.size ≤ w'.heap.size) (k5 : ∀ k, (B k ∨ ∃ b' k', H.get b' = some k' ∧ k'.live = true ∧ k = (m b').blk) → w'.heap[k]? = w.heap[k]?) :
  Inv B w0 (newLoc H m ⟨g, 0, c.size⟩) ((H.push (.buf l)).set b (.bld (some n0) l.size)) w' := by
 subst hn
 have hi1 : Inv B w0 m H w' := Inv.turn hi ⟨k1, k2, k3, k4, fun k hk => k5 k (.inl hk)⟩ fun b' k' hg hl => k5 _ (.inr ⟨b', k', hg, hl, rfl⟩)
 have hbuf : BlkRel B (newLoc H m ⟨g, 0, c.size⟩) (H.n + 1) w' H.n (.buf l) := by
  unfold BlkRel
  rw [newLoc_new]
  exact ⟨c, h2, rfl, h3, h4, hBg, h5⟩
 have hi2 := Inv.adopt hi1 (.buf l) ⟨g, 0, c.size⟩ hbuf (fun hx => hBg (B.sub _ hx)) hlg
 have em : newLoc H m ⟨g, 0, c.size⟩ b = m b := newLoc_old hb
 refine Inv.wake hi2 (b := b) (by simp; omega) ?_ (by rw [em]; exact fun hx => hBb (B.sub _ hx)) fun b' k' hne hg hl => ?_
 ·unfold BlkRel
  rw [em]
  refine ⟨_, _, h1, hsh, hBb, .inr rfl, .inr ⟨H.n, rfl, by simp, ?_⟩⟩
  rw [newLoc_new]
 ·rw [em]
  rw [Hp.get_push] at hg
  by_cases e : b' = H.n
  ·subst e
   rw [newLoc_new]
   exact hgb
  ·rw [if_neg e] at hg
   rw [newLoc_old (Hp.get_lt hg)]
   exact hlb b' k' hg hl
theorem wsSim {b : Nat} {s : ByteArray} {H : Hp} {v : AV} {H1 : Hp} (h : wsP b s H = some (v, H1)) : CallSim Tryz.prog 131 [.ptr b 0, .str s] H v H1 := by
 unfold wsP at h
 split at h
 ·rename_i len hg
  split at h
  case isFalse => cases h
  rename_i hs
  injection h with h
  injection h with e1 e2
  subst e1; subst e2
  refine ⟨by simp, fun B w0 m w args' hr hi => ?_⟩
  obtain ⟨v1, r1, e1, g1, hr1⟩ := hr.cons_inv
  obtain ⟨v2, r2, e2, g2, hr2⟩ := hr1.cons_inv
  have e0 := hr2.nil_inv
  obtain ⟨p, v, hbk, hsh, hBb, hp, hq⟩ := hi.rel b _ hg
  obtain ⟨hb, rfl⟩ := ptr0 g1 hsh
  rw [e2, e0, g2.str_inv] at e1
  have hargs : args' = #[.pointer (some ⟨(m b).blk, 0, none⟩), .string s] := by rw [← Array.toList_inj, e1]
  subst hargs
  obtain ⟨_, rfl, rfl⟩ : (none : Option Nat) = none ∧ len = 0 ∧ v = .slice none 0 0 := by
   rcases hq with hq | ⟨g, hq, _⟩
   ·exact hq
   ·cases hq
  refine (ws_post (w := w) hbk hp (World.ownsRow_nil w 0 5 1) (by simp [Value.ownBlock]) hs.1 (by omega)).mono ?_
  rintro e w' ⟨rfl, g, c, h1, hgb, h2, h3, h4, h5, hgo, k1, k2, k3, k4, k5⟩
  have hgo : w.heap.size ≤ g := by
   rcases hgo with hgo | hgo
   ·simp [Value.ownBlock] at hgo
   ·exact hgo
  rw [Nat.zero_add] at h1 h3 h5
  have hi0 := Inv.kill hi hg
  have hlt : b < (H.set b .dead).n := by simpa using hb
  have hbd := Hp.get_set_same H .dead hb
  have hlb : ∀ b' k', (H.set b .dead).get b' = some k' → k'.live = true → (m b').blk ≠ (m b).blk := fun b' k' hg' hl => by
   by_cases e : b' = b
   ·subst e; rw [hbd] at hg'; injection hg' with hg'; subst hg'; cases hl
   ·rw [Hp.get_set_other H _ e] at hg'
    exact (hi.excl b b' _ _ (Ne.symm e) hg hg' rfl hl).symm
  refine ⟨_, newLoc (H.set b .dead) m ⟨g, 0, c.size⟩, rfl, ?_, tup2 (.int _ _) .niliface, ?_⟩
  ·have := newLoc_ext (H.set b .dead) m ⟨g, 0, c.size⟩
   simpa using this
  ·refine ws_done hi0 (by simp) hlt hbd hsh hBb (hi.fresh hgo) (fun b' k' hg' hl => ?_) (fun b' k' hg' hl => ?_) h1 hgb h2 h3 h4 (by simpa using h5) k1 k2 k3 k4 fun k hk => ?_
   ·exact hlb b' k' hg' hl
   ·have := hi0.blk_lt hg' hl
    omega
   ·rcases hk with hk | ⟨b', k', hg', hl, rfl⟩
    ·exact k5 k (hi.hB k hk) (fun e => hBb (e ▸ hk)) (by simp [Value.ownBlock])
    ·exact k5 _ (hi0.blk_lt hg' hl) (hlb b' k' hg' hl) (by simp [Value.ownBlock])
 ·rename_i q len hg
  split at h
  case h_2 => cases h
  rename_i l hgq
  split at h
  case isFalse => cases h
  rename_i hs
  obtain ⟨rfl, hs1, hs2, hbq⟩ := hs
  injection h with h
  injection h with e1 e2
  subst e1; subst e2
  refine ⟨by simp, fun B w0 m w args' hr hi => ?_⟩
  obtain ⟨v1, r1, e1, g1, hr1⟩ := hr.cons_inv
  obtain ⟨v2, r2, e2, g2, hr2⟩ := hr1.cons_inv
  have e0 := hr2.nil_inv
  obtain ⟨p, v, hbk, hsh, hBb, hp, hq⟩ := hi.rel b _ hg
  obtain ⟨hb, rfl⟩ := ptr0 g1 hsh
  rw [e2, e0, g2.str_inv] at e1
  have hargs : args' = #[.pointer (some ⟨(m b).blk, 0, none⟩), .string s] := by rw [← Array.toList_inj, e1]
  subst hargs
  obtain ⟨g0, hq0, hqn, rfl⟩ : ∃ g, some q = some g ∧ g < H.n ∧ v = .slice (some ⟨(m g).blk, 0, none⟩) l.size (m g).sz := by
   rcases hq with ⟨hq, _⟩ | hq
   ·cases hq
   ·exact hq
  injection hq0 with hq0
  subst hq0
  obtain ⟨c0, hc0, hcs, hcl, hcm, hBq, hct⟩ := hi.rel q _ hgq
  have hex : (m b).blk ≠ (m q).blk := hi.excl b q _ _ hbq hg hgq rfl rfl
  have hown : w.ownsRow 0 5 1 (.slice (some ⟨(m q).blk, 0, none⟩) l.size (m q).sz) l.size (Lib.strCells l) := ⟨by rw [Lib.strCells_length, Nat.mul_one], .inr ⟨_, _, c0, rfl, Nat.zero_le _, hc0, by omega, by omega, by omega, by rw [Nat.mul_one]; exact hct⟩⟩
  refine (ws_post (w := w) hbk hp hown (by simp only [Value.ownBlock]; intro e; injection e with e; exact hex e.symm) hs1 hs2).mono ?_
  rintro e w' ⟨rfl, g, c, h1, hgb, h2, h3, h4, h5, hgo, k1, k2, k3, k4, k5⟩
  have hlsz : (l ++ s).size = l.size + s.size := ByteArray.size_append ..
  have hi0 := Inv.kill (Inv.kill hi hgq) (by rw [Hp.get_set_other H _ hbq]; exact hg)
  have hlt : b < ((H.set q .dead).set b .dead).n := by simpa using hb
  have hbd := Hp.get_set_same (H.set q .dead) .dead (b := b) (by simpa using hb)
  have hold : ∀ b' k', ((H.set q .dead).set b .dead).get b' = some k' → k'.live = true → b' ≠ b ∧ b' ≠ q ∧ H.get b' = some k' := fun b' k' hg' hl => by
   have hb1 : b' ≠ b := fun e => by subst e; rw [hbd] at hg'; injection hg' with hg'; subst hg'; cases hl
   rw [Hp.get_set_other _ _ hb1] at hg'
   have hb2 : b' ≠ q := fun e => by subst e; rw [Hp.get_set_same H _ (Hp.get_lt hgq)] at hg'; injection hg' with hg'; subst hg'; cases hl
   rw [Hp.get_set_other _ _ hb2] at hg'
   exact ⟨hb1, hb2, hg'⟩
  have hgo : g = (m q).blk ∨ w.heap.size ≤ g := by
   rcases hgo with hgo | hgo
   ·simp only [Value.ownBlock, Option.some.injEq] at hgo; exact .inl hgo.symm
   ·exact .inr hgo
  refine ⟨_, newLoc ((H.set q .dead).set b .dead) m ⟨g, 0, c.size⟩, rfl, ?_, tup2 (.int _ _) .niliface, ?_⟩
  ·have := newLoc_ext ((H.set q .dead).set b .dead) m ⟨g, 0, c.size⟩
   simpa using this
  ·rw [← hlsz] at h1 h3 h5 ⊢
   refine ws_done (g := g) hi0 (by simp) hlt hbd hsh hBb ?_ (fun b' k' hg' hl => ?_) (fun b' k' hg' hl => ?_) h1 hgb h2 h3 h4 (by rw [h5, strCells_app]) k1 k2 k3 k4 fun k hk => ?_
   ·rcases hgo with rfl | hgo
    ·exact hBq
    ·exact hi.fresh hgo
   ·obtain ⟨n1, n2, hg'⟩ := hold b' k' hg' hl
    exact (hi.excl b b' _ _ (Ne.symm n1) hg hg' rfl hl).symm
   ·have hbl := hi0.blk_lt hg' hl
    obtain ⟨n1, n2, hg'⟩ := hold b' k' hg' hl
    rcases hgo with rfl | hgo
    ·exact (hi.excl q b' _ _ (Ne.symm n2) hgq hg' rfl hl).symm
    ·omega
   ·rcases hk with hk | ⟨b', k', hg', hl, rfl⟩
    ·exact k5 k (hi.hB k hk) (fun e => hBb (e ▸ hk)) (by simp only [Value.ownBlock]; intro e; injection e with e; exact hBq (e ▸ hk))
    ·have hbl := hi0.blk_lt hg' hl
     obtain ⟨n1, n2, hg'⟩ := hold b' k' hg' hl
     exact k5 _ hbl (hi.excl b b' _ _ (Ne.symm n1) hg hg' rfl hl).symm (by simp only [Value.ownBlock]; intro e; injection e with e; exact hi.excl q b' _ _ (Ne.symm n2) hgq hg' rfl hl e.symm)
 ·cases h
theorem strSim {b : Nat} {H : Hp} {v : AV} {H1 : Hp} (h : strP b H = some (v, H1)) : CallSim Tryz.prog 136 [.ptr b 0] H v H1 := by
 unfold strP at h
 split at h
 case h_2 => cases h
 rename_i q len hg
 split at h
 case h_2 => cases h
 rename_i l hgq
 split at h
 case isFalse => cases h
 rename_i hs
 obtain ⟨rfl, hs1, hbq⟩ := hs
 injection h with h
 injection h with e1 e2
 subst e1; subst e2
 refine ⟨by simp, fun B w0 m w args' hr hi => ?_⟩
 obtain ⟨v1, r1, e1, g1, hr1⟩ := hr.cons_inv
 have e0 := hr1.nil_inv
 obtain ⟨p, v, hbk, hsh, hBb, hp, hq⟩ := hi.rel b _ hg
 obtain ⟨hb, rfl⟩ := ptr0 g1 hsh
 rw [e0] at e1
 have hargs : args' = #[.pointer (some ⟨(m b).blk, 0, none⟩)] := by rw [← Array.toList_inj, e1]
 subst hargs
 obtain ⟨g0, hq0, hqn, rfl⟩ : ∃ g, some q = some g ∧ g < H.n ∧ v = .slice (some ⟨(m g).blk, 0, none⟩) l.size (m g).sz := by
  rcases hq with ⟨hq, _⟩ | hq
  ·cases hq
  ·exact hq
 injection hq0 with hq0
 subst hq0
 obtain ⟨c0, hc0, hcs, hcl, hcm, hBq, hct⟩ := hi.rel q _ hgq
 rw [← hcs] at hbk
 refine (str_walk hbk hc0 hs1 hcl hcm hct).mono ?_
 rintro e w' ⟨rfl, hbel, hk⟩
 have hi0 := Inv.kill (Inv.kill hi hgq) (b := b) (by rw [Hp.get_set_other H _ hbq]; exact hg)
 refine ⟨_, m, rfl, .refl _ _, .str _, Inv.turn hi0 ⟨hbel.os, hbel.tape, hbel.output, hbel.size, fun k hB => hk k (hi.hB k hB) (fun e => hBq (e ▸ hB))⟩ fun b' k' hg' hl => ?_⟩
 have hbl := hi0.blk_lt hg' hl
 have hb1 : b' ≠ b := fun e => by subst e; rw [Hp.get_set_same _ _ (by simpa using hb)] at hg'; injection hg' with hg'; subst hg'; cases hl
 rw [Hp.get_set_other _ _ hb1] at hg'
 have hb2 : b' ≠ q := fun e => by subst e; rw [Hp.get_set_same H _ (Hp.get_lt hgq)] at hg'; injection hg' with hg'; subst hg'; cases hl
 rw [Hp.get_set_other _ _ hb2] at hg'
 exact hk _ hbl (hi.excl q b' _ _ (Ne.symm hb2) hgq hg' rfl hl).symm
end Go.Lt.P10

namespace Go.Proofs
open Go.Shelf
def Tryz.lays160_ren : Go.Shelf.Ren := ⟨fun | 160 => 244 | 232 => 302 | 231 => 301 | 227 => 303 | 234 => 305 | 233 => 304 | 236 => 307 | 235 => 306 | 228 => 339 | 271 => 341 | 151 => 340 | 197 => 191 | 120 => 358 | 152 => 357 | 260 => 245 | 137 => 369 | 119 => 370 | 224 => 248 | 225 => 247 | 217 => 246 | 266 => 308 | n => n, fun | 9 => 9 | 4 => 4 | 3 => 3 | 5 => 5 | 117 => 351 | 116 => 350 | 0 => 0 | 124 => 354 | 21 => 21 | 105 => 252 | 46 => 46 | 119 => 355 | 139 => 358 | 138 => 357 | n => n, fun | 3 => 4 | 4 => 5 | n => n⟩
theorem Tryz.lays160 : Go.Proofs.Lays.n160 Tryz.prog Tryz.lays160_ren := {
 mixed := by kernel_rfl
 f119 := Tryz.func370.trans (congrArg some (by kernel_rfl))
 f120 := Tryz.func358.trans (congrArg some (by kernel_rfl))
 f137 := Tryz.func369.trans (congrArg some (by kernel_rfl))
 f151 := Tryz.func340.trans (congrArg some (by kernel_rfl))
 f152 := Tryz.func357.trans (congrArg some (by kernel_rfl))
 f160 := Tryz.func244.trans (congrArg some (by kernel_rfl))
 f197 := Tryz.func191.trans (congrArg some (by kernel_rfl))
 f217 := Tryz.func246.trans (congrArg some (by kernel_rfl))
 f224 := Tryz.func248.trans (congrArg some (by kernel_rfl))
 f225 := Tryz.func247.trans (congrArg some (by kernel_rfl))
 f227 := Tryz.func303.trans (congrArg some (by kernel_rfl))
 f228 := Tryz.func339.trans (congrArg some (by kernel_rfl))
 f231 := Tryz.func301.trans (congrArg some (by kernel_rfl))
 f232 := Tryz.func302.trans (congrArg some (by kernel_rfl))
 f233 := Tryz.func304.trans (congrArg some (by kernel_rfl))
 f234 := Tryz.func305.trans (congrArg some (by kernel_rfl))
 f235 := Tryz.func306.trans (congrArg some (by kernel_rfl))
 f236 := Tryz.func307.trans (congrArg some (by kernel_rfl))
 f260 := Tryz.func245.trans (congrArg some (by kernel_rfl))
 f266 := Tryz.func308.trans (congrArg some (by kernel_rfl))
 f271 := Tryz.func341.trans (congrArg some (by kernel_rfl))
 t0 := Tryz.underlying0
 a0 := Tryz.isAgg0
 z0 := Tryz.sizeOf0
 v0 := Tryz.zeroValue0
 t3 := Tryz.underlying3
 a3 := Tryz.isAgg3
 z3 := Tryz.sizeOf3
 v3 := Tryz.zeroValue3
 t4 := Tryz.underlying4
 a4 := Tryz.isAgg4
 z4 := Tryz.sizeOf4
 v4 := Tryz.zeroValue4
 t5 := Tryz.underlying5
 a5 := Tryz.isAgg5
 z5 := Tryz.sizeOf5
 v5 := Tryz.zeroValue5
 t9 := Tryz.underlying9
 a9 := Tryz.isAgg9
 z9 := Tryz.sizeOf9
 v9 := Tryz.zeroValue9
 t21 := Tryz.underlying21
 a21 := Tryz.isAgg21
 z21 := Tryz.sizeOf21
 v21 := Tryz.zeroValue21
 t46 := Tryz.underlying46
 a46 := Tryz.isAgg46
 z46 := Tryz.sizeOf46
 v46 := Tryz.zeroValue46
 t105 := Tryz.underlying252
 a105 := Tryz.isAgg252
 z105 := Tryz.sizeOf252
 v105 := Tryz.zeroValue252
 t116 := Tryz.underlying350
 a116 := Tryz.isAgg350
 z116 := Tryz.sizeOf350
 t117 := Tryz.underlying351
 a117 := Tryz.isAgg351
 z117 := Tryz.sizeOf351
 v117 := Tryz.zeroValue351
 t119 := Tryz.underlying355
 a119 := Tryz.isAgg355
 z119 := Tryz.sizeOf355
 t124 := Tryz.underlying354
 a124 := Tryz.isAgg354
 z124 := Tryz.sizeOf354
 v124 := Tryz.zeroValue354
 t138 := Tryz.underlying357
 a138 := Tryz.isAgg357
 z138 := Tryz.sizeOf357
 v138 := Tryz.zeroValue357
 t139 := Tryz.underlying358
 a139 := Tryz.isAgg358
 z139 := Tryz.sizeOf358
 v139 := Tryz.zeroValue358
 g3 := by kernel_rfl
 g4 := by kernel_rfl }
end Go.Proofs

namespace Go.Lt.P10
open Go Go.Lt Go.Proofs
def trimA (s c : ByteArray) : ByteArray := ⟨(Lib.trimS s.data.toList c.data.toList).toArray⟩
def trimP (s c : ByteArray) (H : Hp) : Option (AV × Hp) := if s.size ≤ 9223372036854775807 ∧ c.size < 1000 ∧ c.data.toList.all (fun b => decide (b.toNat < 128)) = true then some (.str (trimA s c), H) else none
theorem trimSim {s c : ByteArray} {H : Hp} {v : AV} {H1 : Hp} (h : trimP s c H = some (v, H1)) : CallSim Tryz.prog 244 [.str s, .str c] H v H1 := by
 unfold trimP at h
 split at h
 case isFalse => cases h
 rename_i hb
 injection h with h
 injection h with h1 h2
 subst h1; subst h2
 refine ⟨Nat.le_refl _, fun B w0 m w args' hr hi => ?_⟩
 obtain ⟨v1, r1, e1, g1, hr1⟩ := hr.cons_inv
 obtain ⟨v2, r2, e2, g2, hr2⟩ := hr1.cons_inv
 have e0 := hr2.nil_inv
 rw [e2, e0, g1.str_inv, g2.str_inv] at e1
 have hargs : args' = #[.string s, .string c] := by rw [← Array.toList_inj, e1]
 subst hargs
 refine (Any.strings_Trim_laid Tryz.lays160 (by kernel_rfl) s c w hb.1 (by omega) (ascii_of_all hb.2.2)).mono fun e w1 he => ?_
 obtain ⟨rfl, hbel⟩ := he
 exact ⟨_, m, rfl, .refl _ _, .str _, hi.keepAll ⟨hbel.os, hbel.tape, hbel.output, hbel.size, hbel.block⟩⟩
theorem ok244 : FnOk Tryz.prog 244 := ⟨⟨Tryz.f244, Tryz.func244, by kernel_rfl, rfl⟩⟩
def asStrs : List AV → Option (List ByteArray)
 | [] => some []
 | .str s :: l => (asStrs l).map (s :: ·)
 | _ => none
def joinA (xs : List ByteArray) (sep : ByteArray) : ByteArray := ⟨(Lib.join (xs.map (·.data.toList)) sep.data.toList).toArray⟩
def joinP (s : Sl) (sep : ByteArray) (H : Hp) : Option (AV × Hp) :=
 (H.lds s.b s.o s.len).bind fun l => (asStrs l).bind fun xs =>
  if xs.length ≤ 140737488355328 ∧ (joinA xs sep).size ≤ 140737488355328 then some (.str (joinA xs sep), H) else none
theorem asStrs_get : ∀ {l : List AV} {xs : List ByteArray}, asStrs l = some xs → l = xs.map .str
 | [], xs, h => by simp [asStrs] at h; subst h; rfl
 | .str s :: l, xs, h => by
  simp only [asStrs, Option.map_eq_some_iff] at h
  obtain ⟨ys, h, rfl⟩ := h
  rw [asStrs_get h]; rfl
 | .undef :: _, _, h => by simp [asStrs] at h
 | .bool _ :: _, _, h => by simp [asStrs] at h
 | .int _ _ :: _, _, h => by simp [asStrs] at h
 | .ptr _ _ :: _, _, h => by simp [asStrs] at h
 | .nilptr :: _, _, h => by simp [asStrs] at h
 | .sl _ :: _, _, h => by simp [asStrs] at h
 | .map _ :: _, _, h => by simp [asStrs] at h
 | .nilmap :: _, _, h => by simp [asStrs] at h
 | .fn _ _ _ :: _, _, h => by simp [asStrs] at h
 | .yld _ :: _, _, h => by simp [asStrs] at h
 | .nilfn :: _, _, h => by simp [asStrs] at h
 | .iface _ _ :: _, _, h => by simp [asStrs] at h
 | .niliface :: _, _, h => by simp [asStrs] at h
 | .agg _ :: _, _, h => by simp [asStrs] at h
 | .tup _ :: _, _, h => by simp [asStrs] at h
 | .gptr _ :: _, _, h => by simp [asStrs] at h
theorem Below.keep {w w' : World} (h : RowKit.Below w.heap.size w w') : Keep (Kp.all w) w w' := ⟨h.os, h.tape, h.output, h.size, h.block⟩
theorem joinSim {s : Sl} {sep : ByteArray} {H : Hp} {v : AV} {H1 : Hp} (h : joinP s sep H = some (v, H1)) : CallSim Tryz.prog 109 [.sl s, .str sep] H v H1 := by
 unfold joinP at h
 obtain ⟨l, hl, h⟩ := Option.bind_eq_some_iff.1 h
 obtain ⟨xs, hx, h⟩ := Option.bind_eq_some_iff.1 h
 split at h
 case isFalse => cases h
 rename_i hb
 injection h with h
 injection h with h1 h2
 subst h1; subst h2
 refine ⟨Nat.le_refl _, fun B w0 m w args' hr hi => ?_⟩
 obtain ⟨v1, r1, e1, g1, hr1⟩ := hr.cons_inv
 obtain ⟨v2, r2, e2, g2, hr2⟩ := hr1.cons_inv
 have e0 := hr2.nil_inv
 rw [e2, e0, g2.str_inv] at e1
 have hargs : args' = #[v1, .string sep] := by rw [← Array.toList_inj, e1]
 subst hargs
 have hle : xs.length = s.len := by
  have := (lds_get hl).1
  rw [asStrs_get hx] at this
  simpa using this
 have nil : ∀ a c, v1 = .slice a 0 c → s.len = 0 → Calls Tryz.prog 109 #[v1, .string sep] w fun e w' => ∃ v' m', e = .returned v' ∧ Ext H.n m m' ∧ RV m' H.n (.str (joinA xs sep)) v' ∧ Inv B w0 m' H w' := by
  intro a c hv h0
  subst hv
  refine (Tryz.strings_Join_none a c sep w).mono fun e w1 he => ?_
  obtain ⟨rfl, rfl⟩ := he
  have : xs = [] := List.length_eq_zero_iff.1 (by omega)
  subst this
  exact ⟨_, m, rfl, .refl _ _, .str _, hi⟩
 rcases g1.sl_inv with ⟨rfl, e⟩ | ⟨a, hn, _, h0, _, e⟩ | ⟨cap', hn, hbn, hlc, hcc, _, _, e⟩
 ·exact nil _ _ e rfl
 ·exact nil _ _ e h0
 by_cases h0 : s.len = 0
 ·rw [h0] at e; exact nil _ _ e h0
 obtain ⟨us, hlen, hc, hv⟩ := hi.lds Tryz.prog hl
 subst e
 rw [← hle]
 refine (Tryz.strings_Join (m s.b).blk ((m s.b).sh + s.o) cap' xs sep w (fun j x hj => ?_) ?_ hb.1 (by omega) (by simpa [joinA, ByteArray.size] using hb.2)).mono fun e w1 he => ?_
 ·have hj1 : j < xs.length := (List.getElem?_eq_some_iff.1 hj).1
  have hj2 := (List.getElem?_eq_some_iff.1 hj).2
  have hj3 : j < us.length := by omega
  rw [hc j hj3]
  have hj4 : j < l.length := by rw [asStrs_get hx]; simpa using hj1
  have hv2 := hv.2 j hj4 hj3
  have : l[j] = .str x := by
   have e2 := asStrs_get hx
   simp only [e2, List.getElem_map, hj2]
  rw [this] at hv2
  rw [hv2.str_inv]
 ·have h1 : 0 < us.length := by omega
  have := hc 0 h1
  unfold World.cell? at this
  simp only at this
  by_cases hlt : (m s.b).blk < w.heap.size
  ·exact hlt
  ·rw [Array.getElem?_eq_none (by omega)] at this
   simp at this
 ·obtain ⟨rfl, hbel⟩ := he
  exact ⟨_, m, rfl, .refl _ _, .str _, hi.keepAll (Below.keep hbel)⟩
def itoaA (n : Int) : ByteArray := ⟨(Lib.itoa n).toArray⟩
def itoaP (n : Int) (H : Hp) : Option (AV × Hp) := if -9223372036854775808 ≤ n ∧ n ≤ 9223372036854775807 then some (.str (itoaA n), H) else none
theorem itoaSim {n : Int} {H : Hp} {v : AV} {H1 : Hp} (h : itoaP n H = some (v, H1)) : CallSim Tryz.prog 33 [.int .i64 n] H v H1 := by
 unfold itoaP at h
 split at h
 case isFalse => cases h
 rename_i hb
 injection h with h
 injection h with h1 h2
 subst h1; subst h2
 refine ⟨Nat.le_refl _, fun B w0 m w args' hr hi => ?_⟩
 obtain ⟨v1, r1, e1, g1, hr1⟩ := hr.cons_inv
 have e0 := hr1.nil_inv
 rw [e0, g1.int_inv] at e1
 have hargs : args' = #[.int .i64 n] := by rw [← Array.toList_inj, e1]
 subst hargs
 have htab : Lib.TabIs Tryz.prog w "internal/strconv.uint64pow10" .u64 Lib.pow10Tab := by
  obtain ⟨hB, cs, e, fr, hp, hh⟩ := hi.glob 2 _ (.head _)
  have hw : w.heap[2]? = some (.cells cs e fr) := by rw [hi.below.block 2 hB]; exact hh
  unfold Lib.TabIs World.var?
  rw [show Tryz.prog.globalNamed "internal/strconv.uint64pow10" = some 2 by kernel_rfl, Option.bind_some, hw]
  simp only
  rw [hp]
 refine (Tryz.strconv_Itoa n hb.1 hb.2 w htab).mono fun e w1 he => ?_
 obtain ⟨rfl, k, os, rfl⟩ := he
 refine ⟨_, m, rfl, .refl _ _, .str _, hi.keepAll ⟨rfl, rfl, rfl, by simp [Go.Sort.grow, World.drewN], fun i hi => ?_⟩⟩
 have hi : i < w.heap.size := hi
 simp [Go.Sort.grow, World.drewN, Array.getElem?_append, hi]
def atoiV (s : ByteArray) : AV := match Lib.atoiAll s.data.toList with
 | .ok v => .tup [.int .i64 v, .niliface]
 | .syntax => .tup [.int .i64 0, .iface 208 .undef]
 | .range => .tup [.int .i64 (Lib.atoiSat s.data.toList), .iface 208 .undef]
def atoiP (s : ByteArray) (H : Hp) : Option (AV × Hp) := if s.size ≤ 281474976710656 then some (atoiV s, H) else none
theorem errCell {B : Kp} {w0 w : World} {m : Nat → Loc} {H : Hp} (hi : Inv B w0 m H w) {g : Nat} (hg : (g, fun cs => ∃ t p, cs = #[Value.iface t p]) ∈ glbs) : ∃ t p, w.cell? ⟨g, 0, none⟩ = some (.iface t p) := by
 obtain ⟨hB, cs, e, fr, ⟨t, p, hp⟩, hh⟩ := hi.glob g _ hg
 have hw : w.heap[g]? = some (.cells cs e fr) := by rw [hi.below.block g hB]; exact hh
 refine ⟨t, p, ?_⟩
 simp [World.cell?, hw, hp]
theorem atoiSim {s : ByteArray} {H : Hp} {v : AV} {H1 : Hp} (h : atoiP s H = some (v, H1)) : CallSim Tryz.prog 53 [.str s] H v H1 := by
 unfold atoiP at h
 split at h
 case isFalse => cases h
 rename_i hb
 injection h with h
 injection h with h1 h2
 subst h1; subst h2
 refine ⟨Nat.le_refl _, fun B w0 m w args' hr hi => ?_⟩
 obtain ⟨v1, r1, e1, g1, hr1⟩ := hr.cons_inv
 have e0 := hr1.nil_inv
 rw [e0, g1.str_inv] at e1
 have hargs : args' = #[.string s] := by rw [← Array.toList_inj, e1]
 subst hargs
 have tup2 : ∀ (a b : AV) (x y : Value), RV m H.n a x → RV m H.n b y → RV m H.n (.tup [a, b]) (.tuple #[x, y]) := fun a b x y h1 h2 => .tup _ _ rfl fun i h h' => by
  match i, h with
  | 0, _ => exact h1
  | 1, _ => exact h2
 unfold atoiV
 cases ha : Lib.atoiAll s.data.toList with
 | ok v =>
  refine (Tryz.strconv_Atoi_ok s (by omega) v ha w).mono fun e w1 he => ?_
  obtain ⟨rfl, he⟩ := he
  refine ⟨_, m, rfl, .refl _ _, tup2 _ _ _ _ (.int _ _) .niliface, ?_⟩
  rcases he with rfl | ⟨t, rfl⟩
  ·exact hi
  ·exact hi.keepAll ⟨rfl, rfl, rfl, by rw [Lib.bytesWorld_size]; omega, fun i h => Lib.bytesWorld_at_old _ _ _ _ h⟩
 | «syntax» =>
  obtain ⟨t, p, hc⟩ := errCell hi (g := 0) (.tail _ (.head _))
  refine (Tryz.strconv_Atoi_syntax s hb ha _ w hc (.inr ⟨t, p, rfl⟩)).mono fun e w1 he => ?_
  obtain ⟨N, rfl, _, _, hbel⟩ := he
  exact ⟨_, m, rfl, .refl _ _, tup2 _ _ _ _ (.int _ _) (.iface _ _ _ (.undef _)), hi.keepAll (Below.keep hbel)⟩
 | range =>
  obtain ⟨t, p, hc⟩ := errCell hi (g := 1) (.tail _ (.tail _ (.head _)))
  refine (Tryz.strconv_Atoi_range s hb ha _ w hc (.inr ⟨t, p, rfl⟩)).mono fun e w1 he => ?_
  obtain ⟨N, rfl, _, _, hbel⟩ := he
  exact ⟨_, m, rfl, .refl _ _, tup2 _ _ _ _ (.int _ _) (.iface _ _ _ (.undef _)), hi.keepAll (Below.keep hbel)⟩
theorem ok109 : FnOk Tryz.prog 109 := ⟨⟨Tryz.f109, Tryz.func109, by kernel_rfl, rfl⟩⟩
theorem ok33 : FnOk Tryz.prog 33 := ⟨⟨Tryz.f33, Tryz.func33, by kernel_rfl, rfl⟩⟩
theorem ok131 : FnOk Tryz.prog 131 := ⟨⟨Tryz.f131, Tryz.func131, by kernel_rfl, rfl⟩⟩
theorem ok136 : FnOk Tryz.prog 136 := ⟨⟨Tryz.f136, Tryz.func136, by kernel_rfl, rfl⟩⟩
theorem ok53 : FnOk Tryz.prog 53 := ⟨⟨Tryz.f53, Tryz.func53, by kernel_rfl, rfl⟩⟩
noncomputable def told (a : App) : App := ⟨fun f xs H => match f, xs with
 | 109, [.sl s, .str sep] => joinP s sep H
 | 33, [.int .i64 n] => itoaP n H
 | 53, [.str s] => atoiP s H
 | 131, [.ptr b 0, .str s] => wsP b s H
 | 136, [.ptr b 0] => strP b H
 | 244, [.str s, .str c] => trimP s c H
 | f, xs => a.call f xs H, a.yld⟩
theorem toldSim {a : App} (h : AppSim Tryz.prog a) : AppSim Tryz.prog (told a) := by
 refine ⟨fun f xs H v H1 hc => ?_, h.2⟩
 simp only [told] at hc
 split at hc
 ·exact ⟨ok109, joinSim hc⟩
 ·exact ⟨ok33, itoaSim hc⟩
 ·exact ⟨ok53, atoiSim hc⟩
 ·exact ⟨ok131, wsSim hc⟩
 ·exact ⟨ok136, strSim hc⟩
 ·exact ⟨ok244, trimSim hc⟩
 ·exact h.1 _ _ _ _ _ hc
/-! ### words of a line -/
def sp : ByteArray := ByteArray.mk #[32]
theorem strIdx_cases (s : ByteArray) (c : Int) : strIdx s c = -1 ∨ ∃ i : Nat, strIdx s c = i ∧ i < s.size := by
 unfold strIdx
 split
 ·rename_i i h
  exact .inr ⟨i, rfl, List.mem_range.1 (List.mem_of_find?_eq_some h)⟩
 ·exact .inl rfl
theorem strCnt_eq (s : ByteArray) (c : Int) : ∃ k : Nat, strCnt s c = k ∧ k ≤ s.size := by
 unfold strCnt
 rw [Lib.foldl_data, show ((0 : Nat) : Int) = 0 from rfl, Lib.count_foldl]
 refine ⟨_, by rw [Int.zero_add], ?_⟩
 unfold Lib.countByte
 have := List.count_le_length (a := c.toNat.toUInt8) (l := s.data.toList)
 simpa using this
def wordsN : Nat → ByteArray → List ByteArray
 | 0, s => [s]
 | k + 1, s => if strIdx s 32 < 0 then [s] else s.extract 0 (strIdx s 32).toNat :: wordsN k (s.extract ((strIdx s 32).toNat + 1) s.size)
def words (s : ByteArray) : List ByteArray := wordsN (strCnt s 32).toNat s
theorem wordsN_len : ∀ k s, 1 ≤ (wordsN k s).length ∧ (wordsN k s).length ≤ k + 1
 | 0, _ => ⟨Nat.le_refl _, Nat.le_refl _⟩
 | k + 1, s => by
  unfold wordsN
  split
  ·simp
  ·have := wordsN_len k (s.extract ((strIdx s 32).toNat + 1) s.size)
   simp only [List.length_cons]; omega
theorem words_len (s : ByteArray) : 1 ≤ (words s).length ∧ (words s).length ≤ s.size + 1 := by
 obtain ⟨k, hk, hs⟩ := strCnt_eq s 32
 unfold words
 rw [hk]
 have := wordsN_len k s
 simp only [Int.toNat_natCast]; omega
def wordS (s : ByteArray) : ByteArray := if 0 ≤ strIdx s 32 then s.extract 0 (strIdx s 32).toNat else s
def isLineS (s : ByteArray) : Bool := decide (s.size ≤ 60) && (!(words s).any fun w => strEq (ByteArray.mk #[]) w) && s.data.toList.all fun c => decide (32 ≤ c.toNat ∧ c.toNat ≤ 126)
theorem width_pos (s : ByteArray) (pos : Nat) (h : pos < s.size) : 1 ≤ (Utf8.decode s pos).2 := by
 by_cases ha : (s[pos]'h).toNat < 128
 ·rw [decode_ascii s pos h ha]
  exact Nat.le_refl _
 ·exact (decode_high s pos h (by omega)).2
def nameF (w : ByteArray) : Nat → Nat → Bool
 | 0, _ => false
 | k + 1, p => if p < w.size then if ((Utf8.decode w p).1 : Int) < 97 then false else if 122 < ((Utf8.decode w p).1 : Int) then false else nameF w k (p + (Utf8.decode w p).2)
  else if strEq w (ByteArray.mk #[]) = true then false else decide ((w.size : Int) ≤ 8)
def isNameS (w : ByteArray) : Bool := nameF w (w.size + 1) 0
def numS (w : ByteArray) : Option Int := match Lib.atoiAll w.data.toList with
 | .ok v => if 0 ≤ v ∧ w.size ≤ 3 ∧ strEq (itoaA v) w = true then some v else none
 | _ => none
def parseS : List UInt8 → List ByteArray → Option (List ByteArray × List Int)
 | f :: fs, x :: xs => if f = 110 then if isNameS x = true then (parseS fs xs).map fun p => (x :: p.1, p.2) else none
  else (numS x).bind fun n => (parseS fs xs).map fun p => (p.1, n :: p.2)
 | _, _ => some ([], [])
def readS (form text : ByteArray) : Option (List ByteArray × List Int) :=
 if (words text).tail.length = form.size ∧ isLineS text = true then parseS form.data.toList (words text).tail else none

/-! ### states -/
structure St where
 leaves : List (ByteArray × Int)
 orders : List Int
 t0 : Int
 t1 : Int
 t2 : Int
 t3 : Int
 offers : List (Int × Int)
def St.new : St := ⟨[], [], 0, 0, 0, 0, []⟩
def St.find (s : St) (name : ByteArray) : Option Nat := s.leaves.findIdx? fun l => strEq l.1 name
abbrev Act := Int ⊕ St
def leafS (s : St) (name : ByteArray) (n : Int) : Act :=
 if (s.find name).isSome then .inl 5 else if 20 < n then .inl 2 else if s.leaves.length = 6 then .inl 7 else .inr { s with leaves := s.leaves ++ [(name, n)] }
def stock (s : St) (i : Nat) : Int := (s.leaves.getD i (ByteArray.mk #[], 0)).2
def setStock (s : St) (i : Nat) (n : Int) : St := { s with leaves := s.leaves.modify i fun l => (l.1, n) }
def giveS (s : St) (a b : ByteArray) (n : Int) : Act :=
 match s.find a, s.find b with
 | some i, some j => if i ≠ j ∧ 1 ≤ n ∧ n ≤ 20 ∧ 2 * n ≤ stock s i - stock s j then .inr (setStock (setStock s i (stock s i - n)) j (stock s j + n)) else .inl 5
 | _, _ => .inl 4
def orderS (s : St) (a : ByteArray) : Act :=
 match s.find a with
 | none => .inl 4
 | some i => if stock s i = 0 then .inl 5 else if s.orders.length = 40 then .inl 7 else .inr { setStock s i (stock s i - 1) with orders := s.orders ++ [(i : Int)] }
def tasteS (s : St) (i j : Int) : Act :=
 if 1 < i ∨ 1 < j then .inl 2 else if s.t0 + s.t1 + (s.t2 + s.t3) = 16 then .inl 7
 else .inr (if i = 0 then if j = 0 then { s with t0 := s.t0 + 1 } else { s with t1 := s.t1 + 1 } else if j = 0 then { s with t2 := s.t2 + 1 } else { s with t3 := s.t3 + 1 })
def offerS (s : St) (i j : Int) : Act :=
 if (i, j) ∈ s.offers then .inl 5 else if 30 < i ∨ 30 < j then .inl 2 else if s.offers.length = 8 then .inl 7 else .inr { s with offers := s.offers ++ [(i, j)] }
def wLeaf : ByteArray := ByteArray.mk #[108, 101, 97, 102]
def wGive : ByteArray := ByteArray.mk #[103, 105, 118, 101]
def wOrder : ByteArray := ByteArray.mk #[111, 114, 100, 101, 114]
def wTaste : ByteArray := ByteArray.mk #[116, 97, 115, 116, 101]
def wOffer : ByteArray := ByteArray.mk #[111, 102, 102, 101, 114]
def fND : ByteArray := ByteArray.mk #[110, 100]
def fNND : ByteArray := ByteArray.mk #[110, 110, 100]
def fN : ByteArray := ByteArray.mk #[110]
def fDD : ByteArray := ByteArray.mk #[100, 100]
def actS (s : St) (w text : ByteArray) (form : ByteArray) (f : St → List ByteArray × List Int → Act) : Act × ByteArray :=
 match readS form text with
 | none => (.inl 3, ByteArray.mk #[])
 | some p => match f s p with
  | .inl e => (.inl e, ByteArray.mk #[])
  | .inr t => (.inr t, w)
def fLeaf (s : St) : List ByteArray × List Int → Act
 | ([a], [n]) => leafS s a n
 | _ => .inl 3
def fGive (s : St) : List ByteArray × List Int → Act
 | ([a, b], [n]) => giveS s a b n
 | _ => .inl 3
def fOrder (s : St) : List ByteArray × List Int → Act
 | ([a], []) => orderS s a
 | _ => .inl 3
def fTaste (s : St) : List ByteArray × List Int → Act
 | ([], [i, j]) => tasteS s i j
 | _ => .inl 3
def fOffer (s : St) : List ByteArray × List Int → Act
 | ([], [i, j]) => offerS s i j
 | _ => .inl 3
def doS (s : St) (text : ByteArray) : Act × ByteArray :=
 if strEq (wordS text) wLeaf = true then actS s (wordS text) text fND fLeaf
 else if strEq (wordS text) wGive = true then actS s (wordS text) text fNND fGive
 else if strEq (wordS text) wOrder = true then actS s (wordS text) text fN fOrder
 else if strEq (wordS text) wTaste = true then actS s (wordS text) text fDD fTaste
 else if strEq (wordS text) wOffer = true then actS s (wordS text) text fDD fOffer
 else (.inl 3, ByteArray.mk #[])
theorem is {α β : Type} {x : Option (α × Hp)} {a : α} {H : Hp} {f : α × Hp → Option (β × Hp)} {Q : β → Hp → Prop} (h : x = some (a, H)) (k : Ok (f (a, H)) Q) : Ok (x.bind f) Q := by rw [h]; exact k
theorem strIdx_self (c : UInt8) : strIdx (ByteArray.mk #[c]) (c.toNat : Int) = 0 := by
 unfold strIdx
 have h1 : (ByteArray.mk #[c])[0]! = c := rfl
 have : (List.range (ByteArray.mk #[c]).size).find? (fun i => (ByteArray.mk #[c])[i]! == ((c.toNat : Int)).toNat.toUInt8) = some 0 := by
  rw [show List.range (ByteArray.mk #[c]).size = [0] from rfl, List.find?_cons]
  simp [h1]
 rw [this]; rfl
theorem bt_sp : bt sp 0 = 32 := by decide +kernel
theorem strEq_iff {a b : ByteArray} : strEq a b = true ↔ a = b := by
 unfold strEq
 rw [beq_iff_eq]
 constructor
 ·intro h
  have := Array.toList_inj.1 h
  cases a; cases b; simpa using this
 ·rintro rfl; rfl
theorem r193_sp (s : ByteArray) (H : Hp) : r193 s sp H = some (strIdx s 32, H) := by
 unfold r193
 rw [if_neg (show ¬ (sp.size : Int) = 0 by decide +kernel)]
 unfold r193_j0
 have h1 : (sp.size : Int) = 1 := by decide +kernel
 cases he : strEq sp s with
 | true =>
  rw [if_pos rfl]
  have := strEq_iff.1 he
  subst this
  have h2 : strIdx sp 32 = 0 := strIdx_self 32
  rw [h2]
 | false =>
  rw [if_neg (by simp), if_pos h1, ck, if_pos (by rw [h1]; decide), bt_sp]
  rfl
theorem r146_sp (s : ByteArray) (H : Hp) : r146 s sp H = some (strIdx s 32, H) := by
 unfold r146; rw [r193_sp]; rfl
theorem r152_sp (s : ByteArray) (H : Hp) (hs : s.size ≤ 4194304) : ∃ r, r152 s sp H = some ((wordS s, r), H) := by
 unfold r152
 rw [r193_sp]
 simp only [Option.bind_some]
 unfold wordS
 rcases strIdx_cases s 32 with h | ⟨i, h, hi⟩
 ·rw [h]; exact ⟨_, rfl⟩
 ·rw [h]
  have h1 : sp.size = 1 := by decide +kernel
  have hw : w64 ((i : Int) + (sp.size : Int)) = ((i + 1 : Nat) : Int) := by rw [h1]; exact w64_succ (by omega)
  rw [hw, if_pos (by omega), if_pos (by omega), ck, if_pos (by omega), ck, if_pos (by omega)]
  exact ⟨_, rfl⟩
theorem r97_sp (s : ByteArray) (H : Hp) (hs : s.size ≤ 4194304) : ∃ r, r97 s sp H = some ((wordS s, r), H) := by
 obtain ⟨r, h⟩ := r152_sp s H hs
 unfold r97
 rw [h]
 exact ⟨_, rfl⟩
theorem SL.of_pre {T : Type} [El T] {H : Hp} {v : Sl} {l : List T} {r cs : List AV} {ro : Bool} (h : H.get v.b = some (.cells cs ro)) (hc : cs.take (l.length * El.sz T) = encs l) (ho : v.o = 0) (hl : v.len = l.length) (hcp : v.len ≤ v.cap) (hp : v.opn = 0 ∨ v.opn = El.sz T) (hn : v.nil = false) : SL H v l := by
 refine ⟨⟨by rw [encs_len, hl], lds_of_get fun i hi => ?_⟩, hcp, hp, fun e => by rw [hn] at e; cases e⟩
 rw [ld_of_get h, ho, Nat.zero_add]
 have h2 : (encs l)[i]? = (cs.take (l.length * El.sz T))[i]? := by rw [hc]
 rw [encs_len] at hi
 rw [List.getElem?_take_of_lt hi] at h2
 rw [← h2, List.getElem?_eq_getElem]
theorem SL.ldStr {T : Type} [El T] {H : Hp} {v : Sl} {l : List T} (h : SL H v l) {i j : Nat} {n : ByteArray} (hi : i < l.length) (e : (El.enc l[i])[j]? = some (.str n)) : H.ldStr v.b (v.o + i * El.sz T + j) = some n := by
 simp [Hp.ldStr, SL.ld h hi e, AV.asStr]
theorem r88_j2_ok {H : Hp} {v1 : ByteArray} {v2 : Sl} {i N : Nat} {cs : List AV} {done : List ByteArray} (h2 : v2 = ⟨false, v2.b, 0, N, N, 0⟩) (hg : H.get v2.b = some (.cells cs false)) (hl : cs.length = N) (hi : i < N) (hN : N ≤ 4194305)
  (ht : cs.take i = encs done) (hd : done.length = i) :
  Ok (r88_j2 v1 v2 (i : Int) H) fun v H' => SL H' v (done ++ [v1]) ∧ v.nil = false ∧ v.b = v2.b ∧ H'.n = H.n ∧ ∀ b, b ≠ v2.b → H'.get b = H.get b := by
 unfold r88_j2
 have hln : v2.len = N := by rw [h2]
 have hcp : v2.cap = N := by rw [h2]
 have hop : v2.opn = 0 := by rw [h2]
 have ho : v2.o = 0 := by rw [h2]
 have hnil : v2.nil = false := by rw [h2]
 refine Ok.ck (by omega) ?_
 rw [ho]
 refine Ok.st hg (by simp; omega) fun H' e hg' => ?_
 subst e
 have hw : w64 ((i : Int) + 1) = ((i + 1 : Nat) : Int) := w64_succ (by omega)
 rw [hw]
 refine Ok.ck (by rw [hcp, hop]; simp; omega) (Ok.ret ?_)
 simp only [Int.toNat_zero, Int.toNat_natCast, Nat.zero_add, Nat.mul_one] at hg' ⊢
 have hcut : v2.cut 1 0 (i + 1) = ⟨false, v2.b, 0, i + 1, N, 0⟩ := by rw [h2]; simp [Sl.cut]
 rw [hcut]
 refine ⟨SL.of_pre (r := []) hg' ?_ rfl (by simp; omega) (by show i + 1 ≤ N; omega) (.inl rfl) rfl, rfl, rfl, by simp, fun b hb => Hp.get_set_other _ _ hb⟩
 rw [encs_append, encs_one, List.length_append, hd]
 show ((cs.set i (.str v1)).take ((i + 1) * 1)) = _
 rw [Nat.mul_one, List.take_succ_eq_append_getElem (by simp; omega), List.getElem_set_self, List.take_set_of_le (Nat.le_refl _), ht]
 rfl
theorem r88_l0_ok {H0 H : Hp} {v5 : Sl} {s0 : ByteArray} {N : Nat} (h5 : v5 = ⟨false, v5.b, 0, N, N, 0⟩) (hN1 : 1 ≤ N) (hN : N ≤ 4194305) (hs0 : s0.size ≤ 4194304) {cs : List AV} (hg : H.get v5.b = some (.cells cs false)) (hl : cs.length = N) :
  Ok (r88_l0 FUEL s0 sp 0 ((N - 1 : Nat) : Int) v5 0 H) fun v H' => SL H' v (wordsN (N - 1) s0) ∧ v.nil = false ∧ v.b = v5.b ∧ H'.n = H.n ∧ ∀ b, b ≠ v5.b → H'.get b = H.get b := by
 have hln : v5.len = N := by rw [h5]
 have hcp : v5.cap = N := by rw [h5]
 have hop : v5.opn = 0 := by rw [h5]
 have ho : v5.o = 0 := by rw [h5]
 refine Ok.loop (L := fun K (s : ByteArray × Int) H => r88_l0 K s.1 sp 0 ((N - 1 : Nat) : Int) v5 s.2 H) (fun m s A => ∃ (i : Nat) (done : List ByteArray) (cs : List AV), s.2 = (i : Int) ∧ i + m = N - 1 ∧ s.1.size ≤ 4194304 ∧ A.get v5.b = some (.cells cs false) ∧ cs.length = N ∧ cs.take i = encs done ∧ done.length = i ∧ wordsN (N - 1) s0 = done ++ wordsN m s.1 ∧ A.n = H.n ∧ ∀ b, b ≠ v5.b → A.get b = H.get b) ?_ FUEL (N - 1) (s0, 0) H (by unfold FUEL; omega) ⟨0, [], cs, rfl, by omega, hs0, hg, hl, rfl, rfl, rfl, rfl, fun _ _ => rfl⟩
 rintro K m ⟨s, i'⟩ A ⟨i, done, cs, hi, him, hsz, hgA, hlA, ht, hd, hw, hn, hoth⟩ ih
 dsimp only at *
 subst hi
 rw [r88_l0]
 refine Ok.ite (fun hlt => ?_) fun hlt => ?_
 ·have hlt' : i < N - 1 := by omega
  refine is (r146_sp s A) ?_
  obtain ⟨m', rfl⟩ : ∃ m', m = m' + 1 := ⟨m - 1, by omega⟩
  refine Ok.ite (fun hneg => ?_) fun hneg => ?_
  ·refine (r88_j2_ok h5 hgA hlA (by omega) hN ht hd).mono fun v H' ⟨a, b, c, d, e⟩ => ⟨?_, b, c, by omega, fun x hx => by rw [e x hx, hoth x hx]⟩
   rw [hw]
   have : wordsN (m' + 1) s = [s] := by unfold wordsN; rw [if_pos hneg]
   rw [this]; exact a
  ·dsimp only at hneg ⊢
   rcases strIdx_cases s 32 with h | ⟨j, h, hj⟩
   ·rw [h] at hneg; exact absurd hneg (by decide)
   ·rw [h]
    have h1 : sp.size = 1 := by decide +kernel
    have hw0 : w64 ((j : Int) + 0) = (j : Int) := by rw [w64_id (by omega) (by omega)]; omega
    have hw1 : w64 ((j : Int) + (sp.size : Int)) = ((j + 1 : Nat) : Int) := by rw [h1]; exact w64_succ (by omega)
    rw [hw0, hw1]
    refine Ok.ck (by omega) (Ok.ck (by omega) ?_)
    rw [ho]
    refine Ok.st hgA (by simp; omega) fun H' e hg' => ?_
    refine Ok.ck (by omega) ?_
    rw [w64_succ (show i < 9223372036854775807 by omega)]
    simp only [Int.toNat_zero, Int.toNat_natCast, Nat.zero_add, Nat.mul_one] at hg' ⊢
    refine ih m' (s.extract (j + 1) s.size, ((i + 1 : Nat) : Int)) H' (by omega) ⟨i + 1, done ++ [s.extract 0 j], _, rfl, by omega, ?_, hg', by simp; omega, ?_, by simp [hd], ?_, by rw [e]; simp; omega, fun b hb => by rw [e, Hp.get_set_other _ _ hb, hoth b hb]⟩
    ·simp [ByteArray.size_extract]; omega
    ·rw [encs_append, encs_one, List.take_succ_eq_append_getElem (by simp; omega), List.getElem_set_self, List.take_set_of_le (Nat.le_refl _), ht]
     rfl
    ·rw [hw]
     have : wordsN (m' + 1) s = s.extract 0 j :: wordsN m' (s.extract (j + 1) s.size) := by
      conv => lhs; unfold wordsN
      rw [if_neg (by omega), h]; rfl
     rw [this]; simp
 ·have : i = N - 1 := by omega
  have hm : m = 0 := by omega
  subst hm
  refine (r88_j2_ok h5 hgA hlA (by omega) hN ht hd).mono fun v H' ⟨a, b, c, d, e⟩ => ⟨?_, b, c, by omega, fun x hx => by rw [e x hx, hoth x hx]⟩
  rw [hw]; exact a
theorem r52_ok {H : Hp} {s : ByteArray} (hs : s.size ≤ 4194304) : Ok (r52 s sp H) fun v H' => SL H' v (words s) ∧ v.nil = false ∧ v.b = H.n ∧ Gr H H' := by
 unfold r52 r88
 rw [if_neg (by decide), if_neg (by decide +kernel), if_pos (by decide)]
 unfold r145
 rw [if_neg (show ¬ (sp.size : Int) = 0 by decide +kernel), if_pos (show (sp.size : Int) = 1 by decide +kernel), ck, if_pos (by decide +kernel), bt_sp]
 simp only [Option.bind_some]
 obtain ⟨k, hk, hks⟩ := strCnt_eq s 32
 rw [hk, w64_succ (by omega)]
 unfold r88_j1
 have e1 : (if (w64 ((s.size : Int) + 1)) < ((k + 1 : Nat) : Int) then (w64 ((s.size : Int) + 1)) else ((k + 1 : Nat) : Int)) = ((k + 1 : Nat) : Int) := by
  rw [w64_succ (by omega), if_neg (by omega)]
 rw [e1]
 refine Ok.bind (P := fun v H' => SL H' v (words s) ∧ v.nil = false ∧ v.b = H.n ∧ Gr H H') ?_ fun v H' h => Ok.ret h
 refine Ok.ck (by omega) (Ok.lt ?_)
 simp only [Int.toNat_natCast, Nat.mul_one]
 have e2 : w64 (((k + 1 : Nat) : Int) - 1) = ((k + 1 - 1 : Nat) : Int) := by rw [w64_id (by omega) (by omega)]; omega
 rw [e2]
 refine (r88_l0_ok (H0 := H) (v5 := ⟨false, H.n, 0, k + 1, k + 1, 0⟩) rfl (by omega) (by omega) hs (Hp.get_push_new _ _) (by rw [zerosA_len])).mono fun v H' ⟨a, b, c, d, e⟩ => ⟨?_, b, c, ⟨by rw [d]; simp, fun b hb => by rw [e b (by show b ≠ H.n; omega), Hp.get_push_old _ _ hb]⟩⟩
 have : words s = wordsN (k + 1 - 1) s := by unfold words; rw [hk]; rfl
 rw [this]; exact a
end Go.Lt.P10

set_option maxRecDepth 100000
namespace Go.Lt.P10
open Go Go.Lt Go.Proofs
noncomputable def appJ : Nat → App
 | 0 => ⟨fun _ _ _ => none, fun _ _ _ => none⟩
 | k + 1 => told ⟨disp (appJ k), ydisp (appJ k)⟩
theorem appJSim : ∀ k, AppSim Tryz.prog (appJ k)
 | 0 => ⟨fun f xs H v H1 h => (by cases h), fun l xs H v H1 h => (by cases h)⟩
 | k + 1 => toldSim ⟨dispSim (appJSim k), ydispSim (appJSim k)⟩
theorem awakeH0 : ((r34 (appJ 20) H0).map (·.1)) = some true := by decide +kernel
noncomputable def awk (a : App) : App := ⟨fun f xs H => match f, xs with
 | 34, [] => some (.bool true, H)
 | f, xs => a.call f xs H, a.yld⟩
noncomputable def appA : Nat → App
 | 0 => ⟨fun _ _ _ => none, fun _ _ _ => none⟩
 | k + 1 => awk (told ⟨disp (appA k), ydisp (appA k)⟩)
theorem awk_is {f : FuncId} {o : Option (Bool × Hp)} {H : Hp} {v : AV} {H1 : Hp} (he : o.map (·.1) = some true) (hs : ∀ p, o = some p → CallSim Tryz.prog f [] H0 (.bool p.1) p.2) (hc : some (AV.bool true, H) = some (v, H1)) : CallSim Tryz.prog f [] H v H1 := by
 injection hc with h
 injection h with h1 h2
 subst h1; subst h2
 obtain ⟨p, hp, he⟩ := Option.map_eq_some_iff.1 he
 have := hs p hp
 rw [he] at this
 exact this.own rfl rfl H
theorem awkSim {a : App} (h : AppSim Tryz.prog a) : AppSim Tryz.prog (awk a) := by
 refine ⟨fun f xs H v H1 hc => ?_, h.2⟩
 simp only [awk] at hc
 split at hc
 ·exact ⟨ok34, awk_is awakeH0 (fun p hp => sim34 (happ := appJSim 20) hp) hc⟩
 ·exact h.1 _ _ _ _ _ hc
theorem appASim : ∀ k, AppSim Tryz.prog (appA k)
 | 0 => ⟨fun f xs H v H1 h => (by cases h), fun l xs H v H1 h => (by cases h)⟩
 | k + 1 => awkSim (toldSim ⟨dispSim (appASim k), ydispSim (appASim k)⟩)
theorem app34 (k : Nat) (H : Hp) : appA (k + 1) 34 [] H = some (.bool true, H) := rfl
theorem app33 (k : Nat) (n : Int) (H : Hp) : appA (k + 1) 33 [.int .i64 n] H = itoaP n H := rfl
theorem app53 (k : Nat) (s : ByteArray) (H : Hp) : appA (k + 1) 53 [.str s] H = atoiP s H := rfl
theorem app228 (k : Nat) (x : Int) (H : Hp) : callv (appA (k + 1)) (.fn 228 [] []) [.int .u8 x] H = (r228 x H).map fun p => (.bool p.1, p.2) := rfl
theorem app198 (k : Nat) (s : ByteArray) (n : Int) (b : Nat) (H : Hp) : callv (appA (k + 1)) (.fn 198 [] [.ptr b 0]) [.agg [.str s, .int .i64 n]] H = (r198 s n b H).map fun p => (.bool p.1, p.2) := rfl
def idxI : Option Nat → Int
 | some i => i
 | none => -1
theorem idxI_nonneg {o : Option Nat} : 0 ≤ idxI o ↔ o.isSome = true := by
 cases o <;> simp [idxI]
theorem idx_ok {T : Type} {L : Nat → Int → Hp → Option (Int × Hp)} {H0 : Hp} {l : List T} (p : T → Bool) (hb : l.length ≤ 4294967296)
  (step : ∀ K (i : Nat) H (Q : Int → Hp → Prop) (hi : i < l.length), Gr H0 H → (∀ H', Gr H H' → p l[i] = true → Q (i : Int) H') → (∀ H', Gr H H' → p l[i] = false → Ok (L K ((i + 1 : Nat) : Int) H') Q) → Ok (L (K + 1) (i : Int) H) Q)
  (fin : ∀ K H (Q : Int → Hp → Prop), Gr H0 H → Q (-1) H → Ok (L (K + 1) (l.length : Int) H) Q) :
  Ok (L FUEL 0 H0) fun r H' => Gr H0 H' ∧ r = idxI (l.findIdx? p) := by
 refine Ok.loop (L := fun K (i : Int) H => L K i H) (fun m s A => ∃ i : Nat, s = (i : Int) ∧ i + m = l.length ∧ Gr H0 A ∧ ∀ j (h : j < l.length), j < i → p l[j] = false) ?_ FUEL l.length 0 H0 (by unfold FUEL; omega) ⟨0, rfl, by omega, .refl _, fun j _ h => by omega⟩
 rintro K m s A ⟨i, rfl, him, g, hf⟩ ih
 by_cases hi : i < l.length
 ·refine step K i A _ hi g (fun H' g' hp => ⟨g.trans g', ?_⟩) fun H' g' hp => ih (m - 1) _ H' (by omega) ⟨i + 1, rfl, by omega, g.trans g', fun j h hj => ?_⟩
  ·rw [show l.findIdx? p = some i from List.findIdx?_eq_some_iff_getElem.2 ⟨hi, hp, fun j hj => by rw [hf j (by omega) hj]; simp⟩]
   rfl
  ·by_cases e : j = i
   ·subst e; exact hp
   ·exact hf j h (by omega)
 ·have : i = l.length := by omega
  subst this
  refine fin K A _ g ⟨g, ?_⟩
  rw [show l.findIdx? p = none from List.findIdx?_eq_none_iff.2 fun x hx => by
   obtain ⟨j, hj, rfl⟩ := List.mem_iff_getElem.1 hx
   exact hf j hj hj]
  rfl
instance elU8 : El UInt8 := ⟨1, fun x => [.int .u8 (x.toNat : Int)], fun _ => rfl, fun _ => rfl, by decide⟩
theorem bytes_encs (s : ByteArray) : bytesAV s = encs s.data.toList := by
 unfold bytesAV encs
 generalize s.data.toList = l
 induction l with
 | nil => rfl
 | cons x l ih => rw [List.map_cons, List.flatMap_cons, ih]; rfl
theorem findIdx_any {T : Type} (p : T → Bool) (l : List T) : (l.findIdx? p).isSome = l.any p := by
 induction l with
 | nil => rfl
 | cons x l ih =>
  rw [List.findIdx?_cons, List.any_cons]
  cases hp : p x
  ·simp only [Bool.false_eq_true, if_false, Option.isSome_map, ih, Bool.false_or]
  ·simp
theorem r23_ok {H : Hp} {v : Sl} {l : List ByteArray} (h : SL H v l) (hb : l.length ≤ 4194305) (x : ByteArray) : Ok (r23 v x H) fun r H' => Gr H H' ∧ r = idxI (l.findIdx? fun y => strEq x y) := by
 unfold r23
 have hl := h.len
 refine idx_ok (L := fun K i A => r23_l0 K v x (v.len : Int) i A) (fun y => strEq x y) (by omega) (fun K i A Q hi g k1 k2 => ?_) fun K A Q g k => ?_
 ·rw [r23_l0]
  refine Ok.pos (by omega) (Ok.ck (by omega) ?_)
  refine Ok.ld (SL.ldStr (h.gr g) (i := i) (j := 0) hi rfl) ?_
  rw [w64_succ (by omega)]
  exact Ok.ite (fun h => Ok.ret (k1 A (.refl _) h)) fun h => k2 A (.refl _) (by simpa using h)
 ·rw [r23_l0]
  exact Ok.neg (by omega) (Ok.ret k)
theorem r226_ok {H : Hp} {v : Sl} {l : List ByteArray} (h : SL H v l) (hb : l.length ≤ 4194305) (x : ByteArray) : Ok (r226 v x H) fun r H' => Gr H H' ∧ r = l.any fun y => strEq x y := by
 unfold r226
 refine Ok.bind (r23_ok h hb x) fun r A ⟨g, e⟩ => Ok.ret ⟨g, ?_⟩
 subst e
 rw [← findIdx_any]
 simp only [idxI_nonneg]
 cases (l.findIdx? _).isSome <;> simp
theorem r292_ok {k : Nat} {H : Hp} {v : Sl} {l : List UInt8} (h : SL H v l) (hb : l.length ≤ 4194305) : Ok (r292 (appA (k + 1)) v (.fn 228 [] []) H) fun r H' => Gr H H' ∧ r = idxI (l.findIdx? fun (c : UInt8) => decide (c.toNat < 32 ∨ 126 < c.toNat)) := by
 unfold r292
 have hl := h.len
 refine idx_ok (L := fun K i A => r292_l0 (appA (k + 1)) K v (.fn 228 [] []) (v.len : Int) i A) (fun (c : UInt8) => decide (c.toNat < 32 ∨ 126 < c.toNat)) (by omega) (fun K i A Q hi g k1 k2 => ?_) fun K A Q g k => ?_
 ·rw [r292_l0]
  refine Ok.pos (by omega) (Ok.ck (by omega) ?_)
  have hld : A.ldI .u8 v.b (v.o + ((i : Int)).toNat * 1) = some (l[i].toNat : Int) := by
   have := (h.gr g).ld (i := i) (j := 0) (x := .int .u8 (l[i].toNat : Int)) hi rfl
   simp only [Int.toNat_natCast]
   have e : v.o + i * El.sz UInt8 + 0 = v.o + i * 1 := rfl
   rw [e] at this
   unfold Hp.ldI; rw [this]; rfl
  refine Ok.ld hld ?_
  rw [app228]
  have hr : ∃ b : Bool, r228 (l[i].toNat : Int) A = some (b, A) ∧ b = decide (l[i].toNat < 32 ∨ 126 < l[i].toNat) := by
   unfold r228
   by_cases h32 : (l[i].toNat : Int) < 32
   ·rw [if_pos h32]; exact ⟨true, rfl, by simp; omega⟩
   ·rw [if_neg h32]
    refine ⟨_, rfl, ?_⟩
    rw [decide_eq_decide]; omega
  obtain ⟨b, hr, hbe⟩ := hr
  rw [hr]
  simp only [Option.map_some, Option.bind_some, AV.asB]
  rw [w64_succ (by omega), hbe]
  exact Ok.ite (fun h => Ok.ret (k1 A (.refl _) h)) fun h => k2 A (.refl _) (by simpa using h)
 ·rw [r292_l0]
  exact Ok.neg (by omega) (Ok.ret k)
theorem r164_ok {k : Nat} {H : Hp} {s : ByteArray} (hs : s.size ≤ 4194304) : Ok (r164 (appA (k + 1)) s H) fun r H' => Gr H H' ∧ r = isLineS s := by
 unfold r164
 refine Ok.ite (fun h60 => ?_) fun h60 => Ok.ret ⟨.refl _, ?_⟩
 ·refine Ok.bind (r52_ok hs) fun v A ⟨hv, hn, hvb, g⟩ => ?_
  refine Ok.bind (r226_ok hv (by have := (words_len s).2; omega) _) fun b A2 ⟨g2, hb⟩ => ?_
  dsimp only at hb ⊢
  subst hb
  refine Ok.ite (fun hc => Ok.ret ⟨g.trans g2, ?_⟩) fun hc => ?_
  ·unfold isLineS
   rw [hc]; simp
  ·unfold r227
   have hsl : SL (A2.push (.cells (bytesAV s) false)) ⟨false, A2.n, 0, s.size, s.size, 1⟩ s.data.toList := by
    refine .of_get (ro := false) ?_ rfl ?_ (Nat.le_refl _) (.inr rfl) rfl
    ·rw [← bytes_encs]; exact Hp.get_push_new _ _
    ·rw [Array.length_toList]; rfl
   have hl : s.data.toList.length ≤ 4194305 := by rw [Array.length_toList]; show s.size ≤ _; omega
   refine Ok.bind (P := fun b H' => Gr A2 H' ∧ b = s.data.toList.any fun (c : UInt8) => decide (c.toNat < 32 ∨ 126 < c.toNat)) ?_ fun b A3 ⟨g3, hb⟩ => Ok.ret ⟨(g.trans g2).trans g3, ?_⟩
   ·refine Ok.bind (r292_ok (k := k) hsl hl) fun r A3 ⟨g3, e⟩ => Ok.ret ⟨(Gr.push _ _).trans g3, ?_⟩
    subst e
    rw [← findIdx_any]
    simp only [idxI_nonneg]
    cases (s.data.toList.findIdx? _).isSome <;> simp
   ·dsimp only at hb ⊢
    subst hb
    unfold isLineS
    simp only [Bool.not_eq_true] at hc
    rw [hc, decide_eq_true (show s.size ≤ 60 by omega), Bool.not_false, Bool.true_and, Bool.true_and, List.not_any_eq_all_not]
    congr 1
    funext c
    rw [← decide_not, decide_eq_decide]; omega
 ·unfold isLineS
  rw [decide_eq_false (show ¬ s.size ≤ 60 by omega)]; rfl
end Go.Lt.P10
