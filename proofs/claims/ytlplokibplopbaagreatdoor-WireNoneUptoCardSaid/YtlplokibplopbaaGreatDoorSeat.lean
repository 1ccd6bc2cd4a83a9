/-
 DERIVED: THE SHELF's CONTRACTS AT THIS DUMP, IN PLAIN WORDS (tools/lay-plain.mjs out of 'TryzShelf.lean', which tools/lay-shelf.mjs wrote): THE SAME DECLARATIONS UNDER THE SAME NAMES: 'import', 'namespace', 'open', 'def', 'theorem' AND NOTHING ELSE: no command of the shelf's: FOR A HAND-IN. Each laying: the table of numbers ('.._ren') and one theorem, a field a fact of the dump's own or the kernel's comparison; each contract: ONE APPLICATION.
 Walks in short: a program's steps are taken by evaluation as far as no case parts; one rule for each thing that is left. Over any program.
 Calls in sh
-/
import Derived.Test.YtlplokibplopbaaGreatDoorRune
import Derived.Test.YtlplokibplopbaaGreatDoorTSplit
import Derived.Shelf.Strings.Builder1
import Derived.Shelf.Strings.Builder2
import Derived.Shelf.Strings.OnBuilder
import Derived.Shelf.Strings.Trim
import Derived.Shelf.Small.Utf8
import Derived.Shelf.Small.Strs
import Derived.Shelf.Small.Wraps
import Derived.Shelf.Strconv.Itoa0
import Derived.Shelf.Strconv.Itoa1
import Derived.Shelf.LaysM
import Derived.Shelf.Strconv.Itoa2
import Derived.Shelf.Strconv.Itoa3
import Derived.Shelf.Strconv.Itoa4
import Derived.Shelf.Strings.Search1
import Derived.Shelf.Strings.Search2
import Derived.Shelf.Strings.Search3
import Derived.Shelf.Strings.Cut
import Derived.Shelf.Strings.Count
import Derived.Shelf.Strings.Shaped
import Derived.Shelf.Strings.Prefix
import Derived.Shelf.Strings.Split
import Derived.Shelf.Strings.Replace
import Derived.Shelf.Strings.SplitShaped
import Derived.Shelf.Unicode.Decode
import Derived.Shelf.Strings.Runes
import Derived.Shelf.Strings.RuneCount
import Derived.Shelf.Strings.IndexAny
import Derived.Shelf.Strings.AsciiSet
import Derived.Shelf.Strings.IndexAnyAll
import Derived.Shelf.Strings.Explode
import Derived.Shelf.Unicode.DecodeSlow
import Derived.Shelf.Unicode.DecodeAny
import Derived.Shelf.Unicode.DecodeLast
import Derived.Test.YtlplokibplopbaaGreatDoorProg
import Derived.KernelRfl
import Derived.WalkKit
import Derived.ProofKit
import Derived.JoinedCond
import Derived.SizedLaws
import Derived.Deep.Slices
import Derived.Carry
import Derived.OpenShut
import Derived.ShutString
import Derived.Laws.StructEq
import Derived.Lib.LaidTab
import Derived.Lib.ItoaNum
set_option linter.unusedVariables false
set_option linter.unusedSimpArgs false
section
namespace Go.Proofs
open Go.Shelf
def Tryz.lays156_ren : Go.Shelf.Ren := ⟨fun | 156 => 109 | 165 => 149 | 166 => 150 | 169 => 151 | 240 => 212 | 241 => 213 | 276 => 277 | 277 => 278 | n => n,fun | 31 => 148 | 9 => 9 | 3 => 3 | 4 => 4 | 0 => 0 | 20 => 20 | 72 => 231 | 76 => 234 | 70 => 229 | 37 => 59 | 75 => 233 | 127 => 297 | 164 => 355 | 5 => 5 | 80 => 67 | n => n,fun | n => n⟩
theorem Tryz.lays156 : Go.Proofs.Lays.n156 Tryz.prog Tryz.lays156_ren := {
 mixed := by kernel_rfl
 f156 := Tryz.func109.trans (congrArg some (by kernel_rfl))
 f165 := Tryz.func149.trans (congrArg some (by kernel_rfl))
 f166 := Tryz.func150.trans (congrArg some (by kernel_rfl))
 f169 := Tryz.func151.trans (congrArg some (by kernel_rfl))
 f240 := Tryz.func212.trans (congrArg some (by kernel_rfl))
 f241 := Tryz.func213.trans (congrArg some (by kernel_rfl))
 f276 := Tryz.func277.trans (congrArg some (by kernel_rfl))
 f277 := Tryz.func278.trans (congrArg some (by kernel_rfl))
 t0 := Tryz.underlying0
 a0 := Tryz.isAgg0
 z0 := Tryz.sizeOf0
 v0 := Tryz.zeroValue0
 t3 := Tryz.underlying3
 a3 := Tryz.isAgg3
 z3 := Tryz.sizeOf3
 v3 := Tryz.zeroValue3
 t4 := Tryz.underlying4
 a4 := Tryz.isAgg4
 z4 := Tryz.sizeOf4
 v4 := Tryz.zeroValue4
 t9 := Tryz.underlying9
 a9 := Tryz.isAgg9
 z9 := Tryz.sizeOf9
 v9 := Tryz.zeroValue9
 t20 := Tryz.underlying20
 a20 := Tryz.isAgg20
 z20 := Tryz.sizeOf20
 v20 := Tryz.zeroValue20
 t31 := Tryz.underlying148
 a31 := Tryz.isAgg148
 z31 := Tryz.sizeOf148
 v31 := Tryz.zeroValue148
 t37 := Tryz.underlying59
 a37 := Tryz.isAgg59
 z37 := Tryz.sizeOf59
 v37 := Tryz.zeroValue59
 t70 := Tryz.underlying229
 a70 := Tryz.isAgg229
 z70 := Tryz.sizeOf229
 v70 := Tryz.zeroValue229
 t72 := Tryz.underlying231
 a72 := Tryz.isAgg231
 z72 := Tryz.sizeOf231
 v72 := Tryz.zeroValue231
 t75 := Tryz.underlying233
 a75 := Tryz.isAgg233
 z75 := Tryz.sizeOf233
 v75 := Tryz.zeroValue233
 t76 := Tryz.underlying234
 a76 := Tryz.isAgg234
 z76 := Tryz.sizeOf234
 v76 := Tryz.zeroValue234
 t127 := Tryz.underlying297
 a127 := Tryz.isAgg297
 z127 := Tryz.sizeOf297
 v127 := Tryz.zeroValue297
 t164 := Tryz.underlying355
 a164 := Tryz.isAgg355
 z164 := Tryz.sizeOf355
 v164 := Tryz.zeroValue355 }
theorem Tryz.Builder_Extra_156 : Builder.Extra Tryz.prog Tryz.lays156_ren := {
 sizeBuilder := by kernel_rfl
 liesBuilder := by kernel_rfl
 t5 := Tryz.underlying5
 a5 := Tryz.isAgg5
 z5 := Tryz.sizeOf5
 v5 := Tryz.zeroValue5
 infoByte := by kernel_rfl
 cellsByte := by kernel_rfl
 sizeByte := by kernel_rfl
 neB5 := by decide }
open Go.RowKit in
theorem Tryz.strings_Join_none (a : Option Addr) (c : Nat) (sep : ByteArray) (w : World) :
  Calls Tryz.prog 109 #[.slice a 0 c, .string sep] w fun e w' => e = .returned (.string ⟨#[]⟩) ∧ w' = w := Any.strings_Join_none Tryz.lays156 Tryz.Builder_Extra_156 a c sep w
open Go.RowKit in
theorem Tryz.strings_Join (bk o c : Nat) (xs : List ByteArray) (sep : ByteArray) (w : World) (hcells : ∀ (j : Nat) x,xs[j]? = some x → w.cell? ⟨bk,o + j,none⟩ = some (.string x)) (hbk : bk < w.heap.size) (hN : xs.length ≤ 140737488355328) (hcap : xs.length ≤ c) (hlen : (Lib.join (xs.map (·.data.toList)) sep.data.toList).length ≤ 140737488355328) :
  Calls Tryz.prog 109 #[.slice (some ⟨bk,o,none⟩) xs.length c, .string sep] w fun e w' => e = .returned (.string ⟨(Lib.join (xs.map (·.data.toList)) sep.data.toList).toArray⟩) ∧ Below w.heap.size w w' := Any.strings_Join Tryz.lays156 Tryz.Builder_Extra_156 bk o c xs sep w hcells hbk hN hcap hlen
def Tryz.lays162_ren : Go.Shelf.Ren := ⟨fun | 162 => 389 | 232 => 237 | 227 => 172 | 234 => 239 | 236 => 241 | 228 => 173 | 271 => 290 | 151 => 289 | 120 => 327 | 197 => 284 | 152 => 170 | 260 => 321 | 137 => 225 | 119 => 226 | 224 => 227 | 225 => 228 | 217 => 286 | 266 => 326 | n => n,fun | 9 => 9 | 4 => 4 | 3 => 3 | 5 => 5 | 117 => 257 | 116 => 256 | 0 => 0 | 124 => 306 | 21 => 21 | 105 => 359 | 46 => 305 | 119 => 435 | 139 => 438 | 138 => 437 | n => n,fun | 3 => 1 | 4 => 2 | n => n⟩
theorem Tryz.lays162 : Go.Proofs.Lays.n162 Tryz.prog Tryz.lays162_ren := {
 mixed := by kernel_rfl
 f119 := Tryz.func226.trans (congrArg some (by kernel_rfl))
 f120 := Tryz.func327.trans (congrArg some (by kernel_rfl))
 f137 := Tryz.func225.trans (congrArg some (by kernel_rfl))
 f151 := Tryz.func289.trans (congrArg some (by kernel_rfl))
 f152 := Tryz.func170.trans (congrArg some (by kernel_rfl))
 f162 := Tryz.func389.trans (congrArg some (by kernel_rfl))
 f197 := Tryz.func284.trans (congrArg some (by kernel_rfl))
 f217 := Tryz.func286.trans (congrArg some (by kernel_rfl))
 f224 := Tryz.func227.trans (congrArg some (by kernel_rfl))
 f225 := Tryz.func228.trans (congrArg some (by kernel_rfl))
 f227 := Tryz.func172.trans (congrArg some (by kernel_rfl))
 f228 := Tryz.func173.trans (congrArg some (by kernel_rfl))
 f232 := Tryz.func237.trans (congrArg some (by kernel_rfl))
 f234 := Tryz.func239.trans (congrArg some (by kernel_rfl))
 f236 := Tryz.func241.trans (congrArg some (by kernel_rfl))
 f260 := Tryz.func321.trans (congrArg some (by kernel_rfl))
 f266 := Tryz.func326.trans (congrArg some (by kernel_rfl))
 f271 := Tryz.func290.trans (congrArg some (by kernel_rfl))
 t0 := Tryz.underlying0
 a0 := Tryz.isAgg0
 z0 := Tryz.sizeOf0
 v0 := Tryz.zeroValue0
 t3 := Tryz.underlying3
 a3 := Tryz.isAgg3
 z3 := Tryz.sizeOf3
 v3 := Tryz.zeroValue3
 t4 := Tryz.underlying4
 a4 := Tryz.isAgg4
 z4 := Tryz.sizeOf4
 v4 := Tryz.zeroValue4
 t5 := Tryz.underlying5
 a5 := Tryz.isAgg5
 z5 := Tryz.sizeOf5
 v5 := Tryz.zeroValue5
 t9 := Tryz.underlying9
 a9 := Tryz.isAgg9
 z9 := Tryz.sizeOf9
 v9 := Tryz.zeroValue9
 t21 := Tryz.underlying21
 a21 := Tryz.isAgg21
 z21 := Tryz.sizeOf21
 v21 := Tryz.zeroValue21
 t46 := Tryz.underlying305
 a46 := Tryz.isAgg305
 z46 := Tryz.sizeOf305
 v46 := Tryz.zeroValue305
 t105 := Tryz.underlying359
 a105 := Tryz.isAgg359
 z105 := Tryz.sizeOf359
 v105 := Tryz.zeroValue359
 t116 := Tryz.underlying256
 a116 := Tryz.isAgg256
 z116 := Tryz.sizeOf256
 t117 := Tryz.underlying257
 a117 := Tryz.isAgg257
 z117 := Tryz.sizeOf257
 v117 := Tryz.zeroValue257
 t119 := Tryz.underlying435
 a119 := Tryz.isAgg435
 z119 := Tryz.sizeOf435
 t124 := Tryz.underlying306
 a124 := Tryz.isAgg306
 z124 := Tryz.sizeOf306
 v124 := Tryz.zeroValue306
 t138 := Tryz.underlying437
 a138 := Tryz.isAgg437
 z138 := Tryz.sizeOf437
 v138 := Tryz.zeroValue437
 t139 := Tryz.underlying438
 a139 := Tryz.isAgg438
 z139 := Tryz.sizeOf438
 v139 := Tryz.zeroValue438
 g3 := by kernel_rfl
 g4 := by kernel_rfl }
def Tryz.lays160_ren : Go.Shelf.Ren := ⟨fun | 160 => 178 | 232 => 237 | 231 => 236 | 227 => 172 | 234 => 239 | 233 => 238 | 236 => 241 | 235 => 240 | 228 => 173 | 271 => 290 | 151 => 289 | 197 => 284 | 120 => 327 | 152 => 170 | 260 => 321 | 137 => 225 | 119 => 226 | 224 => 227 | 225 => 228 | 217 => 286 | 266 => 326 | n => n,fun | 9 => 9 | 4 => 4 | 3 => 3 | 5 => 5 | 117 => 257 | 116 => 256 | 0 => 0 | 124 => 306 | 21 => 21 | 105 => 359 | 46 => 305 | 119 => 435 | 139 => 438 | 138 => 437 | n => n,fun | 3 => 1 | 4 => 2 | n => n⟩
theorem Tryz.lays160 : Go.Proofs.Lays.n160 Tryz.prog Tryz.lays160_ren := {
 mixed := by kernel_rfl
 f119 := Tryz.func226.trans (congrArg some (by kernel_rfl))
 f120 := Tryz.func327.trans (congrArg some (by kernel_rfl))
 f137 := Tryz.func225.trans (congrArg some (by kernel_rfl))
 f151 := Tryz.func289.trans (congrArg some (by kernel_rfl))
 f152 := Tryz.func170.trans (congrArg some (by kernel_rfl))
 f160 := Tryz.func178.trans (congrArg some (by kernel_rfl))
 f197 := Tryz.func284.trans (congrArg some (by kernel_rfl))
 f217 := Tryz.func286.trans (congrArg some (by kernel_rfl))
 f224 := Tryz.func227.trans (congrArg some (by kernel_rfl))
 f225 := Tryz.func228.trans (congrArg some (by kernel_rfl))
 f227 := Tryz.func172.trans (congrArg some (by kernel_rfl))
 f228 := Tryz.func173.trans (congrArg some (by kernel_rfl))
 f231 := Tryz.func236.trans (congrArg some (by kernel_rfl))
 f232 := Tryz.func237.trans (congrArg some (by kernel_rfl))
 f233 := Tryz.func238.trans (congrArg some (by kernel_rfl))
 f234 := Tryz.func239.trans (congrArg some (by kernel_rfl))
 f235 := Tryz.func240.trans (congrArg some (by kernel_rfl))
 f236 := Tryz.func241.trans (congrArg some (by kernel_rfl))
 f260 := Tryz.func321.trans (congrArg some (by kernel_rfl))
 f266 := Tryz.func326.trans (congrArg some (by kernel_rfl))
 f271 := Tryz.func290.trans (congrArg some (by kernel_rfl))
 t0 := Tryz.underlying0
 a0 := Tryz.isAgg0
 z0 := Tryz.sizeOf0
 v0 := Tryz.zeroValue0
 t3 := Tryz.underlying3
 a3 := Tryz.isAgg3
 z3 := Tryz.sizeOf3
 v3 := Tryz.zeroValue3
 t4 := Tryz.underlying4
 a4 := Tryz.isAgg4
 z4 := Tryz.sizeOf4
 v4 := Tryz.zeroValue4
 t5 := Tryz.underlying5
 a5 := Tryz.isAgg5
 z5 := Tryz.sizeOf5
 v5 := Tryz.zeroValue5
 t9 := Tryz.underlying9
 a9 := Tryz.isAgg9
 z9 := Tryz.sizeOf9
 v9 := Tryz.zeroValue9
 t21 := Tryz.underlying21
 a21 := Tryz.isAgg21
 z21 := Tryz.sizeOf21
 v21 := Tryz.zeroValue21
 t46 := Tryz.underlying305
 a46 := Tryz.isAgg305
 z46 := Tryz.sizeOf305
 v46 := Tryz.zeroValue305
 t105 := Tryz.underlying359
 a105 := Tryz.isAgg359
 z105 := Tryz.sizeOf359
 v105 := Tryz.zeroValue359
 t116 := Tryz.underlying256
 a116 := Tryz.isAgg256
 z116 := Tryz.sizeOf256
 t117 := Tryz.underlying257
 a117 := Tryz.isAgg257
 z117 := Tryz.sizeOf257
 v117 := Tryz.zeroValue257
 t119 := Tryz.underlying435
 a119 := Tryz.isAgg435
 z119 := Tryz.sizeOf435
 t124 := Tryz.underlying306
 a124 := Tryz.isAgg306
 z124 := Tryz.sizeOf306
 v124 := Tryz.zeroValue306
 t138 := Tryz.underlying437
 a138 := Tryz.isAgg437
 z138 := Tryz.sizeOf437
 v138 := Tryz.zeroValue437
 t139 := Tryz.underlying438
 a139 := Tryz.isAgg438
 z139 := Tryz.sizeOf438
 v139 := Tryz.zeroValue438
 g3 := by kernel_rfl
 g4 := by kernel_rfl }
def Tryz.lays119_ren : Go.Shelf.Ren := ⟨fun | 119 => 226 | n => n,fun | 21 => 21 | 4 => 4 | n => n,fun | n => n⟩
theorem Tryz.lays119 : Go.Proofs.Lays.n119 Tryz.prog Tryz.lays119_ren := {
 mixed := by kernel_rfl
 f119 := Tryz.func226.trans (congrArg some (by kernel_rfl))
 t4 := Tryz.underlying4
 a4 := Tryz.isAgg4
 z4 := Tryz.sizeOf4
 v4 := Tryz.zeroValue4
 t21 := Tryz.underlying21
 a21 := Tryz.isAgg21
 z21 := Tryz.sizeOf21
 v21 := Tryz.zeroValue21 }
theorem Tryz.utf8_ValidRune (r : Int) (w : World) :
  Calls Tryz.prog 226 #[.int .i32 r] w fun e w' => e = .returned (.bool (Lib.validRune r)) ∧ w' = w := Any.utf8_ValidRune Tryz.lays119 r w
def Tryz.lays137_ren : Go.Shelf.Ren := ⟨fun | 137 => 225 | 217 => 286 | 266 => 326 | n => n,fun | 9 => 9 | 5 => 5 | 3 => 3 | n => n,fun | n => n⟩
theorem Tryz.lays137 : Go.Proofs.Lays.n137 Tryz.prog Tryz.lays137_ren := {
 mixed := by kernel_rfl
 f137 := Tryz.func225.trans (congrArg some (by kernel_rfl))
 f217 := Tryz.func286.trans (congrArg some (by kernel_rfl))
 f266 := Tryz.func326.trans (congrArg some (by kernel_rfl))
 t3 := Tryz.underlying3
 a3 := Tryz.isAgg3
 z3 := Tryz.sizeOf3
 v3 := Tryz.zeroValue3
 t5 := Tryz.underlying5
 a5 := Tryz.isAgg5
 z5 := Tryz.sizeOf5
 v5 := Tryz.zeroValue5
 t9 := Tryz.underlying9
 a9 := Tryz.isAgg9
 z9 := Tryz.sizeOf9
 v9 := Tryz.zeroValue9 }
open Go.RowKit in
theorem Tryz.strings_IndexByte (s : ByteArray) (c : Int) (w : World) :
  Calls Tryz.prog 225 #[.string s, .int .u8 c] w fun e w' => e = .returned (.int .i64 (Lib.indexByte s.data.toList c.toNat.toUInt8)) ∧ w' = w := Any.strings_IndexByte Tryz.lays137 s c w
def Tryz.lays210_ren : Go.Shelf.Ren := ⟨fun | 210 => 215 | 206 => 279 | n => n,fun | 9 => 9 | 4 => 4 | 3 => 3 | n => n,fun | n => n⟩
theorem Tryz.lays210 : Go.Proofs.Lays.n210 Tryz.prog Tryz.lays210_ren := {
 mixed := by kernel_rfl
 f206 := Tryz.func279.trans (congrArg some (by kernel_rfl))
 f210 := Tryz.func215.trans (congrArg some (by kernel_rfl))
 t3 := Tryz.underlying3
 a3 := Tryz.isAgg3
 z3 := Tryz.sizeOf3
 v3 := Tryz.zeroValue3
 t4 := Tryz.underlying4
 a4 := Tryz.isAgg4
 z4 := Tryz.sizeOf4
 v4 := Tryz.zeroValue4
 t9 := Tryz.underlying9
 a9 := Tryz.isAgg9
 z9 := Tryz.sizeOf9
 v9 := Tryz.zeroValue9 }
open Go.RowKit in
theorem Tryz.stringslite_CutPrefix (s p : ByteArray) (w : World) :
  Calls Tryz.prog 215 #[.string s, .string p] w fun e w' => e = .returned (.tuple #[.string ⟨(Lib.trimPrefix s.data.toList p.data.toList).toArray⟩, .bool (Lib.hasPrefix s.data.toList p.data.toList)]) ∧ w' = w := Any.stringslite_CutPrefix Tryz.lays210 s p w
def Tryz.lays103_ren : Go.Shelf.Ren := ⟨fun | 103 => 157 | 210 => 215 | 206 => 279 | n => n,fun | 9 => 9 | 4 => 4 | 24 => 238 | 3 => 3 | n => n,fun | n => n⟩
theorem Tryz.lays103 : Go.Proofs.Lays.n103 Tryz.prog Tryz.lays103_ren := {
 mixed := by kernel_rfl
 f103 := Tryz.func157.trans (congrArg some (by kernel_rfl))
 f206 := Tryz.func279.trans (congrArg some (by kernel_rfl))
 f210 := Tryz.func215.trans (congrArg some (by kernel_rfl))
 t3 := Tryz.underlying3
 a3 := Tryz.isAgg3
 z3 := Tryz.sizeOf3
 v3 := Tryz.zeroValue3
 t4 := Tryz.underlying4
 a4 := Tryz.isAgg4
 z4 := Tryz.sizeOf4
 v4 := Tryz.zeroValue4
 t9 := Tryz.underlying9
 a9 := Tryz.isAgg9
 z9 := Tryz.sizeOf9
 v9 := Tryz.zeroValue9
 t24 := Tryz.underlying238
 a24 := Tryz.isAgg238
 z24 := Tryz.sizeOf238
 v24 := Tryz.zeroValue238 }
open Go.RowKit in
theorem Tryz.strings_CutPrefix (s p : ByteArray) (w : World) :
  Calls Tryz.prog 157 #[.string s, .string p] w fun e w' => e = .returned (.tuple #[.string ⟨(Lib.trimPrefix s.data.toList p.data.toList).toArray⟩, .bool (Lib.hasPrefix s.data.toList p.data.toList)]) ∧ w' = w := Any.strings_CutPrefix Tryz.lays103 s p w
def Tryz.lays211_ren : Go.Shelf.Ren := ⟨fun | 211 => 216 | 207 => 280 | n => n,fun | 9 => 9 | 4 => 4 | 3 => 3 | n => n,fun | n => n⟩
theorem Tryz.lays211 : Go.Proofs.Lays.n211 Tryz.prog Tryz.lays211_ren := {
 mixed := by kernel_rfl
 f207 := Tryz.func280.trans (congrArg some (by kernel_rfl))
 f211 := Tryz.func216.trans (congrArg some (by kernel_rfl))
 t3 := Tryz.underlying3
 a3 := Tryz.isAgg3
 z3 := Tryz.sizeOf3
 v3 := Tryz.zeroValue3
 t4 := Tryz.underlying4
 a4 := Tryz.isAgg4
 z4 := Tryz.sizeOf4
 v4 := Tryz.zeroValue4
 t9 := Tryz.underlying9
 a9 := Tryz.isAgg9
 z9 := Tryz.sizeOf9
 v9 := Tryz.zeroValue9 }
open Go.RowKit in
theorem Tryz.stringslite_CutSuffix (s p : ByteArray) (w : World) (hs : s.size ≤ 9223372036854775807) :
  Calls Tryz.prog 216 #[.string s, .string p] w fun e w' => e = .returned (.tuple #[.string ⟨(Lib.trimSuffix s.data.toList p.data.toList).toArray⟩, .bool (Lib.hasSuffix s.data.toList p.data.toList)]) ∧ w' = w := Any.stringslite_CutSuffix Tryz.lays211 s p w hs
def Tryz.lays104_ren : Go.Shelf.Ren := ⟨fun | 104 => 159 | 211 => 216 | 207 => 280 | n => n,fun | 9 => 9 | 4 => 4 | 24 => 238 | 3 => 3 | n => n,fun | n => n⟩
theorem Tryz.lays104 : Go.Proofs.Lays.n104 Tryz.prog Tryz.lays104_ren := {
 mixed := by kernel_rfl
 f104 := Tryz.func159.trans (congrArg some (by kernel_rfl))
 f207 := Tryz.func280.trans (congrArg some (by kernel_rfl))
 f211 := Tryz.func216.trans (congrArg some (by kernel_rfl))
 t3 := Tryz.underlying3
 a3 := Tryz.isAgg3
 z3 := Tryz.sizeOf3
 v3 := Tryz.zeroValue3
 t4 := Tryz.underlying4
 a4 := Tryz.isAgg4
 z4 := Tryz.sizeOf4
 v4 := Tryz.zeroValue4
 t9 := Tryz.underlying9
 a9 := Tryz.isAgg9
 z9 := Tryz.sizeOf9
 v9 := Tryz.zeroValue9
 t24 := Tryz.underlying238
 a24 := Tryz.isAgg238
 z24 := Tryz.sizeOf238
 v24 := Tryz.zeroValue238 }
open Go.RowKit in
theorem Tryz.strings_CutSuffix (s p : ByteArray) (w : World) (hs : s.size ≤ 9223372036854775807) :
  Calls Tryz.prog 159 #[.string s, .string p] w fun e w' => e = .returned (.tuple #[.string ⟨(Lib.trimSuffix s.data.toList p.data.toList).toArray⟩, .bool (Lib.hasSuffix s.data.toList p.data.toList)]) ∧ w' = w := Any.strings_CutSuffix Tryz.lays104 s p w hs
def Tryz.laysM173_ren : Go.Shelf.Ren := ⟨fun | 173 => 223 | 246 => 285 | 283 => 322 | 284 => 323 | 285 => 324 | 286 => 325 | 129 => 365 | 317 => 364 | 318 => 366 | 319 => 367 | 320 => 368 | 337 => 392 | 338 => 393 | n => n,fun | 2 => 2 | 3 => 3 | 9 => 9 | 4 => 4 | 171 => 393 | 0 => 0 | 53 => 394 | 37 => 59 | 5 => 5 | 173 => 397 | 212 => 440 | 51 => 432 | 20 => 20 | 213 => 441 | 46 => 305 | 232 => 461 | 233 => 462 | n => n,fun | 17 => 3 | 18 => 4 | 19 => 5 | n => n⟩
theorem Tryz.laysM173 : Go.Proofs.LaysM.n173 Tryz.prog Tryz.laysM173_ren := {
 mixed := by kernel_rfl
 f129 := Tryz.func365.trans (congrArg some (by kernel_rfl))
 f173 := Tryz.func223.trans (congrArg some (by kernel_rfl))
 f246 := Tryz.func285.trans (congrArg some (by kernel_rfl))
 f283 := Tryz.func322.trans (congrArg some (by kernel_rfl))
 f284 := Tryz.func323.trans (congrArg some (by kernel_rfl))
 f285 := Tryz.func324.trans (congrArg some (by kernel_rfl))
 f286 := Tryz.func325.trans (congrArg some (by kernel_rfl))
 f317 := Tryz.func364.trans (congrArg some (by kernel_rfl))
 f318 := Tryz.func366.trans (congrArg some (by kernel_rfl))
 f319 := Tryz.func367.trans (congrArg some (by kernel_rfl))
 f320 := Tryz.func368.trans (congrArg some (by kernel_rfl))
 f337 := Tryz.func392.trans (congrArg some (by kernel_rfl))
 f338 := Tryz.func393.trans (congrArg some (by kernel_rfl))
 t0 := Tryz.underlying0
 a0 := Tryz.isAgg0
 z0 := Tryz.sizeOf0
 v0 := Tryz.zeroValue0
 t2 := Tryz.underlying2
 a2 := Tryz.isAgg2
 z2 := Tryz.sizeOf2
 v2 := Tryz.zeroValue2
 t3 := Tryz.underlying3
 a3 := Tryz.isAgg3
 z3 := Tryz.sizeOf3
 v3 := Tryz.zeroValue3
 t4 := Tryz.underlying4
 a4 := Tryz.isAgg4
 z4 := Tryz.sizeOf4
 v4 := Tryz.zeroValue4
 t5 := Tryz.underlying5
 a5 := Tryz.isAgg5
 z5 := Tryz.sizeOf5
 v5 := Tryz.zeroValue5
 t9 := Tryz.underlying9
 a9 := Tryz.isAgg9
 z9 := Tryz.sizeOf9
 v9 := Tryz.zeroValue9
 t20 := Tryz.underlying20
 a20 := Tryz.isAgg20
 z20 := Tryz.sizeOf20
 v20 := Tryz.zeroValue20
 t37 := Tryz.underlying59
 a37 := Tryz.isAgg59
 z37 := Tryz.sizeOf59
 v37 := Tryz.zeroValue59
 t46 := Tryz.underlying305
 a46 := Tryz.isAgg305
 z46 := Tryz.sizeOf305
 v46 := Tryz.zeroValue305
 t51 := Tryz.underlying432
 a51 := Tryz.isAgg432
 z51 := Tryz.sizeOf432
 v51 := Tryz.zeroValue432
 t53 := Tryz.underlying394
 a53 := Tryz.isAgg394
 z53 := Tryz.sizeOf394
 v53 := Tryz.zeroValue394
 t171 := Tryz.underlying393
 a171 := Tryz.isAgg393
 z171 := Tryz.sizeOf393
 v171 := Tryz.zeroValue393
 t173 := Tryz.underlying397
 a173 := Tryz.isAgg397
 z173 := Tryz.sizeOf397
 v173 := Tryz.zeroValue397
 t212 := Tryz.underlying440
 a212 := Tryz.isAgg440
 z212 := Tryz.sizeOf440
 v212 := Tryz.zeroValue440
 t213 := Tryz.underlying441
 a213 := Tryz.isAgg441
 z213 := Tryz.sizeOf441
 t232 := Tryz.underlying461
 a232 := Tryz.isAgg461
 z232 := Tryz.sizeOf461
 v232 := Tryz.zeroValue461
 t233 := Tryz.underlying462
 a233 := Tryz.isAgg462
 z233 := Tryz.sizeOf462
 v233 := Tryz.zeroValue462
 g17 := by kernel_rfl
 g18 := by kernel_rfl
 g19 := by kernel_rfl
 i0 := by kernel_rfl
 i2 := by kernel_rfl
 i3 := by kernel_rfl
 i4 := by kernel_rfl
 i5 := by kernel_rfl
 i9 := by kernel_rfl
 i20 := by kernel_rfl
 i37 := by kernel_rfl
 i46 := by kernel_rfl
 i51 := by kernel_rfl
 i53 := by kernel_rfl
 i171 := by kernel_rfl
 i173 := by kernel_rfl
 i212 := by kernel_rfl
 i232 := by kernel_rfl
 i233 := by kernel_rfl
 m17 := by kernel_rfl
 m18 := by kernel_rfl
 m19 := by kernel_rfl }
open Go.RowKit Go.Sort Go.Lib in
theorem Tryz.strconv_FormatInt_10 (n : Int) (h0 : -9223372036854775808 ≤ n) (h1 : n ≤ 9223372036854775807) (w : World) (htab : Lib.TabIs Tryz.prog w "internal/strconv.uint64pow10" .u64 Lib.pow10Tab) :
  Calls Tryz.prog 223 #[.int .i64 n, .int .i64 10] w fun e w' => e = .returned (.string ⟨(Lib.itoa n).toArray⟩) ∧ ∃ k os,w' = grow (w.drewN k) os := Any.strconv_FormatInt_10 Tryz.laysM173 n h0 h1 w htab
def Tryz.lays143_ren : Go.Shelf.Ren := ⟨fun | 143 => 250 | 219 => 281 | 217 => 286 | 225 => 228 | 224 => 227 | 267 => 318 | 266 => 326 | 314 => 361 | n => n,fun | 9 => 9 | 3 => 3 | 4 => 4 | 5 => 5 | 46 => 305 | 146 => 433 | 51 => 432 | n => n,fun | 1 => 0 | n => n⟩
theorem Tryz.lays143 : Go.Proofs.Lays.n143 Tryz.prog Tryz.lays143_ren := {
 mixed := by kernel_rfl
 f143 := Tryz.func250.trans (congrArg some (by kernel_rfl))
 f217 := Tryz.func286.trans (congrArg some (by kernel_rfl))
 f219 := Tryz.func281.trans (congrArg some (by kernel_rfl))
 f224 := Tryz.func227.trans (congrArg some (by kernel_rfl))
 f225 := Tryz.func228.trans (congrArg some (by kernel_rfl))
 f266 := Tryz.func326.trans (congrArg some (by kernel_rfl))
 f267 := Tryz.func318.trans (congrArg some (by kernel_rfl))
 f314 := Tryz.func361.trans (congrArg some (by kernel_rfl))
 t3 := Tryz.underlying3
 a3 := Tryz.isAgg3
 z3 := Tryz.sizeOf3
 v3 := Tryz.zeroValue3
 t4 := Tryz.underlying4
 a4 := Tryz.isAgg4
 z4 := Tryz.sizeOf4
 v4 := Tryz.zeroValue4
 t5 := Tryz.underlying5
 a5 := Tryz.isAgg5
 z5 := Tryz.sizeOf5
 v5 := Tryz.zeroValue5
 t9 := Tryz.underlying9
 a9 := Tryz.isAgg9
 z9 := Tryz.sizeOf9
 v9 := Tryz.zeroValue9
 t46 := Tryz.underlying305
 a46 := Tryz.isAgg305
 z46 := Tryz.sizeOf305
 v46 := Tryz.zeroValue305
 t51 := Tryz.underlying432
 a51 := Tryz.isAgg432
 z51 := Tryz.sizeOf432
 v51 := Tryz.zeroValue432
 t146 := Tryz.underlying433
 a146 := Tryz.isAgg433
 z146 := Tryz.sizeOf433
 v146 := Tryz.zeroValue433
 g1 := by kernel_rfl }
open Go.RowKit Go.Lib in
theorem Tryz.strings_Index (s sub : ByteArray) (m : Int) (w : World) (hs : s.size < 4294967281) (hm : w.cell? ⟨0,0,none⟩ = some (.int .i64 m)) :
  Calls Tryz.prog 250 #[.string s, .string sub] w fun e w' => e = .returned (.int .i64 (Lib.index s.data.toList sub.data.toList)) ∧ w' = w := Any.strings_Index Tryz.lays143 s sub m w hs hm
def Tryz.lays144_ren : Go.Shelf.Ren := ⟨fun | 144 => 233 | 143 => 250 | 219 => 281 | 217 => 286 | 225 => 228 | 224 => 227 | 267 => 318 | 266 => 326 | 314 => 361 | n => n,fun | 9 => 9 | 4 => 4 | 3 => 3 | 5 => 5 | 46 => 305 | 146 => 433 | 51 => 432 | n => n,fun | 1 => 0 | n => n⟩
theorem Tryz.lays144 : Go.Proofs.Lays.n144 Tryz.prog Tryz.lays144_ren := {
 mixed := by kernel_rfl
 f143 := Tryz.func250.trans (congrArg some (by kernel_rfl))
 f144 := Tryz.func233.trans (congrArg some (by kernel_rfl))
 f217 := Tryz.func286.trans (congrArg some (by kernel_rfl))
 f219 := Tryz.func281.trans (congrArg some (by kernel_rfl))
 f224 := Tryz.func227.trans (congrArg some (by kernel_rfl))
 f225 := Tryz.func228.trans (congrArg some (by kernel_rfl))
 f266 := Tryz.func326.trans (congrArg some (by kernel_rfl))
 f267 := Tryz.func318.trans (congrArg some (by kernel_rfl))
 f314 := Tryz.func361.trans (congrArg some (by kernel_rfl))
 t3 := Tryz.underlying3
 a3 := Tryz.isAgg3
 z3 := Tryz.sizeOf3
 v3 := Tryz.zeroValue3
 t4 := Tryz.underlying4
 a4 := Tryz.isAgg4
 z4 := Tryz.sizeOf4
 v4 := Tryz.zeroValue4
 t5 := Tryz.underlying5
 a5 := Tryz.isAgg5
 z5 := Tryz.sizeOf5
 v5 := Tryz.zeroValue5
 t9 := Tryz.underlying9
 a9 := Tryz.isAgg9
 z9 := Tryz.sizeOf9
 v9 := Tryz.zeroValue9
 t46 := Tryz.underlying305
 a46 := Tryz.isAgg305
 z46 := Tryz.sizeOf305
 v46 := Tryz.zeroValue305
 t51 := Tryz.underlying432
 a51 := Tryz.isAgg432
 z51 := Tryz.sizeOf432
 v51 := Tryz.zeroValue432
 t146 := Tryz.underlying433
 a146 := Tryz.isAgg433
 z146 := Tryz.sizeOf433
 v146 := Tryz.zeroValue433
 g1 := by kernel_rfl }
open Go.RowKit Go.Lib in
theorem Tryz.strings_Contains (s sub : ByteArray) (m : Int) (w : World) (hs : s.size < 4294967281) (hm : w.cell? ⟨0,0,none⟩ = some (.int .i64 m)) :
  Calls Tryz.prog 233 #[.string s, .string sub] w fun e w' => e = .returned (.bool (Lib.contains s.data.toList sub.data.toList)) ∧ w' = w := Any.strings_Contains Tryz.lays144 s sub m w hs hm
def Tryz.lays145_ren : Go.Shelf.Ren := ⟨fun | 145 => 161 | 220 => 217 | 219 => 281 | 217 => 286 | 225 => 228 | 224 => 227 | 267 => 318 | 266 => 326 | 314 => 361 | n => n,fun | 9 => 9 | 4 => 4 | 59 => 244 | 3 => 3 | 5 => 5 | 46 => 305 | 146 => 433 | 51 => 432 | n => n,fun | 1 => 0 | n => n⟩
theorem Tryz.lays145 : Go.Proofs.Lays.n145 Tryz.prog Tryz.lays145_ren := {
 mixed := by kernel_rfl
 f145 := Tryz.func161.trans (congrArg some (by kernel_rfl))
 f217 := Tryz.func286.trans (congrArg some (by kernel_rfl))
 f219 := Tryz.func281.trans (congrArg some (by kernel_rfl))
 f220 := Tryz.func217.trans (congrArg some (by kernel_rfl))
 f224 := Tryz.func227.trans (congrArg some (by kernel_rfl))
 f225 := Tryz.func228.trans (congrArg some (by kernel_rfl))
 f266 := Tryz.func326.trans (congrArg some (by kernel_rfl))
 f267 := Tryz.func318.trans (congrArg some (by kernel_rfl))
 f314 := Tryz.func361.trans (congrArg some (by kernel_rfl))
 t3 := Tryz.underlying3
 a3 := Tryz.isAgg3
 z3 := Tryz.sizeOf3
 v3 := Tryz.zeroValue3
 t4 := Tryz.underlying4
 a4 := Tryz.isAgg4
 z4 := Tryz.sizeOf4
 v4 := Tryz.zeroValue4
 t5 := Tryz.underlying5
 a5 := Tryz.isAgg5
 z5 := Tryz.sizeOf5
 v5 := Tryz.zeroValue5
 t9 := Tryz.underlying9
 a9 := Tryz.isAgg9
 z9 := Tryz.sizeOf9
 v9 := Tryz.zeroValue9
 t46 := Tryz.underlying305
 a46 := Tryz.isAgg305
 z46 := Tryz.sizeOf305
 v46 := Tryz.zeroValue305
 t51 := Tryz.underlying432
 a51 := Tryz.isAgg432
 z51 := Tryz.sizeOf432
 v51 := Tryz.zeroValue432
 t59 := Tryz.underlying244
 a59 := Tryz.isAgg244
 z59 := Tryz.sizeOf244
 v59 := Tryz.zeroValue244
 t146 := Tryz.underlying433
 a146 := Tryz.isAgg433
 z146 := Tryz.sizeOf433
 v146 := Tryz.zeroValue433
 g1 := by kernel_rfl }
open Go.RowKit Go.Lib in
theorem Tryz.strings_Cut (s sep : ByteArray) (m : Int) (w : World) (hs : s.size < 4294967281) (hm : w.cell? ⟨0,0,none⟩ = some (.int .i64 m)) :
  Calls Tryz.prog 161 #[.string s, .string sep] w fun e w' => e = .returned (.tuple #[.string ⟨(Lib.cut s.data.toList sep.data.toList).1.toArray⟩, .string ⟨(Lib.cut s.data.toList sep.data.toList).2.1.toArray⟩, .bool (Lib.cut s.data.toList sep.data.toList).2.2]) ∧ ∃ n,w' = w.drewN n := Any.strings_Cut Tryz.lays145 s sep m w hs hm
def Tryz.lays206_ren : Go.Shelf.Ren := ⟨fun | 206 => 279 | n => n,fun | 9 => 9 | 4 => 4 | 3 => 3 | n => n,fun | n => n⟩
theorem Tryz.lays206 : Go.Proofs.Lays.n206 Tryz.prog Tryz.lays206_ren := {
 mixed := by kernel_rfl
 f206 := Tryz.func279.trans (congrArg some (by kernel_rfl))
 t3 := Tryz.underlying3
 a3 := Tryz.isAgg3
 z3 := Tryz.sizeOf3
 v3 := Tryz.zeroValue3
 t4 := Tryz.underlying4
 a4 := Tryz.isAgg4
 z4 := Tryz.sizeOf4
 v4 := Tryz.zeroValue4
 t9 := Tryz.underlying9
 a9 := Tryz.isAgg9
 z9 := Tryz.sizeOf9
 v9 := Tryz.zeroValue9 }
open Go.RowKit Go.Lib in
theorem Tryz.stringslite_HasPrefix (s p : ByteArray) (w : World) :
  Calls Tryz.prog 279 #[.string s, .string p] w fun e w' => e = .returned (.bool (Lib.hasPrefix s.data.toList p.data.toList)) ∧ w' = w := Any.stringslite_HasPrefix Tryz.lays206 s p w
def Tryz.lays99_ren : Go.Shelf.Ren := ⟨fun | 99 => 230 | 206 => 279 | n => n,fun | 9 => 9 | 4 => 4 | 3 => 3 | n => n,fun | n => n⟩
theorem Tryz.lays99 : Go.Proofs.Lays.n99 Tryz.prog Tryz.lays99_ren := {
 mixed := by kernel_rfl
 f99 := Tryz.func230.trans (congrArg some (by kernel_rfl))
 f206 := Tryz.func279.trans (congrArg some (by kernel_rfl))
 t3 := Tryz.underlying3
 a3 := Tryz.isAgg3
 z3 := Tryz.sizeOf3
 v3 := Tryz.zeroValue3
 t4 := Tryz.underlying4
 a4 := Tryz.isAgg4
 z4 := Tryz.sizeOf4
 v4 := Tryz.zeroValue4
 t9 := Tryz.underlying9
 a9 := Tryz.isAgg9
 z9 := Tryz.sizeOf9
 v9 := Tryz.zeroValue9 }
open Go.RowKit Go.Lib in
theorem Tryz.strings_HasPrefix (s p : ByteArray) (w : World) :
  Calls Tryz.prog 230 #[.string s, .string p] w fun e w' => e = .returned (.bool (Lib.hasPrefix s.data.toList p.data.toList)) ∧ w' = w := Any.strings_HasPrefix Tryz.lays99 s p w
def Tryz.lays207_ren : Go.Shelf.Ren := ⟨fun | 207 => 280 | n => n,fun | 9 => 9 | 4 => 4 | 3 => 3 | n => n,fun | n => n⟩
theorem Tryz.lays207 : Go.Proofs.Lays.n207 Tryz.prog Tryz.lays207_ren := {
 mixed := by kernel_rfl
 f207 := Tryz.func280.trans (congrArg some (by kernel_rfl))
 t3 := Tryz.underlying3
 a3 := Tryz.isAgg3
 z3 := Tryz.sizeOf3
 v3 := Tryz.zeroValue3
 t4 := Tryz.underlying4
 a4 := Tryz.isAgg4
 z4 := Tryz.sizeOf4
 v4 := Tryz.zeroValue4
 t9 := Tryz.underlying9
 a9 := Tryz.isAgg9
 z9 := Tryz.sizeOf9
 v9 := Tryz.zeroValue9 }
open Go.RowKit Go.Lib in
theorem Tryz.stringslite_HasSuffix (s p : ByteArray) (w : World) (hs : s.size ≤ 9223372036854775807) :
  Calls Tryz.prog 280 #[.string s, .string p] w fun e w' => e = .returned (.bool (Lib.hasSuffix s.data.toList p.data.toList)) ∧ w' = w := Any.stringslite_HasSuffix Tryz.lays207 s p w hs
def Tryz.lays100_ren : Go.Shelf.Ren := ⟨fun | 100 => 377 | 207 => 280 | n => n,fun | 9 => 9 | 4 => 4 | 3 => 3 | n => n,fun | n => n⟩
theorem Tryz.lays100 : Go.Proofs.Lays.n100 Tryz.prog Tryz.lays100_ren := {
 mixed := by kernel_rfl
 f100 := Tryz.func377.trans (congrArg some (by kernel_rfl))
 f207 := Tryz.func280.trans (congrArg some (by kernel_rfl))
 t3 := Tryz.underlying3
 a3 := Tryz.isAgg3
 z3 := Tryz.sizeOf3
 v3 := Tryz.zeroValue3
 t4 := Tryz.underlying4
 a4 := Tryz.isAgg4
 z4 := Tryz.sizeOf4
 v4 := Tryz.zeroValue4
 t9 := Tryz.underlying9
 a9 := Tryz.isAgg9
 z9 := Tryz.sizeOf9
 v9 := Tryz.zeroValue9 }
open Go.RowKit Go.Lib in
theorem Tryz.strings_HasSuffix (s p : ByteArray) (w : World) (hs : s.size ≤ 9223372036854775807) :
  Calls Tryz.prog 377 #[.string s, .string p] w fun e w' => e = .returned (.bool (Lib.hasSuffix s.data.toList p.data.toList)) ∧ w' = w := Any.strings_HasSuffix Tryz.lays100 s p w hs
def Tryz.lays208_ren : Go.Shelf.Ren := ⟨fun | 208 => 400 | 206 => 279 | n => n,fun | 9 => 9 | 4 => 4 | 3 => 3 | n => n,fun | n => n⟩
theorem Tryz.lays208 : Go.Proofs.Lays.n208 Tryz.prog Tryz.lays208_ren := {
 mixed := by kernel_rfl
 f206 := Tryz.func279.trans (congrArg some (by kernel_rfl))
 f208 := Tryz.func400.trans (congrArg some (by kernel_rfl))
 t3 := Tryz.underlying3
 a3 := Tryz.isAgg3
 z3 := Tryz.sizeOf3
 v3 := Tryz.zeroValue3
 t4 := Tryz.underlying4
 a4 := Tryz.isAgg4
 z4 := Tryz.sizeOf4
 v4 := Tryz.zeroValue4
 t9 := Tryz.underlying9
 a9 := Tryz.isAgg9
 z9 := Tryz.sizeOf9
 v9 := Tryz.zeroValue9 }
open Go.RowKit Go.Lib in
theorem Tryz.stringslite_TrimPrefix (s p : ByteArray) (w : World) :
  Calls Tryz.prog 400 #[.string s, .string p] w fun e w' => e = .returned (.string ⟨(Lib.trimPrefix s.data.toList p.data.toList).toArray⟩) ∧ w' = w := Any.stringslite_TrimPrefix Tryz.lays208 s p w
def Tryz.lays101_ren : Go.Shelf.Ren := ⟨fun | 101 => 381 | 208 => 400 | 206 => 279 | n => n,fun | 9 => 9 | 4 => 4 | 3 => 3 | n => n,fun | n => n⟩
theorem Tryz.lays101 : Go.Proofs.Lays.n101 Tryz.prog Tryz.lays101_ren := {
 mixed := by kernel_rfl
 f101 := Tryz.func381.trans (congrArg some (by kernel_rfl))
 f206 := Tryz.func279.trans (congrArg some (by kernel_rfl))
 f208 := Tryz.func400.trans (congrArg some (by kernel_rfl))
 t3 := Tryz.underlying3
 a3 := Tryz.isAgg3
 z3 := Tryz.sizeOf3
 v3 := Tryz.zeroValue3
 t4 := Tryz.underlying4
 a4 := Tryz.isAgg4
 z4 := Tryz.sizeOf4
 v4 := Tryz.zeroValue4
 t9 := Tryz.underlying9
 a9 := Tryz.isAgg9
 z9 := Tryz.sizeOf9
 v9 := Tryz.zeroValue9 }
open Go.RowKit Go.Lib in
theorem Tryz.strings_TrimPrefix (s p : ByteArray) (w : World) :
  Calls Tryz.prog 381 #[.string s, .string p] w fun e w' => e = .returned (.string ⟨(Lib.trimPrefix s.data.toList p.data.toList).toArray⟩) ∧ w' = w := Any.strings_TrimPrefix Tryz.lays101 s p w
def Tryz.lays146_ren : Go.Shelf.Ren := ⟨fun | 146 => 218 | 221 => 282 | 268 => 319 | 138 => 320 | 143 => 250 | 195 => 362 | 197 => 284 | 218 => 363 | 219 => 281 | 260 => 321 | 217 => 286 | 225 => 228 | 224 => 227 | 267 => 318 | 266 => 326 | 314 => 361 | n => n,fun | 9 => 9 | 31 => 148 | 3 => 3 | 4 => 4 | 0 => 0 | 105 => 359 | 21 => 21 | 5 => 5 | 46 => 305 | 119 => 435 | 139 => 438 | 138 => 437 | 146 => 433 | 51 => 432 | n => n,fun | 1 => 0 | 3 => 1 | 4 => 2 | n => n⟩
theorem Tryz.lays146 : Go.Proofs.Lays.n146 Tryz.prog Tryz.lays146_ren := {
 mixed := by kernel_rfl
 f138 := Tryz.func320.trans (congrArg some (by kernel_rfl))
 f143 := Tryz.func250.trans (congrArg some (by kernel_rfl))
 f146 := Tryz.func218.trans (congrArg some (by kernel_rfl))
 f195 := Tryz.func362.trans (congrArg some (by kernel_rfl))
 f197 := Tryz.func284.trans (congrArg some (by kernel_rfl))
 f217 := Tryz.func286.trans (congrArg some (by kernel_rfl))
 f218 := Tryz.func363.trans (congrArg some (by kernel_rfl))
 f219 := Tryz.func281.trans (congrArg some (by kernel_rfl))
 f221 := Tryz.func282.trans (congrArg some (by kernel_rfl))
 f224 := Tryz.func227.trans (congrArg some (by kernel_rfl))
 f225 := Tryz.func228.trans (congrArg some (by kernel_rfl))
 f260 := Tryz.func321.trans (congrArg some (by kernel_rfl))
 f266 := Tryz.func326.trans (congrArg some (by kernel_rfl))
 f267 := Tryz.func318.trans (congrArg some (by kernel_rfl))
 f268 := Tryz.func319.trans (congrArg some (by kernel_rfl))
 f314 := Tryz.func361.trans (congrArg some (by kernel_rfl))
 t0 := Tryz.underlying0
 a0 := Tryz.isAgg0
 z0 := Tryz.sizeOf0
 v0 := Tryz.zeroValue0
 t3 := Tryz.underlying3
 a3 := Tryz.isAgg3
 z3 := Tryz.sizeOf3
 v3 := Tryz.zeroValue3
 t4 := Tryz.underlying4
 a4 := Tryz.isAgg4
 z4 := Tryz.sizeOf4
 v4 := Tryz.zeroValue4
 t5 := Tryz.underlying5
 a5 := Tryz.isAgg5
 z5 := Tryz.sizeOf5
 v5 := Tryz.zeroValue5
 t9 := Tryz.underlying9
 a9 := Tryz.isAgg9
 z9 := Tryz.sizeOf9
 v9 := Tryz.zeroValue9
 t21 := Tryz.underlying21
 a21 := Tryz.isAgg21
 z21 := Tryz.sizeOf21
 v21 := Tryz.zeroValue21
 t31 := Tryz.underlying148
 a31 := Tryz.isAgg148
 z31 := Tryz.sizeOf148
 v31 := Tryz.zeroValue148
 t46 := Tryz.underlying305
 a46 := Tryz.isAgg305
 z46 := Tryz.sizeOf305
 v46 := Tryz.zeroValue305
 t51 := Tryz.underlying432
 a51 := Tryz.isAgg432
 z51 := Tryz.sizeOf432
 v51 := Tryz.zeroValue432
 t105 := Tryz.underlying359
 a105 := Tryz.isAgg359
 z105 := Tryz.sizeOf359
 v105 := Tryz.zeroValue359
 t119 := Tryz.underlying435
 a119 := Tryz.isAgg435
 z119 := Tryz.sizeOf435
 t138 := Tryz.underlying437
 a138 := Tryz.isAgg437
 z138 := Tryz.sizeOf437
 v138 := Tryz.zeroValue437
 t139 := Tryz.underlying438
 a139 := Tryz.isAgg438
 z139 := Tryz.sizeOf438
 v139 := Tryz.zeroValue438
 t146 := Tryz.underlying433
 a146 := Tryz.isAgg433
 z146 := Tryz.sizeOf433
 v146 := Tryz.zeroValue433
 g1 := by kernel_rfl
 g3 := by kernel_rfl
 g4 := by kernel_rfl }
open Go.RowKit Go.Lib in
theorem Tryz.strings_Split (s sep : ByteArray) (m : Int) (w : World) (hs : s.size < 4294967281) (hm : w.cell? ⟨0,0,none⟩ = some (.int .i64 m)) (h1 : 1 ≤ sep.size) :
  Calls Tryz.prog 218 #[.string s, .string sep] w fun e w' =>
   e = .returned (.slice (some ⟨w.heap.size,0,none⟩) (Lib.countB s sep + 1) (Lib.countB s sep + 1)) ∧ w' = w.alloc (.cells ((Lib.splitB sep 0 (Lib.countB s sep) s).map Value.string).toArray 9) := Any.strings_Split Tryz.lays146 (by kernel_rfl) s sep m w hs hm h1
def Tryz.lays155_ren : Go.Shelf.Ren := ⟨fun | 155 => 244 | 154 => 291 | 138 => 320 | 165 => 149 | 143 => 250 | 166 => 150 | 197 => 284 | 169 => 151 | 195 => 362 | 218 => 363 | 240 => 212 | 241 => 213 | 219 => 281 | 260 => 321 | 276 => 277 | 277 => 278 | 217 => 286 | 225 => 228 | 224 => 227 | 267 => 318 | 266 => 326 | 314 => 361 | n => n,fun | 9 => 9 | 3 => 3 | 4 => 4 | 72 => 231 | 0 => 0 | 76 => 234 | 105 => 359 | 21 => 21 | 5 => 5 | 70 => 229 | 20 => 20 | 37 => 59 | 75 => 233 | 127 => 297 | 164 => 355 | 46 => 305 | 119 => 435 | 139 => 438 | 138 => 437 | 146 => 433 | 51 => 432 | 80 => 67 | n => n,fun | 1 => 0 | 3 => 1 | 4 => 2 | n => n⟩
theorem Tryz.lays155 : Go.Proofs.Lays.n155 Tryz.prog Tryz.lays155_ren := {
 mixed := by kernel_rfl
 f138 := Tryz.func320.trans (congrArg some (by kernel_rfl))
 f143 := Tryz.func250.trans (congrArg some (by kernel_rfl))
 f154 := Tryz.func291.trans (congrArg some (by kernel_rfl))
 f155 := Tryz.func244.trans (congrArg some (by kernel_rfl))
 f165 := Tryz.func149.trans (congrArg some (by kernel_rfl))
 f166 := Tryz.func150.trans (congrArg some (by kernel_rfl))
 f169 := Tryz.func151.trans (congrArg some (by kernel_rfl))
 f195 := Tryz.func362.trans (congrArg some (by kernel_rfl))
 f197 := Tryz.func284.trans (congrArg some (by kernel_rfl))
 f217 := Tryz.func286.trans (congrArg some (by kernel_rfl))
 f218 := Tryz.func363.trans (congrArg some (by kernel_rfl))
 f219 := Tryz.func281.trans (congrArg some (by kernel_rfl))
 f224 := Tryz.func227.trans (congrArg some (by kernel_rfl))
 f225 := Tryz.func228.trans (congrArg some (by kernel_rfl))
 f240 := Tryz.func212.trans (congrArg some (by kernel_rfl))
 f241 := Tryz.func213.trans (congrArg some (by kernel_rfl))
 f260 := Tryz.func321.trans (congrArg some (by kernel_rfl))
 f266 := Tryz.func326.trans (congrArg some (by kernel_rfl))
 f267 := Tryz.func318.trans (congrArg some (by kernel_rfl))
 f276 := Tryz.func277.trans (congrArg some (by kernel_rfl))
 f277 := Tryz.func278.trans (congrArg some (by kernel_rfl))
 f314 := Tryz.func361.trans (congrArg some (by kernel_rfl))
 t0 := Tryz.underlying0
 a0 := Tryz.isAgg0
 z0 := Tryz.sizeOf0
 v0 := Tryz.zeroValue0
 t3 := Tryz.underlying3
 a3 := Tryz.isAgg3
 z3 := Tryz.sizeOf3
 v3 := Tryz.zeroValue3
 t4 := Tryz.underlying4
 a4 := Tryz.isAgg4
 z4 := Tryz.sizeOf4
 v4 := Tryz.zeroValue4
 t5 := Tryz.underlying5
 a5 := Tryz.isAgg5
 z5 := Tryz.sizeOf5
 v5 := Tryz.zeroValue5
 t9 := Tryz.underlying9
 a9 := Tryz.isAgg9
 z9 := Tryz.sizeOf9
 v9 := Tryz.zeroValue9
 t20 := Tryz.underlying20
 a20 := Tryz.isAgg20
 z20 := Tryz.sizeOf20
 v20 := Tryz.zeroValue20
 t21 := Tryz.underlying21
 a21 := Tryz.isAgg21
 z21 := Tryz.sizeOf21
 v21 := Tryz.zeroValue21
 t37 := Tryz.underlying59
 a37 := Tryz.isAgg59
 z37 := Tryz.sizeOf59
 v37 := Tryz.zeroValue59
 t46 := Tryz.underlying305
 a46 := Tryz.isAgg305
 z46 := Tryz.sizeOf305
 v46 := Tryz.zeroValue305
 t51 := Tryz.underlying432
 a51 := Tryz.isAgg432
 z51 := Tryz.sizeOf432
 v51 := Tryz.zeroValue432
 t70 := Tryz.underlying229
 a70 := Tryz.isAgg229
 z70 := Tryz.sizeOf229
 v70 := Tryz.zeroValue229
 t72 := Tryz.underlying231
 a72 := Tryz.isAgg231
 z72 := Tryz.sizeOf231
 v72 := Tryz.zeroValue231
 t75 := Tryz.underlying233
 a75 := Tryz.isAgg233
 z75 := Tryz.sizeOf233
 v75 := Tryz.zeroValue233
 t76 := Tryz.underlying234
 a76 := Tryz.isAgg234
 z76 := Tryz.sizeOf234
 v76 := Tryz.zeroValue234
 t105 := Tryz.underlying359
 a105 := Tryz.isAgg359
 z105 := Tryz.sizeOf359
 v105 := Tryz.zeroValue359
 t119 := Tryz.underlying435
 a119 := Tryz.isAgg435
 z119 := Tryz.sizeOf435
 t127 := Tryz.underlying297
 a127 := Tryz.isAgg297
 z127 := Tryz.sizeOf297
 v127 := Tryz.zeroValue297
 t138 := Tryz.underlying437
 a138 := Tryz.isAgg437
 z138 := Tryz.sizeOf437
 v138 := Tryz.zeroValue437
 t139 := Tryz.underlying438
 a139 := Tryz.isAgg438
 z139 := Tryz.sizeOf438
 v139 := Tryz.zeroValue438
 t146 := Tryz.underlying433
 a146 := Tryz.isAgg433
 z146 := Tryz.sizeOf433
 v146 := Tryz.zeroValue433
 t164 := Tryz.underlying355
 a164 := Tryz.isAgg355
 z164 := Tryz.sizeOf355
 v164 := Tryz.zeroValue355
 g1 := by kernel_rfl
 g3 := by kernel_rfl
 g4 := by kernel_rfl }
theorem Tryz.Builder_Extra_155 : Builder.Extra Tryz.prog Tryz.lays155_ren := {
 sizeBuilder := by kernel_rfl
 liesBuilder := by kernel_rfl
 t5 := Tryz.underlying5
 a5 := Tryz.isAgg5
 z5 := Tryz.sizeOf5
 v5 := Tryz.zeroValue5
 infoByte := by kernel_rfl
 cellsByte := by kernel_rfl
 sizeByte := by kernel_rfl
 neB5 := by decide }
open Go.RowKit Go.Lib in
theorem Tryz.strings_ReplaceAll (s old new : ByteArray) (m : Int) (w : World) (hs : s.size < 4294967281) (hm : w.cell? ⟨0,0,none⟩ = some (.int .i64 m)) (h1 : 1 ≤ old.size) (hlen : s.size + Lib.countB s old * new.size ≤ 140737488355328) :
  Calls Tryz.prog 244 #[.string s, .string old, .string new] w fun e w' =>
   e = .returned (.string ⟨(Lib.replaceAll s.data.toList old.data.toList new.data.toList).toArray⟩) ∧ Below w.heap.size w w' := Any.strings_ReplaceAll Tryz.lays155 Tryz.Builder_Extra_155 s old new m w hs hm h1 hlen
def Tryz.lays152_ren : Go.Shelf.Ren := ⟨fun | 152 => 170 | 137 => 225 | 119 => 226 | 224 => 227 | 225 => 228 | 217 => 286 | 266 => 326 | n => n,fun | 9 => 9 | 21 => 21 | 3 => 3 | 4 => 4 | 5 => 5 | 0 => 0 | 46 => 305 | n => n,fun | n => n⟩
theorem Tryz.lays152 : Go.Proofs.Lays.n152 Tryz.prog Tryz.lays152_ren := {
 mixed := by kernel_rfl
 f119 := Tryz.func226.trans (congrArg some (by kernel_rfl))
 f137 := Tryz.func225.trans (congrArg some (by kernel_rfl))
 f152 := Tryz.func170.trans (congrArg some (by kernel_rfl))
 f217 := Tryz.func286.trans (congrArg some (by kernel_rfl))
 f224 := Tryz.func227.trans (congrArg some (by kernel_rfl))
 f225 := Tryz.func228.trans (congrArg some (by kernel_rfl))
 f266 := Tryz.func326.trans (congrArg some (by kernel_rfl))
 t0 := Tryz.underlying0
 a0 := Tryz.isAgg0
 z0 := Tryz.sizeOf0
 v0 := Tryz.zeroValue0
 t3 := Tryz.underlying3
 a3 := Tryz.isAgg3
 z3 := Tryz.sizeOf3
 v3 := Tryz.zeroValue3
 t4 := Tryz.underlying4
 a4 := Tryz.isAgg4
 z4 := Tryz.sizeOf4
 v4 := Tryz.zeroValue4
 t5 := Tryz.underlying5
 a5 := Tryz.isAgg5
 z5 := Tryz.sizeOf5
 v5 := Tryz.zeroValue5
 t9 := Tryz.underlying9
 a9 := Tryz.isAgg9
 z9 := Tryz.sizeOf9
 v9 := Tryz.zeroValue9
 t21 := Tryz.underlying21
 a21 := Tryz.isAgg21
 z21 := Tryz.sizeOf21
 v21 := Tryz.zeroValue21
 t46 := Tryz.underlying305
 a46 := Tryz.isAgg305
 z46 := Tryz.sizeOf305
 v46 := Tryz.zeroValue305 }
open Go.RowKit Go.Lib in
theorem Tryz.strings_IndexRune_ascii (s : ByteArray) (r : Int) (w : World) (h0 : 0 ≤ r) (h1 : r < 128) :
  Calls Tryz.prog 170 #[.string s, .int .i32 r] w fun e w' => e = .returned (.int .i64 (Lib.indexByte s.data.toList r.toNat.toUInt8)) ∧ w' = w := Any.strings_IndexRune_ascii Tryz.lays152 s r w h0 h1
def Tryz.lays226_ren : Go.Shelf.Ren := ⟨fun | 226 => 171 | n => n,fun | 3 => 3 | 4 => 4 | n => n,fun | n => n⟩
theorem Tryz.lays226 : Go.Proofs.Lays.n226 Tryz.prog Tryz.lays226_ren := {
 mixed := by kernel_rfl
 f226 := Tryz.func171.trans (congrArg some (by kernel_rfl))
 t3 := Tryz.underlying3
 a3 := Tryz.isAgg3
 z3 := Tryz.sizeOf3
 v3 := Tryz.zeroValue3
 t4 := Tryz.underlying4
 a4 := Tryz.isAgg4
 z4 := Tryz.sizeOf4
 v4 := Tryz.zeroValue4 }
open Go.RowKit Go.Lib in
theorem Tryz.strings_shouldUseASCIISet (n : Int) (w : World) :
  Calls Tryz.prog 171 #[.int .i64 n] w fun e w' => e = .returned (.bool (decide (8 < n))) ∧ w' = w := Any.strings_shouldUseASCIISet Tryz.lays226 n w
def Tryz.lays153_ren : Go.Shelf.Ren := ⟨fun | 153 => 122 | 152 => 170 | 226 => 171 | 227 => 172 | 228 => 173 | 137 => 225 | 119 => 226 | 224 => 227 | 225 => 228 | 217 => 286 | 266 => 326 | n => n,fun | 9 => 9 | 3 => 3 | 4 => 4 | 5 => 5 | 21 => 21 | 117 => 257 | 116 => 256 | 0 => 0 | 46 => 305 | 124 => 306 | n => n,fun | n => n⟩
theorem Tryz.lays153 : Go.Proofs.Lays.n153 Tryz.prog Tryz.lays153_ren := {
 mixed := by kernel_rfl
 f119 := Tryz.func226.trans (congrArg some (by kernel_rfl))
 f137 := Tryz.func225.trans (congrArg some (by kernel_rfl))
 f152 := Tryz.func170.trans (congrArg some (by kernel_rfl))
 f153 := Tryz.func122.trans (congrArg some (by kernel_rfl))
 f217 := Tryz.func286.trans (congrArg some (by kernel_rfl))
 f224 := Tryz.func227.trans (congrArg some (by kernel_rfl))
 f225 := Tryz.func228.trans (congrArg some (by kernel_rfl))
 f226 := Tryz.func171.trans (congrArg some (by kernel_rfl))
 f227 := Tryz.func172.trans (congrArg some (by kernel_rfl))
 f228 := Tryz.func173.trans (congrArg some (by kernel_rfl))
 f266 := Tryz.func326.trans (congrArg some (by kernel_rfl))
 t0 := Tryz.underlying0
 a0 := Tryz.isAgg0
 z0 := Tryz.sizeOf0
 v0 := Tryz.zeroValue0
 t3 := Tryz.underlying3
 a3 := Tryz.isAgg3
 z3 := Tryz.sizeOf3
 v3 := Tryz.zeroValue3
 t4 := Tryz.underlying4
 a4 := Tryz.isAgg4
 z4 := Tryz.sizeOf4
 v4 := Tryz.zeroValue4
 t5 := Tryz.underlying5
 a5 := Tryz.isAgg5
 z5 := Tryz.sizeOf5
 v5 := Tryz.zeroValue5
 t9 := Tryz.underlying9
 a9 := Tryz.isAgg9
 z9 := Tryz.sizeOf9
 v9 := Tryz.zeroValue9
 t21 := Tryz.underlying21
 a21 := Tryz.isAgg21
 z21 := Tryz.sizeOf21
 v21 := Tryz.zeroValue21
 t46 := Tryz.underlying305
 a46 := Tryz.isAgg305
 z46 := Tryz.sizeOf305
 v46 := Tryz.zeroValue305
 t116 := Tryz.underlying256
 a116 := Tryz.isAgg256
 z116 := Tryz.sizeOf256
 t117 := Tryz.underlying257
 a117 := Tryz.isAgg257
 z117 := Tryz.sizeOf257
 v117 := Tryz.zeroValue257
 t124 := Tryz.underlying306
 a124 := Tryz.isAgg306
 z124 := Tryz.sizeOf306
 v124 := Tryz.zeroValue306 }
open Go.RowKit Go.Lib in
theorem Tryz.strings_IndexAny_none (s chars : ByteArray) (w : World) (h0 : chars.size = 0) :
  Calls Tryz.prog 122 #[.string s, .string chars] w fun e w' => e = .returned (.int .i64 (Lib.indexAny s.data.toList chars.data.toList)) ∧ w' = w := Any.strings_IndexAny_none Tryz.lays153 s chars w h0
open Go.RowKit Go.Lib in
theorem Tryz.strings_IndexAny_one (s chars : ByteArray) (w : World) (h1 : chars.size = 1) (hascii : ∀ (j : Nat) b,chars.data.toList[j]? = some b → b.toNat < 128) :
  Calls Tryz.prog 122 #[.string s, .string chars] w fun e w' => e = .returned (.int .i64 (Lib.indexAny s.data.toList chars.data.toList)) ∧ w' = w := Any.strings_IndexAny_one Tryz.lays153 s chars w h1 hascii
open Go.RowKit Go.Lib in
theorem Tryz.strings_IndexAny_long (hv116 : ∀ w,(zeroValue 256).run Tryz.prog w = .ok (.agg (Array.replicate 256 (.bool false))) w) (s chars : ByteArray) (w : World) (h2 : 2 ≤ chars.size) (h8 : 8 < s.size) (hs : s.size < 4294967281) (hcs : chars.size < 4294967281) (hascii : ∀ (j : Nat) b,chars.data.toList[j]? = some b → b.toNat < 128) :
  Calls Tryz.prog 122 #[.string s, .string chars] w fun e w' => e = .returned (.int .i64 (Lib.indexAny s.data.toList chars.data.toList)) ∧ w' = ((w.alloc (.cells (Lib.setCells chars.data.toList) 256)).alloc (.cells (Lib.setCells chars.data.toList) 256)) := Any.strings_IndexAny_long Tryz.lays153 hv116 (by kernel_rfl) s chars w h2 h8 hs hcs hascii
open Go.RowKit Go.Lib in
theorem Tryz.strings_IndexAny (hv116 : ∀ w,(zeroValue 256).run Tryz.prog w = .ok (.agg (Array.replicate 256 (.bool false))) w) (s chars : ByteArray) (w : World) (hs : s.size < 4294967281) (hcs : chars.size < 4294967281) (has : ∀ (j : Nat) b,s.data.toList[j]? = some b → b.toNat < 128) (hac : ∀ (j : Nat) b,chars.data.toList[j]? = some b → b.toNat < 128) :
  Calls Tryz.prog 122 #[.string s, .string chars] w fun e w' => e = .returned (.int .i64 (Lib.indexAny s.data.toList chars.data.toList)) ∧ Below w.heap.size w w' := Any.strings_IndexAny Tryz.lays153 hv116 (by kernel_rfl) s chars w hs hcs has hac
def Tryz.lays150_ren : Go.Shelf.Ren := ⟨fun | 150 => 79 | 153 => 122 | 152 => 170 | 226 => 171 | 227 => 172 | 228 => 173 | 137 => 225 | 119 => 226 | 224 => 227 | 225 => 228 | 217 => 286 | 266 => 326 | n => n,fun | 9 => 9 | 4 => 4 | 3 => 3 | 5 => 5 | 21 => 21 | 117 => 257 | 116 => 256 | 0 => 0 | 46 => 305 | 124 => 306 | n => n,fun | n => n⟩
theorem Tryz.lays150 : Go.Proofs.Lays.n150 Tryz.prog Tryz.lays150_ren := {
 mixed := by kernel_rfl
 f119 := Tryz.func226.trans (congrArg some (by kernel_rfl))
 f137 := Tryz.func225.trans (congrArg some (by kernel_rfl))
 f150 := Tryz.func79.trans (congrArg some (by kernel_rfl))
 f152 := Tryz.func170.trans (congrArg some (by kernel_rfl))
 f153 := Tryz.func122.trans (congrArg some (by kernel_rfl))
 f217 := Tryz.func286.trans (congrArg some (by kernel_rfl))
 f224 := Tryz.func227.trans (congrArg some (by kernel_rfl))
 f225 := Tryz.func228.trans (congrArg some (by kernel_rfl))
 f226 := Tryz.func171.trans (congrArg some (by kernel_rfl))
 f227 := Tryz.func172.trans (congrArg some (by kernel_rfl))
 f228 := Tryz.func173.trans (congrArg some (by kernel_rfl))
 f266 := Tryz.func326.trans (congrArg some (by kernel_rfl))
 t0 := Tryz.underlying0
 a0 := Tryz.isAgg0
 z0 := Tryz.sizeOf0
 v0 := Tryz.zeroValue0
 t3 := Tryz.underlying3
 a3 := Tryz.isAgg3
 z3 := Tryz.sizeOf3
 v3 := Tryz.zeroValue3
 t4 := Tryz.underlying4
 a4 := Tryz.isAgg4
 z4 := Tryz.sizeOf4
 v4 := Tryz.zeroValue4
 t5 := Tryz.underlying5
 a5 := Tryz.isAgg5
 z5 := Tryz.sizeOf5
 v5 := Tryz.zeroValue5
 t9 := Tryz.underlying9
 a9 := Tryz.isAgg9
 z9 := Tryz.sizeOf9
 v9 := Tryz.zeroValue9
 t21 := Tryz.underlying21
 a21 := Tryz.isAgg21
 z21 := Tryz.sizeOf21
 v21 := Tryz.zeroValue21
 t46 := Tryz.underlying305
 a46 := Tryz.isAgg305
 z46 := Tryz.sizeOf305
 v46 := Tryz.zeroValue305
 t116 := Tryz.underlying256
 a116 := Tryz.isAgg256
 z116 := Tryz.sizeOf256
 t117 := Tryz.underlying257
 a117 := Tryz.isAgg257
 z117 := Tryz.sizeOf257
 v117 := Tryz.zeroValue257
 t124 := Tryz.underlying306
 a124 := Tryz.isAgg306
 z124 := Tryz.sizeOf306
 v124 := Tryz.zeroValue306 }
open Go.RowKit Go.Lib in
theorem Tryz.strings_ContainsAny (hv116 : ∀ w,(zeroValue 256).run Tryz.prog w = .ok (.agg (Array.replicate 256 (.bool false))) w) (s chars : ByteArray) (w : World) (hs : s.size < 4294967281) (hcs : chars.size < 4294967281) (has : ∀ (j : Nat) b,s.data.toList[j]? = some b → b.toNat < 128) (hac : ∀ (j : Nat) b,chars.data.toList[j]? = some b → b.toNat < 128) :
  Calls Tryz.prog 79 #[.string s, .string chars] w fun e w' => e = .returned (.bool (Lib.containsAny s.data.toList chars.data.toList)) ∧ Below w.heap.size w w' := Any.strings_ContainsAny Tryz.lays150 hv116 (by kernel_rfl) s chars w hs hcs has hac
end Go.Proofs
end
section
namespace Go.Dk
open Go.RowKit Go.Dm

inductive Fr where
 | sq (y : Code)
 | ct (K : Act → World → Prop)
 | bk (id : Nat)
def QS (P : Program) (Q0 : Exit → Act → World → Prop) : List Fr → Exit → Act → World → Prop
 | [] => Q0
 | .sq y :: fs => Exit.then (y.wp P (QS P Q0 fs)) (QS P Q0 fs)
 | .ct K :: fs => Exit.then K (QS P Q0 fs)
 | .bk id :: fs => Exit.inBlock id (QS P Q0 fs)
inductive Cur where
 | co (c : Code)
 | op (all : Array Oper) (rest : List Oper)
 | no
 | ex (id : Nat)
 | rt
def wpU (P : Program) (Q0 : Exit → Act → World → Prop) : Cur → List Fr → Act → World → Prop
 | .co c,fs => c.wp P (QS P Q0 fs)
 | .op all rest,fs => wpList P all (QS P Q0 fs) rest
 | .no,fs => QS P Q0 fs .normal
 | .ex id,fs => QS P Q0 fs (.exit id)
 | .rt,fs => QS P Q0 fs .ret

abbrev Kn := List (Nat × Option Bool)
def lkB : Kn → Nat → Option Bool
 | [],_ => none
 | (k,v) :: B,d => bif Nat.beq k d then v else lkB B d
def zyp (d : Nat) (k : Option Bool) (B : Kn) : Kn :=
 match k with
 | some b => (d,some b) :: B
 | none => match lkB B d with
  | some _ => (d,none) :: B
  | none => B
def Kns (B : Kn) (a : Act) : Prop := ∀ d b,lkB B d = some b → a.tmps[d]? = some (.bool b)
def kOf (B : Kn) : Operand → Option Bool
 | .tmp s => lkB B s
 | .const (.bool b) => some b
 | _ => none
def knO (B : Kn) : Op → Option Bool
 | .move x => kOf B x
 | .assign x => kOf B x
 | .pick c x y => match kOf B c with
  | some true => kOf B x
  | some false => kOf B y
  | none => none
 | .unOp .not _ x => match kOf B x with
  | some true => some false
  | some false => some true
  | none => none
 | _ => none

structure Tab where
 und : List (Nat × TypeDesc)
 fa : List (Nat × Nat × Nat)
 ag : List (Nat × Bool)
 sz : List (Nat × Nat)
class TabOk (P : Program) (τ : Tab) : Prop where
 und : ∀ p ∈ τ.und,P.underlying p.1 = some p.2
 fa : ∀ p ∈ τ.fa, ∀ b o w,(Instr.fieldAt p.1 (ptr b o) p.2.1).run P w = .ok (ptr b (o + p.2.2)) w
 ag : ∀ p ∈ τ.ag,zzt P p.1 = some p.2
 sz : ∀ p ∈ τ.sz,zj1 P p.1 = some p.2
def allP {α : Type} (Q : α → Prop) : List α → Prop
 | [] => True
 | x :: l => Q x ∧ allP Q l
theorem zqp {α : Type} {Q : α → Prop} : ∀ {l : List α},allP Q l → ∀ x ∈ l,Q x
 | [],_,x,hx => by cases hx
 | y :: l,h,x,hx => by
  rcases List.mem_cons.1 hx with rfl | hx
  ·exact h.1
  ·exact zqp h.2 x hx
def ass {α : Type} : List (Nat × α) → Nat → Option α
 | [],_ => none
 | (k,v) :: l,t => bif Nat.beq k t then some v else ass l t
def offs : List (Nat × Nat × Nat) → Nat → Nat → Option Nat
 | [],_,_ => none
 | (k,j,v) :: l,t,i => bif Nat.beq k t then bif Nat.beq j i then some v else offs l t i else offs l t i
theorem zox {α : Type} : ∀ {l : List (Nat × α)} {t : Nat} {v : α},ass l t = some v → (t,v) ∈ l
 | [],_,_,h => by cases h
 | (k,u) :: l,t,v,h => by
  simp only [ass] at h
  by_cases e : Nat.beq k t = true
  ·simp only [e,cond_true,Option.some.injEq] at h
   have : k = t := by simpa using e
   subst this; subst h
   exact List.mem_cons_self ..
  ·simp only [e] at h
   exact List.mem_cons_of_mem _ (zox h)
theorem zwZ : ∀ {l : List (Nat × Nat × Nat)} {t i v : Nat},offs l t i = some v → (t,i,v) ∈ l
 | [],_,_,_,h => by cases h
 | (k,j,u) :: l,t,i,v,h => by
  simp only [offs] at h
  by_cases e : Nat.beq k t = true
  ·by_cases e2 : Nat.beq j i = true
   ·simp only [e,e2,cond_true,Option.some.injEq] at h
    have h1 : k = t := by simpa using e
    have h2 : j = i := by simpa using e2
    subst h1; subst h2; subst h
    exact List.mem_cons_self ..
   ·simp only [e,e2,cond_true] at h
    exact List.mem_cons_of_mem _ (zwZ h)
  ·simp only [e] at h
   exact List.mem_cons_of_mem _ (zwZ h)
def nth {α : Type} : List α → Nat → Option α
 | [],_ => none
 | x :: _,0 => some x
 | _ :: l,n + 1 => nth l n
theorem zoy {α : Type} : ∀ (l : List α) (n : Nat),nth l n = l[n]?
 | [],_ => by simp [nth]
 | _ :: _,0 => by simp [nth]
 | _ :: l,n + 1 => by simp [nth,zoy l n]

def cmpI (o : BinOp) (m n : Int) : Option Value :=
 match o with
 | .eql => some (.bool (m == n))
 | .neq => some (.bool (!(m == n)))
 | .lss => some (.bool (decide (m < n)))
 | .leq => some (.bool (decide (m ≤ n)))
 | .gtr => some (.bool (decide (n < m)))
 | .geq => some (.bool (decide (n ≤ m)))
 | _ => none
def evO (τ : Tab) (E : Env) (B : Kn) : Op → Option Value
 | .move x => evl E x
 | .assign x => evl E x
 | .pick c x y => match kOf B c with
  | some true => evl E x
  | some false => evl E y
  | none => none
 | .unOp .not _ x => match evl E x with
  | some (.bool b) => some (.bool (!b))
  | _ => none
 | .binOp o _ x y _ => match evl E x with
  | some (.int .i64 m) => match evl E y with
   | some (.int .i64 n) => cmpI o m n
   | _ => none
  | some (.string ⟨⟨l⟩⟩) => match evl E y with
   | some (.string ⟨⟨m⟩⟩) => match o with
    | .eql => some (.bool (l == m))
    | .neq => some (.bool (!(l == m)))
    | _ => none
   | _ => none
  | _ => none
 | .extract x i => match evl E x with
  | some (.tuple ⟨l⟩) => nth l i
  | _ => none
 | .nilCheck x => match evl E x with
  | some (.pointer (some ad)) => some (.pointer (some ad))
  | _ => none
 | .fieldAddr t x i => match evl E x with
  | some (.pointer (some ⟨b,o,none⟩)) => match offs τ.fa t i with
   | some f => some (.pointer (some ⟨b,o + f,none⟩))
   | none => none
  | _ => none
 | .call ⟨.builtin .len,⟨[x]⟩,⟨[t]⟩⟩ => match ass τ.und t with
  | some .string => match evl E x with
   | some (.string ⟨⟨l⟩⟩) => some (.int .i64 l.length)
   | _ => none
  | some (.slice _) => match evl E x with
   | some (.slice _ n _) => some (.int .i64 n)
   | _ => none
  | _ => none
 | _ => none

section
variable {P : Program} {τ : Tab} {N : Nat} {E : Env} {B : Kn} {a : Act} {w : World}

theorem zhW (hB : Kns B a) {x : Operand} {b : Bool} (h : kOf B x = some b) : a.eval x = .bool b := by
 cases x with
 | tmp s => have := hB s b h; simp [Act.eval,Array.getD_eq_getD_getElem?,this]
 | const c =>
  cases c <;> first | (simp [kOf] at h; done) | skip
  simp only [kOf,Option.some.injEq] at h
  subst h; rfl
 | global g => simp [kOf] at h
 | func f => simp [kOf] at h

theorem evO_ok [hτ : TabOk P τ] {o : Oper} {v : Value} (hf : Fits N E a) (hB : Kns B a) (h : evO τ E B o.op = some v) :
  (execOp a.eval o).run P w = .ok (.value v) w ∧ ∀ b,knO B o.op = some b → v = .bool b := by
 obtain ⟨dst,op,t,p,af,gd⟩ := o
 dsimp only at h ⊢
 unfold evO at h
 split at h
 ·exact ⟨zD3 hf h,fun b hb => (hf.ev h).symm.trans (zhW hB hb)⟩
 ·exact ⟨zzl hf h,fun b hb => (hf.ev h).symm.trans (zhW hB hb)⟩
 ·rename_i c x y
  split at h
  ·rename_i hc
   refine ⟨?_,fun b hb => ?_⟩
   ·simp only [execOp]; rw [zhW hB hc,hf.ev h]; simp [asBool]
   ·simp only [knO,hc] at hb; exact (hf.ev h).symm.trans (zhW hB hb)
  ·rename_i hc
   refine ⟨?_,fun b hb => ?_⟩
   ·simp only [execOp]; rw [zhW hB hc,hf.ev h]; simp [asBool]
   ·simp only [knO,hc] at hb; exact (hf.ev h).symm.trans (zhW hB hb)
  ·cases h
 ·rename_i ti x
  split at h
  ·rename_i b hx
   obtain rfl := Option.some.inj h
   refine ⟨zCO hf hx,fun b' hb => ?_⟩
   simp only [knO] at hb
   split at hb
   ·rename_i hk
    have := (hf.ev hx).symm.trans (zhW hB hk)
    cases this; cases hb; rfl
   ·rename_i hk
    have := (hf.ev hx).symm.trans (zhW hB hk)
    cases this; cases hb; rfl
   ·cases hb
  ·cases h
 ·rename_i bo ti x y ty
  refine ⟨?_,fun b hb => by simp [knO] at hb⟩
  split at h
  ·rename_i m hx
   split at h
   ·rename_i n hy
    cases bo <;> first | (cases h; done) | skip
    ·obtain rfl := Option.some.inj h; exact zGo hf hx hy
    ·obtain rfl := Option.some.inj h; exact zCP hf hx hy
    ·obtain rfl := Option.some.inj h; exact zGp hf hx hy
    ·obtain rfl := Option.some.inj h; exact zGq hf hx hy
    ·obtain rfl := Option.some.inj h; exact zGr hf hx hy
    ·obtain rfl := Option.some.inj h; exact zGs hf hx hy
   ·cases h
  ·rename_i l hx
   split at h
   ·rename_i m hy
    split at h
    ·obtain rfl := Option.some.inj h; exact zBz hf hx hy
    ·obtain rfl := Option.some.inj h; exact zBA hf hx hy
    ·cases h
   ·cases h
  ·cases h
 ·rename_i x i
  refine ⟨?_,fun b hb => by simp [knO] at hb⟩
  split at h
  ·rename_i l hx
   exact zs5 hf hx (by rw [zoy] at h; simpa using h)
  ·cases h
 ·refine ⟨?_,fun b hb => by simp [knO] at hb⟩
  split at h
  ·rename_i ad hx
   obtain rfl := Option.some.inj h
   exact zqO hf hx
  ·cases h
 ·refine ⟨?_,fun b hb => by simp [knO] at hb⟩
  split at h
  ·rename_i b o hx
   split at h
   ·rename_i f ho
    obtain rfl := Option.some.inj h
    exact zE7 (fun b o w => hτ.fa _ (zwZ ho) b o w) hf hx
   ·cases h
  ·cases h
 ·refine ⟨?_,fun b hb => by simp [knO] at hb⟩
  split at h
  ·rename_i ht
   split at h
   ·rename_i l hx
    obtain rfl := Option.some.inj h
    exact zBB (hτ.und _ (zox ht)) hf hx
   ·cases h
  ·rename_i e ht
   split at h
   ·rename_i n c hx
    obtain rfl := Option.some.inj h
    exact zn1 (hτ.und _ (zox ht)) hf hx
   ·cases h
  ·cases h
 ·cases h

def gd (all : Array Oper) (E : Env) (B : Kn) : Option (Nat × Bool) → Option Bool
 | none => some true
 | some (j,b) => match nth all.toList j with
  | some ⟨some s,_,_,_,_,_⟩ => match lkB B s with
   | some b' => some (b' == b)
   | none => match look E s with
    | some (.tuple ⟨[]⟩) => some false
    | _ => none
  | _ => none
theorem zFe {all : Array Oper} {o : Oper} {m : Bool} (hf : Fits N E a) (hB : Kns B a) (h : gd all E B o.guard = some m) : Region.wanted o (yielded all a.tmps) = m := by
 unfold gd at h
 split at h
 ·rename_i hg
  obtain rfl := Option.some.inj h
  simp [Region.wanted,hg]
 ·rename_i j b hg
  split at h
  ·rename_i s _ _ _ _ _ hs
   rw [zoy] at hs
   have hs' : (all[j]?).bind (·.dst) = some s := by rw [← Array.getElem?_toList,hs]; rfl
   split at h
   ·rename_i b' hb'
    obtain rfl := Option.some.inj h
    have hy : yielded all a.tmps j = some b' := by simp [yielded,hs',hB s _ hb']
    cases b <;> cases b' <;> simp [Region.wanted,hg,hy]
   ·split at h
    ·rename_i hu
     obtain rfl := Option.some.inj h
     have hy : yielded all a.tmps j = none := by simp [yielded,hs',hf.has s _ hu]
     simp [Region.wanted,hg,hy]
    ·cases h
  ·cases h

abbrev Cfg := Cur × List Fr × Env × Kn
def zCh (τ : Tab) (N : Nat) (all : Array Oper) (o : Oper) (rest : List Oper) (fs : List Fr) (E : Env) (B : Kn) : Option Cfg :=
 match gd all E B o.guard with
 | some true => match evO τ E B o.op with
  | some v => match o.dst with
   | some d => match Nat.blt d N with
    | true => match zyp d (knO B o.op) B with
     | [] => some (.op all rest,fs,(d,v) :: E,[])
     | k :: B' => some (.op all rest,fs,(d,v) :: E,k :: B')
    | false => none
   | none => some (.op all rest,fs,E,B)
  | none => none
 | some false => match o.dst with
  | some d => match Nat.blt d N with
   | true => match zyp d none B with
    | [] => some (.op all rest,fs,(d,undef) :: E,[])
    | k :: B' => some (.op all rest,fs,(d,undef) :: E,k :: B')
   | false => none
  | none => some (.op all rest,fs,E,B)
 | none => none
def step (τ : Tab) (N : Nat) (E : Env) (B : Kn) : Cur → List Fr → Option Cfg
 | .co .skip,fs => some (.no,fs,E,B)
 | .co (.seq x y),fs => some (.co x, .sq y :: fs,E,B)
 | .co (.region _ ops false),fs => some (.op ops ops.toList,fs,E,B)
 | .co (.cond c x y),fs => match kOf B c with
  | some true => some (.co x,fs,E,B)
  | some false => some (.co y,fs,E,B)
  | none => none
 | .co (.block id c),fs => some (.co c, .bk id :: fs,E,B)
 | .co (.exit id),fs => some (.ex id,fs,E,B)
 | .co .ret,fs => some (.rt,fs,E,B)
 | .no, .sq y :: fs => some (.co y,fs,E,B)
 | .no, .bk _ :: fs => some (.no,fs,E,B)
 | .ex id, .sq _ :: fs => some (.ex id,fs,E,B)
 | .ex id, .ct _ :: fs => some (.ex id,fs,E,B)
 | .ex id, .bk i :: fs => match Nat.beq id i with
  | true => some (.no,fs,E,B)
  | false => some (.ex id,fs,E,B)
 | .rt,_ :: fs => some (.rt,fs,E,B)
 | .op _ [],fs => some (.no,fs,E,B)
 | .op all (o :: rest),fs => zCh τ N all o rest fs E B
 | _,_ => none
def zpv (τ : Tab) (N : Nat) : Nat → Cur → List Fr → Env → Kn → Cfg
 | 0,c,fs,E,B => (c,fs,E,B)
 | n + 1,c,fs,E,B => match step τ N E B c fs with
  | some (c',fs',E',B') => zpv τ N n c' fs' E' B'
  | none => (c,fs,E,B)

variable {Q0 : Exit → Act → World → Prop}

theorem zFf {d : Nat} {k : Option Bool} {d' : Nat} {b : Bool} (h : lkB (zyp d k B) d' = some b) : (d = d' ∧ k = some b) ∨ (d ≠ d' ∧ lkB B d' = some b) := by
 unfold zyp at h
 by_cases e : d = d'
 ·subst e
  left
  split at h
  ·simp [lkB] at h; exact ⟨rfl,by rw [h]⟩
  ·split at h
   ·simp [lkB] at h
   ·rename_i hn; rw [hn] at h; cases h
 ·right
  refine ⟨e,?_⟩
  have hb : Nat.beq d d' = false := zbA.2 e
  split at h
  ·simpa [lkB,hb] using h
  ·split at h
   ·simpa [lkB,hb] using h
   ·exact h
theorem Kns.put (hf : Fits N E a) (hB : Kns B a) {d : Nat} (hd : Nat.blt d N = true) {v : Value} {k : Option Bool} (hk : ∀ b,k = some b → v = .bool b) : Kns (zyp d k B) (a.put (some d) v) := by
 intro d' b h
 have hd' : d < a.tmps.size := by rw [hf.size]; simpa [Nat.blt_eq] using hd
 rcases zFf h with ⟨rfl,hkb⟩ | ⟨hne,hb⟩
 ·simp [Act.put,hd',hk b hkb]
 ·simp [Act.put,hne,hB d' b hb]
theorem Kns.nil : Kns [] a := fun _ _ h => by cases h

theorem zzy {Q : Exit → Act → World → Prop} {all : Array Oper} {rest : List Oper} {o : Oper} {v : Value} (hg : Region.wanted o (yielded all a.tmps) = true) (hx : (execOp a.eval o).run P w = .ok (.value v) w)
  (hk : wpList P all Q rest (a.put o.dst v) w) : wpList P all Q (o :: rest) a w := by
 unfold wpList
 rw [if_pos hg]
 left
 unfold Oper.wp
 rw [hx]
 exact hk
theorem zFg {Q : Exit → Act → World → Prop} {all : Array Oper} {rest : List Oper} {o : Oper} (hg : Region.wanted o (yielded all a.tmps) = false)
  (hk : wpList P all Q rest (a.put o.dst undef) w) : wpList P all Q (o :: rest) a w := by
 unfold wpList
 rw [if_neg (by simp [hg])]
 exact hk
theorem zHh {Q : Exit → Act → World → Prop} {all : Array Oper} {rest : List Oper} {dst : Option Nat} {op : Op} {t : Nat} {p : String} {af : Array Edge} {g : Option (Nat × Bool)}
  (hg : Region.wanted ⟨dst,op,t,p,af,g⟩ (yielded all a.tmps) = true) (hk : wpList P all Q (⟨dst,op,t,p,af,none⟩ :: rest) a w) : wpList P all Q (⟨dst,op,t,p,af,g⟩ :: rest) a w := by
 unfold wpList at hk ⊢
 rw [if_pos hg]
 rw [if_pos (by simp [Region.wanted])] at hk
 exact hk

theorem zEl [TabOk P τ] {all : Array Oper} {o : Oper} {rest : List Oper} {fs : List Fr} {c : Cfg} (h : zCh τ N all o rest fs E B = some c) (hf : Fits N E a) (hB : Kns B a)
  (k : ∀ a,Fits N c.2.2.1 a → Kns c.2.2.2 a → wpU P Q0 c.1 c.2.1 a w) : wpU P Q0 (.op all (o :: rest)) fs a w := by
 unfold zCh at h
 split at h
 ·rename_i hg
  have hw := zFe hf hB hg
  split at h
  ·rename_i v hv
   obtain ⟨hx,hkn⟩ := evO_ok (P := P) (w := w) hf hB hv
   split at h
   ·rename_i d hd
    split at h
    ·rename_i hN
     have hs := Kns.put hf hB hN (v := v) hkn
     refine zzy hw hx ?_
     rw [hd]
     split at h <;> (obtain rfl := Option.some.inj h; rename_i e; rw [e] at hs; exact k _ (hf.put hN _) hs)
    ·cases h
   ·rename_i hd
    obtain rfl := Option.some.inj h
    refine zzy hw hx ?_
    rw [hd]
    exact k _ hf hB
  ·cases h
 ·rename_i hg
  have hw := zFe hf hB hg
  refine zFg hw ?_
  split at h
  ·rename_i d hd
   split at h
   ·rename_i hN
    have hs := Kns.put hf hB hN (v := undef) (k := none) (fun b h => by cases h)
    rw [hd]
    split at h <;> (obtain rfl := Option.some.inj h; rename_i e; rw [e] at hs; exact k _ (hf.put hN _) hs)
   ·cases h
  ·rename_i hd
   obtain rfl := Option.some.inj h
   rw [hd]
   exact k _ hf hB
 ·cases h
theorem zHi [TabOk P τ] {cu : Cur} {fs : List Fr} {c : Cfg} (h : step τ N E B cu fs = some c) (hf : Fits N E a) (hB : Kns B a)
  (k : ∀ a,Fits N c.2.2.1 a → Kns c.2.2.2 a → wpU P Q0 c.1 c.2.1 a w) : wpU P Q0 cu fs a w := by
 unfold step at h
 split at h
 ·obtain rfl := Option.some.inj h; exact wp_skip (k a hf hB)
 ·obtain rfl := Option.some.inj h; exact wp_seq (k a hf hB)
 ·obtain rfl := Option.some.inj h; exact wp_region_list (k a hf hB)
 ·split at h
  ·rename_i hc; obtain rfl := Option.some.inj h; exact wp_cond_true (zhW hB hc) (k a hf hB)
  ·rename_i hc; obtain rfl := Option.some.inj h; exact wp_cond_false (zhW hB hc) (k a hf hB)
  ·cases h
 ·obtain rfl := Option.some.inj h; exact wp_block (k a hf hB)
 ·obtain rfl := Option.some.inj h; exact wp_exit (k a hf hB)
 ·obtain rfl := Option.some.inj h; exact wp_ret (k a hf hB)
 ·obtain rfl := Option.some.inj h; exact k a hf hB
 ·obtain rfl := Option.some.inj h; exact k a hf hB
 ·obtain rfl := Option.some.inj h; exact k a hf hB
 ·obtain rfl := Option.some.inj h; exact k a hf hB
 ·rename_i id i fs
  split at h
  ·rename_i e
   obtain rfl := Option.some.inj h
   have e' : id = i := by simpa using e
   subst e'
   exact zuY (k a hf hB)
  ·rename_i e
   obtain rfl := Option.some.inj h
   exact zuZ e (k a hf hB)
 ·rename_i f fs
  obtain rfl := Option.some.inj h
  cases f with
  | sq y => exact k a hf hB
  | ct K => exact k a hf hB
  | bk id => exact k a hf hB
 ·obtain rfl := Option.some.inj h; exact k a hf hB
 ·exact zEl h hf hB k
 ·cases h
theorem zgk [TabOk P τ] : ∀ {n : Nat} {c c' : Cur} {fs fs' : List Fr} {E E' : Env} {B B' : Kn} {a : Act},zpv τ N n c fs E B = (c',fs',E',B') → Fits N E a → Kns B a →
  (∀ a,Fits N E' a → Kns B' a → wpU P Q0 c' fs' a w) → wpU P Q0 c fs a w
 | 0,c,c',fs,fs',E,E',B,B',a,h,hf,hB,k => by cases h; exact k a hf hB
 | n + 1,c,c',fs,fs',E,E',B,B',a,h,hf,hB,k => by
  unfold zpv at h
  split at h
  ·rename_i h1
   exact zHi h1 hf hB fun a hf hB => zgk h hf hB k
  ·cases h; exact k a hf hB
end

def S (P : Program) (τ : Tab) (N : Nat) {ρ : Type} (R : ρ) (Q0 : Exit → Act → World → Prop) (w0 : World) (F : List Nat) (c : Cur) (fs : List Fr) (E : Env) (B : Kn) (L : List Res) (M : Option ρ) : Prop :=
 ∀ a w,Fits N E a → Kns B a → Own w0 F w L → M = some R → wpU P Q0 c fs a w
def far : Nat := 100000000

section
variable {P : Program} {τ : Tab} {N : Nat} {Q0 : Exit → Act → World → Prop} {w0 : World} {F : List Nat} {ρ α : Type} {R : ρ} {c c' : Cur} {fs fs' : List Fr} {E E' : Env} {B B' : Kn} {L : List Res} {M : Option ρ}
variable {all : Array Oper} {rest : List Oper} {d : Nat} {o : Oper}

theorem S.at [TabOk P τ] (h : zpv τ N far c fs E B = (c',fs',E',B')) (k : S P τ N R Q0 w0 F c' fs' E' B' L M) : S P τ N R Q0 w0 F c fs E B L M :=
 fun _ w hf hB hO hm => zgk h hf hB fun a hf hB => k a w hf hB hO hm
theorem S.enter (τ : Tab) {f : FuncId} {fn : Func} {co : Code} {vs : List Value} {Rp : Ending → World → Prop}
  (hf : P.funcs[f]? = some fn) (hb : fn.body = some co) (hN : fn.ntmps = N) (hv : Nat.ble vs.length N = true)
  (h : S P τ N R (bodyPost P fn Rp) w0 F (.co co) [] (params 0 vs) [] L M) (hO : Own w0 F w0 L) (hm : M = some R) : Calls P f vs.toArray w0 Rp :=
 zBo hf hb hN hv fun a hf => h a w0 hf Kns.nil hO hm
theorem S.op (τ : Tab) {a : Act} {w : World} (h : S P τ N R Q0 w0 F (.op all rest) fs E [] L M) (hf : Fits N E a) (hO : Own w0 F w L) (hm : M = some R) : wpList P all (QS P Q0 fs) rest a w := h a w hf Kns.nil hO hm
theorem S.co (τ : Tab) {a : Act} {w : World} {co : Code} (h : S P τ N R Q0 w0 F (.co co) fs E [] L M) (hf : Fits N E a) (hO : Own w0 F w L) (hm : M = some R) : co.wp P (QS P Q0 fs) a w := h a w hf Kns.nil hO hm
theorem S.no (τ : Tab) {a : Act} {w : World} (h : S P τ N R Q0 w0 F .no fs E [] L M) (hf : Fits N E a) (hO : Own w0 F w L) (hm : M = some R) : QS P Q0 fs .normal a w := h a w hf Kns.nil hO hm

def nxO (τ : Tab) (N : Nat) (c : Cur) (fs : List Fr) (E : Env) (B : Kn) : Option (Array Oper × Oper × List Oper × List Fr × Env × Kn) :=
 match zpv τ N far c fs E B with
 | (.op all (o :: rest),fs,E,B) => match gd all E B o.guard with
  | some true => match o with
   | ⟨dst,op,t,p,af,_⟩ => some (all,⟨dst,op,t,p,af,none⟩,rest,fs,E,B)
  | _ => none
 | _ => none
theorem zuK [TabOk P τ] {a : Act} {w : World} (h : nxO τ N c fs E B = some (all,o,rest,fs',E',B')) (hf : Fits N E a) (hB : Kns B a)
  (k : ∀ a,Fits N E' a → Kns B' a → wpList P all (QS P Q0 fs') (o :: rest) a w) : wpU P Q0 c fs a w := by
 unfold nxO at h
 split at h
 ·rename_i hd
  split at h
  ·rename_i hg
   obtain ⟨dst,op,t,p,af,g⟩ := ‹Oper›
   cases h
   exact zgk hd hf hB fun a hf hB => zHh (zFe hf hB hg) (k a hf hB)
  ·cases h
 ·cases h
theorem rw_ [TabOk P τ] (h : nxO τ N c fs E B = some (all,o,rest,fs',E',B'))
  (k : ∀ a w,Fits N E' a → Own w0 F w L → M = some R → wpList P all (QS P Q0 fs') (o :: rest) a w) : S P τ N R Q0 w0 F c fs E B L M :=
 fun _ w hf hB hO hm => zuK h hf hB fun a hf _ => k a w hf hO hm
theorem rc_ [TabOk P τ] {co : Code} (h : zpv τ N far c fs E B = (.co co,fs',E',B'))
  (k : ∀ a w,Fits N E' a → Own w0 F w L → M = some R → co.wp P (QS P Q0 fs') a w) : S P τ N R Q0 w0 F c fs E B L M :=
 fun _ w hf hB hO hm => zgk h hf hB fun a hf _ => k a w hf hO hm
theorem vl [TabOk P τ] {op : Op} {t : Nat} {p : String} {af : Array Edge} {v : Value} (h : nxO τ N c fs E B = some (all,⟨some d,op,t,p,af,none⟩,rest,fs',E',B')) (hd : Nat.blt d N = true)
  (hx : ∀ a w,Fits N E' a → Own w0 F w L → (execOp a.eval ⟨some d,op,t,p,af,none⟩).run P w = .ok (.value v) w)
  (k : S P τ N R Q0 w0 F (.op all rest) fs' ((d,v) :: E') (zyp d none B') L M) : S P τ N R Q0 w0 F c fs E B L M :=
 fun _ w hf hB hO hm => zuK h hf hB fun a hf hB => zzy (by simp [Region.wanted]) (hx a w hf hO) (k _ w (hf.put hd _) (Kns.put hf hB hd fun _ e => by cases e) hO hm)
def zwD (L : List Res) (i : Nat) : Option (Nat × List Value) := match nth L i with
 | some (.blk b cs _) => some (b,cs)
 | some (.shr (some ⟨b,0,none⟩) cs) => some (b,cs)
 | _ => none
theorem zCi {w : World} {L : List Res} {i b : Nat} {cs : List Value} (hO : Own w0 F w L) (h : zwD L i = some (b,cs)) : zdi w (some ⟨b,0,none⟩) cs := by
 unfold zwD at h
 split at h
 ·rename_i h1
  rw [zoy] at h1
  cases h
  exact hO.blkSees h1
 ·rename_i h1
  rw [zoy] at h1
  cases h
  exact hO.sees h1
 ·cases h
def cut (l : List Value) : Nat → Nat → Option (List Value)
 | _,0 => some []
 | o,n + 1 => match nth l o with
  | some v => match cut l (o + 1) n with
   | some r => some (v :: r)
   | none => none
  | none => none
theorem cut_ok {l : List Value} : ∀ {n o : Nat} {r : List Value},cut l o n = some r → (l.drop o).take n = r ∧ r.length = n
 | 0,o,r,h => by cases h; simp
 | n + 1,o,r,h => by
  unfold cut at h
  split at h
  ·rename_i v hv
   split at h
   ·rename_i r' hr
    cases h
    obtain ⟨h1,h2⟩ := cut_ok hr
    rw [zoy] at hv
    have hlt : o < l.length := (List.getElem?_eq_some_iff.1 hv).1
    rw [List.drop_eq_getElem_cons hlt,List.take_succ_cons,h1]
    have : l[o] = v := (List.getElem?_eq_some_iff.1 hv).2
    exact ⟨by rw [this],by simp [h2]⟩
   ·cases h
  ·cases h
def ldV (τ : Tab) (cs : List Value) (t o : Nat) : Option Value := match ass τ.ag t with
 | some false => nth cs o
 | some true => match ass τ.sz t with
  | some n => match cut cs o n with
   | some vs => some (.agg ⟨vs⟩)
   | none => none
  | none => none
 | none => none
def one1 : Value → Bool
 | .agg _ => false
 | .tuple _ => false
 | _ => true
def zv2 (cs vs : List Value) : Nat → Option (List Value)
 | 0 => over cs vs
 | o + 1 => match cs with
  | [] => none
  | c :: cs => match zv2 cs vs o with
   | some r => some (c :: r)
   | none => none
where over : List Value → List Value → Option (List Value)
 | cs,[] => some cs
 | _ :: cs,v :: vs => match over cs vs with
  | some r => some (v :: r)
  | none => none
 | [],_ :: _ => none
theorem zDz : ∀ {vs cs r : List Value},zv2.over cs vs = some r → r = vs ++ cs.drop vs.length ∧ vs.length ≤ cs.length
 | [],cs,r,h => by
  unfold zv2.over at h
  cases h; simp
 | v :: vs,[],r,h => by unfold zv2.over at h; cases h
 | v :: vs,c :: cs,r,h => by
  unfold zv2.over at h
  split at h
  ·rename_i r' hr
   cases h
   obtain ⟨h1,h2⟩ := zDz hr
   subst h1
   simp [h2]
  ·cases h
theorem zDA : ∀ {o : Nat} {cs vs r : List Value},zv2 cs vs o = some r → r = cs.take o ++ vs ++ cs.drop (o + vs.length) ∧ o + vs.length ≤ cs.length
 | 0,cs,vs,r,h => by
  unfold zv2 at h
  obtain ⟨h1,h2⟩ := zDz h
  simp [h1,h2]
 | o + 1,[],vs,r,h => by unfold zv2 at h; cases h
 | o + 1,c :: cs,vs,r,h => by
  cases hr : zv2 cs vs o with
  | none => rw [zv2,hr] at h; cases h
  | some r' =>
   rw [zv2,hr] at h
   cases h
   obtain ⟨h1,h2⟩ := zDA hr
   subst h1
   refine ⟨?_,by simp only [List.length_cons]; omega⟩
   rw [show o + 1 + vs.length = (o + vs.length) + 1 by omega,List.take_succ_cons,List.drop_succ_cons]
   rfl
theorem zHk {cs : List Value} {o : Nat} {v : Value} (h : o < cs.length) : cs.take o ++ [v] ++ cs.drop (o + [v].length) = cs.set o v := by
 rw [List.set_eq_take_append_cons_drop,if_pos h]; simp
def setR : List Res → Nat → Res → Option (List Res)
 | [],_,_ => none
 | _ :: L,0,r => some (r :: L)
 | x :: L,i + 1,r => match setR L i r with
  | some l => some (x :: l)
  | none => none
theorem zDB {r : Res} : ∀ {L l : List Res} {i : Nat},setR L i r = some l → l = L.set i r
 | [],_,_,h => by cases h
 | _ :: _,_,0,h => by cases h; rfl
 | x :: L,l,i + 1,h => by
  unfold setR at h
  split at h
  ·rename_i l' hl
   cases h
   rw [List.set_cons_succ, ← zDB hl]
  ·cases h
theorem zHm {v : Value} (h : one1 v = true) : v.oneCell' = true ∧ v.cells = #[v] := by
 cases v <;> first | exact ⟨rfl,rfl⟩ | cases h
def cvs : Value → Option (Bool × List Value)
 | .agg ⟨l⟩ => match l.all one1 with
  | true => some (true,l)
  | false => none
 | .tuple _ => none
 | v => some (false,[v])
def nxS (τ : Tab) (N : Nat) (i : Nat) (L : List Res) (c : Cur) (fs : List Fr) (E : Env) (B : Kn) : Option (Array Oper × List Oper × List Fr × Env × Kn × Nat × Nat × List Res) :=
 match nxO τ N c fs E B with
 | some (all,⟨none, .store t x y,_,_,_,none⟩,rest,fs,E,B) => match evl E x with
  | some (.pointer (some ⟨b,o,none⟩)) => match evl E y with
   | some v => match nth L i with
    | some (.blk b' cs ty) => match cvs v with
     | some (_,vs) => match ass τ.sz t with
      | some n => match Nat.beq n vs.length with
       | true => match zv2 cs vs o with
        | some cs' => match setR L i (.blk b' cs' ty) with
         | some L' => some (all,rest,fs,E,B,b,b',L')
         | none => none
        | none => none
       | false => none
      | none => none
     | none => none
    | _ => none
   | none => none
  | _ => none
 | _ => none
theorem st [hτ : TabOk P τ] (i : Nat) {b b' : Nat} {L' : List Res} (h : nxS τ N i L c fs E B = some (all,rest,fs',E',B',b,b',L')) (hb : b' = b)
  (k : S P τ N R Q0 w0 F (.op all rest) fs' E' B' L' M) : S P τ N R Q0 w0 F c fs E B L M := by
 intro a w hf hB hO hm
 subst hb
 unfold nxS at h
 split at h
 ·rename_i h0
  split at h
  ·rename_i b1 o hx
   split at h
   ·rename_i v hv
    split at h
    ·rename_i b2 cs ty hi
     rw [zoy] at hi
     split at h
     ·rename_i g vs hvs
      split at h
      ·rename_i n hn
       split at h
       ·rename_i hnl
        split at h
        ·rename_i cs' hp
         split at h
         ·rename_i L1 hL
          cases h
          obtain ⟨p1,p2⟩ := zDA hp
          have hnl' : n = vs.length := by simpa using hnl
          refine zuK h0 hf hB fun a hf hB => ?_
          have hk : ∀ w,Own w0 F w (L.set i (.blk b' cs' ty)) → wpList P all (QS P Q0 fs') rest a w := fun w hO' => k a w hf hB (by rw [zDB hL]; exact hO') hm
          have hst := hτ.sz _ (zox hn)
          cases v with
          | agg l =>
           obtain ⟨l⟩ := l
           cases ha : l.all one1 with
           | false => rw [cvs,ha] at hvs; cases hvs
           | true =>
            rw [cvs,ha] at hvs
            cases hvs
            exact zEh (n := n) hst hi (by omega) (by simpa [hnl'] using p2) (fun v hv => (zHm (List.all_eq_true.1 ha v hv)).1) p1 hf hx hv hO hk
          | tuple l => cases hvs
          | _ =>
           cases hvs
           have hn1 : n = 1 := hnl'
           subst hn1
           have ho : o < cs.length := by simp only [List.length_cons,List.length_nil] at p2; omega
           refine zEg (o := o) hst hi (by simpa [Nat.blt_eq] using ho) rfl rfl hf hx hv hO fun w hO' => hk w ?_
           rw [p1,zHk ho]
           exact hO'
         ·cases h
        ·cases h
       ·cases h
      ·cases h
     ·cases h
    ·cases h
   ·cases h
  ·cases h
 ·cases h
def nxA (τ : Tab) (N : Nat) (c : Cur) (fs : List Fr) (E : Env) (B : Kn) : Option (Array Oper × List Oper × List Fr × Env × Kn × Nat × Nat) :=
 match nxO τ N c fs E B with
 | some (all,⟨some d, .alloc ty,_,_,_,none⟩,rest,fs,E,B) => match Nat.blt d N with
  | true => match zyp d none B with
   | [] => some (all,rest,fs,E,[],d,ty)
   | k :: B' => some (all,rest,fs,E,k :: B',d,ty)
  | false => none
 | _ => none
theorem al [TabOk P τ] {ty : Nat} {cs : List Value} (hal : ∀ w,(Instr.alloc ty true (.tuple #[])).run P w = .ok (ptr w.heap.size 0) (w.alloc (.cells cs.toArray ty)))
  (h : nxA τ N c fs E B = some (all,rest,fs',E',B',d,ty)) (k : ∀ b,S P τ N R Q0 w0 F (.op all rest) fs' ((d,ptr b 0) :: E') B' (.blk b cs ty :: L) M) : S P τ N R Q0 w0 F c fs E B L M := by
 intro a w hf hB hO hm
 unfold nxA at h
 split at h
 ·rename_i h0
  split at h
  ·rename_i hN
   refine zuK h0 hf hB fun a hf hB => ?_
   have hs := fun v => Kns.put hf hB hN (v := v) (k := none) (fun b h => by cases h)
   split at h <;> (rename_i e; cases h; rw [e] at hs; exact zxs (v := ptr w.heap.size 0) rfl (by simp only [execOp,Sem.run_bind,hal w,Result.andThen,Sem.run_pure]) (k _ _ _ (hf.put hN _) (hs _) (hO.newBlk cs ty) hm))
  ·cases h
 ·cases h
def nxX (τ : Tab) (N : Nat) (c : Cur) (fs : List Fr) (E : Env) (B : Kn) : Option (Array Oper × List Oper × List Fr × Env × Kn × Nat × Nat × List Value) :=
 match nxO τ N c fs E B with
 | some (all,⟨some d, .box ty x,_,_,_,none⟩,rest,fs,E,B) => match Nat.blt d N with
  | true => match evl E x with
   | some v => match cvs v with
    | some (_,cs) => match zyp d none B with
     | [] => some (all,rest,fs,E,[],d,ty,cs)
     | k :: B' => some (all,rest,fs,E,k :: B',d,ty,cs)
    | none => none
   | none => none
  | false => none
 | _ => none
theorem cvs_ok {v : Value} {g : Bool} {cs : List Value} (h : cvs v = some (g,cs)) : v.cells = cs.toArray := by
 cases v with
 | agg l =>
  obtain ⟨l⟩ := l
  cases ha : l.all one1 with
  | false => rw [cvs,ha] at h; cases h
  | true => rw [cvs,ha] at h; cases h; rfl
 | tuple l => cases h
 | _ => cases h; rfl
theorem bo [TabOk P τ] {ty : Nat} {cs : List Value} (h : nxX τ N c fs E B = some (all,rest,fs',E',B',d,ty,cs))
  (k : ∀ b,S P τ N R Q0 w0 F (.op all rest) fs' ((d,ptr b 0) :: E') B' (.blk b cs ty :: L) M) : S P τ N R Q0 w0 F c fs E B L M := by
 intro a w hf hB hO hm
 unfold nxX at h
 split at h
 ·rename_i h0
  split at h
  ·rename_i hN
   split at h
   ·rename_i v hv
    split at h
    ·rename_i g cs1 hc
     refine zuK h0 hf hB fun a hf hB => ?_
     have hs := fun v => Kns.put hf hB hN (v := v) (k := none) (fun b h => by cases h)
     have hcs := cvs_ok hc
     split at h <;> (rename_i e; cases h; rw [e] at hs; exact zxs (v := ptr w.heap.size 0) (w' := w.alloc (.cells cs.toArray ty)) rfl (by simp only [execOp]; rw [hf.ev hv]; unfold Instr.box newVar; rw [hcs]; simp [newRow,go_sem]) (k _ _ _ (hf.put hN _) (hs _) (hO.newBlk cs ty) hm))
    ·cases h
   ·cases h
  ·cases h
 ·cases h
abbrev Ret {ρ : Type} (w0 : World) (V : ρ → Value) (R : ρ) : Ending → World → Prop := fun e w' => e = .returned (V R) ∧ Below w0.heap.size w0 w'
theorem nl (e sz : Nat) (k : S P τ N R Q0 w0 F c fs E B (.row (.slice none 0 0) e sz 0 [] :: L) M) : S P τ N R Q0 w0 F c fs E B L M :=
 fun a w hf hB hO hm => k a w hf hB (hO.nilRow e sz) hm
def nxC (τ : Tab) (N : Nat) (c : Cur) (fs : List Fr) (E : Env) (B : Kn) : Option (Array Oper × List Oper × List Fr × Env × Kn × Nat × Nat × List Value) :=
 match nxO τ N c fs E B with
 | some (all,⟨some d, .call ⟨.value (.func f),⟨xs⟩,_⟩,_,_,_,none⟩,rest,fs,E,B) => match Nat.blt d N with
  | true => match zyC E xs with
   | some vs => match zyp d none B with
    | [] => some (all,rest,fs,E,[],d,f,vs)
    | k :: B' => some (all,rest,fs,E,k :: B',d,f,vs)
   | none => none
  | false => none
 | _ => none
theorem zEm {Q : Exit → Act → World → Prop} {a : Act} {w : World} {f t : Nat} {p : String} {af : Array Edge} {xs : List Operand} {ats : Array TypeId} {vs : List Value} {K : Ending → World → Prop} (hc : zc1 P f) (hf : Fits N E a) (hB : Kns B a) (hd : Nat.blt d N = true) (hv : zyC E xs = some vs)
  (hw : Calls P f vs.toArray w K) (k : ∀ e w',K e w' → ∃ v,e = .returned v ∧ ∀ a,Fits N ((d,v) :: E) a → Kns (zyp d none B) a → wpList P all Q rest a w') :
  wpList P all Q (⟨some d, .call ⟨.value (.func f),⟨xs⟩,ats⟩,t,p,af,none⟩ :: rest) a w := by
 have hx := zId (w := w) (dst := some d) (t := t) (p := p) (af := af) (gd := none) (ats := ats) hc hf (args := ⟨xs⟩) hv
 unfold wpList
 rw [if_pos (by simp [Region.wanted])]
 left
 unfold Oper.wp
 rw [hx,Oper.upon_enter]
 refine hw.mono fun e w' he => ?_
 obtain ⟨v,rfl,hk⟩ := k e w' he
 exact hk _ (hf.put hd _) (Kns.put hf hB hd fun b h => by cases h)
theorem nxC_ok [TabOk P τ] {a : Act} {w : World} {f : Nat} {vs : List Value} {K : Ending → World → Prop} (hc : zc1 P f) (h : nxC τ N c fs E B = some (all,rest,fs',E',B',d,f,vs)) (hf : Fits N E a) (hB : Kns B a)
  (hw : Calls P f vs.toArray w K) (k : ∀ e w',K e w' → ∃ v,e = .returned v ∧ ∀ a,Fits N ((d,v) :: E') a → Kns B' a → wpList P all (QS P Q0 fs') rest a w') : wpU P Q0 c fs a w := by
 unfold nxC at h
 split at h
 ·rename_i h0
  split at h
  ·rename_i hN
   split at h
   ·rename_i p hp
    refine zuK h0 hf hB fun a hf hB => ?_
    have hs := fun v => Kns.put hf hB hN (v := v) (k := none) (fun b h => by cases h)
    split at h <;> (rename_i e; cases h; refine zEm hc hf hB hN hp hw fun e1 w' he => ?_; rw [e]; exact k e1 w' he)
   ·cases h
  ·cases h
 ·cases h
theorem cl [TabOk P τ] {f : Nat} {vs : List Value} {m : Option α} {g : α → Option ρ} {enc : α → Value} (hc : zc1 P f) (h : nxC τ N c fs E B = some (all,rest,fs',E',B',d,f,vs))
  (hw : ∀ x w,m = some x → Own w0 F w L → Calls P f vs.toArray w (Ret w enc x))
  (k : ∀ x,m = some x → S P τ N R Q0 w0 F (.op all rest) fs' ((d,enc x) :: E') B' L (g x)) : S P τ N R Q0 w0 F c fs E B L (m.bind g) := by
 intro a w hf hB hO hm
 obtain ⟨x,hx,hm⟩ := ob hm
 exact nxC_ok hc h hf hB (hw x w hx hO) fun e w' ⟨he,hb⟩ => ⟨_,he,fun a hf hB => k x hx a w' hf hB (hO.grow hb) hm⟩

def nxB (τ : Tab) (N : Nat) (c : Cur) (fs : List Fr) (E : Env) (B : Kn) : Option (Cur × List Fr × Env × Kn × Nat × Bool) :=
 match zpv τ N far c fs E B with
 | (.co (.cond (.tmp s) x y),fs,E,B) => match look E s with
  | some (.bool b) => some (.co (.cond (.tmp s) x y),fs,E,B,s,b)
  | _ => none
 | (.op all (o :: rest),fs,E,B) => match o.guard with
  | some (j,_) => match nth all.toList j with
   | some ⟨some s,_,_,_,_,_⟩ => match look E s with
    | some (.bool b) => some (.op all (o :: rest),fs,E,B,s,b)
    | _ => none
   | _ => none
  | none => none
 | _ => none
theorem nxB_ok [TabOk P τ] {a : Act} {w : World} {b : Bool} (h : nxB τ N c fs E B = some (c',fs',E',B',d,b)) (hf : Fits N E a) (hB : Kns B a)
  (k : ∀ a,Fits N E' a → Kns ((d,some b) :: B') a → wpU P Q0 c' fs' a w) : wpU P Q0 c fs a w := by
 have key : ∀ {s : Nat} {b : Bool} {a : Act} {E : Env} {B : Kn},Fits N E a → Kns B a → look E s = some (.bool b) → Kns ((s,some b) :: B) a := by
  intro s b a E B hf hB hs d' b' hd
  simp only [lkB] at hd
  by_cases e : Nat.beq s d' = true
  ·have : s = d' := by simpa using e
   subst this
   simp at hd; subst hd
   exact hf.has _ _ hs
  ·simp only [e] at hd
   exact hB _ _ hd
 unfold nxB at h
 split at h
 ·rename_i hd
  split at h
  ·rename_i hs
   cases h
   exact zgk hd hf hB fun a hf hB => k a hf (key hf hB hs)
  ·cases h
 ·rename_i hd
  split at h
  ·split at h
   ·split at h
    ·rename_i hs
     cases h
     exact zgk hd hf hB fun a hf hB => k a hf (key hf hB hs)
    ·cases h
   ·cases h
  ·cases h
 ·cases h
theorem kn [TabOk P τ] {b b' : Bool} (hb : b = b') (h : nxB τ N c fs E B = some (c',fs',E',B',d,b))
  (k : S P τ N R Q0 w0 F c' fs' E' ((d,some b') :: B') L M) : S P τ N R Q0 w0 F c fs E B L M := by
 intro a w hf hB hO hm
 subst hb
 exact nxB_ok h hf hB fun a hf hB => k a w hf hB hO hm

def keys : Env → List Nat
 | [] => []
 | (k,_) :: E => k :: keys E
def zqq (E : Env) : List Nat → Option Env
 | [] => some []
 | k :: ks => match look E k with
  | some v => match zqq E ks with
   | some l => some ((k,v) :: l)
   | none => none
  | none => none
theorem Fits.vals {a : Act} (hf : Fits N E a) : ∀ {ks : List Nat} {E' : Env},zqq E ks = some E' → Fits N E' a
 | [],E',h => by cases h; exact hf.nil
 | k :: ks,E',h => by
  unfold zqq at h
  split at h
  ·rename_i v hv
   split at h
   ·rename_i l hl
    cases h
    exact hf.cons hv (hf.vals hl)
   ·cases h
  ·cases h
theorem Fits.sel {a : Act} (hf : Fits N E a) (h : zqq E (keys E') = some E') : Fits N E' a := hf.vals h
theorem eo [TabOk P τ] {K : Act → World → Prop} (h : zpv τ N far c fs E B = (.no, .ct K :: fs',E',B'))
  (k : ∀ a w,Fits N E' a → Own w0 F w L → M = some R → K a w) : S P τ N R Q0 w0 F c fs E B L M :=
 fun _ w hf hB hO hm => zgk h hf hB fun a hf _ => k a w hf hO hm
abbrev Jp (N : Nat) (w0 : World) (F : List Nat) {ρ : Type} (R : ρ) (a : Act) (w : World) (E : Env) (L : List Res) (M : Option ρ) : Prop := Fits N E a ∧ Own w0 F w L ∧ M = some R
def zAR (L : List Res) : List Nat → Option (List Res)
 | [] => some []
 | i :: is => match nth L i with
  | some r => match zAR L is with
   | some l => some (r :: l)
   | none => none
  | none => none
theorem zAS {L : List Res} : ∀ {is : List Nat} {l : List Res},zAR L is = some l → pick L is = l
 | [],_,h => by cases h; rfl
 | i :: is,l,h => by
  unfold zAR at h
  split at h
  ·rename_i r hr
   split at h
   ·rename_i l' hl
    cases h
    rw [zoy] at hr
    rw [pick,hr]
    dsimp only
    rw [zAS hl]
   ·cases h
  ·cases h
theorem en [TabOk P τ] {K : Act → World → Prop} (h : zpv τ N far c fs E B = (.no, .ct K :: fs',E',B'))
  (k : ∀ a w,(∀ {E2},zqq E' (keys E2) = some E2 → Jp N w0 F R a w E2 L M) → K a w) : S P τ N R Q0 w0 F c fs E B L M :=
 eo h fun a w hf hO hm => k a w fun h => ⟨hf.sel h,hO,hm⟩
def nxW (τ : Tab) (N : Nat) (ks is : List Nat) (L : List Res) (c : Cur) (fs : List Fr) (E : Env) (B : Kn) : Option (Code × List Fr × Env × Kn × Env × List Res) :=
 match zpv τ N far c fs E B with
 | (.co (.loop co),fs,E,B) => match zqq E ks with
  | some Ek => match zAR L is with
   | some Lk => some (co,fs,E,B,Ek,Lk)
   | none => none
  | none => none
 | _ => none
theorem lv [TabOk P τ] (ks is : List Nat) (I : (Env → List Res → Option ρ → Prop) → Env → List Res → Nat → Prop) {co : Code} {Ek : Env} {Lk : List Res}
  (h : nxW τ N ks is L c fs E B = some (co,fs',E',B',Ek,Lk))
  (h0 : ∀ a w,(∀ {E2},zqq E' (keys E2) = some E2 → Jp N w0 F R a w E2 L M) → I (Jp N w0 F R a w) Ek Lk fuel)
  (k : ∀ n a w,I (Jp N w0 F R a w) Ek Lk n → co.wp P (QS P Q0 (.ct (fun a w => ∃ m,m < n ∧ I (Jp N w0 F R a w) Ek Lk m) :: fs')) a w) : S P τ N R Q0 w0 F c fs E B L M := by
 intro a w hf hB hO hm
 unfold nxW at h
 split at h
 ·rename_i hd
  split at h
  ·split at h
   ·cases h
    exact zgk hd hf hB fun a hf _ => zzk (fun n a w => I (Jp N w0 F R a w) Ek Lk n) (fun n a w hI => k n a w hI) fuel (h0 a w fun h => ⟨hf.sel h,hO,hm⟩)
   ·cases h
  ·cases h
 ·cases h
theorem ch (is : List Nat) {L2 : List Res} (hd : zkX is = true) (hp : zAR L is = some L2) (k : S P τ N R Q0 w0 F c fs E B L2 M) : S P τ N R Q0 w0 F c fs E B L M :=
 fun a w hf hB hO hm => k a w hf hB (by rw [← zAS hp]; exact hO.choose is hd) hm
def vsOf (E : Env) : List ResultVar → Option (List Value)
 | [] => some []
 | .tmp t :: rs => match look E t with
  | some v => match vsOf E rs with
   | some vs => some (v :: vs)
   | none => none
  | none => none
 | _ => none
theorem zzz {w : World} : ∀ {rs : List ResultVar} {vs : List Value},vsOf E rs = some vs → ResV P w E rs vs
 | [],vs,h => by cases h; exact .nil
 | .tmp t :: rs,vs,h => by
  unfold vsOf at h
  split at h
  ·rename_i v hv
   split at h
   ·rename_i l hl
    cases h
    exact .tmp hv (zzz hl)
   ·cases h
  ·cases h
 | .cell _ _ :: _,_,h => by cases h
def nxR (τ : Tab) (N : Nat) (rs : List ResultVar) (c : Cur) (fs : List Fr) (E : Env) (B : Kn) : Option Value :=
 match zpv τ N far c fs E B with
 | (.rt,[],E,_) => match vsOf E rs with
  | some vs => some (tup vs)
  | none => none
 | (.no,[],E,_) => match vsOf E rs with
  | some vs => some (tup vs)
  | none => none
 | _ => none
theorem rt [TabOk P τ] {fn : Func} {rs : List ResultVar} {r : ρ} {V : ρ → Value} (hr : fn.results = rs.toArray) (h : nxR τ N rs c fs E B = some (V r)) :
  S P τ N R (bodyPost P fn (Ret w0 V R)) w0 [] c fs E B L (some r) := by
 intro a w hf hB hO hm
 obtain rfl := Option.some.inj hm
 unfold nxR at h
 split at h
 ·rename_i hd
  split at h
  ·rename_i vs hv
   refine zgk hd hf hB fun a hf _ => ?_
   exact zBD (R := fun e w' => e = .returned (V r) ∧ Below w0.heap.size w0 w') hr hf (zzz hv) ⟨by rw [Option.some.inj h],hO.below⟩
  ·cases h
 ·rename_i hd
  split at h
  ·rename_i vs hv
   refine zgk hd hf hB fun a hf _ => ?_
   exact zBE (R := fun e w' => e = .returned (V r) ∧ Below w0.heap.size w0 w') hr hf (zzz hv) ⟨by rw [Option.some.inj h],hO.below⟩
  ·cases h
 ·cases h
end
end Go.Dk
end
section
namespace Go.Dk
open Go.RowKit Go.Dm
section
variable {P : Program} {τ : Tab} {N : Nat} {Q0 : Exit → Act → World → Prop} {w0 : World} {F : List Nat} {ρ α : Type} {R : ρ} {c : Cur} {fs fs' : List Fr} {E E' : Env} {B B' : Kn} {L : List Res} {all : Array Oper} {rest : List Oper} {d f : Nat} {vs : List Value} {m : Option α} {g : α → Option ρ}
def part (n : Nat) (L : List Res) (is : List Nat) : List Res × List Res := ((pick L is).take n,(pick L is).drop n)
theorem Own.part {w : World} (h : Own w0 F w L) (is : List Nat) (n : Nat) (hd : zkX is = true) : Own w0 F w ((Dk.part n L is).1 ++ (Dk.part n L is).2) := by
 unfold Dk.part
 rw [List.take_append_drop]
 exact h.choose is hd
def vsW (τ : Tab) (L : List Res) (E : Env) : List Nat → List ResultVar → Option (List Value × List (Nat × Nat))
 | _,[] => some ([],[])
 | js, .tmp t :: rs => match look E t with
  | some v => match vsW τ L E js rs with
   | some (vs,bs) => some (v :: vs,bs)
   | none => none
  | none => none
 | j :: js, .cell t ty :: rs => match look E t with
  | some (.pointer (some ⟨b,o,none⟩)) => match zwD L j with
   | some (b',cs) => match ldV τ cs ty o with
    | some v => match vsW τ L E js rs with
     | some (vs,bs) => some (v :: vs,(b',b) :: bs)
     | none => none
    | none => none
   | none => none
  | _ => none
 | [], .cell _ _ :: _ => none
def Eqs : List (Nat × Nat) → Prop
 | [] => True
 | p :: l => p.1 = p.2 ∧ Eqs l
theorem zzv [hτ : TabOk P τ] {w : World} (hO : Own w0 F w L) : ∀ {rs : List ResultVar} {js : List Nat} {vs : List Value} {bs : List (Nat × Nat)},vsW τ L E js rs = some (vs,bs) → Eqs bs → ResV P w E rs vs
 | [],js,vs,bs,h,_ => by
  unfold vsW at h
  cases h; exact .nil
 | .tmp t :: rs,js,vs,bs,h,hb => by
  unfold vsW at h
  split at h
  ·rename_i v hv
   split at h
   ·rename_i l bl hl
    cases h
    exact .tmp hv (zzv hO hl hb)
   ·cases h
  ·cases h
 | .cell t ty :: rs,[],vs,bs,h,_ => by
  unfold vsW at h
  cases h
 | .cell t ty :: rs,j :: js,vs,bs,h,hb => by
  unfold vsW at h
  split at h
  ·rename_i b ofs hv
   split at h
   ·rename_i b' cs hc
    split at h
    ·rename_i v hld
     split at h
     ·rename_i l bl hl
      cases h
      have hbb : b' = b := hb.1
      subst hbb
      have hS := zCi hO hc
      refine .cell hv ?_ (zzv hO hl hb.2)
      unfold ldV at hld
      split at hld
      ·rename_i ha
       rw [zoy] at hld
       refine zot (hτ.ag _ (zox ha)) ?_
       have := hS.cell hld
       rwa [Nat.zero_add] at this
      ·rename_i ha
       split at hld
       ·rename_i n hn
        split at hld
        ·rename_i vs hvs
         cases hld
         refine zou (hτ.ag _ (zox ha)) (hτ.sz _ (zox hn)) (cut_ok hvs).2 fun j v hj => ?_
         have := hS.cells (cut_ok hvs).1 j v hj
         rwa [Nat.zero_add] at this
        ·cases hld
       ·cases hld
      ·cases hld
     ·cases h
    ·cases h
   ·cases h
  ·cases h
def nxMr (τ : Tab) (N : Nat) (rs : List ResultVar) (js : List Nat) (L : List Res) (c : Cur) (fs : List Fr) (E : Env) (B : Kn) : Option (List Value × List (Nat × Nat)) :=
 match zpv τ N far c fs E B with
 | (.rt,[],E,_) => vsW τ L E js rs
 | (.no,[],E,_) => vsW τ L E js rs
 | _ => none
theorem rm [TabOk P τ] {fn : Func} {rs : List ResultVar} {r : ρ} {Pr : Ending → World → Prop} {ws : List Value} {bs : List (Nat × Nat)} (hr : fn.results = rs.toArray) (is js : List Nat) (h : nxMr τ N rs js L c fs E B = some (ws,bs))
  (hb : Eqs bs) (hd : zkX is = true) (k : ∀ w,Own w0 F w (pick L is) → r = R → Pr (.returned (tup ws)) w) : S P τ N R (bodyPost P fn Pr) w0 F c fs E B L (some r) := by
 intro a w hf hB hO hm
 have hm := Option.some.inj hm
 unfold nxMr at h
 split at h
 ·rename_i hdr
  exact zgk hdr hf hB fun a hf _ => zBD (R := Pr) hr hf (zzv hO h hb) (k w (hO.choose is hd) hm)
 ·rename_i hdr
  exact zgk hdr hf hB fun a hf _ => zBE (R := Pr) hr hf (zzv hO h hb) (k w (hO.choose is hd) hm)
 ·cases h
theorem rm0 [TabOk P τ] {fn : Func} {rs : List ResultVar} {r : ρ} {Pr : Ending → World → Prop} {ws : List Value} {bs : List (Nat × Nat)} (hr : fn.results = rs.toArray) (is js : List Nat) (h : nxMr τ N rs js L c fs E B = some (ws,bs))
  (hb : Eqs bs := by first | exact trivial | exact ⟨rfl,trivial⟩ | exact ⟨rfl,rfl,trivial⟩ | exact ⟨rfl,rfl,rfl,trivial⟩) (hd : zkX is = true := by rfl) (k : ∀ w,Own w0 F w (pick L is) → r = R → Pr (.returned (tup ws)) w := by intro _ hO h; cases h; first | exact ⟨rfl,hO⟩ | exact ⟨_,rfl,hO⟩ | exact ⟨_,_,rfl,hO⟩ | exact ⟨_,_,_,rfl,hO⟩ | exact ⟨_,_,_,_,rfl,hO⟩ | exact ⟨_,_,_,_,_,rfl,hO⟩ | exact ⟨_,_,_,_,_,_,rfl,hO⟩ | exact ⟨_,_,_,_,_,_,_,rfl,hO⟩ | exact ⟨_,_,_,_,_,_,_,_,rfl,hO⟩ | exact ⟨_,_,_,_,_,_,_,_,_,rfl,hO⟩ | exact ⟨_,_,_,_,_,_,_,_,_,_,rfl,hO⟩ | exact ⟨_,_,_,_,_,_,_,_,_,_,_,rfl,hO⟩ | exact ⟨_,_,_,_,_,_,_,_,_,_,_,_,rfl,hO⟩) : S P τ N R (bodyPost P fn Pr) w0 F c fs E B L (some r) := rm hr is js h hb hd k
theorem Own.addS {w : World} {a : Option Addr} {cs : List Value} (h : Own w [] w L) (hs : zdi w a cs) (hr : ∀ r ∈ L,r.shared = true := by simp [Res.shared]) : Own w [] w (.shr a cs :: L) := h.addShr hs hr
theorem lw [TabOk P τ] {M : Option ρ} (ks is : List Nat) (I : (Env → List Res → Option ρ → Prop) → Env → List Res → Nat → Prop) {co : Code} {Ek : Env} {Lk : List Res}
  (h : nxW τ N ks is L c fs E B = some (co,fs',E',B',Ek,Lk))
  (k : ∀ n a w,I (Jp N w0 F R a w) Ek Lk n → co.wp P (QS P Q0 (.ct (fun a w => ∃ m,m < n ∧ I (Jp N w0 F R a w) Ek Lk m) :: fs')) a w)
  (h0 : ∀ a w,(∀ {E2 L' M'},M = M' → L = L' → zqq E' (keys E2) = some E2 → Jp N w0 F R a w E2 L' M') → I (Jp N w0 F R a w) Ek Lk fuel := by intro _ _ j; (repeat apply Exists.intro); exact j rfl rfl rfl) : S P τ N R Q0 w0 F c fs E B L M :=
 lv ks is I h (fun a w j => h0 a w fun e1 e2 e3 => by rw [← e1, ← e2]; exact j e3) k
end
end Go.Dk
end
section
namespace Go.Dk
open Go.RowKit Go.Dm

def nthL : List (List Res) → Nat → List Res
 | [],_ => []
 | [l],_ => l
 | l :: _ :: _,0 => l
 | _ :: m :: ms,k + 1 => nthL (m :: ms) k
def Rng (p : Nat → Prop) : Nat → Nat → Prop
 | lo,0 => p lo
 | lo,n + 1 => p lo ∧ Rng p (lo + 1) n
theorem Rng.get {p : Nat → Prop} : ∀ {n lo : Nat},Rng p lo n → ∀ k,lo ≤ k → k ≤ lo + n → p k
 | 0,lo,h,k,h1,h2 => by
  have : k = lo := by omega
  subst this; exact h
 | n + 1,lo,⟨h,h'⟩,k,h1,h2 => by
  by_cases e : k = lo
  ·subst e; exact h
  ·exact Rng.get h' k (by omega) (by omega)
section
variable {P : Program} {N : Nat} {Q : Exit → Act → World → Prop} {S : Type} {l : List Oper} {D : S → List DOp} {es : List Nat} {i s : Nat} {o : Oper} {w0 : World} {F : List Nat} {Ls : S → List (List Res)}

def ldAt (τ : Tab) (L : List Res) (j : Nat) (E : Env) : Op → Option (Nat × Nat × Value)
 | .load t x => match evl E x with
  | some (.pointer (some ⟨b,o,none⟩)) => match zwD L j with
   | some (b',cs) => match ldV τ cs t o with
    | some v => some (b',b,v)
    | none => none
   | none => none
  | _ => none
 | _ => none
def zDv (τ : Tab) (Ls : List (List Res)) (E : Env) (op : Op) (v : Value) : Nat → List Nat → Prop
 | _,[] => True
 | k,j :: js => (∃ b,ldAt τ (nthL Ls k) j E op = some (b,b,v)) ∧ zDv τ Ls E op v (k + 1) js
theorem zDv.get {τ : Tab} {Ls : List (List Res)} {E : Env} {op : Op} {v : Value} : ∀ {js : List Nat} {lo : Nat},zDv τ Ls E op v lo js → ∀ k,lo ≤ k → k < lo + js.length → ∃ j b,ldAt τ (nthL Ls k) j E op = some (b,b,v)
 | [],lo,_,k,h1,h2 => by simp at h2; omega
 | j :: js,lo,⟨h,h'⟩,k,h1,h2 => by
  by_cases e : k = lo
  ·subst e; exact ⟨j,h⟩
  ·exact zDv.get h' k (by omega) (by simp at h2; omega)
variable {a : Act} {w : World} {L : List Res} {E : Env}
theorem Fits.all {E0 : Env} (hf : Fits N E a) (h : AllE (fun p => look E p.1 = some p.2) E0) : Fits N E0 a := by
 induction E0 with
 | nil => exact hf.nil
 | cons p E0 ih => exact hf.cons h.1 (ih h.2)
end
end Go.Dk
end
section
namespace Go.Dk
open Go.RowKit Go.Dm
section
variable {P : Program} {Q : Exit → Act → World → Prop} {a : Act} {w w' w0 : World} {N : Nat} {E : Env} {F : List Nat} {L K : List Res}
variable {ops : Array Oper} {rest : List Oper} {t t' ty d : Nat} {p : String} {af : Array Edge} {x y : Operand}

theorem zj2.append {s : Option Addr × Nat × Nat} {y : List Value} (hs : zqs w s.1 y) (hc : s.2.1 ≤ s.2.2) : ∀ {ss : List (Option Addr × Nat × Nat)} {xs : List (List Value)},zj2 w ss xs → zj2 w (ss ++ [s]) (xs ++ [y])
 | [],[],_ => ⟨⟨hs,hc⟩,trivial⟩
 | [],_ :: _,h => h.elim
 | _ :: _,[],h => h.elim
 | _ :: _,_ :: _,⟨h1,h2⟩ => ⟨h1,zj2.append hs hc h2⟩
theorem zj2.get : ∀ {ss : List (Option Addr × Nat × Nat)} {xs : List (List Value)},zj2 w ss xs → ∀ (i : Nat) (x : List Value),xs[i]? = some x → ∃ s,ss[i]? = some s ∧ zqs w s.1 x ∧ s.2.1 ≤ s.2.2
 | [],[],_,i,x,h => by simp at h
 | [],_ :: _,h,_,_,_ => h.elim
 | _ :: _,[],h,_,_,_ => h.elim
 | s :: ss,y :: xs,⟨h1,h2⟩,0,x,h => by simp at h; subst h; exact ⟨s,by simp,h1⟩
 | s :: ss,y :: xs,⟨h1,h2⟩,i + 1,x,h => by
  obtain ⟨s',h3,h4⟩ := zj2.get h2 i x (by simpa using h)
  exact ⟨s',by simpa using h3,h4⟩
end
end Go.Dk
end
section
namespace Go.Dk
open Go.RowKit Go.Dm
structure Sub (α A : Type) where
 fp : α → A → List Nat
 ok : World → α → A → Prop
 lt : ∀ {w : World} {x : α} {a : A},ok w x a → ∀ b ∈ fp x a,b < w.heap.size
 mono : ∀ {w w' : World} {x : α} {a : A},ok w x a → w.heap.size ≤ w'.heap.size → (∀ b ∈ fp x a,w'.heap[b]? = w.heap[b]?) → ok w' x a
structure DE (α A : Type) extends Sub α A where
 enc : α → A → List Value
def zzs {α A : Type} (d : DE α A) : List α → List A → List Value
 | x :: xs,a :: gs => d.enc x a ++ zzs d xs gs
 | _,_ => []
def fpsD {α A : Type} (d : DE α A) : List α → List A → List Nat
 | x :: xs,a :: gs => d.fp x a ++ fpsD d xs gs
 | _,_ => []
def zy4 {α A : Type} (d : DE α A) (w : World) : List α → List A → Prop
 | [],[] => True
 | x :: xs,a :: gs => d.ok w x a ∧ zy4 d w xs gs
 | _,_ => False
def ztu {α A : Type} (d : DE α A) (w : World) (ad : Option Addr) (c : Nat) (xs : List α) (gs : List A) : Prop := zdi w ad (zzs d xs gs) ∧ xs.length ≤ c ∧ zy4 d w xs gs
def fpD {α A : Type} (d : DE α A) (ad : Option Addr) (xs : List α) (gs : List A) : List Nat := zsi ad (zzs d xs gs) ++ fpsD d xs gs
section
variable {α A B β : Type} {d : DE α A} {w w' : World} {ad : Option Addr} {c : Nat} {xs : List α} {gs : List A}
theorem zwS : ∀ {xs : List α} {gs : List A},zy4 d w xs gs → ∀ b ∈ fpsD d xs gs,b < w.heap.size
 | [],[],_,b,hb => by cases hb
 | [],_ :: _,h,_,_ => h.elim
 | _ :: _,[],h,_,_ => h.elim
 | x :: xs,a :: gs,h,b,hb => by
  rcases List.mem_append.1 hb with hb | hb
  ·exact d.lt h.1 b hb
  ·exact zwS h.2 b hb
theorem zsM (hs : w.heap.size ≤ w'.heap.size) : ∀ {xs : List α} {gs : List A},zy4 d w xs gs → (∀ b ∈ fpsD d xs gs,w'.heap[b]? = w.heap[b]?) → zy4 d w' xs gs
 | [],[],_,_ => trivial
 | [],_ :: _,h,_ => h.elim
 | _ :: _,[],h,_ => h.elim
 | x :: xs,a :: gs,h,hb => ⟨d.mono h.1 hs fun b hm => hb b (List.mem_append_left _ hm),zsM hs h.2 fun b hm => hb b (List.mem_append_right _ hm)⟩
theorem ztu.lt (h : ztu d w ad c xs gs) : ∀ b ∈ fpD d ad xs gs,b < w.heap.size := by
 intro b hb
 rcases List.mem_append.1 hb with hb | hb
 ·exact zzD h.1 hb
 ·exact zwS h.2.2 b hb
theorem ztu.mono (h : ztu d w ad c xs gs) (hs : w.heap.size ≤ w'.heap.size) (hb : ∀ b ∈ fpD d ad xs gs,w'.heap[b]? = w.heap[b]?) : ztu d w' ad c xs gs :=
 ⟨zzC h.1 hs fun b e => hb b (List.mem_append_left _ e),h.2.1,zsM hs h.2.2 fun b e => hb b (List.mem_append_right _ e)⟩
theorem ztu.nil (d : DE α A) (w : World) (c : Nat) : ztu d w none c [] [] := ⟨rfl,Nat.zero_le _,trivial⟩
def Sub.row (en : β → List Value) (get : α → List β) : Sub α (Option Addr × Nat) where
 fp x a := zsi a.1 (cells en (get x))
 ok w x a := zdi w a.1 (cells en (get x)) ∧ (get x).length ≤ a.2
 lt h b hb := zzD h.1 hb
 mono h hs hb := ⟨zzC h.1 hs hb,h.2⟩
def Sub.and (s : Sub α A) (t : Sub α B) : Sub α (A × B) where
 fp x a := s.fp x a.1 ++ t.fp x a.2
 ok w x a := s.ok w x a.1 ∧ t.ok w x a.2
 lt h b hb := by
  rcases List.mem_append.1 hb with hb | hb
  ·exact s.lt h.1 b hb
  ·exact t.lt h.2 b hb
 mono h hs hb := ⟨s.mono h.1 hs fun b e => hb b (List.mem_append_left _ e),t.mono h.2 hs fun b e => hb b (List.mem_append_right _ e)⟩
def RowD (d : DE α A) (v : Value) (e sz : Nat) (xs : List α) (gs : List A) (w : World) : Prop :=
 w.ownsRow 0 e sz v xs.length (zzs d xs gs) ∧ zy4 d w xs gs ∧ ∀ b,v.ownBlock = some b → b ∉ fpsD d xs gs
abbrev rowD (d : DE α A) (v : Value) (e sz : Nat) (xs : List α) (gs : List A) : Res := .gen (v.ownBlock.toList ++ fpsD d xs gs) (RowD d v e sz xs gs)
theorem RowD.holds {v : Value} {e sz : Nat} (h : RowD d v e sz xs gs w) : (rowD d v e sz xs gs).holds w 0 := by
 refine ⟨h,fun b hb => ?_,fun w1 w2 h hs hb => ⟨zCl h.1 fun b e => hb b (List.mem_append_left _ (by rw [e]; simp)),zsM hs h.2.1 fun b e => hb b (List.mem_append_right _ e),h.2.2⟩⟩
 rcases List.mem_append.1 hb with hb | hb
 ·exact zCk h.1 (by simpa using hb)
 ·exact zwS h.2.1 b hb
theorem RowD.sees {e sz : Nat} (h : RowD d (.slice ad xs.length c) e sz xs gs w) : ztu d w ad c xs gs := by
 refine ⟨zoz h.1,?_,h.2.1⟩
 obtain ⟨_,⟨h1,h2⟩ | ⟨g,cap,cur,hv,_,_,hle,_⟩⟩ := h.1
 ·simp at h1; omega
 ·simp at hv; omega
theorem Own.getD {w0 : World} {F : List Nat} {L : List Res} {e sz i : Nat} (hO : Own w0 F w L) (hi : L[i]? = some (rowD d (.slice ad xs.length c) e sz xs gs)) : ztu d w ad c xs gs := (hO.get hi).1.sees
end
section
variable {P : Program} {Q : Exit → Act → World → Prop} {a : Act} {w w' w0 : World} {N : Nat} {E : Env} {F : List Nat} {L K : List Res} {α A β : Type} {d : DE α A}
variable {ops : Array Oper} {rest : List Oper} {t t' ty s : Nat} {p : String} {af : Array Edge} {x y : Operand}
def Tk (s : Sub α A) (w : World) (x : α) (a : A) (Lc : List Res) : Prop := s.ok w x a ∧ ∀ b ∈ s.fp x a,b ∈ fps Lc
theorem tk_row {en : β → List Value} {q : Option Addr} {n c e sz : Nat} {l : List β} (h : (Res.row (.slice q n c) e sz n (cells en l)).holds w 0) (hn : n = l.length) : (zdi w q (cells en l) ∧ l.length ≤ c) ∧ ∀ b ∈ zsi q (cells en l),b ∈ (Res.row (.slice q n c) e sz n (cells en l)).fp := by
 refine ⟨⟨zoz h,?_⟩,fun b hb => ?_⟩
 ·obtain ⟨_,⟨h1,h2⟩ | ⟨g,cap,cur,hv,_,_,hle,_⟩⟩ := h
  ·simp at h1; omega
  ·simp at hv; omega
 ·have e := (zuN hb).2
  cases q with
  | none => cases e
  | some x =>
   obtain ⟨_,⟨h1,h2⟩ | ⟨g,cap,cur,hv,_⟩⟩ := h
   ·simp at h1
   ·simp at hv; simp at e; rw [hv.1] at e ⊢; simp at e; simp [Res.fp,Value.ownBlock,e]
theorem Tk.row {en : β → List Value} {get : α → List β} {q : Option Addr} {c e sz : Nat} {x : α} {Lc : List Res} (j : Nat) (hj : Lc[j]? = some (.row (.slice q (get x).length c) e sz (get x).length (cells en (get x)))) (h : ∀ r ∈ Lc,r.holds w 0) : Tk (.row en get) w x (q,c) Lc := by
 have hm := List.mem_of_getElem? hj
 obtain ⟨h1,h2⟩ := tk_row (h _ hm) rfl
 exact ⟨h1,fun b hb => mem_fps.2 ⟨_,hm,h2 b hb⟩⟩
theorem Tk.nil {en : β → List Value} {get : α → List β} {x : α} {Lc : List Res} (h : get x = []) : Tk (.row en get) w x (none,0) Lc :=
 ⟨⟨by show cells en (get x) = []; rw [h]; rfl,by rw [h]; exact Nat.zero_le _⟩,fun b hb => by have := (zuN hb).2; cases this⟩
theorem Tk.and {B : Type} {s : Sub α A} {t : Sub α B} {x : α} {a : A} {b : B} {Lc : List Res} (h1 : Tk s w x a Lc) (h2 : Tk t w x b Lc) : Tk (.and s t) w x (a,b) Lc :=
 ⟨⟨h1.1,h2.1⟩,fun c hc => (List.mem_append.1 hc).elim (h1.2 c) (h2.2 c)⟩
end
end Go.Dk
end
section
namespace Go.Dk
open Go.RowKit Go.Dm Go.ChangeShapes Go.WideShapes Go.Deep

section
variable {H : Type} {enc : TypeId × Value → H} {P : Program}

theorem zHD {n : Int} (h : (Lit.int .u16 n).wf = true) : ∃ b : UInt16,n = (b.toNat : Int) := by
 have h2 : 0 ≤ n ∧ n < 65536 := by
  have e1 : IntKind.u16.min = 0 := rfl
  have e2 : IntKind.u16.max = 65535 := rfl
  have e3 : 0 ≤ n ∧ n ≤ 65535 := by simpa [Lit.wf,e1,e2] using h
  omega
 refine ⟨UInt16.ofNat n.toNat,?_⟩
 simp only [UInt16.toNat_ofNat']
 omega
theorem zHE {n : Int} (h : (Lit.int .u8 n).wf = true) : ∃ b : UInt8,n = (b.toNat : Int) := by
 have h2 : 0 ≤ n ∧ n < 256 := by
  have e1 : IntKind.u8.min = 0 := rfl
  have e2 : IntKind.u8.max = 255 := rfl
  have e3 : 0 ≤ n ∧ n ≤ 255 := by simpa [Lit.wf,e1,e2] using h
  omega
 refine ⟨UInt8.ofNat n.toNat,?_⟩
 simp only [UInt8.toNat_ofNat']
 omega
theorem zBd (b off k : Nat) : (⟨b,off,none⟩ : Addr).add k = ⟨b,off + k,none⟩ := by
 unfold Addr.add
 by_cases h : k = 0
 ·subst h; simp
 ·simp [h]
theorem zEw {w : World} {base n j : Nat} {a : Addr} {cs : List Value} {v : Value} (hc : w.cells? base a n = some cs) (hj : cs[j]? = some v) : w.cell? (a.add j) = some v := by
 obtain ⟨_,hlen,hcell⟩ := World.cells?_some hc
 have hjl : j < n := by rw [← hlen]; exact (List.getElem?_eq_some_iff.1 hj).1
 rw [hcell j hjl,hj]
theorem zCD {w : World} {a : Addr} {v : Value} (h : w.cell? a = some v) : a.spot = none ∧ a.block < w.heap.size := by
 unfold World.cell? at h
 split at h
 ·rename_i hb
  refine ⟨?_,(Array.getElem?_eq_some_iff.1 hb).1⟩
  cases hs : a.spot with
  | none => rfl
  | some x => rw [hs] at h; simp at h
 ·cases h
def DE.flat {α : Type} (en : α → List Value) : DE α Unit where
 fp _ _ := []
 ok _ _ _ := True
 lt _ b hb := by cases hb
 mono _ _ _ := trivial
 enc x _ := en x
theorem zsj (hl : laidOutB P = true) {W W' : World} (hb : Below W.heap.size W W') : ∀ {ts : List TypeId} {vs : List Value} {ds : List (DataW H)} {ps : List MemPlace},
  ts.all (fun t => P.readableRec t && decide (t < P.types.size)) = true → DataW.TrodAll enc P W 0 (fun _ => true) true ts vs ds ps → DataW.TrodAll enc P W' 0 (fun b => decide (b < W.heap.size)) true ts vs ds ps
 | [],vs,ds,ps,_,h => by
  obtain ⟨rfl,rfl,rfl⟩ := trodAll_nil h
  exact trodAll_mk0
 | t :: ts,vs,ds,ps,ht,h => by
  obtain ⟨v,vs',d,ds',p,q,rfl,rfl,rfl,h0,h1⟩ := trodAll_cons h
  simp only [List.all_cons,Bool.and_eq_true,decide_eq_true_eq] at ht
  have lt : ∀ x ∈ p,x.block < W.heap.size := by obtain ⟨m,hm⟩ := h0; exact DataW.trod_lt m _ _ _ hm
  exact trodAll_cons_mk (Below.trod hl ht.1.1 ht.1.2 h0 hb lt) (zsj hl hb (by simpa using ht.2) h1)

theorem zoA {x : String × DataW Unit} {rest : List (String × DataW Unit)} {w : World} (h : laidMet P (x :: rest) w) : laidMet P rest w := by
 obtain ⟨ps,hl,hn,hc⟩ := h
 obtain ⟨n,d⟩ := x
 obtain ⟨g,t,cs,fuel,p,q,h1,h2,h3,h4,h5,rfl⟩ := hl
 exact ⟨q,h5,(List.nodup_append.1 hn).2.1,fun b off hb => hc b off (List.mem_append_right _ hb)⟩
theorem ztD {C : Checked} {os : Os} {f : FuncId} {fn : Func} {s : OpenSpec} {k : (H : Type) → List (DataW H) → Bool} (hk : s.cond = some k) {conds : List PathCond} {apart : Bool} {X : World → Prop} (modest : Bool) (w0 : World) (args : Array Value) (fuel : Nat) (hos : w0.os = os)
  (hsh : (w0.forCall (fun _ _ => 0) ⟨#[],args,[]⟩).Shaped C.prog)
  (hok : Input.okWideB C.prog (w0.forCall (fun _ _ => 0) ⟨#[],args,[]⟩) f ⟨#[],args,[]⟩ = true)
  {x : List (DataW H) × List (DataW H) × List MemPlace} (hx : DataW.whole enc C.prog (w0.forCall (fun _ _ => 0) ⟨#[],args,[]⟩).memory fn.params.toList s.vars apart args.toList fuel = some x)
  (hconds : conds.all (PathCond.test C.prog ⟨fn.params.toList,x.1,s.bare.plain.varTypes C.prog,x.2.1⟩) = true) (hkk : k H (x.1 ++ x.2.1) = true)
  (hsz : s.bare.sizedB enc C.prog fn apart (w0.forCall (fun _ _ => 0) ⟨#[],args,[]⟩).memory args fuel = true)
  (hX : X (w0.forCall (fun _ _ => 0) ⟨#[],args,[]⟩).memory) :
  ∃ (w : World) (tape : Tape) (i : Input),w.os = os ∧ (w.forCall tape i).Shaped C.prog ∧ i.vars = [] ∧ Input.okWide C.prog (w.forCall tape i) .any w.heap.size f i ∧
   ((s.pre enc C.prog fn conds apart (w.forCall tape i).memory i.args ∧ X (w.forCall tape i).memory) ∧ sizedMet enc C.prog fn s apart (w.forCall tape i).memory i.args) ∧ ({ modest := modest } : Assume).holds C.prog (lone (Frame.enter C.prog f i.args .normal) [] (w.forCall tape i)) :=
 ⟨w0,fun _ _ => 0,⟨#[],args,[]⟩,hos,hsh,(Input.okWide_of_okWideB (base := 0) hok).1,(Input.okWide_of_okWideB hok).2,
  ⟨⟨(OpenSpec.pre_some hk conds apart _ _).2 ⟨x.1,x.2.1,x.2.2,DataW.Whole_of_whole hx,hconds,hkk⟩,hX⟩,sizedMet_of_sizedB hsz⟩,by
  simp only [Assume.holds]
  exact ⟨by simp,by simp,fun _ => Modest.zero,by simp,by simp⟩⟩
theorem ztE {a : Assume} {C : Checked} {os : Os} {f : FuncId} {fn : Func} {s : OpenSpec} {k : (H : Type) → List (DataW H) → Bool} (hk : s.cond = some k) {F : Stop.Interp} {conds : List PathCond} {apart fresh handsOn again : Bool} {X : World → Prop}
  (hX : ∀ (w : World) (tape : Tape) (i : Input),X (w.forCall tape i).memory → X (w.forCall tape i))
  (own : ownKnob C.prog.godebug = none) (started : os.Started) (noInit : C.prog.inits.idxOf? f = none) (hfn : C.prog.funcs[f]? = some fn)
  (witness : ∃ (w : World) (tape : Tape) (i : Input),w.os = os ∧ (w.forCall tape i).Shaped C.prog ∧ i.vars = [] ∧ Input.okWide C.prog (w.forCall tape i) .any w.heap.size f i ∧
   ((s.pre enc C.prog fn conds apart (w.forCall tape i).memory i.args ∧ X (w.forCall tape i).memory) ∧ sizedMet enc C.prog fn s apart (w.forCall tape i).memory i.args) ∧ a.holds C.prog (lone (Frame.enter C.prog f i.args .normal) [] (w.forCall tape i)))
  (contract : ∀ (W : World) (base : Nat) (args : Array Value) (ds gs : List (DataW H)) (before : List MemPlace),
   (∀ (j : Nat) t v,fn.params[j]? = some t → args[j]? = some v → Value.okWide C.prog W .any base t v) →
   DataW.Whole enc C.prog fn.params.toList s.vars apart W args.toList ds gs before → k H (ds ++ gs) = true → W.ShapedOpen C.prog → X W →
   Calls C.prog f args W fun e W' => ∃ v,e = .returned v ∧ (s.at F).post enc C.prog fn apart fresh handsOn again W args v W') :
  ReturnsInHanded a C os f .any (fun w args => (s.pre enc C.prog fn conds apart w args ∧ X w) ∧ sizedMet enc C.prog fn s apart w args) ((s.at F).post enc C.prog fn apart fresh handsOn again) := by
 refine returnsInHanded_of_calls own started noInit witness ?_
 intro w tape i _ hsh _ hok hpre _
 obtain ⟨_,_,_,fn',hfn',_,_,_,_,hval⟩ := hok
 obtain rfl : fn' = fn := Option.some.inj (hfn'.symm.trans hfn)
 obtain ⟨ds,gs,before,hw,_,hkk⟩ := (OpenSpec.pre_some hk conds apart _ _).1 hpre.1.1
 refine (contract (w.forCall tape i) w.heap.size i.args ds gs before hval (DataW.Whole.of_heap (w' := w.forCall tape i) (by rfl) hw) hkk hsh (hX _ _ _ hpre.1.2)).mono fun e W' ⟨v,he,hp⟩ => ?_
 subst he
 exact ChangeSpec.post_blind hp
end
end Go.Dk
end
section
set_option linter.unusedVariables false
set_option linter.unusedSimpArgs false
namespace Go.Proofs
open Go.Dk Go.Dm Go.RowKit

theorem zE9 {P : Program} {w0 w : World} {n : String} {g : Nat} (hg : P.globalNamed n = some g) (h : w.heap[g]? = w0.heap[g]?) : w.var? P n = w0.var? P n := by
 unfold World.var?
 rw [hg]
 simp only [Option.bind_some,h]
def zgi (w : World) : Prop := 6 ≤ w.heap.size ∧ (∃ m,w.cell? ⟨0,0,none⟩ = some (.int .i64 m))
def Away (F : List Nat) : Prop := ∀ b ∈ F,6 ≤ b
theorem ztw : Away [] := fun b hb => by cases hb
theorem zgi.same {w0 w : World} (h : zgi w0) (hs : w0.heap.size ≤ w.heap.size) (hf : ∀ g,g < 6 → w.heap[g]? = w0.heap[g]?) : zgi w := by
 obtain ⟨h0,⟨m,hm0⟩⟩ := h
 exact ⟨Nat.le_trans h0 hs,⟨m,(World.cell?_of_block (w := w0) (a := ⟨0,0,none⟩) (hf 0 (by omega))).trans hm0⟩⟩
theorem zgi.low {w0 w : World} {B : Nat} (h : zgi w0) (hB : 6 ≤ B) (hb : Below B w0 w) : zgi w :=
 h.same hb.size fun g hg => hb.block g (by omega)
theorem zgi.size {w : World} (h : zgi w) : 6 ≤ w.heap.size := h.1
theorem zgi.max {w : World} (h : zgi w) : (∃ m,w.cell? ⟨0,0,none⟩ = some (.int .i64 m)) := h.2
theorem zgi.own {w0 w : World} {F : List Nat} {L : List Res} (h : zgi w0) (hF : Away F) (hO : Own w0 F w L) : zgi w :=
 h.same hO.size fun g hg => hO.frame g (by have := h.size; omega) (fun hm => absurd (hF g hm) (by omega))
theorem zgi.o {w0 w : World} {L : List Res} (h : zgi w0) (hO : Own w0 [] w L) : zgi w := h.own ztw hO
def zhK (w : World) : Prop := zgi w ∧ Go.Lib.TabIs Tryz.prog w "internal/strconv.uint64pow10" .u64 Go.Lib.pow10Tab ∧ w.cell? ⟨5,15,none⟩ = some (.int .u8 4)
theorem zhK.same {w0 w : World} (h : zhK w0) (hs : w0.heap.size ≤ w.heap.size) (hf : ∀ g,g < 6 → w.heap[g]? = w0.heap[g]?) : zhK w := by
 obtain ⟨h,hp⟩ := h
 exact ⟨h.same hs hf,⟨by have hp := hp.1; unfold Go.Lib.TabIs at hp ⊢; rw [← hp]; exact zE9 (show Tryz.prog.globalNamed "internal/strconv.uint64pow10" = some 3 by kernel_rfl) (hf 3 (by omega)),(World.cell?_of_block (w := w0) (a := ⟨5,15,none⟩) (hf 5 (by omega))).trans hp.2⟩⟩
theorem zhK.low {w0 w : World} {B : Nat} (h : zhK w0) (hB : 6 ≤ B) (hb : Below B w0 w) : zhK w :=
 h.same hb.size fun g hg => hb.block g (by omega)
theorem zhK.size {w : World} (h : zhK w) : 6 ≤ w.heap.size := h.1.size
theorem zhK.own {w0 w : World} {F : List Nat} {L : List Res} (h : zhK w0) (hF : Away F) (hO : Own w0 F w L) : zhK w :=
 h.same hO.size fun g hg => hO.frame g (by have := h.size; omega) (fun hm => absurd (hF g hm) (by omega))
theorem zhK.o {w0 w : World} {L : List Res} (h : zhK w0) (hO : Own w0 [] w L) : zhK w := h.own ztw hO
def zja (x : Str) : List Value := [str x]
def zt (x : zLo) : List Value := [str x.Name,str x.Value]
def zjb (x : zLD) : List Value := [int x.Kind,str x.Text]
def zjc (x : zLK) : List Value := [str x.From,str x.To]
theorem ei_146 : (Tryz.prog.info? 203).map (fun i => (i.zero,i.size,i.bytes)) = some (some (.agg #[str [],str []]),2,32) := by kernel_rfl
theorem zFa : Elem Tryz.prog 146 203 2 32 := ⟨Tryz.underlying146,by obtain ⟨i,h0,h1,h2,h3⟩ := info_parts ei_146; exact ⟨i,_,h0,h1,h2,h3,rfl⟩,by decide⟩
theorem ei_22 : (Tryz.prog.info? 98).map (fun i => (i.zero,i.size,i.bytes)) = some (some (.agg #[str [],str []]),2,32) := by kernel_rfl
theorem el_22 : Elem Tryz.prog 22 98 2 32 := ⟨Tryz.underlying22,by obtain ⟨i,h0,h1,h2,h3⟩ := info_parts ei_22; exact ⟨i,_,h0,h1,h2,h3,rfl⟩,by decide⟩
theorem ei_74 : (Tryz.prog.info? 102).map (fun i => (i.zero,i.size,i.bytes)) = some (some (.agg #[int 0,str []]),2,24) := by kernel_rfl
theorem el_74 : Elem Tryz.prog 74 102 2 24 := ⟨Tryz.underlying74,by obtain ⟨i,h0,h1,h2,h3⟩ := info_parts ei_74; exact ⟨i,_,h0,h1,h2,h3,rfl⟩,by decide⟩
def tb : Tab := ⟨[],[],[],[]⟩
instance : TabOk Tryz.prog tb := ⟨zqp trivial,zqp trivial,zqp trivial,zqp trivial⟩
end Go.Proofs
end
