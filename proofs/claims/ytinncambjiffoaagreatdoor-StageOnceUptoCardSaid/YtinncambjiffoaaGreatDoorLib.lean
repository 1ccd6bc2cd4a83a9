/-
  DERIVED: THE SHELF's CONTRACTS AT THIS DUMP, IN PLAIN WORDS (tools/lay-plain.mjs out of 'TryzShelf.lean', which tools/lay-shelf.mjs wrote): THE SAME DECLARATIONS UNDER THE SAME NAMES: 'import', 'namespace', 'open', 'def', 'theorem' AND NOTHING ELSE: no command of the shelf's: FOR A HAND-IN. Each laying: the table of numbers ('.._ren') and one theorem, a field a fact of the dump's own or the kernel's comparison; each contract: ONE APPLICATION.
  Walks in short: a program's steps are taken by evaluation as far as no case parts; one rule for each thing that is left. Over any program.
  Rows of 
-/
import Derived.Test.YtinncambjiffoaaGreatDoorRune
import Derived.Test.YtinncambjiffoaaGreatDoorT26
import Derived.Shelf.Strings.Builder1
import Derived.Shelf.Strings.Builder2
import Derived.Shelf.Strings.OnBuilder
import Derived.Shelf.Strings.Trim
import Derived.Shelf.Small.Utf8
import Derived.Shelf.Small.Strs
import Derived.Shelf.Small.Wraps
import Derived.Shelf.Utf8.RuneCount
import Derived.Shelf.Strconv.Itoa0
import Derived.Shelf.Strconv.Itoa1
import Derived.Shelf.LaysM
import Derived.Shelf.Strconv.Itoa2
import Derived.Shelf.Strconv.Itoa3
import Derived.Shelf.Strconv.Itoa4
import Derived.Shelf.Strings.Search1
import Derived.Shelf.Strings.Search2
import Derived.Shelf.Strings.Search3
import Derived.Shelf.Strings.Cut
import Derived.Shelf.Strings.Count
import Derived.Shelf.Strings.Shaped
import Derived.Shelf.Strings.Prefix
import Derived.Shelf.Strings.Split
import Derived.Shelf.Strings.SplitShaped
import Derived.Shelf.Unicode.Decode
import Derived.Shelf.Strings.Runes
import Derived.Shelf.Strings.RuneCount
import Derived.Shelf.Strings.IndexAny
import Derived.Shelf.Strings.AsciiSet
import Derived.Shelf.Strings.IndexAnyAll
import Derived.Shelf.Strings.Explode
import Derived.Shelf.Unicode.DecodeSlow
import Derived.Shelf.Unicode.DecodeAny
import Derived.Shelf.Unicode.DecodeLast
import Derived.Test.YtinncambjiffoaaGreatDoorProg
import Derived.WideMake
import Derived.KernelRfl
import Derived.Laws.StructEq
import Derived.Lib.LaidTab
import Derived.Lib.ItoaNum
import Derived.Shelf.RegionOpenPlain
import Derived.WalkKit
import Derived.Lib.Walk
import Derived.Lib.SliceRun
import Derived.Lib.JoinLaws
import Derived.Lib.Overlaps
import Derived.Lib.AppendZerosOnto
import Derived.Laws.AppendOwn
import Derived.Laws.Externs
import Derived.Laws.IdiomCopy
import Derived.ArgAppend
import Derived.Shelf.Strings.SlTrimAscii
import Derived.Lib.AppendIntMem
section
namespace Go.Proofs
open Go.Shelf
def Tryz.lays156_ren : Go.Shelf.Ren := ⟨fun | 156 => 144 | 165 => 195 | 166 => 196 | 169 => 197 | 240 => 235 | 241 => 236 | 276 => 261 | 277 => 262 | n => n, fun | 31 => 42 | 9 => 9 | 3 => 3 | 4 => 4 | 0 => 0 | 20 => 20 | 72 => 230 | 76 => 233 | 70 => 228 | 37 => 178 | 75 => 232 | 127 => 254 | 164 => 267 | 5 => 5 | 80 => 149 | n => n, fun | n => n⟩
theorem Tryz.lays156 : Go.Proofs.Lays.n156 Tryz.prog Tryz.lays156_ren := {
  mixed := by kernel_rfl
  f156 := Tryz.func144.trans (congrArg some (by kernel_rfl))
  f165 := Tryz.func195.trans (congrArg some (by kernel_rfl))
  f166 := Tryz.func196.trans (congrArg some (by kernel_rfl))
  f169 := Tryz.func197.trans (congrArg some (by kernel_rfl))
  f240 := Tryz.func235.trans (congrArg some (by kernel_rfl))
  f241 := Tryz.func236.trans (congrArg some (by kernel_rfl))
  f276 := Tryz.func261.trans (congrArg some (by kernel_rfl))
  f277 := Tryz.func262.trans (congrArg some (by kernel_rfl))
  t0 := Tryz.underlying0
  a0 := Tryz.isAgg0
  z0 := Tryz.sizeOf0
  v0 := Tryz.zeroValue0
  t3 := Tryz.underlying3
  a3 := Tryz.isAgg3
  z3 := Tryz.sizeOf3
  v3 := Tryz.zeroValue3
  t4 := Tryz.underlying4
  a4 := Tryz.isAgg4
  z4 := Tryz.sizeOf4
  v4 := Tryz.zeroValue4
  t9 := Tryz.underlying9
  a9 := Tryz.isAgg9
  z9 := Tryz.sizeOf9
  v9 := Tryz.zeroValue9
  t20 := Tryz.underlying20
  a20 := Tryz.isAgg20
  z20 := Tryz.sizeOf20
  v20 := Tryz.zeroValue20
  t31 := Tryz.underlying42
  a31 := Tryz.isAgg42
  z31 := Tryz.sizeOf42
  v31 := Tryz.zeroValue42
  t37 := Tryz.underlying178
  a37 := Tryz.isAgg178
  z37 := Tryz.sizeOf178
  v37 := Tryz.zeroValue178
  t70 := Tryz.underlying228
  a70 := Tryz.isAgg228
  z70 := Tryz.sizeOf228
  v70 := Tryz.zeroValue228
  t72 := Tryz.underlying230
  a72 := Tryz.isAgg230
  z72 := Tryz.sizeOf230
  v72 := Tryz.zeroValue230
  t75 := Tryz.underlying232
  a75 := Tryz.isAgg232
  z75 := Tryz.sizeOf232
  v75 := Tryz.zeroValue232
  t76 := Tryz.underlying233
  a76 := Tryz.isAgg233
  z76 := Tryz.sizeOf233
  v76 := Tryz.zeroValue233
  t127 := Tryz.underlying254
  a127 := Tryz.isAgg254
  z127 := Tryz.sizeOf254
  v127 := Tryz.zeroValue254
  t164 := Tryz.underlying267
  a164 := Tryz.isAgg267
  z164 := Tryz.sizeOf267
  v164 := Tryz.zeroValue267 }
theorem Tryz.Builder_Extra_156 : Builder.Extra Tryz.prog Tryz.lays156_ren := {
  sizeBuilder := by kernel_rfl
  liesBuilder := by kernel_rfl
  t5 := Tryz.underlying5
  a5 := Tryz.isAgg5
  z5 := Tryz.sizeOf5
  v5 := Tryz.zeroValue5
  infoByte := by kernel_rfl
  cellsByte := by kernel_rfl
  sizeByte := by kernel_rfl
  neB5 := by decide }
open Go.RowKit in
theorem Tryz.strings_Join_none (a : Option Addr) (c : Nat) (sep : ByteArray) (w : World) :
    Calls Tryz.prog 144 #[.slice a 0 c, .string sep] w fun e w' => e = .returned (.string ⟨#[]⟩) ∧ w' = w := Any.strings_Join_none Tryz.lays156 Tryz.Builder_Extra_156 a c sep w
open Go.RowKit in
theorem Tryz.strings_Join (bk o c : Nat) (xs : List ByteArray) (sep : ByteArray) (w : World) (hcells : ∀ (j : Nat) x, xs[j]? = some x → w.cell? ⟨bk, o + j, none⟩ = some (.string x)) (hbk : bk < w.heap.size) (hN : xs.length ≤ 140737488355328) (hcap : xs.length ≤ c) (hlen : (Lib.join (xs.map (·.data.toList)) sep.data.toList).length ≤ 140737488355328) :
    Calls Tryz.prog 144 #[.slice (some ⟨bk, o, none⟩) xs.length c, .string sep] w fun e w' => e = .returned (.string ⟨(Lib.join (xs.map (·.data.toList)) sep.data.toList).toArray⟩) ∧ Below w.heap.size w w' := Any.strings_Join Tryz.lays156 Tryz.Builder_Extra_156 bk o c xs sep w hcells hbk hN hcap hlen
def Tryz.lays162_ren : Go.Shelf.Ren := ⟨fun | 162 => 146 | 232 => 161 | 227 => 162 | 234 => 164 | 236 => 166 | 228 => 210 | 271 => 213 | 151 => 212 | 120 => 247 | 197 => 211 | 152 => 214 | 260 => 246 | 137 => 187 | 119 => 248 | 224 => 249 | 225 => 250 | 217 => 228 | 266 => 256 | n => n, fun | 9 => 9 | 4 => 4 | 3 => 3 | 5 => 5 | 117 => 206 | 116 => 205 | 0 => 0 | 124 => 209 | 21 => 21 | 105 => 244 | 46 => 260 | 119 => 271 | 139 => 274 | 138 => 273 | n => n, fun | 3 => 2 | 4 => 3 | n => n⟩
theorem Tryz.lays162 : Go.Proofs.Lays.n162 Tryz.prog Tryz.lays162_ren := {
  mixed := by kernel_rfl
  f119 := Tryz.func248.trans (congrArg some (by kernel_rfl))
  f120 := Tryz.func247.trans (congrArg some (by kernel_rfl))
  f137 := Tryz.func187.trans (congrArg some (by kernel_rfl))
  f151 := Tryz.func212.trans (congrArg some (by kernel_rfl))
  f152 := Tryz.func214.trans (congrArg some (by kernel_rfl))
  f162 := Tryz.func146.trans (congrArg some (by kernel_rfl))
  f197 := Tryz.func211.trans (congrArg some (by kernel_rfl))
  f217 := Tryz.func228.trans (congrArg some (by kernel_rfl))
  f224 := Tryz.func249.trans (congrArg some (by kernel_rfl))
  f225 := Tryz.func250.trans (congrArg some (by kernel_rfl))
  f227 := Tryz.func162.trans (congrArg some (by kernel_rfl))
  f228 := Tryz.func210.trans (congrArg some (by kernel_rfl))
  f232 := Tryz.func161.trans (congrArg some (by kernel_rfl))
  f234 := Tryz.func164.trans (congrArg some (by kernel_rfl))
  f236 := Tryz.func166.trans (congrArg some (by kernel_rfl))
  f260 := Tryz.func246.trans (congrArg some (by kernel_rfl))
  f266 := Tryz.func256.trans (congrArg some (by kernel_rfl))
  f271 := Tryz.func213.trans (congrArg some (by kernel_rfl))
  t0 := Tryz.underlying0
  a0 := Tryz.isAgg0
  z0 := Tryz.sizeOf0
  v0 := Tryz.zeroValue0
  t3 := Tryz.underlying3
  a3 := Tryz.isAgg3
  z3 := Tryz.sizeOf3
  v3 := Tryz.zeroValue3
  t4 := Tryz.underlying4
  a4 := Tryz.isAgg4
  z4 := Tryz.sizeOf4
  v4 := Tryz.zeroValue4
  t5 := Tryz.underlying5
  a5 := Tryz.isAgg5
  z5 := Tryz.sizeOf5
  v5 := Tryz.zeroValue5
  t9 := Tryz.underlying9
  a9 := Tryz.isAgg9
  z9 := Tryz.sizeOf9
  v9 := Tryz.zeroValue9
  t21 := Tryz.underlying21
  a21 := Tryz.isAgg21
  z21 := Tryz.sizeOf21
  v21 := Tryz.zeroValue21
  t46 := Tryz.underlying260
  a46 := Tryz.isAgg260
  z46 := Tryz.sizeOf260
  v46 := Tryz.zeroValue260
  t105 := Tryz.underlying244
  a105 := Tryz.isAgg244
  z105 := Tryz.sizeOf244
  v105 := Tryz.zeroValue244
  t116 := Tryz.underlying205
  a116 := Tryz.isAgg205
  z116 := Tryz.sizeOf205
  t117 := Tryz.underlying206
  a117 := Tryz.isAgg206
  z117 := Tryz.sizeOf206
  v117 := Tryz.zeroValue206
  t119 := Tryz.underlying271
  a119 := Tryz.isAgg271
  z119 := Tryz.sizeOf271
  t124 := Tryz.underlying209
  a124 := Tryz.isAgg209
  z124 := Tryz.sizeOf209
  v124 := Tryz.zeroValue209
  t138 := Tryz.underlying273
  a138 := Tryz.isAgg273
  z138 := Tryz.sizeOf273
  v138 := Tryz.zeroValue273
  t139 := Tryz.underlying274
  a139 := Tryz.isAgg274
  z139 := Tryz.sizeOf274
  v139 := Tryz.zeroValue274
  g3 := by kernel_rfl
  g4 := by kernel_rfl }
def Tryz.lays160_ren : Go.Shelf.Ren := ⟨fun | 160 => 108 | 232 => 161 | 231 => 160 | 227 => 162 | 234 => 164 | 233 => 163 | 236 => 166 | 235 => 165 | 228 => 210 | 271 => 213 | 151 => 212 | 197 => 211 | 120 => 247 | 152 => 214 | 260 => 246 | 137 => 187 | 119 => 248 | 224 => 249 | 225 => 250 | 217 => 228 | 266 => 256 | n => n, fun | 9 => 9 | 4 => 4 | 3 => 3 | 5 => 5 | 117 => 206 | 116 => 205 | 0 => 0 | 124 => 209 | 21 => 21 | 105 => 244 | 46 => 260 | 119 => 271 | 139 => 274 | 138 => 273 | n => n, fun | 3 => 2 | 4 => 3 | n => n⟩
theorem Tryz.lays160 : Go.Proofs.Lays.n160 Tryz.prog Tryz.lays160_ren := {
  mixed := by kernel_rfl
  f119 := Tryz.func248.trans (congrArg some (by kernel_rfl))
  f120 := Tryz.func247.trans (congrArg some (by kernel_rfl))
  f137 := Tryz.func187.trans (congrArg some (by kernel_rfl))
  f151 := Tryz.func212.trans (congrArg some (by kernel_rfl))
  f152 := Tryz.func214.trans (congrArg some (by kernel_rfl))
  f160 := Tryz.func108.trans (congrArg some (by kernel_rfl))
  f197 := Tryz.func211.trans (congrArg some (by kernel_rfl))
  f217 := Tryz.func228.trans (congrArg some (by kernel_rfl))
  f224 := Tryz.func249.trans (congrArg some (by kernel_rfl))
  f225 := Tryz.func250.trans (congrArg some (by kernel_rfl))
  f227 := Tryz.func162.trans (congrArg some (by kernel_rfl))
  f228 := Tryz.func210.trans (congrArg some (by kernel_rfl))
  f231 := Tryz.func160.trans (congrArg some (by kernel_rfl))
  f232 := Tryz.func161.trans (congrArg some (by kernel_rfl))
  f233 := Tryz.func163.trans (congrArg some (by kernel_rfl))
  f234 := Tryz.func164.trans (congrArg some (by kernel_rfl))
  f235 := Tryz.func165.trans (congrArg some (by kernel_rfl))
  f236 := Tryz.func166.trans (congrArg some (by kernel_rfl))
  f260 := Tryz.func246.trans (congrArg some (by kernel_rfl))
  f266 := Tryz.func256.trans (congrArg some (by kernel_rfl))
  f271 := Tryz.func213.trans (congrArg some (by kernel_rfl))
  t0 := Tryz.underlying0
  a0 := Tryz.isAgg0
  z0 := Tryz.sizeOf0
  v0 := Tryz.zeroValue0
  t3 := Tryz.underlying3
  a3 := Tryz.isAgg3
  z3 := Tryz.sizeOf3
  v3 := Tryz.zeroValue3
  t4 := Tryz.underlying4
  a4 := Tryz.isAgg4
  z4 := Tryz.sizeOf4
  v4 := Tryz.zeroValue4
  t5 := Tryz.underlying5
  a5 := Tryz.isAgg5
  z5 := Tryz.sizeOf5
  v5 := Tryz.zeroValue5
  t9 := Tryz.underlying9
  a9 := Tryz.isAgg9
  z9 := Tryz.sizeOf9
  v9 := Tryz.zeroValue9
  t21 := Tryz.underlying21
  a21 := Tryz.isAgg21
  z21 := Tryz.sizeOf21
  v21 := Tryz.zeroValue21
  t46 := Tryz.underlying260
  a46 := Tryz.isAgg260
  z46 := Tryz.sizeOf260
  v46 := Tryz.zeroValue260
  t105 := Tryz.underlying244
  a105 := Tryz.isAgg244
  z105 := Tryz.sizeOf244
  v105 := Tryz.zeroValue244
  t116 := Tryz.underlying205
  a116 := Tryz.isAgg205
  z116 := Tryz.sizeOf205
  t117 := Tryz.underlying206
  a117 := Tryz.isAgg206
  z117 := Tryz.sizeOf206
  v117 := Tryz.zeroValue206
  t119 := Tryz.underlying271
  a119 := Tryz.isAgg271
  z119 := Tryz.sizeOf271
  t124 := Tryz.underlying209
  a124 := Tryz.isAgg209
  z124 := Tryz.sizeOf209
  v124 := Tryz.zeroValue209
  t138 := Tryz.underlying273
  a138 := Tryz.isAgg273
  z138 := Tryz.sizeOf273
  v138 := Tryz.zeroValue273
  t139 := Tryz.underlying274
  a139 := Tryz.isAgg274
  z139 := Tryz.sizeOf274
  v139 := Tryz.zeroValue274
  g3 := by kernel_rfl
  g4 := by kernel_rfl }
def Tryz.lays119_ren : Go.Shelf.Ren := ⟨fun | 119 => 248 | n => n, fun | 21 => 21 | 4 => 4 | n => n, fun | n => n⟩
theorem Tryz.lays119 : Go.Proofs.Lays.n119 Tryz.prog Tryz.lays119_ren := {
  mixed := by kernel_rfl
  f119 := Tryz.func248.trans (congrArg some (by kernel_rfl))
  t4 := Tryz.underlying4
  a4 := Tryz.isAgg4
  z4 := Tryz.sizeOf4
  v4 := Tryz.zeroValue4
  t21 := Tryz.underlying21
  a21 := Tryz.isAgg21
  z21 := Tryz.sizeOf21
  v21 := Tryz.zeroValue21 }
theorem Tryz.utf8_ValidRune (r : Int) (w : World) :
    Calls Tryz.prog 248 #[.int .i32 r] w fun e w' => e = .returned (.bool (Lib.validRune r)) ∧ w' = w := Any.utf8_ValidRune Tryz.lays119 r w
def Tryz.lays137_ren : Go.Shelf.Ren := ⟨fun | 137 => 187 | 217 => 228 | 266 => 256 | n => n, fun | 9 => 9 | 5 => 5 | 3 => 3 | n => n, fun | n => n⟩
theorem Tryz.lays137 : Go.Proofs.Lays.n137 Tryz.prog Tryz.lays137_ren := {
  mixed := by kernel_rfl
  f137 := Tryz.func187.trans (congrArg some (by kernel_rfl))
  f217 := Tryz.func228.trans (congrArg some (by kernel_rfl))
  f266 := Tryz.func256.trans (congrArg some (by kernel_rfl))
  t3 := Tryz.underlying3
  a3 := Tryz.isAgg3
  z3 := Tryz.sizeOf3
  v3 := Tryz.zeroValue3
  t5 := Tryz.underlying5
  a5 := Tryz.isAgg5
  z5 := Tryz.sizeOf5
  v5 := Tryz.zeroValue5
  t9 := Tryz.underlying9
  a9 := Tryz.isAgg9
  z9 := Tryz.sizeOf9
  v9 := Tryz.zeroValue9 }
open Go.RowKit in
theorem Tryz.strings_IndexByte (s : ByteArray) (c : Int) (w : World) :
    Calls Tryz.prog 187 #[.string s, .int .u8 c] w fun e w' => e = .returned (.int .i64 (Lib.indexByte s.data.toList c.toNat.toUInt8)) ∧ w' = w := Any.strings_IndexByte Tryz.lays137 s c w
def Tryz.lays210_ren : Go.Shelf.Ren := ⟨fun | 210 => 116 | 206 => 171 | n => n, fun | 9 => 9 | 4 => 4 | 3 => 3 | n => n, fun | n => n⟩
theorem Tryz.lays210 : Go.Proofs.Lays.n210 Tryz.prog Tryz.lays210_ren := {
  mixed := by kernel_rfl
  f206 := Tryz.func171.trans (congrArg some (by kernel_rfl))
  f210 := Tryz.func116.trans (congrArg some (by kernel_rfl))
  t3 := Tryz.underlying3
  a3 := Tryz.isAgg3
  z3 := Tryz.sizeOf3
  v3 := Tryz.zeroValue3
  t4 := Tryz.underlying4
  a4 := Tryz.isAgg4
  z4 := Tryz.sizeOf4
  v4 := Tryz.zeroValue4
  t9 := Tryz.underlying9
  a9 := Tryz.isAgg9
  z9 := Tryz.sizeOf9
  v9 := Tryz.zeroValue9 }
open Go.RowKit in
theorem Tryz.stringslite_CutPrefix (s p : ByteArray) (w : World) :
    Calls Tryz.prog 116 #[.string s, .string p] w fun e w' => e = .returned (.tuple #[.string ⟨(Lib.trimPrefix s.data.toList p.data.toList).toArray⟩, .bool (Lib.hasPrefix s.data.toList p.data.toList)]) ∧ w' = w := Any.stringslite_CutPrefix Tryz.lays210 s p w
def Tryz.lays103_ren : Go.Shelf.Ren := ⟨fun | 103 => 69 | 210 => 116 | 206 => 171 | n => n, fun | 9 => 9 | 4 => 4 | 24 => 124 | 3 => 3 | n => n, fun | n => n⟩
theorem Tryz.lays103 : Go.Proofs.Lays.n103 Tryz.prog Tryz.lays103_ren := {
  mixed := by kernel_rfl
  f103 := Tryz.func69.trans (congrArg some (by kernel_rfl))
  f206 := Tryz.func171.trans (congrArg some (by kernel_rfl))
  f210 := Tryz.func116.trans (congrArg some (by kernel_rfl))
  t3 := Tryz.underlying3
  a3 := Tryz.isAgg3
  z3 := Tryz.sizeOf3
  v3 := Tryz.zeroValue3
  t4 := Tryz.underlying4
  a4 := Tryz.isAgg4
  z4 := Tryz.sizeOf4
  v4 := Tryz.zeroValue4
  t9 := Tryz.underlying9
  a9 := Tryz.isAgg9
  z9 := Tryz.sizeOf9
  v9 := Tryz.zeroValue9
  t24 := Tryz.underlying124
  a24 := Tryz.isAgg124
  z24 := Tryz.sizeOf124
  v24 := Tryz.zeroValue124 }
open Go.RowKit in
theorem Tryz.strings_CutPrefix (s p : ByteArray) (w : World) :
    Calls Tryz.prog 69 #[.string s, .string p] w fun e w' => e = .returned (.tuple #[.string ⟨(Lib.trimPrefix s.data.toList p.data.toList).toArray⟩, .bool (Lib.hasPrefix s.data.toList p.data.toList)]) ∧ w' = w := Any.strings_CutPrefix Tryz.lays103 s p w
def Tryz.lays211_ren : Go.Shelf.Ren := ⟨fun | 211 => 117 | 207 => 172 | n => n, fun | 9 => 9 | 4 => 4 | 3 => 3 | n => n, fun | n => n⟩
theorem Tryz.lays211 : Go.Proofs.Lays.n211 Tryz.prog Tryz.lays211_ren := {
  mixed := by kernel_rfl
  f207 := Tryz.func172.trans (congrArg some (by kernel_rfl))
  f211 := Tryz.func117.trans (congrArg some (by kernel_rfl))
  t3 := Tryz.underlying3
  a3 := Tryz.isAgg3
  z3 := Tryz.sizeOf3
  v3 := Tryz.zeroValue3
  t4 := Tryz.underlying4
  a4 := Tryz.isAgg4
  z4 := Tryz.sizeOf4
  v4 := Tryz.zeroValue4
  t9 := Tryz.underlying9
  a9 := Tryz.isAgg9
  z9 := Tryz.sizeOf9
  v9 := Tryz.zeroValue9 }
open Go.RowKit in
theorem Tryz.stringslite_CutSuffix (s p : ByteArray) (w : World) (hs : s.size ≤ 9223372036854775807) :
    Calls Tryz.prog 117 #[.string s, .string p] w fun e w' => e = .returned (.tuple #[.string ⟨(Lib.trimSuffix s.data.toList p.data.toList).toArray⟩, .bool (Lib.hasSuffix s.data.toList p.data.toList)]) ∧ w' = w := Any.stringslite_CutSuffix Tryz.lays211 s p w hs
def Tryz.lays104_ren : Go.Shelf.Ren := ⟨fun | 104 => 70 | 211 => 117 | 207 => 172 | n => n, fun | 9 => 9 | 4 => 4 | 24 => 124 | 3 => 3 | n => n, fun | n => n⟩
theorem Tryz.lays104 : Go.Proofs.Lays.n104 Tryz.prog Tryz.lays104_ren := {
  mixed := by kernel_rfl
  f104 := Tryz.func70.trans (congrArg some (by kernel_rfl))
  f207 := Tryz.func172.trans (congrArg some (by kernel_rfl))
  f211 := Tryz.func117.trans (congrArg some (by kernel_rfl))
  t3 := Tryz.underlying3
  a3 := Tryz.isAgg3
  z3 := Tryz.sizeOf3
  v3 := Tryz.zeroValue3
  t4 := Tryz.underlying4
  a4 := Tryz.isAgg4
  z4 := Tryz.sizeOf4
  v4 := Tryz.zeroValue4
  t9 := Tryz.underlying9
  a9 := Tryz.isAgg9
  z9 := Tryz.sizeOf9
  v9 := Tryz.zeroValue9
  t24 := Tryz.underlying124
  a24 := Tryz.isAgg124
  z24 := Tryz.sizeOf124
  v24 := Tryz.zeroValue124 }
open Go.RowKit in
theorem Tryz.strings_CutSuffix (s p : ByteArray) (w : World) (hs : s.size ≤ 9223372036854775807) :
    Calls Tryz.prog 70 #[.string s, .string p] w fun e w' => e = .returned (.tuple #[.string ⟨(Lib.trimSuffix s.data.toList p.data.toList).toArray⟩, .bool (Lib.hasSuffix s.data.toList p.data.toList)]) ∧ w' = w := Any.strings_CutSuffix Tryz.lays104 s p w hs
def Tryz.laysM173_ren : Go.Shelf.Ren := ⟨fun | 173 => 88 | 246 => 147 | 283 => 198 | 284 => 199 | 285 => 200 | 286 => 201 | 129 => 238 | 317 => 237 | 318 => 239 | 319 => 240 | 320 => 241 | 337 => 263 | 338 => 264 | n => n, fun | 2 => 2 | 3 => 3 | 9 => 9 | 4 => 4 | 171 => 235 | 0 => 0 | 53 => 236 | 37 => 178 | 5 => 5 | 173 => 239 | 212 => 257 | 51 => 258 | 20 => 20 | 213 => 259 | 46 => 260 | 232 => 278 | 233 => 279 | n => n, fun | 17 => 1 | 18 => 4 | 19 => 5 | n => n⟩
theorem Tryz.laysM173 : Go.Proofs.LaysM.n173 Tryz.prog Tryz.laysM173_ren := {
  mixed := by kernel_rfl
  f129 := Tryz.func238.trans (congrArg some (by kernel_rfl))
  f173 := Tryz.func88.trans (congrArg some (by kernel_rfl))
  f246 := Tryz.func147.trans (congrArg some (by kernel_rfl))
  f283 := Tryz.func198.trans (congrArg some (by kernel_rfl))
  f284 := Tryz.func199.trans (congrArg some (by kernel_rfl))
  f285 := Tryz.func200.trans (congrArg some (by kernel_rfl))
  f286 := Tryz.func201.trans (congrArg some (by kernel_rfl))
  f317 := Tryz.func237.trans (congrArg some (by kernel_rfl))
  f318 := Tryz.func239.trans (congrArg some (by kernel_rfl))
  f319 := Tryz.func240.trans (congrArg some (by kernel_rfl))
  f320 := Tryz.func241.trans (congrArg some (by kernel_rfl))
  f337 := Tryz.func263.trans (congrArg some (by kernel_rfl))
  f338 := Tryz.func264.trans (congrArg some (by kernel_rfl))
  t0 := Tryz.underlying0
  a0 := Tryz.isAgg0
  z0 := Tryz.sizeOf0
  v0 := Tryz.zeroValue0
  t2 := Tryz.underlying2
  a2 := Tryz.isAgg2
  z2 := Tryz.sizeOf2
  v2 := Tryz.zeroValue2
  t3 := Tryz.underlying3
  a3 := Tryz.isAgg3
  z3 := Tryz.sizeOf3
  v3 := Tryz.zeroValue3
  t4 := Tryz.underlying4
  a4 := Tryz.isAgg4
  z4 := Tryz.sizeOf4
  v4 := Tryz.zeroValue4
  t5 := Tryz.underlying5
  a5 := Tryz.isAgg5
  z5 := Tryz.sizeOf5
  v5 := Tryz.zeroValue5
  t9 := Tryz.underlying9
  a9 := Tryz.isAgg9
  z9 := Tryz.sizeOf9
  v9 := Tryz.zeroValue9
  t20 := Tryz.underlying20
  a20 := Tryz.isAgg20
  z20 := Tryz.sizeOf20
  v20 := Tryz.zeroValue20
  t37 := Tryz.underlying178
  a37 := Tryz.isAgg178
  z37 := Tryz.sizeOf178
  v37 := Tryz.zeroValue178
  t46 := Tryz.underlying260
  a46 := Tryz.isAgg260
  z46 := Tryz.sizeOf260
  v46 := Tryz.zeroValue260
  t51 := Tryz.underlying258
  a51 := Tryz.isAgg258
  z51 := Tryz.sizeOf258
  v51 := Tryz.zeroValue258
  t53 := Tryz.underlying236
  a53 := Tryz.isAgg236
  z53 := Tryz.sizeOf236
  v53 := Tryz.zeroValue236
  t171 := Tryz.underlying235
  a171 := Tryz.isAgg235
  z171 := Tryz.sizeOf235
  v171 := Tryz.zeroValue235
  t173 := Tryz.underlying239
  a173 := Tryz.isAgg239
  z173 := Tryz.sizeOf239
  v173 := Tryz.zeroValue239
  t212 := Tryz.underlying257
  a212 := Tryz.isAgg257
  z212 := Tryz.sizeOf257
  v212 := Tryz.zeroValue257
  t213 := Tryz.underlying259
  a213 := Tryz.isAgg259
  z213 := Tryz.sizeOf259
  t232 := Tryz.underlying278
  a232 := Tryz.isAgg278
  z232 := Tryz.sizeOf278
  v232 := Tryz.zeroValue278
  t233 := Tryz.underlying279
  a233 := Tryz.isAgg279
  z233 := Tryz.sizeOf279
  v233 := Tryz.zeroValue279
  g17 := by kernel_rfl
  g18 := by kernel_rfl
  g19 := by kernel_rfl
  i0 := by kernel_rfl
  i2 := by kernel_rfl
  i3 := by kernel_rfl
  i4 := by kernel_rfl
  i5 := by kernel_rfl
  i9 := by kernel_rfl
  i20 := by kernel_rfl
  i37 := by kernel_rfl
  i46 := by kernel_rfl
  i51 := by kernel_rfl
  i53 := by kernel_rfl
  i171 := by kernel_rfl
  i173 := by kernel_rfl
  i212 := by kernel_rfl
  i232 := by kernel_rfl
  i233 := by kernel_rfl
  m17 := by kernel_rfl
  m18 := by kernel_rfl
  m19 := by kernel_rfl }
open Go.RowKit Go.Sort Go.Lib in
theorem Tryz.strconv_FormatInt_10 (n : Int) (h0 : -9223372036854775808 ≤ n) (h1 : n ≤ 9223372036854775807) (w : World) (htab : Lib.TabIs Tryz.prog w "internal/strconv.uint64pow10" .u64 Lib.pow10Tab) :
    Calls Tryz.prog 88 #[.int .i64 n, .int .i64 10] w fun e w' => e = .returned (.string ⟨(Lib.itoa n).toArray⟩) ∧ ∃ k os, w' = grow (w.drewN k) os := Any.strconv_FormatInt_10 Tryz.laysM173 n h0 h1 w htab
def Tryz.lays143_ren : Go.Shelf.Ren := ⟨fun | 143 => 243 | 219 => 218 | 217 => 228 | 225 => 250 | 224 => 249 | 267 => 251 | 266 => 256 | 314 => 265 | n => n, fun | 9 => 9 | 3 => 3 | 4 => 4 | 5 => 5 | 46 => 260 | 146 => 275 | 51 => 258 | n => n, fun | 1 => 0 | n => n⟩
theorem Tryz.lays143 : Go.Proofs.Lays.n143 Tryz.prog Tryz.lays143_ren := {
  mixed := by kernel_rfl
  f143 := Tryz.func243.trans (congrArg some (by kernel_rfl))
  f217 := Tryz.func228.trans (congrArg some (by kernel_rfl))
  f219 := Tryz.func218.trans (congrArg some (by kernel_rfl))
  f224 := Tryz.func249.trans (congrArg some (by kernel_rfl))
  f225 := Tryz.func250.trans (congrArg some (by kernel_rfl))
  f266 := Tryz.func256.trans (congrArg some (by kernel_rfl))
  f267 := Tryz.func251.trans (congrArg some (by kernel_rfl))
  f314 := Tryz.func265.trans (congrArg some (by kernel_rfl))
  t3 := Tryz.underlying3
  a3 := Tryz.isAgg3
  z3 := Tryz.sizeOf3
  v3 := Tryz.zeroValue3
  t4 := Tryz.underlying4
  a4 := Tryz.isAgg4
  z4 := Tryz.sizeOf4
  v4 := Tryz.zeroValue4
  t5 := Tryz.underlying5
  a5 := Tryz.isAgg5
  z5 := Tryz.sizeOf5
  v5 := Tryz.zeroValue5
  t9 := Tryz.underlying9
  a9 := Tryz.isAgg9
  z9 := Tryz.sizeOf9
  v9 := Tryz.zeroValue9
  t46 := Tryz.underlying260
  a46 := Tryz.isAgg260
  z46 := Tryz.sizeOf260
  v46 := Tryz.zeroValue260
  t51 := Tryz.underlying258
  a51 := Tryz.isAgg258
  z51 := Tryz.sizeOf258
  v51 := Tryz.zeroValue258
  t146 := Tryz.underlying275
  a146 := Tryz.isAgg275
  z146 := Tryz.sizeOf275
  v146 := Tryz.zeroValue275
  g1 := by kernel_rfl }
open Go.RowKit Go.Lib in
theorem Tryz.strings_Index (s sub : ByteArray) (m : Int) (w : World) (hs : s.size < 4294967281) (hm : w.cell? ⟨0, 0, none⟩ = some (.int .i64 m)) :
    Calls Tryz.prog 243 #[.string s, .string sub] w fun e w' => e = .returned (.int .i64 (Lib.index s.data.toList sub.data.toList)) ∧ w' = w := Any.strings_Index Tryz.lays143 s sub m w hs hm
def Tryz.lays144_ren : Go.Shelf.Ren := ⟨fun | 144 => 260 | 143 => 243 | 219 => 218 | 217 => 228 | 225 => 250 | 224 => 249 | 267 => 251 | 266 => 256 | 314 => 265 | n => n, fun | 9 => 9 | 4 => 4 | 3 => 3 | 5 => 5 | 46 => 260 | 146 => 275 | 51 => 258 | n => n, fun | 1 => 0 | n => n⟩
theorem Tryz.lays144 : Go.Proofs.Lays.n144 Tryz.prog Tryz.lays144_ren := {
  mixed := by kernel_rfl
  f143 := Tryz.func243.trans (congrArg some (by kernel_rfl))
  f144 := Tryz.func260.trans (congrArg some (by kernel_rfl))
  f217 := Tryz.func228.trans (congrArg some (by kernel_rfl))
  f219 := Tryz.func218.trans (congrArg some (by kernel_rfl))
  f224 := Tryz.func249.trans (congrArg some (by kernel_rfl))
  f225 := Tryz.func250.trans (congrArg some (by kernel_rfl))
  f266 := Tryz.func256.trans (congrArg some (by kernel_rfl))
  f267 := Tryz.func251.trans (congrArg some (by kernel_rfl))
  f314 := Tryz.func265.trans (congrArg some (by kernel_rfl))
  t3 := Tryz.underlying3
  a3 := Tryz.isAgg3
  z3 := Tryz.sizeOf3
  v3 := Tryz.zeroValue3
  t4 := Tryz.underlying4
  a4 := Tryz.isAgg4
  z4 := Tryz.sizeOf4
  v4 := Tryz.zeroValue4
  t5 := Tryz.underlying5
  a5 := Tryz.isAgg5
  z5 := Tryz.sizeOf5
  v5 := Tryz.zeroValue5
  t9 := Tryz.underlying9
  a9 := Tryz.isAgg9
  z9 := Tryz.sizeOf9
  v9 := Tryz.zeroValue9
  t46 := Tryz.underlying260
  a46 := Tryz.isAgg260
  z46 := Tryz.sizeOf260
  v46 := Tryz.zeroValue260
  t51 := Tryz.underlying258
  a51 := Tryz.isAgg258
  z51 := Tryz.sizeOf258
  v51 := Tryz.zeroValue258
  t146 := Tryz.underlying275
  a146 := Tryz.isAgg275
  z146 := Tryz.sizeOf275
  v146 := Tryz.zeroValue275
  g1 := by kernel_rfl }
open Go.RowKit Go.Lib in
theorem Tryz.strings_Contains (s sub : ByteArray) (m : Int) (w : World) (hs : s.size < 4294967281) (hm : w.cell? ⟨0, 0, none⟩ = some (.int .i64 m)) :
    Calls Tryz.prog 260 #[.string s, .string sub] w fun e w' => e = .returned (.bool (Lib.contains s.data.toList sub.data.toList)) ∧ w' = w := Any.strings_Contains Tryz.lays144 s sub m w hs hm
def Tryz.lays145_ren : Go.Shelf.Ren := ⟨fun | 145 => 118 | 220 => 173 | 219 => 218 | 217 => 228 | 225 => 250 | 224 => 249 | 267 => 251 | 266 => 256 | 314 => 265 | n => n, fun | 9 => 9 | 4 => 4 | 59 => 160 | 3 => 3 | 5 => 5 | 46 => 260 | 146 => 275 | 51 => 258 | n => n, fun | 1 => 0 | n => n⟩
theorem Tryz.lays145 : Go.Proofs.Lays.n145 Tryz.prog Tryz.lays145_ren := {
  mixed := by kernel_rfl
  f145 := Tryz.func118.trans (congrArg some (by kernel_rfl))
  f217 := Tryz.func228.trans (congrArg some (by kernel_rfl))
  f219 := Tryz.func218.trans (congrArg some (by kernel_rfl))
  f220 := Tryz.func173.trans (congrArg some (by kernel_rfl))
  f224 := Tryz.func249.trans (congrArg some (by kernel_rfl))
  f225 := Tryz.func250.trans (congrArg some (by kernel_rfl))
  f266 := Tryz.func256.trans (congrArg some (by kernel_rfl))
  f267 := Tryz.func251.trans (congrArg some (by kernel_rfl))
  f314 := Tryz.func265.trans (congrArg some (by kernel_rfl))
  t3 := Tryz.underlying3
  a3 := Tryz.isAgg3
  z3 := Tryz.sizeOf3
  v3 := Tryz.zeroValue3
  t4 := Tryz.underlying4
  a4 := Tryz.isAgg4
  z4 := Tryz.sizeOf4
  v4 := Tryz.zeroValue4
  t5 := Tryz.underlying5
  a5 := Tryz.isAgg5
  z5 := Tryz.sizeOf5
  v5 := Tryz.zeroValue5
  t9 := Tryz.underlying9
  a9 := Tryz.isAgg9
  z9 := Tryz.sizeOf9
  v9 := Tryz.zeroValue9
  t46 := Tryz.underlying260
  a46 := Tryz.isAgg260
  z46 := Tryz.sizeOf260
  v46 := Tryz.zeroValue260
  t51 := Tryz.underlying258
  a51 := Tryz.isAgg258
  z51 := Tryz.sizeOf258
  v51 := Tryz.zeroValue258
  t59 := Tryz.underlying160
  a59 := Tryz.isAgg160
  z59 := Tryz.sizeOf160
  v59 := Tryz.zeroValue160
  t146 := Tryz.underlying275
  a146 := Tryz.isAgg275
  z146 := Tryz.sizeOf275
  v146 := Tryz.zeroValue275
  g1 := by kernel_rfl }
open Go.RowKit Go.Lib in
theorem Tryz.strings_Cut (s sep : ByteArray) (m : Int) (w : World) (hs : s.size < 4294967281) (hm : w.cell? ⟨0, 0, none⟩ = some (.int .i64 m)) :
    Calls Tryz.prog 118 #[.string s, .string sep] w fun e w' => e = .returned (.tuple #[.string ⟨(Lib.cut s.data.toList sep.data.toList).1.toArray⟩, .string ⟨(Lib.cut s.data.toList sep.data.toList).2.1.toArray⟩, .bool (Lib.cut s.data.toList sep.data.toList).2.2]) ∧ ∃ n, w' = w.drewN n := Any.strings_Cut Tryz.lays145 s sep m w hs hm
def Tryz.lays206_ren : Go.Shelf.Ren := ⟨fun | 206 => 171 | n => n, fun | 9 => 9 | 4 => 4 | 3 => 3 | n => n, fun | n => n⟩
theorem Tryz.lays206 : Go.Proofs.Lays.n206 Tryz.prog Tryz.lays206_ren := {
  mixed := by kernel_rfl
  f206 := Tryz.func171.trans (congrArg some (by kernel_rfl))
  t3 := Tryz.underlying3
  a3 := Tryz.isAgg3
  z3 := Tryz.sizeOf3
  v3 := Tryz.zeroValue3
  t4 := Tryz.underlying4
  a4 := Tryz.isAgg4
  z4 := Tryz.sizeOf4
  v4 := Tryz.zeroValue4
  t9 := Tryz.underlying9
  a9 := Tryz.isAgg9
  z9 := Tryz.sizeOf9
  v9 := Tryz.zeroValue9 }
open Go.RowKit Go.Lib in
theorem Tryz.stringslite_HasPrefix (s p : ByteArray) (w : World) :
    Calls Tryz.prog 171 #[.string s, .string p] w fun e w' => e = .returned (.bool (Lib.hasPrefix s.data.toList p.data.toList)) ∧ w' = w := Any.stringslite_HasPrefix Tryz.lays206 s p w
def Tryz.lays99_ren : Go.Shelf.Ren := ⟨fun | 99 => 130 | 206 => 171 | n => n, fun | 9 => 9 | 4 => 4 | 3 => 3 | n => n, fun | n => n⟩
theorem Tryz.lays99 : Go.Proofs.Lays.n99 Tryz.prog Tryz.lays99_ren := {
  mixed := by kernel_rfl
  f99 := Tryz.func130.trans (congrArg some (by kernel_rfl))
  f206 := Tryz.func171.trans (congrArg some (by kernel_rfl))
  t3 := Tryz.underlying3
  a3 := Tryz.isAgg3
  z3 := Tryz.sizeOf3
  v3 := Tryz.zeroValue3
  t4 := Tryz.underlying4
  a4 := Tryz.isAgg4
  z4 := Tryz.sizeOf4
  v4 := Tryz.zeroValue4
  t9 := Tryz.underlying9
  a9 := Tryz.isAgg9
  z9 := Tryz.sizeOf9
  v9 := Tryz.zeroValue9 }
open Go.RowKit Go.Lib in
theorem Tryz.strings_HasPrefix (s p : ByteArray) (w : World) :
    Calls Tryz.prog 130 #[.string s, .string p] w fun e w' => e = .returned (.bool (Lib.hasPrefix s.data.toList p.data.toList)) ∧ w' = w := Any.strings_HasPrefix Tryz.lays99 s p w
def Tryz.lays207_ren : Go.Shelf.Ren := ⟨fun | 207 => 172 | n => n, fun | 9 => 9 | 4 => 4 | 3 => 3 | n => n, fun | n => n⟩
theorem Tryz.lays207 : Go.Proofs.Lays.n207 Tryz.prog Tryz.lays207_ren := {
  mixed := by kernel_rfl
  f207 := Tryz.func172.trans (congrArg some (by kernel_rfl))
  t3 := Tryz.underlying3
  a3 := Tryz.isAgg3
  z3 := Tryz.sizeOf3
  v3 := Tryz.zeroValue3
  t4 := Tryz.underlying4
  a4 := Tryz.isAgg4
  z4 := Tryz.sizeOf4
  v4 := Tryz.zeroValue4
  t9 := Tryz.underlying9
  a9 := Tryz.isAgg9
  z9 := Tryz.sizeOf9
  v9 := Tryz.zeroValue9 }
open Go.RowKit Go.Lib in
theorem Tryz.stringslite_HasSuffix (s p : ByteArray) (w : World) (hs : s.size ≤ 9223372036854775807) :
    Calls Tryz.prog 172 #[.string s, .string p] w fun e w' => e = .returned (.bool (Lib.hasSuffix s.data.toList p.data.toList)) ∧ w' = w := Any.stringslite_HasSuffix Tryz.lays207 s p w hs
def Tryz.lays100_ren : Go.Shelf.Ren := ⟨fun | 100 => 186 | 207 => 172 | n => n, fun | 9 => 9 | 4 => 4 | 3 => 3 | n => n, fun | n => n⟩
theorem Tryz.lays100 : Go.Proofs.Lays.n100 Tryz.prog Tryz.lays100_ren := {
  mixed := by kernel_rfl
  f100 := Tryz.func186.trans (congrArg some (by kernel_rfl))
  f207 := Tryz.func172.trans (congrArg some (by kernel_rfl))
  t3 := Tryz.underlying3
  a3 := Tryz.isAgg3
  z3 := Tryz.sizeOf3
  v3 := Tryz.zeroValue3
  t4 := Tryz.underlying4
  a4 := Tryz.isAgg4
  z4 := Tryz.sizeOf4
  v4 := Tryz.zeroValue4
  t9 := Tryz.underlying9
  a9 := Tryz.isAgg9
  z9 := Tryz.sizeOf9
  v9 := Tryz.zeroValue9 }
open Go.RowKit Go.Lib in
theorem Tryz.strings_HasSuffix (s p : ByteArray) (w : World) (hs : s.size ≤ 9223372036854775807) :
    Calls Tryz.prog 186 #[.string s, .string p] w fun e w' => e = .returned (.bool (Lib.hasSuffix s.data.toList p.data.toList)) ∧ w' = w := Any.strings_HasSuffix Tryz.lays100 s p w hs
def Tryz.lays208_ren : Go.Shelf.Ren := ⟨fun | 208 => 233 | 206 => 171 | n => n, fun | 9 => 9 | 4 => 4 | 3 => 3 | n => n, fun | n => n⟩
theorem Tryz.lays208 : Go.Proofs.Lays.n208 Tryz.prog Tryz.lays208_ren := {
  mixed := by kernel_rfl
  f206 := Tryz.func171.trans (congrArg some (by kernel_rfl))
  f208 := Tryz.func233.trans (congrArg some (by kernel_rfl))
  t3 := Tryz.underlying3
  a3 := Tryz.isAgg3
  z3 := Tryz.sizeOf3
  v3 := Tryz.zeroValue3
  t4 := Tryz.underlying4
  a4 := Tryz.isAgg4
  z4 := Tryz.sizeOf4
  v4 := Tryz.zeroValue4
  t9 := Tryz.underlying9
  a9 := Tryz.isAgg9
  z9 := Tryz.sizeOf9
  v9 := Tryz.zeroValue9 }
open Go.RowKit Go.Lib in
theorem Tryz.stringslite_TrimPrefix (s p : ByteArray) (w : World) :
    Calls Tryz.prog 233 #[.string s, .string p] w fun e w' => e = .returned (.string ⟨(Lib.trimPrefix s.data.toList p.data.toList).toArray⟩) ∧ w' = w := Any.stringslite_TrimPrefix Tryz.lays208 s p w
def Tryz.lays101_ren : Go.Shelf.Ren := ⟨fun | 101 => 192 | 208 => 233 | 206 => 171 | n => n, fun | 9 => 9 | 4 => 4 | 3 => 3 | n => n, fun | n => n⟩
theorem Tryz.lays101 : Go.Proofs.Lays.n101 Tryz.prog Tryz.lays101_ren := {
  mixed := by kernel_rfl
  f101 := Tryz.func192.trans (congrArg some (by kernel_rfl))
  f206 := Tryz.func171.trans (congrArg some (by kernel_rfl))
  f208 := Tryz.func233.trans (congrArg some (by kernel_rfl))
  t3 := Tryz.underlying3
  a3 := Tryz.isAgg3
  z3 := Tryz.sizeOf3
  v3 := Tryz.zeroValue3
  t4 := Tryz.underlying4
  a4 := Tryz.isAgg4
  z4 := Tryz.sizeOf4
  v4 := Tryz.zeroValue4
  t9 := Tryz.underlying9
  a9 := Tryz.isAgg9
  z9 := Tryz.sizeOf9
  v9 := Tryz.zeroValue9 }
open Go.RowKit Go.Lib in
theorem Tryz.strings_TrimPrefix (s p : ByteArray) (w : World) :
    Calls Tryz.prog 192 #[.string s, .string p] w fun e w' => e = .returned (.string ⟨(Lib.trimPrefix s.data.toList p.data.toList).toArray⟩) ∧ w' = w := Any.strings_TrimPrefix Tryz.lays101 s p w
def Tryz.lays146_ren : Go.Shelf.Ren := ⟨fun | 146 => 174 | 221 => 219 | 268 => 252 | 138 => 253 | 143 => 243 | 195 => 266 | 197 => 211 | 218 => 267 | 219 => 218 | 260 => 246 | 217 => 228 | 225 => 250 | 224 => 249 | 267 => 251 | 266 => 256 | 314 => 265 | n => n, fun | 9 => 9 | 31 => 42 | 3 => 3 | 4 => 4 | 0 => 0 | 105 => 244 | 21 => 21 | 5 => 5 | 46 => 260 | 119 => 271 | 139 => 274 | 138 => 273 | 146 => 275 | 51 => 258 | n => n, fun | 1 => 0 | 3 => 2 | 4 => 3 | n => n⟩
theorem Tryz.lays146 : Go.Proofs.Lays.n146 Tryz.prog Tryz.lays146_ren := {
  mixed := by kernel_rfl
  f138 := Tryz.func253.trans (congrArg some (by kernel_rfl))
  f143 := Tryz.func243.trans (congrArg some (by kernel_rfl))
  f146 := Tryz.func174.trans (congrArg some (by kernel_rfl))
  f195 := Tryz.func266.trans (congrArg some (by kernel_rfl))
  f197 := Tryz.func211.trans (congrArg some (by kernel_rfl))
  f217 := Tryz.func228.trans (congrArg some (by kernel_rfl))
  f218 := Tryz.func267.trans (congrArg some (by kernel_rfl))
  f219 := Tryz.func218.trans (congrArg some (by kernel_rfl))
  f221 := Tryz.func219.trans (congrArg some (by kernel_rfl))
  f224 := Tryz.func249.trans (congrArg some (by kernel_rfl))
  f225 := Tryz.func250.trans (congrArg some (by kernel_rfl))
  f260 := Tryz.func246.trans (congrArg some (by kernel_rfl))
  f266 := Tryz.func256.trans (congrArg some (by kernel_rfl))
  f267 := Tryz.func251.trans (congrArg some (by kernel_rfl))
  f268 := Tryz.func252.trans (congrArg some (by kernel_rfl))
  f314 := Tryz.func265.trans (congrArg some (by kernel_rfl))
  t0 := Tryz.underlying0
  a0 := Tryz.isAgg0
  z0 := Tryz.sizeOf0
  v0 := Tryz.zeroValue0
  t3 := Tryz.underlying3
  a3 := Tryz.isAgg3
  z3 := Tryz.sizeOf3
  v3 := Tryz.zeroValue3
  t4 := Tryz.underlying4
  a4 := Tryz.isAgg4
  z4 := Tryz.sizeOf4
  v4 := Tryz.zeroValue4
  t5 := Tryz.underlying5
  a5 := Tryz.isAgg5
  z5 := Tryz.sizeOf5
  v5 := Tryz.zeroValue5
  t9 := Tryz.underlying9
  a9 := Tryz.isAgg9
  z9 := Tryz.sizeOf9
  v9 := Tryz.zeroValue9
  t21 := Tryz.underlying21
  a21 := Tryz.isAgg21
  z21 := Tryz.sizeOf21
  v21 := Tryz.zeroValue21
  t31 := Tryz.underlying42
  a31 := Tryz.isAgg42
  z31 := Tryz.sizeOf42
  v31 := Tryz.zeroValue42
  t46 := Tryz.underlying260
  a46 := Tryz.isAgg260
  z46 := Tryz.sizeOf260
  v46 := Tryz.zeroValue260
  t51 := Tryz.underlying258
  a51 := Tryz.isAgg258
  z51 := Tryz.sizeOf258
  v51 := Tryz.zeroValue258
  t105 := Tryz.underlying244
  a105 := Tryz.isAgg244
  z105 := Tryz.sizeOf244
  v105 := Tryz.zeroValue244
  t119 := Tryz.underlying271
  a119 := Tryz.isAgg271
  z119 := Tryz.sizeOf271
  t138 := Tryz.underlying273
  a138 := Tryz.isAgg273
  z138 := Tryz.sizeOf273
  v138 := Tryz.zeroValue273
  t139 := Tryz.underlying274
  a139 := Tryz.isAgg274
  z139 := Tryz.sizeOf274
  v139 := Tryz.zeroValue274
  t146 := Tryz.underlying275
  a146 := Tryz.isAgg275
  z146 := Tryz.sizeOf275
  v146 := Tryz.zeroValue275
  g1 := by kernel_rfl
  g3 := by kernel_rfl
  g4 := by kernel_rfl }
open Go.RowKit Go.Lib in
theorem Tryz.strings_Split (s sep : ByteArray) (m : Int) (w : World) (hs : s.size < 4294967281) (hm : w.cell? ⟨0, 0, none⟩ = some (.int .i64 m)) (h1 : 1 ≤ sep.size) :
    Calls Tryz.prog 174 #[.string s, .string sep] w fun e w' =>
      e = .returned (.slice (some ⟨w.heap.size, 0, none⟩) (Lib.countB s sep + 1) (Lib.countB s sep + 1)) ∧ w' = w.alloc (.cells ((Lib.splitB sep 0 (Lib.countB s sep) s).map Value.string).toArray 9) := Any.strings_Split Tryz.lays146 (by kernel_rfl) s sep m w hs hm h1
def Tryz.lays152_ren : Go.Shelf.Ren := ⟨fun | 152 => 214 | 137 => 187 | 119 => 248 | 224 => 249 | 225 => 250 | 217 => 228 | 266 => 256 | n => n, fun | 9 => 9 | 21 => 21 | 3 => 3 | 4 => 4 | 5 => 5 | 0 => 0 | 46 => 260 | n => n, fun | n => n⟩
theorem Tryz.lays152 : Go.Proofs.Lays.n152 Tryz.prog Tryz.lays152_ren := {
  mixed := by kernel_rfl
  f119 := Tryz.func248.trans (congrArg some (by kernel_rfl))
  f137 := Tryz.func187.trans (congrArg some (by kernel_rfl))
  f152 := Tryz.func214.trans (congrArg some (by kernel_rfl))
  f217 := Tryz.func228.trans (congrArg some (by kernel_rfl))
  f224 := Tryz.func249.trans (congrArg some (by kernel_rfl))
  f225 := Tryz.func250.trans (congrArg some (by kernel_rfl))
  f266 := Tryz.func256.trans (congrArg some (by kernel_rfl))
  t0 := Tryz.underlying0
  a0 := Tryz.isAgg0
  z0 := Tryz.sizeOf0
  v0 := Tryz.zeroValue0
  t3 := Tryz.underlying3
  a3 := Tryz.isAgg3
  z3 := Tryz.sizeOf3
  v3 := Tryz.zeroValue3
  t4 := Tryz.underlying4
  a4 := Tryz.isAgg4
  z4 := Tryz.sizeOf4
  v4 := Tryz.zeroValue4
  t5 := Tryz.underlying5
  a5 := Tryz.isAgg5
  z5 := Tryz.sizeOf5
  v5 := Tryz.zeroValue5
  t9 := Tryz.underlying9
  a9 := Tryz.isAgg9
  z9 := Tryz.sizeOf9
  v9 := Tryz.zeroValue9
  t21 := Tryz.underlying21
  a21 := Tryz.isAgg21
  z21 := Tryz.sizeOf21
  v21 := Tryz.zeroValue21
  t46 := Tryz.underlying260
  a46 := Tryz.isAgg260
  z46 := Tryz.sizeOf260
  v46 := Tryz.zeroValue260 }
open Go.RowKit Go.Lib in
theorem Tryz.strings_IndexRune_ascii (s : ByteArray) (r : Int) (w : World) (h0 : 0 ≤ r) (h1 : r < 128) :
    Calls Tryz.prog 214 #[.string s, .int .i32 r] w fun e w' => e = .returned (.int .i64 (Lib.indexByte s.data.toList r.toNat.toUInt8)) ∧ w' = w := Any.strings_IndexRune_ascii Tryz.lays152 s r w h0 h1
def Tryz.lays226_ren : Go.Shelf.Ren := ⟨fun | 226 => 215 | n => n, fun | 3 => 3 | 4 => 4 | n => n, fun | n => n⟩
theorem Tryz.lays226 : Go.Proofs.Lays.n226 Tryz.prog Tryz.lays226_ren := {
  mixed := by kernel_rfl
  f226 := Tryz.func215.trans (congrArg some (by kernel_rfl))
  t3 := Tryz.underlying3
  a3 := Tryz.isAgg3
  z3 := Tryz.sizeOf3
  v3 := Tryz.zeroValue3
  t4 := Tryz.underlying4
  a4 := Tryz.isAgg4
  z4 := Tryz.sizeOf4
  v4 := Tryz.zeroValue4 }
open Go.RowKit Go.Lib in
theorem Tryz.strings_shouldUseASCIISet (n : Int) (w : World) :
    Calls Tryz.prog 215 #[.int .i64 n] w fun e w' => e = .returned (.bool (decide (8 < n))) ∧ w' = w := Any.strings_shouldUseASCIISet Tryz.lays226 n w
def Tryz.lays153_ren : Go.Shelf.Ren := ⟨fun | 153 => 167 | 152 => 214 | 226 => 215 | 227 => 162 | 228 => 210 | 137 => 187 | 119 => 248 | 224 => 249 | 225 => 250 | 217 => 228 | 266 => 256 | n => n, fun | 9 => 9 | 3 => 3 | 4 => 4 | 5 => 5 | 21 => 21 | 117 => 206 | 116 => 205 | 0 => 0 | 46 => 260 | 124 => 209 | n => n, fun | n => n⟩
theorem Tryz.lays153 : Go.Proofs.Lays.n153 Tryz.prog Tryz.lays153_ren := {
  mixed := by kernel_rfl
  f119 := Tryz.func248.trans (congrArg some (by kernel_rfl))
  f137 := Tryz.func187.trans (congrArg some (by kernel_rfl))
  f152 := Tryz.func214.trans (congrArg some (by kernel_rfl))
  f153 := Tryz.func167.trans (congrArg some (by kernel_rfl))
  f217 := Tryz.func228.trans (congrArg some (by kernel_rfl))
  f224 := Tryz.func249.trans (congrArg some (by kernel_rfl))
  f225 := Tryz.func250.trans (congrArg some (by kernel_rfl))
  f226 := Tryz.func215.trans (congrArg some (by kernel_rfl))
  f227 := Tryz.func162.trans (congrArg some (by kernel_rfl))
  f228 := Tryz.func210.trans (congrArg some (by kernel_rfl))
  f266 := Tryz.func256.trans (congrArg some (by kernel_rfl))
  t0 := Tryz.underlying0
  a0 := Tryz.isAgg0
  z0 := Tryz.sizeOf0
  v0 := Tryz.zeroValue0
  t3 := Tryz.underlying3
  a3 := Tryz.isAgg3
  z3 := Tryz.sizeOf3
  v3 := Tryz.zeroValue3
  t4 := Tryz.underlying4
  a4 := Tryz.isAgg4
  z4 := Tryz.sizeOf4
  v4 := Tryz.zeroValue4
  t5 := Tryz.underlying5
  a5 := Tryz.isAgg5
  z5 := Tryz.sizeOf5
  v5 := Tryz.zeroValue5
  t9 := Tryz.underlying9
  a9 := Tryz.isAgg9
  z9 := Tryz.sizeOf9
  v9 := Tryz.zeroValue9
  t21 := Tryz.underlying21
  a21 := Tryz.isAgg21
  z21 := Tryz.sizeOf21
  v21 := Tryz.zeroValue21
  t46 := Tryz.underlying260
  a46 := Tryz.isAgg260
  z46 := Tryz.sizeOf260
  v46 := Tryz.zeroValue260
  t116 := Tryz.underlying205
  a116 := Tryz.isAgg205
  z116 := Tryz.sizeOf205
  t117 := Tryz.underlying206
  a117 := Tryz.isAgg206
  z117 := Tryz.sizeOf206
  v117 := Tryz.zeroValue206
  t124 := Tryz.underlying209
  a124 := Tryz.isAgg209
  z124 := Tryz.sizeOf209
  v124 := Tryz.zeroValue209 }
open Go.RowKit Go.Lib in
theorem Tryz.strings_IndexAny_none (s zW : ByteArray) (w : World) (h0 : zW.size = 0) :
    Calls Tryz.prog 167 #[.string s, .string zW] w fun e w' => e = .returned (.int .i64 (Lib.indexAny s.data.toList zW.data.toList)) ∧ w' = w := Any.strings_IndexAny_none Tryz.lays153 s zW w h0
open Go.RowKit Go.Lib in
theorem Tryz.strings_IndexAny_one (s zW : ByteArray) (w : World) (h1 : zW.size = 1) (hascii : ∀ (j : Nat) b, zW.data.toList[j]? = some b → b.toNat < 128) :
    Calls Tryz.prog 167 #[.string s, .string zW] w fun e w' => e = .returned (.int .i64 (Lib.indexAny s.data.toList zW.data.toList)) ∧ w' = w := Any.strings_IndexAny_one Tryz.lays153 s zW w h1 hascii
open Go.RowKit Go.Lib in
theorem Tryz.strings_IndexAny_long (hv116 : ∀ w, (zeroValue 205).run Tryz.prog w = .ok (.agg (Array.replicate 256 (.bool false))) w) (s zW : ByteArray) (w : World) (h2 : 2 ≤ zW.size) (h8 : 8 < s.size) (hs : s.size < 4294967281) (hcs : zW.size < 4294967281) (hascii : ∀ (j : Nat) b, zW.data.toList[j]? = some b → b.toNat < 128) :
    Calls Tryz.prog 167 #[.string s, .string zW] w fun e w' => e = .returned (.int .i64 (Lib.indexAny s.data.toList zW.data.toList)) ∧ w' = ((w.alloc (.cells (Lib.setCells zW.data.toList) 205)).alloc (.cells (Lib.setCells zW.data.toList) 205)) := Any.strings_IndexAny_long Tryz.lays153 hv116 (by kernel_rfl) s zW w h2 h8 hs hcs hascii
open Go.RowKit Go.Lib in
theorem Tryz.strings_IndexAny (hv116 : ∀ w, (zeroValue 205).run Tryz.prog w = .ok (.agg (Array.replicate 256 (.bool false))) w) (s zW : ByteArray) (w : World) (hs : s.size < 4294967281) (hcs : zW.size < 4294967281) (has : ∀ (j : Nat) b, s.data.toList[j]? = some b → b.toNat < 128) (hac : ∀ (j : Nat) b, zW.data.toList[j]? = some b → b.toNat < 128) :
    Calls Tryz.prog 167 #[.string s, .string zW] w fun e w' => e = .returned (.int .i64 (Lib.indexAny s.data.toList zW.data.toList)) ∧ Below w.heap.size w w' := Any.strings_IndexAny Tryz.lays153 hv116 (by kernel_rfl) s zW w hs hcs has hac
def Tryz.lays150_ren : Go.Shelf.Ren := ⟨fun | 150 => 112 | 153 => 167 | 152 => 214 | 226 => 215 | 227 => 162 | 228 => 210 | 137 => 187 | 119 => 248 | 224 => 249 | 225 => 250 | 217 => 228 | 266 => 256 | n => n, fun | 9 => 9 | 4 => 4 | 3 => 3 | 5 => 5 | 21 => 21 | 117 => 206 | 116 => 205 | 0 => 0 | 46 => 260 | 124 => 209 | n => n, fun | n => n⟩
theorem Tryz.lays150 : Go.Proofs.Lays.n150 Tryz.prog Tryz.lays150_ren := {
  mixed := by kernel_rfl
  f119 := Tryz.func248.trans (congrArg some (by kernel_rfl))
  f137 := Tryz.func187.trans (congrArg some (by kernel_rfl))
  f150 := Tryz.func112.trans (congrArg some (by kernel_rfl))
  f152 := Tryz.func214.trans (congrArg some (by kernel_rfl))
  f153 := Tryz.func167.trans (congrArg some (by kernel_rfl))
  f217 := Tryz.func228.trans (congrArg some (by kernel_rfl))
  f224 := Tryz.func249.trans (congrArg some (by kernel_rfl))
  f225 := Tryz.func250.trans (congrArg some (by kernel_rfl))
  f226 := Tryz.func215.trans (congrArg some (by kernel_rfl))
  f227 := Tryz.func162.trans (congrArg some (by kernel_rfl))
  f228 := Tryz.func210.trans (congrArg some (by kernel_rfl))
  f266 := Tryz.func256.trans (congrArg some (by kernel_rfl))
  t0 := Tryz.underlying0
  a0 := Tryz.isAgg0
  z0 := Tryz.sizeOf0
  v0 := Tryz.zeroValue0
  t3 := Tryz.underlying3
  a3 := Tryz.isAgg3
  z3 := Tryz.sizeOf3
  v3 := Tryz.zeroValue3
  t4 := Tryz.underlying4
  a4 := Tryz.isAgg4
  z4 := Tryz.sizeOf4
  v4 := Tryz.zeroValue4
  t5 := Tryz.underlying5
  a5 := Tryz.isAgg5
  z5 := Tryz.sizeOf5
  v5 := Tryz.zeroValue5
  t9 := Tryz.underlying9
  a9 := Tryz.isAgg9
  z9 := Tryz.sizeOf9
  v9 := Tryz.zeroValue9
  t21 := Tryz.underlying21
  a21 := Tryz.isAgg21
  z21 := Tryz.sizeOf21
  v21 := Tryz.zeroValue21
  t46 := Tryz.underlying260
  a46 := Tryz.isAgg260
  z46 := Tryz.sizeOf260
  v46 := Tryz.zeroValue260
  t116 := Tryz.underlying205
  a116 := Tryz.isAgg205
  z116 := Tryz.sizeOf205
  t117 := Tryz.underlying206
  a117 := Tryz.isAgg206
  z117 := Tryz.sizeOf206
  v117 := Tryz.zeroValue206
  t124 := Tryz.underlying209
  a124 := Tryz.isAgg209
  z124 := Tryz.sizeOf209
  v124 := Tryz.zeroValue209 }
open Go.RowKit Go.Lib in
theorem Tryz.strings_ContainsAny (hv116 : ∀ w, (zeroValue 205).run Tryz.prog w = .ok (.agg (Array.replicate 256 (.bool false))) w) (s zW : ByteArray) (w : World) (hs : s.size < 4294967281) (hcs : zW.size < 4294967281) (has : ∀ (j : Nat) b, s.data.toList[j]? = some b → b.toNat < 128) (hac : ∀ (j : Nat) b, zW.data.toList[j]? = some b → b.toNat < 128) :
    Calls Tryz.prog 112 #[.string s, .string zW] w fun e w' => e = .returned (.bool (Lib.containsAny s.data.toList zW.data.toList)) ∧ Below w.heap.size w w' := Any.strings_ContainsAny Tryz.lays150 hv116 (by kernel_rfl) s zW w hs hcs has hac
end Go.Proofs
end
section
namespace Go.Dk
open Go.RowKit Go.Dm

inductive Fr where
  | sq (y : Code)
  | ct (K : Act → World → Prop)
  | bk (id : Nat)
def QS (P : Program) (Q0 : Exit → Act → World → Prop) : List Fr → Exit → Act → World → Prop
  | [] => Q0
  | .sq y :: fs => Exit.then (y.wp P (QS P Q0 fs)) (QS P Q0 fs)
  | .ct K :: fs => Exit.then K (QS P Q0 fs)
  | .bk id :: fs => Exit.inBlock id (QS P Q0 fs)
inductive Cur where
  | co (c : Code)
  | op (all : Array Oper) (rest : List Oper)
  | no
  | ex (id : Nat)
  | rt
def wpU (P : Program) (Q0 : Exit → Act → World → Prop) : Cur → List Fr → Act → World → Prop
  | .co c, fs => c.wp P (QS P Q0 fs)
  | .op all rest, fs => wpList P all (QS P Q0 fs) rest
  | .no, fs => QS P Q0 fs .normal
  | .ex id, fs => QS P Q0 fs (.exit id)
  | .rt, fs => QS P Q0 fs .ret

abbrev Kn := List (Nat × Option Bool)
def lkB : Kn → Nat → Option Bool
  | [], _ => none
  | (k, v) :: B, d => bif Nat.beq k d then v else lkB B d
def znY (d : Nat) (k : Option Bool) (B : Kn) : Kn :=
  match k with
  | some b => (d, some b) :: B
  | none => match lkB B d with
    | some _ => (d, none) :: B
    | none => B
def Kns (B : Kn) (a : Act) : Prop := ∀ d b, lkB B d = some b → a.tmps[d]? = some (.bool b)
def kOf (B : Kn) : Operand → Option Bool
  | .tmp s => lkB B s
  | .const (.bool b) => some b
  | _ => none
def knO (B : Kn) : Op → Option Bool
  | .move x => kOf B x
  | .assign x => kOf B x
  | .pick c x y => match kOf B c with
    | some true => kOf B x
    | some false => kOf B y
    | none => none
  | .unOp .not _ x => match kOf B x with
    | some true => some false
    | some false => some true
    | none => none
  | _ => none

structure Tab where
  und : List (Nat × TypeDesc)
  fa : List (Nat × Nat × Nat)
  ag : List (Nat × Bool)
  sz : List (Nat × Nat)
class TabOk (P : Program) (τ : Tab) : Prop where
  und : ∀ p ∈ τ.und, P.underlying p.1 = some p.2
  fa : ∀ p ∈ τ.fa, ∀ b o w, (Instr.fieldAt p.1 (ptr b o) p.2.1).run P w = .ok (ptr b (o + p.2.2)) w
  ag : ∀ p ∈ τ.ag, ze7 P p.1 = some p.2
  sz : ∀ p ∈ τ.sz, zaU P p.1 = some p.2
def allP {α : Type} (Q : α → Prop) : List α → Prop
  | [] => True
  | x :: l => Q x ∧ allP Q l
theorem zkk {α : Type} {Q : α → Prop} : ∀ {l : List α}, allP Q l → ∀ x ∈ l, Q x
  | [], _, x, hx => by cases hx
  | y :: l, h, x, hx => by
    rcases List.mem_cons.1 hx with rfl | hx
    · exact h.1
    · exact zkk h.2 x hx
def ass {α : Type} : List (Nat × α) → Nat → Option α
  | [], _ => none
  | (k, v) :: l, t => bif Nat.beq k t then some v else ass l t
def offs : List (Nat × Nat × Nat) → Nat → Nat → Option Nat
  | [], _, _ => none
  | (k, j, v) :: l, t, i => bif Nat.beq k t then bif Nat.beq j i then some v else offs l t i else offs l t i
theorem zf8 {α : Type} : ∀ {l : List (Nat × α)} {t : Nat} {v : α}, ass l t = some v → (t, v) ∈ l
  | [], _, _, h => by cases h
  | (k, u) :: l, t, v, h => by
    simp only [ass] at h
    by_cases e : Nat.beq k t = true
    · simp only [e, cond_true, Option.some.injEq] at h
      have : k = t := by simpa using e
      subst this; subst h
      exact List.mem_cons_self ..
    · simp only [e] at h
      exact List.mem_cons_of_mem _ (zf8 h)
theorem zoK : ∀ {l : List (Nat × Nat × Nat)} {t i v : Nat}, offs l t i = some v → (t, i, v) ∈ l
  | [], _, _, _, h => by cases h
  | (k, j, u) :: l, t, i, v, h => by
    simp only [offs] at h
    by_cases e : Nat.beq k t = true
    · by_cases e2 : Nat.beq j i = true
      · simp only [e, e2, cond_true, Option.some.injEq] at h
        have h1 : k = t := by simpa using e
        have h2 : j = i := by simpa using e2
        subst h1; subst h2; subst h
        exact List.mem_cons_self ..
      · simp only [e, e2, cond_true] at h
        exact List.mem_cons_of_mem _ (zoK h)
    · simp only [e] at h
      exact List.mem_cons_of_mem _ (zoK h)
def nth {α : Type} : List α → Nat → Option α
  | [], _ => none
  | x :: _, 0 => some x
  | _ :: l, n + 1 => nth l n
theorem zjw {α : Type} : ∀ (l : List α) (n : Nat), nth l n = l[n]?
  | [], _ => by simp [nth]
  | _ :: _, 0 => by simp [nth]
  | _ :: l, n + 1 => by simp [nth, zjw l n]

def cmpI (o : BinOp) (m n : Int) : Option Value :=
  match o with
  | .eql => some (.bool (m == n))
  | .neq => some (.bool (!(m == n)))
  | .lss => some (.bool (decide (m < n)))
  | .leq => some (.bool (decide (m ≤ n)))
  | .gtr => some (.bool (decide (n < m)))
  | .geq => some (.bool (decide (n ≤ m)))
  | _ => none
def evO (τ : Tab) (E : Env) (B : Kn) : Op → Option Value
  | .move x => evl E x
  | .assign x => evl E x
  | .pick c x y => match kOf B c with
    | some true => evl E x
    | some false => evl E y
    | none => none
  | .unOp .not _ x => match evl E x with
    | some (.bool b) => some (.bool (!b))
    | _ => none
  | .binOp o _ x y _ => match evl E x with
    | some (.int .i64 m) => match evl E y with
      | some (.int .i64 n) => cmpI o m n
      | _ => none
    | some (.string ⟨⟨l⟩⟩) => match evl E y with
      | some (.string ⟨⟨m⟩⟩) => match o with
        | .eql => some (.bool (l == m))
        | .neq => some (.bool (!(l == m)))
        | _ => none
      | _ => none
    | _ => none
  | .extract x i => match evl E x with
    | some (.tuple ⟨l⟩) => nth l i
    | _ => none
  | .nilCheck x => match evl E x with
    | some (.pointer (some ad)) => some (.pointer (some ad))
    | _ => none
  | .fieldAddr t x i => match evl E x with
    | some (.pointer (some ⟨b, o, none⟩)) => match offs τ.fa t i with
      | some f => some (.pointer (some ⟨b, o + f, none⟩))
      | none => none
    | _ => none
  | .call ⟨.builtin .len, ⟨[x]⟩, ⟨[t]⟩⟩ => match ass τ.und t with
    | some .string => match evl E x with
      | some (.string ⟨⟨l⟩⟩) => some (.int .i64 l.length)
      | _ => none
    | some (.slice _) => match evl E x with
      | some (.slice _ n _) => some (.int .i64 n)
      | _ => none
    | _ => none
  | _ => none

section
variable {P : Program} {τ : Tab} {N : Nat} {E : Env} {B : Kn} {a : Act} {w : World}

theorem zfb (hB : Kns B a) {x : Operand} {b : Bool} (h : kOf B x = some b) : a.eval x = .bool b := by
  cases x with
  | tmp s => have := hB s b h; simp [Act.eval, Array.getD_eq_getD_getElem?, this]
  | const c =>
    cases c <;> first | (simp [kOf] at h; done) | skip
    simp only [kOf, Option.some.injEq] at h
    subst h; rfl
  | global g => simp [kOf] at h
  | func f => simp [kOf] at h

theorem evO_ok [hτ : TabOk P τ] {o : Oper} {v : Value} (hf : Fits N E a) (hB : Kns B a) (h : evO τ E B o.op = some v) :
    (execOp a.eval o).run P w = .ok (.value v) w ∧ ∀ b, knO B o.op = some b → v = .bool b := by
  obtain ⟨dst, op, t, p, af, gd⟩ := o
  dsimp only at h ⊢
  unfold evO at h
  split at h
  · exact ⟨zl hf h, fun b hb => (hf.ev h).symm.trans (zfb hB hb)⟩
  · exact ⟨z8 hf h, fun b hb => (hf.ev h).symm.trans (zfb hB hb)⟩
  · rename_i c x y
    split at h
    · rename_i hc
      refine ⟨?_, fun b hb => ?_⟩
      · simp only [execOp]; rw [zfb hB hc, hf.ev h]; simp [asBool]
      · simp only [knO, hc] at hb; exact (hf.ev h).symm.trans (zfb hB hb)
    · rename_i hc
      refine ⟨?_, fun b hb => ?_⟩
      · simp only [execOp]; rw [zfb hB hc, hf.ev h]; simp [asBool]
      · simp only [knO, hc] at hb; exact (hf.ev h).symm.trans (zfb hB hb)
    · cases h
  · rename_i ti x
    split at h
    · rename_i b hx
      obtain rfl := Option.some.inj h
      refine ⟨zvj hf hx, fun b' hb => ?_⟩
      simp only [knO] at hb
      split at hb
      · rename_i hk
        have := (hf.ev hx).symm.trans (zfb hB hk)
        cases this; cases hb; rfl
      · rename_i hk
        have := (hf.ev hx).symm.trans (zfb hB hk)
        cases this; cases hb; rfl
      · cases hb
    · cases h
  · rename_i bo ti x y ty
    refine ⟨?_, fun b hb => by simp [knO] at hb⟩
    split at h
    · rename_i m hx
      split at h
      · rename_i n hy
        cases bo <;> first | (cases h; done) | skip
        · obtain rfl := Option.some.inj h; exact zvk hf hx hy
        · obtain rfl := Option.some.inj h; exact zqG hf hx hy
        · obtain rfl := Option.some.inj h; exact ex_lss hf hx hy
        · obtain rfl := Option.some.inj h; exact ex_leq hf hx hy
        · obtain rfl := Option.some.inj h; exact ex_gtr hf hx hy
        · obtain rfl := Option.some.inj h; exact ex_geq hf hx hy
      · cases h
    · rename_i l hx
      split at h
      · rename_i m hy
        split at h
        · obtain rfl := Option.some.inj h; exact zrA hf hx hy
        · obtain rfl := Option.some.inj h; exact zrB hf hx hy
        · cases h
      · cases h
    · cases h
  · rename_i x i
    refine ⟨?_, fun b hb => by simp [knO] at hb⟩
    split at h
    · rename_i l hx
      exact zfC hf hx (by rw [zjw] at h; simpa using h)
    · cases h
  · refine ⟨?_, fun b hb => by simp [knO] at hb⟩
    split at h
    · rename_i ad hx
      obtain rfl := Option.some.inj h
      exact zaD hf hx
    · cases h
  · refine ⟨?_, fun b hb => by simp [knO] at hb⟩
    split at h
    · rename_i b o hx
      split at h
      · rename_i f ho
        obtain rfl := Option.some.inj h
        exact zw (fun b o w => hτ.fa _ (zoK ho) b o w) hf hx
      · cases h
    · cases h
  · refine ⟨?_, fun b hb => by simp [knO] at hb⟩
    split at h
    · rename_i ht
      split at h
      · rename_i l hx
        obtain rfl := Option.some.inj h
        exact zf1 (hτ.und _ (zf8 ht)) hf hx
      · cases h
    · rename_i e ht
      split at h
      · rename_i n c hx
        obtain rfl := Option.some.inj h
        exact zj9 (hτ.und _ (zf8 ht)) hf hx
      · cases h
    · cases h
  · cases h

def gd (all : Array Oper) (E : Env) (B : Kn) : Option (Nat × Bool) → Option Bool
  | none => some true
  | some (j, b) => match nth all.toList j with
    | some ⟨some s, _, _, _, _, _⟩ => match lkB B s with
      | some b' => some (b' == b)
      | none => match look E s with
        | some (.tuple ⟨[]⟩) => some false
        | _ => none
    | _ => none
theorem zvD {all : Array Oper} {o : Oper} {m : Bool} (hf : Fits N E a) (hB : Kns B a) (h : gd all E B o.guard = some m) : Region.wanted o (yielded all a.tmps) = m := by
  unfold gd at h
  split at h
  · rename_i hg
    obtain rfl := Option.some.inj h
    simp [Region.wanted, hg]
  · rename_i j b hg
    split at h
    · rename_i s _ _ _ _ _ hs
      rw [zjw] at hs
      have hs' : (all[j]?).bind (·.dst) = some s := by rw [← Array.getElem?_toList, hs]; rfl
      split at h
      · rename_i b' hb'
        obtain rfl := Option.some.inj h
        have hy : yielded all a.tmps j = some b' := by simp [yielded, hs', hB s _ hb']
        cases b <;> cases b' <;> simp [Region.wanted, hg, hy]
      · split at h
        · rename_i hu
          obtain rfl := Option.some.inj h
          have hy : yielded all a.tmps j = none := by simp [yielded, hs', hf.has s _ hu]
          simp [Region.wanted, hg, hy]
        · cases h
    · cases h

abbrev Cfg := Cur × List Fr × Env × Kn
def zs9 (τ : Tab) (N : Nat) (all : Array Oper) (o : Oper) (rest : List Oper) (fs : List Fr) (E : Env) (B : Kn) : Option Cfg :=
  match gd all E B o.guard with
  | some true => match evO τ E B o.op with
    | some v => match o.dst with
      | some d => match Nat.blt d N with
        | true => match znY d (knO B o.op) B with
          | [] => some (.op all rest, fs, (d, v) :: E, [])
          | k :: B' => some (.op all rest, fs, (d, v) :: E, k :: B')
        | false => none
      | none => some (.op all rest, fs, E, B)
    | none => none
  | some false => match o.dst with
    | some d => match Nat.blt d N with
      | true => match znY d none B with
        | [] => some (.op all rest, fs, (d, undef) :: E, [])
        | k :: B' => some (.op all rest, fs, (d, undef) :: E, k :: B')
      | false => none
    | none => some (.op all rest, fs, E, B)
  | none => none
def zm2 (τ : Tab) (N : Nat) (E : Env) (B : Kn) : Cur → List Fr → Option Cfg
  | .co .skip, fs => some (.no, fs, E, B)
  | .co (.seq x y), fs => some (.co x, .sq y :: fs, E, B)
  | .co (.region _ ops false), fs => some (.op ops ops.toList, fs, E, B)
  | .co (.cond c x y), fs => match kOf B c with
    | some true => some (.co x, fs, E, B)
    | some false => some (.co y, fs, E, B)
    | none => none
  | .co (.block id c), fs => some (.co c, .bk id :: fs, E, B)
  | .co (.exit id), fs => some (.ex id, fs, E, B)
  | .co .ret, fs => some (.rt, fs, E, B)
  | .no, .sq y :: fs => some (.co y, fs, E, B)
  | .no, .bk _ :: fs => some (.no, fs, E, B)
  | .ex id, .sq _ :: fs => some (.ex id, fs, E, B)
  | .ex id, .ct _ :: fs => some (.ex id, fs, E, B)
  | .ex id, .bk i :: fs => match Nat.beq id i with
    | true => some (.no, fs, E, B)
    | false => some (.ex id, fs, E, B)
  | .rt, _ :: fs => some (.rt, fs, E, B)
  | .op _ [], fs => some (.no, fs, E, B)
  | .op all (o :: rest), fs => zs9 τ N all o rest fs E B
  | _, _ => none
def zhA (τ : Tab) (N : Nat) : Nat → Cur → List Fr → Env → Kn → Cfg
  | 0, c, fs, E, B => (c, fs, E, B)
  | n + 1, c, fs, E, B => match zm2 τ N E B c fs with
    | some (c', fs', E', B') => zhA τ N n c' fs' E' B'
    | none => (c, fs, E, B)

variable {Q0 : Exit → Act → World → Prop}

theorem zvE {d : Nat} {k : Option Bool} {d' : Nat} {b : Bool} (h : lkB (znY d k B) d' = some b) : (d = d' ∧ k = some b) ∨ (d ≠ d' ∧ lkB B d' = some b) := by
  unfold znY at h
  by_cases e : d = d'
  · subst e
    left
    split at h
    · simp [lkB] at h; exact ⟨rfl, by rw [h]⟩
    · split at h
      · simp [lkB] at h
      · rename_i hn; rw [hn] at h; cases h
  · right
    refine ⟨e, ?_⟩
    have hb : Nat.beq d d' = false := zlQ.2 e
    split at h
    · simpa [lkB, hb] using h
    · split at h
      · simpa [lkB, hb] using h
      · exact h
theorem Kns.put (hf : Fits N E a) (hB : Kns B a) {d : Nat} (hd : Nat.blt d N = true) {v : Value} {k : Option Bool} (hk : ∀ b, k = some b → v = .bool b) : Kns (znY d k B) (a.put (some d) v) := by
  intro d' b h
  have hd' : d < a.tmps.size := by rw [hf.size]; simpa [Nat.blt_eq] using hd
  rcases zvE h with ⟨rfl, hkb⟩ | ⟨hne, hb⟩
  · simp [Act.put, hd', hk b hkb]
  · simp [Act.put, hne, hB d' b hb]
theorem Kns.nil : Kns [] a := fun _ _ h => by cases h

theorem zmm {Q : Exit → Act → World → Prop} {all : Array Oper} {rest : List Oper} {o : Oper} {v : Value} (hg : Region.wanted o (yielded all a.tmps) = true) (hx : (execOp a.eval o).run P w = .ok (.value v) w)
    (hk : wpList P all Q rest (a.put o.dst v) w) : wpList P all Q (o :: rest) a w := by
  unfold wpList
  rw [if_pos hg]
  left
  unfold Oper.wp
  rw [hx]
  exact hk
theorem zvF {Q : Exit → Act → World → Prop} {all : Array Oper} {rest : List Oper} {o : Oper} (hg : Region.wanted o (yielded all a.tmps) = false)
    (hk : wpList P all Q rest (a.put o.dst undef) w) : wpList P all Q (o :: rest) a w := by
  unfold wpList
  rw [if_neg (by simp [hg])]
  exact hk
theorem zwM {Q : Exit → Act → World → Prop} {all : Array Oper} {rest : List Oper} {dst : Option Nat} {op : Op} {t : Nat} {p : String} {af : Array Edge} {g : Option (Nat × Bool)}
    (hg : Region.wanted ⟨dst, op, t, p, af, g⟩ (yielded all a.tmps) = true) (hk : wpList P all Q (⟨dst, op, t, p, af, none⟩ :: rest) a w) : wpList P all Q (⟨dst, op, t, p, af, g⟩ :: rest) a w := by
  unfold wpList at hk ⊢
  rw [if_pos hg]
  rw [if_pos (by simp [Region.wanted])] at hk
  exact hk

theorem zus [TabOk P τ] {all : Array Oper} {o : Oper} {rest : List Oper} {fs : List Fr} {c : Cfg} (h : zs9 τ N all o rest fs E B = some c) (hf : Fits N E a) (hB : Kns B a)
    (k : ∀ a, Fits N c.2.2.1 a → Kns c.2.2.2 a → wpU P Q0 c.1 c.2.1 a w) : wpU P Q0 (.op all (o :: rest)) fs a w := by
  unfold zs9 at h
  split at h
  · rename_i hg
    have hw := zvD hf hB hg
    split at h
    · rename_i v hv
      obtain ⟨hx, hkn⟩ := evO_ok (P := P) (w := w) hf hB hv
      split at h
      · rename_i d hd
        split at h
        · rename_i hN
          have hs := Kns.put hf hB hN (v := v) hkn
          refine zmm hw hx ?_
          rw [hd]
          split at h <;> (obtain rfl := Option.some.inj h; rename_i e; rw [e] at hs; exact k _ (hf.put hN _) hs)
        · cases h
      · rename_i hd
        obtain rfl := Option.some.inj h
        refine zmm hw hx ?_
        rw [hd]
        exact k _ hf hB
    · cases h
  · rename_i hg
    have hw := zvD hf hB hg
    refine zvF hw ?_
    split at h
    · rename_i d hd
      split at h
      · rename_i hN
        have hs := Kns.put hf hB hN (v := undef) (k := none) (fun b h => by cases h)
        rw [hd]
        split at h <;> (obtain rfl := Option.some.inj h; rename_i e; rw [e] at hs; exact k _ (hf.put hN _) hs)
      · cases h
    · rename_i hd
      obtain rfl := Option.some.inj h
      rw [hd]
      exact k _ hf hB
  · cases h
theorem zwN [TabOk P τ] {cu : Cur} {fs : List Fr} {c : Cfg} (h : zm2 τ N E B cu fs = some c) (hf : Fits N E a) (hB : Kns B a)
    (k : ∀ a, Fits N c.2.2.1 a → Kns c.2.2.2 a → wpU P Q0 c.1 c.2.1 a w) : wpU P Q0 cu fs a w := by
  unfold zm2 at h
  split at h
  · obtain rfl := Option.some.inj h; exact wp_skip (k a hf hB)
  · obtain rfl := Option.some.inj h; exact wp_seq (k a hf hB)
  · obtain rfl := Option.some.inj h; exact wp_region_list (k a hf hB)
  · split at h
    · rename_i hc; obtain rfl := Option.some.inj h; exact wp_cond_true (zfb hB hc) (k a hf hB)
    · rename_i hc; obtain rfl := Option.some.inj h; exact wp_cond_false (zfb hB hc) (k a hf hB)
    · cases h
  · obtain rfl := Option.some.inj h; exact wp_block (k a hf hB)
  · obtain rfl := Option.some.inj h; exact wp_exit (k a hf hB)
  · obtain rfl := Option.some.inj h; exact wp_ret (k a hf hB)
  · obtain rfl := Option.some.inj h; exact k a hf hB
  · obtain rfl := Option.some.inj h; exact k a hf hB
  · obtain rfl := Option.some.inj h; exact k a hf hB
  · obtain rfl := Option.some.inj h; exact k a hf hB
  · rename_i id i fs
    split at h
    · rename_i e
      obtain rfl := Option.some.inj h
      have e' : id = i := by simpa using e
      subst e'
      exact zuZ (k a hf hB)
    · rename_i e
      obtain rfl := Option.some.inj h
      exact zu0 e (k a hf hB)
  · rename_i f fs
    obtain rfl := Option.some.inj h
    cases f with
    | sq y => exact k a hf hB
    | ct K => exact k a hf hB
    | bk id => exact k a hf hB
  · obtain rfl := Option.some.inj h; exact k a hf hB
  · exact zus h hf hB k
  · cases h
theorem zc6 [TabOk P τ] : ∀ {n : Nat} {c c' : Cur} {fs fs' : List Fr} {E E' : Env} {B B' : Kn} {a : Act}, zhA τ N n c fs E B = (c', fs', E', B') → Fits N E a → Kns B a →
    (∀ a, Fits N E' a → Kns B' a → wpU P Q0 c' fs' a w) → wpU P Q0 c fs a w
  | 0, c, c', fs, fs', E, E', B, B', a, h, hf, hB, k => by cases h; exact k a hf hB
  | n + 1, c, c', fs, fs', E, E', B, B', a, h, hf, hB, k => by
    unfold zhA at h
    split at h
    · rename_i h1
      exact zwN h1 hf hB fun a hf hB => zc6 h hf hB k
    · cases h; exact k a hf hB
end

def S (P : Program) (τ : Tab) (N : Nat) {ρ : Type} (R : ρ) (Q0 : Exit → Act → World → Prop) (w0 : World) (F : List Nat) (c : Cur) (fs : List Fr) (E : Env) (B : Kn) (L : List Res) (M : Option ρ) : Prop :=
  ∀ a w, Fits N E a → Kns B a → Own w0 F w L → M = some R → wpU P Q0 c fs a w
def far : Nat := 100000000

section
variable {P : Program} {τ : Tab} {N : Nat} {Q0 : Exit → Act → World → Prop} {w0 : World} {F : List Nat} {ρ α : Type} {R : ρ} {c c' : Cur} {fs fs' : List Fr} {E E' : Env} {B B' : Kn} {L : List Res} {M : Option ρ}
variable {all : Array Oper} {rest : List Oper} {d : Nat} {o : Oper}

theorem S.at [TabOk P τ] (h : zhA τ N far c fs E B = (c', fs', E', B')) (k : S P τ N R Q0 w0 F c' fs' E' B' L M) : S P τ N R Q0 w0 F c fs E B L M :=
  fun _ w hf hB hO hm => zc6 h hf hB fun a hf hB => k a w hf hB hO hm
theorem S.enter (τ : Tab) {f : FuncId} {fn : Func} {co : Code} {vs : List Value} {Rp : Ending → World → Prop}
    (hf : P.funcs[f]? = some fn) (hb : fn.body = some co) (hN : fn.ntmps = N) (hv : Nat.ble vs.length N = true)
    (h : S P τ N R (bodyPost P fn Rp) w0 F (.co co) [] (params 0 vs) [] L M) (hO : Own w0 F w0 L) (hm : M = some R) : Calls P f vs.toArray w0 Rp :=
  zsF hf hb hN hv fun a hf => h a w0 hf Kns.nil hO hm
theorem S.op (τ : Tab) {a : Act} {w : World} (h : S P τ N R Q0 w0 F (.op all rest) fs E [] L M) (hf : Fits N E a) (hO : Own w0 F w L) (hm : M = some R) : wpList P all (QS P Q0 fs) rest a w := h a w hf Kns.nil hO hm
theorem S.co (τ : Tab) {a : Act} {w : World} {co : Code} (h : S P τ N R Q0 w0 F (.co co) fs E [] L M) (hf : Fits N E a) (hO : Own w0 F w L) (hm : M = some R) : co.wp P (QS P Q0 fs) a w := h a w hf Kns.nil hO hm
theorem S.no (τ : Tab) {a : Act} {w : World} (h : S P τ N R Q0 w0 F .no fs E [] L M) (hf : Fits N E a) (hO : Own w0 F w L) (hm : M = some R) : QS P Q0 fs .normal a w := h a w hf Kns.nil hO hm

def nxO (τ : Tab) (N : Nat) (c : Cur) (fs : List Fr) (E : Env) (B : Kn) : Option (Array Oper × Oper × List Oper × List Fr × Env × Kn) :=
  match zhA τ N far c fs E B with
  | (.op all (o :: rest), fs, E, B) => match gd all E B o.guard with
    | some true => match o with
      | ⟨dst, op, t, p, af, _⟩ => some (all, ⟨dst, op, t, p, af, none⟩, rest, fs, E, B)
    | _ => none
  | _ => none
theorem zkl [TabOk P τ] {a : Act} {w : World} (h : nxO τ N c fs E B = some (all, o, rest, fs', E', B')) (hf : Fits N E a) (hB : Kns B a)
    (k : ∀ a, Fits N E' a → Kns B' a → wpList P all (QS P Q0 fs') (o :: rest) a w) : wpU P Q0 c fs a w := by
  unfold nxO at h
  split at h
  · rename_i hd
    split at h
    · rename_i hg
      obtain ⟨dst, op, t, p, af, g⟩ := ‹Oper›
      cases h
      exact zc6 hd hf hB fun a hf hB => zwM (zvD hf hB hg) (k a hf hB)
    · cases h
  · cases h
theorem rw_ [TabOk P τ] (h : nxO τ N c fs E B = some (all, o, rest, fs', E', B'))
    (k : ∀ a w, Fits N E' a → Own w0 F w L → M = some R → wpList P all (QS P Q0 fs') (o :: rest) a w) : S P τ N R Q0 w0 F c fs E B L M :=
  fun _ w hf hB hO hm => zkl h hf hB fun a hf _ => k a w hf hO hm
theorem rc_ [TabOk P τ] {co : Code} (h : zhA τ N far c fs E B = (.co co, fs', E', B'))
    (k : ∀ a w, Fits N E' a → Own w0 F w L → M = some R → co.wp P (QS P Q0 fs') a w) : S P τ N R Q0 w0 F c fs E B L M :=
  fun _ w hf hB hO hm => zc6 h hf hB fun a hf _ => k a w hf hO hm
theorem re_ [TabOk P τ] (h : zhA τ N far c fs E B = (.rt, [], E', B'))
    (k : ∀ a w, Fits N E' a → Own w0 F w L → M = some R → Q0 .ret a w) : S P τ N R Q0 w0 F c fs E B L M :=
  fun _ w hf hB hO hm => zc6 h hf hB fun a hf _ => k a w hf hO hm
theorem rn_ [TabOk P τ] (h : zhA τ N far c fs E B = (.no, [], E', B'))
    (k : ∀ a w, Fits N E' a → Own w0 F w L → M = some R → Q0 .normal a w) : S P τ N R Q0 w0 F c fs E B L M :=
  fun _ w hf hB hO hm => zc6 h hf hB fun a hf _ => k a w hf hO hm

theorem vl [TabOk P τ] {op : Op} {t : Nat} {p : String} {af : Array Edge} {v : Value} (h : nxO τ N c fs E B = some (all, ⟨some d, op, t, p, af, none⟩, rest, fs', E', B')) (hd : Nat.blt d N = true)
    (hx : ∀ a w, Fits N E' a → Own w0 F w L → (execOp a.eval ⟨some d, op, t, p, af, none⟩).run P w = .ok (.value v) w)
    (k : S P τ N R Q0 w0 F (.op all rest) fs' ((d, v) :: E') (znY d none B') L M) : S P τ N R Q0 w0 F c fs E B L M :=
  fun _ w hf hB hO hm => zkl h hf hB fun a hf hB => zmm (by simp [Region.wanted]) (hx a w hf hO) (k _ w (hf.put hd _) (Kns.put hf hB hd fun _ e => by cases e) hO hm)
def zqW (L : List Res) (i : Nat) : Option (Nat × List Value) := match nth L i with
  | some (.blk b cs _) => some (b, cs)
  | some (.shr (some ⟨b, 0, none⟩) cs) => some (b, cs)
  | _ => none
theorem zta {w : World} {L : List Res} {i b : Nat} {cs : List Value} (hO : Own w0 F w L) (h : zqW L i = some (b, cs)) : zy w (some ⟨b, 0, none⟩) cs := by
  unfold zqW at h
  split at h
  · rename_i h1
    rw [zjw] at h1
    cases h
    exact hO.blkSees h1
  · rename_i h1
    rw [zjw] at h1
    cases h
    exact hO.sees h1
  · cases h
def cut (l : List Value) : Nat → Nat → Option (List Value)
  | _, 0 => some []
  | o, n + 1 => match nth l o with
    | some v => match cut l (o + 1) n with
      | some r => some (v :: r)
      | none => none
    | none => none
theorem ztb {l : List Value} : ∀ {n o : Nat} {r : List Value}, cut l o n = some r → (l.drop o).take n = r ∧ r.length = n
  | 0, o, r, h => by cases h; simp
  | n + 1, o, r, h => by
    unfold cut at h
    split at h
    · rename_i v hv
      split at h
      · rename_i r' hr
        cases h
        obtain ⟨h1, h2⟩ := ztb hr
        rw [zjw] at hv
        have hlt : o < l.length := (List.getElem?_eq_some_iff.1 hv).1
        rw [List.drop_eq_getElem_cons hlt, List.take_succ_cons, h1]
        have : l[o] = v := (List.getElem?_eq_some_iff.1 hv).2
        exact ⟨by rw [this], by simp [h2]⟩
      · cases h
    · cases h
def ldV (τ : Tab) (cs : List Value) (t o : Nat) : Option Value := match ass τ.ag t with
  | some false => nth cs o
  | some true => match ass τ.sz t with
    | some n => match cut cs o n with
      | some vs => some (.agg ⟨vs⟩)
      | none => none
    | none => none
  | none => none
def nxL (τ : Tab) (N : Nat) (i : Nat) (L : List Res) (c : Cur) (fs : List Fr) (E : Env) (B : Kn) : Option (Array Oper × List Oper × List Fr × Env × Kn × Nat × Nat × Nat × Value) :=
  match nxO τ N c fs E B with
  | some (all, ⟨some d, .load t x, _, _, _, none⟩, rest, fs, E, B) => match Nat.blt d N with
    | true => match evl E x with
      | some (.pointer (some ⟨b, o, none⟩)) => match zqW L i with
        | some (b', cs) => match ldV τ cs t o with
          | some v => match znY d none B with
            | [] => some (all, rest, fs, E, [], d, b, b', v)
            | k :: B' => some (all, rest, fs, E, k :: B', d, b, b', v)
          | none => none
        | none => none
      | _ => none
    | false => none
  | _ => none
theorem ld [hτ : TabOk P τ] (i : Nat) {b b' : Nat} {v : Value} (h : nxL τ N i L c fs E B = some (all, rest, fs', E', B', d, b, b', v)) (hb : b' = b)
    (k : S P τ N R Q0 w0 F (.op all rest) fs' ((d, v) :: E') B' L M) : S P τ N R Q0 w0 F c fs E B L M := by
  intro a w hf hB hO hm
  subst hb
  unfold nxL at h
  split at h
  · rename_i h0
    split at h
    · rename_i hN
      split at h
      · rename_i b1 o hx
        split at h
        · rename_i b2 cs hc
          split at h
          · rename_i v1 hv
            refine zkl h0 hf hB fun a hf hB => ?_
            have hs := Kns.put hf hB hN (v := v1) (k := none) (fun b h => by cases h)
            have hS := zta hO hc
            have hb2 : b1 = b2 := by split at h <;> (cases h; rfl)
            subst hb2
            refine zmm (v := v1) (by simp [Region.wanted]) ?_ ?_
            · unfold ldV at hv
              split at hv
              · rename_i ha
                rw [zjw] at hv
                exact ze (ob := 0) (hτ.ag _ (zf8 ha)) hS hv hf (by rw [Nat.zero_add]; exact hx)
              · rename_i ha
                split at hv
                · rename_i n hn
                  split at hv
                  · rename_i vs hvs
                    cases hv
                    exact zo (ob := 0) (hτ.ag _ (zf8 ha)) (hτ.sz _ (zf8 hn)) hS (ztb hvs).1 (ztb hvs).2 hf (by rw [Nat.zero_add]; exact hx)
                  · cases hv
                · cases hv
              · cases hv
            · split at h <;> (rename_i e; cases h; rw [e] at hs; exact k _ w (hf.put hN _) hs hO hm)
          · cases h
        · cases h
      · cases h
    · cases h
  · cases h
def one1 : Value → Bool
  | .agg _ => false
  | .tuple _ => false
  | _ => true
def znZ (cs vs : List Value) : Nat → Option (List Value)
  | 0 => over cs vs
  | o + 1 => match cs with
    | [] => none
    | c :: cs => match znZ cs vs o with
      | some r => some (c :: r)
      | none => none
where over : List Value → List Value → Option (List Value)
  | cs, [] => some cs
  | _ :: cs, v :: vs => match over cs vs with
    | some r => some (v :: r)
    | none => none
  | [], _ :: _ => none
theorem ztM : ∀ {vs cs r : List Value}, znZ.over cs vs = some r → r = vs ++ cs.drop vs.length ∧ vs.length ≤ cs.length
  | [], cs, r, h => by
    unfold znZ.over at h
    cases h; simp
  | v :: vs, [], r, h => by unfold znZ.over at h; cases h
  | v :: vs, c :: cs, r, h => by
    unfold znZ.over at h
    split at h
    · rename_i r' hr
      cases h
      obtain ⟨h1, h2⟩ := ztM hr
      subst h1
      simp [h2]
    · cases h
theorem ztN : ∀ {o : Nat} {cs vs r : List Value}, znZ cs vs o = some r → r = cs.take o ++ vs ++ cs.drop (o + vs.length) ∧ o + vs.length ≤ cs.length
  | 0, cs, vs, r, h => by
    unfold znZ at h
    obtain ⟨h1, h2⟩ := ztM h
    simp [h1, h2]
  | o + 1, [], vs, r, h => by unfold znZ at h; cases h
  | o + 1, c :: cs, vs, r, h => by
    cases hr : znZ cs vs o with
    | none => rw [znZ, hr] at h; cases h
    | some r' =>
      rw [znZ, hr] at h
      cases h
      obtain ⟨h1, h2⟩ := ztN hr
      subst h1
      refine ⟨?_, by simp only [List.length_cons]; omega⟩
      rw [show o + 1 + vs.length = (o + vs.length) + 1 by omega, List.take_succ_cons, List.drop_succ_cons]
      rfl
theorem zwP {cs : List Value} {o : Nat} {v : Value} (h : o < cs.length) : cs.take o ++ [v] ++ cs.drop (o + [v].length) = cs.set o v := by
  rw [List.set_eq_take_append_cons_drop, if_pos h]; simp
def setR : List Res → Nat → Res → Option (List Res)
  | [], _, _ => none
  | _ :: L, 0, r => some (r :: L)
  | x :: L, i + 1, r => match setR L i r with
    | some l => some (x :: l)
    | none => none
theorem ztO {r : Res} : ∀ {L l : List Res} {i : Nat}, setR L i r = some l → l = L.set i r
  | [], _, _, h => by cases h
  | _ :: _, _, 0, h => by cases h; rfl
  | x :: L, l, i + 1, h => by
    unfold setR at h
    split at h
    · rename_i l' hl
      cases h
      rw [List.set_cons_succ, ← ztO hl]
    · cases h
theorem zwR {v : Value} (h : one1 v = true) : v.oneCell' = true ∧ v.cells = #[v] := by
  cases v <;> first | exact ⟨rfl, rfl⟩ | cases h
def cvs : Value → Option (Bool × List Value)
  | .agg ⟨l⟩ => match l.all one1 with
    | true => some (true, l)
    | false => none
  | .tuple _ => none
  | v => some (false, [v])
def nxS (τ : Tab) (N : Nat) (i : Nat) (L : List Res) (c : Cur) (fs : List Fr) (E : Env) (B : Kn) : Option (Array Oper × List Oper × List Fr × Env × Kn × Nat × Nat × List Res) :=
  match nxO τ N c fs E B with
  | some (all, ⟨none, .store t x y, _, _, _, none⟩, rest, fs, E, B) => match evl E x with
    | some (.pointer (some ⟨b, o, none⟩)) => match evl E y with
      | some v => match nth L i with
        | some (.blk b' cs ty) => match cvs v with
          | some (_, vs) => match ass τ.sz t with
            | some n => match Nat.beq n vs.length with
              | true => match znZ cs vs o with
                | some cs' => match setR L i (.blk b' cs' ty) with
                  | some L' => some (all, rest, fs, E, B, b, b', L')
                  | none => none
                | none => none
              | false => none
            | none => none
          | none => none
        | _ => none
      | none => none
    | _ => none
  | _ => none
theorem st [hτ : TabOk P τ] (i : Nat) {b b' : Nat} {L' : List Res} (h : nxS τ N i L c fs E B = some (all, rest, fs', E', B', b, b', L')) (hb : b' = b)
    (k : S P τ N R Q0 w0 F (.op all rest) fs' E' B' L' M) : S P τ N R Q0 w0 F c fs E B L M := by
  intro a w hf hB hO hm
  subst hb
  unfold nxS at h
  split at h
  · rename_i h0
    split at h
    · rename_i b1 o hx
      split at h
      · rename_i v hv
        split at h
        · rename_i b2 cs ty hi
          rw [zjw] at hi
          split at h
          · rename_i g vs hvs
            split at h
            · rename_i n hn
              split at h
              · rename_i hnl
                split at h
                · rename_i cs' hp
                  split at h
                  · rename_i L1 hL
                    cases h
                    obtain ⟨p1, p2⟩ := ztN hp
                    have hnl' : n = vs.length := by simpa using hnl
                    refine zkl h0 hf hB fun a hf hB => ?_
                    have hk : ∀ w, Own w0 F w (L.set i (.blk b' cs' ty)) → wpList P all (QS P Q0 fs') rest a w := fun w hO' => k a w hf hB (by rw [ztO hL]; exact hO') hm
                    have hst := hτ.sz _ (zf8 hn)
                    cases v with
                    | agg l =>
                      obtain ⟨l⟩ := l
                      cases ha : l.all one1 with
                      | false => rw [cvs, ha] at hvs; cases hvs
                      | true =>
                        rw [cvs, ha] at hvs
                        cases hvs
                        exact zuE (n := n) hst hi (by omega) (by simpa [hnl'] using p2) (fun v hv => (zwR (List.all_eq_true.1 ha v hv)).1) p1 hf hx hv hO hk
                    | tuple l => cases hvs
                    | _ =>
                      cases hvs
                      have hn1 : n = 1 := hnl'
                      subst hn1
                      have ho : o < cs.length := by simp only [List.length_cons, List.length_nil] at p2; omega
                      refine zuD (o := o) hst hi (by simpa [Nat.blt_eq] using ho) rfl rfl hf hx hv hO fun w hO' => hk w ?_
                      rw [p1, zwP ho]
                      exact hO'
                  · cases h
                · cases h
              · cases h
            · cases h
          · cases h
        · cases h
      · cases h
    · cases h
  · cases h
def nxA (τ : Tab) (N : Nat) (c : Cur) (fs : List Fr) (E : Env) (B : Kn) : Option (Array Oper × List Oper × List Fr × Env × Kn × Nat × Nat) :=
  match nxO τ N c fs E B with
  | some (all, ⟨some d, .alloc ty, _, _, _, none⟩, rest, fs, E, B) => match Nat.blt d N with
    | true => match znY d none B with
      | [] => some (all, rest, fs, E, [], d, ty)
      | k :: B' => some (all, rest, fs, E, k :: B', d, ty)
    | false => none
  | _ => none
theorem al [TabOk P τ] {ty : Nat} {cs : List Value} (hal : ∀ w, (Instr.alloc ty true (.tuple #[])).run P w = .ok (ptr w.heap.size 0) (w.alloc (.cells cs.toArray ty)))
    (h : nxA τ N c fs E B = some (all, rest, fs', E', B', d, ty)) (k : ∀ b, S P τ N R Q0 w0 F (.op all rest) fs' ((d, ptr b 0) :: E') B' (.blk b cs ty :: L) M) : S P τ N R Q0 w0 F c fs E B L M := by
  intro a w hf hB hO hm
  unfold nxA at h
  split at h
  · rename_i h0
    split at h
    · rename_i hN
      refine zkl h0 hf hB fun a hf hB => ?_
      have hs := fun v => Kns.put hf hB hN (v := v) (k := none) (fun b h => by cases h)
      split at h <;> (rename_i e; cases h; rw [e] at hs; exact zjL (v := ptr w.heap.size 0) rfl (by simp only [execOp, Sem.run_bind, hal w, Result.andThen, Sem.run_pure]) (k _ _ _ (hf.put hN _) (hs _) (hO.newBlk cs ty) hm))
    · cases h
  · cases h
def nxX (τ : Tab) (N : Nat) (c : Cur) (fs : List Fr) (E : Env) (B : Kn) : Option (Array Oper × List Oper × List Fr × Env × Kn × Nat × Nat × List Value) :=
  match nxO τ N c fs E B with
  | some (all, ⟨some d, .box ty x, _, _, _, none⟩, rest, fs, E, B) => match Nat.blt d N with
    | true => match evl E x with
      | some v => match cvs v with
        | some (_, cs) => match znY d none B with
          | [] => some (all, rest, fs, E, [], d, ty, cs)
          | k :: B' => some (all, rest, fs, E, k :: B', d, ty, cs)
        | none => none
      | none => none
    | false => none
  | _ => none
theorem cvs_ok {v : Value} {g : Bool} {cs : List Value} (h : cvs v = some (g, cs)) : v.cells = cs.toArray := by
  cases v with
  | agg l =>
    obtain ⟨l⟩ := l
    cases ha : l.all one1 with
    | false => rw [cvs, ha] at h; cases h
    | true => rw [cvs, ha] at h; cases h; rfl
  | tuple l => cases h
  | _ => cases h; rfl
theorem bo [TabOk P τ] {ty : Nat} {cs : List Value} (h : nxX τ N c fs E B = some (all, rest, fs', E', B', d, ty, cs))
    (k : ∀ b, S P τ N R Q0 w0 F (.op all rest) fs' ((d, ptr b 0) :: E') B' (.blk b cs ty :: L) M) : S P τ N R Q0 w0 F c fs E B L M := by
  intro a w hf hB hO hm
  unfold nxX at h
  split at h
  · rename_i h0
    split at h
    · rename_i hN
      split at h
      · rename_i v hv
        split at h
        · rename_i g cs1 hc
          refine zkl h0 hf hB fun a hf hB => ?_
          have hs := fun v => Kns.put hf hB hN (v := v) (k := none) (fun b h => by cases h)
          have hcs := cvs_ok hc
          split at h <;> (rename_i e; cases h; rw [e] at hs; exact zjL (v := ptr w.heap.size 0) (w' := w.alloc (.cells cs.toArray ty)) rfl (by simp only [execOp]; rw [hf.ev hv]; unfold Instr.box newVar; rw [hcs]; simp [newRow, go_sem]) (k _ _ _ (hf.put hN _) (hs _) (hO.newBlk cs ty) hm))
        · cases h
      · cases h
    · cases h
  · cases h
def evP (τ : Tab) (E : Env) : Op → Option ((α : Type) × Option α × (α → Value))
  | .binOp o _ x y _ => match evl E x with
    | some (.int .i64 m) => match evl E y with
      | some (.int .i64 n) => match o with
        | .add => some ⟨Int, zaa m n, .int .i64⟩
        | .sub => some ⟨Int, zfG m n, .int .i64⟩
        | .mul => some ⟨Int, ztf m n, .int .i64⟩
        | .quo => some ⟨Int, iDiv m n, .int .i64⟩
        | .rem => some ⟨Int, iMod m n, .int .i64⟩
        | _ => none
      | _ => none
    | some (.string ⟨⟨l⟩⟩) => match evl E y with
      | some (.string ⟨⟨m⟩⟩) => match o with
        | .add => some ⟨Str, zig l m, fun l => str l⟩
        | _ => none
      | _ => none
    | _ => none
  | .index t x y => match ass τ.und t with
    | some .string => match evl E x with
      | some (.string ⟨⟨l⟩⟩) => match evl E y with
        | some (.int .i64 i) => some ⟨UInt8, sAt l i, fun c => zak c⟩
        | _ => none
      | _ => none
    | _ => none
  | .slice t x lo hi none => match ass τ.und t with
    | some .string => match evl E x with
      | some (.string ⟨⟨l⟩⟩) => match lo, hi with
        | some y, some z => match evl E y with
          | some (.int .i64 i) => match evl E z with
            | some (.int .i64 j) => some ⟨Str, zjz l i j, fun l => str l⟩
            | _ => none
          | _ => none
        | some y, none => match evl E y with
          | some (.int .i64 i) => some ⟨Str, zfc l i, fun l => str l⟩
          | _ => none
        | none, some z => match evl E z with
          | some (.int .i64 j) => some ⟨Str, sTo l j, fun l => str l⟩
          | _ => none
        | none, none => none
      | _ => none
    | _ => none
  | _ => none
theorem evP_ok [hτ : TabOk P τ] {a : Act} {w : World} {dst : Option Nat} {op : Op} {t : Nat} {p : String} {af : Array Edge} {g : Option (Nat × Bool)} {m : Option α} {enc : α → Value} {x : α}
    (hf : Fits N E a) (h : evP τ E op = some ⟨α, m, enc⟩) (hm : m = some x) : (execOp a.eval ⟨dst, op, t, p, af, g⟩).run P w = .ok (.value (enc x)) w := by
  unfold evP at h
  split at h
  · rename_i bo ti x y ty
    split at h
    · rename_i m' hx
      split at h
      · rename_i n hy
        split at h
        · cases h; exact zsV hf hx hy hm
        · cases h; exact zsW hf hx hy hm
        · cases h; exact ex_mul hf hx hy hm
        · cases h; exact ex_quo hf hx hy hm
        · cases h; exact ex_rem hf hx hy hm
        · cases h
      · cases h
    · rename_i l hx
      split at h
      · rename_i n hy
        split at h
        · cases h; exact zsZ hf hx hy hm
        · cases h
      · cases h
    · cases h
  · rename_i ti x y
    split at h
    · rename_i ht
      split at h
      · rename_i l hx
        split at h
        · rename_i i hy
          cases h; exact zl3 (hτ.und _ (zf8 ht)) hf hx hy hm
        · cases h
      · cases h
    · cases h
  · rename_i ti x lo hi
    split at h
    · rename_i ht
      split at h
      · rename_i l hx
        split at h
        · rename_i y z
          split at h
          · rename_i i hy
            split at h
            · rename_i j hz
              cases h; exact zl4 (hτ.und _ (zf8 ht)) hf hx hy hz hm
            · cases h
          · cases h
        · rename_i y
          split at h
          · rename_i i hy
            cases h; exact zhP (hτ.und _ (zf8 ht)) hf hx hy hm
          · cases h
        · rename_i z
          split at h
          · rename_i j hz
            cases h; exact zhG (hτ.und _ (zf8 ht)) hf hx hz hm
          · cases h
        · cases h
      · cases h
    · cases h
  · cases h
def nxP (τ : Tab) (N : Nat) (c : Cur) (fs : List Fr) (E : Env) (B : Kn) : Option (Array Oper × List Oper × List Fr × Env × Kn × Nat × ((α : Type) × Option α × (α → Value))) :=
  match nxO τ N c fs E B with
  | some (all, ⟨some d, op, _, _, _, none⟩, rest, fs, E, B) => match Nat.blt d N with
    | true => match evP τ E op with
      | some p => match znY d none B with
        | [] => some (all, rest, fs, E, [], d, p)
        | k :: B' => some (all, rest, fs, E, k :: B', d, p)
      | none => none
    | false => none
  | _ => none
theorem bi [TabOk P τ] {m : Option α} {g : α → Option ρ} {enc : α → Value} (h : nxP τ N c fs E B = some (all, rest, fs', E', B', d, ⟨α, m, enc⟩))
    (k : ∀ x, m = some x → S P τ N R Q0 w0 F (.op all rest) fs' ((d, enc x) :: E') B' L (g x)) : S P τ N R Q0 w0 F c fs E B L (m.bind g) := by
  intro a w hf hB hO hm
  obtain ⟨x, hx, hm⟩ := ob hm
  unfold nxP at h
  split at h
  · rename_i h0
    split at h
    · rename_i hN
      split at h
      · rename_i p hp
        refine zkl h0 hf hB fun a hf hB => ?_
        have hs := Kns.put hf hB hN (v := enc x) (k := none) (fun b h => by cases h)
        split at h <;> (rename_i e; cases h; rw [e] at hs; exact zmm (by simp [Region.wanted]) (evP_ok hf hp hx) (k x hx _ w (hf.put hN _) hs hO hm))
      · cases h
    · cases h
  · cases h
abbrev Ret {ρ : Type} (w0 : World) (V : ρ → Value) (R : ρ) : Ending → World → Prop := fun e w' => e = .returned (V R) ∧ Below w0.heap.size w0 w'
theorem nl (e sz : Nat) (k : S P τ N R Q0 w0 F c fs E B (.row (.slice none 0 0) e sz 0 [] :: L) M) : S P τ N R Q0 w0 F c fs E B L M :=
  fun a w hf hB hO hm => k a w hf hB (hO.nilRow e sz) hm
def nxC (τ : Tab) (N : Nat) (c : Cur) (fs : List Fr) (E : Env) (B : Kn) : Option (Array Oper × List Oper × List Fr × Env × Kn × Nat × Nat × List Value) :=
  match nxO τ N c fs E B with
  | some (all, ⟨some d, .call ⟨.value (.func f), ⟨xs⟩, _⟩, _, _, _, none⟩, rest, fs, E, B) => match Nat.blt d N with
    | true => match znU E xs with
      | some vs => match znY d none B with
        | [] => some (all, rest, fs, E, [], d, f, vs)
        | k :: B' => some (all, rest, fs, E, k :: B', d, f, vs)
      | none => none
    | false => none
  | _ => none
theorem zut {Q : Exit → Act → World → Prop} {a : Act} {w : World} {f t : Nat} {p : String} {af : Array Edge} {xs : List Operand} {ats : Array TypeId} {vs : List Value} {K : Ending → World → Prop} (hc : zd P f) (hf : Fits N E a) (hB : Kns B a) (hd : Nat.blt d N = true) (hv : znU E xs = some vs)
    (hw : Calls P f vs.toArray w K) (k : ∀ e w', K e w' → ∃ v, e = .returned v ∧ ∀ a, Fits N ((d, v) :: E) a → Kns (znY d none B) a → wpList P all Q rest a w') :
    wpList P all Q (⟨some d, .call ⟨.value (.func f), ⟨xs⟩, ats⟩, t, p, af, none⟩ :: rest) a w := by
  have hx := zh (w := w) (dst := some d) (t := t) (p := p) (af := af) (gd := none) (ats := ats) hc hf (args := ⟨xs⟩) hv
  unfold wpList
  rw [if_pos (by simp [Region.wanted])]
  left
  unfold Oper.wp
  rw [hx, Oper.upon_enter]
  refine hw.mono fun e w' he => ?_
  obtain ⟨v, rfl, hk⟩ := k e w' he
  exact hk _ (hf.put hd _) (Kns.put hf hB hd fun b h => by cases h)
theorem nxC_ok [TabOk P τ] {a : Act} {w : World} {f : Nat} {vs : List Value} {K : Ending → World → Prop} (hc : zd P f) (h : nxC τ N c fs E B = some (all, rest, fs', E', B', d, f, vs)) (hf : Fits N E a) (hB : Kns B a)
    (hw : Calls P f vs.toArray w K) (k : ∀ e w', K e w' → ∃ v, e = .returned v ∧ ∀ a, Fits N ((d, v) :: E') a → Kns B' a → wpList P all (QS P Q0 fs') rest a w') : wpU P Q0 c fs a w := by
  unfold nxC at h
  split at h
  · rename_i h0
    split at h
    · rename_i hN
      split at h
      · rename_i p hp
        refine zkl h0 hf hB fun a hf hB => ?_
        have hs := fun v => Kns.put hf hB hN (v := v) (k := none) (fun b h => by cases h)
        split at h <;> (rename_i e; cases h; refine zut hc hf hB hN hp hw fun e1 w' he => ?_; rw [e]; exact k e1 w' he)
      · cases h
    · cases h
  · cases h
theorem cl [TabOk P τ] {f : Nat} {vs : List Value} {m : Option α} {g : α → Option ρ} {enc : α → Value} (hc : zd P f) (h : nxC τ N c fs E B = some (all, rest, fs', E', B', d, f, vs))
    (hw : ∀ x w, m = some x → Own w0 F w L → Calls P f vs.toArray w (Ret w enc x))
    (k : ∀ x, m = some x → S P τ N R Q0 w0 F (.op all rest) fs' ((d, enc x) :: E') B' L (g x)) : S P τ N R Q0 w0 F c fs E B L (m.bind g) := by
  intro a w hf hB hO hm
  obtain ⟨x, hx, hm⟩ := ob hm
  exact nxC_ok hc h hf hB (hw x w hx hO) fun e w' ⟨he, hb⟩ => ⟨_, he, fun a hf hB => k x hx a w' hf hB (hO.grow hb) hm⟩

def nxB (τ : Tab) (N : Nat) (c : Cur) (fs : List Fr) (E : Env) (B : Kn) : Option (Cur × List Fr × Env × Kn × Nat × Bool) :=
  match zhA τ N far c fs E B with
  | (.co (.cond (.tmp s) x y), fs, E, B) => match look E s with
    | some (.bool b) => some (.co (.cond (.tmp s) x y), fs, E, B, s, b)
    | _ => none
  | (.op all (o :: rest), fs, E, B) => match o.guard with
    | some (j, _) => match nth all.toList j with
      | some ⟨some s, _, _, _, _, _⟩ => match look E s with
        | some (.bool b) => some (.op all (o :: rest), fs, E, B, s, b)
        | _ => none
      | _ => none
    | none => none
  | _ => none
theorem zvG [TabOk P τ] {a : Act} {w : World} {b : Bool} (h : nxB τ N c fs E B = some (c', fs', E', B', d, b)) (hf : Fits N E a) (hB : Kns B a)
    (k : ∀ a, Fits N E' a → Kns ((d, some b) :: B') a → wpU P Q0 c' fs' a w) : wpU P Q0 c fs a w := by
  have key : ∀ {s : Nat} {b : Bool} {a : Act} {E : Env} {B : Kn}, Fits N E a → Kns B a → look E s = some (.bool b) → Kns ((s, some b) :: B) a := by
    intro s b a E B hf hB hs d' b' hd
    simp only [lkB] at hd
    by_cases e : Nat.beq s d' = true
    · have : s = d' := by simpa using e
      subst this
      simp at hd; subst hd
      exact hf.has _ _ hs
    · simp only [e] at hd
      exact hB _ _ hd
  unfold nxB at h
  split at h
  · rename_i hd
    split at h
    · rename_i hs
      cases h
      exact zc6 hd hf hB fun a hf hB => k a hf (key hf hB hs)
    · cases h
  · rename_i hd
    split at h
    · split at h
      · split at h
        · rename_i hs
          cases h
          exact zc6 hd hf hB fun a hf hB => k a hf (key hf hB hs)
        · cases h
      · cases h
    · cases h
  · cases h
theorem br [TabOk P τ] {b : Bool} {A C : Option ρ} (h : nxB τ N c fs E B = some (c', fs', E', B', d, b))
    (k1 : b = true → S P τ N R Q0 w0 F c' fs' E' ((d, some true) :: B') L A) (k0 : b = false → S P τ N R Q0 w0 F c' fs' E' ((d, some false) :: B') L C) :
    S P τ N R Q0 w0 F c fs E B L (if b = true then A else C) := by
  intro a w hf hB hO hm
  refine zvG h hf hB fun a hf hB => ?_
  cases b with
  | true => exact k1 rfl a w hf hB hO hm
  | false => exact k0 rfl a w hf hB hO (by simpa using hm)
theorem kn [TabOk P τ] {b b' : Bool} (hb : b = b') (h : nxB τ N c fs E B = some (c', fs', E', B', d, b))
    (k : S P τ N R Q0 w0 F c' fs' E' ((d, some b') :: B') L M) : S P τ N R Q0 w0 F c fs E B L M := by
  intro a w hf hB hO hm
  subst hb
  exact zvG h hf hB fun a hf hB => k a w hf hB hO hm

def zjx (K : Act → World → Prop) : Nat → List Fr → Option (List Fr × Code × List Fr)
  | n, .sq y :: fs => match Nat.beq n fs.length with
    | true => some (.ct K :: fs, y, fs)
    | false => match zjx K n fs with
      | some (l, z, r) => some (.sq y :: l, z, r)
      | none => none
  | n, f :: fs => match zjx K n fs with
    | some (l, z, r) => some (f :: l, z, r)
    | none => none
  | _, [] => none
theorem zi6 {K : Act → World → Prop} {n : Nat} : ∀ {fs l r : List Fr} {y : Code}, zjx K n fs = some (l, y, r) → (∀ a w, K a w → y.wp P (QS P Q0 r) a w) → ∀ e a w, QS P Q0 l e a w → QS P Q0 fs e a w
  | [], _, _, _, h, _ => by simp [zjx] at h
  | .sq y :: fs, l, r, z, h, hk => by
    unfold zjx at h
    split at h
    · cases h
      intro e a w q
      cases e <;> first | exact hk _ _ q | exact q
    · split at h
      · rename_i h1
        cases h
        have ih := zi6 h1 hk
        intro e a w q
        cases e <;> first | exact Code.wp_mono ih q | exact ih _ _ _ q
      · cases h
  | .ct K' :: fs, l, r, z, h, hk => by
    unfold zjx at h
    split at h
    · rename_i h1
      cases h
      have ih := zi6 h1 hk
      intro e a w q
      cases e <;> first | exact ih _ _ _ q | exact q
    · cases h
  | .bk id :: fs, l, r, z, h, hk => by
    unfold zjx at h
    split at h
    · rename_i h1
      cases h
      have ih := zi6 h1 hk
      intro e a w q
      cases e <;> first
        | exact ih _ _ _ q
        | (simp only [QS, Exit.inBlock] at q ⊢; split at q <;> first | (rename_i hh; rw [if_pos hh]; exact ih _ _ _ q) | (rename_i hh; rw [if_neg hh]; exact ih _ _ _ q))
    · cases h
def nxJ (τ : Tab) (N : Nat) (K : Act → World → Prop) (n : Nat) (c : Cur) (fs : List Fr) (E : Env) (B : Kn) : Option (Cur × List Fr × Env × Kn × Code × List Fr) :=
  match zhA τ N far c fs E B with
  | (c, fs, E, B) => match zjx K n fs with
    | some (l, y, r) => some (c, l, E, B, y, r)
    | none => none
theorem zvH {o : Oper} {a : Act} {w : World} {K K' : Act → World → Prop} {Q Q' : Exit → Act → World → Prop} (h : ∀ a w, K a w → K' a w) (hq : ∀ e a w, Q e a w → Q' e a w) (hh : o.wp P a w K Q) : o.wp P a w K' Q' := by
  have hl : LetsOut Q → LetsOut Q' := fun ⟨a, w, q⟩ => ⟨a, w, hq _ _ _ q⟩
  unfold Oper.wp at *
  generalize (execOp a.eval o).run P w = r at *
  cases r with
  | ok n w' =>
    cases n <;> simp only [Oper.upon] at hh ⊢ <;>
      first
        | exact h _ _ hh
        | exact Calls.mono hh (fun e w'' he => by cases e <;> first | exact h _ _ he | exact hq _ _ _ he | exact hl he)
        | exact Rows.mono hh (fun _ _ he => h _ _ he)
  | halt x w' => cases x <;> simp only [Oper.upon] at hh ⊢ <;> first | exact hq _ _ _ hh | exact hh
theorem zoL {Q Q' : Exit → Act → World → Prop} (hq : ∀ e a w, Q e a w → Q' e a w) : ∀ {l : List Oper} {a : Act} {w : World}, wpList P all Q l a w → wpList P all Q' l a w
  | [], a, w, h => hq _ _ _ h
  | o :: l, a, w, h => by
    unfold wpList at h ⊢
    split
    · rename_i hw
      rw [if_pos hw] at h
      rcases h with h | ⟨h1, a, w, h2⟩
      · left
        exact zvH (fun a w h => zoL hq h) hq h
      · exact .inr ⟨h1, a, w, hq _ _ _ h2⟩
    · rename_i hw
      rw [if_neg hw] at h
      exact zoL hq h
theorem zrX (hq : ∀ e a w, QS P Q0 fs e a w → QS P Q0 fs' e a w) {a : Act} {w : World} (h : wpU P Q0 c fs a w) : wpU P Q0 c fs' a w := by
  cases c with
  | co c => exact Code.wp_mono hq h
  | op all rest => exact zoL hq h
  | no => exact hq _ _ _ h
  | ex id => exact hq _ _ _ h
  | rt => exact hq _ _ _ h
theorem jn [TabOk P τ] (n : Nat) (K : Act → World → Prop) {y : Code} {r : List Fr} (h : nxJ τ N K n c fs E B = some (c', fs', E', B', y, r))
    (k1 : S P τ N R Q0 w0 F c' fs' E' B' L M) (k2 : ∀ a w, K a w → y.wp P (QS P Q0 r) a w) : S P τ N R Q0 w0 F c fs E B L M := by
  intro a w hf hB hO hm
  unfold nxJ at h
  split at h
  rename_i hd
  split at h
  · rename_i h1
    cases h
    exact zc6 hd hf hB fun a hf hB => zrX (zi6 h1 k2) (k1 a w hf hB hO hm)
  · cases h
def keys : Env → List Nat
  | [] => []
  | (k, _) :: E => k :: keys E
def zjy (E : Env) : List Nat → Option Env
  | [] => some []
  | k :: ks => match look E k with
    | some v => match zjy E ks with
      | some l => some ((k, v) :: l)
      | none => none
    | none => none
theorem Fits.vals {a : Act} (hf : Fits N E a) : ∀ {ks : List Nat} {E' : Env}, zjy E ks = some E' → Fits N E' a
  | [], E', h => by cases h; exact hf.nil
  | k :: ks, E', h => by
    unfold zjy at h
    split at h
    · rename_i v hv
      split at h
      · rename_i l hl
        cases h
        exact hf.cons hv (hf.vals hl)
      · cases h
    · cases h
theorem Fits.sel {a : Act} (hf : Fits N E a) (h : zjy E (keys E') = some E') : Fits N E' a := hf.vals h
theorem eo [TabOk P τ] {K : Act → World → Prop} (h : zhA τ N far c fs E B = (.no, .ct K :: fs', E', B'))
    (k : ∀ a w, Fits N E' a → Own w0 F w L → M = some R → K a w) : S P τ N R Q0 w0 F c fs E B L M :=
  fun _ w hf hB hO hm => zc6 h hf hB fun a hf _ => k a w hf hO hm
abbrev Jp (N : Nat) (w0 : World) (F : List Nat) {ρ : Type} (R : ρ) (a : Act) (w : World) (E : Env) (L : List Res) (M : Option ρ) : Prop := Fits N E a ∧ Own w0 F w L ∧ M = some R
def zny (L : List Res) : List Nat → Option (List Res)
  | [] => some []
  | i :: is => match nth L i with
    | some r => match zny L is with
      | some l => some (r :: l)
      | none => none
    | none => none
theorem zmn {L : List Res} : ∀ {is : List Nat} {l : List Res}, zny L is = some l → pick L is = l
  | [], _, h => by cases h; rfl
  | i :: is, l, h => by
    unfold zny at h
    split at h
    · rename_i r hr
      split at h
      · rename_i l' hl
        cases h
        rw [zjw] at hr
        rw [pick, hr]
        dsimp only
        rw [zmn hl]
      · cases h
    · cases h
theorem en [TabOk P τ] {K : Act → World → Prop} (h : zhA τ N far c fs E B = (.no, .ct K :: fs', E', B'))
    (k : ∀ a w, (∀ {E2}, zjy E' (keys E2) = some E2 → Jp N w0 F R a w E2 L M) → K a w) : S P τ N R Q0 w0 F c fs E B L M :=
  eo h fun a w hf hO hm => k a w fun h => ⟨hf.sel h, hO, hm⟩
theorem ec [TabOk P τ] (is : List Nat) {L2 : List Res} {K : Act → World → Prop} (h : zhA τ N far c fs E B = (.no, .ct K :: fs', E', B')) (hd : zhX is = true) (hp : zny L is = some L2)
    (k : ∀ a w, (∀ {E2}, zjy E' (keys E2) = some E2 → Jp N w0 F R a w E2 L2 M) → K a w) : S P τ N R Q0 w0 F c fs E B L M :=
  eo h fun a w hf hO hm => k a w fun h => ⟨hf.sel h, by rw [← zmn hp]; exact hO.choose is hd, hm⟩
def nxV (τ : Tab) (N : Nat) (K : Env → List Res → Act → World → Prop) (n : Nat) (ks is : List Nat) (L : List Res) (c : Cur) (fs : List Fr) (E : Env) (B : Kn) : Option (Cur × List Fr × Env × Kn × Code × List Fr × Env × List Res) :=
  match zhA τ N far c fs E B with
  | (c, fs, E, B) => match zjy E ks with
    | some Ek => match zny L is with
      | some Lk => match zjx (K Ek Lk) n fs with
        | some (l, y, r) => some (c, l, E, B, y, r, Ek, Lk)
        | none => none
      | none => none
    | none => none
theorem jv [TabOk P τ] (n : Nat) (ks is : List Nat) (K : (Env → List Res → Option ρ → Prop) → Env → List Res → Prop) {y : Code} {l r : List Fr} {Ek : Env} {Lk : List Res}
    (h : nxV τ N (fun Ek Lk a w => K (Jp N w0 F R a w) Ek Lk) n ks is L c fs E B = some (c', l, E', B', y, r, Ek, Lk))
    (k1 : S P τ N R Q0 w0 F c' l E' B' L M) (k2 : ∀ a w, K (Jp N w0 F R a w) Ek Lk → y.wp P (QS P Q0 r) a w) : S P τ N R Q0 w0 F c fs E B L M := by
  intro a w hf hB hO hm
  unfold nxV at h
  split at h
  rename_i hd
  split at h
  · split at h
    · split at h
      · rename_i h1
        cases h
        exact zc6 hd hf hB fun a hf hB => zrX (zi6 h1 k2) (k1 a w hf hB hO hm)
      · cases h
    · cases h
  · cases h
def nxW (τ : Tab) (N : Nat) (ks is : List Nat) (L : List Res) (c : Cur) (fs : List Fr) (E : Env) (B : Kn) : Option (Code × List Fr × Env × Kn × Env × List Res) :=
  match zhA τ N far c fs E B with
  | (.co (.loop co), fs, E, B) => match zjy E ks with
    | some Ek => match zny L is with
      | some Lk => some (co, fs, E, B, Ek, Lk)
      | none => none
    | none => none
  | _ => none
theorem lv [TabOk P τ] (ks is : List Nat) (I : (Env → List Res → Option ρ → Prop) → Env → List Res → Nat → Prop) {co : Code} {Ek : Env} {Lk : List Res}
    (h : nxW τ N ks is L c fs E B = some (co, fs', E', B', Ek, Lk))
    (h0 : ∀ a w, (∀ {E2}, zjy E' (keys E2) = some E2 → Jp N w0 F R a w E2 L M) → I (Jp N w0 F R a w) Ek Lk fuel)
    (k : ∀ n a w, I (Jp N w0 F R a w) Ek Lk n → co.wp P (QS P Q0 (.ct (fun a w => ∃ m, m < n ∧ I (Jp N w0 F R a w) Ek Lk m) :: fs')) a w) : S P τ N R Q0 w0 F c fs E B L M := by
  intro a w hf hB hO hm
  unfold nxW at h
  split at h
  · rename_i hd
    split at h
    · split at h
      · cases h
        exact zc6 hd hf hB fun a hf _ => zuY (fun n a w => I (Jp N w0 F R a w) Ek Lk n) (fun n a w hI => k n a w hI) fuel (h0 a w fun h => ⟨hf.sel h, hO, hm⟩)
      · cases h
    · cases h
  · cases h
theorem ch (is : List Nat) {L2 : List Res} (hd : zhX is = true) (hp : zny L is = some L2) (k : S P τ N R Q0 w0 F c fs E B L2 M) : S P τ N R Q0 w0 F c fs E B L M :=
  fun a w hf hB hO hm => k a w hf hB (by rw [← zmn hp]; exact hO.choose is hd) hm
def vsOf (E : Env) : List ResultVar → Option (List Value)
  | [] => some []
  | .tmp t :: rs => match look E t with
    | some v => match vsOf E rs with
      | some vs => some (v :: vs)
      | none => none
    | none => none
  | _ => none
theorem zqX {w : World} : ∀ {rs : List ResultVar} {vs : List Value}, vsOf E rs = some vs → ResV P w E rs vs
  | [], vs, h => by cases h; exact .nil
  | .tmp t :: rs, vs, h => by
    unfold vsOf at h
    split at h
    · rename_i v hv
      split at h
      · rename_i l hl
        cases h
        exact .tmp hv (zqX hl)
      · cases h
    · cases h
  | .cell _ _ :: _, _, h => by cases h
def nxR (τ : Tab) (N : Nat) (rs : List ResultVar) (c : Cur) (fs : List Fr) (E : Env) (B : Kn) : Option Value :=
  match zhA τ N far c fs E B with
  | (.rt, [], E, _) => match vsOf E rs with
    | some vs => some (tup vs)
    | none => none
  | (.no, [], E, _) => match vsOf E rs with
    | some vs => some (tup vs)
    | none => none
  | _ => none
theorem rt [TabOk P τ] {fn : Func} {rs : List ResultVar} {r : ρ} {V : ρ → Value} (hr : fn.results = rs.toArray) (h : nxR τ N rs c fs E B = some (V r)) :
    S P τ N R (bodyPost P fn (Ret w0 V R)) w0 [] c fs E B L (some r) := by
  intro a w hf hB hO hm
  obtain rfl := Option.some.inj hm
  unfold nxR at h
  split at h
  · rename_i hd
    split at h
    · rename_i vs hv
      refine zc6 hd hf hB fun a hf _ => ?_
      exact zi (R := fun e w' => e = .returned (V r) ∧ Below w0.heap.size w0 w') hr hf (zqX hv) ⟨by rw [Option.some.inj h], hO.below⟩
    · cases h
  · rename_i hd
    split at h
    · rename_i vs hv
      refine zc6 hd hf hB fun a hf _ => ?_
      exact zhV (R := fun e w' => e = .returned (V r) ∧ Below w0.heap.size w0 w') hr hf (zqX hv) ⟨by rw [Option.some.inj h], hO.below⟩
    · cases h
  · cases h
end
end Go.Dk
end
section
namespace Go.Dk
open Go.RowKit Go.Dm
section
variable {P : Program} {Q : Exit → Act → World → Prop} {a : Act} {w w' w0 : World} {N : Nat} {E : Env} {F : List Nat} {L K : List Res}
variable {ops : Array Oper} {rest : List Oper} {t t' ty d : Nat} {p : String} {af : Array Edge} {x y : Operand}

theorem Own.nilNst (h : Own w0 F w L) (e : Nat) : Own w0 F w (.nst (.slice none 0 0) e [] [] [] :: L) := by
  refine ⟨h.os, h.tape, h.output, h.size, h.frame, ?_, ?_, ?_⟩
  · intro r hr
    rcases List.mem_cons.1 hr with rfl | hr
    · exact ⟨⟨rfl, .inl ⟨rfl, rfl⟩⟩, ⟨rfl, fun b hb => by simp [Value.ownBlock] at hb⟩, trivial⟩
    · exact h.holds r hr
  · intro r hr hs b hb
    rcases List.mem_cons.1 hr with rfl | hr
    · simp [Res.fp, Value.ownBlock] at hb
    · exact h.fresh r hr hs b hb
  · exact List.pairwise_cons.2 ⟨fun s _ => .inr fun b h1 _ => by simp [Res.fp, Value.ownBlock] at h1, h.sep⟩
theorem nn {τ : Tab} {ρ : Type} {R : ρ} {Q0 : Exit → Act → World → Prop} {c : Cur} {fs : List Fr} {B : Kn} {M : Option ρ} (e : Nat) (k : S P τ N R Q0 w0 F c fs E B (.nst (.slice none 0 0) e [] [] [] :: L) M) : S P τ N R Q0 w0 F c fs E B L M :=
  fun a w hf hB hO hm => k a w hf hB (hO.nilNst e) hm
theorem ze3.append {s : Option Addr × Nat × Nat} {y : List Value} (hs : zy w s.1 y) (hc : s.2.1 ≤ s.2.2) : ∀ {ss : List (Option Addr × Nat × Nat)} {xs : List (List Value)}, ze3 w ss xs → ze3 w (ss ++ [s]) (xs ++ [y])
  | [], [], _ => ⟨⟨hs, hc⟩, trivial⟩
  | [], _ :: _, h => h.elim
  | _ :: _, [], h => h.elim
  | _ :: _, _ :: _, ⟨h1, h2⟩ => ⟨h1, ze3.append hs hc h2⟩
theorem ze3.get : ∀ {ss : List (Option Addr × Nat × Nat)} {xs : List (List Value)}, ze3 w ss xs → ∀ (i : Nat) (x : List Value), xs[i]? = some x → ∃ s, ss[i]? = some s ∧ zy w s.1 x ∧ s.2.1 ≤ s.2.2
  | [], [], _, i, x, h => by simp at h
  | [], _ :: _, h, _, _, _ => h.elim
  | _ :: _, [], h, _, _, _ => h.elim
  | s :: ss, y :: xs, ⟨h1, h2⟩, 0, x, h => by simp at h; subst h; exact ⟨s, by simp, h1⟩
  | s :: ss, y :: xs, ⟨h1, h2⟩, i + 1, x, h => by
    obtain ⟨s', h3, h4⟩ := ze3.get h2 i x (by simpa using h)
    exact ⟨s', by simpa using h3, h4⟩
theorem zwK {v : Value} {e sz n c m : Nat} {ad : Option Addr} {xs : List Value} (h : w.ownsRow 0 e sz (.slice ad n c) m xs) : n = m := by
  obtain ⟨_, h | ⟨g, cap, cur, hv, _⟩⟩ := h
  · obtain ⟨h1, h2⟩ := h
    simp at h1
    omega
  · simp at hv
    exact hv.2.1

theorem Own.nstApp {v v' : Value} {e e2 sz m dd : Nat} {q : Option Addr} {ss : List (Option Addr × Nat × Nat)} {ns : List Nat} {xs : List (List Value)} {ys : List Value}
    (h : Own w0 F w (.nst v e ss ns xs :: .row (.slice q m dd) e2 sz m ys :: K)) (hg : w.grownBy w' v.ownBlock) (ho : w'.ownsRow 0 e 1 v' (ss ++ [(q, m, dd)]).length ((ss ++ [(q, m, dd)]).map slS))
    (hb : v'.ownBlock = v.ownBlock ∨ v'.ownBlock = some w.heap.size) : Own w0 F w' (.nst v' e (ss ++ [(q, m, dd)]) (ns ++ [m]) (xs ++ [ys]) :: K) := by
  obtain ⟨s1, s2⟩ := List.pairwise_cons.1 h.sep
  obtain ⟨s3, s4⟩ := List.pairwise_cons.1 s2
  have hN : (Res.nst v e ss ns xs).holds w 0 := h.holds _ (by simp)
  have hR : (Res.row (.slice q m dd) e2 sz m ys).holds w 0 := h.holds _ (by simp)
  have fN := h.fresh (Res.nst v e ss ns xs) (by simp) rfl
  have fR := h.fresh (Res.row (.slice q m dd) e2 sz m ys) (by simp) rfl
  have ap : ∀ b, b ∈ (Res.nst v e ss ns xs).fp → b ∈ (Res.row (.slice q m dd) e2 sz m ys).fp → False := by
    rcases s1 (Res.row (.slice q m dd) e2 sz m ys) (by simp) with ⟨h1, _⟩ | h1
    · cases h1
    · exact h1
  have qb : ∀ b, b ∈ (q.map (·.block)).toList → b ∈ (Res.row (.slice q m dd) e2 sz m ys).fp := by
    intro b hb
    cases q with
    | none => simp at hb
    | some x => simp at hb; simp [Res.fp, Value.ownBlock, hb]
  have vN : ∀ b, v.ownBlock = some b → b ∈ (Res.nst v e ss ns xs).fp := fun b hb => List.mem_append_left _ (by rw [hb]; simp)
  have iN : ∀ b, b ∈ ss.flatMap (fun s => (s.1.map (·.block)).toList) → b ∈ (Res.nst v e ss ns xs).fp := fun b hb => List.mem_append_right _ hb
  have hkeep : ∀ b, b < w.heap.size → v.ownBlock ≠ some b → w'.heap[b]? = w.heap[b]? := fun b h1 h2 => hg.block b h1 fun e => h2 e.symm
  have newfp : ∀ b, b ∈ (Res.nst v' e (ss ++ [(q, m, dd)]) (ns ++ [m]) (xs ++ [ys])).fp → v'.ownBlock = some b ∨ b ∈ ss.flatMap (fun s => (s.1.map (·.block)).toList) ∨ b ∈ (q.map (·.block)).toList := by
    intro b hb
    rcases List.mem_append.1 hb with h1 | h1
    · exact .inl (by simpa using h1)
    · rw [List.flatMap_append, List.mem_append] at h1
      rcases h1 with h1 | h1
      · exact .inr (.inl h1)
      · exact .inr (.inr (by simpa using h1))
  have hqs : zy w q ys := zme hR
  have hcap : m ≤ dd := by
    obtain ⟨_, ⟨h1, h2⟩ | ⟨g, cap, cur, hv, _, _, hle, _⟩⟩ := hR
    · omega
    · cases hv; exact hle
  have qlt : ∀ b, b ∈ (q.map (·.block)).toList → b < w.heap.size := fun b hb => Res.fp_lt hR (qb b hb)
  have kap : ∀ k ∈ K, ∀ b, b ∈ k.fp → b ∉ (Res.nst v e ss ns xs).fp ∧ b ∉ (Res.row (.slice q m dd) e2 sz m ys).fp := by
    intro k hk b hbk
    refine ⟨fun h1 => ?_, fun h1 => ?_⟩
    · rcases s1 k (by simp [hk]) with ⟨h2, _⟩ | h2
      · cases h2
      · exact h2 b h1 hbk
    · rcases s3 k hk with ⟨h2, _⟩ | h2
      · cases h2
      · exact h2 b h1 hbk
  refine ⟨hg.os.trans h.os, hg.tape.trans h.tape, hg.output.trans h.output, Nat.le_trans h.size hg.size, ?_, ?_, ?_, ?_⟩
  · intro b h1 h2
    refine (hkeep b (Nat.lt_of_lt_of_le h1 h.size) fun e => ?_).trans (h.frame b h1 h2)
    rcases fN b (vN b e) with h3 | h3
    · exact h2 h3
    · omega
  · intro r hr
    rcases List.mem_cons.1 hr with rfl | hr
    · refine ⟨ho, ⟨by rw [List.map_append, hN.2.1.1]; rfl, fun b hb1 hb2 => ?_⟩, ze3.append ?_ hcap (ze3.of hg.size hN.2.2 fun b hb1 => hkeep b (ze3.lt hN.2.2 b hb1) fun e => hN.2.1.2 b e hb1)⟩
      · rw [List.flatMap_append, List.mem_append] at hb2
        rcases hb with h3 | h3
        · rw [h3] at hb1
          rcases hb2 with h4 | h4
          · exact hN.2.1.2 b hb1 h4
          · exact ap b (vN b hb1) (qb b (by simpa using h4))
        · rw [h3] at hb1
          obtain rfl := Option.some.inj hb1
          rcases hb2 with h4 | h4
          · have := ze3.lt hN.2.2 _ h4; omega
          · have := qlt _ (by simpa using h4); omega
      · exact zqR hqs hg.size fun b hb1 => hkeep b (qlt b (by rw [hb1]; simp)) fun e => ap b (vN b e) (qb b (by rw [hb1]; simp))
    · refine Res.holds_of (h.holds r (by simp [hr])) hg.size fun b hb1 => hkeep b (Res.fp_lt (h.holds r (by simp [hr])) hb1) fun e => (kap r hr b hb1).1 (vN b e)
  · intro r hr hs b hb1
    rcases List.mem_cons.1 hr with rfl | hr
    · rcases newfp b hb1 with h1 | h1 | h1
      · rcases hb with h3 | h3
        · exact fN b (vN b (h3 ▸ h1))
        · rw [h3] at h1; obtain rfl := Option.some.inj h1; exact .inr h.size
      · exact fN b (iN b h1)
      · exact fR b (qb b h1)
    · exact h.fresh r (by simp [hr]) hs b hb1
  · refine List.pairwise_cons.2 ⟨fun k hk => .inr fun b h1 h2 => ?_, s4⟩
    obtain ⟨k1, k2⟩ := kap k hk b h2
    rcases newfp b h1 with h3 | h3 | h3
    · rcases hb with h4 | h4
      · exact k1 (vN b (h4 ▸ h3))
      · rw [h4] at h3; obtain rfl := Option.some.inj h3
        have := Res.fp_lt (h.holds k (by simp [hk])) h2
        omega
    · exact k1 (iN b h3)
    · exact k2 (qb b h3)
theorem zs7 {α : Type} {enc : α → List Value} {e e2 sz bytes i j c c2 dd : Nat} {ad q : Option Addr} {b2 o2 : Nat} {ss : List (Option Addr × Nat × Nat)} {xss : List (List α)} {z : List α} (he : Elem P t' e 1 bytes) (is : List Nat)
    (hd0 : zhX (i :: j :: is) = true) (hp : zny L (i :: j :: is) = some (.nst (.slice ad xss.length c) e ss (xss.map List.length) (xss.map (cells enc)) :: .row (.slice q z.length dd) e2 sz z.length (cells enc z) :: K))
    (hS : ∀ w, Own w0 F w L → zy w (some ⟨b2, o2, none⟩) [.slice q z.length dd]) (hfit : zF xss.length 1 bytes = true)
    (hf : Fits N E a) (hd : Nat.blt d N = true) (hx : evl E x = some (.slice ad xss.length c)) (hy : evl E y = some (.slice (some ⟨b2, o2, none⟩) 1 c2)) (hO : Own w0 F w L)
    (k : ∀ a ad c w, Fits N ((d, .slice ad (xss ++ [z]).length c) :: E) a → Own w0 F w (.nst (.slice ad (xss ++ [z]).length c) e (ss ++ [(q, z.length, dd)]) ((xss ++ [z]).map List.length) ((xss ++ [z]).map (cells enc)) :: K) → wpList P ops Q rest a w) :
    wpList P ops Q ({ dst := some d, op := .call { callee := .builtin .append, args := #[x, y], argTypes := #[t', t'] }, type := t, pos := p, after := af, guard := none } :: rest) a w := by
  obtain ⟨hu, ⟨ti, zv, hti, hz, hs1, hs2, hzs⟩, hpos⟩ := he
  have hC := hO.choose (i :: j :: is) hd0
  rw [zmn hp] at hC
  have hN : (Res.nst (.slice ad xss.length c) e ss (xss.map List.length) (xss.map (cells enc))).holds w 0 := hC.holds _ (by simp)
  have hlen : xss.length = ss.length := zwK (v := .slice ad xss.length c) hN.1
  simp only [zF, Bool.and_eq_true, decide_eq_true_eq] at hfit
  have hadd : ∀ j, (⟨b2, o2, none⟩ : Addr).add j = ⟨b2, o2 + j, none⟩ := by intro j; unfold Addr.add; split <;> simp_all
  have hrow : w.ownsRow 0 e 1 (.slice ad xss.length c) ss.length (ss.map slS) := hN.1
  obtain ⟨ad', c', w', hr, h2, h3, h4⟩ := zc7 (P := P) (w := w) t' t e ti zv 1 bytes hu hti hz hs1 hs2 hzs hpos (.slice ad xss.length c) ss.length (ss.map slS) hrow ⟨b2, o2, none⟩ 1 c2 [.slice q z.length dd] rfl
    (fun j u hj => by rw [hadd]; exact (hS w hO).2.2 j u hj) (fun u hu => by simp at hu; subst hu; rfl) (by unfold maxLen; omega) (by rw [← hlen]; exact hfit.2)
  have hxv := hf.ev hx
  have hyv := hf.ev hy
  have e1 : ss.length + 1 = (xss ++ [z]).length := by simp [hlen]
  have hO' := hC.nstApp (v' := .slice ad' (ss.length + 1) c') h3 (by simpa [slS] using h2) h4
  rw [e1] at hO'
  have m1 : xss.map List.length ++ [z.length] = (xss ++ [z]).map List.length := by simp
  have m2 : xss.map (cells enc) ++ [cells enc z] = (xss ++ [z]).map (cells enc) := by simp
  rw [m1, m2] at hO'
  refine zjL (v := .slice ad' (ss.length + 1) c') (w' := w') rfl ?_ (k _ ad' c' w' (by rw [← e1]; exact hf.put hd _) hO')
  simp only [execOp, resolve, invoke, builtin, Sem.run_bind, Sem.run_pure, Result.andThen_ok, List.map_toArray, List.map_cons, List.map_nil, hxv, hyv, hr]
end
end Go.Dk
end
section
set_option linter.unusedVariables false
set_option linter.unusedSimpArgs false
namespace Go.Proofs
open Go.Dk Go.Dm Go.RowKit

theorem zv5 {P : Program} {w0 w : World} {n : String} {g : Nat} (hg : P.globalNamed n = some g) (h : w.heap[g]? = w0.heap[g]?) : w.var? P n = w0.var? P n := by
  unfold World.var?
  rw [hg]
  simp only [Option.bind_some, h]
def zt (w : World) : Prop := 6 ≤ w.heap.size ∧ (∃ m, w.cell? ⟨0, 0, none⟩ = some (.int .i64 m))
def zu (F : List Nat) : Prop := ∀ b ∈ F, 6 ≤ b
theorem zf : zu [] := fun b hb => by cases hb
theorem zt.same {w0 w : World} (h : zt w0) (hs : w0.heap.size ≤ w.heap.size) (hf : ∀ g, g < 6 → w.heap[g]? = w0.heap[g]?) : zt w := by
  obtain ⟨h0, ⟨m, hm0⟩⟩ := h
  exact ⟨Nat.le_trans h0 hs, ⟨m, (World.cell?_of_block (w := w0) (a := ⟨0, 0, none⟩) (hf 0 (by omega))).trans hm0⟩⟩
theorem zt.low {w0 w : World} {B : Nat} (h : zt w0) (hB : 6 ≤ B) (hb : Below B w0 w) : zt w :=
  h.same hb.size fun g hg => hb.block g (by omega)
theorem zt.size {w : World} (h : zt w) : 6 ≤ w.heap.size := h.1
theorem zt.max {w : World} (h : zt w) : (∃ m, w.cell? ⟨0, 0, none⟩ = some (.int .i64 m)) := h.2
theorem zt.own {w0 w : World} {F : List Nat} {L : List Res} (h : zt w0) (hF : zu F) (hO : Own w0 F w L) : zt w :=
  h.same hO.size fun g hg => hO.frame g (by have := h.size; omega) (fun hm => absurd (hF g hm) (by omega))
def zaG (w : World) : Prop := zt w ∧ Go.Lib.TabIs Tryz.prog w "internal/strconv.uint64pow10" .u64 Go.Lib.pow10Tab
theorem zaG.same {w0 w : World} (h : zaG w0) (hs : w0.heap.size ≤ w.heap.size) (hf : ∀ g, g < 6 → w.heap[g]? = w0.heap[g]?) : zaG w := by
  obtain ⟨h, hp⟩ := h
  exact ⟨h.same hs hf, by unfold Go.Lib.TabIs at hp ⊢; rw [← hp]; exact zv5 (show Tryz.prog.globalNamed "internal/strconv.uint64pow10" = some 1 by kernel_rfl) (hf 1 (by omega))⟩
theorem zaG.low {w0 w : World} {B : Nat} (h : zaG w0) (hB : 6 ≤ B) (hb : Below B w0 w) : zaG w :=
  h.same hb.size fun g hg => hb.block g (by omega)
theorem zaG.size {w : World} (h : zaG w) : 6 ≤ w.heap.size := h.1.size
theorem zaG.own {w0 w : World} {F : List Nat} {L : List Res} (h : zaG w0) (hF : zu F) (hO : Own w0 F w L) : zaG w :=
  h.same hO.size fun g hg => hO.frame g (by have := h.size; omega) (fun hm => absurd (hF g hm) (by omega))
def zA (x : api_Attr) : List Value := [str x.Name, str x.Value, .bool x.Has]
def za (x : api_Field) : List Value := [str x.Name, str x.Value]
def zx (x : api_Param) : List Value := [str x.Name, str x.Value]
def zb (x : api_Swap) : List Value := [str x.From, str x.To]
def zcb (x : api_Via) : List Value := [str x.Proto, str x.Version, str x.By, str x.Comment]
def zaO (x : UInt8) : List Value := [zak x]
def zg (x : Str) : List Value := [str x]
theorem zni : ze7 Tryz.prog 112 = some true := by kernel_rfl
theorem ag_114 : ze7 Tryz.prog 114 = some false := by kernel_rfl
theorem ag_120 : ze7 Tryz.prog 120 = some true := by kernel_rfl
theorem ag_157 : ze7 Tryz.prog 157 = some true := by kernel_rfl
theorem ag_178 : ze7 Tryz.prog 178 = some false := by kernel_rfl
theorem ag_181 : ze7 Tryz.prog 181 = some false := by kernel_rfl
theorem zpb : ze7 Tryz.prog 183 = some true := by kernel_rfl
theorem zrd : ze7 Tryz.prog 219 = some true := by kernel_rfl
theorem zgz : ze7 Tryz.prog 22 = some false := by kernel_rfl
theorem zcW : ze7 Tryz.prog 223 = some true := by kernel_rfl
theorem zkK : ze7 Tryz.prog 24 = some true := by kernel_rfl
theorem ag_25 : ze7 Tryz.prog 25 = some false := by kernel_rfl
theorem zdi : ze7 Tryz.prog 26 = some false := by kernel_rfl
theorem zfi : ze7 Tryz.prog 28 = some true := by kernel_rfl
theorem ag_3 : ze7 Tryz.prog 3 = some false := by kernel_rfl
theorem ag_4 : ze7 Tryz.prog 4 = some false := by kernel_rfl
theorem ag_42 : ze7 Tryz.prog 42 = some false := by kernel_rfl
theorem zsq : ze7 Tryz.prog 46 = some true := by kernel_rfl
theorem ziD : ze7 Tryz.prog 54 = some true := by kernel_rfl
theorem znI : ze7 Tryz.prog 63 = some false := by kernel_rfl
theorem ag_84 : ze7 Tryz.prog 84 = some false := by kernel_rfl
theorem zv7 : ze7 Tryz.prog 85 = some false := by kernel_rfl
theorem znJ : ze7 Tryz.prog 87 = some true := by kernel_rfl
theorem zhC : ze7 Tryz.prog 89 = some true := by kernel_rfl
theorem z7 : ze7 Tryz.prog 9 = some false := by kernel_rfl
theorem zjk : ze7 Tryz.prog 98 = some true := by kernel_rfl
theorem zpc : ∀ w, (Instr.alloc 112 true (.tuple #[])).run Tryz.prog w = .ok (ptr w.heap.size 0) (w.alloc (.cells [str [], str []].toArray 112)) := fun w => by kernel_rfl
theorem al_120 : ∀ w, (Instr.alloc 120 true (.tuple #[])).run Tryz.prog w = .ok (ptr w.heap.size 0) (w.alloc (.cells [.pointer none].toArray 120)) := fun w => by kernel_rfl
theorem al_157 : ∀ w, (Instr.alloc 157 true (.tuple #[])).run Tryz.prog w = .ok (ptr w.heap.size 0) (w.alloc (.cells [.pointer none].toArray 157)) := fun w => by kernel_rfl
theorem znj : ∀ w, (Instr.alloc 183 true (.tuple #[])).run Tryz.prog w = .ok (ptr w.heap.size 0) (w.alloc (.cells [str [], str [], .slice none 0 0].toArray 183)) := fun w => by kernel_rfl
theorem zpd : ∀ w, (Instr.alloc 219 true (.tuple #[])).run Tryz.prog w = .ok (ptr w.heap.size 0) (w.alloc (.cells [str [], str [], str [], str [], str [], .bool false, .bool false, .bool false].toArray 219)) := fun w => by kernel_rfl
theorem znk : ∀ w, (Instr.alloc 223 true (.tuple #[])).run Tryz.prog w = .ok (ptr w.heap.size 0) (w.alloc (.cells [str [], str [], .bool false].toArray 223)) := fun w => by kernel_rfl
theorem zsr : ∀ w, (Instr.alloc 24 true (.tuple #[])).run Tryz.prog w = .ok (ptr w.heap.size 0) (w.alloc (.cells [str [], str [], str [], str [], .slice none 0 0, .slice none 0 0].toArray 24)) := fun w => by kernel_rfl
theorem zpe : ∀ w, (Instr.alloc 28 true (.tuple #[])).run Tryz.prog w = .ok (ptr w.heap.size 0) (w.alloc (.cells [int 0, str [], str [], int 0, str [], int 0, .slice none 0 0].toArray 28)) := fun w => by kernel_rfl
theorem ztX : ∀ w, (Instr.alloc 46 true (.tuple #[])).run Tryz.prog w = .ok (ptr w.heap.size 0) (w.alloc (.cells [str [], str [], str [], str []].toArray 46)) := fun w => by kernel_rfl
theorem ztY : ∀ w, (Instr.alloc 54 true (.tuple #[])).run Tryz.prog w = .ok (ptr w.heap.size 0) (w.alloc (.cells [str [], str []].toArray 54)) := fun w => by kernel_rfl
theorem zmB : ∀ w, (Instr.alloc 87 true (.tuple #[])).run Tryz.prog w = .ok (ptr w.heap.size 0) (w.alloc (.cells [int 0, str [], int 0].toArray 87)) := fun w => by kernel_rfl
theorem znK : ∀ w, (Instr.alloc 89 true (.tuple #[])).run Tryz.prog w = .ok (ptr w.heap.size 0) (w.alloc (.cells [int 0, str [], int 0, str [], int 0, str [], str [], .bool false].toArray 89)) := fun w => by kernel_rfl
theorem al_96 : ∀ w, (Instr.alloc 96 true (.tuple #[])).run Tryz.prog w = .ok (ptr w.heap.size 0) (w.alloc (.cells [str [], str [], str [], str []].toArray 96)) := fun w => by kernel_rfl
theorem zv8 : ∀ w, (Instr.alloc 98 true (.tuple #[])).run Tryz.prog w = .ok (ptr w.heap.size 0) (w.alloc (.cells [str [], str []].toArray 98)) := fun w => by kernel_rfl
theorem ei_178 : (Tryz.prog.info? 5).map (fun i => (i.zero, i.size, i.bytes)) = some (some (zak 0), 1, 1) := by kernel_rfl
theorem zre : Elem Tryz.prog 178 5 1 1 := ⟨Tryz.underlying178, by obtain ⟨i, h0, h1, h2, h3⟩ := info_parts ei_178; exact ⟨i, _, h0, h1, h2, h3, rfl⟩, by decide⟩
theorem ei_181 : (Tryz.prog.info? 223).map (fun i => (i.zero, i.size, i.bytes)) = some (some (.agg #[str [], str [], .bool false]), 3, 40) := by kernel_rfl
theorem ztu : Elem Tryz.prog 181 223 3 40 := ⟨Tryz.underlying181, by obtain ⟨i, h0, h1, h2, h3⟩ := info_parts ei_181; exact ⟨i, _, h0, h1, h2, h3, rfl⟩, by decide⟩
theorem ei_22 : (Tryz.prog.info? 98).map (fun i => (i.zero, i.size, i.bytes)) = some (some (.agg #[str [], str []]), 2, 32) := by kernel_rfl
theorem zv9 : Elem Tryz.prog 22 98 2 32 := ⟨Tryz.underlying22, by obtain ⟨i, h0, h1, h2, h3⟩ := info_parts ei_22; exact ⟨i, _, h0, h1, h2, h3, rfl⟩, by decide⟩
theorem ei_26 : (Tryz.prog.info? 54).map (fun i => (i.zero, i.size, i.bytes)) = some (some (.agg #[str [], str []]), 2, 32) := by kernel_rfl
theorem zss : Elem Tryz.prog 26 54 2 32 := ⟨Tryz.underlying26, by obtain ⟨i, h0, h1, h2, h3⟩ := info_parts ei_26; exact ⟨i, _, h0, h1, h2, h3, rfl⟩, by decide⟩
theorem ei_39 : (Tryz.prog.info? 46).map (fun i => (i.zero, i.size, i.bytes)) = some (some (.agg #[str [], str [], str [], str []]), 4, 64) := by kernel_rfl
theorem el_39 : Elem Tryz.prog 39 46 4 64 := ⟨Tryz.underlying39, by obtain ⟨i, h0, h1, h2, h3⟩ := info_parts ei_39; exact ⟨i, _, h0, h1, h2, h3, rfl⟩, by decide⟩
theorem ei_42 : (Tryz.prog.info? 9).map (fun i => (i.zero, i.size, i.bytes)) = some (some (str []), 1, 16) := by kernel_rfl
theorem ziE : Elem Tryz.prog 42 9 1 16 := ⟨Tryz.underlying42, by obtain ⟨i, h0, h1, h2, h3⟩ := info_parts ei_42; exact ⟨i, _, h0, h1, h2, h3, rfl⟩, by decide⟩
theorem ei_47 : (Tryz.prog.info? 73).map (fun i => (i.zero, i.size, i.bytes)) = some (some (.slice none 0 0), 1, 24) := by kernel_rfl
theorem el_47 : Elem Tryz.prog 47 73 1 24 := ⟨Tryz.underlying47, by obtain ⟨i, h0, h1, h2, h3⟩ := info_parts ei_47; exact ⟨i, _, h0, h1, h2, h3, rfl⟩, by decide⟩
theorem ei_73 : (Tryz.prog.info? 112).map (fun i => (i.zero, i.size, i.bytes)) = some (some (.agg #[str [], str []]), 2, 32) := by kernel_rfl
theorem zwa : Elem Tryz.prog 73 112 2 32 := ⟨Tryz.underlying73, by obtain ⟨i, h0, h1, h2, h3⟩ := info_parts ei_73; exact ⟨i, _, h0, h1, h2, h3, rfl⟩, by decide⟩
theorem zw5 (d : Nat) (x y : api_Attr) (w : World) : (Op.equalIn (d + 2) 223 (.agg #[str x.Name, str x.Value, .bool x.Has]) (.agg #[str y.Name, str y.Value, .bool y.Has])).run Tryz.prog w = .ok (x == y) w := by
  obtain ⟨x0, x1, x2⟩ := x
  obtain ⟨y0, y1, y2⟩ := y
  show (Op.equalIn (d + 1 + 1) 223 _ _).run _ _ = _
  rw [run_equalIn_struct w (d + 1) 223 _ _ (by kernel_rfl) (by kernel_rfl)]
  have e : ((⟨x0, x1, x2⟩ : api_Attr) == ⟨y0, y1, y2⟩) = decide (x0 = y0 ∧ x1 = y1 ∧ x2 = y2) := by
    show decide (_ = _) = _
    exact decide_eq_decide.2 (by simp)
  rw [e]
  simp only [Program.fieldsOf, Tryz.underlying223, Op.eqFields]
  simp [part, Tryz.isAgg4, Tryz.underlying4, Tryz.isAgg9, Tryz.underlying9, run_equalIn_string, run_equalIn_bool', run_equalIn_int, zjp, Result.andThen, zkV]
  by_cases h0 : x0 = y0 <;> by_cases h1 : x1 = y1 <;> by_cases h2 : x2 = y2 <;> simp [h0, h1, h2]
theorem eq_223 (x y : api_Attr) (w : World) : (Op.equalIn 10000 223 (.agg #[str x.Name, str x.Value, .bool x.Has]) (.agg #[str y.Name, str y.Value, .bool y.Has])).run Tryz.prog w = .ok (x == y) w := zw5 9998 x y w
theorem eqd_46 (d : Nat) (x y : api_Via) (w : World) : (Op.equalIn (d + 2) 46 (.agg #[str x.Proto, str x.Version, str x.By, str x.Comment]) (.agg #[str y.Proto, str y.Version, str y.By, str y.Comment])).run Tryz.prog w = .ok (x == y) w := by
  obtain ⟨x0, x1, x2, x3⟩ := x
  obtain ⟨y0, y1, y2, y3⟩ := y
  show (Op.equalIn (d + 1 + 1) 46 _ _).run _ _ = _
  rw [run_equalIn_struct w (d + 1) 46 _ _ (by kernel_rfl) (by kernel_rfl)]
  have e : ((⟨x0, x1, x2, x3⟩ : api_Via) == ⟨y0, y1, y2, y3⟩) = decide (x0 = y0 ∧ x1 = y1 ∧ x2 = y2 ∧ x3 = y3) := by
    show decide (_ = _) = _
    exact decide_eq_decide.2 (by simp)
  rw [e]
  simp only [Program.fieldsOf, Tryz.underlying46, Op.eqFields]
  simp [part, Tryz.isAgg9, Tryz.underlying9, run_equalIn_string, run_equalIn_bool', run_equalIn_int, zjp, Result.andThen, zkV]
  by_cases h0 : x0 = y0 <;> by_cases h1 : x1 = y1 <;> by_cases h2 : x2 = y2 <;> by_cases h3 : x3 = y3 <;> simp [h0, h1, h2, h3]
theorem eq_46 (x y : api_Via) (w : World) : (Op.equalIn 10000 46 (.agg #[str x.Proto, str x.Version, str x.By, str x.Comment]) (.agg #[str y.Proto, str y.Version, str y.By, str y.Comment])).run Tryz.prog w = .ok (x == y) w := eqd_46 9998 x y w
theorem eqd_54 (d : Nat) (x y : api_Field) (w : World) : (Op.equalIn (d + 2) 54 (.agg #[str x.Name, str x.Value]) (.agg #[str y.Name, str y.Value])).run Tryz.prog w = .ok (x == y) w := by
  obtain ⟨x0, x1⟩ := x
  obtain ⟨y0, y1⟩ := y
  show (Op.equalIn (d + 1 + 1) 54 _ _).run _ _ = _
  rw [run_equalIn_struct w (d + 1) 54 _ _ (by kernel_rfl) (by kernel_rfl)]
  have e : ((⟨x0, x1⟩ : api_Field) == ⟨y0, y1⟩) = decide (x0 = y0 ∧ x1 = y1) := by
    show decide (_ = _) = _
    exact decide_eq_decide.2 (by simp)
  rw [e]
  simp only [Program.fieldsOf, Tryz.underlying54, Op.eqFields]
  simp [part, Tryz.isAgg9, Tryz.underlying9, run_equalIn_string, run_equalIn_bool', run_equalIn_int, zjp, Result.andThen, zkV]
  by_cases h0 : x0 = y0 <;> by_cases h1 : x1 = y1 <;> simp [h0, h1]
theorem eq_54 (x y : api_Field) (w : World) : (Op.equalIn 10000 54 (.agg #[str x.Name, str x.Value]) (.agg #[str y.Name, str y.Value])).run Tryz.prog w = .ok (x == y) w := eqd_54 9998 x y w
theorem eqd_87 (d : Nat) (x y : api_Host) (w : World) : (Op.equalIn (d + 2) 87 (.agg #[int x.Kind, str x.Name, int x.Port]) (.agg #[int y.Kind, str y.Name, int y.Port])).run Tryz.prog w = .ok (x == y) w := by
  obtain ⟨x0, x1, x2⟩ := x
  obtain ⟨y0, y1, y2⟩ := y
  show (Op.equalIn (d + 1 + 1) 87 _ _).run _ _ = _
  rw [run_equalIn_struct w (d + 1) 87 _ _ (by kernel_rfl) (by kernel_rfl)]
  have e : ((⟨x0, x1, x2⟩ : api_Host) == ⟨y0, y1, y2⟩) = decide (x0 = y0 ∧ x1 = y1 ∧ x2 = y2) := by
    show decide (_ = _) = _
    exact decide_eq_decide.2 (by simp)
  rw [e]
  simp only [Program.fieldsOf, Tryz.underlying87, Op.eqFields]
  simp [part, Tryz.isAgg3, Tryz.underlying3, Tryz.isAgg9, Tryz.underlying9, Tryz.isAgg85, Tryz.underlying85, run_equalIn_string, run_equalIn_bool', run_equalIn_int, zjp, Result.andThen, zkV]
  by_cases h0 : x0 = y0 <;> by_cases h1 : x1 = y1 <;> by_cases h2 : x2 = y2 <;> simp [h0, h1, h2]
theorem eq_87 (x y : api_Host) (w : World) : (Op.equalIn 10000 87 (.agg #[int x.Kind, str x.Name, int x.Port]) (.agg #[int y.Kind, str y.Name, int y.Port])).run Tryz.prog w = .ok (x == y) w := eqd_87 9998 x y w
theorem zkL : ∀ b o w, (Instr.fieldAt 107 (ptr b o) 0).run Tryz.prog w = .ok (ptr b (o + 0)) w := fun b o w => by kernel_rfl
theorem zst : ∀ b o w, (Instr.fieldAt 112 (ptr b o) 0).run Tryz.prog w = .ok (ptr b (o + 0)) w := fun b o w => by kernel_rfl
theorem zwb : ∀ b o w, (Instr.fieldAt 112 (ptr b o) 1).run Tryz.prog w = .ok (ptr b (o + 1)) w := fun b o w => by kernel_rfl
theorem zwc : ∀ b o w, (Instr.fieldAt 117 (ptr b o) 0).run Tryz.prog w = .ok (ptr b (o + 0)) w := fun b o w => by kernel_rfl
theorem zwd : ∀ b o w, (Instr.fieldAt 117 (ptr b o) 1).run Tryz.prog w = .ok (ptr b (o + 1)) w := fun b o w => by kernel_rfl
theorem zsu : ∀ b o w, (Instr.fieldAt 117 (ptr b o) 2).run Tryz.prog w = .ok (ptr b (o + 2)) w := fun b o w => by kernel_rfl
theorem zsv : ∀ b o w, (Instr.fieldAt 117 (ptr b o) 3).run Tryz.prog w = .ok (ptr b (o + 3)) w := fun b o w => by kernel_rfl
theorem zwe : ∀ b o w, (Instr.fieldAt 120 (ptr b o) 0).run Tryz.prog w = .ok (ptr b (o + 0)) w := fun b o w => by kernel_rfl
theorem zmC : ∀ b o w, (Instr.fieldAt 148 (ptr b o) 0).run Tryz.prog w = .ok (ptr b (o + 0)) w := fun b o w => by kernel_rfl
theorem zmD : ∀ b o w, (Instr.fieldAt 148 (ptr b o) 1).run Tryz.prog w = .ok (ptr b (o + 1)) w := fun b o w => by kernel_rfl
theorem zwf : ∀ b o w, (Instr.fieldAt 157 (ptr b o) 0).run Tryz.prog w = .ok (ptr b (o + 0)) w := fun b o w => by kernel_rfl
theorem zwg : ∀ b o w, (Instr.fieldAt 183 (ptr b o) 0).run Tryz.prog w = .ok (ptr b (o + 0)) w := fun b o w => by kernel_rfl
theorem zwh : ∀ b o w, (Instr.fieldAt 183 (ptr b o) 1).run Tryz.prog w = .ok (ptr b (o + 1)) w := fun b o w => by kernel_rfl
theorem zwi : ∀ b o w, (Instr.fieldAt 183 (ptr b o) 2).run Tryz.prog w = .ok (ptr b (o + 2)) w := fun b o w => by kernel_rfl
theorem zwj : ∀ b o w, (Instr.fieldAt 201 (ptr b o) 0).run Tryz.prog w = .ok (ptr b (o + 0)) w := fun b o w => by kernel_rfl
theorem zwk : ∀ b o w, (Instr.fieldAt 201 (ptr b o) 1).run Tryz.prog w = .ok (ptr b (o + 1)) w := fun b o w => by kernel_rfl
theorem zsw : ∀ b o w, (Instr.fieldAt 219 (ptr b o) 0).run Tryz.prog w = .ok (ptr b (o + 0)) w := fun b o w => by kernel_rfl
theorem zwl : ∀ b o w, (Instr.fieldAt 219 (ptr b o) 1).run Tryz.prog w = .ok (ptr b (o + 1)) w := fun b o w => by kernel_rfl
theorem zwm : ∀ b o w, (Instr.fieldAt 219 (ptr b o) 2).run Tryz.prog w = .ok (ptr b (o + 2)) w := fun b o w => by kernel_rfl
theorem zwn : ∀ b o w, (Instr.fieldAt 219 (ptr b o) 3).run Tryz.prog w = .ok (ptr b (o + 3)) w := fun b o w => by kernel_rfl
theorem zsx : ∀ b o w, (Instr.fieldAt 219 (ptr b o) 4).run Tryz.prog w = .ok (ptr b (o + 4)) w := fun b o w => by kernel_rfl
theorem zwo : ∀ b o w, (Instr.fieldAt 219 (ptr b o) 5).run Tryz.prog w = .ok (ptr b (o + 5)) w := fun b o w => by kernel_rfl
theorem zwp : ∀ b o w, (Instr.fieldAt 219 (ptr b o) 6).run Tryz.prog w = .ok (ptr b (o + 6)) w := fun b o w => by kernel_rfl
theorem zsy : ∀ b o w, (Instr.fieldAt 219 (ptr b o) 7).run Tryz.prog w = .ok (ptr b (o + 7)) w := fun b o w => by kernel_rfl
theorem zwq : ∀ b o w, (Instr.fieldAt 223 (ptr b o) 0).run Tryz.prog w = .ok (ptr b (o + 0)) w := fun b o w => by kernel_rfl
theorem zkM : ∀ b o w, (Instr.fieldAt 223 (ptr b o) 1).run Tryz.prog w = .ok (ptr b (o + 1)) w := fun b o w => by kernel_rfl
theorem zwr : ∀ b o w, (Instr.fieldAt 223 (ptr b o) 2).run Tryz.prog w = .ok (ptr b (o + 2)) w := fun b o w => by kernel_rfl
theorem zw6 : ∀ b o w, (Instr.fieldAt 24 (ptr b o) 0).run Tryz.prog w = .ok (ptr b (o + 0)) w := fun b o w => by kernel_rfl
theorem ztZ : ∀ b o w, (Instr.fieldAt 24 (ptr b o) 1).run Tryz.prog w = .ok (ptr b (o + 1)) w := fun b o w => by kernel_rfl
theorem zw7 : ∀ b o w, (Instr.fieldAt 24 (ptr b o) 2).run Tryz.prog w = .ok (ptr b (o + 2)) w := fun b o w => by kernel_rfl
theorem zrf : ∀ b o w, (Instr.fieldAt 24 (ptr b o) 3).run Tryz.prog w = .ok (ptr b (o + 3)) w := fun b o w => by kernel_rfl
theorem zoe : ∀ b o w, (Instr.fieldAt 24 (ptr b o) 4).run Tryz.prog w = .ok (ptr b (o + 4)) w := fun b o w => by kernel_rfl
theorem zof : ∀ b o w, (Instr.fieldAt 24 (ptr b o) 5).run Tryz.prog w = .ok (ptr b (o + 5)) w := fun b o w => by kernel_rfl
theorem zw8 : ∀ b o w, (Instr.fieldAt 28 (ptr b o) 0).run Tryz.prog w = .ok (ptr b (o + 0)) w := fun b o w => by kernel_rfl
theorem zw9 : ∀ b o w, (Instr.fieldAt 28 (ptr b o) 1).run Tryz.prog w = .ok (ptr b (o + 1)) w := fun b o w => by kernel_rfl
theorem zxa : ∀ b o w, (Instr.fieldAt 28 (ptr b o) 2).run Tryz.prog w = .ok (ptr b (o + 2)) w := fun b o w => by kernel_rfl
theorem zxb : ∀ b o w, (Instr.fieldAt 28 (ptr b o) 3).run Tryz.prog w = .ok (ptr b (o + 3)) w := fun b o w => by kernel_rfl
theorem zxc : ∀ b o w, (Instr.fieldAt 28 (ptr b o) 4).run Tryz.prog w = .ok (ptr b (o + 4)) w := fun b o w => by kernel_rfl
theorem zxd : ∀ b o w, (Instr.fieldAt 28 (ptr b o) 5).run Tryz.prog w = .ok (ptr b (o + 5)) w := fun b o w => by kernel_rfl
theorem zmE : ∀ b o w, (Instr.fieldAt 28 (ptr b o) 6).run Tryz.prog w = .ok (ptr b (o + 6)) w := fun b o w => by kernel_rfl
theorem zxe : ∀ b o w, (Instr.fieldAt 46 (ptr b o) 0).run Tryz.prog w = .ok (ptr b (o + 0)) w := fun b o w => by kernel_rfl
theorem zxf : ∀ b o w, (Instr.fieldAt 46 (ptr b o) 1).run Tryz.prog w = .ok (ptr b (o + 1)) w := fun b o w => by kernel_rfl
theorem zt0 : ∀ b o w, (Instr.fieldAt 46 (ptr b o) 2).run Tryz.prog w = .ok (ptr b (o + 2)) w := fun b o w => by kernel_rfl
theorem zxg : ∀ b o w, (Instr.fieldAt 46 (ptr b o) 3).run Tryz.prog w = .ok (ptr b (o + 3)) w := fun b o w => by kernel_rfl
theorem zt1 : ∀ b o w, (Instr.fieldAt 54 (ptr b o) 0).run Tryz.prog w = .ok (ptr b (o + 0)) w := fun b o w => by kernel_rfl
theorem zog : ∀ b o w, (Instr.fieldAt 54 (ptr b o) 1).run Tryz.prog w = .ok (ptr b (o + 1)) w := fun b o w => by kernel_rfl
theorem zoh : ∀ b o w, (Instr.fieldAt 66 (ptr b o) 0).run Tryz.prog w = .ok (ptr b (o + 0)) w := fun b o w => by kernel_rfl
theorem zxh : ∀ b o w, (Instr.fieldAt 66 (ptr b o) 1).run Tryz.prog w = .ok (ptr b (o + 1)) w := fun b o w => by kernel_rfl
theorem zrg : ∀ b o w, (Instr.fieldAt 87 (ptr b o) 0).run Tryz.prog w = .ok (ptr b (o + 0)) w := fun b o w => by kernel_rfl
theorem zt2 : ∀ b o w, (Instr.fieldAt 87 (ptr b o) 1).run Tryz.prog w = .ok (ptr b (o + 1)) w := fun b o w => by kernel_rfl
theorem zxi : ∀ b o w, (Instr.fieldAt 87 (ptr b o) 2).run Tryz.prog w = .ok (ptr b (o + 2)) w := fun b o w => by kernel_rfl
theorem zxj : ∀ b o w, (Instr.fieldAt 89 (ptr b o) 0).run Tryz.prog w = .ok (ptr b (o + 0)) w := fun b o w => by kernel_rfl
theorem zxk : ∀ b o w, (Instr.fieldAt 89 (ptr b o) 1).run Tryz.prog w = .ok (ptr b (o + 1)) w := fun b o w => by kernel_rfl
theorem zxl : ∀ b o w, (Instr.fieldAt 89 (ptr b o) 2).run Tryz.prog w = .ok (ptr b (o + 2)) w := fun b o w => by kernel_rfl
theorem zxm : ∀ b o w, (Instr.fieldAt 89 (ptr b o) 3).run Tryz.prog w = .ok (ptr b (o + 5)) w := fun b o w => by kernel_rfl
theorem zxn : ∀ b o w, (Instr.fieldAt 89 (ptr b o) 4).run Tryz.prog w = .ok (ptr b (o + 6)) w := fun b o w => by kernel_rfl
theorem zxo : ∀ b o w, (Instr.fieldAt 89 (ptr b o) 5).run Tryz.prog w = .ok (ptr b (o + 7)) w := fun b o w => by kernel_rfl
theorem zk3 : ∀ b o w, (Instr.fieldAt 98 (ptr b o) 0).run Tryz.prog w = .ok (ptr b (o + 0)) w := fun b o w => by kernel_rfl
theorem zk4 : ∀ b o w, (Instr.fieldAt 98 (ptr b o) 1).run Tryz.prog w = .ok (ptr b (o + 1)) w := fun b o w => by kernel_rfl
theorem zxp : ∀ (b : Nat) (w : World), (Instr.indexAt 96 (ptr b 0) (int 0)).run Tryz.prog w = .ok (ptr b 0) w := fun b w => by kernel_rfl
theorem zxq : ∀ (b : Nat) (w : World), (Instr.indexAt 96 (ptr b 0) (int 1)).run Tryz.prog w = .ok (ptr b 1) w := fun b w => by kernel_rfl
theorem zxr : ∀ (b : Nat) (w : World), (Instr.indexAt 96 (ptr b 0) (int 2)).run Tryz.prog w = .ok (ptr b 2) w := fun b w => by kernel_rfl
theorem zxs : ∀ (b : Nat) (w : World), (Instr.indexAt 96 (ptr b 0) (int 3)).run Tryz.prog w = .ok (ptr b 3) w := fun b w => by kernel_rfl
theorem ziW : zaU Tryz.prog 112 = some 2 := by kernel_rfl
theorem sz_120 : zaU Tryz.prog 120 = some 1 := by kernel_rfl
theorem sz_157 : zaU Tryz.prog 157 = some 1 := by kernel_rfl
theorem sz_178 : zaU Tryz.prog 178 = some 1 := by kernel_rfl
theorem sz_181 : zaU Tryz.prog 181 = some 1 := by kernel_rfl
theorem zpf : zaU Tryz.prog 183 = some 3 := by kernel_rfl
theorem zrh : zaU Tryz.prog 219 = some 8 := by kernel_rfl
theorem zws : zaU Tryz.prog 22 = some 1 := by kernel_rfl
theorem za3 : zaU Tryz.prog 223 = some 3 := by kernel_rfl
theorem zjV : zaU Tryz.prog 24 = some 6 := by kernel_rfl
theorem sz_26 : zaU Tryz.prog 26 = some 1 := by kernel_rfl
theorem ze4 : zaU Tryz.prog 28 = some 7 := by kernel_rfl
theorem sz_3 : zaU Tryz.prog 3 = some 1 := by kernel_rfl
theorem sz_4 : zaU Tryz.prog 4 = some 1 := by kernel_rfl
theorem sz_42 : zaU Tryz.prog 42 = some 1 := by kernel_rfl
theorem zmF : zaU Tryz.prog 46 = some 4 := by kernel_rfl
theorem zcc : zaU Tryz.prog 54 = some 2 := by kernel_rfl
theorem sz_63 : zaU Tryz.prog 63 = some 1 := by kernel_rfl
theorem sz_85 : zaU Tryz.prog 85 = some 1 := by kernel_rfl
theorem zmG : zaU Tryz.prog 87 = some 3 := by kernel_rfl
theorem zhk : zaU Tryz.prog 89 = some 8 := by kernel_rfl
theorem zfZ : zaU Tryz.prog 9 = some 1 := by kernel_rfl
theorem sz_96 : zaU Tryz.prog 96 = some 4 := by kernel_rfl
theorem zeH : zaU Tryz.prog 98 = some 2 := by kernel_rfl
theorem zw_54 : ∀ w, (zeroValue 54).run Tryz.prog w = .ok (.agg #[str [], str []]) w := fun w => by kernel_rfl
def tb : Tab := ⟨[(9, .string), (22, .slice 98), (26, .slice 54), (39, .slice 46), (42, .slice 9), (47, .slice 73), (73, .slice 112), (181, .slice 223)], [(24, 0, 0), (24, 1, 1), (24, 2, 2), (24, 3, 3), (24, 4, 4), (24, 5, 5), (28, 0, 0), (28, 1, 1), (28, 2, 2), (28, 3, 3), (28, 4, 4), (28, 5, 5), (28, 6, 6), (46, 0, 0), (46, 1, 1), (46, 2, 2), (46, 3, 3), (54, 0, 0), (54, 1, 1), (66, 0, 0), (66, 1, 1), (87, 0, 0), (87, 1, 1), (87, 2, 2), (89, 0, 0), (89, 1, 1), (89, 2, 2), (89, 3, 5), (89, 4, 6), (89, 5, 7), (98, 0, 0), (98, 1, 1), (107, 0, 0), (112, 0, 0), (112, 1, 1), (117, 0, 0), (117, 1, 1), (117, 2, 2), (117, 3, 3), (120, 0, 0), (148, 0, 0), (148, 1, 1), (157, 0, 0), (183, 0, 0), (183, 1, 1), (183, 2, 2), (201, 0, 0), (201, 1, 1), (219, 0, 0), (219, 1, 1), (219, 2, 2), (219, 3, 3), (219, 4, 4), (219, 5, 5), (219, 6, 6), (219, 7, 7), (223, 0, 0), (223, 1, 1), (223, 2, 2)], [(3, false), (4, false), (9, false), (22, false), (24, true), (25, false), (26, false), (28, true), (42, false), (46, true), (54, true), (63, false), (84, false), (85, false), (87, true), (89, true), (112, true), (114, false), (120, true), (157, true), (178, false), (181, false), (183, true), (219, true), (223, true)], [(3, 1), (4, 1), (9, 1), (22, 1), (24, 6), (26, 1), (28, 7), (42, 1), (46, 4), (54, 2), (85, 1), (87, 3), (89, 8), (96, 4), (98, 2), (112, 2), (120, 1), (157, 1), (178, 1), (181, 1), (183, 3), (219, 8), (223, 3)]⟩
instance : TabOk Tryz.prog tb := ⟨zkk ⟨Tryz.underlying9, ⟨Tryz.underlying22, ⟨Tryz.underlying26, ⟨Tryz.underlying39, ⟨Tryz.underlying42, ⟨Tryz.underlying47, ⟨Tryz.underlying73, ⟨Tryz.underlying181, trivial⟩⟩⟩⟩⟩⟩⟩⟩, zkk ⟨zw6, ⟨ztZ, ⟨zw7, ⟨zrf, ⟨zoe, ⟨zof, ⟨zw8, ⟨zw9, ⟨zxa, ⟨zxb, ⟨zxc, ⟨zxd, ⟨zmE, ⟨zxe, ⟨zxf, ⟨zt0, ⟨zxg, ⟨zt1, ⟨zog, ⟨zoh, ⟨zxh, ⟨zrg, ⟨zt2, ⟨zxi, ⟨zxj, ⟨zxk, ⟨zxl, ⟨zxm, ⟨zxn, ⟨zxo, ⟨zk3, ⟨zk4, ⟨zkL, ⟨zst, ⟨zwb, ⟨zwc, ⟨zwd, ⟨zsu, ⟨zsv, ⟨zwe, ⟨zmC, ⟨zmD, ⟨zwf, ⟨zwg, ⟨zwh, ⟨zwi, ⟨zwj, ⟨zwk, ⟨zsw, ⟨zwl, ⟨zwm, ⟨zwn, ⟨zsx, ⟨zwo, ⟨zwp, ⟨zsy, ⟨zwq, ⟨zkM, ⟨zwr, trivial⟩⟩⟩⟩⟩⟩⟩⟩⟩⟩⟩⟩⟩⟩⟩⟩⟩⟩⟩⟩⟩⟩⟩⟩⟩⟩⟩⟩⟩⟩⟩⟩⟩⟩⟩⟩⟩⟩⟩⟩⟩⟩⟩⟩⟩⟩⟩⟩⟩⟩⟩⟩⟩⟩⟩⟩⟩⟩⟩, zkk ⟨ag_3, ⟨ag_4, ⟨z7, ⟨zgz, ⟨zkK, ⟨ag_25, ⟨zdi, ⟨zfi, ⟨ag_42, ⟨zsq, ⟨ziD, ⟨znI, ⟨ag_84, ⟨zv7, ⟨znJ, ⟨zhC, ⟨zni, ⟨ag_114, ⟨ag_120, ⟨ag_157, ⟨ag_178, ⟨ag_181, ⟨zpb, ⟨zrd, ⟨zcW, trivial⟩⟩⟩⟩⟩⟩⟩⟩⟩⟩⟩⟩⟩⟩⟩⟩⟩⟩⟩⟩⟩⟩⟩⟩⟩, zkk ⟨sz_3, ⟨sz_4, ⟨zfZ, ⟨zws, ⟨zjV, ⟨sz_26, ⟨ze4, ⟨sz_42, ⟨zmF, ⟨zcc, ⟨sz_85, ⟨zmG, ⟨zhk, ⟨sz_96, ⟨zeH, ⟨ziW, ⟨sz_120, ⟨sz_157, ⟨sz_178, ⟨sz_181, ⟨zpf, ⟨zrh, ⟨za3, trivial⟩⟩⟩⟩⟩⟩⟩⟩⟩⟩⟩⟩⟩⟩⟩⟩⟩⟩⟩⟩⟩⟩⟩⟩
theorem c_5 : zd Tryz.prog 5 := ⟨Tryz.f5, Tryz.func5, rfl, by kernel_rfl⟩
theorem c_6 : zd Tryz.prog 6 := ⟨Tryz.f6, Tryz.func6, rfl, by kernel_rfl⟩
theorem c_7 : zd Tryz.prog 7 := ⟨Tryz.f7, Tryz.func7, rfl, by kernel_rfl⟩
theorem c_8 : zd Tryz.prog 8 := ⟨Tryz.f8, Tryz.func8, rfl, by kernel_rfl⟩
theorem c_10 : zd Tryz.prog 10 := ⟨Tryz.f10, Tryz.func10, rfl, by kernel_rfl⟩
theorem c_11 : zd Tryz.prog 11 := ⟨Tryz.f11, Tryz.func11, rfl, by kernel_rfl⟩
theorem ztv : zd Tryz.prog 12 := ⟨Tryz.f12, Tryz.func12, rfl, by kernel_rfl⟩
theorem c_13 : zd Tryz.prog 13 := ⟨Tryz.f13, Tryz.func13, rfl, by kernel_rfl⟩
theorem c_14 : zd Tryz.prog 14 := ⟨Tryz.f14, Tryz.func14, rfl, by kernel_rfl⟩
theorem c_15 : zd Tryz.prog 15 := ⟨Tryz.f15, Tryz.func15, rfl, by kernel_rfl⟩
theorem c_16 : zd Tryz.prog 16 := ⟨Tryz.f16, Tryz.func16, rfl, by kernel_rfl⟩
theorem c_17 : zd Tryz.prog 17 := ⟨Tryz.f17, Tryz.func17, rfl, by kernel_rfl⟩
theorem c_18 : zd Tryz.prog 18 := ⟨Tryz.f18, Tryz.func18, rfl, by kernel_rfl⟩
theorem c_19 : zd Tryz.prog 19 := ⟨Tryz.f19, Tryz.func19, rfl, by kernel_rfl⟩
theorem c_20 : zd Tryz.prog 20 := ⟨Tryz.f20, Tryz.func20, rfl, by kernel_rfl⟩
theorem c_21 : zd Tryz.prog 21 := ⟨Tryz.f21, Tryz.func21, rfl, by kernel_rfl⟩
theorem c_22 : zd Tryz.prog 22 := ⟨Tryz.f22, Tryz.func22, rfl, by kernel_rfl⟩
theorem c_23 : zd Tryz.prog 23 := ⟨Tryz.f23, Tryz.func23, rfl, by kernel_rfl⟩
theorem zsz : zd Tryz.prog 24 := ⟨Tryz.f24, Tryz.func24, rfl, by kernel_rfl⟩
theorem c_25 : zd Tryz.prog 25 := ⟨Tryz.f25, Tryz.func25, rfl, by kernel_rfl⟩
theorem c_31 : zd Tryz.prog 31 := ⟨Tryz.f31, Tryz.func31, rfl, by kernel_rfl⟩
theorem c_32 : zd Tryz.prog 32 := ⟨Tryz.f32, Tryz.func32, rfl, by kernel_rfl⟩
theorem c_33 : zd Tryz.prog 33 := ⟨Tryz.f33, Tryz.func33, rfl, by kernel_rfl⟩
theorem c_34 : zd Tryz.prog 34 := ⟨Tryz.f34, Tryz.func34, rfl, by kernel_rfl⟩
theorem c_35 : zd Tryz.prog 35 := ⟨Tryz.f35, Tryz.func35, rfl, by kernel_rfl⟩
theorem c_36 : zd Tryz.prog 36 := ⟨Tryz.f36, Tryz.func36, rfl, by kernel_rfl⟩
theorem c_37 : zd Tryz.prog 37 := ⟨Tryz.f37, Tryz.func37, rfl, by kernel_rfl⟩
theorem c_38 : zd Tryz.prog 38 := ⟨Tryz.f38, Tryz.func38, rfl, by kernel_rfl⟩
theorem c_39 : zd Tryz.prog 39 := ⟨Tryz.f39, Tryz.func39, rfl, by kernel_rfl⟩
theorem c_40 : zd Tryz.prog 40 := ⟨Tryz.f40, Tryz.func40, rfl, by kernel_rfl⟩
theorem c_41 : zd Tryz.prog 41 := ⟨Tryz.f41, Tryz.func41, rfl, by kernel_rfl⟩
theorem c_42 : zd Tryz.prog 42 := ⟨Tryz.f42, Tryz.func42, rfl, by kernel_rfl⟩
theorem ztw : zd Tryz.prog 43 := ⟨Tryz.f43, Tryz.func43, rfl, by kernel_rfl⟩
theorem c_44 : zd Tryz.prog 44 := ⟨Tryz.f44, Tryz.func44, rfl, by kernel_rfl⟩
theorem c_45 : zd Tryz.prog 45 := ⟨Tryz.f45, Tryz.func45, rfl, by kernel_rfl⟩
theorem c_46 : zd Tryz.prog 46 := ⟨Tryz.f46, Tryz.func46, rfl, by kernel_rfl⟩
theorem c_47 : zd Tryz.prog 47 := ⟨Tryz.f47, Tryz.func47, rfl, by kernel_rfl⟩
theorem c_48 : zd Tryz.prog 48 := ⟨Tryz.f48, Tryz.func48, rfl, by kernel_rfl⟩
theorem c_49 : zd Tryz.prog 49 := ⟨Tryz.f49, Tryz.func49, rfl, by kernel_rfl⟩
theorem c_50 : zd Tryz.prog 50 := ⟨Tryz.f50, Tryz.func50, rfl, by kernel_rfl⟩
theorem c_51 : zd Tryz.prog 51 := ⟨Tryz.f51, Tryz.func51, rfl, by kernel_rfl⟩
theorem c_58 : zd Tryz.prog 58 := ⟨Tryz.f58, Tryz.func58, rfl, by kernel_rfl⟩
theorem ztx : zd Tryz.prog 59 := ⟨Tryz.f59, Tryz.func59, rfl, by kernel_rfl⟩
theorem c_60 : zd Tryz.prog 60 := ⟨Tryz.f60, Tryz.func60, rfl, by kernel_rfl⟩
theorem c_61 : zd Tryz.prog 61 := ⟨Tryz.f61, Tryz.func61, rfl, by kernel_rfl⟩
theorem c_62 : zd Tryz.prog 62 := ⟨Tryz.f62, Tryz.func62, rfl, by kernel_rfl⟩
theorem zmH : zd Tryz.prog 63 := ⟨Tryz.f63, Tryz.func63, rfl, by kernel_rfl⟩
theorem c_64 : zd Tryz.prog 64 := ⟨Tryz.f64, Tryz.func64, rfl, by kernel_rfl⟩
theorem c_65 : zd Tryz.prog 65 := ⟨Tryz.f65, Tryz.func65, rfl, by kernel_rfl⟩
theorem c_66 : zd Tryz.prog 66 := ⟨Tryz.f66, Tryz.func66, rfl, by kernel_rfl⟩
theorem c_67 : zd Tryz.prog 67 := ⟨Tryz.f67, Tryz.func67, rfl, by kernel_rfl⟩
theorem c_68 : zd Tryz.prog 68 := ⟨Tryz.f68, Tryz.func68, rfl, by kernel_rfl⟩
theorem c_69 : zd Tryz.prog 69 := ⟨Tryz.f69, Tryz.func69, rfl, by kernel_rfl⟩
theorem c_70 : zd Tryz.prog 70 := ⟨Tryz.f70, Tryz.func70, rfl, by kernel_rfl⟩
theorem c_71 : zd Tryz.prog 71 := ⟨Tryz.f71, Tryz.func71, rfl, by kernel_rfl⟩
theorem zp0 : zd Tryz.prog 72 := ⟨Tryz.f72, Tryz.func72, rfl, by kernel_rfl⟩
theorem c_73 : zd Tryz.prog 73 := ⟨Tryz.f73, Tryz.func73, rfl, by kernel_rfl⟩
theorem c_74 : zd Tryz.prog 74 := ⟨Tryz.f74, Tryz.func74, rfl, by kernel_rfl⟩
theorem c_75 : zd Tryz.prog 75 := ⟨Tryz.f75, Tryz.func75, rfl, by kernel_rfl⟩
theorem c_76 : zd Tryz.prog 76 := ⟨Tryz.f76, Tryz.func76, rfl, by kernel_rfl⟩
theorem c_77 : zd Tryz.prog 77 := ⟨Tryz.f77, Tryz.func77, rfl, by kernel_rfl⟩
theorem c_78 : zd Tryz.prog 78 := ⟨Tryz.f78, Tryz.func78, rfl, by kernel_rfl⟩
theorem c_79 : zd Tryz.prog 79 := ⟨Tryz.f79, Tryz.func79, rfl, by kernel_rfl⟩
theorem c_80 : zd Tryz.prog 80 := ⟨Tryz.f80, Tryz.func80, rfl, by kernel_rfl⟩
theorem c_81 : zd Tryz.prog 81 := ⟨Tryz.f81, Tryz.func81, rfl, by kernel_rfl⟩
theorem c_82 : zd Tryz.prog 82 := ⟨Tryz.f82, Tryz.func82, rfl, by kernel_rfl⟩
theorem zty : zd Tryz.prog 83 := ⟨Tryz.f83, Tryz.func83, rfl, by kernel_rfl⟩
theorem c_84 : zd Tryz.prog 84 := ⟨Tryz.f84, Tryz.func84, rfl, by kernel_rfl⟩
theorem c_85 : zd Tryz.prog 85 := ⟨Tryz.f85, Tryz.func85, rfl, by kernel_rfl⟩
theorem c_86 : zd Tryz.prog 86 := ⟨Tryz.f86, Tryz.func86, rfl, by kernel_rfl⟩
theorem c_87 : zd Tryz.prog 87 := ⟨Tryz.f87, Tryz.func87, rfl, by kernel_rfl⟩
theorem c_88 : zd Tryz.prog 88 := ⟨Tryz.f88, Tryz.func88, rfl, by kernel_rfl⟩
theorem c_89 : zd Tryz.prog 89 := ⟨Tryz.f89, Tryz.func89, rfl, by kernel_rfl⟩
theorem c_90 : zd Tryz.prog 90 := ⟨Tryz.f90, Tryz.func90, rfl, by kernel_rfl⟩
theorem c_91 : zd Tryz.prog 91 := ⟨Tryz.f91, Tryz.func91, rfl, by kernel_rfl⟩
theorem c_92 : zd Tryz.prog 92 := ⟨Tryz.f92, Tryz.func92, rfl, by kernel_rfl⟩
theorem c_103 : zd Tryz.prog 103 := ⟨Tryz.f103, Tryz.func103, rfl, by kernel_rfl⟩
theorem zsA : zd Tryz.prog 104 := ⟨Tryz.f104, Tryz.func104, rfl, by kernel_rfl⟩
theorem c_105 : zd Tryz.prog 105 := ⟨Tryz.f105, Tryz.func105, rfl, by kernel_rfl⟩
theorem zqw : zd Tryz.prog 106 := ⟨Tryz.f106, Tryz.func106, rfl, by kernel_rfl⟩
theorem c_107 : zd Tryz.prog 107 := ⟨Tryz.f107, Tryz.func107, rfl, by kernel_rfl⟩
theorem zt3 : zd Tryz.prog 108 := ⟨Tryz.f108, Tryz.func108, rfl, by kernel_rfl⟩
theorem zsB : zd Tryz.prog 109 := ⟨Tryz.f109, Tryz.func109, rfl, by kernel_rfl⟩
theorem zt4 : zd Tryz.prog 110 := ⟨Tryz.f110, Tryz.func110, rfl, by kernel_rfl⟩
theorem c_111 : zd Tryz.prog 111 := ⟨Tryz.f111, Tryz.func111, rfl, by kernel_rfl⟩
theorem c_112 : zd Tryz.prog 112 := ⟨Tryz.f112, Tryz.func112, rfl, by kernel_rfl⟩
theorem c_113 : zd Tryz.prog 113 := ⟨Tryz.f113, Tryz.func113, rfl, by kernel_rfl⟩
theorem c_114 : zd Tryz.prog 114 := ⟨Tryz.f114, Tryz.func114, rfl, by kernel_rfl⟩
theorem c_115 : zd Tryz.prog 115 := ⟨Tryz.f115, Tryz.func115, rfl, by kernel_rfl⟩
theorem c_116 : zd Tryz.prog 116 := ⟨Tryz.f116, Tryz.func116, rfl, by kernel_rfl⟩
theorem c_117 : zd Tryz.prog 117 := ⟨Tryz.f117, Tryz.func117, rfl, by kernel_rfl⟩
theorem zwv : zd Tryz.prog 118 := ⟨Tryz.f118, Tryz.func118, rfl, by kernel_rfl⟩
theorem zww : zd Tryz.prog 119 := ⟨Tryz.f119, Tryz.func119, rfl, by kernel_rfl⟩
theorem c_120 : zd Tryz.prog 120 := ⟨Tryz.f120, Tryz.func120, rfl, by kernel_rfl⟩
theorem c_121 : zd Tryz.prog 121 := ⟨Tryz.f121, Tryz.func121, rfl, by kernel_rfl⟩
theorem c_122 : zd Tryz.prog 122 := ⟨Tryz.f122, Tryz.func122, rfl, by kernel_rfl⟩
theorem c_123 : zd Tryz.prog 123 := ⟨Tryz.f123, Tryz.func123, rfl, by kernel_rfl⟩
theorem c_124 : zd Tryz.prog 124 := ⟨Tryz.f124, Tryz.func124, rfl, by kernel_rfl⟩
theorem c_125 : zd Tryz.prog 125 := ⟨Tryz.f125, Tryz.func125, rfl, by kernel_rfl⟩
theorem c_126 : zd Tryz.prog 126 := ⟨Tryz.f126, Tryz.func126, rfl, by kernel_rfl⟩
theorem c_127 : zd Tryz.prog 127 := ⟨Tryz.f127, Tryz.func127, rfl, by kernel_rfl⟩
theorem c_128 : zd Tryz.prog 128 := ⟨Tryz.f128, Tryz.func128, rfl, by kernel_rfl⟩
theorem c_129 : zd Tryz.prog 129 := ⟨Tryz.f129, Tryz.func129, rfl, by kernel_rfl⟩
theorem zsC : zd Tryz.prog 130 := ⟨Tryz.f130, Tryz.func130, rfl, by kernel_rfl⟩
theorem c_131 : zd Tryz.prog 131 := ⟨Tryz.f131, Tryz.func131, rfl, by kernel_rfl⟩
theorem c_132 : zd Tryz.prog 132 := ⟨Tryz.f132, Tryz.func132, rfl, by kernel_rfl⟩
theorem c_133 : zd Tryz.prog 133 := ⟨Tryz.f133, Tryz.func133, rfl, by kernel_rfl⟩
theorem c_134 : zd Tryz.prog 134 := ⟨Tryz.f134, Tryz.func134, rfl, by kernel_rfl⟩
theorem c_135 : zd Tryz.prog 135 := ⟨Tryz.f135, Tryz.func135, rfl, by kernel_rfl⟩
theorem zsD : zd Tryz.prog 136 := ⟨Tryz.f136, Tryz.func136, rfl, by kernel_rfl⟩
theorem c_137 : zd Tryz.prog 137 := ⟨Tryz.f137, Tryz.func137, rfl, by kernel_rfl⟩
theorem c_138 : zd Tryz.prog 138 := ⟨Tryz.f138, Tryz.func138, rfl, by kernel_rfl⟩
theorem c_139 : zd Tryz.prog 139 := ⟨Tryz.f139, Tryz.func139, rfl, by kernel_rfl⟩
theorem c_140 : zd Tryz.prog 140 := ⟨Tryz.f140, Tryz.func140, rfl, by kernel_rfl⟩
theorem c_141 : zd Tryz.prog 141 := ⟨Tryz.f141, Tryz.func141, rfl, by kernel_rfl⟩
theorem c_142 : zd Tryz.prog 142 := ⟨Tryz.f142, Tryz.func142, rfl, by kernel_rfl⟩
theorem c_143 : zd Tryz.prog 143 := ⟨Tryz.f143, Tryz.func143, rfl, by kernel_rfl⟩
theorem c_144 : zd Tryz.prog 144 := ⟨Tryz.f144, Tryz.func144, rfl, by kernel_rfl⟩
theorem c_145 : zd Tryz.prog 145 := ⟨Tryz.f145, Tryz.func145, rfl, by kernel_rfl⟩
theorem c_146 : zd Tryz.prog 146 := ⟨Tryz.f146, Tryz.func146, rfl, by kernel_rfl⟩
theorem c_148 : zd Tryz.prog 148 := ⟨Tryz.f148, Tryz.func148, rfl, by kernel_rfl⟩
theorem zjW : zd Tryz.prog 149 := ⟨Tryz.f149, Tryz.func149, rfl, by kernel_rfl⟩
theorem c_150 : zd Tryz.prog 150 := ⟨Tryz.f150, Tryz.func150, rfl, by kernel_rfl⟩
theorem c_158 : zd Tryz.prog 158 := ⟨Tryz.f158, Tryz.func158, rfl, by kernel_rfl⟩
theorem c_159 : zd Tryz.prog 159 := ⟨Tryz.f159, Tryz.func159, rfl, by kernel_rfl⟩
theorem zwx : zd Tryz.prog 167 := ⟨Tryz.f167, Tryz.func167, rfl, by kernel_rfl⟩
theorem zsE : zd Tryz.prog 168 := ⟨Tryz.f168, Tryz.func168, rfl, by kernel_rfl⟩
theorem c_169 : zd Tryz.prog 169 := ⟨Tryz.f169, Tryz.func169, rfl, by kernel_rfl⟩
theorem c_170 : zd Tryz.prog 170 := ⟨Tryz.f170, Tryz.func170, rfl, by kernel_rfl⟩
theorem zwy : zd Tryz.prog 171 := ⟨Tryz.f171, Tryz.func171, rfl, by kernel_rfl⟩
theorem c_172 : zd Tryz.prog 172 := ⟨Tryz.f172, Tryz.func172, rfl, by kernel_rfl⟩
theorem c_174 : zd Tryz.prog 174 := ⟨Tryz.f174, Tryz.func174, rfl, by kernel_rfl⟩
theorem zt5 : zd Tryz.prog 175 := ⟨Tryz.f175, Tryz.func175, rfl, by kernel_rfl⟩
theorem c_176 : zd Tryz.prog 176 := ⟨Tryz.f176, Tryz.func176, rfl, by kernel_rfl⟩
theorem c_177 : zd Tryz.prog 177 := ⟨Tryz.f177, Tryz.func177, rfl, by kernel_rfl⟩
theorem c_178 : zd Tryz.prog 178 := ⟨Tryz.f178, Tryz.func178, rfl, by kernel_rfl⟩
theorem zwz : zd Tryz.prog 179 := ⟨Tryz.f179, Tryz.func179, rfl, by kernel_rfl⟩
theorem c_180 : zd Tryz.prog 180 := ⟨Tryz.f180, Tryz.func180, rfl, by kernel_rfl⟩
theorem c_181 : zd Tryz.prog 181 := ⟨Tryz.f181, Tryz.func181, rfl, by kernel_rfl⟩
theorem zqx : zd Tryz.prog 182 := ⟨Tryz.f182, Tryz.func182, rfl, by kernel_rfl⟩
theorem c_183 : zd Tryz.prog 183 := ⟨Tryz.f183, Tryz.func183, rfl, by kernel_rfl⟩
theorem c_186 : zd Tryz.prog 186 := ⟨Tryz.f186, Tryz.func186, rfl, by kernel_rfl⟩
theorem zqy : zd Tryz.prog 187 := ⟨Tryz.f187, Tryz.func187, rfl, by kernel_rfl⟩
theorem c_188 : zd Tryz.prog 188 := ⟨Tryz.f188, Tryz.func188, rfl, by kernel_rfl⟩
theorem c_189 : zd Tryz.prog 189 := ⟨Tryz.f189, Tryz.func189, rfl, by kernel_rfl⟩
theorem c_190 : zd Tryz.prog 190 := ⟨Tryz.f190, Tryz.func190, rfl, by kernel_rfl⟩
theorem c_191 : zd Tryz.prog 191 := ⟨Tryz.f191, Tryz.func191, rfl, by kernel_rfl⟩
theorem c_192 : zd Tryz.prog 192 := ⟨Tryz.f192, Tryz.func192, rfl, by kernel_rfl⟩
theorem c_193 : zd Tryz.prog 193 := ⟨Tryz.f193, Tryz.func193, rfl, by kernel_rfl⟩
theorem c_194 : zd Tryz.prog 194 := ⟨Tryz.f194, Tryz.func194, rfl, by kernel_rfl⟩
theorem zt6 : zd Tryz.prog 202 := ⟨Tryz.f202, Tryz.func202, rfl, by kernel_rfl⟩
theorem zt7 : zd Tryz.prog 203 := ⟨Tryz.f203, Tryz.func203, rfl, by kernel_rfl⟩
theorem c_216 : zd Tryz.prog 216 := ⟨Tryz.f216, Tryz.func216, rfl, by kernel_rfl⟩
theorem c_217 : zd Tryz.prog 217 := ⟨Tryz.f217, Tryz.func217, rfl, by kernel_rfl⟩
theorem c_220 : zd Tryz.prog 220 := ⟨Tryz.f220, Tryz.func220, rfl, by kernel_rfl⟩
theorem c_221 : zd Tryz.prog 221 := ⟨Tryz.f221, Tryz.func221, rfl, by kernel_rfl⟩
theorem c_222 : zd Tryz.prog 222 := ⟨Tryz.f222, Tryz.func222, rfl, by kernel_rfl⟩
theorem c_223 : zd Tryz.prog 223 := ⟨Tryz.f223, Tryz.func223, rfl, by kernel_rfl⟩
theorem c_224 : zd Tryz.prog 224 := ⟨Tryz.f224, Tryz.func224, rfl, by kernel_rfl⟩
theorem c_225 : zd Tryz.prog 225 := ⟨Tryz.f225, Tryz.func225, rfl, by kernel_rfl⟩
theorem c_226 : zd Tryz.prog 226 := ⟨Tryz.f226, Tryz.func226, rfl, by kernel_rfl⟩
theorem c_229 : zd Tryz.prog 229 := ⟨Tryz.f229, Tryz.func229, rfl, by kernel_rfl⟩
theorem c_230 : zd Tryz.prog 230 := ⟨Tryz.f230, Tryz.func230, rfl, by kernel_rfl⟩
theorem c_231 : zd Tryz.prog 231 := ⟨Tryz.f231, Tryz.func231, rfl, by kernel_rfl⟩
theorem c_232 : zd Tryz.prog 232 := ⟨Tryz.f232, Tryz.func232, rfl, by kernel_rfl⟩
theorem c_233 : zd Tryz.prog 233 := ⟨Tryz.f233, Tryz.func233, rfl, by kernel_rfl⟩
theorem c_234 : zd Tryz.prog 234 := ⟨Tryz.f234, Tryz.func234, rfl, by kernel_rfl⟩
theorem c_254 : zd Tryz.prog 254 := ⟨Tryz.f254, Tryz.func254, rfl, by kernel_rfl⟩
theorem c_257 : zd Tryz.prog 257 := ⟨Tryz.f257, Tryz.func257, rfl, by kernel_rfl⟩
theorem zt8 : zd Tryz.prog 258 := ⟨Tryz.f258, Tryz.func258, rfl, by kernel_rfl⟩
theorem zt9 : zd Tryz.prog 259 := ⟨Tryz.f259, Tryz.func259, rfl, by kernel_rfl⟩
theorem c_260 : zd Tryz.prog 260 := ⟨Tryz.f260, Tryz.func260, rfl, by kernel_rfl⟩
theorem c_268 : zd Tryz.prog 268 := ⟨Tryz.f268, Tryz.func268, rfl, by kernel_rfl⟩
theorem c_269 : zd Tryz.prog 269 := ⟨Tryz.f269, Tryz.func269, rfl, by kernel_rfl⟩
end Go.Proofs
end
section
set_option linter.unusedVariables false
set_option linter.unusedSimpArgs false
namespace Go.Proofs
open Go.Dk Go.Dm Go.RowKit Go.Lib
theorem zrl (w : World) {P : Program} {o : Oper} {a : Act} {K : Act → World → Prop} {Q : Exit → Act → World → Prop} (d s : Operand) (t t' : TypeId)
    (ho : o.op = .call { callee := .builtin .copy, args := #[d, s], argTypes := #[t, t'] }) (v u : Value) (hd : a.eval d = v) (hs : a.eval s = u) {v' : Value} {w' : World}
    (hr : (Builtin.copy_ #[t, t'] o.type #[v, u]).run P w = .ok v' w') (h : K (a.put o.dst v') w') : o.wp P a w K Q := by
  unfold Oper.wp execOp
  simp only [ho, resolve, invoke, builtin, Sem.run_bind, Sem.run_pure, Result.andThen_ok, List.map_toArray, List.map_cons, List.map_nil, hd, hs, hr]
  exact h
theorem zjn (w : World) {P : Program} {ops : Array Oper} {rest : List Oper} {o : Oper} {a : Act} {Q : Exit → Act → World → Prop} (hgd : o.guard = none) (d s : Operand) (t t' : TypeId)
    (ho : o.op = .call { callee := .builtin .copy, args := #[d, s], argTypes := #[t, t'] }) (v u : Value) (hd : a.eval d = v) (hs : a.eval s = u) {v' : Value} {w' : World}
    (hr : (Builtin.copy_ #[t, t'] o.type #[v, u]).run P w = .ok v' w') (h : wpList P ops Q rest (a.put o.dst v') w') : wpList P ops Q (o :: rest) a w :=
  wpList_plain hgd fun _ hK => zrl w d s t t' ho v u hd hs hr (hK _ _ h)
theorem zkP {P : Program} {ops : Array Oper} {o : Oper} {a : Act} {w : World} {K : Act → World → Prop} {Q : Exit → Act → World → Prop} {E : Prop}
    (hg : o.guard = none) (d x : Operand) (dT sT : TypeId) (hop : o.op = Op.call { callee := Callee.builtin Builtin.copy, args := #[d, x], argTypes := #[dT, sT] })
    (v u : Value) (hd : a.eval d = v) (hx : a.eval x = u) {v' : Value} {w' : World} (hr : (Builtin.copy_ #[dT, sT] o.type #[v, u]).run P w = .ok v' w') (hK : K (a.put o.dst v') w') :
    if Region.wanted o (yielded ops a.tmps) = true then Oper.wp P o a w K Q else E := by
  have hw : Region.wanted o (yielded ops a.tmps) = true := by simp [Region.wanted, hg]
  rw [if_pos hw]
  unfold Oper.wp
  simp [execOp, hop, resolve, invoke, builtin, hd, hx, hr, Result.andThen]
  exact hK
theorem zdY (w : World) {P : Program} {ops : Array Oper} {rest : List Oper} {o : Oper} {a : Act} {Q : Exit → Act → World → Prop} (hgd : o.guard = none) (d s : Operand) (t t' : TypeId)
    (ho : o.op = .call { callee := .builtin .append, args := #[d, s], argTypes := #[t, t'] }) (v u : Value) (hd : a.eval d = v) (hs : a.eval s = u) {v' : Value} {w' : World}
    (hr : (Builtin.append_ #[t, t'] o.type #[v, u]).run P w = .ok v' w') (h : wpList P ops Q rest (a.put o.dst v') w') : wpList P ops Q (o :: rest) a w :=
  wpList_plain hgd fun _ hK => by
    unfold Oper.wp execOp
    simp only [ho, resolve, invoke, builtin, Sem.run_bind, Sem.run_pure, Result.andThen_ok, List.map_toArray, List.map_cons, List.map_nil, hd, hs, hr]
    exact hK _ _ h
theorem zk5 {P : Program} (w : World) (dT sT ty elem : TypeId) (b o dLen dCap : Nat) (a : Addr) (sLen sCap sz : Nat) (cs : List Value) (cur : Array Value)
    (hu : P.underlying dT = some (.slice elem)) (hs : zaU P elem = some sz) (hn : cs.length = Nat.min sLen dLen * sz) (hg : w.heap[b]? = some (.cells cur elem (0, 0)))
    (hsrc : ∀ j v, cs[j]? = some v → w.cell? (a.add j) = some v) (hfit : o + cs.length ≤ cur.size) (h1 : ∀ v ∈ cs, v.oneCell' = true) :
    (Builtin.copy_ #[dT, sT] ty #[.slice (some ⟨b, o, none⟩) dLen dCap, .slice (some a) sLen sCap]).run P w = .ok (goInt (Nat.min sLen dLen)) (w.setRow b (cur.toList.take o ++ cs ++ cur.toList.drop (o + cs.length)).toArray) := by
  have hl := run_loadCells_list (P := P) w a cs hsrc
  have hst := run_storeCells_at P b o elem cs 0 cur w hg (by simpa using hfit) h1
  simp only [Nat.add_zero] at hst
  simp [Builtin.copy_, run_underlying hu, Builtin.lenOf, Builtin.firstCells, zby hs, ← hn, hl, hst, Result.andThen]
set_option maxHeartbeats 4000000 in
set_option maxRecDepth 100000 in
theorem zrm (b n c i vb m vc : Nat) (cs vs : List Value) (cur : Array Value) (w : World) (hi : i < n) (hm : 0 < m) (hroom : n + m ≤ c) (hc63 : c ≤ 9223372036854775807) (hvb : vb ≠ b)
    (hcl : cs.length = n * 2) (hvl : vs.length = m * 2) (hg : w.heap[b]? = some (.cells cur 54 (0, 0))) (hcz : cur.size = c * 2) (hcs : cur.toList.take (n * 2) = cs)
    (hvs : ∀ j v, vs[j]? = some v → w.cell? ⟨vb, j, none⟩ = some v) (h1c : ∀ v ∈ cs, v.oneCell' = true) (h1v : ∀ v ∈ vs, v.oneCell' = true)
    (tA : TypeId) (kA : Nat) (hsa : w.shape? vb = some (tA, kA)) (hsb : w.shape? b = some (54, c * 2)) (hfa : w.frozen? ⟨vb, 0, none⟩ = false) (hfe : w.frozen? ⟨vb, kA, none⟩ = false) :
    Calls Tryz.prog 135 #[.slice (some ⟨b, 0, none⟩) n c, .int .i64 i, .slice (some ⟨vb, 0, none⟩) m vc] w fun e w' =>
      e = .returned (.slice (some ⟨b, 0, none⟩) (n + m) c) ∧ ∃ l : List Value, l.length = c * 2 ∧ l.take ((n + m) * 2) = cs.take (i * 2) ++ vs ++ cs.drop (i * 2) ∧ ∃ W1, (W1 = w.drew.setRow b l.toArray ∨ ∃ l', W1 = (w.drew.setRow b l').setRow b l.toArray) ∧ w' = W1 := by
  have mixed : Tryz.prog.follows .mixedOrders = true := by kernel_rfl
  have hz1 : ¬ ((m : Int) = 0) := by omega
  have hz2 : ¬ ((i : Int) = (n : Int)) := by omega
  have hov : ∀ lb cb, (callFunc 184 #[.slice (some ⟨vb, 0, none⟩) m vc, .slice (some ⟨b, (i + m) * 2, none⟩) lb cb]).run Tryz.prog w = .ok (.value (.bool false)) w := fun lb cb => by
    rw [run_callFunc_extern Tryz.func184 (by kernel_rfl) (by kernel_rfl) (by kernel_rfl) (e := Extern.SlicesOverlaps.overlaps #[26, 26] #[4]) (by kernel_rfl),
      Lib.run_overlaps_apart w 26 4 54 Tryz.underlying26 2 (fun w => zby (by kernel_rfl)) ⟨vb, 0, none⟩ ⟨b, (i + m) * 2, none⟩ m vc lb cb hvb tA 54 kA (c * 2) hsa hsb (by omega) hfa hfe]
    rfl
  have hdl : (cs.drop (i * 2)).length = (n - i) * 2 := by rw [List.length_drop, hcl]; omega
  have hcell : ∀ j v, cs[j]? = some v → w.cell? ⟨b, j, none⟩ = some v := fun j v hj => by
    rw [← hcs, List.getElem?_take] at hj
    split at hj
    · simp only [World.cell?, hg]; simpa using hj
    · cases hj
  have hgd : w.drew.heap[b]? = some (.cells cur 54 (0, 0)) := hg
  have hcp1 : ∀ ty dc sc, (Builtin.copy_ #[26, 26] ty #[.slice (some ⟨b, (i + m) * 2, none⟩) (n + m - (i + m)) dc, .slice (some ⟨b, i * 2, none⟩) (n + m - i) sc]).run Tryz.prog w.drew = .ok (goInt (Nat.min (n + m - i) (n + m - (i + m)))) (w.drew.setRow b (cur.toList.take ((i + m) * 2) ++ cs.drop (i * 2) ++ cur.toList.drop ((i + m) * 2 + (cs.drop (i * 2)).length)).toArray) := fun ty dc sc =>
    zk5 w.drew _ _ ty 54 b ((i + m) * 2) (n + m - (i + m)) dc ⟨b, i * 2, none⟩ (n + m - i) sc 2 (cs.drop (i * 2)) cur Tryz.underlying26 (by kernel_rfl) (by rw [hdl]; simp only [Nat.min_def]; split <;> omega) hgd
      (fun j v hj => by rw [Addr.add_lit]; exact hcell (i * 2 + j) v (by rwa [List.getElem?_drop] at hj))
      (by rw [hdl, hcz]; omega) (fun v hv => h1c v (List.mem_of_mem_drop hv))
  obtain ⟨l1, hl1⟩ : ∃ l1, l1 = cur.toList.take ((i + m) * 2) ++ cs.drop (i * 2) ++ cur.toList.drop ((i + m) * 2 + (cs.drop (i * 2)).length) := ⟨_, rfl⟩
  rw [← hl1] at hcp1
  have hl1l : l1.length = c * 2 := by
    rw [hl1]; simp only [List.length_append, List.length_take, List.length_drop, Array.length_toList, hcz, hcl]
    rw [Nat.min_eq_left (by omega)]; omega
  have hg1 : (w.drew.setRow b l1.toArray).heap[b]? = some (.cells l1.toArray 54 (0, 0)) := setRow_heap w.drew b cur l1.toArray 54 (0, 0) hgd
  have hcp2 : ∀ (W : World), W.heap = (w.drew.setRow b l1.toArray).heap → ∀ ty dc, (Builtin.copy_ #[26, 26] ty #[.slice (some ⟨b, i * 2, none⟩) (n + m - i) dc, .slice (some ⟨vb, 0, none⟩) m vc]).run Tryz.prog W = .ok (goInt (Nat.min m (n + m - i))) (W.setRow b (l1.toArray.toList.take (i * 2) ++ vs ++ l1.toArray.toList.drop (i * 2 + vs.length)).toArray) := fun W hW ty dc =>
    zk5 W _ _ ty 54 b (i * 2) (n + m - i) dc ⟨vb, 0, none⟩ m vc 2 vs l1.toArray Tryz.underlying26 (by kernel_rfl) (by rw [hvl]; simp only [Nat.min_def]; split <;> omega) (by rw [hW]; exact hg1)
      (fun j v hj => by
        rw [Addr.add_lit, Nat.zero_add]
        have h2 := hvs j v hj
        simp only [World.cell?] at h2 ⊢
        rw [hW, setRow_other w.drew b vb _ hvb]
        exact h2)
      (by rw [hvl]; simp [hl1l]; omega) h1v
  have hw1 : IntKind.i64.wrap ((i : Int) + (m : Int)) = (i : Int) + (m : Int) := by rw [IntKind.wrap_i64]; omega
  have hw2 : IntKind.i64.wrap ((n : Int) + (m : Int)) = (n : Int) + (m : Int) := by rw [IntKind.wrap_i64]; omega
  have hb1 : (0 : Int) ≤ (i : Int) + (m : Int) := by omega
  have hin : i ≤ n := by omega
  have htn : ((i : Int) + (m : Int)).toNat = i + m := by omega
  have hb2 : ¬ (c = i + m) := by omega
  have hb3 : (i : Int) ≤ (n : Int) + (m : Int) := by omega
  have hb4 : ¬ (c = i) := by omega
  have hfin : (l1.toArray.toList.take (i * 2) ++ vs ++ l1.toArray.toList.drop (i * 2 + vs.length)).length = c * 2 ∧ (l1.toArray.toList.take (i * 2) ++ vs ++ l1.toArray.toList.drop (i * 2 + vs.length)).take ((n + m) * 2) = cs.take (i * 2) ++ vs ++ cs.drop (i * 2) := by
    have e0 : l1.toArray.toList = l1 := rfl
    rw [e0]
    refine ⟨by simp only [List.length_append, List.length_take, List.length_drop, hl1l, hvl]; rw [Nat.min_eq_left (by omega)]; omega, ?_⟩
    have a1 : l1.take (i * 2) = cs.take (i * 2) := by
      rw [hl1, List.append_assoc, List.take_append_of_le_length (by rw [List.length_take, Array.length_toList, hcz]; omega), List.take_take, Nat.min_eq_left (by omega), ← hcs, List.take_take, Nat.min_eq_left (by omega)]
    have a2 : l1.drop (i * 2 + vs.length) = cs.drop (i * 2) ++ cur.toList.drop ((i + m) * 2 + (cs.drop (i * 2)).length) := by
      have hL : cur.toList.length = c * 2 := by rw [Array.length_toList, hcz]
      rw [hl1, List.append_assoc, List.drop_append, List.drop_eq_nil_of_le (by rw [List.length_take, hL, hvl]; omega), List.nil_append, List.length_take, hL, hvl, show i * 2 + m * 2 - min ((i + m) * 2) (c * 2) = 0 by omega, List.drop_zero]
    rw [a1, a2, ← List.append_assoc, List.take_append_of_le_length (by simp only [List.length_append, List.length_take, hcl, hvl, hdl]; omega), List.take_of_length_le (by simp only [List.length_append, List.length_take, hcl, hvl, hdl]; omega)]
  clear hl1
  generalize l1.toArray.toList.take (i * 2) ++ vs ++ l1.toArray.toList.drop (i * 2 + vs.length) = l2 at hfin hcp2
  go_enter Tryz.func135, Tryz.ntmps135
  go_wp2_with (simp only [hov])
  go_region_law_o (refine zkP rfl _ _ 26 26 rfl _ _ (by simp [Act.eval, Act.put]) (by simp [Act.eval, Act.put]) (hcp1 _ _ _) ?_)
  go_wp2_with (at_builtin; refine zjn _ rfl _ _ 26 26 rfl _ _ rfl rfl (hcp2 _ rfl _ _) ?_)
  go_ret
  exact ⟨rfl, _, hfin.1, hfin.2, _, .inr ⟨_, rfl⟩, rfl⟩
theorem zlS (w : World) {P : Program} {ops : Array Oper} {rest : List Oper} {o : Oper} {a : Act} {Q : Exit → Act → World → Prop} (hgd : o.guard = none) (d s : Operand) (t t' : TypeId)
    (ho : o.op = .call { callee := .builtin .append, args := #[d, s], argTypes := #[t, t'] }) (v u : Value) (hd : a.eval d = v) (hs : a.eval s = u) {v' : Value} {w' : World}
    (hr : (Builtin.append_ #[t, t'] o.type #[v, u]).run P w = .ok v' w') (h : wpList P ops Q rest (a.put o.dst v') w') : wpList P ops Q (o :: rest) a w :=
  zdY w hgd d s t t' ho v u hd hs hr h
set_option maxHeartbeats 4000000 in
set_option maxRecDepth 100000 in
theorem zsN (b n c i vb m vc : Nat) (cs vs : List Value) (w : World) (hi : i < n) (hm : 0 < m) (hnc : n ≤ c) (hroom : c < n + m) (hfit : (n + m) * 32 ≤ 140737488355328) (hvb : vb < w.heap.size) (hbs : b < w.heap.size)
    (hcl : cs.length = n * 2) (hvl : vs.length = m * 2) (hcell : ∀ j v, cs[j]? = some v → w.cell? ⟨b, j, none⟩ = some v)
    (hvs : ∀ j v, vs[j]? = some v → w.cell? ⟨vb, j, none⟩ = some v) (h1c : ∀ v ∈ cs, v.oneCell' = true) (h1v : ∀ v ∈ vs, v.oneCell' = true) :
    Calls Tryz.prog 135 #[.slice (some ⟨b, 0, none⟩) n c, .int .i64 i, .slice (some ⟨vb, 0, none⟩) m vc] w fun e w' =>
      ∃ (C : Nat) (l : List Value), e = .returned (.slice (some ⟨w.heap.size, 0, none⟩) (n + m) C) ∧ n + m ≤ C ∧ C ≤ maxLen ∧ l.length = C * 2 ∧ l.take ((n + m) * 2) = cs.take (i * 2) ++ vs ++ cs.drop (i * 2) ∧
        w'.os = w.os ∧ w'.tape = w.tape ∧ w'.output = w.output ∧ w'.heap.size = w.heap.size + 1 ∧ (∀ j, j < w.heap.size → w'.heap[j]? = w.heap[j]?) ∧ w'.heap[w.heap.size]? = some (.cells l.toArray 54 (0, 0)) := by
  have mixed : Tryz.prog.follows .mixedOrders = true := by kernel_rfl
  have hz1 : ¬ ((m : Int) = 0) := by omega
  have hz2 : ¬ ((i : Int) = (n : Int)) := by omega
  have hw2 : IntKind.i64.wrap ((n : Int) + (m : Int)) = (n : Int) + (m : Int) := by rw [IntKind.wrap_i64]; omega
  have hw3 : IntKind.i64.wrap ((n : Int) + (m : Int) - (i : Int)) = (((n + m - i : Nat)) : Int) := by rw [IntKind.wrap_i64]; omega
  have hw1 : IntKind.i64.wrap ((i : Int) + (m : Int)) = (i : Int) + (m : Int) := by rw [IntKind.wrap_i64]; omega
  obtain ⟨ti, hti, hts, htb⟩ : ∃ ti, Tryz.prog.info? 54 = some ti ∧ ti.size = 2 ∧ ti.bytes = 32 := by
    have h : (Tryz.prog.info? 54).map (fun t => (t.size, t.bytes)) = some (2, 32) := by kernel_rfl
    obtain ⟨ti, h1, h2⟩ := Option.map_eq_some_iff.1 h
    exact ⟨ti, h1, by injection h2, by injection h2⟩
  obtain ⟨z, hz, hzs⟩ : ∃ z, ti.zero = some z ∧ z.cells.size = 2 := by
    have h : ((Tryz.prog.info? 54).bind (·.zero)).map (·.cells.size) = some 2 := by kernel_rfl
    rw [hti] at h
    obtain ⟨z, h1, h2⟩ := Option.map_eq_some_iff.1 h
    exact ⟨z, h1, h2⟩
  have hty3 : Tryz.prog.underlying 3 = some (.int .i64) := by kernel_rfl
  have hap0 := fun ty => run_append_grow_zeros (P := Tryz.prog) w 26 3 ty 54 ti z .i64 .i64 Tryz.underlying26 hty3 hti hz (some ⟨b, 0, none⟩) i c (cs.take (i * 2))
      (run_firstCells_some (P := Tryz.prog) w.drew ti.size i ⟨b, 0, none⟩ i c (cs.take (i * 2)) (by rw [List.length_take, hcl, hts]; omega) (fun j v hj => by
        rw [Addr.add_lit, Nat.zero_add]
        rw [List.getElem?_take] at hj
        split at hj
        · exact hcell j v hj
        · cases hj))
      (n + m - i) (by omega) (by omega) (by omega) (by omega) (by rw [htb]; omega) (growslice_fits (by omega) (by rw [htb]; omega))
  have hC1 := grownCap_ge w (i + (n + m - i)) c 54
  have hC2 := grownCap_le_maxLen w (i + (n + m - i)) c 54 (by simp only [maxLen]; omega)
  have hrl : ((cs.take (i * 2)).toArray ++ Builtin.zeroCells z.cells (n + m - i) ++ Builtin.zeroCells z.cells (grownCap w (i + (n + m - i)) c 54 - (i + (n + m - i)))).size = grownCap w (i + (n + m - i)) c 54 * 2 := by
    simp only [Array.size_append, List.size_toArray, size_zeroCells, hzs, List.length_take, hcl]
    omega
  have hrt : ((cs.take (i * 2)).toArray ++ Builtin.zeroCells z.cells (n + m - i) ++ Builtin.zeroCells z.cells (grownCap w (i + (n + m - i)) c 54 - (i + (n + m - i)))).toList.take (i * 2) = cs.take (i * 2) := by
    simp only [Array.toList_append, List.append_assoc]
    have hl : (cs.take (i * 2)).length = i * 2 := by rw [List.length_take, hcl]; omega
    exact List.take_left' hl
  rw [show i + (n + m - i) = n + m by omega] at hap0 hC1 hC2 hrl hrt
  generalize grownCap w (n + m) c 54 = C at hap0 hC1 hC2 hrl hrt
  generalize (cs.take (i * 2)).toArray ++ Builtin.zeroCells z.cells (n + m - i) ++ Builtin.zeroCells z.cells (C - (n + m)) = row at hap0 hrl hrt
  obtain ⟨W1, hW1⟩ : ∃ W1, W1 = w.drew.alloc (.cells row 54) := ⟨_, rfl⟩
  rw [← hW1] at hap0
  have g1 : W1.heap[w.heap.size]? = some (.cells row 54 (0, 0)) := by rw [hW1]; exact heap_alloc_new w.drew _
  have o1 : ∀ j, j < w.heap.size → W1.heap[j]? = w.heap[j]? := fun j hj => by rw [hW1]; exact heap_alloc_old w.drew _ hj
  have hcp1 : ∀ ty dc, (Builtin.copy_ #[26, 26] ty #[.slice (some ⟨w.heap.size, i * 2, none⟩) (n + m - i) dc, .slice (some ⟨vb, 0, none⟩) m vc]).run Tryz.prog W1 = .ok (goInt (Nat.min m (n + m - i))) (W1.setRow w.heap.size (row.toList.take (i * 2) ++ vs ++ row.toList.drop (i * 2 + vs.length)).toArray) := fun ty dc =>
    zk5 W1 _ _ ty 54 w.heap.size (i * 2) (n + m - i) dc ⟨vb, 0, none⟩ m vc 2 vs row Tryz.underlying26 (by kernel_rfl) (by rw [hvl]; simp only [Nat.min_def]; split <;> omega) g1
      (fun j v hj => by
        rw [Addr.add_lit, Nat.zero_add]
        have h2 := hvs j v hj
        simp only [World.cell?] at h2 ⊢
        rw [o1 vb hvb]
        exact h2)
      (by rw [hvl, hrl]; omega) h1v
  obtain ⟨l2, hl2⟩ : ∃ l2, l2 = row.toList.take (i * 2) ++ vs ++ row.toList.drop (i * 2 + vs.length) := ⟨_, rfl⟩
  rw [← hl2] at hcp1
  have hl2l : l2.length = C * 2 := by
    rw [hl2]; simp only [List.length_append, List.length_take, List.length_drop, Array.length_toList, hrl, hvl]
    rw [Nat.min_eq_left (by omega)]; omega
  have hl2t : l2.take ((i + m) * 2) = cs.take (i * 2) ++ vs := by
    rw [hl2, hrt]
    have hl : (cs.take (i * 2) ++ vs).length = (i + m) * 2 := by rw [List.length_append, List.length_take, hcl, hvl]; omega
    exact List.take_left' hl
  have hdl : (cs.drop (i * 2)).length = (n - i) * 2 := by rw [List.length_drop, hcl]; omega
  have g2 : (W1.setRow w.heap.size l2.toArray).heap[w.heap.size]? = some (.cells l2.toArray 54 (0, 0)) := setRow_heap W1 w.heap.size row l2.toArray 54 (0, 0) g1
  have hcp2 : ∀ (W : World), W.heap = (W1.setRow w.heap.size l2.toArray).heap → ∀ ty dc sc, (Builtin.copy_ #[26, 26] ty #[.slice (some ⟨w.heap.size, (i + m) * 2, none⟩) (n + m - (i + m)) dc, .slice (some ⟨b, i * 2, none⟩) (n - i) sc]).run Tryz.prog W = .ok (goInt (Nat.min (n - i) (n + m - (i + m)))) (W.setRow w.heap.size (l2.toArray.toList.take ((i + m) * 2) ++ cs.drop (i * 2) ++ l2.toArray.toList.drop ((i + m) * 2 + (cs.drop (i * 2)).length)).toArray) := fun W hW ty dc sc =>
    zk5 W _ _ ty 54 w.heap.size ((i + m) * 2) (n + m - (i + m)) dc ⟨b, i * 2, none⟩ (n - i) sc 2 (cs.drop (i * 2)) l2.toArray Tryz.underlying26 (by kernel_rfl) (by rw [hdl]; simp only [Nat.min_def]; split <;> omega) (by rw [hW]; exact g2)
      (fun j v hj => by
        rw [Addr.add_lit]
        have h2 := hcell (i * 2 + j) v (by rwa [List.getElem?_drop] at hj)
        simp only [World.cell?] at h2 ⊢
        rw [hW, setRow_other W1 w.heap.size b _ (by omega), o1 b hbs]
        exact h2)
      (by rw [hdl]; simp [hl2l]; omega) (fun v hv => h1c v (List.mem_of_mem_drop hv))
  have hfin : (l2.toArray.toList.take ((i + m) * 2) ++ cs.drop (i * 2) ++ l2.toArray.toList.drop ((i + m) * 2 + (cs.drop (i * 2)).length)).length = C * 2 ∧ (l2.toArray.toList.take ((i + m) * 2) ++ cs.drop (i * 2) ++ l2.toArray.toList.drop ((i + m) * 2 + (cs.drop (i * 2)).length)).take ((n + m) * 2) = cs.take (i * 2) ++ vs ++ cs.drop (i * 2) := by
    have e0 : l2.toArray.toList = l2 := rfl
    rw [e0, hl2t]
    refine ⟨by simp only [List.length_append, List.length_take, List.length_drop, hl2l, hvl, hcl]; omega, ?_⟩
    have hl : (cs.take (i * 2) ++ vs ++ cs.drop (i * 2)).length = (n + m) * 2 := by rw [List.length_append, List.length_append, List.length_take, hcl, hvl, hdl]; omega
    exact List.take_left' hl
  generalize l2.toArray.toList.take ((i + m) * 2) ++ cs.drop (i * 2) ++ l2.toArray.toList.drop ((i + m) * 2 + (cs.drop (i * 2)).length) = l3 at hfin hcp2
  obtain ⟨q1, q2, q3, q4⟩ : W1.os = w.os ∧ W1.tape = w.tape ∧ W1.output = w.output ∧ W1.heap.size = w.heap.size + 1 := by rw [hW1]; exact ⟨rfl, rfl, rfl, by simp⟩
  clear hl2 hrt hl2t hrl hW1
  have hcp3 := hcp2 (W1.setRow w.heap.size l2.toArray).drew rfl
  clear hcp2
  have hb1 : ¬ (c = i) := by omega
  have hin : i ≤ n := by omega
  have hcn : ¬ (n + m ≤ c) := by omega
  have hci : (c : Int) < (n : Int) + (m : Int) := by omega
  have hic : i ≤ c := by omega
  have htn : ((i : Int) + (m : Int)).toNat = i + m := by omega
  have hd1 : (0 : Int) ≤ (i : Int) + (m : Int) := by omega
  have hd2 : ¬ (C = i + m) := by omega
  have hd3 : (i : Int) ≤ (n : Int) + (m : Int) := by omega
  have hd4 : ¬ (C = i) := by omega
  go_enter Tryz.func135, Tryz.ntmps135
  go_wp2_with (at_builtin; refine zlS _ rfl _ _ 26 3 rfl _ _ rfl rfl (hap0 _) ?_)
  go_wp2_with (at_builtin; refine zjn _ rfl _ _ 26 26 rfl _ _ rfl rfl (hcp1 _ _) ?_)
  go_region_law_o (refine zkP rfl _ _ 26 26 rfl _ _ (by simp [Act.eval, Act.put]) (by simp [Act.eval, Act.put]) (hcp3 _ _ _) ?_)
  go_wp2
  go_ret
  exact ⟨C, l3, rfl, hC1, hC2, hfin.1, hfin.2, q1, q2, q3, by simp [World.setRow, q4], fun j hj => (setRow_other (W1.setRow w.heap.size l2.toArray).drew w.heap.size j _ (by omega)).trans ((setRow_other W1 w.heap.size j _ (by omega)).trans (o1 j hj)), setRow_heap (W1.setRow w.heap.size l2.toArray).drew w.heap.size l2.toArray l3.toArray 54 (0, 0) g2⟩
set_option maxHeartbeats 4000000 in
set_option maxRecDepth 100000 in
theorem zsO (b n c vb m vc : Nat) (w w1 : World) (hm : 0 < m) (ad : Option Addr) (C : Nat) (hnc : n ≤ c)
    (hap : ∀ ty, (Builtin.append_ #[26, 26] ty #[.slice (some ⟨b, 0, none⟩) n c, .slice (some ⟨vb, 0, none⟩) m vc]).run Tryz.prog w = .ok (.slice ad (n + m) C) w1) :
    Calls Tryz.prog 135 #[.slice (some ⟨b, 0, none⟩) n c, .int .i64 n, .slice (some ⟨vb, 0, none⟩) m vc] w fun e w' => e = .returned (.slice ad (n + m) C) ∧ w' = w1 := by
  have hz1 : ¬ ((m : Int) = 0) := by omega
  by_cases hcn : c = n
  · subst hcn
    go_enter Tryz.func135, Tryz.ntmps135
    go_wp2_with (at_builtin; refine zdY _ rfl _ _ 26 26 rfl _ _ rfl rfl (hap _) ?_)
    go_ret
    exact ⟨rfl, rfl⟩
  · go_enter Tryz.func135, Tryz.ntmps135
    go_wp2_with (at_builtin; refine zdY _ rfl _ _ 26 26 rfl _ _ rfl rfl (hap _) ?_)
    go_ret
    exact ⟨rfl, rfl⟩
set_option maxHeartbeats 4000000 in
set_option maxRecDepth 100000 in
theorem zsP (vb m vc : Nat) (w w1 : World) (hm : 0 < m) (ad : Option Addr) (C : Nat)
    (hap : ∀ ty, (Builtin.append_ #[26, 26] ty #[.slice none 0 0, .slice (some ⟨vb, 0, none⟩) m vc]).run Tryz.prog w = .ok (.slice ad m C) w1) :
    Calls Tryz.prog 135 #[.slice none 0 0, .int .i64 0, .slice (some ⟨vb, 0, none⟩) m vc] w fun e w' => e = .returned (.slice ad m C) ∧ w' = w1 := by
  have hz1 : ¬ ((m : Int) = 0) := by omega
  go_enter Tryz.func135, Tryz.ntmps135
  go_wp2_with (at_builtin; refine zdY _ rfl _ _ 26 26 rfl _ _ rfl rfl (hap _) ?_)
  go_ret
  exact ⟨rfl, rfl⟩
theorem ztB {w w' : World} (b : Option Nat) (h1 : w'.os = w.os) (h2 : w'.tape = w.tape) (h3 : w'.output = w.output) (h4 : w.heap.size ≤ w'.heap.size) (h5 : ∀ j, j < w.heap.size → w'.heap[j]? = w.heap[j]?) : w.grownBy w' b :=
  ⟨h1, h2, h3, h4, fun k hk _ => h5 k hk⟩
set_option maxHeartbeats 400000 in
set_option maxRecDepth 100000 in
theorem zlc (x_s : List api_Field) (x_i : Int) (x_v : List api_Field) (R : List api_Field) (w0 : World) (hG : zt w0) {x_s_p0 : Option Addr} {x_s_c0 : Nat} {x_v_p1 : Option Addr} {x_v_c1 : Nat} {F : List Nat} (hF : zu F)
    (hO : Dk.Own w0 F w0 [.row (.slice x_s_p0 x_s.length x_s_c0) 54 2 x_s.length (cells za x_s), .row (.slice x_v_p1 x_v.length x_v_c1) 54 2 x_v.length (cells za x_v)]) (hm : zgi x_s x_i x_v = some R) :
    Calls Tryz.prog 135 #[.slice x_s_p0 x_s.length x_s_c0, int x_i, .slice x_v_p1 x_v.length x_v_c1] w0 fun e w' => ∃ (p0 : Option Addr) (c0 : Nat), e = .returned (.slice p0 R.length c0) ∧ Dk.Own w0 F w' [.row (.slice p0 R.length c0) 54 2 R.length (cells za R)] := by
  unfold zgi at hm
  split at hm
  · rename_i hc
    obtain ⟨h1, h2, h3, h4⟩ := hc
    obtain rfl := Option.some.inj hm
    have hsz : ∀ x : api_Field, (za x).length = 2 := fun _ => rfl
    have hone : ∀ (l : List api_Field), ∀ v ∈ cells za l, v.oneCell' = true := fun l => Dk.cells_one' (fun x u hu => by simp [za] at hu; rcases hu with rfl | rfl <;> rfl) l
    have hel : Elem Tryz.prog 26 54 2 32 := zss
    obtain ⟨hu, ⟨ti, z, hti, hz, hs1, hs2, hzs⟩, hpos⟩ := hel
    have h4' := h4
    simp only [zF, Bool.and_eq_true, decide_eq_true_eq] at h4'
    rcases x_v_p1 with _ | ⟨vb, vo, vsp⟩
    · rcases (hO.get (i := 1) rfl).2 with ⟨hv, hn⟩ | ⟨g, cap, cur, hsl, _⟩
      · have : x_v.length = 0 := hn
        omega
      · cases hsl
    have hsv : (⟨vb, vo, vsp⟩ : Addr) = ⟨vb, 0, none⟩ := by
      rcases (hO.get (i := 1) rfl).2 with ⟨hv, _⟩ | ⟨g, cap, cur, hsl, _⟩
      · cases hv
      · injection hsl with e1 _ _
        injection e1 with e1
        injection e1 with e2 e3 e4
        subst e2 e3 e4; rfl
    rw [hsv] at hO ⊢
    obtain ⟨curv, hgv, hncv, hcmv, hczv, hctv, hclv⟩ := Dk.own_cur (hO.get (i := 1) rfl)
    have hvs : ∀ j v, (cells za x_v)[j]? = some v → w0.cell? ⟨vb, j, none⟩ = some v := fun j v hj => by
      have := (hO.rowSees (i := 1) rfl).2.2 j v hj
      simpa using this
    obtain ⟨k, rfl⟩ : ∃ k : Nat, x_i = k := ⟨x_i.toNat, by omega⟩
    have hk : ((k : Int)).toNat = k := by simp
    rw [hk]
    have happ : ∀ (ve : Value), ve = .slice x_s_p0 x_s.length x_s_c0 → k = x_s.length → (∀ (ad : Option Addr) (C : Nat) (w1 : World), (∀ ty, (Builtin.append_ #[26, 26] ty #[ve, .slice (some ⟨vb, 0, none⟩) x_v.length x_v_c1]).run Tryz.prog w0 = .ok (.slice ad (x_s.length + x_v.length) C) w1) →
        Calls Tryz.prog 135 #[ve, int k, .slice (some ⟨vb, 0, none⟩) x_v.length x_v_c1] w0 fun e w' => e = .returned (.slice ad (x_s.length + x_v.length) C) ∧ w' = w1) →
        Calls Tryz.prog 135 #[ve, int k, .slice (some ⟨vb, 0, none⟩) x_v.length x_v_c1] w0 fun e w' => ∃ (p0 : Option Addr) (c0 : Nat), e = .returned (.slice p0 (x_s.take k ++ x_v ++ x_s.drop k).length c0) ∧ Dk.Own w0 F w' [.row (.slice p0 (x_s.take k ++ x_v ++ x_s.drop k).length c0) 54 2 (x_s.take k ++ x_v ++ x_s.drop k).length (cells za (x_s.take k ++ x_v ++ x_s.drop k))] := by
      rintro ve rfl hk h
      subst hk
      have key : ∀ ty, ∃ ad' c' w', (Builtin.append_ #[26, 26] ty #[.slice x_s_p0 x_s.length x_s_c0, .slice (some ⟨vb, 0, none⟩) x_v.length x_v_c1]).run Tryz.prog w0 = .ok (.slice ad' (x_s.length + x_v.length) c') w' ∧ _ := fun ty =>
        zc7 (P := Tryz.prog) (w := w0) 26 ty 54 ti z 2 32 hu hti hz hs1 hs2 hzs hpos (.slice x_s_p0 x_s.length x_s_c0) x_s.length _ (hO.get (i := 0) rfl) ⟨vb, 0, none⟩ x_v.length x_v_c1 (cells za x_v) (Dk.cells_length hsz _)
          (fun j u hj => by rw [Addr.add_lit, Nat.zero_add]; exact hvs j u hj) (hone _) (by unfold maxLen; omega) h4'.2
      obtain ⟨ad', c', w', hr, q2, q3, q4⟩ := key 0
      refine (h ad' c' w' (fun ty => hr)).mono ?_
      rintro e w'' ⟨rfl, rfl⟩
      have hlen : (x_s.take x_s.length ++ x_v ++ x_s.drop x_s.length).length = x_s.length + x_v.length := by simp
      have hce : cells za (x_s.take x_s.length ++ x_v ++ x_s.drop x_s.length) = cells za x_s ++ cells za x_v := by rw [List.take_length, List.drop_length, List.append_nil, Dk.cells_append]
      rw [hlen, hce]
      exact ⟨ad', c', rfl, (hO.grown (i := 0) rfl q3 q2 q4).sub (.cons_cons _ (.cons _ .slnil))⟩
    by_cases hke : k = x_s.length
    · rcases x_s_p0 with _ | ⟨b, o, sp⟩
      · have hn0 : x_s_c0 = 0 ∧ x_s.length = 0 := by
          rcases (hO.get (i := 0) rfl).2 with ⟨hv, hn⟩ | ⟨g, cap, cur, hsl, _⟩
          · injection hv with _ e1 e2; exact ⟨e2, hn⟩
          · cases hsl
        have hk0 : k = 0 := by omega
        have hv0 : Value.slice none x_s.length x_s_c0 = .slice none 0 0 := by rw [hn0.1, hn0.2]
        rw [hv0]
        refine happ (.slice none 0 0) hv0.symm hke fun ad C w1 hr => ?_
        subst hk0
        have e0 : x_s.length + x_v.length = x_v.length := by rw [hn0.2, Nat.zero_add]
        rw [e0] at hr ⊢
        exact zsP vb x_v.length x_v_c1 w0 w1 (by omega) ad C hr
      · have hs1' : (⟨b, o, sp⟩ : Addr) = ⟨b, 0, none⟩ := by
          rcases (hO.get (i := 0) rfl).2 with ⟨hv, _⟩ | ⟨g, cap, cur, hsl, _⟩
          · cases hv
          · injection hsl with e1 _ _
            injection e1 with e1
            injection e1 with e2 e3 e4
            subst e2 e3 e4; rfl
        rw [hs1'] at hO happ ⊢
        obtain ⟨cur, hg, hnc, hcm, hcz, hct, hcl⟩ := Dk.own_cur (hO.get (i := 0) rfl)
        refine happ _ rfl hke fun ad C w1 hr => ?_
        rw [hke]
        exact zsO b x_s.length x_s_c0 vb x_v.length x_v_c1 w0 w1 (by omega) ad C hnc hr
    have hik : k < x_s.length := by omega
    rcases x_s_p0 with _ | ⟨b, o, sp⟩
    · rcases (hO.get (i := 0) rfl).2 with ⟨hv, hn⟩ | ⟨g, cap, cur, hsl, _⟩
      · have : x_s.length = 0 := hn
        omega
      · cases hsl
    clear happ
    have hs1' : (⟨b, o, sp⟩ : Addr) = ⟨b, 0, none⟩ := by
      rcases (hO.get (i := 0) rfl).2 with ⟨hv, _⟩ | ⟨g, cap, cur, hsl, _⟩
      · cases hv
      · injection hsl with e1 _ _
        injection e1 with e1
        injection e1 with e2 e3 e4
        subst e2 e3 e4; rfl
    rw [hs1'] at hO ⊢
    obtain ⟨cur, hg, hnc, hcm, hcz, hct, hcl⟩ := Dk.own_cur (hO.get (i := 0) rfl)
    have hne : vb ≠ b := by
      intro e
      have hp := List.pairwise_iff_getElem.1 hO.sep 0 1 (by simp) (by simp) (by omega)
      rcases hp with ⟨h, _⟩ | h
      · cases h
      · exact h b (by simp [Res.fp, Value.ownBlock]) (by simp [Res.fp, Value.ownBlock, e])
    have hcb : x_s_c0 ≤ 9223372036854775807 := hcm
    by_cases hroom : x_s.length + x_v.length ≤ x_s_c0
    rotate_left
    · refine (zsN b x_s.length x_s_c0 k vb x_v.length x_v_c1 (cells za x_s) (cells za x_v) w0 hik (by omega) hnc (by omega) h4'.2 (Array.getElem?_eq_some_iff.1 hgv).1 (Array.getElem?_eq_some_iff.1 hg).1 hcl hclv (fun j v hj => by
        have := (hO.rowSees (i := 0) rfl).2.2 j v hj
        simpa using this) hvs (hone _) (hone _)).mono ?_
      rintro e w' ⟨C, l, rfl, g1, g2, g3, g4, g5, g6, g7, g8, g9, g10⟩
      have hlen : (x_s.take k ++ x_v ++ x_s.drop k).length = x_s.length + x_v.length := by simp; omega
      have hce : cells za (x_s.take k ++ x_v ++ x_s.drop k) = (cells za x_s).take (k * 2) ++ cells za x_v ++ (cells za x_s).drop (k * 2) := by
        rw [Dk.cells_append, Dk.cells_append, Dk.cells_take hsz, Dk.cells_drop hsz]
      refine ⟨_, C, by rw [hlen], ?_⟩
      refine (hO.grown (i := 0) rfl (ztB _ g5 g6 g7 (by omega) g9) ?_ (.inr rfl)).sub (.cons_cons _ (.cons _ .slnil))
      rw [hlen]
      exact ⟨by rw [Dk.cells_length hsz, hlen], .inr ⟨w0.heap.size, C, l.toArray, rfl, Nat.zero_le _, g10, g1, g2, by simpa using g3, by rw [hce]; exact g4⟩⟩
    have hfin : ∀ (w' : World) (l : List Value), w'.os = w0.os → w'.tape = w0.tape → w'.output = w0.output → w'.heap.size = w0.heap.size → (∀ j, j ≠ b → w'.heap[j]? = w0.heap[j]?) → w'.heap[b]? = some (.cells l.toArray 54 (0, 0)) → l.length = x_s_c0 * 2 → l.take ((x_s.length + x_v.length) * 2) = cells za (x_s.take k ++ x_v ++ x_s.drop k) →
        Dk.Own w0 F w' [.row (.slice (some ⟨b, 0, none⟩) (x_s.take k ++ x_v ++ x_s.drop k).length x_s_c0) 54 2 (x_s.take k ++ x_v ++ x_s.drop k).length (cells za (x_s.take k ++ x_v ++ x_s.drop k))] := by
      intro w' l e1 e2 e3 e4 e5 e6 e7 e8
      have hlen : (x_s.take k ++ x_v ++ x_s.drop k).length = x_s.length + x_v.length := by simp; omega
      have hT := hO.turn (i := 0) (b := b) (w' := w') (r' := .row (.slice (some ⟨b, 0, none⟩) (x_s.take k ++ x_v ++ x_s.drop k).length x_s_c0) 54 2 (x_s.take k ++ x_v ++ x_s.drop k).length (cells za (x_s.take k ++ x_v ++ x_s.drop k))) rfl rfl rfl rfl rfl e1 e2 e3 e4 e5
        ⟨Dk.cells_length hsz _, .inr ⟨b, x_s_c0, l.toArray, rfl, Nat.zero_le _, e6, by rw [hlen]; exact hroom, hcm, by simpa using e7, by rw [hlen]; exact e8⟩⟩
      exact hT.sub (.cons_cons _ (.cons _ .slnil))
    have hshape : ∀ (x : Nat) (cu : Array Value) (t : TypeId), w0.heap[x]? = some (.cells cu t (0, 0)) → w0.shape? x = some (t, cu.size) := fun x cu t h => by simp [World.shape?, h]
    have hfrz : ∀ (x o : Nat) (cu : Array Value) (t : TypeId), w0.heap[x]? = some (.cells cu t (0, 0)) → w0.frozen? ⟨x, o, none⟩ = false := fun x o cu t h => by simp [World.frozen?, h]
    refine (zrm b x_s.length x_s_c0 k vb x_v.length x_v_c1 (cells za x_s) (cells za x_v) cur w0 hik (by omega) hroom hcb hne hcl hclv hg hcz hct hvs (hone _) (hone _) 54 _ (hshape vb curv 54 hgv) (by rw [hshape b cur 54 hg, hcz]) (hfrz vb _ curv 54 hgv) (hfrz vb _ curv 54 hgv)).mono ?_
    rintro e w' ⟨rfl, l, hll, hlt, W1, hW, rfl⟩
    have hlt' : l.take ((x_s.length + x_v.length) * 2) = cells za (x_s.take k ++ x_v ++ x_s.drop k) := by
        rw [hlt, Dk.cells_append, Dk.cells_append, Dk.cells_take hsz, Dk.cells_drop hsz]
    have hres : (x_s.take k ++ x_v ++ x_s.drop k).length = x_s.length + x_v.length := by simp; omega
    have hgd : w0.drew.heap[b]? = some (.cells cur 54 (0, 0)) := hg
    rcases hW with rfl | ⟨l', rfl⟩
    · exact ⟨_, _, by rw [hres], hfin _ l rfl rfl rfl (by simp [World.setRow]) (fun j hj => setRow_other w0.drew b j _ hj) (setRow_heap w0.drew b cur l.toArray 54 (0, 0) hgd) hll hlt'⟩
    · have h5 := setRow_heap w0.drew b cur l' 54 (0, 0) hgd
      exact ⟨_, _, by rw [hres], hfin _ l rfl rfl rfl (by simp [World.setRow]) (fun j hj => (setRow_other _ b j _ hj).trans (setRow_other w0.drew b j _ hj)) (setRow_heap _ b l' l.toArray 54 (0, 0) h5) hll hlt'⟩
  · cases hm
end Go.Proofs
end
section
namespace Go.Proofs
open Go.Dk Go.Dm Go.RowKit
theorem zbx (s : Str) (c : UInt8) (R : Int) (w0 : World) (hG : zt w0) (hm : strings_IndexByte s c = some R) :
    Calls Tryz.prog 187 #[str s, zak c] w0 fun e w' => e = .returned (int R) ∧ Below w0.heap.size w0 w' := by
  refine (Tryz.strings_IndexByte ⟨s.toArray⟩ c.toNat w0).mono fun e w' ⟨he, hw⟩ => ?_
  subst he hw
  refine ⟨?_, Below.refl _ _⟩
  unfold strings_IndexByte at hm
  rw [zsQ] at hm
  cases hm
  simp
theorem zjQ (s t : Str) (R : Int) (w0 : World) (hG : zt w0) (hm : strings_Index s t = some R) :
    Calls Tryz.prog 243 #[str s, str t] w0 fun e w' => e = .returned (int R) ∧ Below w0.heap.size w0 w' := by
  unfold strings_Index at hm
  split at hm
  · rename_i hs
    obtain ⟨m, hg⟩ := hG.max
    refine (Tryz.strings_Index ⟨s.toArray⟩ ⟨t.toArray⟩ m w0 hs hg).mono fun e w' ⟨he, hw⟩ => ?_
    subst he hw
    rw [zpx] at hm
    cases hm
    exact ⟨rfl, Below.refl _ _⟩
  · cases hm
theorem ziH (s t : Str) (R : Str × Str × Bool) (w0 : World) (hG : zt w0) (hm : strings_Cut s t = some R) :
    Calls Tryz.prog 118 #[str s, str t] w0 fun e w' => e = .returned (.tuple #[str R.1, str R.2.1, .bool R.2.2]) ∧ Below w0.heap.size w0 w' := by
  unfold strings_Cut at hm
  split at hm
  · rename_i hs
    obtain ⟨m, hg⟩ := hG.max
    refine (Tryz.strings_Cut ⟨s.toArray⟩ ⟨t.toArray⟩ m w0 hs hg).mono fun e w' ⟨he, n, hw⟩ => ?_
    subst he hw
    cases hm
    exact ⟨rfl, ⟨rfl, rfl, rfl, Nat.le_refl _, fun _ _ => rfl⟩⟩
  · cases hm
theorem zhW (s t : Str) (R : Bool) (w0 : World) (hG : zt w0) (hm : strings_Contains s t = some R) :
    Calls Tryz.prog 260 #[str s, str t] w0 fun e w' => e = .returned (.bool R) ∧ Below w0.heap.size w0 w' := by
  unfold strings_Contains at hm
  split at hm
  · rename_i hs
    obtain ⟨m, hg⟩ := hG.max
    refine (Tryz.strings_Contains ⟨s.toArray⟩ ⟨t.toArray⟩ m w0 hs hg).mono fun e w' ⟨he, hw⟩ => ?_
    subst he hw
    rw [zpx] at hm
    cases hm
    exact ⟨rfl, Below.refl _ _⟩
  · cases hm
theorem zfD (s cs : Str) (R : Int) (w0 : World) (hG : zt w0) (hm : strings_IndexAny s cs = some R) :
    Calls Tryz.prog 167 #[str s, str cs] w0 fun e w' => e = .returned (int R) ∧ Below w0.heap.size w0 w' := by
  unfold strings_IndexAny at hm
  split at hm
  · rename_i hs
    refine (zrj Tryz.lays153 (by kernel_rfl) ⟨s.toArray⟩ ⟨cs.toArray⟩ w0 hs.1 hs.2.1 (fun j b hb => ?_)).mono fun e w' ⟨he, hw⟩ => ?_
    · have := List.all_eq_true.1 hs.2.2 b (List.mem_of_getElem? hb)
      simpa using this
    · subst he
      rw [ztD] at hm
      cases hm
      exact ⟨rfl, hw⟩
  · cases hm
theorem zk7 (n b : Int) (R : Str) (w0 : World) (hG : zaG w0) (hm : zei n b = some R) :
    Calls Tryz.prog 88 #[int n, int b] w0 fun e w' => e = .returned (str R) ∧ Below w0.heap.size w0 w' := by
  unfold zei at hm
  split at hm
  · rename_i h
    obtain ⟨h1, rfl⟩ := h
    obtain ⟨h2, h3⟩ := zkW.1 h1
    cases hm
    refine (Tryz.strconv_FormatInt_10 n h2 h3 w0 hG.2).mono fun e w' ⟨he, k, os, hw⟩ => ?_
    subst he hw
    exact ⟨rfl, Lib.below_grow _ _ (Nat.le_refl _) _ _⟩
  · cases hm
theorem zjR (s sep : Str) (R : List Str) (w0 : World) (hG : zt w0) (hm : strings_Split s sep = some R) :
    Calls Tryz.prog 174 #[str s, str sep] w0 fun e w' => ∃ (p0 : Option Addr) (c0 : Nat), e = .returned (.slice p0 R.length c0) ∧ Own w0 [] w' [.row (.slice p0 R.length c0) 9 1 R.length (cells zg R)] := by
  unfold strings_Split at hm
  split at hm
  · rename_i hs
    obtain ⟨m, hg⟩ := hG.max
    refine (Tryz.strings_Split ⟨s.toArray⟩ ⟨sep.toArray⟩ m w0 hs.1 hg hs.2).mono fun e w' ⟨he, hw⟩ => ?_
    subst he hw
    have hlen := Go.Lib.splitB_all ⟨sep.toArray⟩ hs.2 0 _ ⟨s.toArray⟩ rfl
    have hdat := Go.Lib.splitB_data ⟨sep.toArray⟩ 0 (Go.Lib.countB ⟨s.toArray⟩ ⟨sep.toArray⟩) ⟨s.toArray⟩
    have hR : R = (Go.Lib.splitB ⟨sep.toArray⟩ 0 (Go.Lib.countB ⟨s.toArray⟩ ⟨sep.toArray⟩) ⟨s.toArray⟩).map (·.data.toList) := by
      rw [hdat]; exact (Option.some.inj hm).symm
    have hRl : R.length = Go.Lib.countB ⟨s.toArray⟩ ⟨sep.toArray⟩ + 1 := by rw [hR, List.length_map, hlen]
    have hcells : (Go.Lib.splitB ⟨sep.toArray⟩ 0 (Go.Lib.countB ⟨s.toArray⟩ ⟨sep.toArray⟩) ⟨s.toArray⟩).map Value.string = cells zg R := by
      rw [hR]
      generalize Go.Lib.splitB _ _ _ _ = l
      induction l with
      | nil => rfl
      | cons x l ih => obtain ⟨⟨x⟩⟩ := x; rw [List.map_cons, List.map_cons, ih]; rfl
    have hle := Go.Lib.countB_le ⟨sep.toArray⟩ hs.2 _ ⟨s.toArray⟩ (Nat.le_refl _)
    have hsz : (⟨s.toArray⟩ : ByteArray).size = s.length := rfl
    have hO := (Own.refl w0).newRow (cells zg R) 9 1 R.length (cells_length (enc := zg) (sz := 1) (fun _ => rfl) R) (by unfold maxLen; omega)
    rw [hcells, ← hRl]
    exact ⟨_, _, rfl, hO⟩
  · cases hm
theorem zf3 (s cs : Str) (R : Str) (w0 : World) (hG : zt w0) (hm : zbm s cs = some R) :
    Calls Tryz.prog 108 #[str s, str cs] w0 fun e w' => e = .returned (str R) ∧ Below w0.heap.size w0 w' := by
  unfold zbm at hm
  split at hm
  · rename_i hs
    refine (Any.strings_Trim_laid Tryz.lays160 (by kernel_rfl) ⟨s.toArray⟩ ⟨cs.toArray⟩ w0 (Nat.le_trans (Nat.le_of_lt hs.1) (by decide)) hs.2.1 (fun j b hb => ?_)).mono fun e w' ⟨he, hw⟩ => ?_
    · have := List.all_eq_true.1 hs.2.2 b (List.mem_of_getElem? hb)
      simpa using this
    · subst he
      cases hm
      exact ⟨rfl, hw⟩
  · cases hm
theorem zk8 (s cs : Str) (R : Str) (w0 : World) (hG : zt w0) (hm : zc8 s cs = some R) :
    Calls Tryz.prog 146 #[str s, str cs] w0 fun e w' => e = .returned (str R) ∧ Below w0.heap.size w0 w' := by
  unfold zc8 at hm
  split at hm
  · rename_i hs
    refine (Any.strings_TrimRight_laid Tryz.lays162 (by kernel_rfl) ⟨s.toArray⟩ ⟨cs.toArray⟩ w0 (Nat.le_trans (Nat.le_of_lt hs.1) (by decide)) hs.2.1 (fun j b hb => ?_)).mono fun e w' ⟨he, hw⟩ => ?_
    · have := List.all_eq_true.1 hs.2.2 b (List.mem_of_getElem? hb)
      simpa using this
    · subst he
      cases hm
      exact ⟨rfl, hw⟩
  · cases hm
theorem zoy (l : List Str) (sep : Str) (R : Str) (w0 : World) (hG : zt w0) {x_p : Option Addr} {x_c : Nat} (hs0 : zy w0 x_p (cells zg l)) (hc0 : l.length ≤ x_c) (hm : strings_Join l sep = some R) :
    Calls Tryz.prog 144 #[.slice x_p l.length x_c, str sep] w0 fun e w' => e = .returned (str R) ∧ Below w0.heap.size w0 w' := by
  unfold strings_Join at hm
  split at hm
  · rename_i hb
    cases hm
    have hmap : (l.map fun x => (⟨x.toArray⟩ : ByteArray)).map (·.data.toList) = l := by
      rw [List.map_map]; exact List.map_id' l
    cases x_p with
    | none =>
      have hnil : cells zg l = [] := hs0
      have : l = [] := by
        cases l with
        | nil => rfl
        | cons x l => simp [cells, zg] at hnil
      subst this
      exact (Tryz.strings_Join_none none x_c ⟨sep.toArray⟩ w0).mono fun e w' h => by
        obtain ⟨he, hw⟩ := h
        subst he hw
        exact ⟨rfl, Below.refl _ _⟩
    | some a =>
      obtain ⟨bk, o, spot⟩ := a
      obtain ⟨h1, h2, h3⟩ := hs0
      simp only at h1; subst h1
      have := Tryz.strings_Join bk o x_c (l.map fun x => (⟨x.toArray⟩ : ByteArray)) ⟨sep.toArray⟩ w0 (fun j x hx => ?_) h2 (by simpa using hb.1) (by simpa using hc0) (by rw [hmap]; exact hb.2)
      · rw [hmap, List.length_map] at this
        exact this
      · rw [List.getElem?_map] at hx
        obtain ⟨y, hy, rfl⟩ := Option.map_eq_some_iff.1 hx
        refine h3 j _ ?_
        have := zjc (enc := zg) (sz := 1) (fun _ => rfl) l j 0 y hy (by omega)
        rw [Nat.mul_one, Nat.add_zero] at this
        exact this
  · cases hm
end Go.Proofs
end
