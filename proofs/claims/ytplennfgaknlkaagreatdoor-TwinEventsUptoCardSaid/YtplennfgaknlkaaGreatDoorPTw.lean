/-
  What the models are made with: contracts.
  Contracts of a program's functions: the facts that show them, written by a program (wip/gen).
  What whole runs are made with.
  What a function makes of given data.
  What a function makes of given data.
  The law by contracts.
  TwinEvents: what its model comes to.
-/
import Derived.Test.YtplennfgaknlkaaGreatDoorYD
import Derived.Test.YtplennfgaknlkaaGreatDoorYZd
import Derived.KernelRfl
section
set_option linter.unusedVariables false
set_option maxRecDepth 100000
namespace Go.Proofs
open Go.Dk Go.Dm Go.RowKit Go.Rk
noncomputable section
set_option maxHeartbeats 8000000 in
def G : Sig tau where
  fs
    | 0 => [.str, .str, .str, .str, .sl (.st 1), .sl (.st 1), .int, .int, .int, .sl (.st 2), .str, .str, .bool, .bool, .sl (.st 4)]
    | 1 => [.str, .str]
    | 2 => [.int, .int, .str, .str, .int, .str, .str, .sl (.st 3)]
    | 3 => [.int, .str]
    | 4 => [.int, .int]
    | 5 => [.str, .str, .str, .str, .sl (.st 1), .sl (.st 1)]
    | 6 => [.str, .str, .str, .str]
    | 7 => [.str, .str, .str, .str, .so 83 (.st 1), .so 83 (.st 1)]
    | 8 => [.int, .int, .str, .str, .int, .str, .str, .so 120 (.st 3)]
    | 9 => [.str, .str, .str, .str, .so 83 (.st 1), .so 83 (.st 1), .int, .int, .int, .so 73 (.st 2), .str, .str, .bool, .bool, .sl (.st 4)]
    | 10 => [.str, .str, .str, .str, .sl (.st 1), .sl (.st 1), .int, .int, .int, .sl (.st 2), .str, .str, .bool, .bool, .so 53 (.st 4)]
    | 11 => [.pn 12, .str, .str, .str, .str, .sl (.st 1), .sl (.st 1), .int, .int, .int, .so 73 (.st 2), .pn 14, .pn 16, .pn 18, .pn 14, .pn 16, .pn 18, .so 5 .u8, .so 5 .u8, .int, .bool, .bool, .bool, .bool, .bool, .bool, .bool]
    | 12 => [.so 183 (.st 13), .int, .bool]
    | 13 => [.str, .int, .bool]
    | 14 => [.int, .int, .so 5 .u8, .int, .bool, .int, .bool, .int, .str, .str, .int, .str, .int, .sl (.st 15)]
    | 15 => [.str, .str]
    | 16 => [.pn 17, .int, .int, .int, .bool, .bool]
    | 17 => [.int, .int, .so 5 .u8, .int, .int, .int, .so 218 (.st 15)]
    | 18 => [.pn 19, .int, .int, .int, .bool]
    | 19 => [.int, .str, .bool]
    | 20 => [.pn 14, .pn 16, .pn 18]
    | 21 => [.so 183 (.st 13), .int]
    | 22 => [.int, .str, .str, .int, .str, .int, .sl (.st 15)]
    | 23 => [.int, .str, .str, .int, .str, .int, .so 218 (.st 15)]
    | 24 => [.int, .int]
    | 25 => [.so 218 (.st 15)]
    | 26 => [.po 25, .int]
    | 27 => [.str, .int]
    | 28 => [.po 27, .so 9 .str, .int, .str]
    | 29 => [.po 27, .so 5 .u8]
    | 30 => [.sl .str]
    | 31 => [.str]
    | 32 => [.int, .str, .int]
    | 33 => [.int, .str, .int, .str, .int, .str, .str, .bool]
    | 34 => [.po 25, .int, .str, .str, .int, .str, .int, .sl (.st 15)]
    | 35 => [.str, .str, .str, .str, .str, .bool, .bool, .bool]
    | 36 => [.str, .str, .bool]
    | 37 => [.str, .str, .sl (.st 36)]
    | 38 => [.str, .str, .so 444 (.st 36)]
    | 39 => [.str, .str]
    | 40 => [.int, .str, .str, .sl (.st 3), .int]
    | 41 => [.so 437 (.st 40)]
    | 42 => [.int, .str, .str]
    | 43 => [.int, .str, .str, .so 120 (.st 3), .int]
    | 44 => [.po 25, .sl (.st 39), .int]
    | 45 => [.str, .str, .str, .str]
    | 46 => [.po 27]
    | 47 => [.po 27]
    | 48 => [.so 5 .u8, .int]
    | 49 => [.po 48, .bool]
    | 50 => [.po 27]
    | 51 => [.int, .int]
    | 52 => [.str, .str, .int, .int, .int, .int, .bool]
    | 53 => [.str, .int, .bool, .bool, .so 5 .u8, .nil /-('bad', 'func')-/, .nil /-('bad', 'func')-/]
    | _ => []
  ti
    | 0 => 30
    | 1 => 83
    | 2 => 73
    | 3 => 120
    | 4 => 53
    | 5 => 24
    | 6 => 81
    | 7 => 24
    | 8 => 73
    | 9 => 30
    | 10 => 30
    | 11 => 117
    | 12 => 141
    | 13 => 183
    | 14 => 180
    | 15 => 218
    | 16 => 158
    | 17 => 231
    | 18 => 195
    | 19 => 136
    | 20 => 115
    | 21 => 139
    | 22 => 178
    | 23 => 178
    | 24 => 155
    | 25 => 366
    | 26 => 334
    | 27 => 252
    | 28 => 418
    | 29 => 472
    | 30 => 163
    | 31 => 9
    | 32 => 131
    | 33 => 342
    | 34 => 339
    | 35 => 213
    | 36 => 444
    | 37 => 428
    | 38 => 428
    | 39 => 353
    | 40 => 437
    | 41 => 396
    | 42 => 70
    | 43 => 437
    | 44 => 400
    | 45 => 128
    | 46 => 206
    | 47 => 381
    | 48 => 361
    | 49 => 297
    | 50 => 442
    | 51 => 60
    | 52 => 62
    | 53 => 93
    | _ => 0
  ctor
    | 0, p => p
    | 1, p => p
    | 2, p => p
    | 3, p => p
    | 4, p => p
    | 5, p => p
    | 6, p => p
    | 7, p => p
    | 8, p => p
    | 9, p => p
    | 10, p => p
    | 11, p => p
    | 12, p => p
    | 13, p => p
    | 14, p => p
    | 15, p => p
    | 16, p => p
    | 17, p => p
    | 18, p => p
    | 19, p => p
    | 20, p => p
    | 21, p => p
    | 22, p => p
    | 23, p => p
    | 24, p => p
    | 25, p => p
    | 26, p => p
    | 27, p => p
    | 28, p => p
    | 29, p => p
    | 30, p => p
    | 31, p => p
    | 32, p => p
    | 33, p => p
    | 34, p => p
    | 35, p => p
    | 36, p => p
    | 37, p => p
    | 38, p => p
    | 39, p => p
    | 40, p => p
    | 41, p => p
    | 42, p => p
    | 43, p => p
    | 44, p => p
    | 45, p => p
    | 46, p => p
    | 47, p => p
    | 48, p => p
    | 49, p => p
    | 50, p => p
    | 51, p => p
    | 52, p => p
    | 53, p => p
    | _ + 54, _ => ()
  dtor
    | 0, p => p
    | 1, p => p
    | 2, p => p
    | 3, p => p
    | 4, p => p
    | 5, p => p
    | 6, p => p
    | 7, p => p
    | 8, p => p
    | 9, p => p
    | 10, p => p
    | 11, p => p
    | 12, p => p
    | 13, p => p
    | 14, p => p
    | 15, p => p
    | 16, p => p
    | 17, p => p
    | 18, p => p
    | 19, p => p
    | 20, p => p
    | 21, p => p
    | 22, p => p
    | 23, p => p
    | 24, p => p
    | 25, p => p
    | 26, p => p
    | 27, p => p
    | 28, p => p
    | 29, p => p
    | 30, p => p
    | 31, p => p
    | 32, p => p
    | 33, p => p
    | 34, p => p
    | 35, p => p
    | 36, p => p
    | 37, p => p
    | 38, p => p
    | 39, p => p
    | 40, p => p
    | 41, p => p
    | 42, p => p
    | 43, p => p
    | 44, p => p
    | 45, p => p
    | 46, p => p
    | 47, p => p
    | 48, p => p
    | 49, p => p
    | 50, p => p
    | 51, p => p
    | 52, p => p
    | 53, p => p
    | _ + 54, _ => ()
  cd
    | 0, _ => rfl
    | 1, _ => rfl
    | 2, _ => rfl
    | 3, _ => rfl
    | 4, _ => rfl
    | 5, _ => rfl
    | 6, _ => rfl
    | 7, _ => rfl
    | 8, _ => rfl
    | 9, _ => rfl
    | 10, _ => rfl
    | 11, _ => rfl
    | 12, _ => rfl
    | 13, _ => rfl
    | 14, _ => rfl
    | 15, _ => rfl
    | 16, _ => rfl
    | 17, _ => rfl
    | 18, _ => rfl
    | 19, _ => rfl
    | 20, _ => rfl
    | 21, _ => rfl
    | 22, _ => rfl
    | 23, _ => rfl
    | 24, _ => rfl
    | 25, _ => rfl
    | 26, _ => rfl
    | 27, _ => rfl
    | 28, _ => rfl
    | 29, _ => rfl
    | 30, _ => rfl
    | 31, _ => rfl
    | 32, _ => rfl
    | 33, _ => rfl
    | 34, _ => rfl
    | 35, _ => rfl
    | 36, _ => rfl
    | 37, _ => rfl
    | 38, _ => rfl
    | 39, _ => rfl
    | 40, _ => rfl
    | 41, _ => rfl
    | 42, _ => rfl
    | 43, _ => rfl
    | 44, _ => rfl
    | 45, _ => rfl
    | 46, _ => rfl
    | 47, _ => rfl
    | 48, _ => rfl
    | 49, _ => rfl
    | 50, _ => rfl
    | 51, _ => rfl
    | 52, _ => rfl
    | 53, _ => rfl
    | _ + 54, _ => rfl
  dc
    | 0, _ => rfl
    | 1, _ => rfl
    | 2, _ => rfl
    | 3, _ => rfl
    | 4, _ => rfl
    | 5, _ => rfl
    | 6, _ => rfl
    | 7, _ => rfl
    | 8, _ => rfl
    | 9, _ => rfl
    | 10, _ => rfl
    | 11, _ => rfl
    | 12, _ => rfl
    | 13, _ => rfl
    | 14, _ => rfl
    | 15, _ => rfl
    | 16, _ => rfl
    | 17, _ => rfl
    | 18, _ => rfl
    | 19, _ => rfl
    | 20, _ => rfl
    | 21, _ => rfl
    | 22, _ => rfl
    | 23, _ => rfl
    | 24, _ => rfl
    | 25, _ => rfl
    | 26, _ => rfl
    | 27, _ => rfl
    | 28, _ => rfl
    | 29, _ => rfl
    | 30, _ => rfl
    | 31, _ => rfl
    | 32, _ => rfl
    | 33, _ => rfl
    | 34, _ => rfl
    | 35, _ => rfl
    | 36, _ => rfl
    | 37, _ => rfl
    | 38, _ => rfl
    | 39, _ => rfl
    | 40, _ => rfl
    | 41, _ => rfl
    | 42, _ => rfl
    | 43, _ => rfl
    | 44, _ => rfl
    | 45, _ => rfl
    | 46, _ => rfl
    | 47, _ => rfl
    | 48, _ => rfl
    | 49, _ => rfl
    | 50, _ => rfl
    | 51, _ => rfl
    | 52, _ => rfl
    | 53, _ => rfl
    | _ + 54, _ => rfl
  eq
    | 1, x, y => eq1 x y
    | 3, x, y => eq3 x y
    | 4, x, y => eq4 x y
    | 13, x, y => eq13 x y
    | 15, x, y => eq15 x y
    | 24, x, y => eq24 x y
    | 32, x, y => eq32 x y
    | 36, x, y => eq36 x y
    | 39, x, y => eq39 x y
    | 42, x, y => eq42 x y
    | 45, x, y => eq45 x y
    | _, _, _ => true
  fp := [(133, f133), (168, f168), (178, f178), (179, f179), (189, f189), (190, f190), (234, f234), (236, f236), (249, f249), (250, f250), (302, f302), (303, f303), (309, f309), (346, f346), (384, f384), (413, f413), (414, f414)]
  gl := []
  ax h := ∀ w, Fz.on h w → GlobT w
  axm hh ha w hw := ha w fun b o e => hw b o (hh b o e)
def G0 : Sig tau := ⟨G.fs, G.ti, G.ctor, G.dtor, G.cd, G.dc, G.eq, [], [], fun _ => True, fun _ h => h⟩
def tyl : List (TypeId × Ty) := [(5, .u8), (9, .str), (53, .st 4), (70, .st 42), (73, .st 2), (83, .st 1), (120, .st 3), (128, .st 45), (131, .st 32), (155, .st 24), (183, .st 13), (218, .st 15), (353, .st 39), (437, .st 40), (444, .st 36)]
def KlClone21 : Con tau := ⟨[.sl (.st 4)], [.so 53 (.st 4)], 1, [], lClone21⟩
def KlClone287 : Con tau := ⟨[.sl (.st 15)], [.so 218 (.st 15)], 1, [], lClone287⟩
def KlFold : Con tau := ⟨[.str], [.str], 1, [], lFold⟩
def KlFour : Con tau := ⟨[.str], [.bool], 1, [], lFour⟩
def KlClone50 : Con tau := ⟨[.sl (.st 3)], [.so 120 (.st 3)], 1, [], lClone50⟩
def KlClone49 : Con tau := ⟨[.sl (.st 1)], [.so 83 (.st 1)], 1, [], lClone49⟩
def KlJoin : Con tau := ⟨[.sl .str, .str], [.str], 1, [], lJoin⟩
def KlIndexAny : Con tau := ⟨[.str, .str], [.int], 1, [], lIndexAny⟩
def KlCut : Con tau := ⟨[.str, .str], [.str, .str, .bool], 3, [], lCut⟩
def KlTrim : Con tau := ⟨[.str, .str], [.str], 1, [], lTrim⟩
def KlSplit : Con tau := ⟨[.str, .str], [.so 9 .str], 1, [], lSplit⟩
def KlFormatInt : Con tau := ⟨[.int, .int], [.str], 1, [], lFormatInt⟩
def KlIndexByte : Con tau := ⟨[.str, .u8], [.int], 1, [], lIndexByte⟩
def KlContains : Con tau := ⟨[.str, .str], [.bool], 1, [], lContains⟩
def KlIndex : Con tau := ⟨[.str, .str], [.int], 1, [], lIndex⟩
def KlTrimRight : Con tau := ⟨[.str, .str], [.str], 1, [], lTrimRight⟩
def KlAwake4 : Con tau := ⟨[], [.bool], 1, [], lAwake4⟩
def Kf33 : Con tau := ⟨[.st 1], [.st 1], 1, [], f33⟩
def Kf26 : Con tau := ⟨[.st 5], [.st 7], 1, [], f26⟩
def Kf27 : Con tau := ⟨[.sl (.st 1)], [.so 83 (.st 1)], 1, [], f27⟩
def Kf15 : Con tau := ⟨[.st 5], [.st 7], 1, [], f15⟩
def Kf44 : Con tau := ⟨[.sl (.st 3)], [.so 120 (.st 3)], 1, [], f44⟩
def Kf34 : Con tau := ⟨[.st 2], [.st 8], 1, [], f34⟩
def Kf28 : Con tau := ⟨[.sl (.st 2)], [.so 73 (.st 2)], 1, [], f28⟩
def Kf16 : Con tau := ⟨[.sl (.st 2)], [.so 73 (.st 2)], 1, [], f16⟩
def Kf5 : Con tau := ⟨[.st 0], [.st 9], 1, [], f5⟩
def Kf17 : Con tau := ⟨[.int, .int], [.int, .int], 2, [], f17⟩
def Kf6 : Con tau := ⟨[.st 0, .int], [.so 53 (.st 4), .int], 2, [], f6⟩
def Kf7 : Con tau := ⟨[.st 0, .int], [.so 53 (.st 4), .int], 2, [], f7⟩
def Kf20 : Con tau := ⟨[.st 4], [.bool], 1, [], f20⟩
def Kf19 : Con tau := ⟨[.sl (.st 4), .fc 20], [.so 53 (.st 4)], 1, [], f19⟩
def Kf9 : Con tau := ⟨[.st 0], [.so 53 (.st 4)], 1, [], f9⟩
def Kf18 : Con tau := ⟨[.st 4], [.int], 1, [], f18⟩
def Kf8 : Con tau := ⟨[.sl (.st 4)], [.int, .int], 2, [], f8⟩
def Kf10 : Con tau := ⟨[.st 0, .sl (.st 4)], [.st 10], 1, [], f10⟩
def Kf11 : Con tau := ⟨[.sl (.st 4), .sl (.st 4)], [.bool], 1, [], f11⟩
def Kf22 : Con tau := ⟨[.st 4], [.bool], 1, [], f22⟩
def Kf19a : Con tau := ⟨[.sl (.st 4), .fc 22], [.so 53 (.st 4)], 1, [], f19a⟩
def Kf23a : Con tau := ⟨[.so 53 (.st 4)], [.so 53 (.st 4)], 0, [0], f23a⟩
def Kf12 : Con tau := ⟨[.sl (.st 4)], [.so 53 (.st 4)], 1, [], f12⟩
def Kf24 : Con tau := ⟨[.st 4], [.int], 1, [], f24⟩
def Kf13 : Con tau := ⟨[.sl (.st 4)], [.so 53 (.st 4)], 1, [], f13⟩
def Kf3 : Con tau := ⟨[.st 0, .int, .sl (.st 4)], [.bool], 1, [], f3⟩
def Kf99 : Con tau := ⟨[.nil], [.bool], 1, [], f99⟩
def Kf99a : Con tau := ⟨[.pt 14], [.bool], 1, [], f99a⟩
def Kf68 : Con tau := ⟨[.pt 20], [.bool], 1, [], f68⟩
def Kf69 : Con tau := ⟨[.nil], [.bool], 1, [], f69⟩
def Kf100 : Con tau := ⟨[.pt 21], [.int], 1, [], f100⟩
def Kf69a : Con tau := ⟨[.pt 12], [.bool], 1, [], f69a⟩
def Kf52 : Con tau := ⟨[.pt 11], [.bool], 1, [], f52⟩
def Kf70 : Con tau := ⟨[.nil, .str], [.int, .bool, .int], 3, [], f70⟩
def Kf102 : Con tau := ⟨[.int], [.int], 1, [], f102⟩
def Kf103 : Con tau := ⟨[.nil], [.st 23, .bool], 2, [], f103⟩
def Kf216 : Con tau := ⟨[.sl (.st 15)], [.po 25], 1, [], f216⟩
def Kf274 : Con tau := ⟨[.pt 25], [.so 218 (.st 15)], 1, [], f274⟩
def Kf288 : Con tau := ⟨[.str, .str], [.bool], 1, [], f288⟩
def Kf217 : Con tau := ⟨[.pt 25, .str], [.so 9 .str], 1, [], f217⟩
def Kf122 : Con tau := ⟨[.str], [.po 27], 1, [], f122⟩
def Kf171 : Con tau := ⟨[.pt 27], [.str], 1, [], f171⟩
def Kf169 : Con tau := ⟨[.pt 27], [.bool], 1, [], f169⟩
def Kf229 : Con tau := ⟨[.pt 27], [.int], 1, [], f229⟩
def Kf166 : Con tau := ⟨[.pt 27], [.u8, .bool], 2, [], f166⟩
def Kf124 : Con tau := ⟨[.pt 27, .u8], [.bool], 1, [], f124⟩
def Kf249 : Con tau := ⟨[.u8], [.bool], 1, [], f249⟩
def Kf250 : Con tau := ⟨[.u8], [.bool], 1, [], f250⟩
def Kf190 : Con tau := ⟨[.u8], [.bool], 1, [], f190⟩
def Kf124a : Con tau := ⟨[.po 27, .u8], [.bool, .po 27], 1, [0], f124a⟩
def Kf409a : Con tau := ⟨[.po 29], [.bool, .po 29], 1, [0], f409a⟩
def Kf410a : Con tau := ⟨[.po 27, .int], [.bool, .po 27], 1, [0], f410a⟩
def Kf387 : Con tau := ⟨[.pt 27], [.str, .bool], 2, [], f387⟩
def Kf349a : Con tau := ⟨[.po 28, .int], [.po 28], 0, [0], f349a⟩
def Kf386a : Con tau := ⟨[.po 28], [.bool, .po 28], 1, [0], f386a⟩
def Kf387a : Con tau := ⟨[.po 27], [.str, .bool, .po 27], 2, [0], f387a⟩
def Kf348a : Con tau := ⟨[.po 28], [.bool, .po 28], 1, [0], f348a⟩
def Kf312 : Con tau := ⟨[.str], [.so 9 .str, .int], 2, [], f312⟩
def Kf239 : Con tau := ⟨[.u8], [.u8], 1, [], f239⟩
def Kf236 : Con tau := ⟨[.u8], [.bool], 1, [], f236⟩
def Kf133 : Con tau := ⟨[.u8], [.bool], 1, [], f133⟩
def Kf237 : Con tau := ⟨[.u8, .str], [.bool], 1, [], f237⟩
def Kf189 : Con tau := ⟨[.u8], [.bool], 1, [], f189⟩
def Kf181 : Con tau := ⟨[.fn, .sl .str], [.bool], 1, [], f181⟩
def Kf136 : Con tau := ⟨[.str], [.bool], 1, [], f136⟩
def Kf289 : Con tau := ⟨[.sl .str], [.so 9 .str, .int], 2, [], f289⟩
def Kf267 : Con tau := ⟨[.st 26, .sl .str], [.st 24, .int, .po 25], 2, [32], f267⟩
def Kf182 : Con tau := ⟨[.u8], [.int], 1, [], f182⟩
def Kf132 : Con tau := ⟨[.str, .int, .int, .fn], [.int, .int], 2, [], f132⟩
def Kf91 : Con tau := ⟨[.str, .int], [.int, .int], 2, [], f91⟩
def Kf268 : Con tau := ⟨[.st 26, .sl .str], [.st 24, .int, .po 25], 2, [32], f268⟩
def Kf200 : Con tau := ⟨[.st 22, .int], [.st 24, .int], 2, [], f200⟩
def Kf142 : Con tau := ⟨[.st 22], [.st 24, .int], 2, [], f142⟩
def Kf258 : Con tau := ⟨[.sl .str, .str], [.int], 1, [], f258⟩
def Kf193 : Con tau := ⟨[.sl .str, .str], [.bool], 1, [], f193⟩
def Kf314 : Con tau := ⟨[.sl (.st 15)], [.so 9 .str], 1, [], f314⟩
def Kf257 : Con tau := ⟨[], [.so 9 .str], 1, [], f257⟩
def Kf389 : Con tau := ⟨[.str, .pt 31], [.bool], 1, [], f389⟩
def Kf411 : Con tau := ⟨[.sl .str, .cl 389 (.pt 31)], [.int], 1, [], f411⟩
def Kf388 : Con tau := ⟨[.sl .str, .cl 389 (.pt 31)], [.bool], 1, [], f388⟩
def Kf352 : Con tau := ⟨[.str, .sl .str], [.bool], 1, [], f352⟩
def Kf351 : Con tau := ⟨[.st 15, .pt 30], [.bool], 1, [], f351⟩
def Kf355 : Con tau := ⟨[.sl (.st 15), .cl 351 (.pt 30)], [.int], 1, [], f355⟩
def Kf350a : Con tau := ⟨[.so 218 (.st 15), .cl 351 (.pt 30)], [.so 218 (.st 15)], 1, [], f350a⟩
def Kf313b : Con tau := ⟨[.po 25, .sl .str], [.int, .po 25], 1, [0], f313b⟩
def Kf269 : Con tau := ⟨[.sl (.st 15)], [.so 218 (.st 15)], 1, [], f269⟩
def Kf234 : Con tau := ⟨[.u8], [.bool], 1, [], f234⟩
def Kf175 : Con tau := ⟨[.str, .bool], [.int], 1, [], f175⟩
def Kf127 : Con tau := ⟨[.str], [.bool], 1, [], f127⟩
def Kf177 : Con tau := ⟨[.str], [.bool], 1, [], f177⟩
def Kf178 : Con tau := ⟨[.u8], [.bool], 1, [], f178⟩
def Kf179 : Con tau := ⟨[.u8], [.bool], 1, [], f179⟩
def Kf129 : Con tau := ⟨[.str], [.bool], 1, [], f129⟩
def Kf88 : Con tau := ⟨[.str], [.st 32, .bool], 2, [], f88⟩
def Kf130 : Con tau := ⟨[.str, .u8], [.int], 1, [], f130⟩
def Kf89 : Con tau := ⟨[.str, .u8], [.int], 1, [], f89⟩
def Kf180 : Con tau := ⟨[.int, .int], [.str], 1, [], f180⟩
def Kf131 : Con tau := ⟨[.int], [.str], 1, [], f131⟩
def Kf90 : Con tau := ⟨[.str, .int], [.bool], 1, [], f90⟩
def Kf63 : Con tau := ⟨[.str], [.st 32, .int], 2, [], f63⟩
def Kf294 : Con tau := ⟨[.str, .str], [.bool], 1, [], f294⟩
def Kf245 : Con tau := ⟨[.str, .str], [.bool], 1, [], f245⟩
def Kf303 : Con tau := ⟨[.u8], [.bool], 1, [], f303⟩
def Kf369 : Con tau := ⟨[.str, .str], [.bool], 1, [], f369⟩
def Kf325 : Con tau := ⟨[.str], [.bool], 1, [], f325⟩
def Kf326 : Con tau := ⟨[.str], [.bool], 1, [], f326⟩
def Kf279 : Con tau := ⟨[.str], [.str, .str, .bool, .int], 4, [], f279⟩
def Kf354 : Con tau := ⟨[.st 33, .str], [.st 33, .bool], 2, [], f354⟩
def Kf353 : Con tau := ⟨[.str], [.st 33, .bool], 2, [], f353⟩
def Kf315 : Con tau := ⟨[.str, .str], [.st 33, .bool], 2, [], f315⟩
def Kf270 : Con tau := ⟨[.str, .str], [.st 33, .int], 2, [], f270⟩
def Kf316 : Con tau := ⟨[.str, .str, .bool], [.str], 1, [], f316⟩
def Kf271 : Con tau := ⟨[.st 33], [.str], 1, [], f271⟩
def Kf86 : Con tau := ⟨[.str, .sl .str], [.str], 1, [], f86⟩
def Kf317 : Con tau := ⟨[.st 32], [.str, .int], 2, [], f317⟩
def Kf356 : Con tau := ⟨[.st 15, .pt 31], [.bool], 1, [], f356⟩
def Kf355a : Con tau := ⟨[.sl (.st 15), .cl 356 (.pt 31)], [.int], 1, [], f355a⟩
def Kf357 : Con tau := ⟨[.sl (.st 15), .int, .sl (.st 15)], [.sl (.st 15)], 1, [], f357⟩
def Kf357a : Con tau := ⟨[.sl (.st 15), .int, .so 218 (.st 15)], [.sl (.st 15)], 1, [], f357a⟩
def Kf319 : Con tau := ⟨[.pt 25, .str], [.str, .bool], 2, [], f319⟩
def Kf320b : Con tau := ⟨[.po 25, .sl (.st 15)], [.po 25], 0, [0], f320b⟩
def Kf357b : Con tau := ⟨[.so 218 (.st 15), .int, .sl (.st 15)], [.sl (.st 15)], 1, [], f357b⟩
def Kf357c : Con tau := ⟨[.so 218 (.st 15), .int, .so 218 (.st 15)], [.sl (.st 15)], 1, [], f357c⟩
def Kf318a : Con tau := ⟨[.po 25, .str, .str], [.po 25], 0, [0], f318a⟩
def Kf272a : Con tau := ⟨[.po 34, .st 5, .st 33], [.po 34], 0, [0], f272a⟩
def Kf275a : Con tau := ⟨[.po 34], [.st 23, .int], 2, [], f275a⟩
def Kf230 : Con tau := ⟨[.str, .str], [.str, .bool], 2, [], f230⟩
def Kf170 : Con tau := ⟨[.str, .str], [.str, .bool], 2, [], f170⟩
def Kf295 : Con tau := ⟨[.str, .str], [.bool], 1, [], f295⟩
def Kf392 : Con tau := ⟨[.str, .str], [.bool], 1, [], f392⟩
def Kf358 : Con tau := ⟨[.str, .sl (.st 1)], [.str, .bool], 2, [], f358⟩
def Kf302 : Con tau := ⟨[.u8], [.bool], 1, [], f302⟩
def Kf244 : Con tau := ⟨[.str], [.bool], 1, [], f244⟩
def Kf246 : Con tau := ⟨[.str, .str], [.str, .str], 2, [], f246⟩
def Kf187 : Con tau := ⟨[.str], [.st 35], 1, [], f187⟩
def Kf247 : Con tau := ⟨[.str, .str], [.bool], 1, [], f247⟩
def Kf188 : Con tau := ⟨[.st 35], [.bool], 1, [], f188⟩
def Kf135 : Con tau := ⟨[.str], [.st 35, .int], 2, [], f135⟩
def Kf94 : Con tau := ⟨[.str], [.bool], 1, [], f94⟩
def Kf321 : Con tau := ⟨[.str, .sl (.st 1)], [.str], 1, [], f321⟩
def Kf167a : Con tau := ⟨[.po 27, .fn], [.str, .po 27], 1, [0], f167a⟩
def Kf165a : Con tau := ⟨[.po 27], [.str, .bool, .po 27], 2, [0], f165a⟩
def Kf413 : Con tau := ⟨[.u8], [.bool], 1, [], f413⟩
def Kf393 : Con tau := ⟨[.str], [.st 36, .bool], 2, [], f393⟩
def Kf231 : Con tau := ⟨[.str, .str], [.str, .bool], 2, [], f231⟩
def Kf172 : Con tau := ⟨[.str, .str], [.str, .bool], 2, [], f172⟩
def Kf414 : Con tau := ⟨[.u8], [.bool], 1, [], f414⟩
def Kf394 : Con tau := ⟨[.str], [.bool], 1, [], f394⟩
def Kf359 : Con tau := ⟨[.str], [.st 38, .int], 2, [], f359⟩
def Kf395 : Con tau := ⟨[.st 37, .str], [.int], 1, [], f395⟩
def Kf360 : Con tau := ⟨[.st 37, .str], [.str, .bool], 2, [], f360⟩
def Kf415 : Con tau := ⟨[.str, .str], [.str], 1, [], f415⟩
def Kf396 : Con tau := ⟨[.str, .str], [.str], 1, [], f396⟩
def Kf397 : Con tau := ⟨[.str, .str], [.bool], 1, [], f397⟩
def Kf361 : Con tau := ⟨[.str, .sl (.st 1)], [.str, .bool], 2, [], f361⟩
def Kf363 : Con tau := ⟨[.st 37, .str, .str], [.st 38], 1, [], f363⟩
def Kf416 : Con tau := ⟨[.sl (.st 36), .sl (.st 36)], [.bool], 1, [], f416⟩
def Kf398 : Con tau := ⟨[.st 37, .st 37], [.bool], 1, [], f398⟩
def Kf362 : Con tau := ⟨[.st 37], [.str, .int], 2, [], f362⟩
def Kf322 : Con tau := ⟨[.str, .sl (.st 1)], [.str], 1, [], f322⟩
def Kf273 : Con tau := ⟨[.st 5, .sl (.st 15)], [.so 218 (.st 15)], 1, [], f273⟩
def Kf201 : Con tau := ⟨[.st 5, .st 22], [.st 23, .int], 2, [], f201⟩
def Kf278 : Con tau := ⟨[.str, .str], [.st 39], 1, [], f278⟩
def Kf203 : Con tau := ⟨[.st 5, .st 22], [.so 353 (.st 39)], 1, [], f203⟩
def Kf95 : Con tau := ⟨[.int], [.so 9 .str], 1, [], f95⟩
def Kf66 : Con tau := ⟨[.st 2], [.nil], 1, [], f66⟩
def Kf48 : Con tau := ⟨[.sl (.st 2)], [.int, .int], 2, [], f48⟩
def Kf399 : Con tau := ⟨[.st 2], [.so 9 .str], 1, [], f399⟩
def Kf364 : Con tau := ⟨[.sl (.st 2)], [.int], 1, [], f364⟩
def Kf365 : Con tau := ⟨[.st 42, .int], [.st 43], 1, [], f365⟩
def Kf400 : Con tau := ⟨[.st 2], [.st 43], 1, [], f400⟩
def Kf366a : Con tau := ⟨[.po 41, .sl (.st 2)], [.po 41], 0, [0], f366a⟩
def Kf323b : Con tau := ⟨[.po 41, .sl (.st 2)], [.po 41], 0, [0], f323b⟩
def Kf276 : Con tau := ⟨[.int, .sl (.st 2)], [.so 437 (.st 40), .int], 2, [], f276⟩
def Kf324 : Con tau := ⟨[.pt 44, .sl (.st 40)], [], 0, [], f324⟩
def Kf367 : Con tau := ⟨[.pt 44, .st 40], [.bool], 1, [], f367⟩
def Kf419 : Con tau := ⟨[.sl (.st 39), .str], [.str], 1, [], f419⟩
def Kf420 : Con tau := ⟨[.str], [.str], 1, [], f420⟩
def Kf417 : Con tau := ⟨[.sl (.st 39), .sl (.st 15), .sl (.st 3)], [.str], 1, [], f417⟩
def Kf401 : Con tau := ⟨[.pt 44, .sl (.st 3)], [.str], 1, [], f401⟩
def Kf402a : Con tau := ⟨[.po 25, .str, .str], [.int, .po 25], 1, [0], f402a⟩
def Kf368a : Con tau := ⟨[.po 44, .st 40], [.po 44], 0, [0], f368a⟩
def Kf277 : Con tau := ⟨[.sl (.st 39), .sl (.st 15), .sl (.st 40)], [.so 218 (.st 15)], 1, [], f277⟩
def Kf324b : Con tau := ⟨[.pt 44, .so 437 (.st 40)], [.so 437 (.st 40)], 0, [1], f324b⟩
def Kf277a : Con tau := ⟨[.sl (.st 39), .sl (.st 15), .so 437 (.st 40)], [.so 218 (.st 15)], 1, [], f277a⟩
def Kf202 : Con tau := ⟨[.sl (.st 39), .sl (.st 15), .int, .sl (.st 2)], [.so 218 (.st 15), .int], 2, [], f202⟩
def Kf277b : Con tau := ⟨[.sl (.st 39), .so 218 (.st 15), .sl (.st 40)], [.so 218 (.st 15)], 1, [], f277b⟩
def Kf277c : Con tau := ⟨[.sl (.st 39), .so 218 (.st 15), .so 437 (.st 40)], [.so 218 (.st 15)], 1, [], f277c⟩
def Kf202a : Con tau := ⟨[.sl (.st 39), .so 218 (.st 15), .int, .sl (.st 2)], [.so 218 (.st 15), .int], 2, [], f202a⟩
def Kf277d : Con tau := ⟨[.so 353 (.st 39), .sl (.st 15), .sl (.st 40)], [.so 218 (.st 15)], 1, [], f277d⟩
def Kf277e : Con tau := ⟨[.so 353 (.st 39), .sl (.st 15), .so 437 (.st 40)], [.so 218 (.st 15)], 1, [], f277e⟩
def Kf202b : Con tau := ⟨[.so 353 (.st 39), .sl (.st 15), .int, .sl (.st 2)], [.so 218 (.st 15), .int], 2, [], f202b⟩
def Kf277f : Con tau := ⟨[.so 353 (.st 39), .so 218 (.st 15), .sl (.st 40)], [.so 218 (.st 15)], 1, [], f277f⟩
def Kf277g : Con tau := ⟨[.so 353 (.st 39), .so 218 (.st 15), .so 437 (.st 40)], [.so 218 (.st 15)], 1, [], f277g⟩
def Kf202c : Con tau := ⟨[.so 353 (.st 39), .so 218 (.st 15), .int, .sl (.st 2)], [.so 218 (.st 15), .int], 2, [], f202c⟩
def Kf123a : Con tau := ⟨[.st 46, .po 45], [.bool, .po 45, .po 27], 1, [1, 32], f123a⟩
def Kf168 : Con tau := ⟨[.u8], [.bool], 1, [], f168⟩
def Kf93 : Con tau := ⟨[.str, .str], [.bool], 1, [], f93⟩
def Kf125a : Con tau := ⟨[.st 46, .po 45], [.bool, .po 45, .po 27], 1, [1, 32], f125a⟩
def Kf173 : Con tau := ⟨[.str], [.bool], 1, [], f173⟩
def Kf126a : Con tau := ⟨[.st 46, .po 45], [.bool, .po 45, .po 27], 1, [1, 32], f126a⟩
def Kf87 : Con tau := ⟨[.str], [.st 45, .int], 2, [], f87⟩
def Kf62 : Con tau := ⟨[.st 45], [.str, .int], 2, [], f62⟩
def Kf403 : Con tau := ⟨[.sl .str], [.str], 1, [], f403⟩
def Kf370 : Con tau := ⟨[.str, .sl .str], [.str], 1, [], f370⟩
def Kf327a : Con tau := ⟨[.po 25, .str, .str], [.po 25], 0, [0], f327a⟩
def Kf280 : Con tau := ⟨[.st 45, .sl (.st 15)], [.so 218 (.st 15), .int], 2, [], f280⟩
def Kf372 : Con tau := ⟨[.str], [.str], 1, [], f372⟩
def Kf329 : Con tau := ⟨[.st 5], [.so 353 (.st 39)], 1, [], f329⟩
def Kf405 : Con tau := ⟨[.str], [.str, .int], 2, [], f405⟩
def Kf371 : Con tau := ⟨[.str], [.str, .int], 2, [], f371⟩
def Kf328 : Con tau := ⟨[.sl (.st 39)], [.str, .int], 2, [], f328⟩
def Kf281 : Con tau := ⟨[.st 5, .sl (.st 15)], [.so 218 (.st 15), .int], 2, [], f281⟩
def Kf330 : Con tau := ⟨[.str], [.bool], 1, [], f330⟩
def Kf282 : Con tau := ⟨[.str, .sl (.st 15)], [.so 218 (.st 15)], 1, [], f282⟩
def Kf204 : Con tau := ⟨[.st 5, .int, .st 22], [.st 23, .int], 2, [], f204⟩
def Kf205 : Con tau := ⟨[.st 24], [.so 218 (.st 15)], 1, [], f205⟩
def Kf143 : Con tau := ⟨[.st 5, .st 24, .st 22, .sl (.st 2)], [.st 23, .int], 2, [], f143⟩
def Kf343a : Con tau := ⟨[.po 27, .str], [.bool, .po 27], 1, [0], f343a⟩
def Kf385 : Con tau := ⟨[.st 47], [.int, .bool, .po 27], 2, [32], f385⟩
def Kf347 : Con tau := ⟨[.st 47], [.int, .int, .bool, .po 27], 3, [32], f347⟩
def Kf308 : Con tau := ⟨[.str], [.bool], 1, [], f308⟩
def Kf309 : Con tau := ⟨[.u8], [.bool], 1, [], f309⟩
def Kf310 : Con tau := ⟨[.st 47], [.int, .bool, .po 27], 2, [32], f310⟩
def Kf262 : Con tau := ⟨[.str], [.st 23, .int], 2, [], f262⟩
def Kf263 : Con tau := ⟨[.str], [.st 23, .int], 2, [], f263⟩
def Kf197 : Con tau := ⟨[.int, .str], [.st 23, .int], 2, [], f197⟩
def Kf208 : Con tau := ⟨[.st 22], [.str, .int], 2, [], f208⟩
def Kf137 : Con tau := ⟨[.st 15], [.int], 1, [], f137⟩
def Kf311 : Con tau := ⟨[.st 22], [.bool], 1, [], f311⟩
def Kf266 : Con tau := ⟨[.st 22], [.int], 1, [], f266⟩
def Kf206 : Con tau := ⟨[.st 22], [.int], 1, [], f206⟩
def Kf207 : Con tau := ⟨[.int], [.po 48], 1, [], f207⟩
def Kf283 : Con tau := ⟨[.pt 48, .sl .str], [.nil], 1, [], f283⟩
def Kf209 : Con tau := ⟨[.pt 49, .str], [], 0, [], f209⟩
def Kf210 : Con tau := ⟨[.st 15], [.str, .int], 2, [], f210⟩
def Kf211 : Con tau := ⟨[.pt 48], [.str], 1, [], f211⟩
def Kf144 : Con tau := ⟨[.st 22, .int], [.str, .int], 2, [], f144⟩
def Kf104 : Con tau := ⟨[.pt 11, .st 22], [.str, .st 24, .int], 3, [], f104⟩
def Kf145 : Con tau := ⟨[.int], [.pn 17, .int], 2, [], f145⟩
def Kf105 : Con tau := ⟨[.st 24, .int], [.pn 16, .int], 2, [], f105⟩
def Kf103a : Con tau := ⟨[.pt 14], [.st 23, .bool], 2, [], f103a⟩
def Kf73 : Con tau := ⟨[.nil, .str], [.int, .str, .bool, .int], 4, [], f73⟩
def Kf109 : Con tau := ⟨[.nil], [.int], 1, [], f109⟩
def Kf74 : Con tau := ⟨[.nil, .str], [.str, .int], 2, [], f74⟩
def Kf81 : Con tau := ⟨[.nil], [.so 218 (.st 15)], 1, [], f81⟩
def Kf80 : Con tau := ⟨[.nil, .sl (.st 15)], [.str, .int], 2, [], f80⟩
def Kf218 : Con tau := ⟨[.str, .sl .str], [.bool], 1, [], f218⟩
def Kf149 : Con tau := ⟨[.st 22], [.bool], 1, [], f149⟩
def Kf111 : Con tau := ⟨[.st 22], [.st 13], 1, [], f111⟩
def Kf112 : Con tau := ⟨[.nil, .sl (.st 13)], [.int], 1, [], f112⟩
def Kf220 : Con tau := ⟨[.st 13], [.bool], 1, [], f220⟩
def Kf219 : Con tau := ⟨[.sl (.st 13), .fc 220], [.int], 1, [], f219⟩
def Kf150 : Con tau := ⟨[.sl (.st 13)], [.bool], 1, [], f150⟩
def Kf151 : Con tau := ⟨[.pt 21, .sl (.st 13)], [], 0, [], f151⟩
def Kf118 : Con tau := ⟨[.nil], [.so 218 (.st 15)], 1, [], f118⟩
def Kf118a : Con tau := ⟨[.pt 17], [.so 218 (.st 15)], 1, [], f118a⟩
def Kf81a : Con tau := ⟨[.pt 16], [.so 218 (.st 15)], 1, [], f81a⟩
def Kf109a : Con tau := ⟨[.pt 18], [.int], 1, [], f109a⟩
def Kf147 : Con tau := ⟨[.nil], [.int], 1, [], f147⟩
def Kf158 : Con tau := ⟨[.sl (.st 15)], [.str, .int], 2, [], f158⟩
def Kf117 : Con tau := ⟨[.nil, .sl (.st 15)], [.str, .int], 2, [], f117⟩
def Kf147a : Con tau := ⟨[.pt 19], [.int], 1, [], f147a⟩
def Kf286 : Con tau := ⟨[.int], [.str], 1, [], f286⟩
def Kf215 : Con tau := ⟨[.int], [.str], 1, [], f215⟩
def Kf148 : Con tau := ⟨[.str], [.str], 1, [], f148⟩
def Kf110 : Con tau := ⟨[.nil, .str], [.str, .int], 2, [], f110⟩
def Kf108 : Con tau := ⟨[.nil, .str], [.int, .str, .bool, .int], 4, [], f108⟩
def Kf71a : Con tau := ⟨[.po 11, .int], [.po 11], 0, [0], f71a⟩
def Kf202d : Con tau := ⟨[.sl (.st 39), .sl (.st 15), .int, .so 73 (.st 2)], [.so 218 (.st 15), .int], 2, [], f202d⟩
def Kf202e : Con tau := ⟨[.sl (.st 39), .so 218 (.st 15), .int, .so 73 (.st 2)], [.so 218 (.st 15), .int], 2, [], f202e⟩
def Kf202f : Con tau := ⟨[.so 353 (.st 39), .sl (.st 15), .int, .so 73 (.st 2)], [.so 218 (.st 15), .int], 2, [], f202f⟩
def Kf202g : Con tau := ⟨[.so 353 (.st 39), .so 218 (.st 15), .int, .so 73 (.st 2)], [.so 218 (.st 15), .int], 2, [], f202g⟩
def Kf143a : Con tau := ⟨[.st 5, .st 24, .st 22, .so 73 (.st 2)], [.st 23, .int], 2, [], f143a⟩
def Kf104a : Con tau := ⟨[.po 11, .st 22], [.str, .st 24, .int, .po 11], 3, [0], f104a⟩
def Kf75b : Con tau := ⟨[.po 11, .sl .str], [.po 11], 0, [0], f75b⟩
def Kf46 : Con tau := ⟨[.int], [.pn 19, .int], 2, [], f46⟩
def Kf106 : Con tau := ⟨[.st 24, .int], [.pn 18, .int], 2, [], f106⟩
def Kf107 : Con tau := ⟨[.nil], [.bool], 1, [], f107⟩
def Kf67 : Con tau := ⟨[.int, .int], [.pn 14, .int], 2, [], f67⟩
def Kf51 : Con tau := ⟨[.int, .int], [.st 20], 1, [], f51⟩
def Kf151b : Con tau := ⟨[.po 21, .sl (.st 13)], [.po 21], 0, [0], f151b⟩
def Kf112c : Con tau := ⟨[.po 12, .sl (.st 13)], [.int, .po 12], 1, [0], f112c⟩
def Kf151c : Con tau := ⟨[.po 21, .so 183 (.st 13)], [.po 21, .so 183 (.st 13)], 0, [0, 1], f151c⟩
def Kf117c : Con tau := ⟨[.po 19, .sl (.st 15)], [.str, .int, .po 19], 2, [0], f117c⟩
def Kf80c : Con tau := ⟨[.po 18, .sl (.st 15)], [.str, .int, .po 18], 2, [0], f80c⟩
def Kf76a : Con tau := ⟨[.po 11], [.po 11], 0, [0], f76a⟩
def Kf107a : Con tau := ⟨[.pt 16], [.bool], 1, [], f107a⟩
def Kf72a : Con tau := ⟨[.po 11], [.po 11], 0, [0], f72a⟩
def Kf140 : Con tau := ⟨[.pt 14], [.bool], 1, [], f140⟩
def Kf264a : Con tau := ⟨[.po 27], [.str, .po 27], 1, [0], f264a⟩
def Kf198 : Con tau := ⟨[.str], [.st 15, .int], 2, [], f198⟩
def Kf199 : Con tau := ⟨[.int, .str, .int], [.st 23, .int], 2, [], f199⟩
def Kf141a : Con tau := ⟨[.po 14, .str], [.bool, .int, .po 14], 2, [0], f141a⟩
def Kf101a : Con tau := ⟨[.po 14, .u8], [.bool, .int, .po 14], 2, [0], f101a⟩
def Kf70b : Con tau := ⟨[.po 14, .str], [.int, .bool, .int, .po 14], 3, [0], f70b⟩
def Kf110b : Con tau := ⟨[.po 19, .str], [.str, .int, .po 19], 2, [0], f110b⟩
def Kf74b : Con tau := ⟨[.po 18, .str], [.str, .int, .po 18], 2, [0], f74b⟩
def Kf212a : Con tau := ⟨[.po 17, .str], [.str, .po 17], 1, [0], f212a⟩
def Kf213a : Con tau := ⟨[.po 17, .u8], [.int, .po 17], 1, [0], f213a⟩
def Kf374 : Con tau := ⟨[.str, .int], [.int, .int], 2, [], f374⟩
def Kf406a : Con tau := ⟨[.po 27], [.str, .bool, .po 27], 2, [0], f406a⟩
def Kf375 : Con tau := ⟨[.st 50], [.st 36, .bool, .po 27], 2, [32], f375⟩
def Kf332 : Con tau := ⟨[.str], [.int, .so 444 (.st 36), .int], 3, [], f332⟩
def Kf284a : Con tau := ⟨[.po 17, .str], [.int, .po 17], 1, [0], f284a⟩
def Kf285a : Con tau := ⟨[.po 17, .str], [.bool, .int, .po 17], 2, [0], f285a⟩
def Kf214a : Con tau := ⟨[.po 17, .u8], [.bool, .int, .po 17], 2, [0], f214a⟩
def Kf146a : Con tau := ⟨[.po 17, .str], [.int, .str, .bool, .int, .po 17], 4, [0], f146a⟩
def Kf108b : Con tau := ⟨[.po 17, .str], [.int, .str, .bool, .int, .po 17], 4, [0], f108b⟩
def Kf73b : Con tau := ⟨[.po 16, .str], [.int, .str, .bool, .int, .po 16], 4, [0], f73b⟩
def Kf53a : Con tau := ⟨[.po 11, .str], [.int, .po 11], 1, [0], f53a⟩
def Kf55 : Con tau := ⟨[.nil], [.int], 1, [], f55⟩
def Kf221 : Con tau := ⟨[], [.nil], 1, [], f221⟩
def Kf152 : Con tau := ⟨[.int], [.nil, .nil], 2, [], f152⟩
def Kf113 : Con tau := ⟨[.int], [.nil], 1, [], f113⟩
def Kf77 : Con tau := ⟨[.pt 11, .int], [], 0, [], f77⟩
def Kf55a : Con tau := ⟨[.pt 12], [.int], 1, [], f55a⟩
def Kf59a : Con tau := ⟨[.po 11], [.po 11], 0, [0], f59a⟩
def Kf54a : Con tau := ⟨[.po 11], [.po 11], 0, [0], f54a⟩
def Kf36 : Con tau := ⟨[.po 11, .str], [.int, .int, .po 11], 2, [0], f36⟩
def Kf37 : Con tau := ⟨[.po 11], [.int, .po 11], 1, [0], f37⟩
def Kf114 : Con tau := ⟨[.nil], [.st 13, .bool], 2, [], f114⟩
def Kf224 : Con tau := ⟨[.str, .int], [.bool], 1, [], f224⟩
def Kf155 : Con tau := ⟨[.str, .st 22], [.st 24, .int], 2, [], f155⟩
def Kf156 : Con tau := ⟨[.st 24, .int], [.st 24], 1, [], f156⟩
def Kf116 : Con tau := ⟨[.pt 11, .st 22, .st 13], [.int], 1, [], f116⟩
def Kf154 : Con tau := ⟨[.pt 21], [.st 13, .bool], 2, [], f154⟩
def Kf114a : Con tau := ⟨[.pt 12], [.st 13, .bool], 2, [], f114a⟩
def Kf82 : Con tau := ⟨[.nil], [.bool], 1, [], f82⟩
def Kf119 : Con tau := ⟨[.pt 21], [.bool], 1, [], f119⟩
def Kf82a : Con tau := ⟨[.pt 12], [.bool], 1, [], f82a⟩
def Kf79b : Con tau := ⟨[.po 11, .sl .str], [.po 11], 0, [0], f79b⟩
def Kf115a : Con tau := ⟨[.po 11, .st 22, .st 13], [.int, .po 11], 1, [0], f115a⟩
def Kf157 : Con tau := ⟨[.st 22, .bool, .int], [.st 23], 1, [], f157⟩
def Kf119a : Con tau := ⟨[.po 21], [.bool, .po 21], 1, [0], f119a⟩
def Kf58a : Con tau := ⟨[.po 11], [.po 11], 0, [0], f58a⟩
def Kf116a : Con tau := ⟨[.po 11, .st 22, .st 13], [.int, .po 11], 1, [0], f116a⟩
def Kf78a : Con tau := ⟨[.po 11], [.po 11], 0, [0], f78a⟩
def Kf56a : Con tau := ⟨[.po 11, .str], [.int, .po 11], 1, [0], f56a⟩
def Kf38 : Con tau := ⟨[.po 11, .str], [.int, .int, .po 11], 2, [0], f38⟩
def Kf57 : Con tau := ⟨[.nil], [.bool, .int], 2, [], f57⟩
def Kf57b : Con tau := ⟨[.po 16], [.bool, .int, .po 16], 2, [0], f57b⟩
def Kf39 : Con tau := ⟨[.po 11], [.int, .po 11], 1, [0], f39⟩
def Kf42 : Con tau := ⟨[.po 11], [.bool, .po 11], 1, [0], f42⟩
def Kf83 : Con tau := ⟨[.po 11], [.str, .po 11], 1, [0], f83⟩
def Kf84 : Con tau := ⟨[.po 11], [.str, .po 11], 1, [0], f84⟩
def Kf159 : Con tau := ⟨[.nil], [.int], 1, [], f159⟩
def Kf160 : Con tau := ⟨[.nil], [.int], 1, [], f160⟩
def Kf161 : Con tau := ⟨[.nil], [.int], 1, [], f161⟩
def Kf226 : Con tau := ⟨[.nil], [.int], 1, [], f226⟩
def Kf226a : Con tau := ⟨[.pt 19], [.int], 1, [], f226a⟩
def Kf161a : Con tau := ⟨[.pt 18], [.int], 1, [], f161a⟩
def Kf225 : Con tau := ⟨[.nil], [.int], 1, [], f225⟩
def Kf225a : Con tau := ⟨[.pt 17], [.int], 1, [], f225a⟩
def Kf160a : Con tau := ⟨[.pt 16], [.int], 1, [], f160a⟩
def Kf159a : Con tau := ⟨[.pt 14], [.int], 1, [], f159a⟩
def Kf120 : Con tau := ⟨[.pt 20], [.int], 1, [], f120⟩
def Kf85 : Con tau := ⟨[.po 11], [.st 51, .po 11], 1, [0], f85⟩
def Kf346 : Con tau := ⟨[.u8], [.bool], 1, [], f346⟩
def Kf384 : Con tau := ⟨[.u8], [.bool], 1, [], f384⟩
theorem hmix : Tryz.prog.follows .mixedOrders = true := by kernel_rfl
theorem hNm : ∀ (f : FuncId) (fn : Func), Tryz.prog.funcs[f]? = some fn → (fn.name == "runtime.NumGoroutine") = false := names_ok (by kernel_rfl)
theorem heq : ∀ n ∈ [1, 3, 4, 13, 15, 24, 32, 36, 39, 42, 45], ∀ x y, G.eq n x y = eqD (G.fs n) (G.dtor n x) (G.dtor n y) := by
  intro n hn
  simp only [List.mem_cons, List.not_mem_nil, or_false] at hn
  rcases hn with rfl | rfl | rfl | rfl | rfl | rfl | rfl | rfl | rfl | rfl | rfl <;> intro x y <;> rfl
theorem tyk : ∀ cs n, TyOk (⟨Tryz.prog, G, tyl, cs, n, fun _ => .bool false⟩ : Cx tau) := ty_all [1, 3, 4, 13, 15, 24, 32, 36, 39, 42, 45] (by kernel_rfl) (by kernel_rfl) heq
theorem tyk0 : ∀ cs n, TyOk (⟨Tryz.prog, G0, tyl, cs, n, fun _ => .bool false⟩ : Cx tau) := ty_all [1, 3, 4, 13, 15, 24, 32, 36, 39, 42, 45] (by kernel_rfl) (by kernel_rfl) heq
end
end Go.Proofs
end
section
set_option linter.unusedVariables false
set_option maxRecDepth 100000
namespace Go.Proofs
open Go.Dk Go.Dm Go.RowKit Go.Rk
noncomputable section
theorem r_lClone21 (l : List S4) : rowV G (.st 4) l = cells enc_api_Event (l.map (fun x : S4 => (⟨x.1, x.2⟩ : api_Event))) := by unfold cells; rw [List.flatMap_map]; rfl
theorem o_lClone21 (w : World) (hG : Glob w) (xs : List S4) (ad : Option Addr) (c : Nat) (hs : Sees w ad (cells enc_api_Event (xs.map (fun x : S4 => (⟨x.1, x.2⟩ : api_Event))))) (hc : xs.length ≤ c) (hf : fitsApp 0 xs.length 16 = true) :
    Calls Tryz.prog 21 #[.slice ad xs.length c] w fun e' w' => ∃ p0 c0, e' = .returned (.slice p0 xs.length c0) ∧ Dk.Own w [] w' [.row (.slice p0 xs.length c0) 53 2 xs.length (cells enc_api_Event (xs.map (fun x : S4 => (⟨x.1, x.2⟩ : api_Event))))] := by
  have h2 := w_slices_Clone_gapi_Event_api_Event_ (xs.map (fun x : S4 => (⟨x.1, x.2⟩ : api_Event))) (xs.map (fun x : S4 => (⟨x.1, x.2⟩ : api_Event))) w hG hs (by rw [List.length_map]; exact hc) (by unfold slices_Clone_gapi_Event_api_Event_; rw [List.length_map, if_pos hf])
  simpa only [List.length_map] using h2
theorem c_lClone21 : COk Tryz.prog G 21 KlClone21 := cok_copy rfl ⟨_, Tryz.func21, by kernel_rfl, by kernel_rfl⟩ fun w h xs R ad c on gl hm hs hc => by
  have hm : (if fitsApp 0 xs.length 16 = true then some xs else none) = some R := hm
  split at hm
  · rename_i hf
    cases hm
    refine Calls.mono (o_lClone21 w (gl.2 w on).1 xs ad c ((congrArg (fun l => Sees w ad l) (r_lClone21 xs)).mp hs) hc hf) ?_
    rintro e1 w' ⟨p0, c0, e2, hO⟩
    exact ⟨p0, c0, e2, (congrArg (fun l => Dk.Own w [] w' [Res.row (.slice p0 xs.length c0) 53 2 xs.length l]) (r_lClone21 xs)).mpr hO⟩
  · cases hm
theorem r_lClone287 (l : List S15) : rowV G (.st 15) l = cells enc_api_Field (l.map (fun x : S15 => (⟨x.1, x.2⟩ : api_Field))) := by unfold cells; rw [List.flatMap_map]; rfl
theorem o_lClone287 (w : World) (hG : Glob w) (xs : List S15) (ad : Option Addr) (c : Nat) (hs : Sees w ad (cells enc_api_Field (xs.map (fun x : S15 => (⟨x.1, x.2⟩ : api_Field))))) (hc : xs.length ≤ c) (hf : fitsApp 0 xs.length 32 = true) :
    Calls Tryz.prog 287 #[.slice ad xs.length c] w fun e' w' => ∃ p0 c0, e' = .returned (.slice p0 xs.length c0) ∧ Dk.Own w [] w' [.row (.slice p0 xs.length c0) 218 2 xs.length (cells enc_api_Field (xs.map (fun x : S15 => (⟨x.1, x.2⟩ : api_Field))))] := by
  have h2 := w_slices_Clone_gapi_Field_api_Field_ (xs.map (fun x : S15 => (⟨x.1, x.2⟩ : api_Field))) (xs.map (fun x : S15 => (⟨x.1, x.2⟩ : api_Field))) w hG hs (by rw [List.length_map]; exact hc) (by unfold slices_Clone_gapi_Field_api_Field_; rw [List.length_map, if_pos hf])
  simpa only [List.length_map] using h2
theorem c_lClone287 : COk Tryz.prog G 287 KlClone287 := cok_copy rfl ⟨_, Tryz.func287, by kernel_rfl, by kernel_rfl⟩ fun w h xs R ad c on gl hm hs hc => by
  have hm : (if fitsApp 0 xs.length 32 = true then some xs else none) = some R := hm
  split at hm
  · rename_i hf
    cases hm
    refine Calls.mono (o_lClone287 w (gl.2 w on).1 xs ad c ((congrArg (fun l => Sees w ad l) (r_lClone287 xs)).mp hs) hc hf) ?_
    rintro e1 w' ⟨p0, c0, e2, hO⟩
    exact ⟨p0, c0, e2, (congrArg (fun l => Dk.Own w [] w' [Res.row (.slice p0 xs.length c0) 218 2 xs.length l]) (r_lClone287 xs)).mpr hO⟩
  · cases hm
theorem c_lFold : COk Tryz.prog G 194 KlFold := cok_scal rfl rfl rfl rfl ⟨_, Tryz.func194, by kernel_rfl, by kernel_rfl⟩ fun w h p r on gl hm => w_octet_Fold p r w (gl.2 w on).1 hm
theorem c_lFour : COk Tryz.prog G 128 KlFour := cok_scal rfl rfl rfl rfl ⟨_, Tryz.func128, by kernel_rfl, by kernel_rfl⟩ fun w h p r on gl hm => w_hostport_Four p r w (gl.2 w on) hm
theorem r_lClone50 (l : List S3) : rowV G (.st 3) l = cells enc_api_Part (l.map (fun x : S3 => (⟨x.1, x.2⟩ : api_Part))) := by unfold cells; rw [List.flatMap_map]; rfl
theorem o_lClone50 (w : World) (hG : Glob w) (xs : List S3) (ad : Option Addr) (c : Nat) (hs : Sees w ad (cells enc_api_Part (xs.map (fun x : S3 => (⟨x.1, x.2⟩ : api_Part))))) (hc : xs.length ≤ c) (hf : fitsApp 0 xs.length 24 = true) :
    Calls Tryz.prog 50 #[.slice ad xs.length c] w fun e' w' => ∃ p0 c0, e' = .returned (.slice p0 xs.length c0) ∧ Dk.Own w [] w' [.row (.slice p0 xs.length c0) 120 2 xs.length (cells enc_api_Part (xs.map (fun x : S3 => (⟨x.1, x.2⟩ : api_Part))))] := by
  have h2 := w_slices_Clone_gapi_Part_api_Part_ (xs.map (fun x : S3 => (⟨x.1, x.2⟩ : api_Part))) (xs.map (fun x : S3 => (⟨x.1, x.2⟩ : api_Part))) w hG hs (by rw [List.length_map]; exact hc) (by unfold slices_Clone_gapi_Part_api_Part_; rw [List.length_map, if_pos hf])
  simpa only [List.length_map] using h2
theorem c_lClone50 : COk Tryz.prog G 50 KlClone50 := cok_copy rfl ⟨_, Tryz.func50, by kernel_rfl, by kernel_rfl⟩ fun w h xs R ad c on gl hm hs hc => by
  have hm : (if fitsApp 0 xs.length 24 = true then some xs else none) = some R := hm
  split at hm
  · rename_i hf
    cases hm
    refine Calls.mono (o_lClone50 w (gl.2 w on).1 xs ad c ((congrArg (fun l => Sees w ad l) (r_lClone50 xs)).mp hs) hc hf) ?_
    rintro e1 w' ⟨p0, c0, e2, hO⟩
    exact ⟨p0, c0, e2, (congrArg (fun l => Dk.Own w [] w' [Res.row (.slice p0 xs.length c0) 120 2 xs.length l]) (r_lClone50 xs)).mpr hO⟩
  · cases hm
theorem r_lClone49 (l : List S1) : rowV G (.st 1) l = cells enc_api_Swap (l.map (fun x : S1 => (⟨x.1, x.2⟩ : api_Swap))) := by unfold cells; rw [List.flatMap_map]; rfl
theorem o_lClone49 (w : World) (hG : Glob w) (xs : List S1) (ad : Option Addr) (c : Nat) (hs : Sees w ad (cells enc_api_Swap (xs.map (fun x : S1 => (⟨x.1, x.2⟩ : api_Swap))))) (hc : xs.length ≤ c) (hf : fitsApp 0 xs.length 32 = true) :
    Calls Tryz.prog 49 #[.slice ad xs.length c] w fun e' w' => ∃ p0 c0, e' = .returned (.slice p0 xs.length c0) ∧ Dk.Own w [] w' [.row (.slice p0 xs.length c0) 83 2 xs.length (cells enc_api_Swap (xs.map (fun x : S1 => (⟨x.1, x.2⟩ : api_Swap))))] := by
  have h2 := w_slices_Clone_gapi_Swap_api_Swap_ (xs.map (fun x : S1 => (⟨x.1, x.2⟩ : api_Swap))) (xs.map (fun x : S1 => (⟨x.1, x.2⟩ : api_Swap))) w hG hs (by rw [List.length_map]; exact hc) (by unfold slices_Clone_gapi_Swap_api_Swap_; rw [List.length_map, if_pos hf])
  simpa only [List.length_map] using h2
theorem c_lClone49 : COk Tryz.prog G 49 KlClone49 := cok_copy rfl ⟨_, Tryz.func49, by kernel_rfl, by kernel_rfl⟩ fun w h xs R ad c on gl hm hs hc => by
  have hm : (if fitsApp 0 xs.length 32 = true then some xs else none) = some R := hm
  split at hm
  · rename_i hf
    cases hm
    refine Calls.mono (o_lClone49 w (gl.2 w on).1 xs ad c ((congrArg (fun l => Sees w ad l) (r_lClone49 xs)).mp hs) hc hf) ?_
    rintro e1 w' ⟨p0, c0, e2, hO⟩
    exact ⟨p0, c0, e2, (congrArg (fun l => Dk.Own w [] w' [Res.row (.slice p0 xs.length c0) 83 2 xs.length l]) (r_lClone49 xs)).mpr hO⟩
  · cases hm
theorem c_lJoin : COk Tryz.prog G 121 KlJoin := cok_join ⟨_, Tryz.func121, by kernel_rfl, by kernel_rfl⟩ fun w h xs s R ad c on gl hm hs hc => w_strings_Join xs s R w (gl.2 w on).1 (by rw [show cells enc_str xs = xs.map str from cells_str xs]; exact hs) hc hm
theorem c_lIndexAny : COk Tryz.prog G 134 KlIndexAny := cok_scal rfl rfl rfl rfl ⟨_, Tryz.func134, by kernel_rfl, by kernel_rfl⟩ fun w h p r on gl hm => w_strings_IndexAny p.1 p.2 r w (gl.2 w on).1 hm
theorem c_lCut : COk Tryz.prog G 174 KlCut := cok_scal rfl rfl rfl rfl ⟨_, Tryz.func174, by kernel_rfl, by kernel_rfl⟩ fun w h p r on gl hm => w_strings_Cut p.1 p.2 r w (gl.2 w on).1 hm
theorem c_lTrim : COk Tryz.prog G 191 KlTrim := cok_scal rfl rfl rfl rfl ⟨_, Tryz.func191, by kernel_rfl, by kernel_rfl⟩ fun w h p r on gl hm => w_strings_Trim p.1 p.2 r w (gl.2 w on).1 hm
theorem c_lSplit : COk Tryz.prog G 233 KlSplit := cok_rows rfl rfl ⟨_, Tryz.func233, by kernel_rfl, by kernel_rfl⟩ fun w h p R on gl hm => by
  have := w_strings_Split p.1 p.2 R w (gl.2 w on).1 hm
  rw [show rowV G .str R = cells enc_str R from rfl]
  exact this
theorem c_lFormatInt : COk Tryz.prog G 238 KlFormatInt := cok_scal rfl rfl rfl rfl ⟨_, Tryz.func238, by kernel_rfl, by kernel_rfl⟩ fun w h p r on gl hm => w_strconv_FormatInt p.1 p.2 r w (gl.2 w on) hm
theorem c_lIndexByte : COk Tryz.prog G 240 KlIndexByte := cok_scal rfl rfl rfl rfl ⟨_, Tryz.func240, by kernel_rfl, by kernel_rfl⟩ fun w h p r on gl hm => w_strings_IndexByte p.1 p.2 r w (gl.2 w on).1 hm
theorem c_lContains : COk Tryz.prog G 248 KlContains := cok_scal rfl rfl rfl rfl ⟨_, Tryz.func248, by kernel_rfl, by kernel_rfl⟩ fun w h p r on gl hm => w_strings_Contains p.1 p.2 r w (gl.2 w on).1 hm
theorem c_lIndex : COk Tryz.prog G 265 KlIndex := cok_scal rfl rfl rfl rfl ⟨_, Tryz.func265, by kernel_rfl, by kernel_rfl⟩ fun w h p r on gl hm => w_strings_Index p.1 p.2 r w (gl.2 w on).1 hm
theorem c_lTrimRight : COk Tryz.prog G 404 KlTrimRight := cok_scal rfl rfl rfl rfl ⟨_, Tryz.func404, by kernel_rfl, by kernel_rfl⟩ fun w h p r on gl hm => w_strings_TrimRight p.1 p.2 r w (gl.2 w on).1 hm
-- doorstep/octet.Lower
theorem d_f239 : COk Tryz.prog G0 239 Kf239 := con_ok hmix hNm tyk0 CLs.nil 12 Tryz.func239 (by kernel_rfl) (hn := .e) (by unfold Fact; intro fx; kernel_rfl)
-- doorstep/octet.IsAlpha
theorem d_f236 : COk Tryz.prog G0 236 Kf236 := con_ok hmix hNm tyk0 (CLs.nil.add d_f239) 11 Tryz.func236 (by kernel_rfl) (hn := .e) (by unfold Fact; intro fx; kernel_rfl)
-- doorstep/octet.IsDigit
theorem d_f133 : COk Tryz.prog G0 133 Kf133 := con_ok hmix hNm tyk0 CLs.nil 9 Tryz.func133 (by kernel_rfl) (hn := .e) (by unfold Fact; intro fx; kernel_rfl)
theorem ib0 (s : Str) (c : UInt8) (R : Int) (w0 : World) (hm : strings_IndexByte s c = some R) : Calls Tryz.prog 240 #[str s, byte c] w0 fun e w' => e = .returned (int R) ∧ Below w0.heap.size w0 w' := by
  refine (Tryz.strings_IndexByte ⟨s.toArray⟩ c.toNat w0).mono fun e w' ⟨he, hw⟩ => ?_
  subst he hw
  refine ⟨?_, Below.refl _ _⟩
  unfold strings_IndexByte at hm
  rw [idxByte_eqL] at hm
  cases hm
  simp
theorem d_lIndexByte : COk Tryz.prog G0 240 KlIndexByte := cok_scal rfl rfl rfl rfl ⟨_, Tryz.func240, by kernel_rfl, by kernel_rfl⟩ fun w h p r on gl hm => ib0 p.1 p.2 r w hm
-- doorstep/octet.one
theorem d_f237 : COk Tryz.prog G0 237 Kf237 := con_ok hmix hNm tyk0 (CLs.nil.add d_lIndexByte) 9 Tryz.func237 (by kernel_rfl) (hn := .e) (by unfold Fact; intro fx; kernel_rfl)
-- doorstep/octet.IsToken
theorem d_f189 : COk Tryz.prog G0 189 Kf189 := con_ok hmix hNm tyk0 (((CLs.nil.add d_f237).add d_f133).add d_f236) 13 Tryz.func189 (by kernel_rfl) (hn := .e) (by unfold Fact; intro fx; kernel_rfl)
-- doorstep/octet.IsHex
theorem d_f234 : COk Tryz.prog G0 234 Kf234 := con_ok hmix hNm tyk0 ((CLs.nil.add d_f239).add d_f133) 15 Tryz.func234 (by kernel_rfl) (hn := .e) (by unfold Fact; intro fx; kernel_rfl)
-- doorstep/uriref.scheme$1
theorem d_f302 : COk Tryz.prog G0 302 Kf302 := con_ok hmix hNm tyk0 ((CLs.nil.add d_f133).add d_f236) 21 Tryz.func302 (by kernel_rfl) (hn := .e) (by unfold Fact; intro fx; kernel_rfl)
-- doorstep/cookie.part$1
theorem d_f413 : COk Tryz.prog G0 413 Kf413 := con_ok hmix hNm tyk0 CLs.nil 3 Tryz.func413 (by kernel_rfl) (hn := .e) (by unfold Fact; intro fx; kernel_rfl)
-- doorstep/octet.IsVisible
theorem d_f249 : COk Tryz.prog G0 249 Kf249 := con_ok hmix hNm tyk0 CLs.nil 9 Tryz.func249 (by kernel_rfl) (hn := .e) (by unfold Fact; intro fx; kernel_rfl)
-- doorstep/octet.IsBlank
theorem d_f250 : COk Tryz.prog G0 250 Kf250 := con_ok hmix hNm tyk0 CLs.nil 9 Tryz.func250 (by kernel_rfl) (hn := .e) (by unfold Fact; intro fx; kernel_rfl)
-- doorstep/octet.IsValue
theorem d_f190 : COk Tryz.prog G0 190 Kf190 := con_ok hmix hNm tyk0 ((CLs.nil.add d_f250).add d_f249) 13 Tryz.func190 (by kernel_rfl) (hn := .e) (by unfold Fact; intro fx; kernel_rfl)
-- doorstep/cookie.plain
theorem d_f414 : COk Tryz.prog G0 414 Kf414 := con_ok hmix hNm tyk0 ((CLs.nil.add d_lIndexByte).add d_f249) 10 Tryz.func414 (by kernel_rfl) (hn := .e) (by unfold Fact; intro fx; kernel_rfl)
-- (doorstep/via.reader).by$1
theorem d_f168 : COk Tryz.prog G0 168 Kf168 := con_ok hmix hNm tyk0 CLs.nil 5 Tryz.func168 (by kernel_rfl) (hn := .e) (by unfold Fact; intro fx; kernel_rfl)
-- doorstep/startline.request$1
theorem d_f309 : COk Tryz.prog G0 309 Kf309 := con_ok hmix hNm tyk0 CLs.nil 5 Tryz.func309 (by kernel_rfl) (hn := .e) (by unfold Fact; intro fx; kernel_rfl)
-- doorstep/octet.IsUnreserved
theorem d_f178 : COk Tryz.prog G0 178 Kf178 := con_ok hmix hNm tyk0 (((CLs.nil.add d_f237).add d_f133).add d_f236) 13 Tryz.func178 (by kernel_rfl) (hn := .e) (by unfold Fact; intro fx; kernel_rfl)
-- doorstep/octet.IsSub
theorem d_f179 : COk Tryz.prog G0 179 Kf179 := con_ok hmix hNm tyk0 (CLs.nil.add d_f237) 5 Tryz.func179 (by kernel_rfl) (hn := .e) (by unfold Fact; intro fx; kernel_rfl)
-- doorstep/octet.IsPath
theorem d_f303 : COk Tryz.prog G0 303 Kf303 := con_ok hmix hNm tyk0 (((CLs.nil.add d_f237).add d_f179).add d_f178) 13 Tryz.func303 (by kernel_rfl) (hn := .e) (by unfold Fact; intro fx; kernel_rfl)
-- doorstep/tmpl.plain
theorem d_f346 : COk Tryz.prog G0 346 Kf346 := con_ok hmix hNm tyk0 (CLs.nil.add d_f190) 9 Tryz.func346 (by kernel_rfl) (hn := .e) (by unfold Fact; intro fx; kernel_rfl)
-- doorstep/tmpl.small
theorem d_f384 : COk Tryz.prog G0 384 Kf384 := con_ok hmix hNm tyk0 CLs.nil 9 Tryz.func384 (by kernel_rfl) (hn := .e) (by unfold Fact; intro fx; kernel_rfl)
theorem g0ok : ∀ h, GlOk Tryz.prog G0 h := fun h => ⟨fun p hp => (by cases hp), trivial⟩
theorem f0ok : FpOk Tryz.prog G0 := fun p hp => by cases hp
theorem fpok : FpOk Tryz.prog G := fp_cons (fn_of (m := f133) g0ok f0ok d_f133) (fp_cons (fn_of (m := f168) g0ok f0ok d_f168) (fp_cons (fn_of (m := f178) g0ok f0ok d_f178) (fp_cons (fn_of (m := f179) g0ok f0ok d_f179) (fp_cons (fn_of (m := f189) g0ok f0ok d_f189) (fp_cons (fn_of (m := f190) g0ok f0ok d_f190) (fp_cons (fn_of (m := f234) g0ok f0ok d_f234) (fp_cons (fn_of (m := f236) g0ok f0ok d_f236) (fp_cons (fn_of (m := f249) g0ok f0ok d_f249) (fp_cons (fn_of (m := f250) g0ok f0ok d_f250) (fp_cons (fn_of (m := f302) g0ok f0ok d_f302) (fp_cons (fn_of (m := f303) g0ok f0ok d_f303) (fp_cons (fn_of (m := f309) g0ok f0ok d_f309) (fp_cons (fn_of (m := f346) g0ok f0ok d_f346) (fp_cons (fn_of (m := f384) g0ok f0ok d_f384) (fp_cons (fn_of (m := f413) g0ok f0ok d_f413) (fp_cons (fn_of (m := f414) g0ok f0ok d_f414) (fp_nil)))))))))))))))))
-- doorstep/doorsteplaw26.swap
theorem c_f33 : COk Tryz.prog G 33 Kf33 := con_ok hmix hNm tyk CLs.nil 18 Tryz.func33 (by kernel_rfl) (hn := .e) (by unfold Fact; intro fx; kernel_rfl)
-- doorstep/doorsteplaw26.Few
theorem c_f26 : COk Tryz.prog G 26 Kf26 := con_ok hmix hNm tyk (CLs.nil.add c_f33) 86 Tryz.func26 (by kernel_rfl) (hn := .n 2 (.q (.n 1 (.w [(1, .po 5), (2, .po 7), (3, .po 6), (4, .int)] [] f26_L0 fun n0 => .n 1 (.j [(1, .po 5), (2, .po 7), (3, .po 6), (4, .int)] [] (f26_j1 (f26_L0 n0)) .e .e))) (.j [(1, .po 5), (2, .po 7), (5, .po 7)] [] f26_j6 .e (.q (.n 1 (.w [(1, .po 5), (2, .po 7), (5, .po 7), (6, .int)] [] f26_L2 fun n2 => .q (.j [(1, .po 5), (2, .po 7), (5, .po 7), (6, .int), (49, .bool)] [] (f26_j5 (f26_L2 n2)) .e .e) .e)) (.q (.n 1 (.w [(1, .po 5), (2, .po 7), (5, .po 7), (7, .int)] [] f26_L3 fun n3 => .q (.j [(1, .po 5), (2, .po 7), (5, .po 7), (7, .int), (71, .bool)] [] (f26_j4 (f26_L3 n3)) .e .e) .e)) .e))))) (by unfold Fact; intro fx; kernel_rfl)
-- doorstep/doorsteplaw29.Few
theorem c_f27 : COk Tryz.prog G 27 Kf27 := con_ok hmix hNm tyk CLs.nil 46 Tryz.func27 (by kernel_rfl) (hn := .n 2 (.q (.n 1 (.w [(0, .sl (.st 1)), (3, .so 83 (.st 1)), (4, .int)] [] f27_L0 fun n0 => .q (.j [(0, .sl (.st 1)), (3, .so 83 (.st 1)), (4, .int), (12, .bool)] [] (f27_j1 (f27_L0 n0)) .e .e) .e)) .e)) (by unfold Fact; intro fx; kernel_rfl)
-- doorstep/doorsteplaw39.Few
theorem c_f15 : COk Tryz.prog G 15 Kf15 := con_ok hmix hNm tyk ((CLs.nil.add c_f27).add c_f26) 15 Tryz.func15 (by kernel_rfl) (hn := .e) (by unfold Fact; intro fx; kernel_rfl)
-- doorstep/doorsteplaw31.Few
theorem c_f44 : COk Tryz.prog G 44 Kf44 := con_ok hmix hNm tyk CLs.nil 38 Tryz.func44 (by kernel_rfl) (hn := .n 2 (.q (.n 1 (.w [(0, .sl (.st 3)), (3, .so 120 (.st 3)), (4, .int)] [] f44_L0 fun n0 => .q (.j [(0, .sl (.st 3)), (3, .so 120 (.st 3)), (4, .int), (12, .bool)] [] (f44_j1 (f44_L0 n0)) .e .e) .e)) .e)) (by unfold Fact; intro fx; kernel_rfl)
-- doorstep/doorsteplaw32.Few
theorem c_f34 : COk Tryz.prog G 34 Kf34 := con_ok hmix hNm tyk (CLs.nil.add c_f44) 50 Tryz.func34 (by kernel_rfl) (hn := .n 2 (.q (.n 1 (.w [(1, .po 2), (2, .po 8), (3, .po 6), (4, .int)] [] f34_L0 fun n0 => .n 1 (.j [(1, .po 2), (2, .po 8), (3, .po 6), (4, .int)] [] (f34_j1 (f34_L0 n0)) .e .e))) (.j [(1, .po 2), (2, .po 8), (3, .po 6)] [] f34_j5 .e (.j [(1, .po 2), (2, .po 8), (3, .po 6)] [] f34_j4 .e (.j [(1, .po 2), (2, .po 8), (3, .po 6)] [] f34_j3 .e (.j [(1, .po 2), (2, .po 8)] [] f34_j2 .e .e)))))) (by unfold Fact; intro fx; kernel_rfl)
-- doorstep/doorsteplaw35.Few
theorem c_f28 : COk Tryz.prog G 28 Kf28 := con_ok hmix hNm tyk (CLs.nil.add c_f34) 24 Tryz.func28 (by kernel_rfl) (hn := .n 2 (.q (.n 1 (.w [(0, .sl (.st 2)), (3, .so 73 (.st 2)), (4, .int)] [] f28_L0 fun n0 => .q (.j [(0, .sl (.st 2)), (3, .so 73 (.st 2)), (4, .int), (12, .bool)] [] (f28_j1 (f28_L0 n0)) .e .e) .e)) .e)) (by unfold Fact; intro fx; kernel_rfl)
-- doorstep/doorsteplaw40.Few
theorem c_f16 : COk Tryz.prog G 16 Kf16 := con_ok hmix hNm tyk (CLs.nil.add c_f28) 31 Tryz.func16 (by kernel_rfl) (hn := .n 2 (.q (.n 1 (.w [(3, .so 73 (.st 2)), (4, .int)] [] f16_L0 fun n0 => .e)) .e)) (by unfold Fact; intro fx; kernel_rfl)
-- doorstep/doorsteplaw46.Few
theorem c_f5 : COk Tryz.prog G 5 Kf5 := con_ok hmix hNm tyk ((CLs.nil.add c_f16).add c_f15) 36 Tryz.func5 (by kernel_rfl) (hn := .e) (by unfold Fact; intro fx; kernel_rfl)
-- doorstep/twin.piece
theorem c_f17 : COk Tryz.prog G 17 Kf17 := con_ok hmix hNm tyk CLs.nil 14 Tryz.func17 (by kernel_rfl) (hn := .e) (by unfold Fact; intro fx; kernel_rfl)
-- doorstep/twin.Even
theorem c_f6 : COk Tryz.prog G 6 Kf6 := con_ok hmix hNm tyk (CLs.nil.add c_f17) 59 Tryz.func6 (by kernel_rfl) (hn := .n 5 (.q (.w [(1, .int), (6, .int), (7, .int), (8, .so 53 (.st 4))] [] f6_L0 fun n0 => .n 2 (.j [(1, .int), (6, .int), (7, .int), (8, .so 53 (.st 4))] [] (f6_j1 (f6_L0 n0)) .e .e)) .e)) (by unfold Fact; intro fx; kernel_rfl)
-- doorstep/doorstepref49.Even
theorem c_f7 : COk Tryz.prog G 7 Kf7 := con_ok hmix hNm tyk CLs.nil 72 Tryz.func7 (by kernel_rfl) (hn := .n 4 (.q (.n 1 (.w [(1, .int), (2, .po 0), (6, .so 53 (.st 4)), (7, .int)] [] f7_L0 fun n0 => .q (.j [(1, .int), (2, .po 0), (6, .so 53 (.st 4)), (7, .int), (35, .bool)] [] (f7_j3 (f7_L0 n0)) .e .e) (.j [(1, .int), (2, .po 0), (6, .so 53 (.st 4)), (7, .int)] [] (f7_j1 (f7_L0 n0)) (.j [(1, .int), (2, .po 0), (6, .so 53 (.st 4)), (7, .int)] [] (f7_j2 (f7_L0 n0)) .e .e) .e))) .e)) (by unfold Fact; intro fx; kernel_rfl)
-- doorstep/twin.Firsts$1
theorem c_f20 : COk Tryz.prog G 20 Kf20 := con_ok hmix hNm tyk CLs.nil 6 Tryz.func20 (by kernel_rfl) (hn := .e) (by unfold Fact; intro fx; kernel_rfl)
-- doorstep/twin.keep[doorstep/api.Event]
theorem c_f19 : COk Tryz.prog G 19 Kf19 := con_ok hmix hNm tyk (CLs.nil.add c_f20) 23 Tryz.func19 (by kernel_rfl) (hn := .n 2 (.q (.n 1 (.w [(1, .fc 20), (5, .so 53 (.st 4)), (8, .sl (.st 4)), (9, .int), (10, .int)] [] f19_L0 fun n0 => .n 2 (.j [(1, .fc 20), (5, .so 53 (.st 4)), (8, .sl (.st 4)), (9, .int), (10, .int)] [] (f19_j1 (f19_L0 n0)) .e .e))) .e)) (by unfold Fact; intro fx; kernel_rfl)
-- doorstep/twin.Firsts
theorem c_f9 : COk Tryz.prog G 9 Kf9 := con_ok hmix hNm tyk (CLs.nil.add c_f19) 17 Tryz.func9 (by kernel_rfl) (hn := .e) (by unfold Fact; intro fx; kernel_rfl)
-- doorstep/events.Check
theorem c_f18 : COk Tryz.prog G 18 Kf18 := con_ok hmix hNm tyk CLs.nil 22 Tryz.func18 (by kernel_rfl) (hn := .n 1 (.q (.n 1 (.j [(1, .po 4), (4, .int), (5, .bool)] [] f18_j0 .e .e)) .e)) (by unfold Fact; intro fx; kernel_rfl)
-- doorstep/events.Sizes
theorem c_f8 : COk Tryz.prog G 8 Kf8 := con_ok hmix hNm tyk (CLs.nil.add c_f18) 37 Tryz.func8 (by kernel_rfl) (hn := .n 1 (.q (.n 1 (.w [(2, .int), (3, .int), (6, .sl (.st 4)), (7, .int), (8, .int)] [] f8_L0 fun n0 => .n 2 (.j [(2, .int), (3, .int), (6, .sl (.st 4)), (7, .int), (8, .int)] [] (f8_j1 (f8_L0 n0)) .e .e))) .e)) (by unfold Fact; intro fx; kernel_rfl)
-- doorstep/twin.With
theorem c_f10 : COk Tryz.prog G 10 Kf10 := con_ok hmix hNm tyk (CLs.nil.add c_lClone21) 9 Tryz.func10 (by kernel_rfl) (hn := .e) (by unfold Fact; intro fx; kernel_rfl)
-- doorstep/doorstepref49.Same
theorem c_f11 : COk Tryz.prog G 11 Kf11 := con_ok hmix hNm tyk CLs.nil 26 Tryz.func11 (by kernel_rfl) (hn := .n 2 (.q (.n 1 (.w [(0, .sl (.st 4)), (1, .sl (.st 4)), (5, .int)] [] f11_L0 fun n0 => .e)) .e)) (by unfold Fact; intro fx; kernel_rfl)
-- doorstep/twin.Turn$1
theorem c_f22 : COk Tryz.prog G 22 Kf22 := con_ok hmix hNm tyk (CLs.nil.add c_f18) 16 Tryz.func22 (by kernel_rfl) (hn := .e) (by unfold Fact; intro fx; kernel_rfl)
-- doorstep/twin.keep[doorstep/api.Event]
theorem c_f19a : COk Tryz.prog G 19 Kf19a := con_ok hmix hNm tyk (CLs.nil.add c_f22) 23 Tryz.func19 (by kernel_rfl) (hn := .n 2 (.q (.n 1 (.w [(1, .fc 22), (5, .so 53 (.st 4)), (8, .sl (.st 4)), (9, .int), (10, .int)] [] f19a_L0 fun n0 => .n 2 (.j [(1, .fc 22), (5, .so 53 (.st 4)), (8, .sl (.st 4)), (9, .int), (10, .int)] [] (f19a_j1 (f19a_L0 n0)) .e .e))) .e)) (by unfold Fact; intro fx; kernel_rfl)
-- slices.Reverse[[]doorstep/api.Event,doorstep/api.Event]
theorem c_f23a : COk Tryz.prog G 23 Kf23a := con_ok hmix hNm tyk CLs.nil 28 Tryz.func23 (by kernel_rfl) (hn := .n 1 (.w [(9000, .so 53 (.st 4)), (2, .int), (3, .int)] [(0, 9000)] f23a_L0 fun n0 => .e)) (by unfold Fact; intro fx; kernel_rfl)
-- doorstep/twin.Turn
theorem c_f12 : COk Tryz.prog G 12 Kf12 := con_ok hmix hNm tyk ((CLs.nil.add c_f23a).add c_f19a) 9 Tryz.func12 (by kernel_rfl) (hn := .e) (by unfold Fact; intro fx; kernel_rfl)
-- doorstep/doorstepref45.Check
theorem c_f24 : COk Tryz.prog G 24 Kf24 := con_ok hmix hNm tyk CLs.nil 36 Tryz.func24 (by kernel_rfl) (hn := .e) (by unfold Fact; intro fx; kernel_rfl)
-- doorstep/doorstepref49.Turn
theorem c_f13 : COk Tryz.prog G 13 Kf13 := con_ok hmix hNm tyk (CLs.nil.add c_f24) 42 Tryz.func13 (by kernel_rfl) (hn := .n 2 (.q (.n 1 (.w [(0, .sl (.st 4)), (3, .so 53 (.st 4)), (4, .int)] [] f13_L0 fun n0 => .n 1 (.q (.j [(0, .sl (.st 4)), (3, .so 53 (.st 4)), (4, .int), (33, .bool)] [] (f13_j1 (f13_L0 n0)) .e .e) .e))) .e)) (by unfold Fact; intro fx; kernel_rfl)
-- (*doorstep/accum.Accum).Empty
theorem c_f99 : COk Tryz.prog G 99 Kf99 := con_ok hmix hNm tyk CLs.nil 12 Tryz.func99 (by kernel_rfl) (hn := .e) (by unfold Fact; intro fx; kernel_rfl)
-- (*doorstep/accum.Accum).Empty
theorem c_f99a : COk Tryz.prog G 99 Kf99a := con_ok hmix hNm tyk CLs.nil 12 Tryz.func99 (by kernel_rfl) (hn := .e) (by unfold Fact; intro fx; kernel_rfl)
-- (*doorstep/gateway.side).idle
theorem c_f68 : COk Tryz.prog G 68 Kf68 := con_ok hmix hNm tyk ((CLs.nil.add c_f99a).add c_f99) 15 Tryz.func68 (by kernel_rfl) (hn := .e) (by unfold Fact; intro fx; kernel_rfl)
-- (*doorstep/pairing.Queue).Full
theorem c_f69 : COk Tryz.prog G 69 Kf69 := con_ok hmix hNm tyk CLs.nil 12 Tryz.func69 (by kernel_rfl) (hn := .e) (by unfold Fact; intro fx; kernel_rfl)
-- (*doorstep/pairing.row[doorstep/pairing.Ticket]).room
theorem c_f100 : COk Tryz.prog G 100 Kf100 := con_ok hmix hNm tyk CLs.nil 13 Tryz.func100 (by kernel_rfl) (hn := .e) (by unfold Fact; intro fx; kernel_rfl)
-- (*doorstep/pairing.Queue).Full
theorem c_f69a : COk Tryz.prog G 69 Kf69a := con_ok hmix hNm tyk (CLs.nil.add c_f100) 12 Tryz.func69 (by kernel_rfl) (hn := .e) (by unfold Fact; intro fx; kernel_rfl)
-- (*doorstep/gateway.Gateway).reads
theorem c_f52 : COk Tryz.prog G 52 Kf52 := con_ok hmix hNm tyk (((CLs.nil.add c_f69a).add c_f69).add c_f68) 30 Tryz.func52 (by kernel_rfl) (hn := .e) (by unfold Fact; intro fx; kernel_rfl)
-- (*doorstep/accum.Accum).Feed
theorem c_f70 : COk Tryz.prog G 70 Kf70 := con_ok hmix hNm tyk CLs.nil 72 Tryz.func70 (by kernel_rfl) (hn := .e) (by unfold Fact; intro fx; kernel_rfl)
-- doorstep/reply.Code
theorem c_f102 : COk Tryz.prog G 102 Kf102 := con_ok hmix hNm tyk CLs.nil 8 Tryz.func102 (by kernel_rfl) (hn := .e) (by unfold Fact; intro fx; kernel_rfl)
-- (*doorstep/accum.Accum).Head
theorem c_f103 : COk Tryz.prog G 103 Kf103 := con_ok hmix hNm tyk CLs.nil 25 Tryz.func103 (by kernel_rfl) (hn := .e) (by unfold Fact; intro fx; kernel_rfl)
-- doorstep/bag.New
theorem c_f216 : COk Tryz.prog G 216 Kf216 := con_ok hmix hNm tyk (CLs.nil.add c_lClone287) 7 Tryz.func216 (by kernel_rfl) (hn := .e) (by unfold Fact; intro fx; kernel_rfl)
-- (*doorstep/bag.Bag).List
theorem c_f274 : COk Tryz.prog G 274 Kf274 := con_ok hmix hNm tyk (CLs.nil.add c_lClone287) 10 Tryz.func274 (by kernel_rfl) (hn := .e) (by unfold Fact; intro fx; kernel_rfl)
-- doorstep/octet.Same
theorem c_f288 : COk Tryz.prog G 288 Kf288 := con_ok hmix hNm tyk (CLs.nil.add c_lFold) 10 Tryz.func288 (by kernel_rfl) (hn := .e) (by unfold Fact; intro fx; kernel_rfl)
-- (*doorstep/bag.Bag).Values
theorem c_f217 : COk Tryz.prog G 217 Kf217 := con_ok hmix hNm tyk ((CLs.nil.add c_f288).add c_f274) 26 Tryz.func217 (by kernel_rfl) (hn := .n 2 (.q (.n 1 (.w [(1, .str), (5, .so 9 .str), (9, .so 218 (.st 15)), (10, .int), (11, .int)] [] f217_L0 fun n0 => .n 2 (.j [(1, .str), (5, .so 9 .str), (9, .so 218 (.st 15)), (10, .int), (11, .int)] [] (f217_j1 (f217_L0 n0)) .e .e))) .e)) (by unfold Fact; intro fx; kernel_rfl)
-- doorstep/scan.New
theorem c_f122 : COk Tryz.prog G 122 Kf122 := con_ok hmix hNm tyk CLs.nil 6 Tryz.func122 (by kernel_rfl) (hn := .e) (by unfold Fact; intro fx; kernel_rfl)
-- (*doorstep/scan.Scanner).Rest
theorem c_f171 : COk Tryz.prog G 171 Kf171 := con_ok hmix hNm tyk CLs.nil 14 Tryz.func171 (by kernel_rfl) (hn := .e) (by unfold Fact; intro fx; kernel_rfl)
-- (*doorstep/scan.Scanner).End
theorem c_f169 : COk Tryz.prog G 169 Kf169 := con_ok hmix hNm tyk (CLs.nil.add c_f171) 6 Tryz.func169 (by kernel_rfl) (hn := .e) (by unfold Fact; intro fx; kernel_rfl)
-- (*doorstep/scan.Scanner).At
theorem c_f229 : COk Tryz.prog G 229 Kf229 := con_ok hmix hNm tyk CLs.nil 9 Tryz.func229 (by kernel_rfl) (hn := .e) (by unfold Fact; intro fx; kernel_rfl)
-- (*doorstep/scan.Scanner).Peek
theorem c_f166 : COk Tryz.prog G 166 Kf166 := con_ok hmix hNm tyk (CLs.nil.add c_f169) 15 Tryz.func166 (by kernel_rfl) (hn := .e) (by unfold Fact; intro fx; kernel_rfl)
-- (*doorstep/scan.Scanner).Byte
theorem c_f124 : COk Tryz.prog G 124 Kf124 := con_ok hmix hNm tyk (CLs.nil.add c_f166) 26 Tryz.func124 (by kernel_rfl) (hn := .e) (by unfold Fact; intro fx; kernel_rfl)
-- doorstep/octet.IsVisible
theorem c_f249 : COk Tryz.prog G 249 Kf249 := con_ok hmix hNm tyk CLs.nil 9 Tryz.func249 (by kernel_rfl) (hn := .e) (by unfold Fact; intro fx; kernel_rfl)
-- doorstep/octet.IsBlank
theorem c_f250 : COk Tryz.prog G 250 Kf250 := con_ok hmix hNm tyk CLs.nil 9 Tryz.func250 (by kernel_rfl) (hn := .e) (by unfold Fact; intro fx; kernel_rfl)
-- doorstep/octet.IsValue
theorem c_f190 : COk Tryz.prog G 190 Kf190 := con_ok hmix hNm tyk ((CLs.nil.add c_f250).add c_f249) 13 Tryz.func190 (by kernel_rfl) (hn := .e) (by unfold Fact; intro fx; kernel_rfl)
-- (*doorstep/scan.Scanner).Byte
theorem c_f124a : COk Tryz.prog G 124 Kf124a := con_ok hmix hNm tyk (CLs.nil.add c_f166) 26 Tryz.func124 (by kernel_rfl) (hn := .e) (by unfold Fact; intro fx; kernel_rfl)
-- (*doorstep/quoted.reader).next
theorem c_f409a : COk Tryz.prog G 409 Kf409a := con_ok hmix hNm tyk (((CLs.nil.add c_f190).add c_f166).add c_f124a) 41 Tryz.func409 (by kernel_rfl) (hn := .e) (by unfold Fact; intro fx; kernel_rfl)
-- (*doorstep/scan.Scanner).Back
theorem c_f410a : COk Tryz.prog G 410 Kf410a := con_ok hmix hNm tyk (CLs.nil.add c_f229) 19 Tryz.func410 (by kernel_rfl) (hn := .e) (by unfold Fact; intro fx; kernel_rfl)
-- doorstep/quoted.Read
theorem c_f387 : COk Tryz.prog G 387 Kf387 := con_ok hmix hNm tyk ((((CLs.nil.add c_f410a).add c_f409a).add c_f124).add c_f229) 41 Tryz.func387 (by kernel_rfl) (hn := .n 4 (.q (.w [(4, .int), (5, .po 29), (6, .bool)] [] f387_L0 fun n0 => .q (.j [(4, .int), (5, .po 29), (6, .bool), (25, .bool)] [] (f387_j1 (f387_L0 n0)) .e .e) .e) .e)) (by unfold Fact; intro fx; kernel_rfl)
-- (*doorstep/commas.splitter).end
theorem c_f349a : COk Tryz.prog G 349 Kf349a := con_ok hmix hNm tyk ((CLs.nil.add c_f229).add c_lTrim) 36 Tryz.func349 (by kernel_rfl) (hn := .j [(9000, .po 28)] [(0, 9000)] f349a_j0 .e .e) (by unfold Fact; intro fx; kernel_rfl)
-- (*doorstep/commas.splitter).comment
theorem c_f386a : COk Tryz.prog G 386 Kf386a := con_ok hmix hNm tyk ((CLs.nil.add c_f124a).add c_f166) 52 Tryz.func386 (by kernel_rfl) (hn := .n 1 (.q (.n 1 (.w [(9000, .po 28), (3, .int)] [(0, 9000)] f386a_L0 fun n0 => .e)) .e)) (by unfold Fact; intro fx; kernel_rfl)
-- doorstep/quoted.Read
theorem c_f387a : COk Tryz.prog G 387 Kf387a := con_ok hmix hNm tyk ((((CLs.nil.add c_f410a).add c_f409a).add c_f124a).add c_f229) 41 Tryz.func387 (by kernel_rfl) (hn := .n 4 (.q (.w [(4, .int), (5, .po 29), (6, .bool)] [] f387a_L0 fun n0 => .q (.j [(4, .int), (5, .po 29), (6, .bool), (25, .bool)] [] (f387a_j1 (f387a_L0 n0)) .e .e) .e) .e)) (by unfold Fact; intro fx; kernel_rfl)
-- (*doorstep/commas.splitter).step
theorem c_f348a : COk Tryz.prog G 348 Kf348a := con_ok hmix hNm tyk ((((((CLs.nil.add c_f387a).add c_f166).add c_f386a).add c_f349a).add c_f124a).add c_f229) 55 Tryz.func348 (by kernel_rfl) (hn := .e) (by unfold Fact; intro fx; kernel_rfl)
-- doorstep/commas.Split
theorem c_f312 : COk Tryz.prog G 312 Kf312 := con_ok hmix hNm tyk ((((CLs.nil.add c_f349a).add c_f348a).add c_f169).add c_f122) 27 Tryz.func312 (by kernel_rfl) (hn := .n 2 (.q (.w [(0, .str), (4, .po 28)] [] f312_L0 fun n0 => .e) .e)) (by unfold Fact; intro fx; kernel_rfl)
-- doorstep/octet.Lower
theorem c_f239 : COk Tryz.prog G 239 Kf239 := con_ok hmix hNm tyk CLs.nil 12 Tryz.func239 (by kernel_rfl) (hn := .e) (by unfold Fact; intro fx; kernel_rfl)
-- doorstep/octet.IsAlpha
theorem c_f236 : COk Tryz.prog G 236 Kf236 := con_ok hmix hNm tyk (CLs.nil.add c_f239) 11 Tryz.func236 (by kernel_rfl) (hn := .e) (by unfold Fact; intro fx; kernel_rfl)
-- doorstep/octet.IsDigit
theorem c_f133 : COk Tryz.prog G 133 Kf133 := con_ok hmix hNm tyk CLs.nil 9 Tryz.func133 (by kernel_rfl) (hn := .e) (by unfold Fact; intro fx; kernel_rfl)
-- doorstep/octet.one
theorem c_f237 : COk Tryz.prog G 237 Kf237 := con_ok hmix hNm tyk (CLs.nil.add c_lIndexByte) 9 Tryz.func237 (by kernel_rfl) (hn := .e) (by unfold Fact; intro fx; kernel_rfl)
-- doorstep/octet.IsToken
theorem c_f189 : COk Tryz.prog G 189 Kf189 := con_ok hmix hNm tyk (((CLs.nil.add c_f237).add c_f133).add c_f236) 13 Tryz.func189 (by kernel_rfl) (hn := .e) (by unfold Fact; intro fx; kernel_rfl)
-- doorstep/octet.All
theorem c_f181 : COk Tryz.prog G 181 Kf181 := con_ok hmix hNm tyk CLs.nil 27 Tryz.func181 (by kernel_rfl) (hn := .n 1 (.q (.n 1 (.w [(0, .fn), (8, .sl .str), (9, .int), (10, .int)] [] f181_L0 fun n0 => .n 2 (.q (.n 2 (.w [(0, .fn), (6, .str), (8, .sl .str), (9, .int), (10, .int), (15, .int), (16, .int)] [] (f181_L1 (f181_L0 n0)) fun n1 => .e)) .e))) .e)) (by unfold Fact; intro fx; kernel_rfl)
-- doorstep/octet.Token
theorem c_f136 : COk Tryz.prog G 136 Kf136 := con_ok hmix hNm tyk (CLs.nil.add c_f181) 10 Tryz.func136 (by kernel_rfl) (hn := .e) (by unfold Fact; intro fx; kernel_rfl)
-- doorstep/commas.Tokens
theorem c_f289 : COk Tryz.prog G 289 Kf289 := con_ok hmix hNm tyk ((CLs.nil.add c_f136).add c_f312) 40 Tryz.func289 (by kernel_rfl) (hn := .n 2 (.q (.n 1 (.w [(4, .so 9 .str), (11, .sl .str), (12, .int), (13, .int)] [] f289_L0 fun n0 => .n 2 (.q (.n 3 (.q (.n 1 (.w [(4, .so 9 .str), (7, .so 9 .str), (11, .sl .str), (12, .int), (13, .int), (26, .int), (27, .int)] [(25, 7)] (f289_L1 (f289_L0 n0)) fun n1 => .e)) .e)) .e))) .e)) (by unfold Fact; intro fx; kernel_rfl)
-- (doorstep/length.reader).coding
theorem c_f267 : COk Tryz.prog G 267 Kf267 := con_ok hmix hNm tyk ((CLs.nil.add c_f288).add c_f289) 34 Tryz.func267 (by kernel_rfl) (hn := .e) (by unfold Fact; intro fx; kernel_rfl)
-- doorstep/numeral.worth
theorem c_f182 : COk Tryz.prog G 182 Kf182 := con_ok hmix hNm tyk ((CLs.nil.add c_f239).add c_f133) 13 Tryz.func182 (by kernel_rfl) (hn := .e) (by unfold Fact; intro fx; kernel_rfl)
-- doorstep/numeral.read
theorem c_f132 : COk Tryz.prog G 132 Kf132 := con_ok hmix hNm tyk ((CLs.nil.add c_f182).add c_f181) 50 Tryz.func132 (by kernel_rfl) (hn := .n 3 (.q (.n 1 (.w [(0, .str), (1, .int), (2, .int), (10, .int), (23, .int), (24, .int)] [] f132_L0 fun n0 => .e)) .e)) (by unfold Fact; intro fx; kernel_rfl)
-- doorstep/numeral.Decimal
theorem c_f91 : COk Tryz.prog G 91 Kf91 := con_ok hmix hNm tyk (CLs.nil.add c_f132) 11 Tryz.func91 (by kernel_rfl) (hn := .e) (by unfold Fact; intro fx; kernel_rfl)
-- (doorstep/length.reader).lengths
theorem c_f268 : COk Tryz.prog G 268 Kf268 := con_ok hmix hNm tyk ((CLs.nil.add c_f91).add c_f312) 60 Tryz.func268 (by kernel_rfl) (hn := .n 2 (.q (.n 1 (.w [(9032, .po 25), (4, .po 24), (6, .int), (15, .sl .str), (16, .int), (17, .int)] [] f268_L0 fun n0 => .n 2 (.q (.n 4 (.w [(9032, .po 25), (4, .po 24), (6, .int), (15, .sl .str), (16, .int), (17, .int), (29, .so 9 .str), (30, .int), (31, .int)] [] (f268_L1 (f268_L0 n0)) fun n1 => .n 2 (.q (.n 2 (.q (.j [(9032, .po 25), (4, .po 24), (13, .int), (15, .sl .str), (16, .int), (17, .int), (29, .so 9 .str), (30, .int), (31, .int), (50, .bool)] [] (f268_j2 ((f268_L1 (f268_L0 n0)) n1)) .e .e) .e)) .e))) .e))) .e)) (by unfold Fact; intro fx; kernel_rfl)
-- doorstep/length.of
theorem c_f200 : COk Tryz.prog G 200 Kf200 := con_ok hmix hNm tyk ((((CLs.nil.add c_f268).add c_f267).add c_f217).add c_f216) 51 Tryz.func200 (by kernel_rfl) (hn := .n 3 (.q (.j [(1, .int), (4, .po 24), (6, .po 26), (7, .so 9 .str), (8, .so 9 .str), (21, .bool)] [] f200_j0 .e .e) .e)) (by unfold Fact; intro fx; kernel_rfl)
-- doorstep/length.Request
theorem c_f142 : COk Tryz.prog G 142 Kf142 := con_ok hmix hNm tyk (CLs.nil.add c_f200) 8 Tryz.func142 (by kernel_rfl) (hn := .e) (by unfold Fact; intro fx; kernel_rfl)
-- slices.Index[[]string,string]
theorem c_f258 : COk Tryz.prog G 258 Kf258 := con_ok hmix hNm tyk CLs.nil 19 Tryz.func258 (by kernel_rfl) (hn := .n 1 (.q (.n 1 (.w [(0, .sl .str), (1, .str), (7, .int), (8, .int)] [] f258_L0 fun n0 => .e)) .e)) (by unfold Fact; intro fx; kernel_rfl)
-- slices.Contains[[]string,string]
theorem c_f193 : COk Tryz.prog G 193 Kf193 := con_ok hmix hNm tyk (CLs.nil.add c_f258) 9 Tryz.func193 (by kernel_rfl) (hn := .e) (by unfold Fact; intro fx; kernel_rfl)
-- doorstep/hop.Nominated
theorem c_f314 : COk Tryz.prog G 314 Kf314 := con_ok hmix hNm tyk (((((CLs.nil.add c_f193).add c_lFold).add c_f289).add c_f217).add c_f216) 47 Tryz.func314 (by kernel_rfl) (hn := .n 2 (.q (.n 1 (.w [(3, .so 9 .str), (12, .so 9 .str), (13, .int), (14, .int)] [] f314_L0 fun n0 => .n 2 (.q (.n 3 (.w [(3, .so 9 .str), (12, .so 9 .str), (13, .int), (14, .int), (24, .so 9 .str), (25, .int), (26, .int)] [] (f314_L1 (f314_L0 n0)) fun n1 => .n 2 (.j [(3, .so 9 .str), (12, .so 9 .str), (13, .int), (14, .int), (24, .so 9 .str), (25, .int), (26, .int)] [] (f314_j2 ((f314_L1 (f314_L0 n0)) n1)) (.n 2 (.j [(3, .so 9 .str), (9, .str), (12, .so 9 .str), (13, .int), (14, .int), (24, .so 9 .str), (25, .int), (26, .int), (39, .bool)] [] (f314_j3 ((f314_L1 (f314_L0 n0)) n1)) .e .e)) .e))) .e))) .e)) (by unfold Fact; intro fx; kernel_rfl)
-- doorstep/hop.names
theorem c_f257 : COk Tryz.prog G 257 Kf257 := con_ok hmix hNm tyk CLs.nil 2 Tryz.func257 (by kernel_rfl) (hn := .e) (by unfold Fact; intro fx; kernel_rfl)
-- doorstep/bag.one$1
theorem c_f389 : COk Tryz.prog G 389 Kf389 := con_ok hmix hNm tyk (CLs.nil.add c_f288) 7 Tryz.func389 (by kernel_rfl) (hn := .e) (by unfold Fact; intro fx; kernel_rfl)
-- slices.IndexFunc[[]string,string]
theorem c_f411 : COk Tryz.prog G 411 Kf411 := con_ok hmix hNm tyk (CLs.nil.add c_f389) 19 Tryz.func411 (by kernel_rfl) (hn := .n 1 (.q (.n 1 (.w [(0, .sl .str), (1, .cl 389 (.pt 31)), (7, .int), (8, .int)] [] f411_L0 fun n0 => .e)) .e)) (by unfold Fact; intro fx; kernel_rfl)
-- slices.ContainsFunc[[]string,string]
theorem c_f388 : COk Tryz.prog G 388 Kf388 := con_ok hmix hNm tyk (CLs.nil.add c_f411) 9 Tryz.func388 (by kernel_rfl) (hn := .e) (by unfold Fact; intro fx; kernel_rfl)
-- doorstep/bag.one
theorem c_f352 : COk Tryz.prog G 352 Kf352 := con_ok hmix hNm tyk (CLs.nil.add c_f388) 8 Tryz.func352 (by kernel_rfl) (hn := .e) (by unfold Fact; intro fx; kernel_rfl)
-- (*doorstep/bag.Bag).Remove$1
theorem c_f351 : COk Tryz.prog G 351 Kf351 := con_ok hmix hNm tyk (CLs.nil.add c_f352) 8 Tryz.func351 (by kernel_rfl) (hn := .e) (by unfold Fact; intro fx; kernel_rfl)
-- slices.IndexFunc[[]doorstep/api.Field,doorstep/api.Field]
theorem c_f355 : COk Tryz.prog G 355 Kf355 := con_ok hmix hNm tyk (CLs.nil.add c_f351) 19 Tryz.func355 (by kernel_rfl) (hn := .n 1 (.q (.n 1 (.w [(0, .sl (.st 15)), (1, .cl 351 (.pt 30)), (7, .int), (8, .int)] [] f355_L0 fun n0 => .e)) .e)) (by unfold Fact; intro fx; kernel_rfl)
-- slices.DeleteFunc[[]doorstep/api.Field,doorstep/api.Field]
theorem c_f350a : COk Tryz.prog G 350 Kf350a := con_ok hmix hNm tyk ((CLs.nil.add c_f351).add c_f355) 42 Tryz.func350 (by kernel_rfl) (hn := .n 3 (.q (.n 1 (.w [(0, .so 218 (.st 15)), (1, .cl 351 (.pt 30)), (5, .int), (6, .int)] [] f350a_L0 fun n0 => .e)) .e)) (by unfold Fact; intro fx; kernel_rfl)
-- (*doorstep/bag.Bag).Remove
theorem c_f313b : COk Tryz.prog G 313 Kf313b := con_ok hmix hNm tyk (CLs.nil.add c_f350a) 29 Tryz.func313 (by kernel_rfl) (hn := .e) (by unfold Fact; intro fx; kernel_rfl)
-- doorstep/hop.Strip
theorem c_f269 : COk Tryz.prog G 269 Kf269 := con_ok hmix hNm tyk (((((CLs.nil.add c_f274).add c_f313b).add c_f257).add c_f314).add c_f216) 14 Tryz.func269 (by kernel_rfl) (hn := .e) (by unfold Fact; intro fx; kernel_rfl)
-- doorstep/octet.IsHex
theorem c_f234 : COk Tryz.prog G 234 Kf234 := con_ok hmix hNm tyk ((CLs.nil.add c_f239).add c_f133) 15 Tryz.func234 (by kernel_rfl) (hn := .e) (by unfold Fact; intro fx; kernel_rfl)
-- doorstep/hostport.groups
theorem c_f175 : COk Tryz.prog G 175 Kf175 := con_ok hmix hNm tyk (((CLs.nil.add c_f181).add c_lFour).add c_lSplit) 53 Tryz.func175 (by kernel_rfl) (hn := .n 4 (.q (.n 1 (.w [(1, .bool), (5, .so 9 .str), (6, .int), (14, .int), (15, .int)] [(13, 5)] f175_L0 fun n0 => .n 2 (.j [(1, .bool), (5, .so 9 .str), (6, .int), (14, .int), (15, .int)] [(13, 5)] (f175_j1 (f175_L0 n0)) (.n 1 (.j [(1, .bool), (5, .so 9 .str), (6, .int), (8, .str), (14, .int), (15, .int), (20, .bool)] [(13, 5)] (f175_j3 (f175_L0 n0)) .e (.q .e (.j [(1, .bool), (5, .so 9 .str), (6, .int), (14, .int), (15, .int), (35, .bool)] [(13, 5)] (f175_j2 (f175_L0 n0)) .e .e)))) .e))) .e)) (by unfold Fact; intro fx; kernel_rfl)
-- doorstep/hostport.Six
theorem c_f127 : COk Tryz.prog G 127 Kf127 := con_ok hmix hNm tyk ((CLs.nil.add c_f175).add c_lCut) 35 Tryz.func127 (by kernel_rfl) (hn := .e) (by unfold Fact; intro fx; kernel_rfl)
-- doorstep/hostport.percent
theorem c_f177 : COk Tryz.prog G 177 Kf177 := con_ok hmix hNm tyk (CLs.nil.add c_f181) 17 Tryz.func177 (by kernel_rfl) (hn := .e) (by unfold Fact; intro fx; kernel_rfl)
-- doorstep/octet.IsUnreserved
theorem c_f178 : COk Tryz.prog G 178 Kf178 := con_ok hmix hNm tyk (((CLs.nil.add c_f237).add c_f133).add c_f236) 13 Tryz.func178 (by kernel_rfl) (hn := .e) (by unfold Fact; intro fx; kernel_rfl)
-- doorstep/octet.IsSub
theorem c_f179 : COk Tryz.prog G 179 Kf179 := con_ok hmix hNm tyk (CLs.nil.add c_f237) 5 Tryz.func179 (by kernel_rfl) (hn := .e) (by unfold Fact; intro fx; kernel_rfl)
-- doorstep/hostport.Name
theorem c_f129 : COk Tryz.prog G 129 Kf129 := con_ok hmix hNm tyk (((CLs.nil.add c_f179).add c_f178).add c_f177) 23 Tryz.func129 (by kernel_rfl) (hn := .n 2 (.q (.w [(0, .str)] [] f129_L0 fun n0 => .e) .e)) (by unfold Fact; intro fx; kernel_rfl)
-- doorstep/hostport.of
theorem c_f88 : COk Tryz.prog G 88 Kf88 := con_ok hmix hNm tyk (((CLs.nil.add c_f129).add c_lFour).add c_f127) 51 Tryz.func88 (by kernel_rfl) (hn := .n 2 (.q (.j [(0, .str), (2, .po 32), (4, .po 32), (7, .bool)] [] f88_j0 .e .e) .e)) (by unfold Fact; intro fx; kernel_rfl)
-- internal/bytealg.LastIndexByteString
theorem c_f130 : COk Tryz.prog G 130 Kf130 := con_ok hmix hNm tyk CLs.nil 19 Tryz.func130 (by kernel_rfl) (hn := .n 1 (.q (.n 1 (.w [(0, .str), (1, .u8), (5, .int)] [] f130_L0 fun n0 => .e)) .e)) (by unfold Fact; intro fx; kernel_rfl)
-- strings.LastIndexByte
theorem c_f89 : COk Tryz.prog G 89 Kf89 := con_ok hmix hNm tyk (CLs.nil.add c_f130) 8 Tryz.func89 (by kernel_rfl) (hn := .e) (by unfold Fact; intro fx; kernel_rfl)
-- doorstep/numeral.text
theorem c_f180 : COk Tryz.prog G 180 Kf180 := con_ok hmix hNm tyk (CLs.nil.add c_lFormatInt) 10 Tryz.func180 (by kernel_rfl) (hn := .e) (by unfold Fact; intro fx; kernel_rfl)
-- doorstep/numeral.Text
theorem c_f131 : COk Tryz.prog G 131 Kf131 := con_ok hmix hNm tyk (CLs.nil.add c_f180) 5 Tryz.func131 (by kernel_rfl) (hn := .e) (by unfold Fact; intro fx; kernel_rfl)
-- doorstep/hostport.small
theorem c_f90 : COk Tryz.prog G 90 Kf90 := con_ok hmix hNm tyk ((CLs.nil.add c_f131).add c_f91) 21 Tryz.func90 (by kernel_rfl) (hn := .e) (by unfold Fact; intro fx; kernel_rfl)
-- doorstep/hostport.Parse
theorem c_f63 : COk Tryz.prog G 63 Kf63 := con_ok hmix hNm tyk ((((CLs.nil.add c_f91).add c_f90).add c_f89).add c_f88) 49 Tryz.func63 (by kernel_rfl) (hn := .e) (by unfold Fact; intro fx; kernel_rfl)
-- internal/stringslite.HasPrefix
theorem c_f294 : COk Tryz.prog G 294 Kf294 := con_ok hmix hNm tyk CLs.nil 18 Tryz.func294 (by kernel_rfl) (hn := .e) (by unfold Fact; intro fx; kernel_rfl)
-- strings.HasPrefix
theorem c_f245 : COk Tryz.prog G 245 Kf245 := con_ok hmix hNm tyk (CLs.nil.add c_f294) 8 Tryz.func245 (by kernel_rfl) (hn := .e) (by unfold Fact; intro fx; kernel_rfl)
-- doorstep/octet.IsPath
theorem c_f303 : COk Tryz.prog G 303 Kf303 := con_ok hmix hNm tyk (((CLs.nil.add c_f237).add c_f179).add c_f178) 13 Tryz.func303 (by kernel_rfl) (hn := .e) (by unfold Fact; intro fx; kernel_rfl)
-- doorstep/pathq.of
theorem c_f369 : COk Tryz.prog G 369 Kf369 := con_ok hmix hNm tyk (((CLs.nil.add c_f181).add c_lIndexByte).add c_f303) 49 Tryz.func369 (by kernel_rfl) (hn := .n 1 (.q (.n 1 (.w [(0, .str), (1, .str), (5, .int)] [] f369_L0 fun n0 => .n 1 (.q (.n 1 (.q .e (.j [(0, .str), (1, .str), (5, .int), (25, .bool)] [] (f369_j1 (f369_L0 n0)) .e .e))) .e))) .e)) (by unfold Fact; intro fx; kernel_rfl)
-- doorstep/pathq.Path
theorem c_f325 : COk Tryz.prog G 325 Kf325 := con_ok hmix hNm tyk ((CLs.nil.add c_f369).add c_f245) 9 Tryz.func325 (by kernel_rfl) (hn := .e) (by unfold Fact; intro fx; kernel_rfl)
-- doorstep/pathq.Query
theorem c_f326 : COk Tryz.prog G 326 Kf326 := con_ok hmix hNm tyk (CLs.nil.add c_f369) 5 Tryz.func326 (by kernel_rfl) (hn := .e) (by unfold Fact; intro fx; kernel_rfl)
-- doorstep/pathq.Cut
theorem c_f279 : COk Tryz.prog G 279 Kf279 := con_ok hmix hNm tyk (((CLs.nil.add c_f326).add c_f325).add c_lCut) 23 Tryz.func279 (by kernel_rfl) (hn := .e) (by unfold Fact; intro fx; kernel_rfl)
-- doorstep/target.tail
theorem c_f354 : COk Tryz.prog G 354 Kf354 := con_ok hmix hNm tyk (CLs.nil.add c_f279) 32 Tryz.func354 (by kernel_rfl) (hn := .n 4 (.j [(1, .str), (2, .po 33), (4, .po 33), (7, .bool)] [] f354_j1 .e (.n 1 (.j [(2, .po 33), (4, .po 33), (6, .int)] [] f354_j0 .e .e)))) (by unfold Fact; intro fx; kernel_rfl)
-- doorstep/target.absolute
theorem c_f353 : COk Tryz.prog G 353 Kf353 := con_ok hmix hNm tyk (((((CLs.nil.add c_f354).add c_f63).add c_lIndexAny).add c_lFold).add c_lCut) 58 Tryz.func353 (by kernel_rfl) (hn := .n 3 (.q (.j [(2, .po 33), (5, .str), (7, .po 33), (31, .bool)] [] f353_j1 .e .e) (.n 1 (.j [(2, .po 33), (5, .str), (7, .po 33), (8, .int)] [] f353_j0 .e .e)))) (by unfold Fact; intro fx; kernel_rfl)
-- doorstep/target.of
theorem c_f315 : COk Tryz.prog G 315 Kf315 := con_ok hmix hNm tyk (((CLs.nil.add c_f354).add c_f353).add c_f245) 28 Tryz.func315 (by kernel_rfl) (hn := .e) (by unfold Fact; intro fx; kernel_rfl)
-- doorstep/target.Parse
theorem c_f270 : COk Tryz.prog G 270 Kf270 := con_ok hmix hNm tyk ((CLs.nil.add c_f315).add c_f63) 37 Tryz.func270 (by kernel_rfl) (hn := .e) (by unfold Fact; intro fx; kernel_rfl)
-- doorstep/pathq.Join
theorem c_f316 : COk Tryz.prog G 316 Kf316 := con_ok hmix hNm tyk CLs.nil 14 Tryz.func316 (by kernel_rfl) (hn := .e) (by unfold Fact; intro fx; kernel_rfl)
-- doorstep/target.Origin
theorem c_f271 : COk Tryz.prog G 271 Kf271 := con_ok hmix hNm tyk (CLs.nil.add c_f316) 20 Tryz.func271 (by kernel_rfl) (hn := .n 3 (.j [(1, .po 33), (3, .str)] [] f271_j0 .e .e)) (by unfold Fact; intro fx; kernel_rfl)
-- doorstep/quill.Join
theorem c_f86 : COk Tryz.prog G 86 Kf86 := con_ok hmix hNm tyk (CLs.nil.add c_lJoin) 8 Tryz.func86 (by kernel_rfl) (hn := .e) (by unfold Fact; intro fx; kernel_rfl)
-- doorstep/hostport.Text
theorem c_f317 : COk Tryz.prog G 317 Kf317 := con_ok hmix hNm tyk (((CLs.nil.add c_f63).add c_f86).add c_f131) 41 Tryz.func317 (by kernel_rfl) (hn := .n 2 (.j [(1, .po 32), (4, .so 9 .str)] [] f317_j1 .e (.j [(1, .po 32), (4, .so 9 .str)] [] f317_j0 .e .e))) (by unfold Fact; intro fx; kernel_rfl)
-- (*doorstep/bag.Bag).Put$1
theorem c_f356 : COk Tryz.prog G 356 Kf356 := con_ok hmix hNm tyk (CLs.nil.add c_f288) 8 Tryz.func356 (by kernel_rfl) (hn := .e) (by unfold Fact; intro fx; kernel_rfl)
-- slices.IndexFunc[[]doorstep/api.Field,doorstep/api.Field]
theorem c_f355a : COk Tryz.prog G 355 Kf355a := con_ok hmix hNm tyk (CLs.nil.add c_f356) 19 Tryz.func355 (by kernel_rfl) (hn := .n 1 (.q (.n 1 (.w [(0, .sl (.st 15)), (1, .cl 356 (.pt 31)), (7, .int), (8, .int)] [] f355a_L0 fun n0 => .e)) .e)) (by unfold Fact; intro fx; kernel_rfl)
-- slices.Insert[[]doorstep/api.Field,doorstep/api.Field]
theorem c_f357 : COk Tryz.prog G 357 Kf357 := con_ok hmix hNm tyk CLs.nil 95 Tryz.func357 (by kernel_rfl) (hn := .e) (by unfold Fact; intro fx; kernel_rfl)
-- slices.Insert[[]doorstep/api.Field,doorstep/api.Field]
theorem c_f357a : COk Tryz.prog G 357 Kf357a := con_ok hmix hNm tyk CLs.nil 95 Tryz.func357 (by kernel_rfl) (hn := .e) (by unfold Fact; intro fx; kernel_rfl)
-- (*doorstep/bag.Bag).Get
theorem c_f319 : COk Tryz.prog G 319 Kf319 := con_ok hmix hNm tyk (CLs.nil.add c_f217) 16 Tryz.func319 (by kernel_rfl) (hn := .e) (by unfold Fact; intro fx; kernel_rfl)
-- (*doorstep/bag.Bag).Add
theorem c_f320b : COk Tryz.prog G 320 Kf320b := con_ok hmix hNm tyk CLs.nil 15 Tryz.func320 (by kernel_rfl) (hn := .e) (by unfold Fact; intro fx; kernel_rfl)
-- slices.Insert[[]doorstep/api.Field,doorstep/api.Field]
theorem c_f357b : COk Tryz.prog G 357 Kf357b := con_ok hmix hNm tyk CLs.nil 95 Tryz.func357 (by kernel_rfl) (hn := .e) (by unfold Fact; intro fx; kernel_rfl)
-- slices.Insert[[]doorstep/api.Field,doorstep/api.Field]
theorem c_f357c : COk Tryz.prog G 357 Kf357c := con_ok hmix hNm tyk CLs.nil 95 Tryz.func357 (by kernel_rfl) (hn := .e) (by unfold Fact; intro fx; kernel_rfl)
-- (*doorstep/bag.Bag).Put
theorem c_f318a : COk Tryz.prog G 318 Kf318a := con_ok hmix hNm tyk ((((CLs.nil.add c_f357).add c_f313b).add c_f320b).add c_f355a) 40 Tryz.func318 (by kernel_rfl) (hn := .e) (by unfold Fact; intro fx; kernel_rfl)
-- (*doorstep/stage.worker).host
theorem c_f272a : COk Tryz.prog G 272 Kf272a := con_ok hmix hNm tyk ((((CLs.nil.add c_f320b).add c_f319).add c_f318a).add c_f317) 44 Tryz.func272 (by kernel_rfl) (hn := .n 1 (.j [(9000, .po 34), (4, .po 5)] [(0, 9000)] f272a_j0 .e .e)) (by unfold Fact; intro fx; kernel_rfl)
-- (*doorstep/stage.worker).done
theorem c_f275a : COk Tryz.prog G 275 Kf275a := con_ok hmix hNm tyk (CLs.nil.add c_f274) 17 Tryz.func275 (by kernel_rfl) (hn := .e) (by unfold Fact; intro fx; kernel_rfl)
-- internal/stringslite.CutPrefix
theorem c_f230 : COk Tryz.prog G 230 Kf230 := con_ok hmix hNm tyk (CLs.nil.add c_f294) 15 Tryz.func230 (by kernel_rfl) (hn := .e) (by unfold Fact; intro fx; kernel_rfl)
-- strings.CutPrefix
theorem c_f170 : COk Tryz.prog G 170 Kf170 := con_ok hmix hNm tyk (CLs.nil.add c_f230) 11 Tryz.func170 (by kernel_rfl) (hn := .e) (by unfold Fact; intro fx; kernel_rfl)
-- internal/stringslite.HasSuffix
theorem c_f295 : COk Tryz.prog G 295 Kf295 := con_ok hmix hNm tyk CLs.nil 21 Tryz.func295 (by kernel_rfl) (hn := .e) (by unfold Fact; intro fx; kernel_rfl)
-- strings.HasSuffix
theorem c_f392 : COk Tryz.prog G 392 Kf392 := con_ok hmix hNm tyk (CLs.nil.add c_f295) 8 Tryz.func392 (by kernel_rfl) (hn := .e) (by unfold Fact; intro fx; kernel_rfl)
-- doorstep/uriref.Swap
theorem c_f358 : COk Tryz.prog G 358 Kf358 := con_ok hmix hNm tyk (((CLs.nil.add c_lIndexByte).add c_f392).add c_f170) 49 Tryz.func358 (by kernel_rfl) (hn := .n 1 (.q (.n 1 (.w [(0, .str), (10, .sl (.st 1)), (11, .int), (12, .int)] [] f358_L0 fun n0 => .n 2 (.j [(0, .str), (10, .sl (.st 1)), (11, .int), (12, .int)] [] (f358_j2 (f358_L0 n0)) (.n 2 (.q (.j [(0, .str), (7, .po 1), (8, .str), (10, .sl (.st 1)), (11, .int), (12, .int), (29, .bool)] [] (f358_j1 (f358_L0 n0)) .e .e) .e)) .e))) .e)) (by unfold Fact; intro fx; kernel_rfl)
-- doorstep/uriref.scheme$1
theorem c_f302 : COk Tryz.prog G 302 Kf302 := con_ok hmix hNm tyk ((CLs.nil.add c_f133).add c_f236) 21 Tryz.func302 (by kernel_rfl) (hn := .e) (by unfold Fact; intro fx; kernel_rfl)
-- doorstep/uriref.scheme
theorem c_f244 : COk Tryz.prog G 244 Kf244 := con_ok hmix hNm tyk ((CLs.nil.add c_f181).add c_f236) 17 Tryz.func244 (by kernel_rfl) (hn := .e) (by unfold Fact; intro fx; kernel_rfl)
-- doorstep/uriref.upto
theorem c_f246 : COk Tryz.prog G 246 Kf246 := con_ok hmix hNm tyk (CLs.nil.add c_lIndexAny) 19 Tryz.func246 (by kernel_rfl) (hn := .e) (by unfold Fact; intro fx; kernel_rfl)
-- doorstep/uriref.parts
theorem c_f187 : COk Tryz.prog G 187 Kf187 := con_ok hmix hNm tyk ((((CLs.nil.add c_f246).add c_f245).add c_f244).add c_lIndexByte) 56 Tryz.func187 (by kernel_rfl) (hn := .n 2 (.j [(0, .str), (2, .po 35), (3, .po 35)] [] f187_j3 (.n 1 (.j [(0, .str), (2, .po 35), (3, .po 35), (4, .int), (14, .bool)] [] f187_j4 .e .e)) (.j [(0, .str), (2, .po 35), (3, .po 35)] [] f187_j2 .e (.n 1 (.j [(0, .str), (2, .po 35), (3, .po 35)] [] f187_j0 .e (.j [(2, .po 35), (3, .po 35)] [] f187_j1 .e .e)))))) (by unfold Fact; intro fx; kernel_rfl)
-- doorstep/uriref.bytes
theorem c_f247 : COk Tryz.prog G 247 Kf247 := con_ok hmix hNm tyk (((CLs.nil.add c_lIndexByte).add c_f303).add c_f181) 49 Tryz.func247 (by kernel_rfl) (hn := .n 1 (.q (.n 1 (.w [(0, .str), (1, .str), (5, .int)] [] f247_L0 fun n0 => .n 1 (.q (.n 1 (.q .e (.j [(0, .str), (1, .str), (5, .int), (35, .bool)] [] (f247_j1 (f247_L0 n0)) .e .e))) .e))) .e)) (by unfold Fact; intro fx; kernel_rfl)
-- doorstep/uriref.well
theorem c_f188 : COk Tryz.prog G 188 Kf188 := con_ok hmix hNm tyk ((((CLs.nil.add c_f245).add c_lContains).add c_f247).add c_f246) 63 Tryz.func188 (by kernel_rfl) (hn := .e) (by unfold Fact; intro fx; kernel_rfl)
-- doorstep/uriref.Parse
theorem c_f135 : COk Tryz.prog G 135 Kf135 := con_ok hmix hNm tyk ((CLs.nil.add c_f188).add c_f187) 12 Tryz.func135 (by kernel_rfl) (hn := .e) (by unfold Fact; intro fx; kernel_rfl)
-- doorstep/location.is
theorem c_f94 : COk Tryz.prog G 94 Kf94 := con_ok hmix hNm tyk (CLs.nil.add c_f135) 12 Tryz.func94 (by kernel_rfl) (hn := .e) (by unfold Fact; intro fx; kernel_rfl)
-- doorstep/location.Rewrite
theorem c_f321 : COk Tryz.prog G 321 Kf321 := con_ok hmix hNm tyk ((CLs.nil.add c_f94).add c_f358) 27 Tryz.func321 (by kernel_rfl) (hn := .e) (by unfold Fact; intro fx; kernel_rfl)
-- (*doorstep/scan.Scanner).While
theorem c_f167a : COk Tryz.prog G 167 Kf167a := con_ok hmix hNm tyk ((CLs.nil.add c_f166).add c_f229) 42 Tryz.func167 (by kernel_rfl) (hn := .n 2 (.q (.w [(9000, .po 27), (1, .fn), (5, .int)] [(0, 9000)] f167a_L0 fun n0 => .e) .e)) (by unfold Fact; intro fx; kernel_rfl)
-- (*doorstep/scan.Scanner).Token
theorem c_f165a : COk Tryz.prog G 165 Kf165a := con_ok hmix hNm tyk (CLs.nil.add c_f167a) 10 Tryz.func165 (by kernel_rfl) (hn := .e) (by unfold Fact; intro fx; kernel_rfl)
-- doorstep/cookie.part$1
theorem c_f413 : COk Tryz.prog G 413 Kf413 := con_ok hmix hNm tyk CLs.nil 3 Tryz.func413 (by kernel_rfl) (hn := .e) (by unfold Fact; intro fx; kernel_rfl)
-- doorstep/cookie.part
theorem c_f393 : COk Tryz.prog G 393 Kf393 := con_ok hmix hNm tyk (((((((CLs.nil.add c_f181).add c_f169).add c_f167a).add c_f124a).add c_f165a).add c_f122).add c_lTrim) 45 Tryz.func393 (by kernel_rfl) (hn := .n 4 (.j [(2, .po 36), (4, .po 27), (6, .bool), (7, .po 36)] [] f393_j0 .e .e)) (by unfold Fact; intro fx; kernel_rfl)
-- internal/stringslite.CutSuffix
theorem c_f231 : COk Tryz.prog G 231 Kf231 := con_ok hmix hNm tyk (CLs.nil.add c_f295) 18 Tryz.func231 (by kernel_rfl) (hn := .e) (by unfold Fact; intro fx; kernel_rfl)
-- strings.CutSuffix
theorem c_f172 : COk Tryz.prog G 172 Kf172 := con_ok hmix hNm tyk (CLs.nil.add c_f231) 11 Tryz.func172 (by kernel_rfl) (hn := .e) (by unfold Fact; intro fx; kernel_rfl)
-- doorstep/cookie.plain
theorem c_f414 : COk Tryz.prog G 414 Kf414 := con_ok hmix hNm tyk ((CLs.nil.add c_lIndexByte).add c_f249) 10 Tryz.func414 (by kernel_rfl) (hn := .e) (by unfold Fact; intro fx; kernel_rfl)
-- doorstep/cookie.value
theorem c_f394 : COk Tryz.prog G 394 Kf394 := con_ok hmix hNm tyk (((CLs.nil.add c_f181).add c_f172).add c_f170) 24 Tryz.func394 (by kernel_rfl) (hn := .e) (by unfold Fact; intro fx; kernel_rfl)
-- doorstep/cookie.Parse
theorem c_f359 : COk Tryz.prog G 359 Kf359 := con_ok hmix hNm tyk (((CLs.nil.add c_f394).add c_f393).add c_lSplit) 63 Tryz.func359 (by kernel_rfl) (hn := .n 5 (.q (.n 1 (.w [(2, .po 38), (7, .po 38), (41, .sl .str), (42, .int), (43, .int)] [] f359_L0 fun n0 => .e)) .e)) (by unfold Fact; intro fx; kernel_rfl)
-- doorstep/cookie.last
theorem c_f395 : COk Tryz.prog G 395 Kf395 := con_ok hmix hNm tyk (CLs.nil.add c_f288) 23 Tryz.func395 (by kernel_rfl) (hn := .n 1 (.q (.n 1 (.w [(1, .str), (2, .po 37), (5, .int)] [] f395_L0 fun n0 => .e)) .e)) (by unfold Fact; intro fx; kernel_rfl)
-- doorstep/cookie.Get
theorem c_f360 : COk Tryz.prog G 360 Kf360 := con_ok hmix hNm tyk (CLs.nil.add c_f395) 18 Tryz.func360 (by kernel_rfl) (hn := .e) (by unfold Fact; intro fx; kernel_rfl)
-- internal/stringslite.TrimPrefix
theorem c_f415 : COk Tryz.prog G 415 Kf415 := con_ok hmix hNm tyk (CLs.nil.add c_f294) 13 Tryz.func415 (by kernel_rfl) (hn := .e) (by unfold Fact; intro fx; kernel_rfl)
-- strings.TrimPrefix
theorem c_f396 : COk Tryz.prog G 396 Kf396 := con_ok hmix hNm tyk (CLs.nil.add c_f415) 8 Tryz.func396 (by kernel_rfl) (hn := .e) (by unfold Fact; intro fx; kernel_rfl)
-- doorstep/hostport.Under
theorem c_f397 : COk Tryz.prog G 397 Kf397 := con_ok hmix hNm tyk ((((CLs.nil.add c_f392).add c_lFold).add c_lFour).add c_f129) 36 Tryz.func397 (by kernel_rfl) (hn := .e) (by unfold Fact; intro fx; kernel_rfl)
-- doorstep/domains.Map
theorem c_f361 : COk Tryz.prog G 361 Kf361 := con_ok hmix hNm tyk ((CLs.nil.add c_f397).add c_f396) 34 Tryz.func361 (by kernel_rfl) (hn := .n 2 (.q (.n 1 (.w [(0, .str), (6, .str), (11, .sl (.st 1)), (12, .int), (13, .int)] [] f361_L0 fun n0 => .e)) .e)) (by unfold Fact; intro fx; kernel_rfl)
-- doorstep/cookie.Set
theorem c_f363 : COk Tryz.prog G 363 Kf363 := con_ok hmix hNm tyk ((CLs.nil.add c_f288).add c_f395) 55 Tryz.func363 (by kernel_rfl) (hn := .n 3 (.q (.n 1 (.w [(1, .str), (2, .str), (6, .po 38), (7, .int), (8, .po 38), (20, .sl (.st 36)), (21, .int), (22, .int)] [] f363_L0 fun n0 => .n 2 (.j [(1, .str), (2, .str), (6, .po 38), (7, .int), (8, .po 38), (20, .sl (.st 36)), (21, .int), (22, .int)] [] (f363_j1 (f363_L0 n0)) (.n 1 (.j [(1, .str), (2, .str), (6, .po 38), (7, .int), (8, .po 38), (10, .po 36), (20, .sl (.st 36)), (21, .int), (22, .int)] [] (f363_j2 (f363_L0 n0)) .e .e)) .e))) (.j [(6, .po 38), (8, .po 38)] [] f363_j3 .e .e))) (by unfold Fact; intro fx; kernel_rfl)
-- slices.Equal[[]doorstep/api.Attr,doorstep/api.Attr]
theorem c_f416 : COk Tryz.prog G 416 Kf416 := con_ok hmix hNm tyk CLs.nil 26 Tryz.func416 (by kernel_rfl) (hn := .n 2 (.q (.n 1 (.w [(0, .sl (.st 36)), (1, .sl (.st 36)), (12, .int), (13, .int)] [] f416_L0 fun n0 => .e)) .e)) (by unfold Fact; intro fx; kernel_rfl)
-- doorstep/cookie.Same
theorem c_f398 : COk Tryz.prog G 398 Kf398 := con_ok hmix hNm tyk (CLs.nil.add c_f416) 24 Tryz.func398 (by kernel_rfl) (hn := .e) (by unfold Fact; intro fx; kernel_rfl)
-- doorstep/cookie.Text
theorem c_f362 : COk Tryz.prog G 362 Kf362 := con_ok hmix hNm tyk (((CLs.nil.add c_f398).add c_f359).add c_f86) 57 Tryz.func362 (by kernel_rfl) (hn := .n 2 (.q (.n 1 (.w [(1, .po 37), (4, .so 9 .str), (18, .sl (.st 36)), (19, .int), (20, .int)] [] f362_L0 fun n0 => .n 2 (.j [(1, .po 37), (4, .so 9 .str), (18, .sl (.st 36)), (19, .int), (20, .int)] [] (f362_j1 (f362_L0 n0)) .e .e))) .e)) (by unfold Fact; intro fx; kernel_rfl)
-- doorstep/domains.Rewrite
theorem c_f322 : COk Tryz.prog G 322 Kf322 := con_ok hmix hNm tyk (((((CLs.nil.add c_f362).add c_f363).add c_f361).add c_f360).add c_f359) 45 Tryz.func322 (by kernel_rfl) (hn := .e) (by unfold Fact; intro fx; kernel_rfl)
-- doorstep/location.Fields
theorem c_f273 : COk Tryz.prog G 273 Kf273 := con_ok hmix hNm tyk (((CLs.nil.add c_f322).add c_f321).add c_lFold) 46 Tryz.func273 (by kernel_rfl) (hn := .n 2 (.q (.n 1 (.w [(2, .po 5), (5, .so 218 (.st 15)), (12, .int), (13, .int)] [(11, 5)] f273_L0 fun n0 => .n 2 (.j [(2, .po 5), (5, .so 218 (.st 15)), (12, .int), (13, .int)] [(11, 5)] (f273_j2 (f273_L0 n0)) (.n 2 (.j [(2, .po 5), (5, .so 218 (.st 15)), (6, .int), (7, .po 15), (12, .int), (13, .int), (20, .str), (21, .bool)] [(11, 5)] (f273_j1 (f273_L0 n0)) .e .e)) .e))) .e)) (by unfold Fact; intro fx; kernel_rfl)
-- doorstep/stage.Strip
theorem c_f201 : COk Tryz.prog G 201 Kf201 := con_ok hmix hNm tyk ((((((((CLs.nil.add c_f273).add c_f274).add c_f275a).add c_f272a).add c_f271).add c_f270).add c_f216).add c_f269) 68 Tryz.func201 (by kernel_rfl) (hn := .e) (by unfold Fact; intro fx; kernel_rfl)
-- doorstep/stage.Known$1
theorem c_f278 : COk Tryz.prog G 278 Kf278 := con_ok hmix hNm tyk CLs.nil 8 Tryz.func278 (by kernel_rfl) (hn := .e) (by unfold Fact; intro fx; kernel_rfl)
-- doorstep/stage.Known
theorem c_f203 : COk Tryz.prog G 203 Kf203 := con_ok hmix hNm tyk (((CLs.nil.add c_f131).add c_f279).add c_f278) 59 Tryz.func203 (by kernel_rfl) (hn := .e) (by unfold Fact; intro fx; kernel_rfl)
-- doorstep/rule.Known
theorem c_f95 : COk Tryz.prog G 95 Kf95 := con_ok hmix hNm tyk CLs.nil 10 Tryz.func95 (by kernel_rfl) (hn := .e) (by unfold Fact; intro fx; kernel_rfl)
-- doorstep/rule.Check
theorem c_f66 : COk Tryz.prog G 66 Kf66 := con_ok hmix hNm tyk (CLs.nil.add c_f95) 24 Tryz.func66 (by kernel_rfl) (hn := .e) (by unfold Fact; intro fx; kernel_rfl)
-- doorstep/check.Check
theorem c_f48 : COk Tryz.prog G 48 Kf48 := con_ok hmix hNm tyk (CLs.nil.add c_f66) 24 Tryz.func48 (by kernel_rfl) (hn := .n 1 (.q (.n 1 (.w [(0, .sl (.st 2)), (7, .sl (.st 2)), (8, .int), (9, .int)] [] f48_L0 fun n0 => .e)) .e)) (by unfold Fact; intro fx; kernel_rfl)
-- doorstep/rule.Writes
theorem c_f399 : COk Tryz.prog G 399 Kf399 := con_ok hmix hNm tyk (CLs.nil.add c_lFold) 18 Tryz.func399 (by kernel_rfl) (hn := .e) (by unfold Fact; intro fx; kernel_rfl)
-- doorstep/compile.run
theorem c_f364 : COk Tryz.prog G 364 Kf364 := con_ok hmix hNm tyk (((CLs.nil.add c_f193).add c_lFold).add c_f399) 38 Tryz.func364 (by kernel_rfl) (hn := .n 3 (.q (.w [(0, .sl (.st 2)), (3, .po 42), (4, .int)] [] f364_L0 fun n0 => .q (.j [(0, .sl (.st 2)), (3, .po 42), (4, .int), (34, .bool)] [] (f364_j1 (f364_L0 n0)) .e .e) .e) .e)) (by unfold Fact; intro fx; kernel_rfl)
-- doorstep/compile.guard
theorem c_f365 : COk Tryz.prog G 365 Kf365 := con_ok hmix hNm tyk CLs.nil 25 Tryz.func365 (by kernel_rfl) (hn := .e) (by unfold Fact; intro fx; kernel_rfl)
-- doorstep/compile.Own
theorem c_f400 : COk Tryz.prog G 400 Kf400 := con_ok hmix hNm tyk (CLs.nil.add c_lClone50) 34 Tryz.func400 (by kernel_rfl) (hn := .e) (by unfold Fact; intro fx; kernel_rfl)
-- (*doorstep/compile.compiler).put
theorem c_f366a : COk Tryz.prog G 366 Kf366a := con_ok hmix hNm tyk (CLs.nil.add c_f400) 24 Tryz.func366 (by kernel_rfl) (hn := .n 1 (.w [(9000, .po 41), (6, .sl (.st 2)), (7, .int), (8, .int)] [(0, 9000)] f366a_L0 fun n0 => .e)) (by unfold Fact; intro fx; kernel_rfl)
-- (*doorstep/compile.compiler).all
theorem c_f323b : COk Tryz.prog G 323 Kf323b := con_ok hmix hNm tyk (((CLs.nil.add c_f366a).add c_f365).add c_f364) 38 Tryz.func323 (by kernel_rfl) (hn := .w [(9000, .po 41), (1, .sl (.st 2))] [(0, 9000)] f323b_L0 fun n0 => .n 2 (.j [(9000, .po 41), (1, .sl (.st 2)), (4, .int)] [(0, 9000)] (f323b_j1 (f323b_L0 n0)) .e .e)) (by unfold Fact; intro fx; kernel_rfl)
-- doorstep/compile.Compile
theorem c_f276 : COk Tryz.prog G 276 Kf276 := con_ok hmix hNm tyk ((CLs.nil.add c_f323b).add c_f48) 50 Tryz.func276 (by kernel_rfl) (hn := .n 1 (.q (.j [(0, .int), (1, .sl (.st 2)), (17, .bool)] [] f276_j2 .e .e) (.n 2 (.q (.n 1 (.w [(0, .int), (8, .so 73 (.st 2)), (26, .sl (.st 2)), (27, .int), (28, .int)] [] f276_L0 fun n0 => .n 2 (.j [(0, .int), (8, .so 73 (.st 2)), (26, .sl (.st 2)), (27, .int), (28, .int)] [] (f276_j1 (f276_L0 n0)) .e .e))) .e)))) (by unfold Fact; intro fx; kernel_rfl)
-- (*doorstep/machine.machine).run
theorem c_f324 : COk Tryz.prog G 324 Kf324 := con_ok hmix hNm tyk CLs.nil 41 Tryz.func324 (by kernel_rfl) (hn := .n 1 (.w [(0, .pt 44), (1, .sl (.st 40)), (4, .int)] [] f324_L0 fun n0 => .e)) (by unfold Fact; intro fx; kernel_rfl)
-- (*doorstep/machine.machine).skips
theorem c_f367 : COk Tryz.prog G 367 Kf367 := con_ok hmix hNm tyk (CLs.nil.add c_f319) 36 Tryz.func367 (by kernel_rfl) (hn := .e) (by unfold Fact; intro fx; kernel_rfl)
-- doorstep/tmpl.find
theorem c_f419 : COk Tryz.prog G 419 Kf419 := con_ok hmix hNm tyk CLs.nil 20 Tryz.func419 (by kernel_rfl) (hn := .n 1 (.q (.n 1 (.w [(1, .str), (7, .sl (.st 39)), (8, .int), (9, .int)] [] f419_L0 fun n0 => .e)) .e)) (by unfold Fact; intro fx; kernel_rfl)
-- doorstep/tmpl.clean
theorem c_f420 : COk Tryz.prog G 420 Kf420 := con_ok hmix hNm tyk ((CLs.nil.add c_lTrim).add c_f190) 29 Tryz.func420 (by kernel_rfl) (hn := .n 2 (.q (.n 1 (.w [(0, .str), (3, .so 5 .u8), (4, .int)] [] f420_L0 fun n0 => .q (.j [(0, .str), (3, .so 5 .u8), (4, .int), (13, .bool)] [] (f420_j2 (f420_L0 n0)) .e .e) (.j [(0, .str), (3, .so 5 .u8), (4, .int)] [] (f420_j1 (f420_L0 n0)) .e .e))) .e)) (by unfold Fact; intro fx; kernel_rfl)
-- doorstep/tmpl.Eval
theorem c_f417 : COk Tryz.prog G 417 Kf417 := con_ok hmix hNm tyk (((((CLs.nil.add c_f420).add c_f86).add c_f319).add c_f419).add c_f216) 56 Tryz.func417 (by kernel_rfl) (hn := .n 3 (.q (.n 1 (.w [(0, .sl (.st 39)), (7, .po 25), (8, .so 9 .str), (15, .sl (.st 3)), (16, .int), (17, .int)] [] f417_L0 fun n0 => .n 2 (.j [(0, .sl (.st 39)), (7, .po 25), (8, .so 9 .str), (15, .sl (.st 3)), (16, .int), (17, .int)] [] (f417_j1 (f417_L0 n0)) .e .e))) .e)) (by unfold Fact; intro fx; kernel_rfl)
-- (*doorstep/machine.machine).value
theorem c_f401 : COk Tryz.prog G 401 Kf401 := con_ok hmix hNm tyk ((CLs.nil.add c_f417).add c_f274) 16 Tryz.func401 (by kernel_rfl) (hn := .e) (by unfold Fact; intro fx; kernel_rfl)
-- (*doorstep/bag.Bag).Rename
theorem c_f402a : COk Tryz.prog G 402 Kf402a := con_ok hmix hNm tyk (CLs.nil.add c_f288) 41 Tryz.func402 (by kernel_rfl) (hn := .n 3 (.q (.n 1 (.w [(9000, .po 25), (1, .str), (2, .str), (7, .int), (15, .int), (16, .int)] [(0, 9000)] f402a_L0 fun n0 => .n 2 (.j [(9000, .po 25), (1, .str), (2, .str), (7, .int), (15, .int), (16, .int)] [(0, 9000)] (f402a_j1 (f402a_L0 n0)) .e .e))) .e)) (by unfold Fact; intro fx; kernel_rfl)
-- (*doorstep/machine.machine).do
theorem c_f368a : COk Tryz.prog G 368 Kf368a := con_ok hmix hNm tyk (((((CLs.nil.add c_f402a).add c_f318a).add c_f320b).add c_f401).add c_f313b) 55 Tryz.func368 (by kernel_rfl) (hn := .e) (by unfold Fact; intro fx; kernel_rfl)
-- doorstep/machine.Run
theorem c_f277 : COk Tryz.prog G 277 Kf277 := con_ok hmix hNm tyk (((CLs.nil.add c_f274).add c_f324).add c_f216) 21 Tryz.func277 (by kernel_rfl) (hn := .e) (by unfold Fact; intro fx; kernel_rfl)
-- (*doorstep/machine.machine).run
theorem c_f324b : COk Tryz.prog G 324 Kf324b := con_ok hmix hNm tyk CLs.nil 41 Tryz.func324 (by kernel_rfl) (hn := .n 1 (.w [(9001, .so 437 (.st 40)), (0, .pt 44), (4, .int)] [(1, 9001)] f324b_L0 fun n0 => .e)) (by unfold Fact; intro fx; kernel_rfl)
-- doorstep/machine.Run
theorem c_f277a : COk Tryz.prog G 277 Kf277a := con_ok hmix hNm tyk (((CLs.nil.add c_f274).add c_f324).add c_f216) 21 Tryz.func277 (by kernel_rfl) (hn := .e) (by unfold Fact; intro fx; kernel_rfl)
-- doorstep/machine.Rules
theorem c_f202 : COk Tryz.prog G 202 Kf202 := con_ok hmix hNm tyk ((CLs.nil.add c_f277).add c_f276) 25 Tryz.func202 (by kernel_rfl) (hn := .e) (by unfold Fact; intro fx; kernel_rfl)
-- doorstep/machine.Run
theorem c_f277b : COk Tryz.prog G 277 Kf277b := con_ok hmix hNm tyk (((CLs.nil.add c_f274).add c_f324).add c_f216) 21 Tryz.func277 (by kernel_rfl) (hn := .e) (by unfold Fact; intro fx; kernel_rfl)
-- doorstep/machine.Run
theorem c_f277c : COk Tryz.prog G 277 Kf277c := con_ok hmix hNm tyk (((CLs.nil.add c_f274).add c_f324).add c_f216) 21 Tryz.func277 (by kernel_rfl) (hn := .e) (by unfold Fact; intro fx; kernel_rfl)
-- doorstep/machine.Rules
theorem c_f202a : COk Tryz.prog G 202 Kf202a := con_ok hmix hNm tyk ((CLs.nil.add c_f277).add c_f276) 25 Tryz.func202 (by kernel_rfl) (hn := .e) (by unfold Fact; intro fx; kernel_rfl)
-- doorstep/machine.Run
theorem c_f277d : COk Tryz.prog G 277 Kf277d := con_ok hmix hNm tyk (((CLs.nil.add c_f274).add c_f324).add c_f216) 21 Tryz.func277 (by kernel_rfl) (hn := .e) (by unfold Fact; intro fx; kernel_rfl)
-- doorstep/machine.Run
theorem c_f277e : COk Tryz.prog G 277 Kf277e := con_ok hmix hNm tyk (((CLs.nil.add c_f274).add c_f324).add c_f216) 21 Tryz.func277 (by kernel_rfl) (hn := .e) (by unfold Fact; intro fx; kernel_rfl)
-- doorstep/machine.Rules
theorem c_f202b : COk Tryz.prog G 202 Kf202b := con_ok hmix hNm tyk ((CLs.nil.add c_f277).add c_f276) 25 Tryz.func202 (by kernel_rfl) (hn := .e) (by unfold Fact; intro fx; kernel_rfl)
-- doorstep/machine.Run
theorem c_f277f : COk Tryz.prog G 277 Kf277f := con_ok hmix hNm tyk (((CLs.nil.add c_f274).add c_f324).add c_f216) 21 Tryz.func277 (by kernel_rfl) (hn := .e) (by unfold Fact; intro fx; kernel_rfl)
-- doorstep/machine.Run
theorem c_f277g : COk Tryz.prog G 277 Kf277g := con_ok hmix hNm tyk (((CLs.nil.add c_f274).add c_f324).add c_f216) 21 Tryz.func277 (by kernel_rfl) (hn := .e) (by unfold Fact; intro fx; kernel_rfl)
-- doorstep/machine.Rules
theorem c_f202c : COk Tryz.prog G 202 Kf202c := con_ok hmix hNm tyk ((CLs.nil.add c_f277).add c_f276) 25 Tryz.func202 (by kernel_rfl) (hn := .e) (by unfold Fact; intro fx; kernel_rfl)
-- (doorstep/via.reader).protocol
theorem c_f123a : COk Tryz.prog G 123 Kf123a := con_ok hmix hNm tyk ((CLs.nil.add c_f124a).add c_f165a) 37 Tryz.func123 (by kernel_rfl) (hn := .n 3 (.q (.j [(9001, .po 45), (2, .po 46), (5, .str), (6, .bool), (22, .bool)] [(9032, 100002), (1, 9001)] f123a_j0 .e .e) .e)) (by unfold Fact; intro fx; kernel_rfl)
-- (doorstep/via.reader).by$1
theorem c_f168 : COk Tryz.prog G 168 Kf168 := con_ok hmix hNm tyk CLs.nil 5 Tryz.func168 (by kernel_rfl) (hn := .e) (by unfold Fact; intro fx; kernel_rfl)
-- strings.ContainsAny
theorem c_f93 : COk Tryz.prog G 93 Kf93 := con_ok hmix hNm tyk (CLs.nil.add c_lIndexAny) 9 Tryz.func93 (by kernel_rfl) (hn := .e) (by unfold Fact; intro fx; kernel_rfl)
-- (doorstep/via.reader).by
theorem c_f125a : COk Tryz.prog G 125 Kf125a := con_ok hmix hNm tyk ((((CLs.nil.add c_f93).add c_f136).add c_f63).add c_f167a) 38 Tryz.func125 (by kernel_rfl) (hn := .e) (by unfold Fact; intro fx; kernel_rfl)
-- doorstep/via.balanced
theorem c_f173 : COk Tryz.prog G 173 Kf173 := con_ok hmix hNm tyk (CLs.nil.add c_f181) 41 Tryz.func173 (by kernel_rfl) (hn := .n 2 (.q (.n 1 (.w [(0, .str), (3, .int), (4, .int)] [] f173_L0 fun n0 => .n 1 (.q (.j [(0, .str), (3, .int), (4, .int)] [] (f173_j1 (f173_L0 n0)) .e .e) .e))) .e)) (by unfold Fact; intro fx; kernel_rfl)
-- (doorstep/via.reader).comment
theorem c_f126a : COk Tryz.prog G 126 Kf126a := con_ok hmix hNm tyk (((((CLs.nil.add c_f173).add c_f172).add c_f170).add c_f171).add c_f169) 40 Tryz.func126 (by kernel_rfl) (hn := .e) (by unfold Fact; intro fx; kernel_rfl)
-- doorstep/via.Parse
theorem c_f87 : COk Tryz.prog G 87 Kf87 := con_ok hmix hNm tyk (((((CLs.nil.add c_f126a).add c_f125a).add c_f124a).add c_f123a).add c_f122) 30 Tryz.func87 (by kernel_rfl) (hn := .e) (by unfold Fact; intro fx; kernel_rfl)
-- doorstep/via.Text
theorem c_f62 : COk Tryz.prog G 62 Kf62 := con_ok hmix hNm tyk ((CLs.nil.add c_f87).add c_f86) 44 Tryz.func62 (by kernel_rfl) (hn := .n 2 (.j [(1, .po 45), (4, .so 9 .str)] [] f62_j1 .e (.j [(1, .po 45), (4, .so 9 .str)] [] f62_j0 .e .e))) (by unfold Fact; intro fx; kernel_rfl)
-- doorstep/commas.Join
theorem c_f403 : COk Tryz.prog G 403 Kf403 := con_ok hmix hNm tyk (CLs.nil.add c_f86) 5 Tryz.func403 (by kernel_rfl) (hn := .e) (by unfold Fact; intro fx; kernel_rfl)
-- doorstep/commas.Append
theorem c_f370 : COk Tryz.prog G 370 Kf370 := con_ok hmix hNm tyk (((CLs.nil.add c_lTrimRight).add c_f403).add c_lTrim) 22 Tryz.func370 (by kernel_rfl) (hn := .e) (by unfold Fact; intro fx; kernel_rfl)
-- (*doorstep/bag.Bag).Behind
theorem c_f327a : COk Tryz.prog G 327 Kf327a := con_ok hmix hNm tyk (((CLs.nil.add c_f320b).add c_f370).add c_f288) 53 Tryz.func327 (by kernel_rfl) (hn := .n 1 (.q (.n 1 (.w [(9000, .po 25), (1, .str), (2, .str), (6, .int)] [(0, 9000)] f327a_L0 fun n0 => .e)) .e)) (by unfold Fact; intro fx; kernel_rfl)
-- doorstep/via.Append
theorem c_f280 : COk Tryz.prog G 280 Kf280 := con_ok hmix hNm tyk ((((CLs.nil.add c_f274).add c_f327a).add c_f216).add c_f62) 24 Tryz.func280 (by kernel_rfl) (hn := .e) (by unfold Fact; intro fx; kernel_rfl)
-- doorstep/forwarded.Node
theorem c_f372 : COk Tryz.prog G 372 Kf372 := con_ok hmix hNm tyk ((CLs.nil.add c_f127).add c_lFour) 13 Tryz.func372 (by kernel_rfl) (hn := .e) (by unfold Fact; intro fx; kernel_rfl)
-- doorstep/forwarded.Make
theorem c_f329 : COk Tryz.prog G 329 Kf329 := con_ok hmix hNm tyk (CLs.nil.add c_f372) 28 Tryz.func329 (by kernel_rfl) (hn := .n 2 (.j [(1, .po 5), (3, .so 353 (.st 39))] [] f329_j1 .e (.j [(3, .so 353 (.st 39))] [] f329_j0 .e .e))) (by unfold Fact; intro fx; kernel_rfl)
-- doorstep/quoted.Quote
theorem c_f405 : COk Tryz.prog G 405 Kf405 := con_ok hmix hNm tyk (CLs.nil.add c_f181) 40 Tryz.func405 (by kernel_rfl) (hn := .n 3 (.q (.n 1 (.w [(0, .str), (4, .so 5 .u8), (12, .int), (13, .int)] [] f405_L0 fun n0 => .n 2 (.q (.n 1 (.j [(0, .str), (4, .so 5 .u8), (5, .int), (12, .int), (13, .int)] [] (f405_j2 (f405_L0 n0)) (.j [(0, .str), (4, .so 5 .u8), (5, .int), (12, .int), (13, .int), (25, .bool)] [] (f405_j1 (f405_L0 n0)) .e .e) .e)) .e))) .e)) (by unfold Fact; intro fx; kernel_rfl)
-- doorstep/quoted.Either
theorem c_f371 : COk Tryz.prog G 371 Kf371 := con_ok hmix hNm tyk ((CLs.nil.add c_f405).add c_f136) 11 Tryz.func371 (by kernel_rfl) (hn := .e) (by unfold Fact; intro fx; kernel_rfl)
-- doorstep/params.Text
theorem c_f328 : COk Tryz.prog G 328 Kf328 := con_ok hmix hNm tyk (((CLs.nil.add c_f86).add c_f136).add c_f371) 43 Tryz.func328 (by kernel_rfl) (hn := .n 2 (.q (.n 1 (.w [(4, .so 9 .str), (9, .sl (.st 39)), (10, .int), (11, .int)] [] f328_L0 fun n0 => .e)) .e)) (by unfold Fact; intro fx; kernel_rfl)
-- doorstep/forwarded.Append
theorem c_f281 : COk Tryz.prog G 281 Kf281 := con_ok hmix hNm tyk (((((CLs.nil.add c_f274).add c_f327a).add c_f216).add c_f328).add c_f329) 25 Tryz.func281 (by kernel_rfl) (hn := .e) (by unfold Fact; intro fx; kernel_rfl)
-- doorstep/xff.bare
theorem c_f330 : COk Tryz.prog G 330 Kf330 := con_ok hmix hNm tyk ((CLs.nil.add c_f127).add c_lFour) 9 Tryz.func330 (by kernel_rfl) (hn := .e) (by unfold Fact; intro fx; kernel_rfl)
-- doorstep/xff.Append
theorem c_f282 : COk Tryz.prog G 282 Kf282 := con_ok hmix hNm tyk ((((CLs.nil.add c_f274).add c_f327a).add c_f216).add c_f330) 16 Tryz.func282 (by kernel_rfl) (hn := .n 1 (.j [(0, .str), (1, .sl (.st 15))] [] f282_j0 .e .e)) (by unfold Fact; intro fx; kernel_rfl)
-- doorstep/stage.Sign
theorem c_f204 : COk Tryz.prog G 204 Kf204 := con_ok hmix hNm tyk ((((((CLs.nil.add c_f275a).add c_f216).add c_f282).add c_f281).add c_f280).add c_f131) 70 Tryz.func204 (by kernel_rfl) (hn := .n 1 (.q (.j [(1, .int), (3, .po 5), (5, .po 22), (6, .po 23), (26, .bool)] [] f204_j2 .e .e) (.n 1 (.j [(5, .po 22), (6, .po 23), (8, .so 218 (.st 15)), (9, .int)] [] f204_j0 (.j [(3, .po 5), (5, .po 22), (6, .po 23), (8, .so 218 (.st 15)), (9, .int), (46, .bool)] [] f204_j1 .e .e) .e)))) (by unfold Fact; intro fx; kernel_rfl)
-- doorstep/length.Fields
theorem c_f205 : COk Tryz.prog G 205 Kf205 := con_ok hmix hNm tyk (CLs.nil.add c_f131) 16 Tryz.func205 (by kernel_rfl) (hn := .e) (by unfold Fact; intro fx; kernel_rfl)
-- doorstep/rewrite.Head
theorem c_f143 : COk Tryz.prog G 143 Kf143 := con_ok hmix hNm tyk (((((CLs.nil.add c_f205).add c_f204).add c_f202).add c_f203).add c_f201) 58 Tryz.func143 (by kernel_rfl) (hn := .e) (by unfold Fact; intro fx; kernel_rfl)
-- (*doorstep/scan.Scanner).Text
theorem c_f343a : COk Tryz.prog G 343 Kf343a := con_ok hmix hNm tyk ((CLs.nil.add c_f245).add c_f171) 21 Tryz.func343 (by kernel_rfl) (hn := .e) (by unfold Fact; intro fx; kernel_rfl)
-- (doorstep/startline.line).digit
theorem c_f385 : COk Tryz.prog G 385 Kf385 := con_ok hmix hNm tyk (((CLs.nil.add c_f124a).add c_f133).add c_f166) 26 Tryz.func385 (by kernel_rfl) (hn := .e) (by unfold Fact; intro fx; kernel_rfl)
-- (doorstep/startline.line).version
theorem c_f347 : COk Tryz.prog G 347 Kf347 := con_ok hmix hNm tyk (((CLs.nil.add c_f124a).add c_f385).add c_f343a) 36 Tryz.func347 (by kernel_rfl) (hn := .e) (by unfold Fact; intro fx; kernel_rfl)
-- doorstep/startline.other
theorem c_f308 : COk Tryz.prog G 308 Kf308 := con_ok hmix hNm tyk (((CLs.nil.add c_f169).add c_f347).add c_f122) 30 Tryz.func308 (by kernel_rfl) (hn := .e) (by unfold Fact; intro fx; kernel_rfl)
-- doorstep/startline.request$1
theorem c_f309 : COk Tryz.prog G 309 Kf309 := con_ok hmix hNm tyk CLs.nil 5 Tryz.func309 (by kernel_rfl) (hn := .e) (by unfold Fact; intro fx; kernel_rfl)
-- (doorstep/startline.line).minor
theorem c_f310 : COk Tryz.prog G 310 Kf310 := con_ok hmix hNm tyk (CLs.nil.add c_f347) 23 Tryz.func310 (by kernel_rfl) (hn := .e) (by unfold Fact; intro fx; kernel_rfl)
-- doorstep/startline.request
theorem c_f262 : COk Tryz.prog G 262 Kf262 := con_ok hmix hNm tyk (((((((((CLs.nil.add c_f169).add c_f270).add c_f310).add c_f167a).add c_f124a).add c_f165a).add c_f122).add c_f308).add c_f89) 84 Tryz.func262 (by kernel_rfl) (hn := .e) (by unfold Fact; intro fx; kernel_rfl)
-- doorstep/startline.status
theorem c_f263 : COk Tryz.prog G 263 Kf263 := con_ok hmix hNm tyk (((((((((CLs.nil.add c_f181).add c_f171).add c_f91).add c_f167a).add c_f124a).add c_f310).add c_f122).add c_f308).add c_lCut) 84 Tryz.func263 (by kernel_rfl) (hn := .e) (by unfold Fact; intro fx; kernel_rfl)
-- doorstep/startline.Parse
theorem c_f197 : COk Tryz.prog G 197 Kf197 := con_ok hmix hNm tyk (((CLs.nil.add c_f263).add c_f262).add c_f93) 29 Tryz.func197 (by kernel_rfl) (hn := .n 1 (.q (.j [(0, .int), (1, .str), (4, .po 23), (6, .bool)] [] f197_j0 .e .e) .e)) (by unfold Fact; intro fx; kernel_rfl)
-- doorstep/startline.Text
theorem c_f208 : COk Tryz.prog G 208 Kf208 := con_ok hmix hNm tyk (((CLs.nil.add c_f197).add c_f86).add c_f131) 81 Tryz.func208 (by kernel_rfl) (hn := .n 3 (.j [(1, .po 22), (5, .str)] [] f208_j1 .e (.n 2 (.j [(5, .str), (7, .int), (8, .bool)] [] f208_j0 .e .e)))) (by unfold Fact; intro fx; kernel_rfl)
-- doorstep/fieldline.Check
theorem c_f137 : COk Tryz.prog G 137 Kf137 := con_ok hmix hNm tyk (((CLs.nil.add c_lTrim).add c_f181).add c_f136) 22 Tryz.func137 (by kernel_rfl) (hn := .e) (by unfold Fact; intro fx; kernel_rfl)
-- doorstep/head.hosts
theorem c_f311 : COk Tryz.prog G 311 Kf311 := con_ok hmix hNm tyk (((CLs.nil.add c_f63).add c_f217).add c_f216) 43 Tryz.func311 (by kernel_rfl) (hn := .n 4 (.q (.n 1 (.w [(25, .so 9 .str), (26, .int), (27, .int)] [] f311_L0 fun n0 => .n 2 (.q (.n 2 (.j [(25, .so 9 .str), (26, .int), (27, .int), (41, .bool)] [] (f311_j1 (f311_L0 n0)) .e .e)) .e))) .e)) (by unfold Fact; intro fx; kernel_rfl)
-- doorstep/head.whole
theorem c_f266 : COk Tryz.prog G 266 Kf266 := con_ok hmix hNm tyk (CLs.nil.add c_f311) 12 Tryz.func266 (by kernel_rfl) (hn := .e) (by unfold Fact; intro fx; kernel_rfl)
-- doorstep/head.Check
theorem c_f206 : COk Tryz.prog G 206 Kf206 := con_ok hmix hNm tyk (((CLs.nil.add c_f266).add c_f137).add c_f208) 31 Tryz.func206 (by kernel_rfl) (hn := .n 2 (.q (.n 1 (.w [(1, .po 22), (17, .sl (.st 15)), (18, .int), (19, .int)] [] f206_L0 fun n0 => .e)) .e)) (by unfold Fact; intro fx; kernel_rfl)
-- doorstep/quill.New
theorem c_f207 : COk Tryz.prog G 207 Kf207 := con_ok hmix hNm tyk CLs.nil 7 Tryz.func207 (by kernel_rfl) (hn := .e) (by unfold Fact; intro fx; kernel_rfl)
-- (*doorstep/quill.Quill).Line
theorem c_f283 : COk Tryz.prog G 283 Kf283 := con_ok hmix hNm tyk CLs.nil 12 Tryz.func283 (by kernel_rfl) (hn := .e) (by unfold Fact; intro fx; kernel_rfl)
-- (*doorstep/head.printer).line
theorem c_f209 : COk Tryz.prog G 209 Kf209 := con_ok hmix hNm tyk (CLs.nil.add c_f283) 21 Tryz.func209 (by kernel_rfl) (hn := .e) (by unfold Fact; intro fx; kernel_rfl)
-- doorstep/fieldline.Text
theorem c_f210 : COk Tryz.prog G 210 Kf210 := con_ok hmix hNm tyk (CLs.nil.add c_f137) 22 Tryz.func210 (by kernel_rfl) (hn := .e) (by unfold Fact; intro fx; kernel_rfl)
-- (*doorstep/quill.Quill).Text
theorem c_f211 : COk Tryz.prog G 211 Kf211 := con_ok hmix hNm tyk CLs.nil 10 Tryz.func211 (by kernel_rfl) (hn := .e) (by unfold Fact; intro fx; kernel_rfl)
-- doorstep/head.Print
theorem c_f144 : COk Tryz.prog G 144 Kf144 := con_ok hmix hNm tyk ((((((CLs.nil.add c_f211).add c_f210).add c_f209).add c_f208).add c_f207).add c_f206) 58 Tryz.func144 (by kernel_rfl) (hn := .n 5 (.q (.n 1 (.w [(7, .po 49), (32, .sl (.st 15)), (33, .int), (34, .int)] [] f144_L0 fun n0 => .e)) .e)) (by unfold Fact; intro fx; kernel_rfl)
-- (*doorstep/gateway.Gateway).onward
theorem c_f104 : COk Tryz.prog G 104 Kf104 := con_ok hmix hNm tyk (((CLs.nil.add c_f144).add c_f143).add c_f142) 55 Tryz.func104 (by kernel_rfl) (hn := .e) (by unfold Fact; intro fx; kernel_rfl)
-- doorstep/dechunk.New
theorem c_f145 : COk Tryz.prog G 145 Kf145 := con_ok hmix hNm tyk CLs.nil 13 Tryz.func145 (by kernel_rfl) (hn := .e) (by unfold Fact; intro fx; kernel_rfl)
-- doorstep/body.New
theorem c_f105 : COk Tryz.prog G 105 Kf105 := con_ok hmix hNm tyk (CLs.nil.add c_f145) 65 Tryz.func105 (by kernel_rfl) (hn := .n 1 (.j [(2, .po 24), (6, .pn 17), (7, .int)] [] f105_j2 .e (.n 2 (.j [(2, .po 24), (8, .po 16)] [] f105_j1 .e (.j [(8, .po 16)] [] f105_j0 .e .e))))) (by unfold Fact; intro fx; kernel_rfl)
-- (*doorstep/accum.Accum).Head
theorem c_f103a : COk Tryz.prog G 103 Kf103a := con_ok hmix hNm tyk CLs.nil 25 Tryz.func103 (by kernel_rfl) (hn := .e) (by unfold Fact; intro fx; kernel_rfl)
-- (*doorstep/body.Body).Feed
theorem c_f73 : COk Tryz.prog G 73 Kf73 := con_ok hmix hNm tyk CLs.nil 87 Tryz.func73 (by kernel_rfl) (hn := .e) (by unfold Fact; intro fx; kernel_rfl)
-- (*doorstep/reframe.Writer).ready
theorem c_f109 : COk Tryz.prog G 109 Kf109 := con_ok hmix hNm tyk CLs.nil 11 Tryz.func109 (by kernel_rfl) (hn := .e) (by unfold Fact; intro fx; kernel_rfl)
-- (*doorstep/reframe.Writer).Put
theorem c_f74 : COk Tryz.prog G 74 Kf74 := con_ok hmix hNm tyk (CLs.nil.add c_f109) 47 Tryz.func74 (by kernel_rfl) (hn := .e) (by unfold Fact; intro fx; kernel_rfl)
-- (*doorstep/body.Body).Trailers
theorem c_f81 : COk Tryz.prog G 81 Kf81 := con_ok hmix hNm tyk CLs.nil 10 Tryz.func81 (by kernel_rfl) (hn := .e) (by unfold Fact; intro fx; kernel_rfl)
-- (*doorstep/reframe.Writer).End
theorem c_f80 : COk Tryz.prog G 80 Kf80 := con_ok hmix hNm tyk (CLs.nil.add c_f109) 43 Tryz.func80 (by kernel_rfl) (hn := .e) (by unfold Fact; intro fx; kernel_rfl)
-- doorstep/commas.Has
theorem c_f218 : COk Tryz.prog G 218 Kf218 := con_ok hmix hNm tyk ((CLs.nil.add c_f288).add c_f289) 34 Tryz.func218 (by kernel_rfl) (hn := .n 1 (.q (.n 1 (.w [(0, .str), (11, .sl .str), (12, .int), (13, .int)] [] f218_L0 fun n0 => .n 2 (.q (.n 3 (.w [(0, .str), (11, .sl .str), (12, .int), (13, .int), (23, .so 9 .str), (24, .int), (25, .int)] [] (f218_L1 (f218_L0 n0)) fun n1 => .e)) .e))) .e)) (by unfold Fact; intro fx; kernel_rfl)
-- doorstep/hop.Close
theorem c_f149 : COk Tryz.prog G 149 Kf149 := con_ok hmix hNm tyk (((CLs.nil.add c_f218).add c_f217).add c_f216) 16 Tryz.func149 (by kernel_rfl) (hn := .e) (by unfold Fact; intro fx; kernel_rfl)
-- doorstep/pairing.Of
theorem c_f111 : COk Tryz.prog G 111 Kf111 := con_ok hmix hNm tyk (CLs.nil.add c_f149) 10 Tryz.func111 (by kernel_rfl) (hn := .e) (by unfold Fact; intro fx; kernel_rfl)
-- (*doorstep/pairing.Queue).Push
theorem c_f112 : COk Tryz.prog G 112 Kf112 := con_ok hmix hNm tyk CLs.nil 44 Tryz.func112 (by kernel_rfl) (hn := .e) (by unfold Fact; intro fx; kernel_rfl)
-- doorstep/pairing.early$1
theorem c_f220 : COk Tryz.prog G 220 Kf220 := con_ok hmix hNm tyk CLs.nil 5 Tryz.func220 (by kernel_rfl) (hn := .e) (by unfold Fact; intro fx; kernel_rfl)
-- slices.IndexFunc[[]doorstep/pairing.Ticket,doorstep/pairing.Ticket]
theorem c_f219 : COk Tryz.prog G 219 Kf219 := con_ok hmix hNm tyk (CLs.nil.add c_f220) 19 Tryz.func219 (by kernel_rfl) (hn := .n 1 (.q (.n 1 (.w [(0, .sl (.st 13)), (1, .fc 220), (7, .int), (8, .int)] [] f219_L0 fun n0 => .e)) .e)) (by unfold Fact; intro fx; kernel_rfl)
-- doorstep/pairing.early
theorem c_f150 : COk Tryz.prog G 150 Kf150 := con_ok hmix hNm tyk (CLs.nil.add c_f219) 15 Tryz.func150 (by kernel_rfl) (hn := .e) (by unfold Fact; intro fx; kernel_rfl)
-- (*doorstep/pairing.row[doorstep/pairing.Ticket]).put
theorem c_f151 : COk Tryz.prog G 151 Kf151 := con_ok hmix hNm tyk CLs.nil 13 Tryz.func151 (by kernel_rfl) (hn := .e) (by unfold Fact; intro fx; kernel_rfl)
-- (*doorstep/dechunk.Decoder).Trailers
theorem c_f118 : COk Tryz.prog G 118 Kf118 := con_ok hmix hNm tyk CLs.nil 11 Tryz.func118 (by kernel_rfl) (hn := .e) (by unfold Fact; intro fx; kernel_rfl)
-- (*doorstep/dechunk.Decoder).Trailers
theorem c_f118a : COk Tryz.prog G 118 Kf118a := con_ok hmix hNm tyk CLs.nil 11 Tryz.func118 (by kernel_rfl) (hn := .e) (by unfold Fact; intro fx; kernel_rfl)
-- (*doorstep/body.Body).Trailers
theorem c_f81a : COk Tryz.prog G 81 Kf81a := con_ok hmix hNm tyk ((CLs.nil.add c_f118a).add c_f118) 10 Tryz.func81 (by kernel_rfl) (hn := .e) (by unfold Fact; intro fx; kernel_rfl)
-- (*doorstep/reframe.Writer).ready
theorem c_f109a : COk Tryz.prog G 109 Kf109a := con_ok hmix hNm tyk CLs.nil 11 Tryz.func109 (by kernel_rfl) (hn := .e) (by unfold Fact; intro fx; kernel_rfl)
-- (*doorstep/enchunk.Encoder).ready
theorem c_f147 : COk Tryz.prog G 147 Kf147 := con_ok hmix hNm tyk CLs.nil 11 Tryz.func147 (by kernel_rfl) (hn := .e) (by unfold Fact; intro fx; kernel_rfl)
-- doorstep/chunkline.Last
theorem c_f158 : COk Tryz.prog G 158 Kf158 := con_ok hmix hNm tyk ((CLs.nil.add c_f86).add c_f210) 36 Tryz.func158 (by kernel_rfl) (hn := .n 2 (.q (.n 1 (.w [(0, .sl (.st 15)), (4, .so 9 .str), (10, .sl (.st 15)), (11, .int), (12, .int)] [] f158_L0 fun n0 => .e)) .e)) (by unfold Fact; intro fx; kernel_rfl)
-- (*doorstep/enchunk.Encoder).End
theorem c_f117 : COk Tryz.prog G 117 Kf117 := con_ok hmix hNm tyk ((CLs.nil.add c_f158).add c_f147) 37 Tryz.func117 (by kernel_rfl) (hn := .e) (by unfold Fact; intro fx; kernel_rfl)
-- (*doorstep/enchunk.Encoder).ready
theorem c_f147a : COk Tryz.prog G 147 Kf147a := con_ok hmix hNm tyk CLs.nil 11 Tryz.func147 (by kernel_rfl) (hn := .e) (by unfold Fact; intro fx; kernel_rfl)
-- doorstep/numeral.HexText
theorem c_f286 : COk Tryz.prog G 286 Kf286 := con_ok hmix hNm tyk (CLs.nil.add c_f180) 5 Tryz.func286 (by kernel_rfl) (hn := .e) (by unfold Fact; intro fx; kernel_rfl)
-- doorstep/chunkline.Text
theorem c_f215 : COk Tryz.prog G 215 Kf215 := con_ok hmix hNm tyk (CLs.nil.add c_f286) 5 Tryz.func215 (by kernel_rfl) (hn := .e) (by unfold Fact; intro fx; kernel_rfl)
-- doorstep/chunkline.Piece
theorem c_f148 : COk Tryz.prog G 148 Kf148 := con_ok hmix hNm tyk ((CLs.nil.add c_f86).add c_f215) 11 Tryz.func148 (by kernel_rfl) (hn := .e) (by unfold Fact; intro fx; kernel_rfl)
-- (*doorstep/enchunk.Encoder).Put
theorem c_f110 : COk Tryz.prog G 110 Kf110 := con_ok hmix hNm tyk (CLs.nil.add c_f147) 58 Tryz.func110 (by kernel_rfl) (hn := .e) (by unfold Fact; intro fx; kernel_rfl)
-- (*doorstep/dechunk.Decoder).Feed
theorem c_f108 : COk Tryz.prog G 108 Kf108 := con_ok hmix hNm tyk CLs.nil 63 Tryz.func108 (by kernel_rfl) (hn := .e) (by unfold Fact; intro fx; kernel_rfl)
-- (*doorstep/gateway.Gateway).refuse
theorem c_f71a : COk Tryz.prog G 71 Kf71a := con_ok hmix hNm tyk (CLs.nil.add c_f102) 16 Tryz.func71 (by kernel_rfl) (hn := .e) (by unfold Fact; intro fx; kernel_rfl)
-- doorstep/machine.Rules
theorem c_f202d : COk Tryz.prog G 202 Kf202d := con_ok hmix hNm tyk ((CLs.nil.add c_f277).add c_f276) 25 Tryz.func202 (by kernel_rfl) (hn := .e) (by unfold Fact; intro fx; kernel_rfl)
-- doorstep/machine.Rules
theorem c_f202e : COk Tryz.prog G 202 Kf202e := con_ok hmix hNm tyk ((CLs.nil.add c_f277).add c_f276) 25 Tryz.func202 (by kernel_rfl) (hn := .e) (by unfold Fact; intro fx; kernel_rfl)
-- doorstep/machine.Rules
theorem c_f202f : COk Tryz.prog G 202 Kf202f := con_ok hmix hNm tyk ((CLs.nil.add c_f277).add c_f276) 25 Tryz.func202 (by kernel_rfl) (hn := .e) (by unfold Fact; intro fx; kernel_rfl)
-- doorstep/machine.Rules
theorem c_f202g : COk Tryz.prog G 202 Kf202g := con_ok hmix hNm tyk ((CLs.nil.add c_f277).add c_f276) 25 Tryz.func202 (by kernel_rfl) (hn := .e) (by unfold Fact; intro fx; kernel_rfl)
-- doorstep/rewrite.Head
theorem c_f143a : COk Tryz.prog G 143 Kf143a := con_ok hmix hNm tyk (((((CLs.nil.add c_f205).add c_f204).add c_f202).add c_f203).add c_f201) 58 Tryz.func143 (by kernel_rfl) (hn := .e) (by unfold Fact; intro fx; kernel_rfl)
-- (*doorstep/gateway.Gateway).onward
theorem c_f104a : COk Tryz.prog G 104 Kf104a := con_ok hmix hNm tyk (((CLs.nil.add c_f144).add c_f143).add c_f142) 55 Tryz.func104 (by kernel_rfl) (hn := .e) (by unfold Fact; intro fx; kernel_rfl)
-- (*doorstep/gateway.Gateway).forward
theorem c_f75b : COk Tryz.prog G 75 Kf75b := con_ok hmix hNm tyk CLs.nil 22 Tryz.func75 (by kernel_rfl) (hn := .n 1 (.w [(9000, .po 11), (6, .sl .str), (7, .int), (8, .int)] [(0, 9000)] f75b_L0 fun n0 => .e)) (by unfold Fact; intro fx; kernel_rfl)
-- doorstep/enchunk.New
theorem c_f46 : COk Tryz.prog G 46 Kf46 := con_ok hmix hNm tyk CLs.nil 13 Tryz.func46 (by kernel_rfl) (hn := .e) (by unfold Fact; intro fx; kernel_rfl)
-- doorstep/reframe.New
theorem c_f106 : COk Tryz.prog G 106 Kf106 := con_ok hmix hNm tyk (CLs.nil.add c_f46) 50 Tryz.func106 (by kernel_rfl) (hn := .n 1 (.j [(2, .po 24), (6, .pn 19), (7, .int)] [] f106_j0 .e .e)) (by unfold Fact; intro fx; kernel_rfl)
-- (*doorstep/body.Body).Done
theorem c_f107 : COk Tryz.prog G 107 Kf107 := con_ok hmix hNm tyk CLs.nil 11 Tryz.func107 (by kernel_rfl) (hn := .e) (by unfold Fact; intro fx; kernel_rfl)
-- doorstep/accum.New
theorem c_f67 : COk Tryz.prog G 67 Kf67 := con_ok hmix hNm tyk CLs.nil 24 Tryz.func67 (by kernel_rfl) (hn := .n 1 (.q (.j [(0, .int), (1, .int), (19, .bool)] [] f67_j0 .e .e) .e)) (by unfold Fact; intro fx; kernel_rfl)
-- doorstep/gateway.fresh
theorem c_f51 : COk Tryz.prog G 51 Kf51 := con_ok hmix hNm tyk (CLs.nil.add c_f67) 15 Tryz.func51 (by kernel_rfl) (hn := .e) (by unfold Fact; intro fx; kernel_rfl)
-- (*doorstep/pairing.row[doorstep/pairing.Ticket]).put
theorem c_f151b : COk Tryz.prog G 151 Kf151b := con_ok hmix hNm tyk CLs.nil 13 Tryz.func151 (by kernel_rfl) (hn := .e) (by unfold Fact; intro fx; kernel_rfl)
-- (*doorstep/pairing.Queue).Push
theorem c_f112c : COk Tryz.prog G 112 Kf112c := con_ok hmix hNm tyk (((CLs.nil.add c_f151).add c_f150).add c_f100) 44 Tryz.func112 (by kernel_rfl) (hn := .e) (by unfold Fact; intro fx; kernel_rfl)
-- (*doorstep/pairing.row[doorstep/pairing.Ticket]).put
theorem c_f151c : COk Tryz.prog G 151 Kf151c := con_ok hmix hNm tyk CLs.nil 13 Tryz.func151 (by kernel_rfl) (hn := .e) (by unfold Fact; intro fx; kernel_rfl)
-- (*doorstep/enchunk.Encoder).End
theorem c_f117c : COk Tryz.prog G 117 Kf117c := con_ok hmix hNm tyk (((CLs.nil.add c_f148).add c_f158).add c_f147a) 37 Tryz.func117 (by kernel_rfl) (hn := .e) (by unfold Fact; intro fx; kernel_rfl)
-- (*doorstep/reframe.Writer).End
theorem c_f80c : COk Tryz.prog G 80 Kf80c := con_ok hmix hNm tyk (((CLs.nil.add c_f117c).add c_f117).add c_f109a) 43 Tryz.func80 (by kernel_rfl) (hn := .n 3 (.j [(9000, .po 18), (6, .int), (7, .str)] [(0, 9000)] f80c_j0 .e .e)) (by unfold Fact; intro fx; kernel_rfl)
-- (*doorstep/gateway.Gateway).whole
theorem c_f76a : COk Tryz.prog G 76 Kf76a := con_ok hmix hNm tyk (((((((((((CLs.nil.add c_f80c).add c_f81a).add c_f103a).add c_f112c).add c_f51).add c_f112).add c_f111).add c_f103).add c_f75b).add c_f80).add c_f81) 58 Tryz.func76 (by kernel_rfl) (hn := .j [(9000, .po 11), (2, .str)] [(0, 9000)] f76a_j2 .e (.n 1 (.j [(9000, .po 11), (4, .po 23)] [(0, 9000)] f76a_j1 .e (.n 1 (.j [(9000, .po 11), (6, .po 13)] [(0, 9000)] f76a_j0 .e .e))))) (by unfold Fact; intro fx; kernel_rfl)
-- (*doorstep/body.Body).Done
theorem c_f107a : COk Tryz.prog G 107 Kf107a := con_ok hmix hNm tyk CLs.nil 11 Tryz.func107 (by kernel_rfl) (hn := .e) (by unfold Fact; intro fx; kernel_rfl)
-- (*doorstep/gateway.Gateway).asked
theorem c_f72a : COk Tryz.prog G 72 Kf72a := con_ok hmix hNm tyk ((((((((((CLs.nil.add c_f103a).add c_f107a).add c_f76a).add c_f107).add c_f106).add c_f105).add c_f75b).add c_f71a).add c_f104).add c_f103) 68 Tryz.func72 (by kernel_rfl) (hn := .j [(9000, .po 11), (2, .po 23)] [(0, 9000)] f72a_j3 .e (.n 3 (.j [(9000, .po 11), (5, .po 24)] [(0, 9000)] f72a_j2 .e (.j [(9000, .po 11)] [(0, 9000)] f72a_j0 .e (.j [(9000, .po 11), (65, .bool)] [(0, 9000)] f72a_j1 .e .e))))) (by unfold Fact; intro fx; kernel_rfl)
-- (*doorstep/accum.Accum).bare
theorem c_f140 : COk Tryz.prog G 140 Kf140 := con_ok hmix hNm tyk CLs.nil 34 Tryz.func140 (by kernel_rfl) (hn := .n 2 (.j [(0, .pt 14), (3, .int), (4, .bool)] [] f140_j0 .e .e)) (by unfold Fact; intro fx; kernel_rfl)
-- (*doorstep/scan.Scanner).Blanks
theorem c_f264a : COk Tryz.prog G 264 Kf264a := con_ok hmix hNm tyk (CLs.nil.add c_f167a) 5 Tryz.func264 (by kernel_rfl) (hn := .e) (by unfold Fact; intro fx; kernel_rfl)
-- doorstep/fieldline.Parse
theorem c_f198 : COk Tryz.prog G 198 Kf198 := con_ok hmix hNm tyk ((((((((CLs.nil.add c_lTrim).add c_f181).add c_f171).add c_f124a).add c_f165a).add c_f264a).add c_f122).add c_f93) 49 Tryz.func198 (by kernel_rfl) (hn := .e) (by unfold Fact; intro fx; kernel_rfl)
-- doorstep/head.Parse
theorem c_f199 : COk Tryz.prog G 199 Kf199 := con_ok hmix hNm tyk (((((CLs.nil.add c_f266).add c_f198).add c_lSplit).add c_lIndex).add c_f197) 93 Tryz.func199 (by kernel_rfl) (hn := .n 7 (.q (.n 1 (.w [(6, .po 23), (12, .po 23), (64, .sl .str), (65, .int), (66, .int)] [] f199_L0 fun n0 => .e)) .e)) (by unfold Fact; intro fx; kernel_rfl)
-- (*doorstep/accum.Accum).line
theorem c_f141a : COk Tryz.prog G 141 Kf141a := con_ok hmix hNm tyk (((CLs.nil.add c_f199).add c_f198).add c_f197) 62 Tryz.func141 (by kernel_rfl) (hn := .n 2 (.j [(9000, .po 14), (6, .int)] [(0, 9000)] f141a_j0 .e .e)) (by unfold Fact; intro fx; kernel_rfl)
-- (*doorstep/accum.Accum).take
theorem c_f101a : COk Tryz.prog G 101 Kf101a := con_ok hmix hNm tyk ((CLs.nil.add c_f141a).add c_f140) 50 Tryz.func101 (by kernel_rfl) (hn := .e) (by unfold Fact; intro fx; kernel_rfl)
-- (*doorstep/accum.Accum).Feed
theorem c_f70b : COk Tryz.prog G 70 Kf70b := con_ok hmix hNm tyk (CLs.nil.add c_f101a) 72 Tryz.func70 (by kernel_rfl) (hn := .n 2 (.q (.n 1 (.w [(9000, .po 14), (1, .str), (24, .int), (25, .int)] [(0, 9000)] f70b_L0 fun n0 => .n 2 (.q (.n 3 (.j [(9000, .po 14), (1, .str), (7, .int), (24, .int), (25, .int), (55, .bool)] [(0, 9000)] (f70b_j1 (f70b_L0 n0)) .e .e)) .e))) .e)) (by unfold Fact; intro fx; kernel_rfl)
-- (*doorstep/enchunk.Encoder).Put
theorem c_f110b : COk Tryz.prog G 110 Kf110b := con_ok hmix hNm tyk (((CLs.nil.add c_f86).add c_f148).add c_f147a) 58 Tryz.func110 (by kernel_rfl) (hn := .n 4 (.q (.w [(9000, .po 19), (7, .so 9 .str)] [(0, 9000)] f110b_L0 fun n0 => .e) .e)) (by unfold Fact; intro fx; kernel_rfl)
-- (*doorstep/reframe.Writer).Put
theorem c_f74b : COk Tryz.prog G 74 Kf74b := con_ok hmix hNm tyk (((CLs.nil.add c_f110b).add c_f110).add c_f109a) 47 Tryz.func74 (by kernel_rfl) (hn := .n 2 (.j [(9000, .po 18), (1, .str)] [] f74b_j2 (.n 2 (.q (.j [(9000, .po 18), (4, .str), (5, .int)] [] f74b_j0 .e .e) (.j [(9000, .po 18), (1, .str), (27, .bool)] [(0, 9000)] f74b_j1 .e .e))) .e)) (by unfold Fact; intro fx; kernel_rfl)
-- (*doorstep/dechunk.Decoder).data
theorem c_f212a : COk Tryz.prog G 212 Kf212a := con_ok hmix hNm tyk CLs.nil 35 Tryz.func212 (by kernel_rfl) (hn := .n 3 (.j [(9000, .po 17), (1, .str), (5, .int)] [] f212a_j0 .e .e)) (by unfold Fact; intro fx; kernel_rfl)
-- (*doorstep/dechunk.Decoder).ended
theorem c_f213a : COk Tryz.prog G 213 Kf213a := con_ok hmix hNm tyk CLs.nil 29 Tryz.func213 (by kernel_rfl) (hn := .n 2 (.j [(9000, .po 17), (1, .u8), (5, .u8)] [(0, 9000)] f213a_j1 .e (.n 2 (.j [(9000, .po 17)] [] f213a_j0 .e .e)))) (by unfold Fact; intro fx; kernel_rfl)
-- doorstep/numeral.Hex
theorem c_f374 : COk Tryz.prog G 374 Kf374 := con_ok hmix hNm tyk (CLs.nil.add c_f132) 11 Tryz.func374 (by kernel_rfl) (hn := .e) (by unfold Fact; intro fx; kernel_rfl)
-- doorstep/quoted.Word
theorem c_f406a : COk Tryz.prog G 406 Kf406a := con_ok hmix hNm tyk ((CLs.nil.add c_f387a).add c_f165a) 17 Tryz.func406 (by kernel_rfl) (hn := .e) (by unfold Fact; intro fx; kernel_rfl)
-- (doorstep/chunkline.reader).one
theorem c_f375 : COk Tryz.prog G 375 Kf375 := con_ok hmix hNm tyk (((CLs.nil.add c_f406a).add c_f124a).add c_f165a) 35 Tryz.func375 (by kernel_rfl) (hn := .e) (by unfold Fact; intro fx; kernel_rfl)
-- doorstep/chunkline.Parse
theorem c_f332 : COk Tryz.prog G 332 Kf332 := con_ok hmix hNm tyk ((((((CLs.nil.add c_f169).add c_f375).add c_f124a).add c_f374).add c_f167a).add c_f122) 52 Tryz.func332 (by kernel_rfl) (hn := .n 5 (.q (.w [(5, .po 50), (7, .int), (8, .int), (9, .so 444 (.st 36))] [] f332_L0 fun n0 => .e) .e)) (by unfold Fact; intro fx; kernel_rfl)
-- (*doorstep/dechunk.Decoder).size
theorem c_f284a : COk Tryz.prog G 284 Kf284a := con_ok hmix hNm tyk (CLs.nil.add c_f332) 47 Tryz.func284 (by kernel_rfl) (hn := .e) (by unfold Fact; intro fx; kernel_rfl)
-- (*doorstep/dechunk.Decoder).trailer
theorem c_f285a : COk Tryz.prog G 285 Kf285a := con_ok hmix hNm tyk (CLs.nil.add c_f198) 36 Tryz.func285 (by kernel_rfl) (hn := .e) (by unfold Fact; intro fx; kernel_rfl)
-- (*doorstep/dechunk.Decoder).lined
theorem c_f214a : COk Tryz.prog G 214 Kf214a := con_ok hmix hNm tyk ((CLs.nil.add c_f285a).add c_f284a) 95 Tryz.func214 (by kernel_rfl) (hn := .n 1 (.j [(9000, .po 17), (1, .u8)] [(0, 9000)] f214a_j2 .e (.n 1 (.j [(9000, .po 17), (1, .u8), (6, .int), (7, .bool)] [(0, 9000)] f214a_j1 .e (.q (.j [(9000, .po 17), (1, .u8), (6, .int), (7, .bool), (39, .bool)] [(0, 9000)] f214a_j0 .e .e) .e))))) (by unfold Fact; intro fx; kernel_rfl)
-- (*doorstep/dechunk.Decoder).step
theorem c_f146a : COk Tryz.prog G 146 Kf146a := con_ok hmix hNm tyk (((CLs.nil.add c_f214a).add c_f213a).add c_f212a) 35 Tryz.func146 (by kernel_rfl) (hn := .e) (by unfold Fact; intro fx; kernel_rfl)
-- (*doorstep/dechunk.Decoder).Feed
theorem c_f108b : COk Tryz.prog G 108 Kf108b := con_ok hmix hNm tyk (CLs.nil.add c_f146a) 63 Tryz.func108 (by kernel_rfl) (hn := .n 3 (.q (.w [(9000, .po 17), (1, .str), (4, .int), (6, .bool), (7, .int), (8, .so 5 .u8)] [(0, 9000)] f108b_L0 fun n0 => .q (.j [(9000, .po 17), (1, .str), (4, .int), (6, .bool), (7, .int), (8, .so 5 .u8), (30, .bool)] [(0, 9000)] (f108b_j3 (f108b_L0 n0)) .e .e) .e) (.j [(9000, .po 17), (4, .int), (6, .bool), (7, .int), (8, .so 5 .u8)] [] f108b_j2 (.j [(9000, .po 17), (4, .int), (6, .bool), (7, .int), (8, .so 5 .u8), (51, .bool)] [(0, 9000)] f108b_j1 .e .e) .e))) (by unfold Fact; intro fx; kernel_rfl)
-- (*doorstep/body.Body).Feed
theorem c_f73b : COk Tryz.prog G 73 Kf73b := con_ok hmix hNm tyk ((CLs.nil.add c_f108b).add c_f108) 87 Tryz.func73 (by kernel_rfl) (hn := .n 3 (.j [(9000, .po 16), (1, .str), (4, .int)] [(0, 9000)] f73b_j1 (.n 2 (.q (.j [(9000, .po 16), (4, .int), (5, .str), (6, .bool), (7, .int)] [(0, 9000)] f73b_j0 .e .e) .e)) .e)) (by unfold Fact; intro fx; kernel_rfl)
-- (*doorstep/gateway.Gateway).request
theorem c_f53a : COk Tryz.prog G 53 Kf53a := con_ok hmix hNm tyk ((((((((((CLs.nil.add c_f73b).add c_f74b).add c_f76a).add c_f75b).add c_f74).add c_f73).add c_f70b).add c_f72a).add c_f71a).add c_f70) 75 Tryz.func53 (by kernel_rfl) (hn := .n 1 (.q (.j [(9000, .po 11), (1, .str), (19, .bool)] [(0, 9000)] f53a_j1 .e (.q (.j [(9000, .po 11), (5, .int), (6, .bool), (7, .int)] [(0, 9000)] f53a_j0 .e .e) .e)) (.j [(9000, .po 11), (8, .int), (9, .str), (10, .bool), (11, .int)] [(0, 9000)] f53a_j3 .e (.j [(9000, .po 11), (8, .int), (10, .bool), (11, .int), (12, .str)] [(0, 9000)] f53a_j2 .e .e)))) (by unfold Fact; intro fx; kernel_rfl)
-- (*doorstep/pairing.Queue).Len
theorem c_f55 : COk Tryz.prog G 55 Kf55 := con_ok hmix hNm tyk CLs.nil 11 Tryz.func55 (by kernel_rfl) (hn := .e) (by unfold Fact; intro fx; kernel_rfl)
-- doorstep/reply.reasons
theorem c_f221 : COk Tryz.prog G 221 Kf221 := con_ok hmix hNm tyk CLs.nil 3 Tryz.func221 (by kernel_rfl) (hn := .e) (by unfold Fact; intro fx; kernel_rfl)
-- doorstep/reply.Make
theorem c_f152 : COk Tryz.prog G 152 Kf152 := con_ok hmix hNm tyk (CLs.nil.add c_f221) 27 Tryz.func152 (by kernel_rfl) (hn := .e) (by unfold Fact; intro fx; kernel_rfl)
-- doorstep/reply.Text
theorem c_f113 : COk Tryz.prog G 113 Kf113 := con_ok hmix hNm tyk (CLs.nil.add c_f152) 20 Tryz.func113 (by kernel_rfl) (hn := .e) (by unfold Fact; intro fx; kernel_rfl)
-- (*doorstep/gateway.Gateway).tell
theorem c_f77 : COk Tryz.prog G 77 Kf77 := con_ok hmix hNm tyk (CLs.nil.add c_f113) 11 Tryz.func77 (by kernel_rfl) (hn := .e) (by unfold Fact; intro fx; kernel_rfl)
-- (*doorstep/pairing.Queue).Len
theorem c_f55a : COk Tryz.prog G 55 Kf55a := con_ok hmix hNm tyk CLs.nil 11 Tryz.func55 (by kernel_rfl) (hn := .e) (by unfold Fact; intro fx; kernel_rfl)
-- (*doorstep/gateway.Gateway).close
theorem c_f59a : COk Tryz.prog G 59 Kf59a := con_ok hmix hNm tyk CLs.nil 13 Tryz.func59 (by kernel_rfl) (hn := .e) (by unfold Fact; intro fx; kernel_rfl)
-- (*doorstep/gateway.Gateway).settle
theorem c_f54a : COk Tryz.prog G 54 Kf54a := con_ok hmix hNm tyk ((((CLs.nil.add c_f55a).add c_f59a).add c_f77).add c_f55) 53 Tryz.func54 (by kernel_rfl) (hn := .j [(9000, .po 11), (2, .int)] [(0, 9000)] f54a_j1 .e (.n 1 (.q .e (.j [(9000, .po 11), (2, .int), (13, .bool)] [(0, 9000)] f54a_j0 .e .e)))) (by unfold Fact; intro fx; kernel_rfl)
-- (*doorstep/gateway.Gateway).Client
theorem c_f36 : COk Tryz.prog G 36 Kf36 := con_ok hmix hNm tyk (((CLs.nil.add c_f54a).add c_f53a).add c_f52) 39 Tryz.func36 (by kernel_rfl) (hn := .n 3 (.q (.w [(9000, .po 11), (1, .str), (6, .int)] [(0, 9000)] f36_L0 fun n0 => .q (.j [(9000, .po 11), (1, .str), (6, .int), (28, .bool)] [(0, 9000)] (f36_j1 (f36_L0 n0)) .e .e) .e) .e)) (by unfold Fact; intro fx; kernel_rfl)
-- (*doorstep/gateway.Gateway).ClientEnd
theorem c_f37 : COk Tryz.prog G 37 Kf37 := con_ok hmix hNm tyk (CLs.nil.add c_f54a) 29 Tryz.func37 (by kernel_rfl) (hn := .e) (by unfold Fact; intro fx; kernel_rfl)
-- (*doorstep/pairing.Queue).Front
theorem c_f114 : COk Tryz.prog G 114 Kf114 := con_ok hmix hNm tyk CLs.nil 13 Tryz.func114 (by kernel_rfl) (hn := .e) (by unfold Fact; intro fx; kernel_rfl)
-- doorstep/length.bodiless
theorem c_f224 : COk Tryz.prog G 224 Kf224 := con_ok hmix hNm tyk CLs.nil 27 Tryz.func224 (by kernel_rfl) (hn := .e) (by unfold Fact; intro fx; kernel_rfl)
-- doorstep/length.Response
theorem c_f155 : COk Tryz.prog G 155 Kf155 := con_ok hmix hNm tyk ((CLs.nil.add c_f200).add c_f224) 15 Tryz.func155 (by kernel_rfl) (hn := .e) (by unfold Fact; intro fx; kernel_rfl)
-- doorstep/reframe.Out
theorem c_f156 : COk Tryz.prog G 156 Kf156 := con_ok hmix hNm tyk CLs.nil 20 Tryz.func156 (by kernel_rfl) (hn := .e) (by unfold Fact; intro fx; kernel_rfl)
-- (*doorstep/gateway.Gateway).final
theorem c_f116 : COk Tryz.prog G 116 Kf116 := con_ok hmix hNm tyk (((CLs.nil.add c_f143).add c_f156).add c_f155) 126 Tryz.func116 (by kernel_rfl) (hn := .e) (by unfold Fact; intro fx; kernel_rfl)
-- (*doorstep/pairing.row[doorstep/pairing.Ticket]).first
theorem c_f154 : COk Tryz.prog G 154 Kf154 := con_ok hmix hNm tyk CLs.nil 18 Tryz.func154 (by kernel_rfl) (hn := .e) (by unfold Fact; intro fx; kernel_rfl)
-- (*doorstep/pairing.Queue).Front
theorem c_f114a : COk Tryz.prog G 114 Kf114a := con_ok hmix hNm tyk (CLs.nil.add c_f154) 13 Tryz.func114 (by kernel_rfl) (hn := .e) (by unfold Fact; intro fx; kernel_rfl)
-- (*doorstep/pairing.Queue).Pop
theorem c_f82 : COk Tryz.prog G 82 Kf82 := con_ok hmix hNm tyk CLs.nil 11 Tryz.func82 (by kernel_rfl) (hn := .e) (by unfold Fact; intro fx; kernel_rfl)
-- (*doorstep/pairing.row[doorstep/pairing.Ticket]).drop
theorem c_f119 : COk Tryz.prog G 119 Kf119 := con_ok hmix hNm tyk (CLs.nil.add c_f154) 20 Tryz.func119 (by kernel_rfl) (hn := .e) (by unfold Fact; intro fx; kernel_rfl)
-- (*doorstep/pairing.Queue).Pop
theorem c_f82a : COk Tryz.prog G 82 Kf82a := con_ok hmix hNm tyk (CLs.nil.add c_f119) 11 Tryz.func82 (by kernel_rfl) (hn := .e) (by unfold Fact; intro fx; kernel_rfl)
-- (*doorstep/gateway.Gateway).send
theorem c_f79b : COk Tryz.prog G 79 Kf79b := con_ok hmix hNm tyk CLs.nil 22 Tryz.func79 (by kernel_rfl) (hn := .n 1 (.w [(9000, .po 11), (6, .sl .str), (7, .int), (8, .int)] [(0, 9000)] f79b_L0 fun n0 => .e)) (by unfold Fact; intro fx; kernel_rfl)
-- (*doorstep/gateway.Gateway).interim
theorem c_f115a : COk Tryz.prog G 115 Kf115a := con_ok hmix hNm tyk ((((CLs.nil.add c_f51).add c_f79b).add c_f144).add c_f143) 58 Tryz.func115 (by kernel_rfl) (hn := .n 4 (.j [(9000, .po 11), (8, .int)] [(0, 9000)] f115a_j0 (.j [(9000, .po 11), (8, .int), (9, .str), (43, .bool)] [(0, 9000)] f115a_j1 .e .e) .e)) (by unfold Fact; intro fx; kernel_rfl)
-- doorstep/rewrite.Close
theorem c_f157 : COk Tryz.prog G 157 Kf157 := con_ok hmix hNm tyk CLs.nil 30 Tryz.func157 (by kernel_rfl) (hn := .n 2 (.j [(3, .po 23), (6, .po 23)] [] f157_j0 .e .e)) (by unfold Fact; intro fx; kernel_rfl)
-- (*doorstep/pairing.row[doorstep/pairing.Ticket]).drop
theorem c_f119a : COk Tryz.prog G 119 Kf119a := con_ok hmix hNm tyk (CLs.nil.add c_f154) 20 Tryz.func119 (by kernel_rfl) (hn := .e) (by unfold Fact; intro fx; kernel_rfl)
-- (*doorstep/gateway.Gateway).answered
theorem c_f58a : COk Tryz.prog G 58 Kf58a := con_ok hmix hNm tyk (((((((((CLs.nil.add c_f80c).add c_f81a).add c_f82a).add c_f59a).add c_f51).add c_f82).add c_f79b).add c_f80).add c_f81) 59 Tryz.func58 (by kernel_rfl) (hn := .j [(9000, .po 11), (2, .str)] [(0, 9000)] f58a_j2 .e (.n 1 (.j [(9000, .po 11)] [(0, 9000)] f58a_j1 .e (.n 1 (.j [(9000, .po 11)] [(0, 9000)] f58a_j0 .e .e))))) (by unfold Fact; intro fx; kernel_rfl)
-- (*doorstep/gateway.Gateway).final
theorem c_f116a : COk Tryz.prog G 116 Kf116a := con_ok hmix hNm tyk ((((((((((((CLs.nil.add c_f107a).add c_f58a).add c_f107).add c_f106).add c_f105).add c_f79b).add c_f144).add c_f157).add c_f149).add c_f143).add c_f156).add c_f155) 126 Tryz.func116 (by kernel_rfl) (hn := .n 6 (.j [(9000, .po 11), (4, .po 22), (5, .po 13), (7, .po 24), (9, .po 24), (10, .po 23)] [(0, 9000)] f116a_j4 .e (.j [(9000, .po 11), (5, .po 13), (7, .po 24), (9, .po 24), (10, .po 23)] [(0, 9000)] f116a_j3 .e (.n 4 (.j [(9000, .po 11), (9, .po 24)] [(0, 9000)] f116a_j2 .e (.j [(9000, .po 11)] [(0, 9000)] f116a_j0 .e (.q (.j [(9000, .po 11), (123, .bool)] [(0, 9000)] f116a_j1 .e .e) .e))))))) (by unfold Fact; intro fx; kernel_rfl)
-- (*doorstep/gateway.Gateway).answers
theorem c_f78a : COk Tryz.prog G 78 Kf78a := con_ok hmix hNm tyk (((((((CLs.nil.add c_f103a).add c_f114a).add c_f116).add c_f115a).add c_f77).add c_f114).add c_f103) 44 Tryz.func78 (by kernel_rfl) (hn := .j [(9000, .po 11), (2, .po 23)] [(0, 9000)] f78a_j2 .e (.j [(9000, .po 11), (2, .po 23), (4, .po 13)] [(0, 9000)] f78a_j1 .e (.n 1 (.j [(9000, .po 11), (6, .int)] [(0, 9000)] f78a_j0 .e .e)))) (by unfold Fact; intro fx; kernel_rfl)
-- (*doorstep/gateway.Gateway).response
theorem c_f56a : COk Tryz.prog G 56 Kf56a := con_ok hmix hNm tyk (((((((((((CLs.nil.add c_f73b).add c_f74b).add c_f58a).add c_f59a).add c_f79b).add c_f74).add c_f73).add c_f70b).add c_f78a).add c_f77).add c_f70) 73 Tryz.func56 (by kernel_rfl) (hn := .n 1 (.q (.j [(9000, .po 11), (1, .str), (19, .bool)] [(0, 9000)] f56a_j2 .e (.q (.j [(9000, .po 11), (5, .int), (6, .bool), (7, .int)] [(0, 9000)] f56a_j1 .e (.j [(9000, .po 11), (5, .int)] [] f56a_j0 .e .e)) .e)) (.j [(9000, .po 11), (8, .int), (9, .str), (10, .bool), (11, .int)] [(0, 9000)] f56a_j4 .e (.j [(9000, .po 11), (8, .int), (10, .bool), (11, .int), (12, .str)] [(0, 9000)] f56a_j3 .e .e)))) (by unfold Fact; intro fx; kernel_rfl)
-- (*doorstep/gateway.Gateway).Upstream
theorem c_f38 : COk Tryz.prog G 38 Kf38 := con_ok hmix hNm tyk ((((CLs.nil.add c_f55a).add c_f54a).add c_f56a).add c_f55) 57 Tryz.func38 (by kernel_rfl) (hn := .n 3 (.q (.w [(9000, .po 11), (1, .str), (6, .int)] [(0, 9000)] f38_L0 fun n0 => .q (.j [(9000, .po 11), (1, .str), (6, .int), (46, .bool)] [(0, 9000)] (f38_j1 (f38_L0 n0)) .e .e) .e) .e)) (by unfold Fact; intro fx; kernel_rfl)
-- (*doorstep/body.Body).End
theorem c_f57 : COk Tryz.prog G 57 Kf57 := con_ok hmix hNm tyk CLs.nil 23 Tryz.func57 (by kernel_rfl) (hn := .e) (by unfold Fact; intro fx; kernel_rfl)
-- (*doorstep/body.Body).End
theorem c_f57b : COk Tryz.prog G 57 Kf57b := con_ok hmix hNm tyk CLs.nil 23 Tryz.func57 (by kernel_rfl) (hn := .n 1 (.j [(9000, .po 16)] [] f57b_j0 .e .e)) (by unfold Fact; intro fx; kernel_rfl)
-- (*doorstep/gateway.Gateway).UpstreamEnd
theorem c_f39 : COk Tryz.prog G 39 Kf39 := con_ok hmix hNm tyk (((((CLs.nil.add c_f57b).add c_f59a).add c_f54a).add c_f58a).add c_f57) 42 Tryz.func39 (by kernel_rfl) (hn := .n 3 (.q (.n 1 (.q (.j [(9000, .po 11), (3, .bool)] [(0, 9000)] f39_j0 .e .e) .e)) .e)) (by unfold Fact; intro fx; kernel_rfl)
-- (*doorstep/gateway.Gateway).Closed
theorem c_f42 : COk Tryz.prog G 42 Kf42 := con_ok hmix hNm tyk CLs.nil 11 Tryz.func42 (by kernel_rfl) (hn := .e) (by unfold Fact; intro fx; kernel_rfl)
-- (*doorstep/gateway.Gateway).ToClient
theorem c_f83 : COk Tryz.prog G 83 Kf83 := con_ok hmix hNm tyk CLs.nil 15 Tryz.func83 (by kernel_rfl) (hn := .e) (by unfold Fact; intro fx; kernel_rfl)
-- (*doorstep/gateway.Gateway).ToUpstream
theorem c_f84 : COk Tryz.prog G 84 Kf84 := con_ok hmix hNm tyk CLs.nil 15 Tryz.func84 (by kernel_rfl) (hn := .e) (by unfold Fact; intro fx; kernel_rfl)
-- (*doorstep/accum.Accum).Kept
theorem c_f159 : COk Tryz.prog G 159 Kf159 := con_ok hmix hNm tyk CLs.nil 10 Tryz.func159 (by kernel_rfl) (hn := .e) (by unfold Fact; intro fx; kernel_rfl)
-- (*doorstep/body.Body).Kept
theorem c_f160 : COk Tryz.prog G 160 Kf160 := con_ok hmix hNm tyk CLs.nil 10 Tryz.func160 (by kernel_rfl) (hn := .e) (by unfold Fact; intro fx; kernel_rfl)
-- (*doorstep/reframe.Writer).Kept
theorem c_f161 : COk Tryz.prog G 161 Kf161 := con_ok hmix hNm tyk CLs.nil 10 Tryz.func161 (by kernel_rfl) (hn := .e) (by unfold Fact; intro fx; kernel_rfl)
-- (*doorstep/enchunk.Encoder).Kept
theorem c_f226 : COk Tryz.prog G 226 Kf226 := con_ok hmix hNm tyk CLs.nil 10 Tryz.func226 (by kernel_rfl) (hn := .e) (by unfold Fact; intro fx; kernel_rfl)
-- (*doorstep/enchunk.Encoder).Kept
theorem c_f226a : COk Tryz.prog G 226 Kf226a := con_ok hmix hNm tyk CLs.nil 10 Tryz.func226 (by kernel_rfl) (hn := .e) (by unfold Fact; intro fx; kernel_rfl)
-- (*doorstep/reframe.Writer).Kept
theorem c_f161a : COk Tryz.prog G 161 Kf161a := con_ok hmix hNm tyk ((CLs.nil.add c_f226a).add c_f226) 10 Tryz.func161 (by kernel_rfl) (hn := .e) (by unfold Fact; intro fx; kernel_rfl)
-- (*doorstep/dechunk.Decoder).Kept
theorem c_f225 : COk Tryz.prog G 225 Kf225 := con_ok hmix hNm tyk CLs.nil 10 Tryz.func225 (by kernel_rfl) (hn := .e) (by unfold Fact; intro fx; kernel_rfl)
-- (*doorstep/dechunk.Decoder).Kept
theorem c_f225a : COk Tryz.prog G 225 Kf225a := con_ok hmix hNm tyk CLs.nil 10 Tryz.func225 (by kernel_rfl) (hn := .e) (by unfold Fact; intro fx; kernel_rfl)
-- (*doorstep/body.Body).Kept
theorem c_f160a : COk Tryz.prog G 160 Kf160a := con_ok hmix hNm tyk ((CLs.nil.add c_f225a).add c_f225) 10 Tryz.func160 (by kernel_rfl) (hn := .e) (by unfold Fact; intro fx; kernel_rfl)
-- (*doorstep/accum.Accum).Kept
theorem c_f159a : COk Tryz.prog G 159 Kf159a := con_ok hmix hNm tyk CLs.nil 10 Tryz.func159 (by kernel_rfl) (hn := .e) (by unfold Fact; intro fx; kernel_rfl)
-- (*doorstep/gateway.side).kept
theorem c_f120 : COk Tryz.prog G 120 Kf120 := con_ok hmix hNm tyk ((((((CLs.nil.add c_f159a).add c_f160a).add c_f161a).add c_f161).add c_f160).add c_f159) 20 Tryz.func120 (by kernel_rfl) (hn := .e) (by unfold Fact; intro fx; kernel_rfl)
-- (*doorstep/gateway.Gateway).Use
theorem c_f85 : COk Tryz.prog G 85 Kf85 := con_ok hmix hNm tyk (CLs.nil.add c_f120) 15 Tryz.func85 (by kernel_rfl) (hn := .e) (by unfold Fact; intro fx; kernel_rfl)
-- doorstep/tmpl.plain
theorem c_f346 : COk Tryz.prog G 346 Kf346 := con_ok hmix hNm tyk (CLs.nil.add c_f190) 9 Tryz.func346 (by kernel_rfl) (hn := .e) (by unfold Fact; intro fx; kernel_rfl)
-- doorstep/tmpl.small
theorem c_f384 : COk Tryz.prog G 384 Kf384 := con_ok hmix hNm tyk CLs.nil 9 Tryz.func384 (by kernel_rfl) (hn := .e) (by unfold Fact; intro fx; kernel_rfl)
end
end Go.Proofs
end
section
set_option linter.unusedVariables false
set_option maxRecDepth 100000
namespace Go.Proofs
open Go.Dk Go.Dm Go.RowKit Go.Rk
noncomputable section
theorem glob_fz {w : World} (hG : GlobT w) : GlOk Tryz.prog G (fun b => w.heap[b]?) := ⟨fun p hp => (by cases hp), fun w' on => hG.same (fz_size on) fun g hg => by
  have hlt : g < w.heap.size := Nat.lt_of_lt_of_le hg hG.size
  rw [Array.getElem?_eq_getElem hlt]
  exact on g _ (Array.getElem?_eq_getElem hlt)⟩
noncomputable def Cz : Bt (CLs Tryz.prog G) := .nd 200 (.nd 105 (.nd 56 (.nd 26 (.nd 15 (.nd 9 (.nd 7 (.nd 6 (.lf 5 (CLs.nil.add c_f5)) (.lf 6 (CLs.nil.add c_f6))) (.nd 8 (.lf 7 (CLs.nil.add c_f7)) (.lf 8 (CLs.nil.add c_f8)))) (.nd 11 (.nd 10 (.lf 9 (CLs.nil.add c_f9)) (.lf 10 (CLs.nil.add c_f10))) (.nd 12 (.lf 11 (CLs.nil.add c_f11)) (.nd 13 (.lf 12 (CLs.nil.add c_f12)) (.lf 13 (CLs.nil.add c_f13)))))) (.nd 20 (.nd 17 (.nd 16 (.lf 15 (CLs.nil.add c_f15)) (.lf 16 (CLs.nil.add c_f16))) (.nd 18 (.lf 17 (CLs.nil.add c_f17)) (.nd 19 (.lf 18 (CLs.nil.add c_f18)) (.lf 19 ((CLs.nil.add c_f19a).add c_f19))))) (.nd 22 (.nd 21 (.lf 20 (CLs.nil.add c_f20)) (.lf 21 (CLs.nil.add c_lClone21))) (.nd 23 (.lf 22 (CLs.nil.add c_f22)) (.nd 24 (.lf 23 (CLs.nil.add c_f23a)) (.lf 24 (CLs.nil.add c_f24))))))) (.nd 44 (.nd 36 (.nd 28 (.nd 27 (.lf 26 (CLs.nil.add c_f26)) (.lf 27 (CLs.nil.add c_f27))) (.nd 33 (.lf 28 (CLs.nil.add c_f28)) (.nd 34 (.lf 33 (CLs.nil.add c_f33)) (.lf 34 (CLs.nil.add c_f34))))) (.nd 38 (.nd 37 (.lf 36 (CLs.nil.add c_f36)) (.lf 37 (CLs.nil.add c_f37))) (.nd 39 (.lf 38 (CLs.nil.add c_f38)) (.nd 42 (.lf 39 (CLs.nil.add c_f39)) (.lf 42 (CLs.nil.add c_f42)))))) (.nd 51 (.nd 48 (.nd 46 (.lf 44 (CLs.nil.add c_f44)) (.lf 46 (CLs.nil.add c_f46))) (.nd 49 (.lf 48 (CLs.nil.add c_f48)) (.nd 50 (.lf 49 (CLs.nil.add c_lClone49)) (.lf 50 (CLs.nil.add c_lClone50))))) (.nd 53 (.nd 52 (.lf 51 (CLs.nil.add c_f51)) (.lf 52 (CLs.nil.add c_f52))) (.nd 54 (.lf 53 (CLs.nil.add c_f53a)) (.nd 55 (.lf 54 (CLs.nil.add c_f54a)) (.lf 55 ((CLs.nil.add c_f55a).add c_f55)))))))) (.nd 81 (.nd 70 (.nd 62 (.nd 58 (.nd 57 (.lf 56 (CLs.nil.add c_f56a)) (.lf 57 ((CLs.nil.add c_f57b).add c_f57))) (.nd 59 (.lf 58 (CLs.nil.add c_f58a)) (.lf 59 (CLs.nil.add c_f59a)))) (.nd 67 (.nd 63 (.lf 62 (CLs.nil.add c_f62)) (.lf 63 (CLs.nil.add c_f63))) (.nd 68 (.lf 67 (CLs.nil.add c_f67)) (.nd 69 (.lf 68 (CLs.nil.add c_f68)) (.lf 69 ((CLs.nil.add c_f69a).add c_f69)))))) (.nd 75 (.nd 72 (.nd 71 (.lf 70 ((CLs.nil.add c_f70b).add c_f70)) (.lf 71 (CLs.nil.add c_f71a))) (.nd 73 (.lf 72 (CLs.nil.add c_f72a)) (.nd 74 (.lf 73 (CLs.nil.add c_f73)) (.lf 74 ((CLs.nil.add c_f74b).add c_f74))))) (.nd 78 (.nd 76 (.lf 75 (CLs.nil.add c_f75b)) (.lf 76 (CLs.nil.add c_f76a))) (.nd 79 (.lf 78 (CLs.nil.add c_f78a)) (.nd 80 (.lf 79 (CLs.nil.add c_f79b)) (.lf 80 ((CLs.nil.add c_f80c).add c_f80))))))) (.nd 91 (.nd 86 (.nd 83 (.nd 82 (.lf 81 ((CLs.nil.add c_f81a).add c_f81)) (.lf 82 (CLs.nil.add c_f82))) (.nd 84 (.lf 83 (CLs.nil.add c_f83)) (.nd 85 (.lf 84 (CLs.nil.add c_f84)) (.lf 85 (CLs.nil.add c_f85))))) (.nd 88 (.nd 87 (.lf 86 (CLs.nil.add c_f86)) (.lf 87 (CLs.nil.add c_f87))) (.nd 89 (.lf 88 (CLs.nil.add c_f88)) (.nd 90 (.lf 89 (CLs.nil.add c_f89)) (.lf 90 (CLs.nil.add c_f90)))))) (.nd 100 (.nd 94 (.nd 93 (.lf 91 (CLs.nil.add c_f91)) (.lf 93 (CLs.nil.add c_f93))) (.nd 95 (.lf 94 (CLs.nil.add c_f94)) (.nd 99 (.lf 95 (CLs.nil.add c_f95)) (.lf 99 ((CLs.nil.add c_f99a).add c_f99))))) (.nd 102 (.nd 101 (.lf 100 (CLs.nil.add c_f100)) (.lf 101 (CLs.nil.add c_f101a))) (.nd 103 (.lf 102 (CLs.nil.add c_f102)) (.nd 104 (.lf 103 ((CLs.nil.add c_f103a).add c_f103)) (.lf 104 ((CLs.nil.add c_f104a).add c_f104))))))))) (.nd 147 (.nd 125 (.nd 115 (.nd 109 (.nd 107 (.nd 106 (.lf 105 (CLs.nil.add c_f105)) (.lf 106 (CLs.nil.add c_f106))) (.nd 108 (.lf 107 ((CLs.nil.add c_f107a).add c_f107)) (.lf 108 (CLs.nil.add c_f108)))) (.nd 111 (.nd 110 (.lf 109 ((CLs.nil.add c_f109a).add c_f109)) (.lf 110 (CLs.nil.add c_f110b))) (.nd 112 (.lf 111 (CLs.nil.add c_f111)) (.nd 114 (.lf 112 (CLs.nil.add c_f112)) (.lf 114 ((CLs.nil.add c_f114a).add c_f114)))))) (.nd 120 (.nd 117 (.nd 116 (.lf 115 (CLs.nil.add c_f115a)) (.lf 116 ((CLs.nil.add c_f116a).add c_f116))) (.nd 118 (.lf 117 (CLs.nil.add c_f117c)) (.nd 119 (.lf 118 ((CLs.nil.add c_f118a).add c_f118)) (.lf 119 ((CLs.nil.add c_f119a).add c_f119))))) (.nd 122 (.nd 121 (.lf 120 (CLs.nil.add c_f120)) (.lf 121 (CLs.nil.add c_lJoin))) (.nd 123 (.lf 122 (CLs.nil.add c_f122)) (.nd 124 (.lf 123 (CLs.nil.add c_f123a)) (.lf 124 (CLs.nil.add c_f124a))))))) (.nd 135 (.nd 130 (.nd 127 (.nd 126 (.lf 125 (CLs.nil.add c_f125a)) (.lf 126 (CLs.nil.add c_f126a))) (.nd 128 (.lf 127 (CLs.nil.add c_f127)) (.nd 129 (.lf 128 (CLs.nil.add c_lFour)) (.lf 129 (CLs.nil.add c_f129))))) (.nd 132 (.nd 131 (.lf 130 (CLs.nil.add c_f130)) (.lf 131 (CLs.nil.add c_f131))) (.nd 133 (.lf 132 (CLs.nil.add c_f132)) (.nd 134 (.lf 133 (CLs.nil.add c_f133)) (.lf 134 (CLs.nil.add c_lIndexAny)))))) (.nd 142 (.nd 137 (.nd 136 (.lf 135 (CLs.nil.add c_f135)) (.lf 136 (CLs.nil.add c_f136))) (.nd 140 (.lf 137 (CLs.nil.add c_f137)) (.nd 141 (.lf 140 (CLs.nil.add c_f140)) (.lf 141 (CLs.nil.add c_f141a))))) (.nd 144 (.nd 143 (.lf 142 (CLs.nil.add c_f142)) (.lf 143 ((CLs.nil.add c_f143a).add c_f143))) (.nd 145 (.lf 144 (CLs.nil.add c_f144)) (.nd 146 (.lf 145 (CLs.nil.add c_f145)) (.lf 146 (CLs.nil.add c_f146a)))))))) (.nd 172 (.nd 159 (.nd 154 (.nd 149 (.nd 148 (.lf 147 ((CLs.nil.add c_f147a).add c_f147)) (.lf 148 (CLs.nil.add c_f148))) (.nd 150 (.lf 149 (CLs.nil.add c_f149)) (.nd 151 (.lf 150 (CLs.nil.add c_f150)) (.lf 151 ((CLs.nil.add c_f151c).add c_f151b))))) (.nd 156 (.nd 155 (.lf 154 (CLs.nil.add c_f154)) (.lf 155 (CLs.nil.add c_f155))) (.nd 157 (.lf 156 (CLs.nil.add c_f156)) (.nd 158 (.lf 157 (CLs.nil.add c_f157)) (.lf 158 (CLs.nil.add c_f158)))))) (.nd 167 (.nd 161 (.nd 160 (.lf 159 ((CLs.nil.add c_f159a).add c_f159)) (.lf 160 ((CLs.nil.add c_f160a).add c_f160))) (.nd 165 (.lf 161 ((CLs.nil.add c_f161a).add c_f161)) (.nd 166 (.lf 165 (CLs.nil.add c_f165a)) (.lf 166 (CLs.nil.add c_f166))))) (.nd 169 (.nd 168 (.lf 167 (CLs.nil.add c_f167a)) (.lf 168 (CLs.nil.add c_f168))) (.nd 170 (.lf 169 (CLs.nil.add c_f169)) (.nd 171 (.lf 170 (CLs.nil.add c_f170)) (.lf 171 (CLs.nil.add c_f171))))))) (.nd 187 (.nd 178 (.nd 174 (.nd 173 (.lf 172 (CLs.nil.add c_f172)) (.lf 173 (CLs.nil.add c_f173))) (.nd 175 (.lf 174 (CLs.nil.add c_lCut)) (.nd 177 (.lf 175 (CLs.nil.add c_f175)) (.lf 177 (CLs.nil.add c_f177))))) (.nd 180 (.nd 179 (.lf 178 (CLs.nil.add c_f178)) (.lf 179 (CLs.nil.add c_f179))) (.nd 181 (.lf 180 (CLs.nil.add c_f180)) (.nd 182 (.lf 181 (CLs.nil.add c_f181)) (.lf 182 (CLs.nil.add c_f182)))))) (.nd 193 (.nd 189 (.nd 188 (.lf 187 (CLs.nil.add c_f187)) (.lf 188 (CLs.nil.add c_f188))) (.nd 190 (.lf 189 (CLs.nil.add c_f189)) (.nd 191 (.lf 190 (CLs.nil.add c_f190)) (.lf 191 (CLs.nil.add c_lTrim))))) (.nd 197 (.nd 194 (.lf 193 (CLs.nil.add c_f193)) (.lf 194 (CLs.nil.add c_lFold))) (.nd 198 (.lf 197 (CLs.nil.add c_f197)) (.nd 199 (.lf 198 (CLs.nil.add c_f198)) (.lf 199 (CLs.nil.add c_f199)))))))))) (.nd 314 (.nd 250 (.nd 220 (.nd 210 (.nd 204 (.nd 202 (.nd 201 (.lf 200 (CLs.nil.add c_f200)) (.lf 201 (CLs.nil.add c_f201))) (.nd 203 (.lf 202 ((((((((CLs.nil.add c_f202g).add c_f202f).add c_f202e).add c_f202d).add c_f202c).add c_f202b).add c_f202a).add c_f202)) (.lf 203 (CLs.nil.add c_f203)))) (.nd 206 (.nd 205 (.lf 204 (CLs.nil.add c_f204)) (.lf 205 (CLs.nil.add c_f205))) (.nd 207 (.lf 206 (CLs.nil.add c_f206)) (.nd 208 (.lf 207 (CLs.nil.add c_f207)) (.lf 208 (CLs.nil.add c_f208)))))) (.nd 215 (.nd 212 (.nd 211 (.lf 210 (CLs.nil.add c_f210)) (.lf 211 (CLs.nil.add c_f211))) (.nd 213 (.lf 212 (CLs.nil.add c_f212a)) (.nd 214 (.lf 213 (CLs.nil.add c_f213a)) (.lf 214 (CLs.nil.add c_f214a))))) (.nd 217 (.nd 216 (.lf 215 (CLs.nil.add c_f215)) (.lf 216 (CLs.nil.add c_f216))) (.nd 218 (.lf 217 (CLs.nil.add c_f217)) (.nd 219 (.lf 218 (CLs.nil.add c_f218)) (.lf 219 (CLs.nil.add c_f219))))))) (.nd 237 (.nd 230 (.nd 225 (.nd 224 (.lf 220 (CLs.nil.add c_f220)) (.lf 224 (CLs.nil.add c_f224))) (.nd 226 (.lf 225 ((CLs.nil.add c_f225a).add c_f225)) (.nd 229 (.lf 226 ((CLs.nil.add c_f226a).add c_f226)) (.lf 229 (CLs.nil.add c_f229))))) (.nd 233 (.nd 231 (.lf 230 (CLs.nil.add c_f230)) (.lf 231 (CLs.nil.add c_f231))) (.nd 234 (.lf 233 (CLs.nil.add c_lSplit)) (.nd 236 (.lf 234 (CLs.nil.add c_f234)) (.lf 236 (CLs.nil.add c_f236)))))) (.nd 245 (.nd 239 (.nd 238 (.lf 237 (CLs.nil.add c_f237)) (.lf 238 (CLs.nil.add c_lFormatInt))) (.nd 240 (.lf 239 (CLs.nil.add c_f239)) (.nd 244 (.lf 240 (CLs.nil.add c_lIndexByte)) (.lf 244 (CLs.nil.add c_f244))))) (.nd 247 (.nd 246 (.lf 245 (CLs.nil.add c_f245)) (.lf 246 (CLs.nil.add c_f246))) (.nd 248 (.lf 247 (CLs.nil.add c_f247)) (.nd 249 (.lf 248 (CLs.nil.add c_lContains)) (.lf 249 (CLs.nil.add c_f249)))))))) (.nd 279 (.nd 269 (.nd 264 (.nd 258 (.nd 257 (.lf 250 (CLs.nil.add c_f250)) (.lf 257 (CLs.nil.add c_f257))) (.nd 262 (.lf 258 (CLs.nil.add c_f258)) (.nd 263 (.lf 262 (CLs.nil.add c_f262)) (.lf 263 (CLs.nil.add c_f263))))) (.nd 266 (.nd 265 (.lf 264 (CLs.nil.add c_f264a)) (.lf 265 (CLs.nil.add c_lIndex))) (.nd 267 (.lf 266 (CLs.nil.add c_f266)) (.nd 268 (.lf 267 (CLs.nil.add c_f267)) (.lf 268 (CLs.nil.add c_f268)))))) (.nd 274 (.nd 271 (.nd 270 (.lf 269 (CLs.nil.add c_f269)) (.lf 270 (CLs.nil.add c_f270))) (.nd 272 (.lf 271 (CLs.nil.add c_f271)) (.nd 273 (.lf 272 (CLs.nil.add c_f272a)) (.lf 273 (CLs.nil.add c_f273))))) (.nd 276 (.nd 275 (.lf 274 (CLs.nil.add c_f274)) (.lf 275 (CLs.nil.add c_f275a))) (.nd 277 (.lf 276 (CLs.nil.add c_f276)) (.nd 278 (.lf 277 ((((((((CLs.nil.add c_f277g).add c_f277f).add c_f277e).add c_f277d).add c_f277c).add c_f277b).add c_f277a).add c_f277)) (.lf 278 (CLs.nil.add c_f278))))))) (.nd 294 (.nd 285 (.nd 281 (.nd 280 (.lf 279 (CLs.nil.add c_f279)) (.lf 280 (CLs.nil.add c_f280))) (.nd 282 (.lf 281 (CLs.nil.add c_f281)) (.nd 284 (.lf 282 (CLs.nil.add c_f282)) (.lf 284 (CLs.nil.add c_f284a))))) (.nd 287 (.nd 286 (.lf 285 (CLs.nil.add c_f285a)) (.lf 286 (CLs.nil.add c_f286))) (.nd 288 (.lf 287 (CLs.nil.add c_lClone287)) (.nd 289 (.lf 288 (CLs.nil.add c_f288)) (.lf 289 (CLs.nil.add c_f289)))))) (.nd 309 (.nd 302 (.nd 295 (.lf 294 (CLs.nil.add c_f294)) (.lf 295 (CLs.nil.add c_f295))) (.nd 303 (.lf 302 (CLs.nil.add c_f302)) (.nd 308 (.lf 303 (CLs.nil.add c_f303)) (.lf 308 (CLs.nil.add c_f308))))) (.nd 311 (.nd 310 (.lf 309 (CLs.nil.add c_f309)) (.lf 310 (CLs.nil.add c_f310))) (.nd 312 (.lf 311 (CLs.nil.add c_f311)) (.nd 313 (.lf 312 (CLs.nil.add c_f312)) (.lf 313 (CLs.nil.add c_f313b))))))))) (.nd 366 (.nd 346 (.nd 323 (.nd 318 (.nd 316 (.nd 315 (.lf 314 (CLs.nil.add c_f314)) (.lf 315 (CLs.nil.add c_f315))) (.nd 317 (.lf 316 (CLs.nil.add c_f316)) (.lf 317 (CLs.nil.add c_f317)))) (.nd 320 (.nd 319 (.lf 318 (CLs.nil.add c_f318a)) (.lf 319 (CLs.nil.add c_f319))) (.nd 321 (.lf 320 (CLs.nil.add c_f320b)) (.nd 322 (.lf 321 (CLs.nil.add c_f321)) (.lf 322 (CLs.nil.add c_f322)))))) (.nd 328 (.nd 325 (.nd 324 (.lf 323 (CLs.nil.add c_f323b)) (.lf 324 ((CLs.nil.add c_f324b).add c_f324))) (.nd 326 (.lf 325 (CLs.nil.add c_f325)) (.nd 327 (.lf 326 (CLs.nil.add c_f326)) (.lf 327 (CLs.nil.add c_f327a))))) (.nd 330 (.nd 329 (.lf 328 (CLs.nil.add c_f328)) (.lf 329 (CLs.nil.add c_f329))) (.nd 332 (.lf 330 (CLs.nil.add c_f330)) (.nd 343 (.lf 332 (CLs.nil.add c_f332)) (.lf 343 (CLs.nil.add c_f343a))))))) (.nd 356 (.nd 351 (.nd 348 (.nd 347 (.lf 346 (CLs.nil.add c_f346)) (.lf 347 (CLs.nil.add c_f347))) (.nd 349 (.lf 348 (CLs.nil.add c_f348a)) (.nd 350 (.lf 349 (CLs.nil.add c_f349a)) (.lf 350 (CLs.nil.add c_f350a))))) (.nd 353 (.nd 352 (.lf 351 (CLs.nil.add c_f351)) (.lf 352 (CLs.nil.add c_f352))) (.nd 354 (.lf 353 (CLs.nil.add c_f353)) (.nd 355 (.lf 354 (CLs.nil.add c_f354)) (.lf 355 ((CLs.nil.add c_f355a).add c_f355)))))) (.nd 361 (.nd 358 (.nd 357 (.lf 356 (CLs.nil.add c_f356)) (.lf 357 ((((CLs.nil.add c_f357c).add c_f357b).add c_f357a).add c_f357))) (.nd 359 (.lf 358 (CLs.nil.add c_f358)) (.nd 360 (.lf 359 (CLs.nil.add c_f359)) (.lf 360 (CLs.nil.add c_f360))))) (.nd 363 (.nd 362 (.lf 361 (CLs.nil.add c_f361)) (.lf 362 (CLs.nil.add c_f362))) (.nd 364 (.lf 363 (CLs.nil.add c_f363)) (.nd 365 (.lf 364 (CLs.nil.add c_f364)) (.lf 365 (CLs.nil.add c_f365)))))))) (.nd 397 (.nd 385 (.nd 371 (.nd 368 (.nd 367 (.lf 366 (CLs.nil.add c_f366a)) (.lf 367 (CLs.nil.add c_f367))) (.nd 369 (.lf 368 (CLs.nil.add c_f368a)) (.nd 370 (.lf 369 (CLs.nil.add c_f369)) (.lf 370 (CLs.nil.add c_f370))))) (.nd 374 (.nd 372 (.lf 371 (CLs.nil.add c_f371)) (.lf 372 (CLs.nil.add c_f372))) (.nd 375 (.lf 374 (CLs.nil.add c_f374)) (.nd 384 (.lf 375 (CLs.nil.add c_f375)) (.lf 384 (CLs.nil.add c_f384)))))) (.nd 392 (.nd 387 (.nd 386 (.lf 385 (CLs.nil.add c_f385)) (.lf 386 (CLs.nil.add c_f386a))) (.nd 388 (.lf 387 (CLs.nil.add c_f387)) (.nd 389 (.lf 388 (CLs.nil.add c_f388)) (.lf 389 (CLs.nil.add c_f389))))) (.nd 394 (.nd 393 (.lf 392 (CLs.nil.add c_f392)) (.lf 393 (CLs.nil.add c_f393))) (.nd 395 (.lf 394 (CLs.nil.add c_f394)) (.nd 396 (.lf 395 (CLs.nil.add c_f395)) (.lf 396 (CLs.nil.add c_f396))))))) (.nd 409 (.nd 402 (.nd 399 (.nd 398 (.lf 397 (CLs.nil.add c_f397)) (.lf 398 (CLs.nil.add c_f398))) (.nd 400 (.lf 399 (CLs.nil.add c_f399)) (.nd 401 (.lf 400 (CLs.nil.add c_f400)) (.lf 401 (CLs.nil.add c_f401))))) (.nd 404 (.nd 403 (.lf 402 (CLs.nil.add c_f402a)) (.lf 403 (CLs.nil.add c_f403))) (.nd 405 (.lf 404 (CLs.nil.add c_lTrimRight)) (.nd 406 (.lf 405 (CLs.nil.add c_f405)) (.lf 406 (CLs.nil.add c_f406a)))))) (.nd 415 (.nd 411 (.nd 410 (.lf 409 (CLs.nil.add c_f409a)) (.lf 410 (CLs.nil.add c_f410a))) (.nd 413 (.lf 411 (CLs.nil.add c_f411)) (.nd 414 (.lf 413 (CLs.nil.add c_f413)) (.lf 414 (CLs.nil.add c_f414))))) (.nd 417 (.nd 416 (.lf 415 (CLs.nil.add c_f415)) (.lf 416 (CLs.nil.add c_f416))) (.nd 419 (.lf 417 (CLs.nil.add c_f417)) (.nd 420 (.lf 419 (CLs.nil.add c_f419)) (.lf 420 (CLs.nil.add c_f420))))))))))
noncomputable def Bz : Bt (FnS Tryz.prog) := .nd 209 (.nd 105 (.nd 53 (.nd 27 (.nd 14 (.nd 8 (.nd 5 (.nd 3 (.lf 2 (fnS Tryz.func2)) (.nd 4 (.lf 3 (fnS Tryz.func3)) (.lf 4 (fnS Tryz.func4)))) (.nd 6 (.lf 5 (fnS Tryz.func5)) (.nd 7 (.lf 6 (fnS Tryz.func6)) (.lf 7 (fnS Tryz.func7))))) (.nd 11 (.nd 9 (.lf 8 (fnS Tryz.func8)) (.nd 10 (.lf 9 (fnS Tryz.func9)) (.lf 10 (fnS Tryz.func10)))) (.nd 12 (.lf 11 (fnS Tryz.func11)) (.nd 13 (.lf 12 (fnS Tryz.func12)) (.lf 13 (fnS Tryz.func13)))))) (.nd 20 (.nd 17 (.nd 15 (.lf 14 (fnS Tryz.func14)) (.nd 16 (.lf 15 (fnS Tryz.func15)) (.lf 16 (fnS Tryz.func16)))) (.nd 18 (.lf 17 (fnS Tryz.func17)) (.nd 19 (.lf 18 (fnS Tryz.func18)) (.lf 19 (fnS Tryz.func19))))) (.nd 23 (.nd 21 (.lf 20 (fnS Tryz.func20)) (.nd 22 (.lf 21 (fnS Tryz.func21)) (.lf 22 (fnS Tryz.func22)))) (.nd 25 (.nd 24 (.lf 23 (fnS Tryz.func23)) (.lf 24 (fnS Tryz.func24))) (.nd 26 (.lf 25 (fnS Tryz.func25)) (.lf 26 (fnS Tryz.func26))))))) (.nd 40 (.nd 33 (.nd 30 (.nd 28 (.lf 27 (fnS Tryz.func27)) (.nd 29 (.lf 28 (fnS Tryz.func28)) (.lf 29 (fnS Tryz.func29)))) (.nd 31 (.lf 30 (fnS Tryz.func30)) (.nd 32 (.lf 31 (fnS Tryz.func31)) (.lf 32 (fnS Tryz.func32))))) (.nd 36 (.nd 34 (.lf 33 (fnS Tryz.func33)) (.nd 35 (.lf 34 (fnS Tryz.func34)) (.lf 35 (fnS Tryz.func35)))) (.nd 38 (.nd 37 (.lf 36 (fnS Tryz.func36)) (.lf 37 (fnS Tryz.func37))) (.nd 39 (.lf 38 (fnS Tryz.func38)) (.lf 39 (fnS Tryz.func39)))))) (.nd 46 (.nd 43 (.nd 41 (.lf 40 (fnS Tryz.func40)) (.nd 42 (.lf 41 (fnS Tryz.func41)) (.lf 42 (fnS Tryz.func42)))) (.nd 44 (.lf 43 (fnS Tryz.func43)) (.nd 45 (.lf 44 (fnS Tryz.func44)) (.lf 45 (fnS Tryz.func45))))) (.nd 49 (.nd 47 (.lf 46 (fnS Tryz.func46)) (.nd 48 (.lf 47 (fnS Tryz.func47)) (.lf 48 (fnS Tryz.func48)))) (.nd 51 (.nd 50 (.lf 49 (fnS Tryz.func49)) (.lf 50 (fnS Tryz.func50))) (.nd 52 (.lf 51 (fnS Tryz.func51)) (.lf 52 (fnS Tryz.func52)))))))) (.nd 79 (.nd 66 (.nd 59 (.nd 56 (.nd 54 (.lf 53 (fnS Tryz.func53)) (.nd 55 (.lf 54 (fnS Tryz.func54)) (.lf 55 (fnS Tryz.func55)))) (.nd 57 (.lf 56 (fnS Tryz.func56)) (.nd 58 (.lf 57 (fnS Tryz.func57)) (.lf 58 (fnS Tryz.func58))))) (.nd 62 (.nd 60 (.lf 59 (fnS Tryz.func59)) (.nd 61 (.lf 60 (fnS Tryz.func60)) (.lf 61 (fnS Tryz.func61)))) (.nd 64 (.nd 63 (.lf 62 (fnS Tryz.func62)) (.lf 63 (fnS Tryz.func63))) (.nd 65 (.lf 64 (fnS Tryz.func64)) (.lf 65 (fnS Tryz.func65)))))) (.nd 72 (.nd 69 (.nd 67 (.lf 66 (fnS Tryz.func66)) (.nd 68 (.lf 67 (fnS Tryz.func67)) (.lf 68 (fnS Tryz.func68)))) (.nd 70 (.lf 69 (fnS Tryz.func69)) (.nd 71 (.lf 70 (fnS Tryz.func70)) (.lf 71 (fnS Tryz.func71))))) (.nd 75 (.nd 73 (.lf 72 (fnS Tryz.func72)) (.nd 74 (.lf 73 (fnS Tryz.func73)) (.lf 74 (fnS Tryz.func74)))) (.nd 77 (.nd 76 (.lf 75 (fnS Tryz.func75)) (.lf 76 (fnS Tryz.func76))) (.nd 78 (.lf 77 (fnS Tryz.func77)) (.lf 78 (fnS Tryz.func78))))))) (.nd 92 (.nd 85 (.nd 82 (.nd 80 (.lf 79 (fnS Tryz.func79)) (.nd 81 (.lf 80 (fnS Tryz.func80)) (.lf 81 (fnS Tryz.func81)))) (.nd 83 (.lf 82 (fnS Tryz.func82)) (.nd 84 (.lf 83 (fnS Tryz.func83)) (.lf 84 (fnS Tryz.func84))))) (.nd 88 (.nd 86 (.lf 85 (fnS Tryz.func85)) (.nd 87 (.lf 86 (fnS Tryz.func86)) (.lf 87 (fnS Tryz.func87)))) (.nd 90 (.nd 89 (.lf 88 (fnS Tryz.func88)) (.lf 89 (fnS Tryz.func89))) (.nd 91 (.lf 90 (fnS Tryz.func90)) (.lf 91 (fnS Tryz.func91)))))) (.nd 98 (.nd 95 (.nd 93 (.lf 92 (fnS Tryz.func92)) (.nd 94 (.lf 93 (fnS Tryz.func93)) (.lf 94 (fnS Tryz.func94)))) (.nd 96 (.lf 95 (fnS Tryz.func95)) (.nd 97 (.lf 96 (fnS Tryz.func96)) (.lf 97 (fnS Tryz.func97))))) (.nd 101 (.nd 99 (.lf 98 (fnS Tryz.func98)) (.nd 100 (.lf 99 (fnS Tryz.func99)) (.lf 100 (fnS Tryz.func100)))) (.nd 103 (.nd 102 (.lf 101 (fnS Tryz.func101)) (.lf 102 (fnS Tryz.func102))) (.nd 104 (.lf 103 (fnS Tryz.func103)) (.lf 104 (fnS Tryz.func104))))))))) (.nd 157 (.nd 131 (.nd 118 (.nd 111 (.nd 108 (.nd 106 (.lf 105 (fnS Tryz.func105)) (.nd 107 (.lf 106 (fnS Tryz.func106)) (.lf 107 (fnS Tryz.func107)))) (.nd 109 (.lf 108 (fnS Tryz.func108)) (.nd 110 (.lf 109 (fnS Tryz.func109)) (.lf 110 (fnS Tryz.func110))))) (.nd 114 (.nd 112 (.lf 111 (fnS Tryz.func111)) (.nd 113 (.lf 112 (fnS Tryz.func112)) (.lf 113 (fnS Tryz.func113)))) (.nd 116 (.nd 115 (.lf 114 (fnS Tryz.func114)) (.lf 115 (fnS Tryz.func115))) (.nd 117 (.lf 116 (fnS Tryz.func116)) (.lf 117 (fnS Tryz.func117)))))) (.nd 124 (.nd 121 (.nd 119 (.lf 118 (fnS Tryz.func118)) (.nd 120 (.lf 119 (fnS Tryz.func119)) (.lf 120 (fnS Tryz.func120)))) (.nd 122 (.lf 121 (fnS Tryz.func121)) (.nd 123 (.lf 122 (fnS Tryz.func122)) (.lf 123 (fnS Tryz.func123))))) (.nd 127 (.nd 125 (.lf 124 (fnS Tryz.func124)) (.nd 126 (.lf 125 (fnS Tryz.func125)) (.lf 126 (fnS Tryz.func126)))) (.nd 129 (.nd 128 (.lf 127 (fnS Tryz.func127)) (.lf 128 (fnS Tryz.func128))) (.nd 130 (.lf 129 (fnS Tryz.func129)) (.lf 130 (fnS Tryz.func130))))))) (.nd 144 (.nd 137 (.nd 134 (.nd 132 (.lf 131 (fnS Tryz.func131)) (.nd 133 (.lf 132 (fnS Tryz.func132)) (.lf 133 (fnS Tryz.func133)))) (.nd 135 (.lf 134 (fnS Tryz.func134)) (.nd 136 (.lf 135 (fnS Tryz.func135)) (.lf 136 (fnS Tryz.func136))))) (.nd 140 (.nd 138 (.lf 137 (fnS Tryz.func137)) (.nd 139 (.lf 138 (fnS Tryz.func138)) (.lf 139 (fnS Tryz.func139)))) (.nd 142 (.nd 141 (.lf 140 (fnS Tryz.func140)) (.lf 141 (fnS Tryz.func141))) (.nd 143 (.lf 142 (fnS Tryz.func142)) (.lf 143 (fnS Tryz.func143)))))) (.nd 150 (.nd 147 (.nd 145 (.lf 144 (fnS Tryz.func144)) (.nd 146 (.lf 145 (fnS Tryz.func145)) (.lf 146 (fnS Tryz.func146)))) (.nd 148 (.lf 147 (fnS Tryz.func147)) (.nd 149 (.lf 148 (fnS Tryz.func148)) (.lf 149 (fnS Tryz.func149))))) (.nd 153 (.nd 151 (.lf 150 (fnS Tryz.func150)) (.nd 152 (.lf 151 (fnS Tryz.func151)) (.lf 152 (fnS Tryz.func152)))) (.nd 155 (.nd 154 (.lf 153 (fnS Tryz.func153)) (.lf 154 (fnS Tryz.func154))) (.nd 156 (.lf 155 (fnS Tryz.func155)) (.lf 156 (fnS Tryz.func156)))))))) (.nd 183 (.nd 170 (.nd 163 (.nd 160 (.nd 158 (.lf 157 (fnS Tryz.func157)) (.nd 159 (.lf 158 (fnS Tryz.func158)) (.lf 159 (fnS Tryz.func159)))) (.nd 161 (.lf 160 (fnS Tryz.func160)) (.nd 162 (.lf 161 (fnS Tryz.func161)) (.lf 162 (fnS Tryz.func162))))) (.nd 166 (.nd 164 (.lf 163 (fnS Tryz.func163)) (.nd 165 (.lf 164 (fnS Tryz.func164)) (.lf 165 (fnS Tryz.func165)))) (.nd 168 (.nd 167 (.lf 166 (fnS Tryz.func166)) (.lf 167 (fnS Tryz.func167))) (.nd 169 (.lf 168 (fnS Tryz.func168)) (.lf 169 (fnS Tryz.func169)))))) (.nd 176 (.nd 173 (.nd 171 (.lf 170 (fnS Tryz.func170)) (.nd 172 (.lf 171 (fnS Tryz.func171)) (.lf 172 (fnS Tryz.func172)))) (.nd 174 (.lf 173 (fnS Tryz.func173)) (.nd 175 (.lf 174 (fnS Tryz.func174)) (.lf 175 (fnS Tryz.func175))))) (.nd 179 (.nd 177 (.lf 176 (fnS Tryz.func176)) (.nd 178 (.lf 177 (fnS Tryz.func177)) (.lf 178 (fnS Tryz.func178)))) (.nd 181 (.nd 180 (.lf 179 (fnS Tryz.func179)) (.lf 180 (fnS Tryz.func180))) (.nd 182 (.lf 181 (fnS Tryz.func181)) (.lf 182 (fnS Tryz.func182))))))) (.nd 196 (.nd 189 (.nd 186 (.nd 184 (.lf 183 (fnS Tryz.func183)) (.nd 185 (.lf 184 (fnS Tryz.func184)) (.lf 185 (fnS Tryz.func185)))) (.nd 187 (.lf 186 (fnS Tryz.func186)) (.nd 188 (.lf 187 (fnS Tryz.func187)) (.lf 188 (fnS Tryz.func188))))) (.nd 192 (.nd 190 (.lf 189 (fnS Tryz.func189)) (.nd 191 (.lf 190 (fnS Tryz.func190)) (.lf 191 (fnS Tryz.func191)))) (.nd 194 (.nd 193 (.lf 192 (fnS Tryz.func192)) (.lf 193 (fnS Tryz.func193))) (.nd 195 (.lf 194 (fnS Tryz.func194)) (.lf 195 (fnS Tryz.func195)))))) (.nd 202 (.nd 199 (.nd 197 (.lf 196 (fnS Tryz.func196)) (.nd 198 (.lf 197 (fnS Tryz.func197)) (.lf 198 (fnS Tryz.func198)))) (.nd 200 (.lf 199 (fnS Tryz.func199)) (.nd 201 (.lf 200 (fnS Tryz.func200)) (.lf 201 (fnS Tryz.func201))))) (.nd 205 (.nd 203 (.lf 202 (fnS Tryz.func202)) (.nd 204 (.lf 203 (fnS Tryz.func203)) (.lf 204 (fnS Tryz.func204)))) (.nd 207 (.nd 206 (.lf 205 (fnS Tryz.func205)) (.lf 206 (fnS Tryz.func206))) (.nd 208 (.lf 207 (fnS Tryz.func207)) (.lf 208 (fnS Tryz.func208)))))))))) (.nd 315 (.nd 261 (.nd 234 (.nd 221 (.nd 215 (.nd 212 (.nd 210 (.lf 209 (fnS Tryz.func209)) (.nd 211 (.lf 210 (fnS Tryz.func210)) (.lf 211 (fnS Tryz.func211)))) (.nd 213 (.lf 212 (fnS Tryz.func212)) (.nd 214 (.lf 213 (fnS Tryz.func213)) (.lf 214 (fnS Tryz.func214))))) (.nd 218 (.nd 216 (.lf 215 (fnS Tryz.func215)) (.nd 217 (.lf 216 (fnS Tryz.func216)) (.lf 217 (fnS Tryz.func217)))) (.nd 219 (.lf 218 (fnS Tryz.func218)) (.nd 220 (.lf 219 (fnS Tryz.func219)) (.lf 220 (fnS Tryz.func220)))))) (.nd 227 (.nd 224 (.nd 222 (.lf 221 (fnS Tryz.func221)) (.nd 223 (.lf 222 (fnS Tryz.func222)) (.lf 223 (fnS Tryz.func223)))) (.nd 225 (.lf 224 (fnS Tryz.func224)) (.nd 226 (.lf 225 (fnS Tryz.func225)) (.lf 226 (fnS Tryz.func226))))) (.nd 230 (.nd 228 (.lf 227 (fnS Tryz.func227)) (.nd 229 (.lf 228 (fnS Tryz.func228)) (.lf 229 (fnS Tryz.func229)))) (.nd 232 (.nd 231 (.lf 230 (fnS Tryz.func230)) (.lf 231 (fnS Tryz.func231))) (.nd 233 (.lf 232 (fnS Tryz.func232)) (.lf 233 (fnS Tryz.func233))))))) (.nd 248 (.nd 240 (.nd 237 (.nd 235 (.lf 234 (fnS Tryz.func234)) (.nd 236 (.lf 235 (fnS Tryz.func235)) (.lf 236 (fnS Tryz.func236)))) (.nd 238 (.lf 237 (fnS Tryz.func237)) (.nd 239 (.lf 238 (fnS Tryz.func238)) (.lf 239 (fnS Tryz.func239))))) (.nd 244 (.nd 241 (.lf 240 (fnS Tryz.func240)) (.nd 242 (.lf 241 (fnS Tryz.func241)) (.lf 242 (fnS Tryz.func242)))) (.nd 246 (.nd 245 (.lf 244 (fnS Tryz.func244)) (.lf 245 (fnS Tryz.func245))) (.nd 247 (.lf 246 (fnS Tryz.func246)) (.lf 247 (fnS Tryz.func247)))))) (.nd 254 (.nd 251 (.nd 249 (.lf 248 (fnS Tryz.func248)) (.nd 250 (.lf 249 (fnS Tryz.func249)) (.lf 250 (fnS Tryz.func250)))) (.nd 252 (.lf 251 (fnS Tryz.func251)) (.nd 253 (.lf 252 (fnS Tryz.func252)) (.lf 253 (fnS Tryz.func253))))) (.nd 257 (.nd 255 (.lf 254 (fnS Tryz.func254)) (.nd 256 (.lf 255 (fnS Tryz.func255)) (.lf 256 (fnS Tryz.func256)))) (.nd 259 (.nd 258 (.lf 257 (fnS Tryz.func257)) (.lf 258 (fnS Tryz.func258))) (.nd 260 (.lf 259 (fnS Tryz.func259)) (.lf 260 (fnS Tryz.func260)))))))) (.nd 287 (.nd 274 (.nd 267 (.nd 264 (.nd 262 (.lf 261 (fnS Tryz.func261)) (.nd 263 (.lf 262 (fnS Tryz.func262)) (.lf 263 (fnS Tryz.func263)))) (.nd 265 (.lf 264 (fnS Tryz.func264)) (.nd 266 (.lf 265 (fnS Tryz.func265)) (.lf 266 (fnS Tryz.func266))))) (.nd 270 (.nd 268 (.lf 267 (fnS Tryz.func267)) (.nd 269 (.lf 268 (fnS Tryz.func268)) (.lf 269 (fnS Tryz.func269)))) (.nd 272 (.nd 271 (.lf 270 (fnS Tryz.func270)) (.lf 271 (fnS Tryz.func271))) (.nd 273 (.lf 272 (fnS Tryz.func272)) (.lf 273 (fnS Tryz.func273)))))) (.nd 280 (.nd 277 (.nd 275 (.lf 274 (fnS Tryz.func274)) (.nd 276 (.lf 275 (fnS Tryz.func275)) (.lf 276 (fnS Tryz.func276)))) (.nd 278 (.lf 277 (fnS Tryz.func277)) (.nd 279 (.lf 278 (fnS Tryz.func278)) (.lf 279 (fnS Tryz.func279))))) (.nd 283 (.nd 281 (.lf 280 (fnS Tryz.func280)) (.nd 282 (.lf 281 (fnS Tryz.func281)) (.lf 282 (fnS Tryz.func282)))) (.nd 285 (.nd 284 (.lf 283 (fnS Tryz.func283)) (.lf 284 (fnS Tryz.func284))) (.nd 286 (.lf 285 (fnS Tryz.func285)) (.lf 286 (fnS Tryz.func286))))))) (.nd 302 (.nd 295 (.nd 290 (.nd 288 (.lf 287 (fnS Tryz.func287)) (.nd 289 (.lf 288 (fnS Tryz.func288)) (.lf 289 (fnS Tryz.func289)))) (.nd 291 (.lf 290 (fnS Tryz.func290)) (.nd 294 (.lf 291 (fnS Tryz.func291)) (.lf 294 (fnS Tryz.func294))))) (.nd 298 (.nd 296 (.lf 295 (fnS Tryz.func295)) (.nd 297 (.lf 296 (fnS Tryz.func296)) (.lf 297 (fnS Tryz.func297)))) (.nd 300 (.nd 299 (.lf 298 (fnS Tryz.func298)) (.lf 299 (fnS Tryz.func299))) (.nd 301 (.lf 300 (fnS Tryz.func300)) (.lf 301 (fnS Tryz.func301)))))) (.nd 308 (.nd 305 (.nd 303 (.lf 302 (fnS Tryz.func302)) (.nd 304 (.lf 303 (fnS Tryz.func303)) (.lf 304 (fnS Tryz.func304)))) (.nd 306 (.lf 305 (fnS Tryz.func305)) (.nd 307 (.lf 306 (fnS Tryz.func306)) (.lf 307 (fnS Tryz.func307))))) (.nd 311 (.nd 309 (.lf 308 (fnS Tryz.func308)) (.nd 310 (.lf 309 (fnS Tryz.func309)) (.lf 310 (fnS Tryz.func310)))) (.nd 313 (.nd 312 (.lf 311 (fnS Tryz.func311)) (.lf 312 (fnS Tryz.func312))) (.nd 314 (.lf 313 (fnS Tryz.func313)) (.lf 314 (fnS Tryz.func314))))))))) (.nd 368 (.nd 342 (.nd 328 (.nd 321 (.nd 318 (.nd 316 (.lf 315 (fnS Tryz.func315)) (.nd 317 (.lf 316 (fnS Tryz.func316)) (.lf 317 (fnS Tryz.func317)))) (.nd 319 (.lf 318 (fnS Tryz.func318)) (.nd 320 (.lf 319 (fnS Tryz.func319)) (.lf 320 (fnS Tryz.func320))))) (.nd 324 (.nd 322 (.lf 321 (fnS Tryz.func321)) (.nd 323 (.lf 322 (fnS Tryz.func322)) (.lf 323 (fnS Tryz.func323)))) (.nd 326 (.nd 325 (.lf 324 (fnS Tryz.func324)) (.lf 325 (fnS Tryz.func325))) (.nd 327 (.lf 326 (fnS Tryz.func326)) (.lf 327 (fnS Tryz.func327)))))) (.nd 334 (.nd 331 (.nd 329 (.lf 328 (fnS Tryz.func328)) (.nd 330 (.lf 329 (fnS Tryz.func329)) (.lf 330 (fnS Tryz.func330)))) (.nd 332 (.lf 331 (fnS Tryz.func331)) (.nd 333 (.lf 332 (fnS Tryz.func332)) (.lf 333 (fnS Tryz.func333))))) (.nd 337 (.nd 335 (.lf 334 (fnS Tryz.func334)) (.nd 336 (.lf 335 (fnS Tryz.func335)) (.lf 336 (fnS Tryz.func336)))) (.nd 339 (.nd 338 (.lf 337 (fnS Tryz.func337)) (.lf 338 (fnS Tryz.func338))) (.nd 340 (.lf 339 (fnS Tryz.func339)) (.lf 340 (fnS Tryz.func340))))))) (.nd 355 (.nd 348 (.nd 345 (.nd 343 (.lf 342 (fnS Tryz.func342)) (.nd 344 (.lf 343 (fnS Tryz.func343)) (.lf 344 (fnS Tryz.func344)))) (.nd 346 (.lf 345 (fnS Tryz.func345)) (.nd 347 (.lf 346 (fnS Tryz.func346)) (.lf 347 (fnS Tryz.func347))))) (.nd 351 (.nd 349 (.lf 348 (fnS Tryz.func348)) (.nd 350 (.lf 349 (fnS Tryz.func349)) (.lf 350 (fnS Tryz.func350)))) (.nd 353 (.nd 352 (.lf 351 (fnS Tryz.func351)) (.lf 352 (fnS Tryz.func352))) (.nd 354 (.lf 353 (fnS Tryz.func353)) (.lf 354 (fnS Tryz.func354)))))) (.nd 361 (.nd 358 (.nd 356 (.lf 355 (fnS Tryz.func355)) (.nd 357 (.lf 356 (fnS Tryz.func356)) (.lf 357 (fnS Tryz.func357)))) (.nd 359 (.lf 358 (fnS Tryz.func358)) (.nd 360 (.lf 359 (fnS Tryz.func359)) (.lf 360 (fnS Tryz.func360))))) (.nd 364 (.nd 362 (.lf 361 (fnS Tryz.func361)) (.nd 363 (.lf 362 (fnS Tryz.func362)) (.lf 363 (fnS Tryz.func363)))) (.nd 366 (.nd 365 (.lf 364 (fnS Tryz.func364)) (.lf 365 (fnS Tryz.func365))) (.nd 367 (.lf 366 (fnS Tryz.func366)) (.lf 367 (fnS Tryz.func367)))))))) (.nd 396 (.nd 382 (.nd 374 (.nd 371 (.nd 369 (.lf 368 (fnS Tryz.func368)) (.nd 370 (.lf 369 (fnS Tryz.func369)) (.lf 370 (fnS Tryz.func370)))) (.nd 372 (.lf 371 (fnS Tryz.func371)) (.nd 373 (.lf 372 (fnS Tryz.func372)) (.lf 373 (fnS Tryz.func373))))) (.nd 377 (.nd 375 (.lf 374 (fnS Tryz.func374)) (.nd 376 (.lf 375 (fnS Tryz.func375)) (.lf 376 (fnS Tryz.func376)))) (.nd 380 (.nd 379 (.lf 377 (fnS Tryz.func377)) (.lf 379 (fnS Tryz.func379))) (.nd 381 (.lf 380 (fnS Tryz.func380)) (.lf 381 (fnS Tryz.func381)))))) (.nd 388 (.nd 385 (.nd 383 (.lf 382 (fnS Tryz.func382)) (.nd 384 (.lf 383 (fnS Tryz.func383)) (.lf 384 (fnS Tryz.func384)))) (.nd 386 (.lf 385 (fnS Tryz.func385)) (.nd 387 (.lf 386 (fnS Tryz.func386)) (.lf 387 (fnS Tryz.func387))))) (.nd 392 (.nd 389 (.lf 388 (fnS Tryz.func388)) (.nd 391 (.lf 389 (fnS Tryz.func389)) (.lf 391 (fnS Tryz.func391)))) (.nd 394 (.nd 393 (.lf 392 (fnS Tryz.func392)) (.lf 393 (fnS Tryz.func393))) (.nd 395 (.lf 394 (fnS Tryz.func394)) (.lf 395 (fnS Tryz.func395))))))) (.nd 409 (.nd 402 (.nd 399 (.nd 397 (.lf 396 (fnS Tryz.func396)) (.nd 398 (.lf 397 (fnS Tryz.func397)) (.lf 398 (fnS Tryz.func398)))) (.nd 400 (.lf 399 (fnS Tryz.func399)) (.nd 401 (.lf 400 (fnS Tryz.func400)) (.lf 401 (fnS Tryz.func401))))) (.nd 405 (.nd 403 (.lf 402 (fnS Tryz.func402)) (.nd 404 (.lf 403 (fnS Tryz.func403)) (.lf 404 (fnS Tryz.func404)))) (.nd 407 (.nd 406 (.lf 405 (fnS Tryz.func405)) (.lf 406 (fnS Tryz.func406))) (.nd 408 (.lf 407 (fnS Tryz.func407)) (.lf 408 (fnS Tryz.func408)))))) (.nd 415 (.nd 412 (.nd 410 (.lf 409 (fnS Tryz.func409)) (.nd 411 (.lf 410 (fnS Tryz.func410)) (.lf 411 (fnS Tryz.func411)))) (.nd 413 (.lf 412 (fnS Tryz.func412)) (.nd 414 (.lf 413 (fnS Tryz.func413)) (.lf 414 (fnS Tryz.func414))))) (.nd 418 (.nd 416 (.lf 415 (fnS Tryz.func415)) (.nd 417 (.lf 416 (fnS Tryz.func416)) (.lf 417 (fnS Tryz.func417)))) (.nd 420 (.nd 419 (.lf 418 (fnS Tryz.func418)) (.lf 419 (fnS Tryz.func419))) (.nd 446 (.lf 420 (fnS Tryz.func420)) (.lf 446 (fnS Tryz.func446))))))))))
noncomputable def Xz : Cx tau := ⟨Tryz.prog, G, tyl, [], 0, fun _ => .bool false⟩
end
end Go.Proofs
end
section
set_option linter.unusedVariables false
set_option maxRecDepth 100000
namespace Go.Proofs
open Go.Dk Go.Dm Go.RowKit Go.Rk
noncomputable section
def aQ0 : S0 := ([], [], [], [109, 101], [], [], 500, 9, 1, [], [71, 69, 84, 32, 47, 32, 72, 84, 84, 80, 47, 49, 46, 49, 13, 10, 72, 111, 115, 116, 58, 32, 97, 13, 10, 13, 10], [72, 84, 84, 80, 47, 49, 46, 49, 32, 50, 48, 52, 32, 120, 13, 10, 13, 10], false, false, [(1, 1), (3, 1), (1, 1), (3, 1), (1, 1), (3, 1), (1, 1), (3, 1), (1, 1), (3, 1), (1, 1), (3, 1), (1, 1), (3, 1), (1, 1), (3, 1), (1, 1), (3, 1), (1, 1), (3, 1), (1, 1), (3, 1), (1, 1), (3, 1), (1, 1), (3, 1), (1, 1), (3, 1), (1, 1), (3, 1), (1, 1), (3, 1), (1, 1), (3, 1), (1, 1), (3, 1), (1, 1), (1, 1), (1, 1), (1, 1), (1, 1), (1, 1), (1, 1), (1, 1), (1, 1)])
def bQ0 : S52 × Int := (([72, 84, 84, 80, 47, 49, 46, 49, 32, 50, 48, 52, 32, 120, 13, 10, 86, 105, 97, 58, 32, 49, 46, 49, 32, 109, 101, 13, 10, 13, 10], [71, 69, 84, 32, 47, 32, 72, 84, 84, 80, 47, 49, 46, 49, 13, 10, 72, 111, 115, 116, 58, 32, 97, 13, 10, 86, 105, 97, 58, 32, 49, 46, 49, 32, 109, 101, 13, 10, 70, 111, 114, 119, 97, 114, 100, 101, 100, 58, 32, 102, 111, 114, 61, 117, 110, 107, 110, 111, 119, 110, 13, 10, 88, 45, 70, 111, 114, 119, 97, 114, 100, 101, 100, 45, 70, 111, 114, 58, 32, 117, 110, 107, 110, 111, 119, 110, 13, 10, 13, 10], 27, 18, 26, 0, false), 0)
def dQ0 : DecidableEq (S0) := (@instDecidableEqProd _ _ inferInstance (@instDecidableEqProd _ _ inferInstance (@instDecidableEqProd _ _ inferInstance (@instDecidableEqProd _ _ inferInstance (@instDecidableEqProd _ _ (@instDecidableEqList _ (@instDecidableEqProd _ _ inferInstance inferInstance)) (@instDecidableEqProd _ _ (@instDecidableEqList _ (@instDecidableEqProd _ _ inferInstance inferInstance)) (@instDecidableEqProd _ _ inferInstance (@instDecidableEqProd _ _ inferInstance (@instDecidableEqProd _ _ inferInstance (@instDecidableEqProd _ _ (@instDecidableEqList _ (@instDecidableEqProd _ _ inferInstance (@instDecidableEqProd _ _ inferInstance (@instDecidableEqProd _ _ inferInstance (@instDecidableEqProd _ _ inferInstance (@instDecidableEqProd _ _ inferInstance (@instDecidableEqProd _ _ inferInstance (@instDecidableEqProd _ _ inferInstance (@instDecidableEqList _ (@instDecidableEqProd _ _ inferInstance inferInstance)))))))))) (@instDecidableEqProd _ _ inferInstance (@instDecidableEqProd _ _ inferInstance (@instDecidableEqProd _ _ inferInstance (@instDecidableEqProd _ _ inferInstance (@instDecidableEqList _ (@instDecidableEqProd _ _ inferInstance inferInstance))))))))))))))))
def mQ0 (p : S0) : Option (S52 × Int) := @ite _ (p = aQ0) (dQ0 p aQ0) (some bQ0) none
def KQ0 : Con tau := ⟨[.st 0], [.st 52, .int], 2, [], mQ0⟩
theorem zQ0 : zdat Xz ⟨(ctOf Cz), Bz⟩ 100000000 25 (argX Xz.G [.st 0] aQ0) [.st 52, .int] = some bQ0 := by kernel_rfl
theorem hQ0 : ∀ p r, mQ0 p = some r → p = aQ0 ∧ r = bQ0 := by
  intro p r h
  unfold mQ0 at h
  split at h
  · rename_i e
    exact ⟨e, (Option.some.inj h).symm⟩
  · cases h
theorem c_Q0 : COk Tryz.prog G 25 KQ0 := zdat_cok (X := Xz) hmix hNm (tyk [] 0) rfl ctOf_ok ⟨_, Tryz.func25, by kernel_rfl, by kernel_rfl⟩ hQ0 rfl rfl zQ0
end
end Go.Proofs
end
section
set_option linter.unusedVariables false
set_option maxRecDepth 100000
namespace Go.Proofs
open Go.Dk Go.Dm Go.RowKit Go.Rk
noncomputable section
def aQ1 : S0 := ([], [], [], [109, 101], [], [], 500, 9, 1, [], [71, 69, 84, 32, 47, 32, 72, 84, 84, 80, 47, 49, 46, 49, 13, 10, 72, 111, 115, 116, 58, 32, 97, 13, 10, 13, 10], [72, 84, 84, 80, 47, 49, 46, 49, 32, 50, 48, 52, 32, 120, 13, 10, 13, 10], false, false, [(1, 27), (3, 18)])
def bQ1 : S52 × Int := (([72, 84, 84, 80, 47, 49, 46, 49, 32, 50, 48, 52, 32, 120, 13, 10, 86, 105, 97, 58, 32, 49, 46, 49, 32, 109, 101, 13, 10, 13, 10], [71, 69, 84, 32, 47, 32, 72, 84, 84, 80, 47, 49, 46, 49, 13, 10, 72, 111, 115, 116, 58, 32, 97, 13, 10, 86, 105, 97, 58, 32, 49, 46, 49, 32, 109, 101, 13, 10, 70, 111, 114, 119, 97, 114, 100, 101, 100, 58, 32, 102, 111, 114, 61, 117, 110, 107, 110, 111, 119, 110, 13, 10, 88, 45, 70, 111, 114, 119, 97, 114, 100, 101, 100, 45, 70, 111, 114, 58, 32, 117, 110, 107, 110, 111, 119, 110, 13, 10, 13, 10], 27, 18, 0, 0, false), 0)
def dQ1 : DecidableEq (S0) := (@instDecidableEqProd _ _ inferInstance (@instDecidableEqProd _ _ inferInstance (@instDecidableEqProd _ _ inferInstance (@instDecidableEqProd _ _ inferInstance (@instDecidableEqProd _ _ (@instDecidableEqList _ (@instDecidableEqProd _ _ inferInstance inferInstance)) (@instDecidableEqProd _ _ (@instDecidableEqList _ (@instDecidableEqProd _ _ inferInstance inferInstance)) (@instDecidableEqProd _ _ inferInstance (@instDecidableEqProd _ _ inferInstance (@instDecidableEqProd _ _ inferInstance (@instDecidableEqProd _ _ (@instDecidableEqList _ (@instDecidableEqProd _ _ inferInstance (@instDecidableEqProd _ _ inferInstance (@instDecidableEqProd _ _ inferInstance (@instDecidableEqProd _ _ inferInstance (@instDecidableEqProd _ _ inferInstance (@instDecidableEqProd _ _ inferInstance (@instDecidableEqProd _ _ inferInstance (@instDecidableEqList _ (@instDecidableEqProd _ _ inferInstance inferInstance)))))))))) (@instDecidableEqProd _ _ inferInstance (@instDecidableEqProd _ _ inferInstance (@instDecidableEqProd _ _ inferInstance (@instDecidableEqProd _ _ inferInstance (@instDecidableEqList _ (@instDecidableEqProd _ _ inferInstance inferInstance))))))))))))))))
def mQ1 (p : S0) : Option (S52 × Int) := @ite _ (p = aQ1) (dQ1 p aQ1) (some bQ1) none
def KQ1 : Con tau := ⟨[.st 0], [.st 52, .int], 2, [], mQ1⟩
theorem zQ1 : zdat Xz ⟨(ctOf Cz), Bz⟩ 100000000 25 (argX Xz.G [.st 0] aQ1) [.st 52, .int] = some bQ1 := by kernel_rfl
theorem hQ1 : ∀ p r, mQ1 p = some r → p = aQ1 ∧ r = bQ1 := by
  intro p r h
  unfold mQ1 at h
  split at h
  · rename_i e
    exact ⟨e, (Option.some.inj h).symm⟩
  · cases h
theorem c_Q1 : COk Tryz.prog G 25 KQ1 := zdat_cok (X := Xz) hmix hNm (tyk [] 0) rfl ctOf_ok ⟨_, Tryz.func25, by kernel_rfl, by kernel_rfl⟩ hQ1 rfl rfl zQ1
end
end Go.Proofs
end
section
set_option linter.unusedVariables false
set_option maxRecDepth 100000
namespace Go.Proofs
open Go.Dk Go.Dm Go.RowKit Go.Rk
noncomputable section
theorem zr_awake4 : zrun Xz ⟨(ctC (ctOf Cz) 25 ((CLs.nil.add c_Q1).add c_Q0)), Bz⟩ 100000000 4 [] = some true := by kernel_rfl
theorem c_lAwake4 : COk Tryz.prog G 4 KlAwake4 := zcon_ok (X := Xz) hmix hNm (tyk [] 0) fpok rfl (ctC_ok ctOf_ok) ⟨_, Tryz.func4, by kernel_rfl, by kernel_rfl⟩ zr_awake4
-- doorstep/doorsteplaw49.TwinEvents
theorem c_f3 : COk Tryz.prog G 3 Kf3 := con_ok hmix hNm tyk ((((((((((CLs.nil.add c_f13).add c_f12).add c_f11).add c_f10).add c_f8).add c_f9).add c_f7).add c_f6).add c_f5).add c_lAwake4) 92 Tryz.func3 (by kernel_rfl) (hn := .e) (by unfold Fact; intro fx; kernel_rfl)
end
end Go.Proofs
end
section
set_option linter.unusedVariables false
set_option maxRecDepth 100000
namespace Go.Proofs
open Go.Dk Go.Dm Go.RowKit Go.Rk
namespace Tw
theorem bs {α β : Type} (x : α) (f : α → Option β) : (some x).bind f = f x := by
  cases h : f x with
  | none => show f x = none; exact h
  | some y => show f x = some y; exact h
theorem iAdd_s {m n : Int} (h1 : -1000000000000 ≤ m + n) (h2 : m + n ≤ 1000000000000) : iAdd m n = some (m + n) := by
  unfold iAdd; rw [if_pos (inI_iff.2 ⟨by omega, by omega⟩)]
theorem iSub_s {m n : Int} (h1 : -1000000000000 ≤ m - n) (h2 : m - n ≤ 1000000000000) : iSub m n = some (m - n) := by
  unfold iSub; rw [if_pos (inI_iff.2 ⟨by omega, by omega⟩)]
theorem lAt_s {α : Type} {l : List α} {i : Nat} (h : i < l.length) : lAt l (i : Int) = some l[i] := by
  unfold lAt
  rw [if_pos (by omega), show ((i : Int).toNat) = i by omega, List.getElem?_eq_getElem h]
theorem sTo_m (l : Str) (k : Nat) : sTo l (min (l.length : Int) (k : Int)) = some (l.take k) := by
  unfold sTo
  rw [if_pos (by omega), show (min (l.length : Int) (k : Int)).toNat = min k l.length by omega, ← List.take_take, List.take_length]
theorem lTo_m {α : Type} (l : List α) (k : Nat) : lTo l (min (l.length : Int) (k : Int)) = some (l.take k) := by
  unfold lTo
  rw [if_pos (by omega), show (min (l.length : Int) (k : Int)).toNat = min k l.length by omega, ← List.take_take, List.take_length]
theorem lSet_s {α : Type} {l : List α} {i : Nat} (x : α) (h : i < l.length) : lSet l (i : Int) x = some (l.set i x) := by
  unfold lSet
  rw [if_pos (by omega), show ((i : Int).toNat) = i by omega]
theorem fits_s {n m b : Nat} (h : n ≤ 100000000) (h2 : m ≤ 100) (h3 : b ≤ 1000) : fitsApp n m b = true := by
  unfold fitsApp
  have : (n + m) * b ≤ (100000000 + 100) * 1000 := Nat.mul_le_mul (by omega) h3
  simp only [Bool.and_eq_true, decide_eq_true_eq]
  omega
theorem fuel_s (k : Nat) (h : k ≤ 100000000) : k < fuel := by unfold fuel; omega
theorem dlt {a b : Int} (h : a < b) : (decide (a < b)) = true := decide_eq_true h
theorem dnl {a b : Int} (h : ¬ a < b) : ¬ (decide (a < b)) = true := by simpa using h
theorem i00 : isN 0 0 = true := rfl
theorem i10 : isN 1 0 = false := rfl
theorem i11 : isN 1 1 = true := rfl
theorem i20 : isN 2 0 = false := rfl
theorem i21 : isN 2 1 = false := rfl
theorem i22 : isN 2 2 = true := rfl
theorem i30 : isN 3 0 = false := rfl
theorem i31 : isN 3 1 = false := rfl
theorem i32 : isN 3 2 = false := rfl
theorem i33 : isN 3 3 = true := rfl
theorem s60 (l : Str) : sTo l (min (l.length : Int) 60) = some (l.take 60) := sTo_m l 60
theorem a01 : iAdd 0 1 = some 1 := by decide
theorem a11 : iAdd 1 1 = some 2 := by decide
theorem a21 : iAdd 2 1 = some 3 := by decide
theorem a31 : iAdd 3 1 = some 4 := by decide
theorem tot33 (p : S1) : f33 p = some (p.1.take 60, p.2.take 60) := by
  unfold f33
  rw [s60]; simp only [bs]
  rw [s60]; rfl
theorem tot26_3 : ∀ (n i : Nat) (a : S5) (b c : S7), i ≤ 6 → 6 - i < n → c.2.2.2.2.2.length ≤ i → ∃ r, f26_L3 n (a, b, c, (i : Int)) = some r
  | 0, i, _, _, _, _, h, _ => by omega
  | n + 1, i, a, b, c, hi, hn, hc => by
    unfold f26_L3
    dsimp only
    by_cases h1 : (i : Int) < (a.2.2.2.2.2.length : Int)
    · rw [if_pos (dlt h1)]
      unfold f26_j4
      dsimp only
      by_cases h2 : (i : Int) < 6
      · rw [if_pos (dlt h2), lAt_s (by omega)]
        simp only [bs]
        rw [tot33]
        simp only [bs]
        rw [if_pos (fits_s (by omega) (by simp) (by omega)), iAdd_s (by omega) (by omega)]
        exact tot26_3 n (i + 1) _ _ _ (by omega) (by omega) (by simp; omega)
      · rw [if_neg (dnl h2)]; exact ⟨_, rfl⟩
    · rw [if_neg (dnl h1)]
      unfold f26_j4
      dsimp only
      rw [if_neg (by simp)]; exact ⟨_, rfl⟩
theorem tot26_2 : ∀ (n i : Nat) (a : S5) (b c : S7), i ≤ 6 → 6 - i < n → c.2.2.2.2.1.length ≤ i → c.2.2.2.2.2 = [] → ∃ r, f26_L2 n (a, b, c, (i : Int)) = some r
  | 0, i, _, _, _, _, h, _, _ => by omega
  | n + 1, i, a, b, c, hi, hn, hc, he => by
    have hz : ∃ r, f26_L3 fuel (a, b, c, 0) = some r := tot26_3 fuel 0 a b c (by omega) (fuel_s _ (by omega)) (by rw [he]; simp)
    unfold f26_L2
    dsimp only
    by_cases h1 : (i : Int) < (a.2.2.2.2.1.length : Int)
    · rw [if_pos (dlt h1)]
      unfold f26_j5
      dsimp only
      by_cases h2 : (i : Int) < 6
      · rw [if_pos (dlt h2), lAt_s (by omega)]
        simp only [bs]
        rw [tot33]
        simp only [bs]
        rw [if_pos (fits_s (by omega) (by simp) (by omega)), iAdd_s (by omega) (by omega)]
        exact tot26_2 n (i + 1) _ _ _ (by omega) (by omega) (by simp; omega) he
      · rw [if_neg (dnl h2)]; exact hz
    · rw [if_neg (dnl h1)]
      unfold f26_j5
      dsimp only
      rw [if_neg (by simp)]; exact hz
theorem st26_0 (n : Nat) (a : S5) (b : S7) (c : S6) (h : ∀ c', ∃ r, f26_L0 n (a, b, c', 1) = some r) : ∃ r, f26_L0 (n + 1) (a, b, c, 0) = some r := by
  unfold f26_L0
  dsimp only
  rw [if_pos (show (decide ((0 : Int) < 4)) = true from rfl)]
  simp only [i00, s60, Option.bind_some, if_true, Bool.false_eq_true, if_false, f26_j1, a01]
  exact h _
theorem st26_1 (n : Nat) (a : S5) (b : S7) (c : S6) (h : ∀ c', ∃ r, f26_L0 n (a, b, c', 2) = some r) : ∃ r, f26_L0 (n + 1) (a, b, c, 1) = some r := by
  unfold f26_L0
  dsimp only
  rw [if_pos (show (decide ((1 : Int) < 4)) = true from rfl)]
  simp only [i10, i11, s60, Option.bind_some, if_true, Bool.false_eq_true, if_false, f26_j1, a11]
  exact h _
theorem st26_2 (n : Nat) (a : S5) (b : S7) (c : S6) (h : ∀ c', ∃ r, f26_L0 n (a, b, c', 3) = some r) : ∃ r, f26_L0 (n + 1) (a, b, c, 2) = some r := by
  unfold f26_L0
  dsimp only
  rw [if_pos (show (decide ((2 : Int) < 4)) = true from rfl)]
  simp only [i20, i21, i22, s60, Option.bind_some, if_true, Bool.false_eq_true, if_false, f26_j1, a21]
  exact h _
theorem st26_3 (n : Nat) (a : S5) (b : S7) (c : S6) (h : ∀ c', ∃ r, f26_L0 n (a, b, c', 4) = some r) : ∃ r, f26_L0 (n + 1) (a, b, c, 3) = some r := by
  unfold f26_L0
  dsimp only
  rw [if_pos (show (decide ((3 : Int) < 4)) = true from rfl)]
  simp only [i30, i31, i32, i33, s60, Option.bind_some, if_true, Bool.false_eq_true, if_false, f26_j1, a31]
  exact h _
theorem tot26 (p : S5) : ∃ r, f26 p = some r := by
  obtain ⟨m, hm⟩ : ∃ m, fuel = m + 5 := ⟨fuel - 5, by have := fuel_s 5 (by omega); omega⟩
  unfold f26
  rw [hm]
  refine st26_0 (m + 4) _ _ _ fun c1 => st26_1 (m + 3) _ _ _ fun c2 => st26_2 (m + 2) _ _ _ fun c3 => st26_3 (m + 1) _ _ _ fun c4 => ?_
  unfold f26_L0
  dsimp only
  rw [if_neg (show ¬ (decide ((4 : Int) < 4)) = true by decide)]
  unfold f26_j6
  exact tot26_2 fuel 0 _ _ _ (by omega) (fuel_s _ (by omega)) (by simp) rfl
theorem tot27 : ∀ (n i : Nat) (a acc : List S1), i ≤ 70 → 70 - i < n → acc.length ≤ i → ∃ r, f27_L0 n (a, acc, (i : Int)) = some r
  | 0, i, _, _, _, h, _ => by omega
  | n + 1, i, a, acc, hi, hn, hc => by
    unfold f27_L0
    dsimp only
    by_cases h1 : (i : Int) < (a.length : Int)
    · rw [if_pos (dlt h1)]
      unfold f27_j1
      dsimp only
      by_cases h2 : (i : Int) < 70
      · rw [if_pos (dlt h2), lAt_s (by omega)]
        simp only [bs]
        rw [s60]
        simp only [bs]
        rw [s60]
        simp only [bs]
        rw [if_pos (fits_s (by omega) (by simp) (by omega)), iAdd_s (by omega) (by omega)]
        exact tot27 n (i + 1) _ _ (by omega) (by omega) (by simp; omega)
      · rw [if_neg (dnl h2)]; exact ⟨_, rfl⟩
    · rw [if_neg (dnl h1)]
      unfold f27_j1
      dsimp only
      rw [if_neg (by simp)]; exact ⟨_, rfl⟩
theorem tot44 : ∀ (n i : Nat) (a acc : List S3), i ≤ 40 → 40 - i < n → acc.length ≤ i → ∃ r, f44_L0 n (a, acc, (i : Int)) = some r
  | 0, i, _, _, _, h, _ => by omega
  | n + 1, i, a, acc, hi, hn, hc => by
    unfold f44_L0
    dsimp only
    by_cases h1 : (i : Int) < (a.length : Int)
    · rw [if_pos (dlt h1)]
      unfold f44_j1
      dsimp only
      by_cases h2 : (i : Int) < 40
      · rw [if_pos (dlt h2), lAt_s (by omega)]
        simp only [bs]
        rw [s60]
        simp only [bs]
        rw [if_pos (fits_s (by omega) (by simp) (by omega)), iAdd_s (by omega) (by omega)]
        exact tot44 n (i + 1) _ _ (by omega) (by omega) (by simp; omega)
      · rw [if_neg (dnl h2)]; exact ⟨_, rfl⟩
    · rw [if_neg (dnl h1)]
      unfold f44_j1
      dsimp only
      rw [if_neg (by simp)]; exact ⟨_, rfl⟩
theorem tot15 (p : S5) : ∃ r, f15 p = some r := by
  obtain ⟨r1, h1⟩ := tot26 p
  obtain ⟨r2, h2⟩ := tot27 fuel 0 p.2.2.2.2.1 [] (by omega) (fuel_s _ (by omega)) (by simp)
  obtain ⟨r3, h3⟩ := tot27 fuel 0 p.2.2.2.2.2 [] (by omega) (fuel_s _ (by omega)) (by simp)
  unfold f15 f27
  rw [h1]; simp only [bs]
  erw [h2]; simp only [bs]
  erw [h3]; exact ⟨_, rfl⟩
theorem st34_0 (n : Nat) (a : S2) (b : S8) (c : S6) (h : ∀ c', ∃ r, f34_L0 n (a, b, c', 1) = some r) : ∃ r, f34_L0 (n + 1) (a, b, c, 0) = some r := by
  unfold f34_L0
  dsimp only
  rw [if_pos (show (decide ((0 : Int) < 4)) = true from rfl)]
  simp only [i00, s60, Option.bind_some, if_true, Bool.false_eq_true, if_false, f34_j1, a01]
  exact h _
theorem st34_1 (n : Nat) (a : S2) (b : S8) (c : S6) (h : ∀ c', ∃ r, f34_L0 n (a, b, c', 2) = some r) : ∃ r, f34_L0 (n + 1) (a, b, c, 1) = some r := by
  unfold f34_L0
  dsimp only
  rw [if_pos (show (decide ((1 : Int) < 4)) = true from rfl)]
  simp only [i10, i11, s60, Option.bind_some, if_true, Bool.false_eq_true, if_false, f34_j1, a11]
  exact h _
theorem st34_2 (n : Nat) (a : S2) (b : S8) (c : S6) (h : ∀ c', ∃ r, f34_L0 n (a, b, c', 3) = some r) : ∃ r, f34_L0 (n + 1) (a, b, c, 2) = some r := by
  unfold f34_L0
  dsimp only
  rw [if_pos (show (decide ((2 : Int) < 4)) = true from rfl)]
  simp only [i20, i21, i22, s60, Option.bind_some, if_true, Bool.false_eq_true, if_false, f34_j1, a21]
  exact h _
theorem st34_3 (n : Nat) (a : S2) (b : S8) (c : S6) (h : ∀ c', ∃ r, f34_L0 n (a, b, c', 4) = some r) : ∃ r, f34_L0 (n + 1) (a, b, c, 3) = some r := by
  unfold f34_L0
  dsimp only
  rw [if_pos (show (decide ((3 : Int) < 4)) = true from rfl)]
  simp only [i30, i31, i32, i33, s60, Option.bind_some, if_true, Bool.false_eq_true, if_false, f34_j1, a31]
  exact h _
theorem tot34 (p : S2) : ∃ r, f34 p = some r := by
  obtain ⟨m, hm⟩ : ∃ m, fuel = m + 5 := ⟨fuel - 5, by have := fuel_s 5 (by omega); omega⟩
  unfold f34
  rw [hm]
  refine st34_0 (m + 4) _ _ _ fun c1 => st34_1 (m + 3) _ _ _ fun c2 => st34_2 (m + 2) _ _ _ fun c3 => st34_3 (m + 1) _ _ _ fun c4 => ?_
  unfold f34_L0
  dsimp only
  rw [if_neg (show ¬ (decide ((4 : Int) < 4)) = true by decide)]
  unfold f34_j5
  simp only [i10, i11, if_true, Bool.false_eq_true, if_false]
  unfold f34_j4
  simp only [i20, i21, i22, if_true, Bool.false_eq_true, if_false]
  unfold f34_j3
  simp only [i30, i31, i32, i33, if_true, Bool.false_eq_true, if_false]
  unfold f34_j2 f44
  dsimp only
  obtain ⟨r, hr⟩ := tot44 fuel 0 p.2.2.2.2.2.2.2 [] (by omega) (fuel_s _ (by omega)) (by simp)
  erw [hr]
  exact ⟨_, rfl⟩
theorem tot28 : ∀ (n i : Nat) (a acc : List S2), i ≤ 70 → 70 - i < n → acc.length ≤ i → ∃ r, f28_L0 n (a, acc, (i : Int)) = some r ∧ r.length ≤ 70
  | 0, i, _, _, _, h, _ => by omega
  | n + 1, i, a, acc, hi, hn, hc => by
    unfold f28_L0
    dsimp only
    by_cases h1 : (i : Int) < (a.length : Int)
    · rw [if_pos (dlt h1)]
      unfold f28_j1
      dsimp only
      by_cases h2 : (i : Int) < 70
      · rw [if_pos (dlt h2), lAt_s (by omega)]
        simp only [bs]
        obtain ⟨r2, hr2⟩ := tot34 a[i]
        rw [hr2]
        simp only [bs]
        rw [if_pos (fits_s (by omega) (by simp) (by omega)), iAdd_s (by omega) (by omega)]
        exact tot28 n (i + 1) _ _ (by omega) (by omega) (by simp; omega)
      · rw [if_neg (dnl h2)]; exact ⟨_, rfl, by omega⟩
    · rw [if_neg (dnl h1)]
      unfold f28_j1
      dsimp only
      rw [if_neg (by simp)]; exact ⟨_, rfl, by omega⟩
theorem lTo4 {α : Type} (l : List α) : lTo l (min (l.length : Int) 4) = some (l.take 4) := lTo_m l 4
theorem tot16 (n : Nat) : ∀ (i : Nat) (a : List S2), i ≤ a.length → a.length - i < n → a.length ≤ 70 → ∃ r, f16_L0 n (a, (i : Int)) = some r := by
  induction n with
  | zero => intro i a _ h _; omega
  | succ n ih =>
    intro i a hi hn hc
    unfold f16_L0
    dsimp only
    by_cases h1 : (i : Int) < (a.length : Int)
    · rw [if_pos (dlt h1), lAt_s (by omega)]
      simp only [bs]
      rw [lTo4]
      simp only [bs]
      have key : ∀ x : S2, ∃ r, ((lSet a (i : Int) x).bind fun r5 => (iAdd (i : Int) 1).bind fun r6 => f16_L0 n (r5, r6)) = some r := by
        intro x
        rw [lSet_s x (by omega), iAdd_s (by omega) (by omega)]
        exact ih (i + 1) (a.set i x) (by rw [List.length_set]; omega) (by rw [List.length_set]; omega) (by rw [List.length_set]; omega)
      exact key _
    · rw [if_neg (dnl h1)]; exact ⟨_, rfl⟩
theorem tot5 (p : S0) : ∃ r, f5 p = some r ∧ r.2.2.2.2.2.2.2.2.2.2.1.length ≤ 3000 ∧ r.2.2.2.2.2.2.2.2.2.2.2.1.length ≤ 3000 := by
  unfold f5 f16
  obtain ⟨r1, h1⟩ := tot15 (p.1, p.2.1, p.2.2.1, p.2.2.2.1, p.2.2.2.2.1, p.2.2.2.2.2.1)
  rw [h1]
  simp only [bs]
  obtain ⟨r2, h2, hl⟩ := tot28 fuel 0 p.2.2.2.2.2.2.2.2.2.1 [] (by omega) (fuel_s _ (by omega)) (by simp)
  unfold f28
  erw [h2]
  simp only [bs]
  obtain ⟨r3, h3⟩ := tot16 fuel 0 r2 (by omega) (fuel_s _ (by omega)) hl
  erw [h3]
  simp only [bs]
  erw [sTo_m _ 3000]
  simp only [bs]
  erw [sTo_m _ 3000]
  simp only [bs]
  erw [lTo_m _ 150]
  exact ⟨_, rfl, by simp; omega, by simp; omega⟩

def ev (k : Nat) : Nat → Nat → Nat → List S4
  | 0, _, _ => []
  | m + 1, a, b => if 0 < a + b then (if 0 < a then [((1 : Int), ((min a k : Nat) : Int))] else []) ++ ((if 0 < b then [((3 : Int), ((min b k : Nat) : Int))] else []) ++ ev k m (a - k) (b - k)) else []
theorem t17 (a k : Nat) (ha : a ≤ 1000000) : f17 ((a : Int), (k : Int)) = some (((min a k : Nat) : Int), ((a - k : Nat) : Int)) := by
  unfold f17
  dsimp only
  have e1 : min (a : Int) (k : Int) = ((min a k : Nat) : Int) := by omega
  rw [e1, iSub_s (by omega) (by omega)]
  simp only [bs]
  rw [show (a : Int) - ((min a k : Nat) : Int) = ((a - k : Nat) : Int) by omega]
theorem dgt {a b : Int} (h : a > b) : (decide (a > b)) = true := decide_eq_true h
theorem dng {a b : Int} (h : ¬ a > b) : ¬ (decide (a > b)) = true := by simpa using h
theorem t6 (k : Nat) (hk : 1 ≤ k) (hk2 : k ≤ 1048576) (m : Nat) : ∀ (nn a b : Nat) (out : List S4), a + b ≤ m → m < nn → m ≤ 6000 → out.length + 2 * m ≤ 1000000 → f6_L0 nn ((k : Int), (a : Int), (b : Int), out) = some (out ++ ev k m a b, 0) := by
  induction m with
  | zero =>
    intro nn a b out h1 h2 _ _
    obtain ⟨n, rfl⟩ : ∃ n, nn = n + 1 := ⟨nn - 1, by omega⟩
    unfold f6_L0
    dsimp only
    rw [iAdd_s (by omega) (by omega)]
    simp only [bs]
    rw [if_neg (dng (by omega))]
    simp [ev]
  | succ m ih =>
    intro nn a b out h1 h2 h3 h4
    obtain ⟨n, rfl⟩ : ∃ n, nn = n + 1 := ⟨nn - 1, by omega⟩
    unfold f6_L0
    dsimp only
    rw [iAdd_s (by omega) (by omega)]
    simp only [bs]
    by_cases h0 : 0 < a + b
    · rw [if_pos (dgt (by omega)), t17 a k (by omega)]
      simp only [bs]
      have second : ∀ out2 : List S4, out2.length ≤ out.length + 1 → f6_j1 (f6_L0 n) ((k : Int), ((a - k : Nat) : Int), (b : Int), out2) = some (out2 ++ ((if 0 < b then [((3 : Int), ((min b k : Nat) : Int))] else []) ++ ev k m (a - k) (b - k)), 0) := by
        intro out2 hl
        unfold f6_j1
        dsimp only
        rw [t17 b k (by omega)]
        simp only [bs]
        by_cases hb : 0 < b
        · rw [if_pos (dgt (by omega)), if_pos (fits_s (by omega) (by simp) (by omega)), if_pos hb, ih n (a - k) (b - k) _ (by omega) (by omega) (by omega) (by simp; omega)]
          simp
        · rw [if_neg (dng (by omega)), if_neg hb, ih n (a - k) (b - k) _ (by omega) (by omega) (by omega) (by omega)]
          simp
      by_cases ha : 0 < a
      · rw [if_pos (dgt (by omega)), if_pos (fits_s (by omega) (by simp) (by omega)), second _ (by simp)]
        simp only [ev]
        rw [if_pos h0, if_pos ha]
        simp
      · rw [if_neg (dng (by omega)), second _ (by omega)]
        simp only [ev]
        rw [if_pos h0, if_neg ha]
        simp
    · rw [if_neg (dng (by omega))]
      simp only [ev]
      rw [if_neg h0]
      simp
theorem t7 (k : Nat) (hk : 1 ≤ k) (hk2 : k ≤ 1048576) (s : S0) (A B : Nat) (hA : s.2.2.2.2.2.2.2.2.2.2.1.length = A) (hB : s.2.2.2.2.2.2.2.2.2.2.2.1.length = B) (hA2 : A ≤ 3000) (hB2 : B ≤ 3000) (m : Nat) : ∀ (nn at' : Nat) (out : List S4), (A - at') + (B - at') ≤ m → m < nn → m ≤ 6000 → at' ≤ 4000000 → out.length + 2 * m ≤ 1000000 → f7_L0 nn ((k : Int), s, out, (at' : Int)) = some (out ++ ev k m (A - at') (B - at'), 0) := by
  induction m with
  | zero =>
    intro nn at' out h1 h2 _ _ _
    obtain ⟨n, rfl⟩ : ∃ n, nn = n + 1 := ⟨nn - 1, by omega⟩
    unfold f7_L0
    dsimp only
    rw [hA, hB, if_neg (dnl (by omega)), show (decide ((at' : Int) < (B : Int))) = false from decide_eq_false (by omega)]
    unfold f7_j3
    dsimp only
    rw [if_neg (by simp)]
    simp [ev]
  | succ m ih =>
    intro nn at' out h1 h2 h3 h4 h5
    obtain ⟨n, rfl⟩ : ∃ n, nn = n + 1 := ⟨nn - 1, by omega⟩
    have last : ∀ out2 : List S4, out2.length ≤ out.length + 2 → 0 < (A - at') + (B - at') → f7_j1 (f7_L0 n) ((k : Int), s, out2, (at' : Int)) = some (out2 ++ ev k m (A - at' - k) (B - at' - k), 0) := by
      intro out2 hl h0
      unfold f7_j1
      dsimp only
      rw [iAdd_s (by omega) (by omega)]
      simp only [bs]
      rw [show ((at' : Int) + (k : Int)) = ((at' + k : Nat) : Int) by omega, ih n (at' + k) out2 (by omega) (by omega) (by omega) (by omega) (by omega), show A - (at' + k) = A - at' - k by omega, show B - (at' + k) = B - at' - k by omega]
    have second : ∀ out2 : List S4, out2.length ≤ out.length + 1 → 0 < (A - at') + (B - at') → f7_j2 (f7_L0 n) ((k : Int), s, out2, (at' : Int)) = some (out2 ++ ((if 0 < B - at' then [((3 : Int), ((min (B - at') k : Nat) : Int))] else []) ++ ev k m (A - at' - k) (B - at' - k)), 0) := by
      intro out2 hl h0
      unfold f7_j2
      dsimp only
      rw [hB]
      by_cases hb : 0 < B - at'
      · rw [if_pos (dlt (by omega)), iSub_s (by omega) (by omega)]
        simp only [bs]
        rw [if_pos (fits_s (by omega) (by simp) (by omega)), if_pos hb, last _ (by simp; omega) h0, show min (k : Int) ((B : Int) - (at' : Int)) = ((min (B - at') k : Nat) : Int) by omega]
        simp
      · rw [if_neg (dnl (by omega)), if_neg hb, last _ (by omega) h0]
        simp
    have third : ∀ c : Bool, (c = true ↔ 0 < (A - at') + (B - at')) → f7_j3 (f7_L0 n) ((k : Int), s, out, (at' : Int), c) = some (out ++ ev k (m + 1) (A - at') (B - at'), 0) := by
      intro c hc
      unfold f7_j3
      dsimp only
      by_cases h0 : 0 < (A - at') + (B - at')
      · rw [if_pos (hc.2 h0), hA]
        simp only [ev]
        rw [if_pos h0]
        by_cases ha : 0 < A - at'
        · rw [if_pos (dlt (by omega)), iSub_s (by omega) (by omega)]
          simp only [bs]
          rw [if_pos (fits_s (by omega) (by simp) (by omega)), if_pos ha, second _ (by simp) h0, show min (k : Int) ((A : Int) - (at' : Int)) = ((min (A - at') k : Nat) : Int) by omega]
          simp
        · rw [if_neg (dnl (by omega)), if_neg ha, second _ (by omega) h0]
          simp
      · rw [if_neg (fun h => h0 (hc.1 h))]
        simp only [ev]
        rw [if_neg h0]
        simp
    unfold f7_L0
    dsimp only
    rw [hA, hB]
    by_cases ha : (at' : Int) < (A : Int)
    · rw [if_pos (dlt ha)]
      exact third true ⟨fun _ => by omega, fun _ => rfl⟩
    · rw [if_neg (dnl ha)]
      refine third _ ⟨fun h => ?_, fun h => decide_eq_true (by omega)⟩
      have := of_decide_eq_true h
      omega
theorem even_same (s : S0) (n : Int) (hA2 : s.2.2.2.2.2.2.2.2.2.2.1.length ≤ 3000) (hB2 : s.2.2.2.2.2.2.2.2.2.2.2.1.length ≤ 3000) : ∃ l e, f6 (s, n) = some (l, e) ∧ f7 (s, n) = some (l, e) ∧ l.length ≤ 1000000 := by
  unfold f6 f7
  dsimp only
  by_cases h1 : n < 1
  · rw [if_pos (dlt h1), if_pos (dlt h1)]; exact ⟨_, _, rfl, rfl, by simp⟩
  rw [if_neg (dnl h1), if_neg (dnl h1)]
  by_cases h2 : n > 1048576
  · rw [if_pos (dgt h2), if_pos (dgt h2)]; exact ⟨_, _, rfl, rfl, by simp⟩
  rw [if_neg (dng h2), if_neg (dng h2), if_neg (dng (by omega)), if_neg (dng (by omega)), if_neg (dng (by omega)), if_neg (dng (by omega))]
  obtain ⟨k, rfl⟩ : ∃ k : Nat, n = (k : Int) := ⟨n.toNat, by omega⟩
  have hl : ∀ m a b, (ev k m a b).length ≤ 2 * m := by
    intro m
    induction m with
    | zero => intro a b; simp [ev]
    | succ m ih =>
      intro a b
      simp only [ev]
      split
      · have := ih (a - k) (b - k)
        simp only [List.length_append]
        split <;> split <;> simp <;> omega
      · simp
  refine ⟨ev k 6000 s.2.2.2.2.2.2.2.2.2.2.1.length s.2.2.2.2.2.2.2.2.2.2.2.1.length, 0, ?_, ?_, ?_⟩
  · have := t6 k (by omega) (by omega) 6000 fuel s.2.2.2.2.2.2.2.2.2.2.1.length s.2.2.2.2.2.2.2.2.2.2.2.1.length [] (by omega) (fuel_s _ (by omega)) (by omega) (by simp)
    simpa using this
  · have := t7 k (by omega) (by omega) s _ _ rfl rfl hA2 hB2 6000 fuel 0 [] (by omega) (fuel_s _ (by omega)) (by omega) (by omega) (by simp)
    simpa using this
  · have := hl 6000 s.2.2.2.2.2.2.2.2.2.2.1.length s.2.2.2.2.2.2.2.2.2.2.2.1.length
    omega
theorem t11 (n : Nat) : ∀ (i : Nat) (a : List S4), a.length - i < n → a.length ≤ 1000000 → i ≤ 1000000 → f11_L0 n (a, a, (i : Int)) = some true := by
  induction n with
  | zero => intro i a h _ _; omega
  | succ n ih =>
    intro i a h1 h2 h3
    unfold f11_L0
    dsimp only
    by_cases h : (i : Int) < (a.length : Int)
    · rw [if_pos (dlt h), lAt_s (by omega)]
      simp only [bs]
      have he : ∀ x : S4, eq4 x x = true := fun x => by unfold eq4; simp
      rw [he, if_neg (by simp), iAdd_s (by omega) (by omega)]
      exact ih (i + 1) a (by omega) h2 (by omega)
    · rw [if_neg (dnl h)]
theorem same (a : List S4) (h : a.length ≤ 1000000) : f11 (a, a) = some true := by
  unfold f11
  dsimp only
  rw [if_neg (by simp)]
  exact t11 fuel 0 a (fuel_s _ (by omega)) h (by omega)

theorem t19 (n : Nat) : ∀ (i : Nat) (out l : List S4), l.length - i < n → l.length ≤ 1000 → i ≤ 1000 → out.length ≤ 10000 → (i ≤ l.length → out.length ≤ i) → f19_L0 n ((), out, l, (l.length : Int), (i : Int)) = some (out ++ (l.drop i).filter fun e => decide (e.2 > 0)) := by
  induction n with
  | zero => intro i out l h; omega
  | succ n ih =>
    intro i out l h1 h2 h3 h4 h5
    unfold f19_L0
    dsimp only
    by_cases h : (i : Int) < (l.length : Int)
    · rw [if_pos (dlt h), lAt_s (by omega)]
      simp only [bs]
      have hd : l.drop i = l[i]'(by omega) :: l.drop (i + 1) := List.drop_eq_getElem_cons (by omega)
      unfold f20
      simp only [bs]
      rw [hd]
      cases hg : decide ((l[i]'(by omega)).2 > 0) with
      | true =>
        rw [if_pos rfl, if_pos (fits_s (by omega) (by simp) (by omega))]
        unfold f19_j1
        dsimp only
        rw [iAdd_s (by omega) (by omega)]
        simp only [bs]
        rw [show ((i : Int) + 1) = ((i + 1 : Nat) : Int) from rfl, ih (i + 1) _ l (by omega) h2 (by omega) (by simp; omega) (fun h => by have := h5 (by omega); simp; omega), List.filter_cons_of_pos (by exact hg)]
        simp
      | false =>
        rw [if_neg (by simp)]
        unfold f19_j1
        dsimp only
        rw [iAdd_s (by omega) (by omega)]
        simp only [bs]
        rw [show ((i : Int) + 1) = ((i + 1 : Nat) : Int) from rfl, ih (i + 1) _ l (by omega) h2 (by omega) (by omega) (fun h => by have := h5 (by omega); omega), List.filter_cons_of_neg (by rw [hg]; simp)]
    · rw [if_neg (dnl h), List.drop_eq_nil_of_le (by omega)]
      simp
def fst2 (A B : Nat) : List S4 := (if 0 < A then [((1 : Int), (A : Int))] else []) ++ (if 0 < B then [((3 : Int), (B : Int))] else [])
theorem firsts (s : S0) (hA2 : s.2.2.2.2.2.2.2.2.2.2.1.length ≤ 3000) (hB2 : s.2.2.2.2.2.2.2.2.2.2.2.1.length ≤ 3000) : f9 s = some (fst2 s.2.2.2.2.2.2.2.2.2.2.1.length s.2.2.2.2.2.2.2.2.2.2.2.1.length) := by
  unfold f9 f19
  dsimp only
  generalize s.2.2.2.2.2.2.2.2.2.2.1.length = A at *
  generalize s.2.2.2.2.2.2.2.2.2.2.2.1.length = B at *
  have := t19 fuel 0 [] [((1 : Int), min (A : Int) 1048576), ((3 : Int), min (B : Int) 1048576)] (fuel_s _ (by simp)) (by simp) (by omega) (by simp) (by simp)
  erw [this]
  rw [show min (A : Int) 1048576 = (A : Int) by omega, show min (B : Int) 1048576 = (B : Int) by omega]
  unfold fst2
  simp only [bs]
  simp only [List.nil_append, List.drop_zero]
  by_cases ha : 0 < A
  · by_cases hb : 0 < B
    · rw [if_pos ha, if_pos hb, List.filter_cons_of_pos (by simp; omega), List.filter_cons_of_pos (by simp; omega)]; rfl
    · rw [if_pos ha, if_neg hb, List.filter_cons_of_pos (by simp; omega), List.filter_cons_of_neg (by simp; omega)]; rfl
  · by_cases hb : 0 < B
    · rw [if_neg ha, if_pos hb, List.filter_cons_of_neg (by simp; omega), List.filter_cons_of_pos (by simp; omega)]; rfl
    · rw [if_neg ha, if_neg hb, List.filter_cons_of_neg (by simp; omega), List.filter_cons_of_neg (by simp; omega)]; rfl
theorem chk1 (A : Nat) (h : A ≤ 3000) : f18 ((1 : Int), (A : Int)) = some 0 := by
  unfold f18 f18_j0
  dsimp only
  rw [if_pos (by rfl), if_pos rfl, if_pos (by simp), if_pos (by simp; omega)]
theorem chk3 (A : Nat) (h : A ≤ 3000) : f18 ((3 : Int), (A : Int)) = some 0 := by
  unfold f18 f18_j0
  dsimp only
  rw [if_neg (by decide), if_pos (by rfl), if_pos (by simp), if_pos (by simp; omega)]
theorem sz_end (n : Nat) (a b : Int) (l : List S4) (len i : Int) (h : ¬ i < len) : f8_L0 (n + 1) (a, b, l, len, i) = some (a, b) := by
  unfold f8_L0
  dsimp only
  rw [if_neg (dnl h)]
theorem sz_1 (n : Nat) (a b : Int) (l : List S4) (len : Int) (i A : Nat) (h : (i : Int) < len) (hi : i < l.length) (he : l[i] = ((1 : Int), (A : Int))) (hA : A ≤ 3000) (ha : a = 0) (hi2 : i ≤ 10) : f8_L0 (n + 1) (a, b, l, len, (i : Int)) = f8_L0 n ((A : Int), b, l, len, ((i + 1 : Nat) : Int)) := by
  subst ha
  rw [f8_L0]
  dsimp only
  rw [if_pos (dlt h), lAt_s hi]
  simp only [bs]
  rw [he, chk1 A hA]
  simp only [bs]
  rw [if_neg (by decide), if_pos (by rfl), iAdd_s (by omega) (by omega)]
  simp only [bs]
  unfold f8_j1
  dsimp only
  rw [iAdd_s (by omega) (by omega)]
  simp only [bs]
  rw [show min ((0 : Int) + (A : Int)) 1048576 = (A : Int) by omega, show ((i : Int) + 1) = ((i + 1 : Nat) : Int) from rfl]
theorem sz_3 (n : Nat) (a b : Int) (l : List S4) (len : Int) (i A : Nat) (h : (i : Int) < len) (hi : i < l.length) (he : l[i] = ((3 : Int), (A : Int))) (hA : A ≤ 3000) (ha : b = 0) (hi2 : i ≤ 10) : f8_L0 (n + 1) (a, b, l, len, (i : Int)) = f8_L0 n (a, (A : Int), l, len, ((i + 1 : Nat) : Int)) := by
  subst ha
  rw [f8_L0]
  dsimp only
  rw [if_pos (dlt h), lAt_s hi]
  simp only [bs]
  rw [he, chk3 A hA]
  simp only [bs]
  rw [if_neg (by decide), if_neg (by decide), if_pos (by rfl), iAdd_s (by omega) (by omega)]
  simp only [bs]
  unfold f8_j1
  dsimp only
  rw [iAdd_s (by omega) (by omega)]
  simp only [bs]
  rw [show min ((0 : Int) + (A : Int)) 1048576 = (A : Int) by omega, show ((i : Int) + 1) = ((i + 1 : Nat) : Int) from rfl]
theorem sizes (A B : Nat) (hA : A ≤ 3000) (hB : B ≤ 3000) : f8 (fst2 A B) = some ((A : Int), (B : Int)) := by
  obtain ⟨m, hm⟩ : ∃ m, fuel = m + 3 := ⟨fuel - 3, by have := fuel_s 3 (by omega); omega⟩
  unfold f8 fst2
  rw [hm]
  by_cases ha : 0 < A
  · by_cases hb : 0 < B
    · rw [if_pos ha, if_pos hb]
      exact (sz_1 (m + 2) 0 0 _ _ 0 A (by simp) (by simp) rfl hA rfl (by omega)).trans ((sz_3 (m + 1) _ 0 _ _ 1 B (by simp) (by simp) rfl hB rfl (by omega)).trans (sz_end m _ _ _ _ _ (by simp)))
    · rw [if_pos ha, if_neg hb]
      obtain rfl : B = 0 := by omega
      exact (sz_1 (m + 2) 0 0 _ _ 0 A (by simp) (by simp) rfl hA rfl (by omega)).trans (sz_end (m + 1) _ _ _ _ _ (by simp))
  · obtain rfl : A = 0 := by omega
    by_cases hb : 0 < B
    · rw [if_neg ha, if_pos hb]
      exact (sz_3 (m + 2) 0 0 _ _ 0 B (by simp) (by simp) rfl hB rfl (by omega)).trans (sz_end (m + 1) _ _ _ _ _ (by simp))
    · obtain rfl : B = 0 := by omega
      rw [if_neg ha]
      exact sz_end (m + 2) _ _ _ _ _ (by simp)
def good (e : S4) : Bool := (e.1 == 1 || e.1 == 3) && decide (0 ≤ e.2) && decide (e.2 ≤ 1048576)
theorem t22 (e : S4) : f22 e = some (good e) := by
  obtain ⟨a, b⟩ := e
  unfold f22 f18 f18_j0 good
  dsimp only
  by_cases h1 : a = 1
  · subst h1
    simp only [beq_self_eq_true, if_true, Bool.true_or, Bool.true_and]
    by_cases h2 : b ≥ 0
    · rw [if_pos (decide_eq_true h2), decide_eq_true (show 0 ≤ b from h2)]
      by_cases h3 : b ≤ 1048576
      · rw [if_pos (decide_eq_true h3), decide_eq_true h3]; rfl
      · rw [if_neg (by simpa using h3), decide_eq_false h3]; rfl
    · rw [if_neg (by simpa using h2), decide_eq_false (show ¬ 0 ≤ b from h2)]; rfl
  · have e1 : (a == 1) = false := by simpa using h1
    rw [e1]
    simp only [Bool.false_eq_true, if_false, Bool.false_or]
    by_cases h3 : a = 3
    · subst h3
      simp only [beq_self_eq_true, if_true, Bool.true_and]
      by_cases h2 : b ≥ 0
      · rw [if_pos (decide_eq_true h2), decide_eq_true (show 0 ≤ b from h2)]
        by_cases h3 : b ≤ 1048576
        · rw [if_pos (decide_eq_true h3), decide_eq_true h3]; rfl
        · rw [if_neg (by simpa using h3), decide_eq_false h3]; rfl
      · rw [if_neg (by simpa using h2), decide_eq_false (show ¬ 0 ≤ b from h2)]; rfl
    · have e3 : (a == 3) = false := by simpa using h3
      rw [e3]
      simp only [Bool.false_eq_true, if_false, Bool.false_and]
      by_cases h2 : a = 2
      · subst h2
        simp only [beq_self_eq_true, if_true]
        by_cases hb : b = 0
        · subst hb; rfl
        · rw [if_neg (by simpa using hb)]; rfl
      · rw [if_neg (by simpa using h2)]
        by_cases h4 : a = 4
        · subst h4
          simp only [beq_self_eq_true, if_true]
          by_cases hb : b = 0
          · subst hb; rfl
          · rw [if_neg (by simpa using hb)]; rfl
        · rw [if_neg (by simpa using h4)]; rfl
theorem t24 (e : S4) (h : e.1 = 1 ∨ e.1 = 3) : ∃ r, f24 e = some r ∧ (r == 0) = good e := by
  obtain ⟨a, b⟩ := e
  unfold f24 good
  dsimp only at h ⊢
  rw [if_neg (dnl (by omega)), if_neg (dng (by omega))]
  have hh : (a == 1 || a == 3) = true := by rcases h with rfl | rfl <;> rfl
  rw [hh, Bool.true_and]
  by_cases h2 : b < 0
  · rw [if_pos (dlt h2), decide_eq_false (show ¬ 0 ≤ b by omega)]; exact ⟨_, rfl, rfl⟩
  · rw [if_neg (dnl h2), decide_eq_true (show 0 ≤ b by omega)]
    by_cases h3 : b > 1048576
    · rw [if_pos (dgt h3), decide_eq_false (show ¬ b ≤ 1048576 by omega)]; exact ⟨_, rfl, rfl⟩
    · rw [if_neg (dng h3), decide_eq_true (show b ≤ 1048576 by omega), if_neg (by rcases h with rfl | rfl <;> decide), if_neg (by rcases h with rfl | rfl <;> decide)]; exact ⟨_, rfl, rfl⟩
theorem t24t (e : S4) : ∃ r, f24 e = some r := by
  obtain ⟨a, b⟩ := e
  unfold f24
  dsimp only
  repeat' split
  all_goals exact ⟨_, rfl⟩
theorem t19a (n : Nat) : ∀ (i : Nat) (out l : List S4), l.length - i < n → l.length ≤ 1000 → i ≤ 1000 → out.length ≤ 10000 → (i ≤ l.length → out.length ≤ i) → f19a_L0 n ((), out, l, (l.length : Int), (i : Int)) = some (out ++ (l.drop i).filter good) := by
  induction n with
  | zero => intro i out l h; omega
  | succ n ih =>
    intro i out l h1 h2 h3 h4 h5
    unfold f19a_L0
    dsimp only
    by_cases h : (i : Int) < (l.length : Int)
    · rw [if_pos (dlt h), lAt_s (by omega)]
      simp only [bs]
      have hd : l.drop i = l[i]'(by omega) :: l.drop (i + 1) := List.drop_eq_getElem_cons (by omega)
      rw [t22]
      simp only [bs]
      rw [hd]
      cases hg : good (l[i]'(by omega)) with
      | true =>
        rw [if_pos rfl, if_pos (fits_s (by omega) (by simp) (by omega))]
        unfold f19a_j1
        dsimp only
        rw [iAdd_s (by omega) (by omega)]
        simp only [bs]
        rw [show ((i : Int) + 1) = ((i + 1 : Nat) : Int) from rfl, ih (i + 1) _ l (by omega) h2 (by omega) (by simp; omega) (fun h => by have := h5 (by omega); simp; omega), List.filter_cons_of_pos (by exact hg)]
        simp
      | false =>
        rw [if_neg (by simp)]
        unfold f19a_j1
        dsimp only
        rw [iAdd_s (by omega) (by omega)]
        simp only [bs]
        rw [show ((i : Int) + 1) = ((i + 1 : Nat) : Int) from rfl, ih (i + 1) _ l (by omega) h2 (by omega) (by omega) (fun h => by have := h5 (by omega); omega), List.filter_cons_of_neg (by rw [hg]; simp)]
    · rw [if_neg (dnl h), List.drop_eq_nil_of_le (by omega)]
      simp
theorem t23 (o : List S4) (ho : o.length ≤ 1000) (n : Nat) : ∀ (i : Nat) (l : List S4), l.length = o.length → o.length - i < n → i ≤ o.length → (∀ (k : Nat) (hk : k < o.length) (hl : k < l.length), l[k] = if k < i ∨ o.length ≤ k + i then o[o.length - 1 - k] else o[k]) → f23a_L0 n (l, (i : Int), (o.length : Int) - 1 - (i : Int)) = some o.reverse := by
  induction n with
  | zero => intro i l _ h; omega
  | succ n ih =>
    intro i l hl h1 h3 hinv
    unfold f23a_L0
    dsimp only
    by_cases h : (i : Int) < (o.length : Int) - 1 - (i : Int)
    · have hj : (o.length : Int) - 1 - (i : Int) = ((o.length - 1 - i : Nat) : Int) := by omega
      rw [if_pos (dlt h), hj, lAt_s (by omega)]
      simp only [bs]
      rw [lAt_s (by omega)]
      simp only [bs]
      rw [lSet_s _ (by omega)]
      simp only [bs]
      rw [lAt_s (by rw [List.length_set]; omega)]
      simp only [bs]
      rw [lSet_s _ (by rw [List.length_set]; omega)]
      simp only [bs]
      rw [iAdd_s (by omega) (by omega)]
      simp only [bs]
      rw [iSub_s (by omega) (by omega)]
      simp only [bs]
      have e1 : ((i : Int) + 1) = ((i + 1 : Nat) : Int) := rfl
      have e2 : ((o.length - 1 - i : Nat) : Int) - 1 = (o.length : Int) - 1 - ((i + 1 : Nat) : Int) := by omega
      rw [e1, e2]
      refine ih (i + 1) _ (by simp [hl]) (by omega) (by omega) fun k hk hk2 => ?_
      rw [List.getElem_set, List.getElem_set]
      have v1 := hinv (o.length - 1 - i) (by omega) (by omega)
      have v2 := hinv i (by omega) (by omega)
      rw [if_neg (by omega)] at v1 v2
      by_cases c1 : o.length - 1 - i = k
      · rw [if_pos c1, v2, if_pos (by omega)]
        congr 1
        omega
      · rw [if_neg c1]
        by_cases c2 : i = k
        · rw [if_pos c2, v1, if_pos (by omega)]
          congr 1
          omega
        · rw [if_neg c2, hinv k hk (by omega)]
          by_cases c3 : k < i ∨ o.length ≤ k + i
          · rw [if_pos c3, if_pos (by omega)]
          · rw [if_neg c3, if_neg (by omega)]
    · rw [if_neg (dnl h)]
      congr 1
      refine List.ext_getElem (by simp [hl]) fun k hk1 hk2 => ?_
      rw [hinv k (by omega) hk1, List.getElem_reverse]
      split
      · rfl
      · congr 1
        omega
theorem rev (o : List S4) (ho : o.length ≤ 1000) : f23a o = some o.reverse := by
  unfold f23a
  rw [iSub_s (by omega) (by omega)]
  simp only [bs]
  have := t23 o ho fuel 0 o rfl (fuel_s _ (by omega)) (by omega) (fun k hk hl => by rw [if_neg (by omega)])
  simpa using this
theorem t13 (l : List S4) (hl : l.length ≤ 1000) (n : Nat) : ∀ (i : Nat) (out : List S4), i < n → i ≤ l.length → out.length + i ≤ 2000 → f13_L0 n (l, out, (i : Int) - 1) = some (out ++ ((l.take i).reverse.filter good)) := by
  induction n with
  | zero => intro i out h; omega
  | succ n ih =>
    intro i out h1 h2 h3
    unfold f13_L0
    dsimp only
    by_cases h : i = 0
    · subst h
      rw [if_neg (by simp)]
      simp
    · obtain ⟨j, rfl⟩ : ∃ j, i = j + 1 := ⟨i - 1, by omega⟩
      have ej : (((j + 1 : Nat) : Int) - 1) = (j : Int) := by omega
      rw [ej, if_pos (by simp), lAt_s (by omega)]
      simp only [bs]
      have ht : (l.take (j + 1)).reverse = l[j] :: (l.take j).reverse := by
        rw [List.take_succ_eq_append_getElem (by omega), List.reverse_append]; rfl
      have yes : ∀ out2 : List S4, out2.length + j ≤ 2000 → f13_j1 (f13_L0 n) (l, out2, (j : Int), false) = some (out2 ++ ((l.take j).reverse.filter good)) := by
        intro out2 ho
        unfold f13_j1
        dsimp only
        rw [if_neg (by simp), iSub_s (by omega) (by omega)]
        simp only [bs]
        exact ih j out2 (by omega) (by omega) ho
      have fin : ∀ c : Bool, c = good l[j] → f13_j1 (f13_L0 n) (l, out, (j : Int), c) = some (out ++ ((l.take (j + 1)).reverse.filter good)) := by
        intro c hc
        rw [ht]
        cases c with
        | false =>
          rw [yes _ (by omega), List.filter_cons_of_neg (by rw [← hc]; simp)]
        | true =>
          unfold f13_j1
          dsimp only
          rw [if_pos rfl, lAt_s (by omega)]
          simp only [bs]
          rw [if_pos (fits_s (by omega) (by simp) (by omega)), iSub_s (by omega) (by omega)]
          simp only [bs]
          rw [ih j _ (by omega) (by omega) (by simp; omega), List.filter_cons_of_pos hc.symm]
          simp
      by_cases hk : l[j].1 = 1 ∨ l[j].1 = 3
      · obtain ⟨r, hr, hg⟩ := t24 l[j] hk
        rw [hr]
        simp only [bs]
        cases hz : (r == 0) with
        | false =>
          rw [if_neg (by simp)]
          exact fin false (by rw [← hg, hz])
        | true =>
          rw [if_pos rfl]
          rcases hk with h1 | h3
          · rw [h1, if_pos (by rfl)]
            exact fin true (by rw [← hg, hz])
          · rw [h3, if_neg (by decide)]
            exact fin true (by rw [← hg, hz])
      · obtain ⟨r, hr⟩ := t24t l[j]
        rw [hr]
        simp only [bs]
        have hg : good l[j] = false := by
          unfold good
          have a1 : (l[j].1 == 1) = false := by simpa using fun h => hk (.inl h)
          have a3 : (l[j].1 == 3) = false := by simpa using fun h => hk (.inr h)
          rw [a1, a3]; rfl
        cases hz : (r == 0) with
        | false =>
          rw [if_neg (by simp)]
          exact fin false hg.symm
        | true =>
          rw [if_pos rfl, if_neg (by simpa using fun h => hk (.inl h))]
          have a3 : (l[j].1 == 3) = false := by simpa using fun h => hk (.inr h)
          rw [a3]
          exact fin false hg.symm
theorem turn_same (l : List S4) (hl : l.length ≤ 60) : ∃ r, f12 l = some r ∧ f13 l = some r ∧ r.length ≤ 1000 := by
  refine ⟨(l.reverse.filter good), ?_, ?_, ?_⟩
  · unfold f12 f19a
    have := t19a fuel 0 [] l (fuel_s _ (by omega)) (by omega) (by omega) (by simp) (by simp)
    erw [this]
    simp only [bs]
    simp only [List.nil_append, List.drop_zero]
    rw [rev _ (Nat.le_trans (List.length_filter_le _ _) (by omega)), ← List.filter_reverse]
    rfl
  · unfold f13
    rw [iSub_s (by omega) (by omega)]
    simp only [bs]
    have := t13 l (by omega) fuel l.length [] (fuel_s _ (by omega)) (by omega) (by simp; omega)
    rw [this, List.take_length]
    rfl
  · have := List.length_filter_le good l.reverse
    simp at this
    simp
    omega
end Tw
open Tw
theorem TwinEvents_true (p : S0 × Int × List S4) : f3 p = some true := by
  unfold f3 lAwake4
  simp only [bs]
  rw [if_neg (by simp)]
  obtain ⟨s, hs, hA, hB⟩ := tot5 p.1
  rw [hs]
  simp only [bs]
  erw [lTo_m p.2.2 60]
  simp only [bs]
  have hl : (p.2.2.take 60).length ≤ 60 := by rw [List.length_take]; omega
  generalize p.2.2.take 60 = l at *
  obtain ⟨x, e, he1, he2, hx⟩ := even_same s p.2.1 hA hB
  erw [he1]
  simp only [bs]
  erw [he2]
  simp only [bs]
  have hf := firsts s hA hB
  erw [hf]
  simp only [bs]
  rw [sizes _ _ hA hB]
  simp only [bs]
  unfold f10 lClone21
  dsimp only
  rw [if_pos (fits_s (by omega) (by omega) (by omega))]
  simp only [bs]
  have h2 : decide (((fst2 s.2.2.2.2.2.2.2.2.2.2.1.length s.2.2.2.2.2.2.2.2.2.2.2.1.length).length : Int) ≤ 2) = true := by
    unfold fst2
    split <;> split <;> simp
  obtain ⟨r, hr1, hr2, hr3⟩ := turn_same l hl
  rw [same x hx]
  simp only [bs, hf, h2, hr1, hr2, same r (by omega), same l (by omega), if_true, beq_self_eq_true]
end Go.Proofs
end
