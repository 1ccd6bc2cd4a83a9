/-
 What the models are made with: data, contracts.
 WireNone's model at the data of a statement. No program in sight.
 Contracts of a program's functions: the facts that show them, written by a program (wip/gen).
 Contracts of a program's functions: the facts that show them, written by a program (wip/gen).
-/
import Derived.Test.YtlplokibplopbaaGreatDoorYM
import Derived.Test.YtlplokibplopbaaGreatDoorYTr
import Derived.Test.YtlplokibplopbaaGreatDoorW0
import Derived.Test.YtlplokibplopbaaGreatDoorYMem
import Derived.Test.YtlplokibplopbaaGreatDoorSq
import Derived.Test.YtlplokibplopbaaGreatDoorYLd
import Derived.KernelRfl
set_option linter.unusedVariables false
set_option linter.unusedSimpArgs false
section
set_option linter.unusedVariables false
set_option maxRecDepth 100000
namespace Go.Proofs
noncomputable section
open Go.Dk Go.Dm Go.RowKit Go.Rk
def tau : Nat → Type
 | 0 => zMn
 | 1 => zLK
 | 2 => zLr
 | 3 => zLD
 | 4 => zMH
 | 5 => zLm
 | 6 => Str × Str × Str × Str
 | 7 => zLm
 | 8 => zLr
 | 9 => zMn
 | 10 => zMu
 | 11 => zMC
 | 12 => zL5
 | 13 => zLs
 | 14 => zMt
 | 15 => zL9
 | 16 => zMr
 | 17 => zLk
 | 18 => zLX
 | 19 => zLz
 | 20 => zLC
 | 21 => zLo
 | 22 => zL1
 | 23 => zLp
 | 24 => zLE
 | 25 => zLA
 | 26 => zMc
 | 27 => zL0
 | 28 => zLu
 | 29 => zLx
 | 30 => zLP
 | 31 => zMl
 | 32 => zLq
 | 33 => zLq
 | 34 => zLy
 | 35 => zLY
 | 36 => zMw
 | 37 => zLG
 | 38 => zMp
 | 39 => List Str
 | 40 => Str
 | 41 => zLZ
 | 42 => zMi
 | 43 => zL4
 | 44 => zLH
 | 45 => zLH
 | 46 => zLV
 | 47 => zMo
 | 48 => zLT
 | 49 => zMo
 | 50 => zLM
 | 51 => zMf
 | 52 => zMa
 | 53 => zMx
 | 54 => zMy
 | 55 => zMy
 | 56 => zMm
 | 57 => zME
 | _ => Unit
noncomputable section
set_option maxHeartbeats 8000000 in
def G : Sig tau where
 fs
  | 0 => [.str, .str, .str, .str, .sl (.st 1), .sl (.st 1), .int, .int, .int, .sl (.st 2), .str, .str, .bool, .bool, .sl (.st 4)]
  | 1 => [.str, .str]
  | 2 => [.int, .int, .str, .str, .int, .str, .str, .sl (.st 3)]
  | 3 => [.int, .str]
  | 4 => [.int, .int]
  | 5 => [.str, .str, .str, .str, .sl (.st 1), .sl (.st 1)]
  | 6 => [.str, .str, .str, .str]
  | 7 => [.str, .str, .str, .str, .so 98 (.st 1), .so 98 (.st 1)]
  | 8 => [.int, .int, .str, .str, .int, .str, .str, .so 102 (.st 3)]
  | 9 => [.str, .str, .str, .str, .so 98 (.st 1), .so 98 (.st 1), .int, .int, .int, .so 81 (.st 2), .str, .str, .bool, .bool, .sl (.st 4)]
  | 10 => [.str, .str, .int, .int, .int, .int, .bool]
  | 11 => [.int, .int, .int]
  | 12 => [.str, .str, .str, .str]
  | 13 => [.str, .int]
  | 14 => [.po 13]
  | 15 => [.int, .str, .int]
  | 16 => [.str, .str, .str, .str, .str, .bool, .bool, .bool]
  | 17 => [.pn 18, .str, .str, .str, .str, .sl (.st 1), .sl (.st 1), .int, .int, .int, .so 81 (.st 2), .pn 20, .pn 22, .pn 24, .pn 20, .pn 22, .pn 24, .so 5 .u8, .so 5 .u8, .int, .bool, .bool, .bool, .bool, .bool, .bool, .bool]
  | 18 => [.so 168 (.st 19), .int, .bool]
  | 19 => [.str, .int, .bool]
  | 20 => [.int, .int, .so 5 .u8, .int, .bool, .int, .bool, .int, .str, .str, .int, .str, .int, .sl (.st 21)]
  | 21 => [.str, .str]
  | 22 => [.pn 23, .int, .int, .int, .bool, .bool]
  | 23 => [.int, .int, .so 5 .u8, .int, .int, .int, .so 203 (.st 21)]
  | 24 => [.pn 25, .int, .int, .int, .bool]
  | 25 => [.int, .str, .bool]
  | 26 => [.int, .str, .str]
  | 27 => [.po 13, .so 102 (.st 3)]
  | 28 => [.pn 20, .pn 22, .pn 24]
  | 29 => [.po 17, .str, .int, .bool, .bool, .so 5 .u8, .mv 21, .mv 22, .str, .int, .bool, .bool, .so 5 .u8, .mv 23, .mv 24, .int, .int]
  | 30 => [.str, .int, .bool, .bool, .so 5 .u8, .nil /-('bad', 'func')-/, .nil /-('bad', 'func')-/]
  | 31 => [.so 168 (.st 19), .int]
  | 32 => [.int, .str, .str, .int, .str, .int, .sl (.st 21)]
  | 33 => [.int, .str, .str, .int, .str, .int, .so 203 (.st 21)]
  | 34 => [.int, .int]
  | 35 => [.so 203 (.st 21)]
  | 36 => [.po 35, .int]
  | 37 => [.po 13, .so 9 .str, .int, .str]
  | 38 => [.po 13, .so 5 .u8]
  | 39 => [.sl .str]
  | 40 => [.str]
  | 41 => [.int, .str, .int, .str, .int, .str, .str, .bool]
  | 42 => [.po 35, .int, .str, .str, .int, .str, .int, .sl (.st 21)]
  | 43 => [.str, .str, .bool]
  | 44 => [.str, .str, .sl (.st 43)]
  | 45 => [.str, .str, .so 429 (.st 43)]
  | 46 => [.str, .str]
  | 47 => [.int, .str, .str, .sl (.st 3), .int]
  | 48 => [.so 422 (.st 47)]
  | 49 => [.int, .str, .str, .so 102 (.st 3), .int]
  | 50 => [.po 35, .sl (.st 46), .int]
  | 51 => [.po 13]
  | 52 => [.so 5 .u8, .int]
  | 53 => [.po 52, .bool]
  | 54 => [.int, .str, .str, .int, .str, .int, .sl (.st 21), .int, .int, .str, .sl (.st 21)]
  | 55 => [.int, .str, .str, .int, .str, .int, .so 203 (.st 21), .int, .int, .str, .so 203 (.st 21)]
  | 56 => [.po 13]
  | 57 => [.int, .int]
  | _ => []
 ti
  | 0 => 30
  | 1 => 98
  | 2 => 81
  | 3 => 102
  | 4 => 33
  | 5 => 24
  | 6 => 107
  | 7 => 24
  | 8 => 81
  | 9 => 30
  | 10 => 46
  | 11 => 26
  | 12 => 114
  | 13 => 237
  | 14 => 191
  | 15 => 117
  | 16 => 198
  | 17 => 89
  | 18 => 127
  | 19 => 168
  | 20 => 165
  | 21 => 203
  | 22 => 144
  | 23 => 216
  | 24 => 180
  | 25 => 122
  | 26 => 78
  | 27 => 365
  | 28 => 87
  | 29 => 65
  | 30 => 63
  | 31 => 125
  | 32 => 163
  | 33 => 163
  | 34 => 141
  | 35 => 351
  | 36 => 319
  | 37 => 403
  | 38 => 457
  | 39 => 148
  | 40 => 9
  | 41 => 327
  | 42 => 324
  | 43 => 429
  | 44 => 413
  | 45 => 413
  | 46 => 338
  | 47 => 422
  | 48 => 381
  | 49 => 422
  | 50 => 385
  | 51 => 366
  | 52 => 346
  | 53 => 282
  | 54 => 222
  | 55 => 222
  | 56 => 427
  | 57 => 44
  | _ => 0
 ctor
  | 0,p => (⟨(⟨p.1,p.2.1,p.2.2.1,p.2.2.2.1,p.2.2.2.2.1,p.2.2.2.2.2.1⟩ : zLm),(⟨p.2.2.2.2.2.2.1,p.2.2.2.2.2.2.2.1,p.2.2.2.2.2.2.2.2.1⟩ : zMC),p.2.2.2.2.2.2.2.2.2.1,p.2.2.2.2.2.2.2.2.2.2.1,p.2.2.2.2.2.2.2.2.2.2.2.1,p.2.2.2.2.2.2.2.2.2.2.2.2.1,p.2.2.2.2.2.2.2.2.2.2.2.2.2.1,p.2.2.2.2.2.2.2.2.2.2.2.2.2.2⟩ : zMn)
  | 1,p => (⟨p.1,p.2⟩ : zLK)
  | 2,p => (⟨p.1,(⟨p.2.1,p.2.2.1,p.2.2.2.1⟩ : zMc),p.2.2.2.2.1,p.2.2.2.2.2.1,p.2.2.2.2.2.2.1,p.2.2.2.2.2.2.2⟩ : zLr)
  | 3,p => (⟨p.1,p.2⟩ : zLD)
  | 4,p => (⟨p.1,p.2⟩ : zMH)
  | 5,p => (⟨p.1,p.2.1,p.2.2.1,p.2.2.2.1,p.2.2.2.2.1,p.2.2.2.2.2⟩ : zLm)
  | 6,p => p
  | 7,p => (⟨p.1,p.2.1,p.2.2.1,p.2.2.2.1,p.2.2.2.2.1,p.2.2.2.2.2⟩ : zLm)
  | 8,p => (⟨p.1,(⟨p.2.1,p.2.2.1,p.2.2.2.1⟩ : zMc),p.2.2.2.2.1,p.2.2.2.2.2.1,p.2.2.2.2.2.2.1,p.2.2.2.2.2.2.2⟩ : zLr)
  | 9,p => (⟨(⟨p.1,p.2.1,p.2.2.1,p.2.2.2.1,p.2.2.2.2.1,p.2.2.2.2.2.1⟩ : zLm),(⟨p.2.2.2.2.2.2.1,p.2.2.2.2.2.2.2.1,p.2.2.2.2.2.2.2.2.1⟩ : zMC),p.2.2.2.2.2.2.2.2.2.1,p.2.2.2.2.2.2.2.2.2.2.1,p.2.2.2.2.2.2.2.2.2.2.2.1,p.2.2.2.2.2.2.2.2.2.2.2.2.1,p.2.2.2.2.2.2.2.2.2.2.2.2.2.1,p.2.2.2.2.2.2.2.2.2.2.2.2.2.2⟩ : zMn)
  | 10,p => (⟨p.1,p.2.1,p.2.2.1,p.2.2.2.1,(⟨p.2.2.2.2.1,p.2.2.2.2.2.1⟩ : zME),p.2.2.2.2.2.2⟩ : zMu)
  | 11,p => (⟨p.1,p.2.1,p.2.2⟩ : zMC)
  | 12,p => (⟨p.1,p.2.1,p.2.2.1,p.2.2.2⟩ : zL5)
  | 13,p => (⟨p.1,p.2⟩ : zLs)
  | 14,p => (⟨p⟩ : zMt)
  | 15,p => (⟨p.1,p.2.1,p.2.2⟩ : zL9)
  | 16,p => (⟨p.1,p.2.1,p.2.2.1,p.2.2.2.1,p.2.2.2.2.1,p.2.2.2.2.2.1,p.2.2.2.2.2.2.1,p.2.2.2.2.2.2.2⟩ : zMr)
  | 17,p => (⟨p.1,(⟨p.2.1,p.2.2.1,p.2.2.2.1,p.2.2.2.2.1,p.2.2.2.2.2.1,p.2.2.2.2.2.2.1⟩ : zLm),(⟨p.2.2.2.2.2.2.2.1,p.2.2.2.2.2.2.2.2.1,p.2.2.2.2.2.2.2.2.2.1⟩ : zMC),p.2.2.2.2.2.2.2.2.2.2.1,(⟨p.2.2.2.2.2.2.2.2.2.2.2.1,p.2.2.2.2.2.2.2.2.2.2.2.2.1,p.2.2.2.2.2.2.2.2.2.2.2.2.2.1⟩ : zLu),(⟨p.2.2.2.2.2.2.2.2.2.2.2.2.2.2.1,p.2.2.2.2.2.2.2.2.2.2.2.2.2.2.2.1,p.2.2.2.2.2.2.2.2.2.2.2.2.2.2.2.2.1⟩ : zLu),p.2.2.2.2.2.2.2.2.2.2.2.2.2.2.2.2.2.1,p.2.2.2.2.2.2.2.2.2.2.2.2.2.2.2.2.2.2.1,p.2.2.2.2.2.2.2.2.2.2.2.2.2.2.2.2.2.2.2.1,p.2.2.2.2.2.2.2.2.2.2.2.2.2.2.2.2.2.2.2.2.1,p.2.2.2.2.2.2.2.2.2.2.2.2.2.2.2.2.2.2.2.2.2.1,p.2.2.2.2.2.2.2.2.2.2.2.2.2.2.2.2.2.2.2.2.2.2.1,p.2.2.2.2.2.2.2.2.2.2.2.2.2.2.2.2.2.2.2.2.2.2.2.1,p.2.2.2.2.2.2.2.2.2.2.2.2.2.2.2.2.2.2.2.2.2.2.2.2.1,p.2.2.2.2.2.2.2.2.2.2.2.2.2.2.2.2.2.2.2.2.2.2.2.2.2.1,p.2.2.2.2.2.2.2.2.2.2.2.2.2.2.2.2.2.2.2.2.2.2.2.2.2.2⟩ : zLk)
  | 18,p => (⟨(⟨p.1,p.2.1⟩ : zMl),p.2.2⟩ : zLX)
  | 19,p => (⟨p.1,p.2.1,p.2.2⟩ : zLz)
  | 20,p => (⟨p.1,p.2.1,p.2.2.1,p.2.2.2.1,p.2.2.2.2.1,p.2.2.2.2.2.1,p.2.2.2.2.2.2.1,(⟨p.2.2.2.2.2.2.2.1,p.2.2.2.2.2.2.2.2.1,p.2.2.2.2.2.2.2.2.2.1,p.2.2.2.2.2.2.2.2.2.2.1,p.2.2.2.2.2.2.2.2.2.2.2.1,p.2.2.2.2.2.2.2.2.2.2.2.2.1,p.2.2.2.2.2.2.2.2.2.2.2.2.2⟩ : zLq)⟩ : zLC)
  | 21,p => (⟨p.1,p.2⟩ : zLo)
  | 22,p => (⟨p.1,(⟨p.2.1,p.2.2.1⟩ : zLy),p.2.2.2.1,p.2.2.2.2.1,p.2.2.2.2.2⟩ : zL1)
  | 23,p => (⟨p.1,p.2.1,p.2.2.1,p.2.2.2.1,p.2.2.2.2.1,p.2.2.2.2.2.1,p.2.2.2.2.2.2⟩ : zLp)
  | 24,p => (⟨p.1,(⟨p.2.1,p.2.2.1⟩ : zLy),p.2.2.2.1,p.2.2.2.2⟩ : zLE)
  | 25,p => (⟨p.1,p.2.1,p.2.2⟩ : zLA)
  | 26,p => (⟨p.1,p.2.1,p.2.2⟩ : zMc)
  | 27,p => (⟨p.1,p.2⟩ : zL0)
  | 28,p => (⟨p.1,p.2.1,p.2.2⟩ : zLu)
  | 29,p => (⟨p.1,(⟨p.2.1,p.2.2.1,p.2.2.2.1,p.2.2.2.2.1,p.2.2.2.2.2.1,p.2.2.2.2.2.2.1,p.2.2.2.2.2.2.2.1⟩ : zLP),(⟨p.2.2.2.2.2.2.2.2.1,p.2.2.2.2.2.2.2.2.2.1,p.2.2.2.2.2.2.2.2.2.2.1,p.2.2.2.2.2.2.2.2.2.2.2.1,p.2.2.2.2.2.2.2.2.2.2.2.2.1,p.2.2.2.2.2.2.2.2.2.2.2.2.2.1,p.2.2.2.2.2.2.2.2.2.2.2.2.2.2.1⟩ : zLP),(⟨p.2.2.2.2.2.2.2.2.2.2.2.2.2.2.2.1,p.2.2.2.2.2.2.2.2.2.2.2.2.2.2.2.2⟩ : zME)⟩ : zLx)
  | 30,p => (⟨p.1,p.2.1,p.2.2.1,p.2.2.2.1,p.2.2.2.2.1,p.2.2.2.2.2.1,p.2.2.2.2.2.2⟩ : zLP)
  | 31,p => (⟨p.1,p.2⟩ : zMl)
  | 32,p => (⟨p.1,p.2.1,p.2.2.1,p.2.2.2.1,p.2.2.2.2.1,p.2.2.2.2.2.1,p.2.2.2.2.2.2⟩ : zLq)
  | 33,p => (⟨p.1,p.2.1,p.2.2.1,p.2.2.2.1,p.2.2.2.2.1,p.2.2.2.2.2.1,p.2.2.2.2.2.2⟩ : zLq)
  | 34,p => (⟨p.1,p.2⟩ : zLy)
  | 35,p => (⟨p⟩ : zLY)
  | 36,p => (⟨p.1,p.2⟩ : zMw)
  | 37,p => (⟨p.1,p.2.1,p.2.2.1,p.2.2.2⟩ : zLG)
  | 38,p => (⟨p.1,p.2⟩ : zMp)
  | 39,p => p
  | 40,p => p
  | 41,p => (⟨p.1,p.2.1,(⟨p.2.2.1,p.2.2.2.1,p.2.2.2.2.1⟩ : zL9),p.2.2.2.2.2.1,p.2.2.2.2.2.2.1,p.2.2.2.2.2.2.2⟩ : zLZ)
  | 42,p => (⟨p.1,(⟨p.2.1,p.2.2.1,p.2.2.2.1,p.2.2.2.2.1,p.2.2.2.2.2.1,p.2.2.2.2.2.2.1,p.2.2.2.2.2.2.2⟩ : zLq)⟩ : zMi)
  | 43,p => (⟨p.1,p.2.1,p.2.2⟩ : zL4)
  | 44,p => (⟨p.1,p.2.1,p.2.2⟩ : zLH)
  | 45,p => (⟨p.1,p.2.1,p.2.2⟩ : zLH)
  | 46,p => (⟨p.1,p.2⟩ : zLV)
  | 47,p => (⟨p.1,p.2.1,p.2.2.1,p.2.2.2.1,p.2.2.2.2⟩ : zMo)
  | 48,p => (⟨p⟩ : zLT)
  | 49,p => (⟨p.1,p.2.1,p.2.2.1,p.2.2.2.1,p.2.2.2.2⟩ : zMo)
  | 50,p => (⟨p.1,p.2.1,p.2.2⟩ : zLM)
  | 51,p => (⟨p⟩ : zMf)
  | 52,p => (⟨p.1,p.2⟩ : zMa)
  | 53,p => (⟨p.1,p.2⟩ : zMx)
  | 54,p => (⟨(⟨p.1,p.2.1,p.2.2.1,p.2.2.2.1,p.2.2.2.2.1,p.2.2.2.2.2.1,p.2.2.2.2.2.2.1⟩ : zLq),(⟨p.2.2.2.2.2.2.2.1,p.2.2.2.2.2.2.2.2.1⟩ : zLy),p.2.2.2.2.2.2.2.2.2.1,p.2.2.2.2.2.2.2.2.2.2⟩ : zMy)
  | 55,p => (⟨(⟨p.1,p.2.1,p.2.2.1,p.2.2.2.1,p.2.2.2.2.1,p.2.2.2.2.2.1,p.2.2.2.2.2.2.1⟩ : zLq),(⟨p.2.2.2.2.2.2.2.1,p.2.2.2.2.2.2.2.2.1⟩ : zLy),p.2.2.2.2.2.2.2.2.2.1,p.2.2.2.2.2.2.2.2.2.2⟩ : zMy)
  | 56,p => (⟨p⟩ : zMm)
  | 57,p => (⟨p.1,p.2⟩ : zME)
  | _ + 58,_ => ()
 dtor
  | 0,(x : zMn) => (x.Env.Client,x.Env.Host,x.Env.Scheme,x.Env.By,x.Env.Domains,x.Env.Locations,x.Caps.Head,x.Caps.Chunk,x.Caps.Queue,x.Rules,x.Client,x.Upstream,x.ClientEnds,x.UpstreamEnds,x.Events)
  | 1,(x : zLK) => (x.From,x.To)
  | 2,(x : zLr) => (x.Side,x.Guard.Kind,x.Guard.Name,x.Guard.Value,x.Kind,x.Name,x.To,x.Parts)
  | 3,(x : zLD) => (x.Kind,x.Text)
  | 4,(x : zMH) => (x.Kind,x.N)
  | 5,(x : zLm) => (x.Client,x.Host,x.Scheme,x.By,x.Domains,x.Locations)
  | 6,x => x
  | 7,(x : zLm) => (x.Client,x.Host,x.Scheme,x.By,x.Domains,x.Locations)
  | 8,(x : zLr) => (x.Side,x.Guard.Kind,x.Guard.Name,x.Guard.Value,x.Kind,x.Name,x.To,x.Parts)
  | 9,(x : zMn) => (x.Env.Client,x.Env.Host,x.Env.Scheme,x.Env.By,x.Env.Domains,x.Env.Locations,x.Caps.Head,x.Caps.Chunk,x.Caps.Queue,x.Rules,x.Client,x.Upstream,x.ClientEnds,x.UpstreamEnds,x.Events)
  | 10,(x : zMu) => (x.Client,x.Upstream,x.ReadClient,x.ReadUpstream,x.Most.Client,x.Most.Upstream,x.Closed)
  | 11,(x : zMC) => (x.Head,x.Chunk,x.Queue)
  | 12,(x : zL5) => (x.Proto,x.Version,x.By,x.Comment)
  | 13,(x : zLs) => (x.zMz,x.zL8)
  | 14,(x : zMt) => x.Scanner
  | 15,(x : zL9) => (x.Kind,x.Name,x.Port)
  | 16,(x : zMr) => (x.Scheme,x.Auth,x.Path,x.Query,x.Frag,x.HasAuth,x.HasQuery,x.HasFrag)
  | 17,(x : zLk) => (x.Queue,x.zL2.Client,x.zL2.Host,x.zL2.Scheme,x.zL2.By,x.zL2.Domains,x.zL2.Locations,x.zLO.Head,x.zLO.Chunk,x.zLO.Queue,x.zLF,x.zLn.Accum,x.zLn.zMI,x.zLn.zLI,x.zLl.Accum,x.zLl.zMI,x.zLl.zLI,x.zLw,x.zLU,x.zLR,x.zLt,x.zLS,x.zL3,x.zLJ,x.zLQ,x.zLB,x.zLv)
  | 18,(x : zLX) => (x.zML.zMv,x.zML.zLN,x.zLQ)
  | 19,(x : zLz) => (x.Method,x.Minor,x.Close)
  | 20,(x : zLC) => (x.zMN,x.zMh,x.zMb,x.zMk,x.zMP,x.zMK,x.f_whole,x.zMD.Kind,x.zMD.Method,x.zMD.Target,x.zMD.Code,x.zMD.Reason,x.zMD.Minor,x.zMD.Fields)
  | 21,(x : zLo) => (x.Name,x.Value)
  | 22,(x : zL1) => (x.Decoder,x.zMq.Kind,x.zMq.N,x.zMd,x.zMB,x.zMK)
  | 23,(x : zLp) => (x.zMh,x.zL8,x.zMG,x.zMd,x.zMO,x.zMA,x.zMj)
  | 24,(x : zLE) => (x.Encoder,x.zMq.Kind,x.zMq.N,x.zMd,x.zMB)
  | 25,(x : zLA) => (x.zMJ,x.zMb,x.zMB)
  | 26,(x : zMc) => (x.Kind,x.Name,x.Value)
  | 27,(x : zL0) => (x.Scanner,x.zLI)
  | 28,(x : zLu) => (x.Accum,x.zMI,x.zLI)
  | 29,(x : zLx) => (x.Gateway,x.zLn.zLW,x.zLn.zLL,x.zLn.zL6,x.zLn.zMe,x.zLn.zL7,x.zLn.zMg,x.zLn.zMs,x.zLl.zLW,x.zLl.zLL,x.zLl.zL6,x.zLl.zMe,x.zLl.zL7,x.zLl.zMg,x.zLl.zMs,x.zLN.Client,x.zLN.Upstream)
  | 30,(x : zLP) => (x.zLW,x.zLL,x.zL6,x.zMe,x.zL7,x.zMg,x.zMs)
  | 31,(x : zMl) => (x.zMv,x.zLN)
  | 32,(x : zLq) => (x.Kind,x.Method,x.Target,x.Code,x.Reason,x.Minor,x.Fields)
  | 33,(x : zLq) => (x.Kind,x.Method,x.Target,x.Code,x.Reason,x.Minor,x.Fields)
  | 34,(x : zLy) => (x.Kind,x.N)
  | 35,(x : zLY) => x.zMv
  | 36,(x : zMw) => (x.Bag,x.zMT)
  | 37,(x : zLG) => (x.Scanner,x.zLI,x.zMk,x.zMz)
  | 38,(x : zMp) => (x.Scanner,x.zLI)
  | 39,x => x
  | 40,x => x
  | 41,(x : zLZ) => (x.Kind,x.Scheme,x.Host.Kind,x.Host.Name,x.Host.Port,x.Path,x.Query,x.HasQuery)
  | 42,(x : zMi) => (x.Bag,x.zMQ.Kind,x.zMQ.Method,x.zMQ.Target,x.zMQ.Code,x.zMQ.Reason,x.zMQ.Minor,x.zMQ.Fields)
  | 43,(x : zL4) => (x.Name,x.Value,x.Has)
  | 44,(x : zLH) => (x.Name,x.Value,x.Attrs)
  | 45,(x : zLH) => (x.Name,x.Value,x.Attrs)
  | 46,(x : zLV) => (x.Name,x.Value)
  | 47,(x : zMo) => (x.Kind,x.Name,x.Text,x.Parts,x.N)
  | 48,(x : zLT) => x.zLI
  | 49,(x : zMo) => (x.Kind,x.Name,x.Text,x.Parts,x.N)
  | 50,(x : zLM) => (x.Bag,x.zMF,x.zMM)
  | 51,(x : zMf) => x.Scanner
  | 52,(x : zMa) => (x.zMR,x.zLN)
  | 53,(x : zMx) => (x.Quill,x.zMS)
  | 54,(x : zMy) => (x.Head.Kind,x.Head.Method,x.Head.Target,x.Head.Code,x.Head.Reason,x.Head.Minor,x.Head.Fields,x.Frame.Kind,x.Frame.N,x.Body,x.Trailers)
  | 55,(x : zMy) => (x.Head.Kind,x.Head.Method,x.Head.Target,x.Head.Code,x.Head.Reason,x.Head.Minor,x.Head.Fields,x.Frame.Kind,x.Frame.N,x.Body,x.Trailers)
  | 56,(x : zMm) => x.Scanner
  | 57,(x : zME) => (x.Client,x.Upstream)
  | _ + 58,_ => ()
 cd
  | 0,_ => rfl
  | 1,_ => rfl
  | 2,_ => rfl
  | 3,_ => rfl
  | 4,_ => rfl
  | 5,_ => rfl
  | 6,_ => rfl
  | 7,_ => rfl
  | 8,_ => rfl
  | 9,_ => rfl
  | 10,_ => rfl
  | 11,_ => rfl
  | 12,_ => rfl
  | 13,_ => rfl
  | 14,_ => rfl
  | 15,_ => rfl
  | 16,_ => rfl
  | 17,_ => rfl
  | 18,_ => rfl
  | 19,_ => rfl
  | 20,_ => rfl
  | 21,_ => rfl
  | 22,_ => rfl
  | 23,_ => rfl
  | 24,_ => rfl
  | 25,_ => rfl
  | 26,_ => rfl
  | 27,_ => rfl
  | 28,_ => rfl
  | 29,_ => rfl
  | 30,_ => rfl
  | 31,_ => rfl
  | 32,_ => rfl
  | 33,_ => rfl
  | 34,_ => rfl
  | 35,_ => rfl
  | 36,_ => rfl
  | 37,_ => rfl
  | 38,_ => rfl
  | 39,_ => rfl
  | 40,_ => rfl
  | 41,_ => rfl
  | 42,_ => rfl
  | 43,_ => rfl
  | 44,_ => rfl
  | 45,_ => rfl
  | 46,_ => rfl
  | 47,_ => rfl
  | 48,_ => rfl
  | 49,_ => rfl
  | 50,_ => rfl
  | 51,_ => rfl
  | 52,_ => rfl
  | 53,_ => rfl
  | 54,_ => rfl
  | 55,_ => rfl
  | 56,_ => rfl
  | 57,_ => rfl
  | _ + 58,_ => rfl
 dc
  | 0,_ => rfl
  | 1,_ => rfl
  | 2,_ => rfl
  | 3,_ => rfl
  | 4,_ => rfl
  | 5,_ => rfl
  | 6,_ => rfl
  | 7,_ => rfl
  | 8,_ => rfl
  | 9,_ => rfl
  | 10,_ => rfl
  | 11,_ => rfl
  | 12,_ => rfl
  | 13,_ => rfl
  | 14,_ => rfl
  | 15,_ => rfl
  | 16,_ => rfl
  | 17,_ => rfl
  | 18,_ => rfl
  | 19,_ => rfl
  | 20,_ => rfl
  | 21,_ => rfl
  | 22,_ => rfl
  | 23,_ => rfl
  | 24,_ => rfl
  | 25,_ => rfl
  | 26,_ => rfl
  | 27,_ => rfl
  | 28,_ => rfl
  | 29,_ => rfl
  | 30,_ => rfl
  | 31,_ => rfl
  | 32,_ => rfl
  | 33,_ => rfl
  | 34,_ => rfl
  | 35,_ => rfl
  | 36,_ => rfl
  | 37,_ => rfl
  | 38,_ => rfl
  | 39,_ => rfl
  | 40,_ => rfl
  | 41,_ => rfl
  | 42,_ => rfl
  | 43,_ => rfl
  | 44,_ => rfl
  | 45,_ => rfl
  | 46,_ => rfl
  | 47,_ => rfl
  | 48,_ => rfl
  | 49,_ => rfl
  | 50,_ => rfl
  | 51,_ => rfl
  | 52,_ => rfl
  | 53,_ => rfl
  | 54,_ => rfl
  | 55,_ => rfl
  | 56,_ => rfl
  | 57,_ => rfl
  | _ + 58,_ => rfl
 eq
  | 1,(x : zLK),y => x == y
  | 3,(x : zLD),y => x == y
  | 4,(x : zMH),y => x == y
  | 10,(x : zMu),y => x == y
  | 12,(x : zL5),y => x == y
  | 15,(x : zL9),y => x == y
  | 19,(x : zLz),y => x == y
  | 21,(x : zLo),y => x == y
  | 26,(x : zMc),y => x == y
  | 34,(x : zLy),y => x == y
  | 43,(x : zL4),y => x == y
  | 46,(x : zLV),y => x == y
  | _,_,_ => true
 fp := [(121,zaI),(155,zes),(165,zbv),(166,zgZ),(176,zeW),(177,zan),(219,zcT),(221,zcF),(234,zdm),(235,zeY),(287,zev),(288,zfP),(294,zb6),(331,zkk),(369,zkj),(398,zgC),(399,zhB)]
 gl := []
 dr
  | 168 => true
  | _ => false
 ax h := ∀ w,Fz.on h w → zhK w
 axm hh ha w hw := ha w fun b o e => hw b o (hh b o e)
def G0 : Sig tau := ⟨G.fs,G.ti,G.ctor,G.dtor,G.cd,G.dc,G.eq,[],[],G.dr,fun _ => True,fun _ h => h⟩
def tyl : List (TypeId × Ty) := [(5, .u8),(9, .str),(33, .st 4),(46, .st 10),(78, .st 26),(81, .st 2),(98, .st 1),(102, .st 3),(114, .st 12),(117, .st 15),(141, .st 34),(168, .st 19),(203, .st 21),(338, .st 46),(422, .st 47),(429, .st 43)]
def zxD : Con tau := ⟨[.str],[.bool],1,[],za9⟩
def zBF : Con tau := ⟨[.str],[.str],1,[],zaU⟩
def zwg : Con tau := ⟨[.sl (.st 1)],[.so 98 (.st 1)],1,[],zg4⟩
def zwh : Con tau := ⟨[.sl (.st 3)],[.so 102 (.st 3)],1,[],zfr⟩
def zu7 : Con tau := ⟨[.sl (.st 21)],[.so 203 (.st 21)],1,[],zgo⟩
def zyD : Con tau := ⟨[.sl .str, .str],[.str],1,[],fun p => strings_Join p.1 p.2⟩
def ztO : Con tau := ⟨[.str, .str],[.int],1,[],fun p => strings_IndexAny p.1 p.2⟩
def zz2 : Con tau := ⟨[.str, .str],[.str, .str, .bool],3,[],fun p => strings_Cut p.1 p.2⟩
def zyE : Con tau := ⟨[.str, .str],[.str],1,[],fun p => zbu p.1 p.2⟩
def zxE : Con tau := ⟨[.str, .str],[.so 9 .str],1,[],fun p => strings_Split p.1 p.2⟩
def zs6 : Con tau := ⟨[.int, .int],[.str],1,[],fun p => zb0 p.1 p.2⟩
def zmo : Con tau := ⟨[.str, .u8],[.int],1,[],fun p => strings_IndexByte p.1 p.2⟩
def ztP : Con tau := ⟨[.str, .str],[.bool],1,[],fun p => strings_Contains p.1 p.2⟩
def zr0 : Con tau := ⟨[.str, .str, .str],[.str],1,[],fun p => strings_ReplaceAll p.1 p.2.1 p.2.2⟩
def zxF : Con tau := ⟨[.str, .str],[.int],1,[],fun p => strings_Index p.1 p.2⟩
def zs7 : Con tau := ⟨[.so 203 (.st 21), .int, .so 203 (.st 21)],[.so 203 (.st 21)],1,[],fun p => zb1 p.1 p.2.1 p.2.2⟩
def zs8 : Con tau := ⟨[.str, .str],[.str],1,[],fun p => zde p.1 p.2⟩
def zGT : Con tau := ⟨[],[.bool],1,[],fun _ => zzO⟩
def zBG : Con tau := ⟨[.st 1],[.st 1],1,[],zmh⟩
def zCW : Con tau := ⟨[.st 5],[.st 7],1,[],zrA⟩
def zCX : Con tau := ⟨[.sl (.st 1)],[.so 98 (.st 1)],1,[],znR⟩
def zCY : Con tau := ⟨[.st 5],[.st 7],1,[],zrB⟩
def zCZ : Con tau := ⟨[.sl (.st 3)],[.so 102 (.st 3)],1,[],znS⟩
def zC0 : Con tau := ⟨[.st 2],[.st 8],1,[],zrC⟩
def zC1 : Con tau := ⟨[.sl (.st 2)],[.so 81 (.st 2)],1,[],zrD⟩
def zC2 : Con tau := ⟨[.sl (.st 2)],[.so 81 (.st 2)],1,[],zrE⟩
def zC3 : Con tau := ⟨[.st 0],[.st 9],1,[],znT⟩
def zyF : Con tau := ⟨[.nil, .st 4],[.int, .int],2,[],fun p => zoC p.2⟩
def zwi : Con tau := ⟨[.nil],[.int, .int],2,[],fun _ => zmi⟩
def ztQ : Con tau := ⟨[.nil],[.int],1,[],fun _ => zkg⟩
def ztR : Con tau := ⟨[.nil],[.st 10],1,[],fun _ => zkh⟩
def zBH : Con tau := ⟨[.str, .sl .str],[.str],1,[],fun p => zbf p.1 p.2⟩
def zEN : Con tau := ⟨[.str],[.po 13],1,[],zgm⟩
def zo3 : Con tau := ⟨[.u8],[.u8],1,[],zbD⟩
def zqP : Con tau := ⟨[.u8],[.bool],1,[],zcF⟩
def zqQ : Con tau := ⟨[.u8],[.bool],1,[],zaI⟩
def zxG : Con tau := ⟨[.u8, .str],[.bool],1,[],fun p => zki p.1 p.2⟩
def zqR : Con tau := ⟨[.u8],[.bool],1,[],zeW⟩
def zu8 : Con tau := ⟨[.pt 13],[.int],1,[],zca⟩
def zs9 : Con tau := ⟨[.pt 13],[.str],1,[],zal⟩
def ztS : Con tau := ⟨[.pt 13],[.bool],1,[],zai⟩
def zta : Con tau := ⟨[.pt 13],[.u8, .bool],2,[],zam⟩
def zpZ : Con tau := ⟨[.po 13, .fn],[.str, .po 13],1,[0],fun p => zH p.1 p.2⟩
def zp0 : Con tau := ⟨[.po 13],[.str, .bool, .po 13],2,[0],zM⟩
def zqS : Con tau := ⟨[.po 13, .u8],[.bool, .po 13],1,[0],fun p => zk p.1 p.2⟩
def zo4 : Con tau := ⟨[.st 14, .po 12],[.bool, .po 12, .po 13],1,[1,32],fun p => zed p.1 p.2⟩
def zn2 : Con tau := ⟨[.u8],[.bool],1,[],zes⟩
def zC4 : Con tau := ⟨[.fn, .sl .str],[.bool],1,[],fun p => zbF p.1 p.2⟩
def zxH : Con tau := ⟨[.u8],[.int],1,[],zku⟩
def zyG : Con tau := ⟨[.str, .int, .int, .fn],[.int, .int],2,[],fun p => zjm p.1 p.2.1 p.2.2.1 p.2.2.2⟩
def zu9 : Con tau := ⟨[.str, .int],[.int, .int],2,[],fun p => zdl p.1 p.2⟩
def zyH : Con tau := ⟨[.int, .int],[.str],1,[],fun p => zjn p.1 p.2⟩
def zyI : Con tau := ⟨[.int],[.str],1,[],zcI⟩
def zpz : Con tau := ⟨[.str, .int],[.bool],1,[],fun p => zcS p.1 p.2⟩
def ztT : Con tau := ⟨[.u8],[.bool],1,[],zcT⟩
def zva : Con tau := ⟨[.str, .bool],[.int],1,[],fun p => zet p.1 p.2⟩
def zyJ : Con tau := ⟨[.str],[.bool],1,[],zhr⟩
def ztU : Con tau := ⟨[.str],[.bool],1,[],zhs⟩
def zlA : Con tau := ⟨[.u8],[.bool],1,[],zbv⟩
def ztV : Con tau := ⟨[.u8],[.bool],1,[],zgZ⟩
def zxJ : Con tau := ⟨[.str],[.bool],1,[],zeX⟩
def zz3 : Con tau := ⟨[.str],[.st 15, .bool],2,[],zk0⟩
def zlu : Con tau := ⟨[.str, .u8],[.int],1,[],fun p => zbI p.1 p.2⟩
def zo5 : Con tau := ⟨[.str, .u8],[.int],1,[],fun p => zcm p.1 p.2⟩
def zwj : Con tau := ⟨[.str],[.st 15, .int],2,[],zbN⟩
def zz4 : Con tau := ⟨[.str],[.bool],1,[],zdK⟩
def zqT : Con tau := ⟨[.str, .str],[.bool],1,[],fun p => strings_ContainsAny p.1 p.2⟩
def zvb : Con tau := ⟨[.st 14, .po 12],[.bool, .po 12, .po 13],1,[1,32],fun p => zii p.1 p.2⟩
def zo6 : Con tau := ⟨[.str, .str],[.bool],1,[],fun p => stringslite_HasPrefix p.1 p.2⟩
def zo7 : Con tau := ⟨[.str, .str],[.str, .bool],2,[],fun p => stringslite_CutPrefix p.1 p.2⟩
def ztb : Con tau := ⟨[.str, .str],[.str, .bool],2,[],fun p => strings_CutPrefix p.1 p.2⟩
def zo8 : Con tau := ⟨[.str, .str],[.bool],1,[],fun p => stringslite_HasSuffix p.1 p.2⟩
def zo9 : Con tau := ⟨[.str, .str],[.str, .bool],2,[],fun p => stringslite_CutSuffix p.1 p.2⟩
def ztc : Con tau := ⟨[.str, .str],[.str, .bool],2,[],fun p => strings_CutSuffix p.1 p.2⟩
def zn3 : Con tau := ⟨[.u8],[.bool],1,[],zdm⟩
def zqU : Con tau := ⟨[.u8],[.bool],1,[],zeY⟩
def zqV : Con tau := ⟨[.u8],[.bool],1,[],zan⟩
def zyK : Con tau := ⟨[.str],[.bool],1,[],zlW⟩
def zp1 : Con tau := ⟨[.st 14, .po 12],[.bool, .po 12, .po 13],1,[1,32],fun p => zez p.1 p.2⟩
def zC5 : Con tau := ⟨[.str],[.st 12, .int],2,[],zrF⟩
def zEO : Con tau := ⟨[.st 12],[.str, .int],2,[],zqD⟩
def zyL : Con tau := ⟨[.str],[.bool],1,[],zjo⟩
def zxK : Con tau := ⟨[.sl (.st 1)],[.int],1,[],zkv⟩
def zn4 : Con tau := ⟨[.u8],[.bool],1,[],zev⟩
def zxL : Con tau := ⟨[.str],[.bool],1,[],zkw⟩
def ztd : Con tau := ⟨[.str, .str],[.bool],1,[],fun p => strings_HasPrefix p.1 p.2⟩
def zz5 : Con tau := ⟨[.str, .str],[.str, .str],2,[],fun p => zg0 p.1 p.2⟩
def zyM : Con tau := ⟨[.str],[.st 16],1,[],zlX⟩
def zsp : Con tau := ⟨[.u8],[.bool],1,[],zfP⟩
def zyN : Con tau := ⟨[.str, .str],[.bool],1,[],fun p => zfQ p.1 p.2⟩
def zz6 : Con tau := ⟨[.st 16],[.bool],1,[],zmX⟩
def zyO : Con tau := ⟨[.str],[.st 16, .int],2,[],zlY⟩
def zz7 : Con tau := ⟨[.str],[.bool],1,[],zg1⟩
def zwk : Con tau := ⟨[.sl (.st 1)],[.int],1,[],zjp⟩
def zz8 : Con tau := ⟨[.st 5],[.int],1,[],zmY⟩
def zz9 : Con tau := ⟨[.int],[.pn 25, .int],2,[],ziR⟩
def zAa : Con tau := ⟨[.int],[.pn 18, .int],2,[],zmZ⟩
def zBI : Con tau := ⟨[.int],[.sn 9 .str],1,[],zmj⟩
def zvc : Con tau := ⟨[.st 21],[.int],1,[],zew⟩
def zBJ : Con tau := ⟨[.st 26],[.bool],1,[],zoD⟩
def zC6 : Con tau := ⟨[],[.so 9 .str],1,[],fun _ => zrG⟩
def zlc : Con tau := ⟨[.sl .str, .str],[.int],1,[],fun p => zbr p.1 p.2⟩
def zjH : Con tau := ⟨[.sl .str, .str],[.bool],1,[],fun p => zB p.1 p.2⟩
def zC7 : Con tau := ⟨[.str],[.bool],1,[],zrH⟩
def zC8 : Con tau := ⟨[.str],[.bool],1,[],zrI⟩
def zC9 : Con tau := ⟨[.str],[.bool],1,[],znU⟩
def zBK : Con tau := ⟨[.sl (.st 3)],[.so 9 .str],1,[],zoE⟩
def zvG : Con tau := ⟨[.u8],[.bool],1,[],zkj⟩
def zvH : Con tau := ⟨[.u8],[.bool],1,[],zkk⟩
def zqW : Con tau := ⟨[.po 13, .str],[.bool, .po 13],1,[0],fun p => zb3 p.1 p.2⟩
def zr1 : Con tau := ⟨[.po 27, .str],[.po 27],0,[0],fun p => zdZ p.1 p.2⟩
def zqX : Con tau := ⟨[.po 27],[.bool, .po 27],1,[0],ze9⟩
def zr2 : Con tau := ⟨[.po 27],[.bool, .po 27],1,[0],zfR⟩
def zBL : Con tau := ⟨[.str],[.so 102 (.st 3), .int],2,[],zoF⟩
def zi6 : Con tau := ⟨[.sl (.st 3), .sl (.st 3)],[.bool],1,[],fun p => zaN p.1 p.2⟩
def zDa : Con tau := ⟨[.sl (.st 3)],[.str, .int],2,[],zrJ⟩
def zBM : Con tau := ⟨[.int, .sl (.st 3)],[.bool],1,[],fun p => zoG p.1 p.2⟩
def zEP : Con tau := ⟨[.st 2],[.bool],1,[],ztI⟩
def zBN : Con tau := ⟨[.st 2],[.int],1,[],zoH⟩
def zAb : Con tau := ⟨[.sl (.st 2)],[.int, .int],2,[],zk1⟩
def zDb : Con tau := ⟨[.int, .int],[.pn 20, .int],2,[],fun p => zrK p.1 p.2⟩
def zxM : Con tau := ⟨[.int, .int],[.st 28],1,[],fun p => zdL p.1 p.2⟩
def zAc : Con tau := ⟨[.st 5, .st 11, .sl (.st 2)],[.pn 17, .int],2,[],fun p => zk2 p.1 p.2.1 p.2.2⟩
def zEQ : Con tau := ⟨[.st 0],[.pn 29, .int],2,[],znV⟩
def zn5 : Con tau := ⟨[.pt 17],[.bool],1,[],zp⟩
def zte : Con tau := ⟨[.nil],[.bool],1,[],fun _ => zgI⟩
def zqY : Con tau := ⟨[.pt 20],[.bool],1,[],zfa⟩
def ztf : Con tau := ⟨[.pt 28],[.bool],1,[],zgJ⟩
def zr3 : Con tau := ⟨[.nil],[.bool],1,[],fun _ => zfT⟩
def ztW : Con tau := ⟨[.pt 31],[.int],1,[],zhu⟩
def zp2 : Con tau := ⟨[.pt 18],[.bool],1,[],zeB⟩
def zpa : Con tau := ⟨[.pt 17],[.bool],1,[],zef⟩
def ztX : Con tau := ⟨[.nil, .str],[.int, .bool, .int],3,[],fun p => zfs p.2⟩
def zBO : Con tau := ⟨[.int],[.int],1,[],zoI⟩
def ztY : Con tau := ⟨[.nil],[.st 33, .bool],2,[],fun _ => zdO⟩
def zGU : Con tau := ⟨[.sl (.st 21)],[.po 35],1,[],zfb⟩
def zyP : Con tau := ⟨[.pt 35],[.so 203 (.st 21)],1,[],zbs⟩
def zBP : Con tau := ⟨[.str, .str],[.bool],1,[],fun p => zbg p.1 p.2⟩
def zwl : Con tau := ⟨[.pt 35, .str],[.so 9 .str],1,[],fun p => zbO p.1 p.2⟩
def zqZ : Con tau := ⟨[.po 13, .int],[.bool, .po 13],1,[0],fun p => zfc p.1 p.2⟩
def zpb : Con tau := ⟨[.po 37, .int],[.po 37],0,[0],fun p => zcn p.1 p.2⟩
def zmp : Con tau := ⟨[.po 37],[.bool, .po 37],1,[0],zcd⟩
def zxN : Con tau := ⟨[.po 13],[.str, .bool, .po 13],2,[0],zh3⟩
def zn6 : Con tau := ⟨[.po 37],[.bool, .po 37],1,[0],zdy⟩
def zyQ : Con tau := ⟨[.str],[.so 9 .str, .int],2,[],zjt⟩
def zxO : Con tau := ⟨[.sl .str],[.so 9 .str, .int],2,[],zgA⟩
def zp3 : Con tau := ⟨[.st 36, .sl .str],[.st 34, .int, .po 35],2,[32],fun p => zeC p.1 p.2⟩
def zpc : Con tau := ⟨[.st 36, .sl .str],[.st 34, .int, .po 35],2,[32],fun p => zeg p.1 p.2⟩
def zDc : Con tau := ⟨[.st 32, .int],[.st 34, .int],2,[],fun p => znW p.1 p.2⟩
def zwm : Con tau := ⟨[.st 32],[.st 34, .int],2,[],zg6⟩
def zxP : Con tau := ⟨[.sl (.st 21)],[.so 9 .str],1,[],zkA⟩
def zDd : Con tau := ⟨[.str, .pt 40],[.bool],1,[],fun p => zl9 p.1 p.2⟩
def zi7 : Con tau := ⟨[.sl .str, .cl 374 (.pt 40)],[.int],1,[],fun p => zaa p.1 p.2⟩
def zhS : Con tau := ⟨[.sl .str, .cl 374 (.pt 40)],[.bool],1,[],fun p => zV p.1 p.2⟩
def zGV : Con tau := ⟨[.str, .sl .str],[.bool],1,[],fun p => ztJ p.1 p.2⟩
def ztZ : Con tau := ⟨[.st 21, .pt 39],[.bool],1,[],fun p => zcy p.1 p.2⟩
def zgX : Con tau := ⟨[.sl (.st 21), .cl 336 (.pt 39)],[.int],1,[],fun p => zN p.1 p.2⟩
def zf7 : Con tau := ⟨[.so 203 (.st 21), .cl 336 (.pt 39)],[.so 203 (.st 21)],1,[],fun p => zC p.1 p.2⟩
def zt0 : Con tau := ⟨[.po 35, .sl .str],[.int, .po 35],1,[0],fun p => zcz p.1 p.2⟩
def zDe : Con tau := ⟨[.sl (.st 21)],[.so 203 (.st 21)],1,[],zrL⟩
def zER : Con tau := ⟨[.str, .str],[.bool],1,[],fun p => zqE p.1 p.2⟩
def zBQ : Con tau := ⟨[.str],[.bool],1,[],zoJ⟩
def zAd : Con tau := ⟨[.str],[.bool],1,[],zm1⟩
def zDf : Con tau := ⟨[.str],[.str, .str, .bool, .int],4,[],znX⟩
def zAe : Con tau := ⟨[.st 41, .str],[.st 41, .bool],2,[],fun p => zk4 p.1 p.2⟩
def zvd : Con tau := ⟨[.str],[.st 41, .bool],2,[],ziq⟩
def zDg : Con tau := ⟨[.str, .str],[.st 41, .bool],2,[],fun p => zrM p.1 p.2⟩
def zyR : Con tau := ⟨[.str, .str],[.st 41, .int],2,[],fun p => zjw p.1 p.2⟩
def zBR : Con tau := ⟨[.str, .str, .bool],[.str],1,[],fun p => zoK p.1 p.2.1 p.2.2⟩
def zxQ : Con tau := ⟨[.st 41],[.str],1,[],zkB⟩
def zxR : Con tau := ⟨[.st 15],[.str, .int],2,[],zkC⟩
def zxS : Con tau := ⟨[.st 21, .pt 40],[.bool],1,[],fun p => zgB p.1 p.2⟩
def zgu : Con tau := ⟨[.sl (.st 21), .cl 341 (.pt 40)],[.int],1,[],fun p => zJ p.1 p.2⟩
def zAf : Con tau := ⟨[.pt 35, .str],[.str, .bool],2,[],fun p => ziS p.1 p.2⟩
def zxT : Con tau := ⟨[.po 35, .sl (.st 21)],[.po 35],0,[0],fun p => ze0 p.1 p.2⟩
def zxU : Con tau := ⟨[.po 35, .str, .str],[.po 35],0,[0],fun p => zh4 p.1 p.2.1 p.2.2⟩
def zq0 : Con tau := ⟨[.po 42, .st 5, .st 41],[.po 42],0,[0],fun p => zfd p.1 p.2.1 p.2.2⟩
def zq1 : Con tau := ⟨[.po 42],[.st 33, .int],2,[],zb4⟩
def ztg : Con tau := ⟨[.str, .str],[.bool],1,[],fun p => strings_HasSuffix p.1 p.2⟩
def zAg : Con tau := ⟨[.str, .sl (.st 1)],[.str, .bool],2,[],fun p => zm2 p.1 p.2⟩
def zt1 : Con tau := ⟨[.str, .sl (.st 1)],[.str],1,[],fun p => zhA p.1 p.2⟩
def zq2 : Con tau := ⟨[.u8],[.bool],1,[],zgC⟩
def zAh : Con tau := ⟨[.str],[.st 43, .bool],2,[],zk5⟩
def zsq : Con tau := ⟨[.u8],[.bool],1,[],zhB⟩
def zyS : Con tau := ⟨[.str],[.bool],1,[],zl0⟩
def zyT : Con tau := ⟨[.str],[.st 45, .int],2,[],zjy⟩
def zAi : Con tau := ⟨[.st 44, .str],[.int],1,[],fun p => zk6 p.1 p.2⟩
def zBS : Con tau := ⟨[.st 44, .str],[.str, .bool],2,[],fun p => zoL p.1 p.2⟩
def zn7 : Con tau := ⟨[.str, .str],[.str],1,[],fun p => stringslite_TrimPrefix p.1 p.2⟩
def zr4 : Con tau := ⟨[.str, .str],[.str],1,[],fun p => strings_TrimPrefix p.1 p.2⟩
def zwn : Con tau := ⟨[.str, .str],[.bool],1,[],fun p => zjz p.1 p.2⟩
def zAj : Con tau := ⟨[.str, .sl (.st 1)],[.str, .bool],2,[],fun p => zm3 p.1 p.2⟩
def zBT : Con tau := ⟨[.st 44, .str, .str],[.st 45],1,[],fun p => zoM p.1 p.2.1 p.2.2⟩
def zi8 : Con tau := ⟨[.sl (.st 43), .sl (.st 43)],[.bool],1,[],fun p => zaO p.1 p.2⟩
def zAk : Con tau := ⟨[.st 44, .st 44],[.bool],1,[],fun p => zm4 p.1 p.2⟩
def zAl : Con tau := ⟨[.st 44],[.str, .int],2,[],zm5⟩
def zve : Con tau := ⟨[.str, .sl (.st 1)],[.str],1,[],fun p => zis p.1 p.2⟩
def zvf : Con tau := ⟨[.st 5, .sl (.st 21)],[.so 203 (.st 21)],1,[],fun p => zit p.1 p.2⟩
def zAm : Con tau := ⟨[.st 5, .st 32],[.st 33, .int],2,[],fun p => zm6 p.1 p.2⟩
def zxV : Con tau := ⟨[.str, .str],[.st 46],1,[],fun p => zcL p.1 p.2⟩
def zAn : Con tau := ⟨[.st 5, .st 32],[.so 338 (.st 46)],1,[],fun p => zm7 p.1 p.2⟩
def zAo : Con tau := ⟨[.st 2],[.so 9 .str],1,[],zm8⟩
def zAp : Con tau := ⟨[.sl (.st 2)],[.int],1,[],zm9⟩
def zxW : Con tau := ⟨[.st 26, .int],[.st 49],1,[],fun p => zkG p.1 p.2⟩
def zAq : Con tau := ⟨[.st 2],[.st 49],1,[],zna⟩
def zn8 : Con tau := ⟨[.po 48, .sl (.st 2)],[.po 48],0,[0],fun p => zdA p.1 p.2⟩
def zn9 : Con tau := ⟨[.po 48, .sl (.st 2)],[.po 48],0,[0],fun p => zdB p.1 p.2⟩
def zvg : Con tau := ⟨[.int, .sl (.st 2)],[.so 422 (.st 47), .int],2,[],fun p => ziu p.1 p.2⟩
def zpd : Con tau := ⟨[.pt 50, .st 47],[.bool],1,[],fun p => zeh p.1 p.2⟩
def zDh : Con tau := ⟨[.sl (.st 46), .str],[.str],1,[],fun p => zrN p.1 p.2⟩
def zBU : Con tau := ⟨[.str],[.str],1,[],zoN⟩
def zDi : Con tau := ⟨[.sl (.st 46), .sl (.st 21), .sl (.st 3)],[.str],1,[],fun p => zrO p.1 p.2.1 p.2.2⟩
def zpe : Con tau := ⟨[.pt 50, .sl (.st 3)],[.str],1,[],fun p => zco p.1 p.2⟩
def zt2 : Con tau := ⟨[.po 35, .str, .str],[.int, .po 35],1,[0],fun p => zhC p.1 p.2.1 p.2.2⟩
def zp4 : Con tau := ⟨[.po 50, .st 47],[.po 50],0,[0],fun p => zeE p.1 p.2⟩
def zpf : Con tau := ⟨[.po 50, .sl (.st 47)],[.po 50],0,[0],fun p => zei p.1 p.2⟩
def zAr : Con tau := ⟨[.sl (.st 46), .sl (.st 21), .sl (.st 47)],[.so 203 (.st 21)],1,[],fun p => znb p.1 p.2.1 p.2.2⟩
def zxX : Con tau := ⟨[.sl (.st 46), .sl (.st 21), .int, .sl (.st 2)],[.so 203 (.st 21), .int],2,[],fun p => zkI p.1 p.2.1 p.2.2.1 p.2.2.2⟩
def zAs : Con tau := ⟨[.sl .str],[.str],1,[],zk7⟩
def zxY : Con tau := ⟨[.str, .sl .str],[.str],1,[],fun p => zkJ p.1 p.2⟩
def zt3 : Con tau := ⟨[.po 35, .str, .str],[.po 35],0,[0],fun p => zdQ p.1 p.2.1 p.2.2⟩
def zBV : Con tau := ⟨[.st 12, .sl (.st 21)],[.so 203 (.st 21), .int],2,[],fun p => zoO p.1 p.2⟩
def zwo : Con tau := ⟨[.str],[.str],1,[],zjB⟩
def zwp : Con tau := ⟨[.st 5],[.so 338 (.st 46)],1,[],zjC⟩
def zyU : Con tau := ⟨[.str],[.str, .int],2,[],zl1⟩
def zxZ : Con tau := ⟨[.str],[.str, .int],2,[],zkK⟩
def zAt : Con tau := ⟨[.sl (.st 46)],[.str, .int],2,[],znc⟩
def zt4 : Con tau := ⟨[.st 5, .sl (.st 21)],[.so 203 (.st 21), .int],2,[],fun p => zhD p.1 p.2⟩
def zES : Con tau := ⟨[.str],[.bool],1,[],ztK⟩
def zBW : Con tau := ⟨[.str, .sl (.st 21)],[.so 203 (.st 21)],1,[],fun p => zoP p.1 p.2⟩
def zBX : Con tau := ⟨[.st 5, .int, .st 32],[.st 33, .int],2,[],fun p => zoQ p.1 p.2.1 p.2.2⟩
def zx0 : Con tau := ⟨[.st 34],[.so 203 (.st 21)],1,[],zkO⟩
def zyV : Con tau := ⟨[.st 5, .st 34, .st 32, .sl (.st 2)],[.st 33, .int],2,[],fun p => zhE p.1 p.2.1 p.2.2.1 p.2.2.2⟩
def zp5 : Con tau := ⟨[.st 51],[.int, .bool, .po 13],2,[32],zcV⟩
def zoa : Con tau := ⟨[.st 51],[.int, .int, .bool, .po 13],3,[32],zbP⟩
def zvh : Con tau := ⟨[.str],[.bool],1,[],zgr⟩
def zld : Con tau := ⟨[.u8],[.bool],1,[],zb6⟩
def zp6 : Con tau := ⟨[.st 51],[.int, .bool, .po 13],2,[32],zcW⟩
def zth : Con tau := ⟨[.str],[.st 33, .int],2,[],zgM⟩
def zt5 : Con tau := ⟨[.str],[.st 33, .int],2,[],zhF⟩
def zvi : Con tau := ⟨[.int, .str],[.st 33, .int],2,[],fun p => zdn p.1 p.2⟩
def zwq : Con tau := ⟨[.st 32],[.str, .int],2,[],zhb⟩
def zBY : Con tau := ⟨[.st 32],[.bool],1,[],zoR⟩
def zBZ : Con tau := ⟨[.st 32],[.int],1,[],zmk⟩
def zB0 : Con tau := ⟨[.st 32],[.int],1,[],zml⟩
def zDj : Con tau := ⟨[.int],[.po 52],1,[],zrP⟩
def zt6 : Con tau := ⟨[.pt 52],[.int],1,[],zhG⟩
def zti : Con tau := ⟨[.po 52, .sl .str],[.int, .po 52],1,[0],fun p => zgO p.1 p.2⟩
def zr5 : Con tau := ⟨[.po 52, .sl .str],[.int, .po 52],1,[0],fun p => zfY p.1 p.2⟩
def zq3 : Con tau := ⟨[.po 53, .str],[.po 53],0,[0],fun p => zb7 p.1 p.2⟩
def zwr : Con tau := ⟨[.st 21],[.str, .int],2,[],zhc⟩
def zt7 : Con tau := ⟨[.pt 52],[.str],1,[],zhH⟩
def zB1 : Con tau := ⟨[.st 32, .int],[.str, .int],2,[],fun p => ziK p.1 p.2⟩
def zob : Con tau := ⟨[.pt 17, .st 32],[.str, .st 34, .int],3,[],fun p => zdC p.1 p.2⟩
def zAu : Con tau := ⟨[.int],[.pn 23, .int],2,[],znd⟩
def zET : Con tau := ⟨[.st 34, .int],[.pn 22, .int],2,[],fun p => zqF p.1 p.2⟩
def zr6 : Con tau := ⟨[.pt 20],[.st 33, .bool],2,[],zcB⟩
def zws : Con tau := ⟨[.nil, .str],[.int, .str, .bool, .int],4,[],fun p => zhd p.2⟩
def zp7 : Con tau := ⟨[.nil],[.int],1,[],fun _ => zcZ⟩
def zr7 : Con tau := ⟨[.nil, .str],[.str, .int],2,[],fun p => zd2 p.2⟩
def zr8 : Con tau := ⟨[.nil],[.so 203 (.st 21)],1,[],fun _ => zbx⟩
def zr9 : Con tau := ⟨[.nil, .sl (.st 21)],[.str, .int],2,[],fun p => zby p.2⟩
def zB2 : Con tau := ⟨[.str, .sl .str],[.bool],1,[],fun p => zmm p.1 p.2⟩
def zDk : Con tau := ⟨[.st 32],[.bool],1,[],znY⟩
def zB3 : Con tau := ⟨[.st 32],[.st 19],1,[],zoS⟩
def zsa : Con tau := ⟨[.nil, .sl (.st 19)],[.int],1,[],fun p => zfZ p.2⟩
def zvj : Con tau := ⟨[.st 19],[.bool],1,[],zix⟩
def zep : Con tau := ⟨[.sl (.st 19), .fc 207],[.int],1,[],fun p => zI p.1⟩
def zx1 : Con tau := ⟨[.sl (.st 19)],[.bool],1,[],zkQ⟩
def zmL : Con tau := ⟨[.nil],[.so 203 (.st 21)],1,[],fun _ => zcN⟩
def zl4 : Con tau := ⟨[.pt 23],[.so 203 (.st 21)],1,[],zbR⟩
def zp8 : Con tau := ⟨[.pt 22],[.so 203 (.st 21)],1,[],zaV⟩
def zoc : Con tau := ⟨[.pt 24],[.int],1,[],zbS⟩
def zpg : Con tau := ⟨[.nil],[.int],1,[],fun _ => zcp⟩
def zwt : Con tau := ⟨[.sl (.st 21)],[.str, .int],2,[],zd3⟩
def zq4 : Con tau := ⟨[.nil, .sl (.st 21)],[.str, .int],2,[],fun p => zfe p.2⟩
def znv : Con tau := ⟨[.pt 25],[.int],1,[],zbG⟩
def zvk : Con tau := ⟨[.int],[.str],1,[],ziy⟩
def zwu : Con tau := ⟨[.int],[.str],1,[],zjD⟩
def zvl : Con tau := ⟨[.str],[.str],1,[],zdo⟩
def zq5 : Con tau := ⟨[.nil, .str],[.str, .int],2,[],fun p => zff p.2⟩
def zp9 : Con tau := ⟨[.nil, .str],[.int, .str, .bool, .int],4,[],fun p => zeG p.2⟩
def ztj : Con tau := ⟨[.nil],[.int],1,[],fun _ => zeH⟩
def zB4 : Con tau := ⟨[.int],[.st 55, .bool],2,[],zoT⟩
def zvm : Con tau := ⟨[.str, .int],[.bool],1,[],fun p => ziz p.1 p.2⟩
def zvn : Con tau := ⟨[.str, .st 32],[.st 34, .int],2,[],fun p => zgs p.1 p.2⟩
def zx2 : Con tau := ⟨[.str, .st 32],[.st 34, .int],2,[],fun p => zsm p.1 p.2⟩
def zyW : Con tau := ⟨[.st 54],[.bool],1,[],ztL⟩
def zx3 : Con tau := ⟨[.str, .st 54],[.int],1,[],fun p => zsn p.1 p.2⟩
def znw : Con tau := ⟨[.pn 25],[.int, .pn 25],1,[0],zfv⟩
def zph : Con tau := ⟨[.pn 25, .str],[.str, .int, .pn 25],2,[0],fun p => zj4 p.1 p.2⟩
def zpi : Con tau := ⟨[.pn 25, .sl (.st 21)],[.str, .int, .pn 25],2,[0],fun p => zj5 p.1 p.2⟩
def zAv : Con tau := ⟨[.int, .str, .sl (.st 21)],[.str, .int],2,[],fun p => zvE p.1 p.2.1 p.2.2⟩
def zx4 : Con tau := ⟨[.str, .st 54, .int, .int],[.str, .int],2,[],fun p => zso p.1 p.2.1 p.2.2.1 p.2.2.2⟩
def zB5 : Con tau := ⟨[.int],[.str],1,[],zs1⟩
def zq6 : Con tau := ⟨[.pt 18],[.int],1,[],zds⟩
def zmM : Con tau := ⟨[.po 17, .int],[.po 17],0,[0],fun p => zaJ p.1 p.2⟩
def zmq : Con tau := ⟨[.po 17, .sl .str],[.po 17],0,[0],fun p => zau p.1 p.2⟩
def zAw : Con tau := ⟨[.st 34, .int],[.pn 24, .int],2,[],fun p => zk9 p.1 p.2⟩
def zwv : Con tau := ⟨[.nil],[.bool],1,[],fun _ => zhe⟩
def zqa : Con tau := ⟨[.po 18, .sl (.st 19)],[.int, .po 18],1,[0],fun p => zeI p.1 p.2⟩
def zpj : Con tau := ⟨[.po 25, .sl (.st 21)],[.str, .int, .po 25],2,[0],fun p => zej p.1 p.2⟩
def zqb : Con tau := ⟨[.po 24, .sl (.st 21)],[.str, .int, .po 24],2,[0],fun p => zaW p.1 p.2⟩
def znx : Con tau := ⟨[.po 17],[.po 17],0,[0],zbH⟩
def zt8 : Con tau := ⟨[.pt 22],[.bool],1,[],zfw⟩
def zny : Con tau := ⟨[.po 17],[.po 17],0,[0],zc7⟩
def zt9 : Con tau := ⟨[.pt 20],[.bool],1,[],zhI⟩
def zpk : Con tau := ⟨[.po 13],[.str, .po 13],1,[0],zcq⟩
def zvo : Con tau := ⟨[.str],[.st 21, .int],2,[],zex⟩
def zB6 : Con tau := ⟨[.int, .str, .int],[.st 33, .int],2,[],fun p => zoU p.1 p.2.1 p.2.2⟩
def zsb : Con tau := ⟨[.po 20, .str],[.bool, .int, .po 20],2,[0],fun p => zf0 p.1 p.2⟩
def zsc : Con tau := ⟨[.po 20, .u8],[.bool, .int, .po 20],2,[0],fun p => zf1 p.1 p.2⟩
def zsd : Con tau := ⟨[.po 20, .str],[.int, .bool, .int, .po 20],3,[0],fun p => zd4 p.1 p.2⟩
def zpl : Con tau := ⟨[.po 25, .str],[.str, .int, .po 25],2,[0],fun p => zem p.1 p.2⟩
def zqc : Con tau := ⟨[.po 24, .str],[.str, .int, .po 24],2,[0],fun p => zc0 p.1 p.2⟩
def zod : Con tau := ⟨[.po 23, .str],[.str, .po 23],1,[0],fun p => zdD p.1 p.2⟩
def znz : Con tau := ⟨[.po 23, .u8],[.int, .po 23],1,[0],fun p => zdb p.1 p.2⟩
def zAx : Con tau := ⟨[.str, .int],[.int, .int],2,[],fun p => zng p.1 p.2⟩
def zx5 : Con tau := ⟨[.po 13],[.str, .bool, .po 13],2,[0],zkR⟩
def zqd : Con tau := ⟨[.st 56],[.st 43, .bool, .po 13],2,[32],zeJ⟩
def zvp : Con tau := ⟨[.str],[.int, .so 429 (.st 43), .int],3,[],ziA⟩
def zoe : Con tau := ⟨[.po 23, .str],[.int, .po 23],1,[0],fun p => zdE p.1 p.2⟩
def zmr : Con tau := ⟨[.po 23, .str],[.bool, .int, .po 23],2,[0],fun p => zcg p.1 p.2⟩
def znA : Con tau := ⟨[.po 23, .u8],[.bool, .int, .po 23],2,[0],fun p => zdc p.1 p.2⟩
def zof : Con tau := ⟨[.po 23, .str],[.int, .str, .bool, .int, .po 23],4,[0],fun p => zdF p.1 p.2⟩
def zog : Con tau := ⟨[.po 23, .str],[.int, .str, .bool, .int, .po 23],4,[0],fun p => zdG p.1 p.2⟩
def zua : Con tau := ⟨[.po 22, .str],[.int, .str, .bool, .int, .po 22],4,[0],fun p => zfx p.1 p.2⟩
def zms : Con tau := ⟨[.po 17, .str],[.int, .po 17],1,[0],fun p => zcj p.1 p.2⟩
def zoh : Con tau := ⟨[.po 17, .sl .str],[.po 17],0,[0],fun p => zab p.1 p.2⟩
def znB : Con tau := ⟨[.po 17],[.po 17],0,[0],zZ⟩
def zoi : Con tau := ⟨[.po 17, .int],[.po 17],0,[0],fun p => zaw p.1 p.2⟩
def zmN : Con tau := ⟨[.po 17],[.po 17],0,[0],zK⟩
def zmO : Con tau := ⟨[.po 17, .str],[.int, .int, .po 17],2,[0],fun p => zbo p.1 p.2⟩
def zl5 : Con tau := ⟨[.po 17],[.str, .po 17],1,[0],zbY⟩
def zle : Con tau := ⟨[.po 17],[.str, .po 17],1,[0],zbt⟩
def zub : Con tau := ⟨[.nil],[.int],1,[],fun _ => zhJ⟩
def zww : Con tau := ⟨[.nil],[.int],1,[],fun _ => zhf⟩
def zq7 : Con tau := ⟨[.nil],[.int],1,[],fun _ => zbh⟩
def zqe : Con tau := ⟨[.nil],[.int],1,[],fun _ => zeK⟩
def zoj : Con tau := ⟨[.pt 25],[.int],1,[],zdH⟩
def zpm : Con tau := ⟨[.pt 24],[.int],1,[],zaL⟩
def zqf : Con tau := ⟨[.nil],[.int],1,[],fun _ => zeL⟩
def zok : Con tau := ⟨[.pt 23],[.int],1,[],zdI⟩
def zuc : Con tau := ⟨[.pt 22],[.int],1,[],zfy⟩
def zse : Con tau := ⟨[.pt 20],[.int],1,[],zf2⟩
def ztk : Con tau := ⟨[.pt 28],[.int],1,[],zeM⟩
def zq8 : Con tau := ⟨[.pt 17],[.st 57],1,[],zfj⟩
def zud : Con tau := ⟨[.po 29],[.po 29],0,[0],zm⟩
def zq9 : Con tau := ⟨[.nil],[.st 19, .bool],2,[],fun _ => zfk⟩
def zAy : Con tau := ⟨[.st 34, .int],[.st 34],1,[],fun p => znh p.1 p.2⟩
def ztl : Con tau := ⟨[.pt 31],[.st 19, .bool],2,[],zgP⟩
def zpn : Con tau := ⟨[.pt 18],[.st 19, .bool],2,[],zen⟩
def ztm : Con tau := ⟨[.nil],[.bool],1,[],fun _ => zgQ⟩
def zmt : Con tau := ⟨[.po 17, .st 32, .st 19],[.int, .po 17],1,[0],fun p => zck p.1 p.2.1 p.2.2⟩
def zx6 : Con tau := ⟨[.st 32, .bool, .int],[.st 33],1,[],fun p => zkS p.1 p.2.1 p.2.2⟩
def zra : Con tau := ⟨[.po 18],[.bool, .po 18],1,[0],zfl⟩
def zl6 : Con tau := ⟨[.po 17],[.po 17],0,[0],zak⟩
def znC : Con tau := ⟨[.po 17, .st 32, .st 19],[.int, .po 17],1,[0],fun p => zdd p.1 p.2.1 p.2.2⟩
def zmu : Con tau := ⟨[.po 17],[.po 17],0,[0],zcl⟩
def zl7 : Con tau := ⟨[.po 17, .str],[.int, .po 17],1,[0],fun p => zbZ p.1 p.2⟩
def zl8 : Con tau := ⟨[.po 17, .str],[.int, .int, .po 17],2,[0],fun p => zr p.1 p.2⟩
def zx7 : Con tau := ⟨[.nil],[.bool, .int],2,[],fun _ => zkT⟩
def zvq : Con tau := ⟨[.po 22],[.bool, .int, .po 22],2,[0],ziB⟩
def zkm : Con tau := ⟨[.po 17],[.int, .po 17],1,[0],zn⟩
def zlv : Con tau := ⟨[.po 17],[.int, .po 17],1,[0],zaQ⟩
def zsf : Con tau := ⟨[.pn 29],[.int, .pn 29],1,[0],zf4⟩
def zsg : Con tau := ⟨[.pn 29],[.st 10, .pn 29],1,[0],zbz⟩
def zwx : Con tau := ⟨[.st 0, .st 4],[.bool],1,[],fun p => zjF p.1 p.2⟩
theorem zB7 : Tryz.prog.follows .mixedOrders = true := by kernel_rfl
theorem hNm : ∀ (f : FuncId) (fn : Func),Tryz.prog.funcs[f]? = some fn → (fn.name == "runtime.NumGoroutine") = false := zF8 (by kernel_rfl)
theorem heq1 : ∀ x y,G.eq 1 x y = eqD (G.fs 1) (G.dtor 1 x) (G.dtor 1 y) := fun ⟨a0,a1⟩ ⟨b0,b1⟩ => by
 show ((⟨a0,a1⟩ : zLK) == ⟨b0,b1⟩) = (a0 == b0 && a1 == b1)
 rw [Bool.eq_iff_iff]
 simp [zLK.mk.injEq]
theorem heq3 : ∀ x y,G.eq 3 x y = eqD (G.fs 3) (G.dtor 3 x) (G.dtor 3 y) := fun ⟨a0,a1⟩ ⟨b0,b1⟩ => by
 show ((⟨a0,a1⟩ : zLD) == ⟨b0,b1⟩) = (a0 == b0 && a1 == b1)
 rw [Bool.eq_iff_iff]
 simp [zLD.mk.injEq]
theorem heq4 : ∀ x y,G.eq 4 x y = eqD (G.fs 4) (G.dtor 4 x) (G.dtor 4 y) := fun ⟨a0,a1⟩ ⟨b0,b1⟩ => by
 show ((⟨a0,a1⟩ : zMH) == ⟨b0,b1⟩) = (a0 == b0 && a1 == b1)
 rw [Bool.eq_iff_iff]
 simp [zMH.mk.injEq]
theorem heq10 : ∀ x y,G.eq 10 x y = eqD (G.fs 10) (G.dtor 10 x) (G.dtor 10 y) := fun ⟨a0,a1,a2,a3,⟨a4,a5⟩,a6⟩ ⟨b0,b1,b2,b3,⟨b4,b5⟩,b6⟩ => by
 show ((⟨a0,a1,a2,a3,⟨a4,a5⟩,a6⟩ : zMu) == ⟨b0,b1,b2,b3,⟨b4,b5⟩,b6⟩) = (a0 == b0 && (a1 == b1 && (a2 == b2 && (a3 == b3 && (a4 == b4 && (a5 == b5 && (a6 == b6)))))))
 rw [Bool.eq_iff_iff]
 simp [zMu.mk.injEq,zME.mk.injEq,and_assoc]
theorem heq12 : ∀ x y,G.eq 12 x y = eqD (G.fs 12) (G.dtor 12 x) (G.dtor 12 y) := fun ⟨a0,a1,a2,a3⟩ ⟨b0,b1,b2,b3⟩ => by
 show ((⟨a0,a1,a2,a3⟩ : zL5) == ⟨b0,b1,b2,b3⟩) = (a0 == b0 && (a1 == b1 && (a2 == b2 && (a3 == b3))))
 rw [Bool.eq_iff_iff]
 simp [zL5.mk.injEq]
theorem heq15 : ∀ x y,G.eq 15 x y = eqD (G.fs 15) (G.dtor 15 x) (G.dtor 15 y) := fun ⟨a0,a1,a2⟩ ⟨b0,b1,b2⟩ => by
 show ((⟨a0,a1,a2⟩ : zL9) == ⟨b0,b1,b2⟩) = (a0 == b0 && (a1 == b1 && (a2 == b2)))
 rw [Bool.eq_iff_iff]
 simp [zL9.mk.injEq]
theorem heq19 : ∀ x y,G.eq 19 x y = eqD (G.fs 19) (G.dtor 19 x) (G.dtor 19 y) := fun ⟨a0,a1,a2⟩ ⟨b0,b1,b2⟩ => by
 show ((⟨a0,a1,a2⟩ : zLz) == ⟨b0,b1,b2⟩) = (a0 == b0 && (a1 == b1 && (a2 == b2)))
 rw [Bool.eq_iff_iff]
 simp [zLz.mk.injEq]
theorem heq21 : ∀ x y,G.eq 21 x y = eqD (G.fs 21) (G.dtor 21 x) (G.dtor 21 y) := fun ⟨a0,a1⟩ ⟨b0,b1⟩ => by
 show ((⟨a0,a1⟩ : zLo) == ⟨b0,b1⟩) = (a0 == b0 && a1 == b1)
 rw [Bool.eq_iff_iff]
 simp [zLo.mk.injEq]
theorem heq26 : ∀ x y,G.eq 26 x y = eqD (G.fs 26) (G.dtor 26 x) (G.dtor 26 y) := fun ⟨a0,a1,a2⟩ ⟨b0,b1,b2⟩ => by
 show ((⟨a0,a1,a2⟩ : zMc) == ⟨b0,b1,b2⟩) = (a0 == b0 && (a1 == b1 && (a2 == b2)))
 rw [Bool.eq_iff_iff]
 simp [zMc.mk.injEq]
theorem heq34 : ∀ x y,G.eq 34 x y = eqD (G.fs 34) (G.dtor 34 x) (G.dtor 34 y) := fun ⟨a0,a1⟩ ⟨b0,b1⟩ => by
 show ((⟨a0,a1⟩ : zLy) == ⟨b0,b1⟩) = (a0 == b0 && a1 == b1)
 rw [Bool.eq_iff_iff]
 simp [zLy.mk.injEq]
theorem heq43 : ∀ x y,G.eq 43 x y = eqD (G.fs 43) (G.dtor 43 x) (G.dtor 43 y) := fun ⟨a0,a1,a2⟩ ⟨b0,b1,b2⟩ => by
 show ((⟨a0,a1,a2⟩ : zL4) == ⟨b0,b1,b2⟩) = (a0 == b0 && (a1 == b1 && (a2 == b2)))
 rw [Bool.eq_iff_iff]
 simp [zL4.mk.injEq]
theorem heq46 : ∀ x y,G.eq 46 x y = eqD (G.fs 46) (G.dtor 46 x) (G.dtor 46 y) := fun ⟨a0,a1⟩ ⟨b0,b1⟩ => by
 show ((⟨a0,a1⟩ : zLV) == ⟨b0,b1⟩) = (a0 == b0 && a1 == b1)
 rw [Bool.eq_iff_iff]
 simp [zLV.mk.injEq]
theorem heq : ∀ n ∈ [1,3,4,10,12,15,19,21,26,34,43,46], ∀ x y,G.eq n x y = eqD (G.fs n) (G.dtor n x) (G.dtor n y) := by
 intro n hn
 simp only [List.mem_cons,List.not_mem_nil,or_false] at hn
 rcases hn with rfl | rfl | rfl | rfl | rfl | rfl | rfl | rfl | rfl | rfl | rfl | rfl
 ·exact heq1
 ·exact heq3
 ·exact heq4
 ·exact heq10
 ·exact heq12
 ·exact heq15
 ·exact heq19
 ·exact heq21
 ·exact heq26
 ·exact heq34
 ·exact heq43
 ·exact heq46
theorem tyk : ∀ cs n,TyOk (⟨Tryz.prog,G,tyl,cs,n,fun _ => .bool false⟩ : Cx tau) := zF9 [1,3,4,10,12,15,19,21,26,34,43,46] (by kernel_rfl) (by kernel_rfl) heq
theorem tyk0 : ∀ cs n,TyOk (⟨Tryz.prog,G0,tyl,cs,n,fun _ => .bool false⟩ : Cx tau) := zF9 [1,3,4,10,12,15,19,21,26,34,43,46] (by kernel_rfl) (by kernel_rfl) heq
theorem cqG {f : FuncId} {fn : Func} {k : Con tau} (C : CLs Tryz.prog G) (n : Nat) (h1 : Tryz.prog.funcs[f]? = some fn) (hn : Hn tau (DP tau k.rs)) (h2 : fnB fn n k = true := by kernel_rfl) (hF : zuR (⟨Tryz.prog,G,tyl,C.cs,n,fun _ => .bool false⟩ : Cx tau) k (bdyF fn) fn.results.toList hn := by unfold zuR; kernel_rfl) : COk Tryz.prog G f k := zF7 zB7 hNm tyk C n h1 h2 hF
abbrev zg : FuncId → Con tau → Prop := COk Tryz.prog G
theorem cqH {f : FuncId} {fn : Func} {k : Con tau} (C : CLs Tryz.prog G0) (n : Nat) (h1 : Tryz.prog.funcs[f]? = some fn) (hn : Hn tau (DP tau k.rs)) (h2 : fnB fn n k = true := by kernel_rfl) (hF : zuR (⟨Tryz.prog,G0,tyl,C.cs,n,fun _ => .bool false⟩ : Cx tau) k (bdyF fn) fn.results.toList hn := by unfold zuR; kernel_rfl) : COk Tryz.prog G0 f k := zF7 zB7 hNm tyk0 C n h1 h2 hF
abbrev zpo : FuncId → Con tau → Prop := COk Tryz.prog G0
theorem zD5 {w : World} (hG : zhK w) : zqG Tryz.prog G (fun b => w.heap[b]?) := ⟨fun p hp => (by cases hp),fun w' on => hG.same (zHZ on) fun g hg => by
 have hlt : g < w.heap.size := Nat.lt_of_lt_of_le hg hG.size
 rw [Array.getElem?_eq_getElem hlt]
 exact on g _ (Array.getElem?_eq_getElem hlt)⟩
end
end
end Go.Proofs
end
section
set_option linter.unusedVariables false
set_option maxRecDepth 10000
namespace Go.Proofs
open Go.Dk Go.Dm Go.RowKit Go.Rk
theorem zyv (p : DP tau [.st 0, .st 4]) (_ : rgXs G [.st 0, .st 4] p) : zjF p.1 p.2 = some true := zGb p.1 p.2
end Go.Proofs
end
section
set_option linter.unusedVariables false
set_option maxRecDepth 100000
namespace Go.Proofs
open Go.Dk Go.Dm Go.RowKit Go.Rk
noncomputable section
theorem zol : COk Tryz.prog G 33 zwg := zxt rfl ⟨_,Tryz.func33,by kernel_rfl,by kernel_rfl⟩ fun w h xs R ad c on gl hm hs hc => ziL xs R w (gl.2 w on).1 hs hc hm
theorem zkn : COk Tryz.prog G 34 zwh := zxt rfl ⟨_,Tryz.func34,by kernel_rfl,by kernel_rfl⟩ fun w h xs R ad c on gl hm hs hc => ziM xs R w (gl.2 w on).1 hs hc hm
theorem zjJ : COk Tryz.prog G 272 zu7 := zxt rfl ⟨_,Tryz.func272,by kernel_rfl,by kernel_rfl⟩ fun w h xs R ad c on gl hm hs hc => zhR xs R w (gl.2 w on).1 hs hc hm
theorem zrc : COk Tryz.prog G 109 zyD := zF5 ⟨_,Tryz.func109,by kernel_rfl,by kernel_rfl⟩ fun w h xs s R ad c on gl hm hs hc => zw1 xs s R w (gl.2 w on).1 (by rw [show cells zja xs = xs.map str from zEE xs]; exact hs) hc hm
theorem zf8 : COk Tryz.prog G 122 ztO := zfA rfl rfl rfl rfl ⟨_,Tryz.func122,by kernel_rfl,by kernel_rfl⟩ fun w h p r on gl hm => zsQ p.1 p.2 r w (gl.2 w on).1 hm
theorem zh9 : COk Tryz.prog G 161 zz2 := zfA rfl rfl rfl rfl ⟨_,Tryz.func161,by kernel_rfl,by kernel_rfl⟩ fun w h p r on gl hm => zyq p.1 p.2 r w (gl.2 w on).1 hm
theorem zd7 : COk Tryz.prog G 178 zyE := zfA rfl rfl rfl rfl ⟨_,Tryz.func178,by kernel_rfl,by kernel_rfl⟩ fun w h p r on gl hm => zw0 p.1 p.2 r w (gl.2 w on).1 hm
theorem ziC : COk Tryz.prog G 218 zxE := zF4 rfl rfl ⟨_,Tryz.func218,by kernel_rfl,by kernel_rfl⟩ fun w h p R on gl hm => by
 have := zv3 p.1 p.2 R w (gl.2 w on).1 hm
 rw [show zqH G .str R = cells zja R from rfl]
 exact this
theorem zlB : COk Tryz.prog G 223 zs6 := zfA rfl rfl rfl rfl ⟨_,Tryz.func223,by kernel_rfl,by kernel_rfl⟩ fun w h p r on gl hm => zrV p.1 p.2 r w (gl.2 w on) hm
theorem zbi : COk Tryz.prog G 225 zmo := zfA rfl rfl rfl rfl ⟨_,Tryz.func225,by kernel_rfl,by kernel_rfl⟩ fun w h p r on gl hm => zrU p.1 p.2 r w (gl.2 w on).1 hm
theorem zmv : COk Tryz.prog G 233 ztP := zfA rfl rfl rfl rfl ⟨_,Tryz.func233,by kernel_rfl,by kernel_rfl⟩ fun w h p r on gl hm => zsP p.1 p.2 r w (gl.2 w on).1 hm
theorem zlf : COk Tryz.prog G 244 zr0 := zfA rfl rfl rfl rfl ⟨_,Tryz.func244,by kernel_rfl,by kernel_rfl⟩ fun w h p r on gl hm => zqr p.1 p.2.1 p.2.2 r w (gl.2 w on).1 hm
theorem zpA : COk Tryz.prog G 250 zxF := zfA rfl rfl rfl rfl ⟨_,Tryz.func250,by kernel_rfl,by kernel_rfl⟩ fun w h p r on gl hm => zlp p.1 p.2 r w (gl.2 w on).1 hm
theorem zlC : COk Tryz.prog G 342 zs7 := zHW rfl rfl ⟨_,Tryz.func342,by kernel_rfl,by kernel_rfl⟩ fun w h xs i ys R ad ad2 c c2 F on gl hF hm hO => zH1 xs i ys R w hO hm
theorem zlD : COk Tryz.prog G 389 zs8 := zfA rfl rfl rfl rfl ⟨_,Tryz.func389,by kernel_rfl,by kernel_rfl⟩ fun w h p r on gl hm => zrW p.1 p.2 r w (gl.2 w on).1 hm
-- doorstep/octet.Lower
theorem znD : zpo 224 zo3 := cqH CLs.nil 12 Tryz.func224 .e
-- doorstep/octet.IsAlpha
theorem ziD : zpo 221 zqP := cqH (CLs.nil.add znD) 11 Tryz.func221 .e
-- doorstep/octet.IsDigit
theorem zgv : zpo 121 zqQ := cqH CLs.nil 9 Tryz.func121 .e
theorem ib0 (s : Str) (c : UInt8) (R : Int) (w0 : World) (hm : strings_IndexByte s c = some R) : Calls Tryz.prog 225 #[str s,zcO c] w0 fun e w' => e = .returned (int R) ∧ Below w0.heap.size w0 w' := by
 refine (Tryz.strings_IndexByte ⟨s.toArray⟩ c.toNat w0).mono fun e w' ⟨he,hw⟩ => ?_
 subst he hw
 refine ⟨?_,Below.refl _ _⟩
 unfold strings_IndexByte at hm
 rw [zvB] at hm
 cases hm
 simp
theorem zlE : COk Tryz.prog G0 225 zmo := zfA rfl rfl rfl rfl ⟨_,Tryz.func225,by kernel_rfl,by kernel_rfl⟩ fun w h p r on gl hm => ib0 p.1 p.2 r w hm
-- doorstep/octet.one
theorem zni : zpo 222 zxG := cqH (CLs.nil.add zlE) 9 Tryz.func222 .e
-- doorstep/octet.IsToken
theorem zwy : zpo 176 zqR := cqH (((CLs.nil.add zni).add zgv).add ziD) 13 Tryz.func176 .e
-- (doorstep/via.reader).by$1
theorem zuf : zpo 155 zn2 := cqH CLs.nil 5 Tryz.func155 .e
-- doorstep/octet.IsHex
theorem zyX : zpo 219 ztT := cqH ((CLs.nil.add znD).add zgv) 15 Tryz.func219 .e
-- doorstep/octet.IsVisible
theorem zjK : zpo 234 zn3 := cqH CLs.nil 9 Tryz.func234 .e
-- doorstep/octet.IsBlank
theorem zpB : zpo 235 zqU := cqH CLs.nil 9 Tryz.func235 .e
-- doorstep/octet.IsValue
theorem zpC : zpo 177 zqV := cqH ((CLs.nil.add zpB).add zjK) 13 Tryz.func177 .e
-- doorstep/uriref.scheme$1
theorem zug : zpo 287 zn4 := cqH ((CLs.nil.add zgv).add ziD) 21 Tryz.func287 .e
-- doorstep/tmpl.small
theorem zAC : zpo 369 zvG := cqH CLs.nil 9 Tryz.func369 .e
-- doorstep/tmpl.plain
theorem zAD : zpo 331 zvH := cqH (CLs.nil.add zpC) 9 Tryz.func331 .e
-- doorstep/cookie.part$1
theorem zwz : zpo 398 zq2 := cqH CLs.nil 3 Tryz.func398 .e
-- doorstep/cookie.plain
theorem zya : zpo 399 zsq := cqH ((CLs.nil.add zlE).add zjK) 10 Tryz.func399 .e
-- doorstep/startline.request$1
theorem zqg : zpo 294 zld := cqH CLs.nil 5 Tryz.func294 .e
-- doorstep/octet.IsUnreserved
theorem zlg : zpo 165 zlA := cqH (((CLs.nil.add zni).add zgv).add ziD) 13 Tryz.func165 .e
-- doorstep/octet.IsSub
theorem zsr : zpo 166 ztV := cqH (CLs.nil.add zni) 5 Tryz.func166 .e
-- doorstep/octet.IsPath
theorem zyb : zpo 288 zsp := cqH (((CLs.nil.add zni).add zsr).add zlg) 13 Tryz.func288 .e
theorem zqh : ∀ h,zqG Tryz.prog G0 h := fun h => ⟨fun p hp => (by cases hp),trivial⟩
theorem zqi : zzP Tryz.prog G0 := fun p hp => by cases hp
theorem fpok : zzP Tryz.prog G := zeR (zla (m := zaI) zqh zqi zgv) (zeR (zla (m := zes) zqh zqi zuf) (zeR (zla (m := zbv) zqh zqi zlg) (zeR (zla (m := zgZ) zqh zqi zsr) (zeR (zla (m := zeW) zqh zqi zwy) (zeR (zla (m := zan) zqh zqi zpC) (zeR (zla (m := zcT) zqh zqi zyX) (zeR (zla (m := zcF) zqh zqi ziD) (zeR (zla (m := zdm) zqh zqi zjK) (zeR (zla (m := zeY) zqh zqi zpB) (zeR (zla (m := zev) zqh zqi zug) (zeR (zla (m := zfP) zqh zqi zyb) (zeR (zla (m := zb6) zqh zqi zqg) (zeR (zla (m := zkk) zqh zqi zAD) (zeR (zla (m := zkj) zqh zqi zAC) (zeR (zla (m := zgC) zqh zqi zwz) (zeR (zla (m := zhB) zqh zqi zya) (fp_nil)))))))))))))))))
-- doorstep/doorsteplaw26.swap
theorem zuh : zg 44 zBG := cqG CLs.nil 18 Tryz.func44 .e
-- doorstep/doorsteplaw26.Few
theorem zvI : zg 25 zCW := cqG (CLs.nil.add zuh) 86 Tryz.func25 (.n 2 (.q (.n 1 (.w [(1, .po 5),(2, .po 7),(3, .po 6),(4, .int)] [] (fun m t => ze t.1 m t.2.2.1 t.2.2.2) fun n0 => .n 1 (.j [(1, .po 5),(2, .po 7),(3, .po 6),(4, .int)] [] (fun t => zh (ze t.1 n0) t.2.2.1 t.2.2.2) .e .e))) (.j [(1, .po 5),(2, .po 7),(5, .po 7)] [] (fun t => za t.1 t.2.2) .e (.q (.n 1 (.w [(1, .po 5),(2, .po 7),(5, .po 7),(6, .int)] [] (fun m t => zdu t.1 m t.2.2.1 t.2.2.2) fun n1 => .q (.j [(1, .po 5),(2, .po 7),(5, .po 7),(6, .int),(49, .bool)] [] (fun t => zlS (zdu t.1 n1) t.1 t.2.2.1 t.2.2.2.1 t.2.2.2.2) .e .e) .e)) (.q (.n 1 (.w [(1, .po 5),(2, .po 7),(5, .po 7),(7, .int)] [] (fun m t => zfK t.1 m t.2.2.1 t.2.2.2) fun n2 => .q (.j [(1, .po 5),(2, .po 7),(5, .po 7),(7, .int),(71, .bool)] [] (fun t => zlR (zfK t.1 n2) t.1 t.2.2.1 t.2.2.2.1 t.2.2.2.2) .e .e) .e)) .e)))))
-- doorstep/doorsteplaw29.Few
theorem zvJ : zg 26 zCX := cqG CLs.nil 46 Tryz.func26 (.n 2 (.q (.n 1 (.w [(0, .sl (.st 1)),(3, .so 98 (.st 1)),(4, .int)] [] (fun m t => zfL t.1 m t.2.1 t.2.2) fun n0 => .q (.j [(0, .sl (.st 1)),(3, .so 98 (.st 1)),(4, .int),(12, .bool)] [] (fun t => zlT (zfL t.1 n0) t.1 t.2.1 t.2.2.1 t.2.2.2) .e .e) .e)) .e))
-- doorstep/doorsteplaw39.Few
theorem zvK : zg 12 zCY := cqG ((CLs.nil.add zvJ).add zvI) 15 Tryz.func12 .e
-- doorstep/doorsteplaw31.Few
theorem zvL : zg 70 zCZ := cqG CLs.nil 38 Tryz.func70 (.n 2 (.q (.n 1 (.w [(0, .sl (.st 3)),(3, .so 102 (.st 3)),(4, .int)] [] (fun m t => zfM t.1 m t.2.1 t.2.2) fun n0 => .q (.j [(0, .sl (.st 3)),(3, .so 102 (.st 3)),(4, .int),(12, .bool)] [] (fun t => zlU (zfM t.1 n0) t.1 t.2.1 t.2.2.1 t.2.2.2) .e .e) .e)) .e))
-- doorstep/doorsteplaw32.Few
theorem zvM : zg 45 zC0 := cqG (CLs.nil.add zvL) 50 Tryz.func45 (.n 2 (.q (.n 1 (.w [(1, .po 2),(2, .po 8),(3, .po 6),(4, .int)] [] (fun m t => zf t.1 m t.2.2.1 t.2.2.2) fun n0 => .n 1 (.j [(1, .po 2),(2, .po 8),(3, .po 6),(4, .int)] [] (fun t => zi (zf t.1 n0) t.2.2.1 t.2.2.2) .e .e))) (.j [(1, .po 2),(2, .po 8),(3, .po 6)] [] (fun t => zjj t.1 t.2.2) .e (.j [(1, .po 2),(2, .po 8),(3, .po 6)] [] (fun t => zji t.1 t.2.2) .e (.j [(1, .po 2),(2, .po 8),(3, .po 6)] [] (fun t => zjh t.1 t.2.2) .e (.j [(1, .po 2),(2, .po 8)] [] (fun t => zfN t.1) .e .e))))))
-- doorstep/doorsteplaw35.Few
theorem zvN : zg 27 zC1 := cqG (CLs.nil.add zvM) 24 Tryz.func27 (.n 2 (.q (.n 1 (.w [(0, .sl (.st 2)),(3, .so 81 (.st 2)),(4, .int)] [] (fun m t => zfO t.1 m t.2.1 t.2.2) fun n0 => .q (.j [(0, .sl (.st 2)),(3, .so 81 (.st 2)),(4, .int),(12, .bool)] [] (fun t => zlV (zfO t.1 n0) t.1 t.2.1 t.2.2.1 t.2.2.2) .e .e) .e)) .e))
-- doorstep/doorsteplaw40.Few
theorem zvO : zg 13 zC2 := cqG (CLs.nil.add zvN) 31 Tryz.func13 (.n 2 (.q (.n 1 (.w [(3, .so 81 (.st 2)),(4, .int)] [] (fun m t => zjk m t.1 t.2) fun n0 => .e)) .e))
-- doorstep/doorsteplaw46.Few
theorem zvP : zg 5 zC3 := cqG ((CLs.nil.add zvO).add zvK) 36 Tryz.func5 .e
-- (*doorstep/wire.Wire).Do
theorem zyc : zg 6 zyF := cqG CLs.nil 50 Tryz.func6 .e
-- (*doorstep/wire.Wire).Left
theorem zvs : zg 7 zwi := cqG CLs.nil 16 Tryz.func7 .e
-- (*doorstep/wire.Wire).Finish
theorem zto : zg 8 ztQ := cqG CLs.nil 45 Tryz.func8 .e
-- (*doorstep/wire.Wire).Result
theorem ztp : zg 9 ztR := cqG CLs.nil 38 Tryz.func9 .e
-- doorstep/quill.Join
theorem zba : zg 72 zBH := cqG (CLs.nil.add zrc) 8 Tryz.func72 .e
-- doorstep/scan.New
theorem ze5 : zg 110 zEN := cqG CLs.nil 6 Tryz.func110 .e
-- doorstep/octet.Lower
theorem zkU : zg 224 zo3 := cqG CLs.nil 12 Tryz.func224 .e
-- doorstep/octet.IsAlpha
theorem zgw : zg 221 zqP := cqG (CLs.nil.add zkU) 11 Tryz.func221 .e
-- doorstep/octet.IsDigit
theorem zdp : zg 121 zqQ := cqG CLs.nil 9 Tryz.func121 .e
-- doorstep/octet.one
theorem zlh : zg 222 zxG := cqG (CLs.nil.add zbi) 9 Tryz.func222 .e
-- doorstep/octet.IsToken
theorem zwA : zg 176 zqR := cqG (((CLs.nil.add zlh).add zdp).add zgw) 13 Tryz.func176 .e
-- (*doorstep/scan.Scanner).At
theorem zdf : zg 214 zu8 := cqG CLs.nil 9 Tryz.func214 .e
-- (*doorstep/scan.Scanner).Rest
theorem zb8 : zg 158 zs9 := cqG CLs.nil 14 Tryz.func158 .e
-- (*doorstep/scan.Scanner).End
theorem zax : zg 156 ztS := cqG (CLs.nil.add zb8) 6 Tryz.func156 .e
-- (*doorstep/scan.Scanner).Peek
theorem zbj : zg 153 zta := cqG (CLs.nil.add zax) 15 Tryz.func153 .e
-- (*doorstep/scan.Scanner).While
theorem zL : zg 154 zpZ := cqG ((CLs.nil.add zbj).add zdf) 42 Tryz.func154 (.n 2 (.q (.w [(9000, .po 13),(1, .fn),(5, .int)] [(0,9000)] (fun m t => zbE t.2.1 t.2.2 m t.1) fun n0 => .e) .e))
-- (*doorstep/scan.Scanner).Token
theorem zad : zg 152 zp0 := cqG (CLs.nil.add zL) 10 Tryz.func152 .e
-- (*doorstep/scan.Scanner).Byte
theorem zx : zg 112 zqS := cqG (CLs.nil.add zbj) 26 Tryz.func112 .e
-- (doorstep/via.reader).protocol
theorem ziT : zg 111 zo4 := cqG ((CLs.nil.add zx).add zad) 37 Tryz.func111 (.n 3 (.j [(9001, .po 12),(9032, .po 13),(6, .bool)] [] (fun t => zcG t.1 t.2.1 t.2.2) (.j [(9001, .po 12),(2, .po 14),(5, .str),(6, .bool),(22, .bool)] [(9032,100002),(1,9001)] (fun t => zcH t.1 t.2.1 t.2.2.1 t.2.2.2.1 t.2.2.2.2) .e .e) .e))
-- (doorstep/via.reader).by$1
theorem zui : zg 155 zn2 := cqG CLs.nil 5 Tryz.func155 .e
-- doorstep/octet.All
theorem za8 : zg 168 zC4 := cqG CLs.nil 27 Tryz.func168 (.n 1 (.q (.n 1 (.w [(0, .fn),(8, .sl .str),(9, .int),(10, .int)] [] (fun m t => zhq t.1 t.2.1 t.2.2.1 m t.2.2.2) fun n0 => .n 2 (.q (.n 2 (.w [(0, .fn),(6, .str),(8, .sl .str),(9, .int),(10, .int),(15, .int),(16, .int)] [] (fun m t => zjl (zhq t.1 t.2.2.1 t.2.2.2.1 n0) t.1 t.2.1 t.2.2.2.2.1 t.2.2.2.2.2.1 m t.2.2.2.2.2.2) fun n1 => .e)) .e))) .e))
-- doorstep/numeral.worth
theorem zpD : zg 169 zxH := cqG ((CLs.nil.add zkU).add zdp) 13 Tryz.func169 .e
-- doorstep/numeral.read
theorem zmw : zg 120 zyG := cqG ((CLs.nil.add zpD).add za8) 50 Tryz.func120 (.n 3 (.q (.n 1 (.w [(0, .str),(1, .int),(2, .int),(10, .int),(23, .int),(24, .int)] [] (fun m t => zgn t.1 t.2.1 t.2.2.1 t.2.2.2.2.1 m t.2.2.2.1 t.2.2.2.2.2) fun n0 => .e)) .e))
-- doorstep/numeral.Decimal
theorem zeS : zg 77 zu9 := cqG (CLs.nil.add zmw) 11 Tryz.func77 .e
-- doorstep/numeral.text
theorem zmx : zg 167 zyH := cqG (CLs.nil.add zlB) 10 Tryz.func167 .e
-- doorstep/numeral.Text
theorem zd8 : zg 119 zyI := cqG (CLs.nil.add zmx) 5 Tryz.func119 .e
-- doorstep/hostport.small
theorem zko : zg 76 zpz := cqG ((CLs.nil.add zd8).add zeS) 21 Tryz.func76 .e
theorem zdq : COk Tryz.prog G 116 zxD := zfA rfl rfl rfl rfl ⟨_,Tryz.func116,by kernel_rfl,by kernel_rfl⟩ fun w h p r on gl hm => by
 have hm : za9 p = some r := hm
 unfold za9 at hm
 split at hm
 ·rename_i hs
  obtain ⟨bs,hbs,hm⟩ := ob hm
  cases hm
  exact zH3 (fun x => zcS x 255) (fun x b W hG h => zxu (k := zpz) rfl rfl rfl rfl zko fpok (p := (x,(255 : Int))) (r := b) h (h := fun b => W.heap[b]?) (fun _ _ e => e) (zD5 hG)) p hs bs hbs w (gl.2 w on)
 ·cases hm
-- doorstep/octet.IsHex
theorem zyY : zg 219 ztT := cqG ((CLs.nil.add zkU).add zdp) 15 Tryz.func219 .e
-- doorstep/hostport.groups
theorem znj : zg 162 zva := cqG (((CLs.nil.add za8).add zdq).add ziC) 53 Tryz.func162 (.n 4 (.q (.n 1 (.w [(1, .bool),(5, .so 9 .str),(6, .int),(14, .int),(15, .int)] [(13,5)] (fun m t => zav t.1 t.2.1 t.2.2.2.1 m t.2.2.1 t.2.2.2.2) fun n0 => .n 2 (.q (.n 1 (.j [(1, .bool),(5, .so 9 .str),(6, .int),(8, .str),(14, .int),(15, .int),(20, .bool)] [(13,5)] (fun t => zdX (zav t.1 t.2.1 t.2.2.2.2.1 n0) t.2.2.1 t.2.2.2.1 t.2.2.2.2.2.1 t.2.2.2.2.2.2) .e (.q .e (.j [(1, .bool),(5, .so 9 .str),(6, .int),(14, .int),(15, .int),(35, .bool)] [(13,5)] (fun t => zdW (zav t.1 t.2.1 t.2.2.2.1 n0) t.2.2.1 t.2.2.2.2.1 t.2.2.2.2.2) .e .e)))) .e))) .e))
-- doorstep/hostport.Six
theorem zjL : zg 115 zyJ := cqG ((CLs.nil.add znj).add zh9) 35 Tryz.func115 .e
-- doorstep/hostport.percent
theorem zmy : zg 164 ztU := cqG (CLs.nil.add za8) 17 Tryz.func164 .e
-- doorstep/octet.IsUnreserved
theorem zhh : zg 165 zlA := cqG (((CLs.nil.add zlh).add zdp).add zgw) 13 Tryz.func165 .e
-- doorstep/octet.IsSub
theorem znE : zg 166 ztV := cqG (CLs.nil.add zlh) 5 Tryz.func166 .e
-- doorstep/hostport.Name
theorem ziE : zg 117 zxJ := cqG (((CLs.nil.add znE).add zhh).add zmy) 23 Tryz.func117 (.n 2 (.q (.w [(0, .str)] [] (fun m t => zcu m t) fun n0 => .e) .e))
-- doorstep/hostport.of
theorem zss : zg 74 zz3 := cqG (((CLs.nil.add ziE).add zdq).add zjL) 51 Tryz.func74 (.n 2 (.q (.j [(0, .str),(2, .po 15),(4, .po 15),(7, .bool)] [] (fun t => zfp t.1 t.2.2.1 t.2.2.2) .e .e) .e))
-- internal/bytealg.LastIndexByteString
theorem zfI : zg 118 zlu := cqG CLs.nil 19 Tryz.func118 (.n 1 (.q (.n 1 (.w [(0, .str),(1, .u8),(5, .int)] [] (fun m t => zaj t.1 t.2.1 m t.2.2) fun n0 => .e)) .e))
-- strings.LastIndexByte
theorem zfB : zg 75 zo5 := cqG (CLs.nil.add zfI) 8 Tryz.func75 .e
-- doorstep/hostport.Parse
theorem zcE : zg 50 zwj := cqG ((((CLs.nil.add zeS).add zko).add zfB).add zss) 49 Tryz.func50 .e
-- doorstep/octet.Token
theorem zdN : zg 124 zz4 := cqG (CLs.nil.add za8) 10 Tryz.func124 .e
-- strings.ContainsAny
theorem zcr : zg 79 zqT := cqG (CLs.nil.add zf8) 9 Tryz.func79 .e
-- (doorstep/via.reader).by
theorem znk : zg 113 zvb := cqG ((((CLs.nil.add zcr).add zdN).add zcE).add zL) 38 Tryz.func113 (.n 3 (.j [(9001, .po 12),(9032, .po 13),(4, .bool)] [] (fun t => zdY t.1 t.2.1 t.2.2) .e .e))
-- internal/stringslite.HasPrefix
theorem zdg : zg 279 zo6 := cqG CLs.nil 18 Tryz.func279 .e
-- internal/stringslite.CutPrefix
theorem ziU : zg 215 zo7 := cqG (CLs.nil.add zdg) 15 Tryz.func215 .e
-- strings.CutPrefix
theorem zfm : zg 157 ztb := cqG (CLs.nil.add ziU) 11 Tryz.func157 .e
-- internal/stringslite.HasSuffix
theorem zfC : zg 280 zo8 := cqG CLs.nil 21 Tryz.func280 .e
-- internal/stringslite.CutSuffix
theorem ziV : zg 216 zo9 := cqG (CLs.nil.add zfC) 18 Tryz.func216 .e
-- strings.CutSuffix
theorem zhT : zg 159 ztc := cqG (CLs.nil.add ziV) 11 Tryz.func159 .e
-- doorstep/octet.IsVisible
theorem zjM : zg 234 zn3 := cqG CLs.nil 9 Tryz.func234 .e
-- doorstep/octet.IsBlank
theorem zpE : zg 235 zqU := cqG CLs.nil 9 Tryz.func235 .e
-- doorstep/octet.IsValue
theorem ziF : zg 177 zqV := cqG ((CLs.nil.add zpE).add zjM) 13 Tryz.func177 .e
-- doorstep/via.balanced
theorem zrd : zg 160 zyK := cqG (CLs.nil.add za8) 41 Tryz.func160 (.n 2 (.q (.n 1 (.w [(0, .str),(3, .int),(4, .int)] [] (fun m t => zbq t.1 m t.2.1 t.2.2) fun n0 => .n 1 (.q (.j [(0, .str),(3, .int),(4, .int)] [] (fun t => zeu (zbq t.1 n0) t.1 t.2.1 t.2.2) .e .e) .e))) .e))
-- (doorstep/via.reader).comment
theorem zjN : zg 114 zp1 := cqG (((((CLs.nil.add zrd).add zhT).add zfm).add zb8).add zax) 40 Tryz.func114 (.n 5 (.j [(9001, .po 12),(9032, .po 13),(4, .bool)] [] (fun t => zaS t.1 t.2.1 t.2.2) .e .e))
-- doorstep/via.Parse
theorem zvQ : zg 73 zC5 := cqG (((((CLs.nil.add zjN).add znk).add zx).add ziT).add ze5) 30 Tryz.func73 .e
-- doorstep/via.Text
theorem ztq : zg 49 zEO := cqG ((CLs.nil.add zvQ).add zba) 44 Tryz.func49 (.n 2 (.j [(1, .po 12),(4, .so 9 .str)] [] (fun t => zmW t.1 t.2) .e (.j [(1, .po 12),(4, .so 9 .str)] [] (fun t => zmV t.1 t.2) .e .e)))
-- doorstep/domains.name
theorem zre : zg 78 zyL := cqG ((CLs.nil.add zdq).add ziE) 10 Tryz.func78 .e
-- doorstep/domains.Check
theorem zpF : zg 51 zxK := cqG ((CLs.nil.add zcr).add zre) 30 Tryz.func51 (.n 1 (.q (.n 1 (.w [(0, .sl (.st 1)),(5, .sl (.st 1)),(6, .int),(7, .int)] [] (fun m t => zfq t.1 t.2.1 t.2.2.1 m t.2.2.2) fun n0 => .e)) .e))
-- doorstep/uriref.scheme$1
theorem zuj : zg 287 zn4 := cqG ((CLs.nil.add zdp).add zgw) 21 Tryz.func287 .e
-- doorstep/uriref.scheme
theorem zpG : zg 229 zxL := cqG ((CLs.nil.add za8).add zgw) 17 Tryz.func229 .e
-- strings.HasPrefix
theorem zb9 : zg 230 ztd := cqG (CLs.nil.add zdg) 8 Tryz.func230 .e
-- doorstep/uriref.upto
theorem znF : zg 231 zz5 := cqG (CLs.nil.add zf8) 19 Tryz.func231 .e
-- doorstep/uriref.parts
theorem zrf : zg 174 zyM := cqG ((((CLs.nil.add znF).add zb9).add zpG).add zbi) 56 Tryz.func174 (.n 2 (.j [(0, .str),(2, .po 16),(3, .po 16)] [] (fun t => zim t.1 t.2.2) (.n 1 (.j [(0, .str),(2, .po 16),(3, .po 16),(4, .int),(14, .bool)] [] (fun t => zin t.1 t.2.2.1 t.2.2.2.1 t.2.2.2.2) .e .e)) (.j [(0, .str),(2, .po 16),(3, .po 16)] [] (fun t => zil t.1 t.2.2) .e (.n 1 (.j [(0, .str),(2, .po 16),(3, .po 16)] [] (fun t => zik t.1 t.2.2) .e (.j [(2, .po 16),(3, .po 16)] [] (fun t => zij t.2) .e .e))))))
-- doorstep/octet.IsPath
theorem zmz : zg 288 zsp := cqG (((CLs.nil.add zlh).add znE).add zhh) 13 Tryz.func288 .e
-- doorstep/uriref.bytes
theorem zrg : zg 232 zyN := cqG (((CLs.nil.add zbi).add zmz).add za8) 49 Tryz.func232 (.n 1 (.q (.n 1 (.w [(0, .str),(1, .str),(5, .int)] [] (fun m t => zcb t.1 t.2.1 m t.2.2) fun n0 => .n 1 (.q (.n 1 (.q .e (.j [(0, .str),(1, .str),(5, .int),(35, .bool)] [] (fun t => zio (zcb t.1 t.2.1 n0) t.2.2.1 t.2.2.2) .e .e))) .e))) .e))
-- doorstep/uriref.well
theorem zst : zg 175 zz6 := cqG ((((CLs.nil.add zb9).add zmv).add zrg).add znF) 63 Tryz.func175 .e
-- doorstep/uriref.Parse
theorem zrh : zg 123 zyO := cqG ((CLs.nil.add zst).add zrf) 12 Tryz.func123 .e
-- doorstep/location.is
theorem znG : zg 80 zz7 := cqG (CLs.nil.add zrh) 12 Tryz.func80 .e
-- doorstep/location.Check
theorem zom : zg 52 zwk := cqG (CLs.nil.add znG) 30 Tryz.func52 (.n 1 (.q (.n 1 (.w [(0, .sl (.st 1)),(5, .sl (.st 1)),(6, .int),(7, .int)] [] (fun m t => zeA t.1 t.2.1 t.2.2.1 m t.2.2.2) fun n0 => .e)) .e))
-- doorstep/stage.Check
theorem zsu : zg 29 zz8 := cqG ((((CLs.nil.add zom).add zpF).add zcE).add ztq) 54 Tryz.func29 (.n 2 (.q (.n 1 (.j [(1, .po 5),(6, .int),(30, .bool)] [] (fun t => zjq t.1 t.2.1 t.2.2) .e .e)) (.q (.j [(1, .po 5),(44, .bool)] [] (fun t => zg2 t.1 t.2) .e .e) .e)))
-- doorstep/enchunk.New
theorem zkV : zg 30 zz9 := cqG CLs.nil 13 Tryz.func30 .e
-- doorstep/pairing.New
theorem zyZ : zg 31 zAa := cqG CLs.nil 14 Tryz.func31 .e
-- doorstep/rule.Known
theorem zpp : zg 81 zBI := cqG CLs.nil 10 Tryz.func81 .e
-- doorstep/fieldline.Check
theorem zgR : zg 125 zvc := cqG (((CLs.nil.add zd7).add za8).add zdN) 22 Tryz.func125 .e
-- doorstep/rule.guard
theorem zuk : zg 82 zBJ := cqG ((CLs.nil.add zgR).add zdN) 35 Tryz.func82 (.n 1 (.q (.n 2 (.q .e (.j [(1, .po 26),(4, .int),(15, .bool)] [] (fun t => zkx t.1 t.2.1 t.2.2) .e .e))) .e))
-- doorstep/hop.names
theorem zri : zg 242 zC6 := cqG CLs.nil 2 Tryz.func242 .e
theorem zcP : COk Tryz.prog G 181 zBF := zfA rfl rfl rfl rfl ⟨_,Tryz.func181,by kernel_rfl,by kernel_rfl⟩ fun w h p r on gl hm => by
 have hm : (if List.length (α := UInt8) p < 4294967281 then List.mapM zbD p else none) = some r := hm
 split at hm
 ·rename_i hs
  exact zEy zbD ⟨List.toArray (α := UInt8) p⟩ r w (gl.2 w on).1 hs hm fun b c w hbc _ => zxu (k := zo3) rfl rfl rfl rfl znD zqi (p := b) (r := c) hbc (h := fun _ => none) (fun _ _ e => by cases e) (zqh _)
 ·cases hm
-- slices.Index[[]string,string]
theorem zfD : zg 243 zlc := cqG CLs.nil 19 Tryz.func243 (.n 1 (.q (.n 1 (.w [(0, .sl .str),(1, .str),(7, .int),(8, .int)] [] (fun m t => zah t.1 t.2.1 t.2.2.1 m t.2.2.2) fun n0 => .e)) .e))
-- slices.Contains[[]string,string]
theorem zG : zg 180 zjH := cqG (CLs.nil.add zfD) 9 Tryz.func180 .e
-- doorstep/hop.Fixed
theorem zvR : zg 179 zC7 := cqG (((CLs.nil.add zG).add zcP).add zri) 7 Tryz.func179 .e
-- doorstep/rule.Kept
theorem zvS : zg 126 zC8 := cqG (((CLs.nil.add zG).add zcP).add zvR) 13 Tryz.func126 .e
-- doorstep/rule.free
theorem zrj : zg 83 zC9 := cqG ((CLs.nil.add zvS).add zdN) 10 Tryz.func83 .e
-- doorstep/tmpl.Names
theorem zul : zg 182 zBK := cqG (CLs.nil.add zG) 29 Tryz.func182 (.n 2 (.q (.n 1 (.w [(3, .so 9 .str),(6, .sl (.st 3)),(7, .int),(8, .int)] [] (fun m t => zeZ t.2.1 t.2.2.1 m t.1 t.2.2.2) fun n0 => .n 2 (.q (.n 1 (.j [(3, .so 9 .str),(5, .po 3),(6, .sl (.st 3)),(7, .int),(8, .int),(21, .bool)] [] (fun t => zky (zeZ t.2.2.1 t.2.2.2.1 n0) t.1 t.2.1 t.2.2.2.2.1 t.2.2.2.2.2) .e .e)) .e))) .e))
-- doorstep/tmpl.small
theorem zAE : zg 369 zvG := cqG CLs.nil 9 Tryz.func369 .e
-- doorstep/tmpl.plain
theorem zAF : zg 331 zvH := cqG (CLs.nil.add ziF) 9 Tryz.func331 .e
-- (*doorstep/scan.Scanner).Text
theorem zgG : zg 328 zqW := cqG ((CLs.nil.add zb9).add zb8) 21 Tryz.func328 .e
-- (*doorstep/tmpl.reader).text
theorem zli : zg 329 zr1 := cqG CLs.nil 48 Tryz.func329 (.q (.n 1 (.j [(9000, .po 27),(1, .str),(4, .int),(23, .bool)] [(0,9000)] (fun t => zee t.1 t.2.1 t.2.2.1 t.2.2.2) .e .e)) .e)
-- (*doorstep/tmpl.reader).named
theorem zj6 : zg 330 zqX := cqG (((CLs.nil.add zL).add zad).add zx) 46 Tryz.func330 (.n 2 (.j [(9000, .po 27),(3, .po 3)] [(0,9000)] (fun t => zdw t.1 t.2) .e (.n 1 (.j [(9000, .po 27),(2, .bool)] [] (fun t => zdv t.1 t.2) .e .e))))
-- (*doorstep/tmpl.reader).step
theorem zlj : zg 292 zr2 := cqG ((((CLs.nil.add zL).add zj6).add zli).add zgG) 30 Tryz.func292 .e
-- doorstep/tmpl.Parse
theorem zum : zg 245 zBL := cqG (((CLs.nil.add zlj).add zax).add ze5) 28 Tryz.func245 (.n 2 (.q (.w [(4, .po 27)] [] (fun m t => zh1 m t) fun n0 => .e) .e))
-- slices.Equal[[]doorstep/api.Part,doorstep/api.Part]
theorem zd9 : zg 246 zi6 := cqG CLs.nil 26 Tryz.func246 (.n 2 (.q (.n 1 (.w [(0, .sl (.st 3)),(1, .sl (.st 3)),(12, .int),(13, .int)] [] (fun m t => zT t.1 t.2.1 t.2.2.1 m t.2.2.2) fun n0 => .e)) .e))
-- doorstep/tmpl.Text
theorem zvT : zg 183 zDa := cqG ((((CLs.nil.add zd9).add zum).add zba).add zlf) 57 Tryz.func183 (.n 2 (.q (.n 1 (.w [(0, .sl (.st 3)),(4, .so 9 .str),(10, .sl (.st 3)),(11, .int),(12, .int)] [] (fun m t => zdx t.1 t.2.2.1 t.2.2.2.1 m t.2.1 t.2.2.2.2) fun n0 => .n 2 (.j [(0, .sl (.st 3)),(4, .so 9 .str),(10, .sl (.st 3)),(11, .int),(12, .int)] [] (fun t => zht (zdx t.1 t.2.2.1 t.2.2.2.1 n0) t.2.1 t.2.2.2.2) .e .e))) .e))
-- doorstep/rule.parts
theorem zun : zg 127 zBM := cqG ((((CLs.nil.add zvT).add zG).add zul).add zpp) 31 Tryz.func127 (.n 1 (.j [(1, .sl (.st 3)),(5, .so 9 .str)] [] (fun t => zkz t.1 t.2) .e (.q (.n 1 (.w [(1, .sl (.st 3)),(5, .so 9 .str),(13, .so 9 .str),(14, .int),(15, .int)] [] (fun m t => zh2 t.1 t.2.1 t.2.2.1 t.2.2.2.1 m t.2.2.2.2) fun n0 => .e)) .e)))
-- doorstep/rule.act
theorem zyd : zg 84 zEP := cqG ((CLs.nil.add zrj).add zun) 41 Tryz.func84 (.n 1 (.q (.n 1 (.q (.q (.j [(1, .po 2)] [] (fun t => zm0 t) .e .e) .e) .e)) .e))
-- doorstep/rule.Check
theorem zuo : zg 53 zBN := cqG ((((CLs.nil.add zyd).add zrj).add zuk).add zpp) 24 Tryz.func53 .e
-- doorstep/check.Check
theorem znH : zg 32 zAb := cqG (CLs.nil.add zuo) 24 Tryz.func32 (.n 1 (.q (.n 1 (.w [(0, .sl (.st 2)),(7, .sl (.st 2)),(8, .int),(9, .int)] [] (fun m t => zg3 t.1 t.2.1 t.2.2.1 m t.2.2.2) fun n0 => .e)) .e))
-- doorstep/accum.New
theorem zvU : zg 54 zDb := cqG CLs.nil 24 Tryz.func54 (.n 1 (.q (.j [(0, .int),(1, .int),(19, .bool)] [] (fun t => zfS t.1 t.2.1 t.2.2) .e .e) .e))
-- doorstep/gateway.fresh
theorem ziG : zg 35 zxM := cqG (CLs.nil.add zvU) 15 Tryz.func35 .e
-- doorstep/gateway.New
theorem zy0 : zg 20 zAc := cqG (((((((CLs.nil.add ziG).add zkn).add zol).add znH).add zyZ).add zkV).add zsu) 106 Tryz.func20 (.n 2 (.j [(2, .sl (.st 2)),(3, .po 5),(4, .po 11),(10, .int)] [] (fun t => zjs t.1 t.2.1 t.2.2.1 t.2.2.2) .e (.j [(2, .sl (.st 2)),(3, .po 5),(4, .po 11),(10, .int),(11, .pn 18),(12, .int)] [] (fun t => zjr t.1 t.2.1 t.2.2.1 t.2.2.2.1 t.2.2.2.2.1 t.2.2.2.2.2) .e (.n 4 (.q (.n 1 (.w [(4, .po 11),(15, .po 17),(72, .sl (.st 2)),(73, .int),(74, .int)] [] (fun m t => zg5 t.1 t.2.2.1 t.2.2.2.1 m t.2.1 t.2.2.2.2) fun n0 => .e)) .e)))))
-- doorstep/wire.New
theorem zDn : zg 10 zEQ := cqG (CLs.nil.add zy0) 52 Tryz.func10 .e
-- (*doorstep/gateway.Gateway).Closed
theorem zia : zg 18 zn5 := cqG CLs.nil 11 Tryz.func18 .e
-- (*doorstep/accum.Accum).Empty
theorem zlF : zg 85 zte := cqG CLs.nil 12 Tryz.func85 .e
-- (*doorstep/accum.Accum).Empty
theorem zj7 : zg 85 zqY := cqG CLs.nil 12 Tryz.func85 .e
-- (*doorstep/gateway.side).idle
theorem zsh : zg 55 ztf := cqG ((CLs.nil.add zj7).add zlF) 15 Tryz.func55 .e
-- (*doorstep/pairing.Queue).Full
theorem zrk : zg 56 zr3 := cqG CLs.nil 12 Tryz.func56 .e
-- (*doorstep/pairing.row[doorstep/pairing.Ticket]).room
theorem ztr : zg 86 ztW := cqG CLs.nil 13 Tryz.func86 .e
-- (*doorstep/pairing.Queue).Full
theorem zpq : zg 56 zp2 := cqG (CLs.nil.add ztr) 12 Tryz.func56 .e
-- (*doorstep/gateway.Gateway).reads
theorem zon : zg 36 zpa := cqG (((CLs.nil.add zpq).add zrk).add zsh) 30 Tryz.func36 .e
-- (*doorstep/accum.Accum).Feed
theorem ziN : zg 57 ztX := cqG CLs.nil 72 Tryz.func57 .e
-- doorstep/reply.Code
theorem zup : zg 88 zBO := cqG CLs.nil 8 Tryz.func88 .e
-- (*doorstep/accum.Accum).Head
theorem zf9 : zg 89 ztY := cqG CLs.nil 25 Tryz.func89 .e
-- doorstep/bag.New
theorem zdS : zg 203 zGU := cqG (CLs.nil.add zjJ) 7 Tryz.func203 .e
-- (*doorstep/bag.Bag).List
theorem zbp : zg 259 zyP := cqG (CLs.nil.add zjJ) 10 Tryz.func259 .e
-- doorstep/octet.Same
theorem zcQ : zg 273 zBP := cqG (CLs.nil.add zcP) 10 Tryz.func273 .e
-- (*doorstep/bag.Bag).Values
theorem zdT : zg 204 zwl := cqG ((CLs.nil.add zcQ).add zbp) 26 Tryz.func204 (.n 2 (.q (.n 1 (.w [(1, .str),(5, .so 9 .str),(9, .so 203 (.st 21)),(10, .int),(11, .int)] [] (fun m t => zc5 t.1 t.2.2.1 t.2.2.2.1 m t.2.1 t.2.2.2.2) fun n0 => .e)) .e))
-- (*doorstep/scan.Scanner).Back
theorem zj8 : zg 395 zqZ := cqG (CLs.nil.add zdf) 19 Tryz.func395 .e
-- (*doorstep/commas.splitter).end
theorem zfE : zg 334 zpb := cqG ((CLs.nil.add zdf).add zd7) 36 Tryz.func334 (.j [(9000, .po 37)] [(0,9000)] (fun t => zcJ t) .e .e)
-- (*doorstep/commas.splitter).comment
theorem zgS : zg 371 zmp := cqG ((CLs.nil.add zx).add zbj) 52 Tryz.func371 (.n 1 (.q (.n 1 (.w [(9000, .po 37),(3, .int)] [(0,9000)] (fun m t => zE m t.1 t.2) fun n0 => .e)) .e))
-- doorstep/quoted.Read
theorem zlw : COk Tryz.prog G 372 zxN := ztM zB7 hNm tyk (((((CLs.nil.add zj8).add ziF).add zbj).add zx).add zdf) (.lf 394 (fnS Tryz.func394)) 41 60 Tryz.func372 (by kernel_rfl) (hn := .n 4 (.q (.w [(4, .int),(5, .po 38),(6, .bool)] [(9000,100005)] (fun m t => zcv t.1 m t.2.1 t.2.2) fun n0 => .q (.j [(4, .int),(5, .po 38),(6, .bool),(25, .bool)] [(9000,100005)] (fun t => zhv (zcv t.1 n0) t.1 t.2.1 t.2.2.1 t.2.2.2) .e .e) .e) .e)) (by unfold zuR opJ zxI; kernel_rfl)
-- (*doorstep/commas.splitter).step
theorem zib : zg 333 zn6 := cqG ((((((CLs.nil.add zlw).add zbj).add zgS).add zfE).add zx).add zdf) 55 Tryz.func333 .e
-- doorstep/commas.Split
theorem zmA : zg 297 zyQ := cqG ((((CLs.nil.add zfE).add zib).add zax).add ze5) 27 Tryz.func297 (.n 2 (.q (.w [(0, .str),(4, .po 37)] [] (fun m t => zgp t.1 m t.2) fun n0 => .e) .e))
-- doorstep/commas.Tokens
theorem ziH : zg 274 zxO := cqG ((CLs.nil.add zdN).add zmA) 40 Tryz.func274 (.n 2 (.q (.n 1 (.w [(4, .so 9 .str),(11, .sl .str),(12, .int),(13, .int)] [] (fun m t => zdP t.2.1 t.2.2.1 m t.1 t.2.2.2) fun n0 => .n 2 (.q (.n 3 (.q (.n 1 (.w [(4, .so 9 .str),(7, .so 9 .str),(11, .sl .str),(12, .int),(13, .int),(26, .int),(27, .int)] [(25,7)] (fun m t => zft (zdP t.2.2.1 t.2.2.2.1 n0) t.1 t.2.1 t.2.2.2.2.1 t.2.2.2.2.2.1 m t.2.2.2.2.2.2) fun n1 => .e)) .e)) .e))) .e))
-- (doorstep/length.reader).coding
theorem zjO : zg 252 zp3 := cqG ((CLs.nil.add zcQ).add ziH) 34 Tryz.func252 .e
-- (doorstep/length.reader).lengths
theorem ziW : zg 253 zpc := cqG ((CLs.nil.add zeS).add zmA) 60 Tryz.func253 (.n 2 (.q (.n 1 (.w [(9032, .po 35),(4, .po 34),(6, .int),(15, .sl .str),(16, .int),(17, .int)] [] (fun m t => zae t.1 t.2.2.2.1 t.2.2.2.2.1 m t.2.2.1 t.2.2.2.2.2) fun n0 => .n 2 (.q (.n 4 (.w [(9032, .po 35),(4, .po 34),(6, .int),(15, .sl .str),(16, .int),(17, .int),(29, .so 9 .str),(30, .int),(31, .int)] [] (fun m t => zU (zae t.1 t.2.2.2.1 t.2.2.2.2.1 n0) t.1 t.2.2.2.2.2.1 t.2.2.2.2.2.2.1 t.2.2.2.2.2.2.2.1 m t.2.2.1 t.2.2.2.2.2.2.2.2) fun n1 => .n 2 (.q (.n 2 (.q (.j [(9032, .po 35),(4, .po 34),(13, .int),(15, .sl .str),(16, .int),(17, .int),(29, .so 9 .str),(30, .int),(31, .int),(50, .bool)] [] (fun t => zbm (zU (zae t.1 t.2.2.2.1 t.2.2.2.2.1 n0) t.1 t.2.2.2.2.2.1 t.2.2.2.2.2.2.1 t.2.2.2.2.2.2.2.1 n1) t.1 t.2.2.1 t.2.2.2.2.2.2.2.2.1 t.2.2.2.2.2.2.2.2.2) .e .e) .e)) .e))) .e))) .e))
-- doorstep/length.of
theorem zrl : zg 187 zDc := cqG ((((CLs.nil.add ziW).add zjO).add zdT).add zdS) 51 Tryz.func187 (.n 3 (.q (.j [(1, .int),(4, .po 34),(6, .po 36),(7, .so 9 .str),(8, .so 9 .str),(21, .bool)] [] (fun t => zlZ t.1 t.2.2.1 t.2.2.2.1 t.2.2.2.2.1 t.2.2.2.2.2) .e .e) .e))
-- doorstep/length.Request
theorem zkp : zg 130 zwm := cqG (CLs.nil.add zrl) 8 Tryz.func130 .e
-- doorstep/hop.Nominated
theorem zpH : zg 299 zxP := cqG (((((CLs.nil.add zG).add zcP).add ziH).add zdT).add zdS) 47 Tryz.func299 (.n 2 (.q (.n 1 (.w [(3, .so 9 .str),(12, .so 9 .str),(13, .int),(14, .int)] [] (fun m t => zcx t.2.1 t.2.2.1 m t.1 t.2.2.2) fun n0 => .n 2 (.q (.n 3 (.w [(3, .so 9 .str),(12, .so 9 .str),(13, .int),(14, .int),(24, .so 9 .str),(25, .int),(26, .int)] [] (fun m t => zcw (zcx t.2.1 t.2.2.1 n0) t.2.2.2.1 t.2.2.2.2.1 t.2.2.2.2.2.1 m t.1 t.2.2.2.2.2.2) fun n1 => .n 2 (.q (.n 2 (.j [(3, .so 9 .str),(9, .str),(12, .so 9 .str),(13, .int),(14, .int),(24, .so 9 .str),(25, .int),(26, .int),(39, .bool)] [] (fun t => zhw (zcw (zcx t.2.2.1 t.2.2.2.1 n0) t.2.2.2.2.1 t.2.2.2.2.2.1 t.2.2.2.2.2.2.1 n1) t.1 t.2.1 t.2.2.2.2.2.2.2.1 t.2.2.2.2.2.2.2.2) .e .e)) .e))) .e))) .e))
-- doorstep/bag.one$1
theorem zvV : zg 374 zDd := cqG (CLs.nil.add zcQ) 7 Tryz.func374 .e
-- slices.IndexFunc[[]string,string]
theorem zea : zg 396 zi7 := cqG (CLs.nil.add zvV) 19 Tryz.func396 (.n 1 (.q (.n 1 (.w [(0, .sl .str),(1, .cl 374 (.pt 40)),(7, .int),(8, .int)] [] (fun m t => zD t.1 t.2.1 t.2.2.1 m t.2.2.2) fun n0 => .e)) .e))
-- slices.ContainsFunc[[]string,string]
theorem zdh : zg 373 zhS := cqG (CLs.nil.add zea) 9 Tryz.func373 .e
-- doorstep/bag.one
theorem zzq : zg 337 zGV := cqG (CLs.nil.add zdh) 8 Tryz.func337 .e
-- (*doorstep/bag.Bag).Remove$1
theorem ziO : zg 336 ztZ := cqG (CLs.nil.add zzq) 8 Tryz.func336 .e
-- slices.IndexFunc[[]doorstep/api.Field,doorstep/api.Field]
theorem zcs : zg 340 zgX := cqG (CLs.nil.add ziO) 19 Tryz.func340 (.n 1 (.q (.n 1 (.w [(0, .sl (.st 21)),(1, .cl 336 (.pt 39)),(7, .int),(8, .int)] [] (fun m t => zw t.1 t.2.1 t.2.2.1 m t.2.2.2) fun n0 => .e)) .e))
-- slices.DeleteFunc[[]doorstep/api.Field,doorstep/api.Field]
theorem zbL : zg 335 zf7 := cqG ((CLs.nil.add ziO).add zcs) 42 Tryz.func335 (.n 3 (.q (.n 1 (.w [(0, .so 203 (.st 21)),(1, .cl 336 (.pt 39)),(5, .int),(6, .int)] [] (fun m t => zq t.2.1 m t.1 t.2.2.1 t.2.2.2) fun n0 => .e)) .e))
-- (*doorstep/bag.Bag).Remove
theorem zga : zg 298 zt0 := cqG (CLs.nil.add zbL) 29 Tryz.func298 .e
-- doorstep/hop.Strip
theorem zvW : zg 254 zDe := cqG (((((CLs.nil.add zbp).add zga).add zri).add zpH).add zdS) 14 Tryz.func254 .e
-- doorstep/pathq.of
theorem zts : zg 354 zER := cqG (((CLs.nil.add za8).add zbi).add zmz) 49 Tryz.func354 (.n 1 (.q (.n 1 (.w [(0, .str),(1, .str),(5, .int)] [] (fun m t => zdM t.1 t.2.1 m t.2.2) fun n0 => .n 1 (.q (.n 1 (.q .e (.j [(0, .str),(1, .str),(5, .int),(25, .bool)] [] (fun t => zk3 (zdM t.1 t.2.1 n0) t.2.2.1 t.2.2.2) .e .e))) .e))) .e))
-- doorstep/pathq.Path
theorem zuq : zg 310 zBQ := cqG ((CLs.nil.add zts).add zb9) 9 Tryz.func310 .e
-- doorstep/pathq.Query
theorem zsv : zg 311 zAd := cqG (CLs.nil.add zts) 5 Tryz.func311 .e
-- doorstep/pathq.Cut
theorem zrm : zg 264 zDf := cqG (((CLs.nil.add zsv).add zuq).add zh9) 23 Tryz.func264 .e
-- doorstep/target.tail
theorem znI : zg 339 zAe := cqG (CLs.nil.add zrm) 32 Tryz.func339 (.n 4 (.j [(1, .str),(2, .po 41),(4, .po 41),(7, .bool)] [] (fun t => zjv t.1 t.2.1 t.2.2.2) .e (.n 1 (.j [(2, .po 41),(4, .po 41),(6, .int)] [] (fun t => zju t.1 t.2.2) .e .e))))
-- doorstep/target.absolute
theorem znl : zg 338 zvd := cqG (((((CLs.nil.add znI).add zcE).add zf8).add zcP).add zh9) 58 Tryz.func338 (.n 3 (.q (.j [(2, .po 41),(5, .str),(7, .po 41),(31, .bool)] [] (fun t => zd0 t.2.1 t.2.2.1 t.2.2.2) .e .e) (.n 1 (.j [(2, .po 41),(5, .str),(7, .po 41),(8, .int)] [] (fun t => zfU t.2.1 t.2.2.1 t.2.2.2) .e .e))))
-- doorstep/target.of
theorem zvX : zg 300 zDg := cqG (((CLs.nil.add znI).add znl).add zb9) 28 Tryz.func300 .e
-- doorstep/target.Parse
theorem zmB : zg 255 zyR := cqG ((CLs.nil.add zvX).add zcE) 37 Tryz.func255 (.n 1 (.q (.n 1 (.q (.n 1 (.q (.j [(4, .po 41),(6, .po 15),(23, .bool)] [] (fun t => zir t.2.1 t.2.2) .e .e) .e)) .e)) .e))
-- doorstep/pathq.Join
theorem zur : zg 301 zBR := cqG CLs.nil 14 Tryz.func301 .e
-- doorstep/target.Origin
theorem zpI : zg 256 zxQ := cqG (CLs.nil.add zur) 20 Tryz.func256 (.n 3 (.j [(1, .po 41),(3, .str)] [] (fun t => zhx t.1 t.2) .e .e))
-- doorstep/hostport.Text
theorem zpJ : zg 302 zxR := cqG (((CLs.nil.add zcE).add zba).add zd8) 41 Tryz.func302 (.n 2 (.j [(1, .po 15),(4, .so 9 .str)] [] (fun t => zhz t.1 t.2) .e (.j [(1, .po 15),(4, .so 9 .str)] [] (fun t => zhy t.1 t.2) .e .e)))
-- (*doorstep/bag.Bag).Put$1
theorem zpK : zg 341 zxS := cqG (CLs.nil.add zcQ) 8 Tryz.func341 .e
-- slices.IndexFunc[[]doorstep/api.Field,doorstep/api.Field]
theorem zb2 : zg 340 zgu := cqG (CLs.nil.add zpK) 19 Tryz.func340 (.n 1 (.q (.n 1 (.w [(0, .sl (.st 21)),(1, .cl 341 (.pt 40)),(7, .int),(8, .int)] [] (fun m t => zu t.1 t.2.1 t.2.2.1 m t.2.2.2) fun n0 => .e)) .e))
-- (*doorstep/bag.Bag).Get
theorem zkW : zg 304 zAf := cqG (CLs.nil.add zdT) 16 Tryz.func304 .e
-- (*doorstep/bag.Bag).Add
theorem zgx : zg 305 zxT := cqG CLs.nil 15 Tryz.func305 .e
-- (*doorstep/bag.Bag).Put
theorem zlx : zg 303 zxU := cqG ((((CLs.nil.add zlC).add zga).add zgx).add zb2) 40 Tryz.func303 .e
-- (*doorstep/stage.worker).host
theorem zj9 : zg 257 zq0 := cqG ((((CLs.nil.add zgx).add zkW).add zlx).add zpJ) 44 Tryz.func257 (.n 1 (.j [(9000, .po 42),(4, .po 5)] [(0,9000)] (fun t => zdz t.1 t.2) .e .e))
-- (*doorstep/stage.worker).done
theorem zgH : zg 260 zq1 := cqG (CLs.nil.add zbp) 17 Tryz.func260 .e
-- strings.HasSuffix
theorem zhU : zg 377 ztg := cqG (CLs.nil.add zfC) 8 Tryz.func377 .e
-- doorstep/uriref.Swap
theorem zsw : zg 343 zAg := cqG (((CLs.nil.add zbi).add zhU).add zfm) 49 Tryz.func343 (.n 1 (.q (.n 1 (.w [(0, .str),(10, .sl (.st 1)),(11, .int),(12, .int)] [] (fun m t => zd1 t.1 t.2.1 t.2.2.1 m t.2.2.2) fun n0 => .e)) .e))
-- doorstep/location.Rewrite
theorem zmC : zg 306 zt1 := cqG ((CLs.nil.add znG).add zsw) 27 Tryz.func306 .e
-- doorstep/cookie.part$1
theorem zwB : zg 398 zq2 := cqG CLs.nil 3 Tryz.func398 .e
-- doorstep/cookie.part
theorem zsx : zg 378 zAh := cqG (((((((CLs.nil.add za8).add zax).add zL).add zx).add zad).add ze5).add zd7) 45 Tryz.func378 (.n 4 (.j [(2, .po 43),(4, .po 13),(6, .bool),(7, .po 43)] [] (fun t => zjx t.2.1 t.2.2.1 t.2.2.2) .e .e))
-- doorstep/cookie.plain
theorem zye : zg 399 zsq := cqG ((CLs.nil.add zbi).add zjM) 10 Tryz.func399 .e
-- doorstep/cookie.value
theorem zrn : zg 379 zyS := cqG (((CLs.nil.add za8).add zhT).add zfm) 24 Tryz.func379 .e
-- doorstep/cookie.Parse
theorem zmD : zg 344 zyT := cqG (((CLs.nil.add zrn).add zsx).add ziC) 63 Tryz.func344 (.n 5 (.q (.n 1 (.w [(2, .po 45),(7, .po 45),(41, .sl .str),(42, .int),(43, .int)] [] (fun m t => zgq t.2.2.1 t.2.2.2.1 m t.2.1 t.2.2.2.2) fun n0 => .e)) .e))
-- doorstep/cookie.last
theorem znJ : zg 380 zAi := cqG (CLs.nil.add zcQ) 23 Tryz.func380 (.n 1 (.q (.n 1 (.w [(1, .str),(2, .po 44),(5, .int)] [] (fun m t => zg7 t.1 t.2.1 m t.2.2) fun n0 => .e)) .e))
-- doorstep/cookie.Get
theorem zus : zg 345 zBS := cqG (CLs.nil.add znJ) 18 Tryz.func345 .e
-- internal/stringslite.TrimPrefix
theorem zic : zg 400 zn7 := cqG (CLs.nil.add zdg) 13 Tryz.func400 .e
-- strings.TrimPrefix
theorem zlk : zg 381 zr4 := cqG (CLs.nil.add zic) 8 Tryz.func381 .e
-- doorstep/hostport.Under
theorem zoo : zg 382 zwn := cqG ((((CLs.nil.add zhU).add zcP).add zdq).add ziE) 36 Tryz.func382 .e
-- doorstep/domains.Map
theorem zsy : zg 346 zAj := cqG ((CLs.nil.add zoo).add zlk) 34 Tryz.func346 (.n 2 (.q (.n 1 (.w [(0, .str),(6, .str),(11, .sl (.st 1)),(12, .int),(13, .int)] [] (fun m t => zg8 t.1 t.2.1 t.2.2.1 t.2.2.2.1 m t.2.2.2.2) fun n0 => .e)) .e))
-- doorstep/cookie.Set
theorem zut : zg 348 zBT := cqG ((CLs.nil.add zcQ).add znJ) 55 Tryz.func348 (.n 3 (.q (.n 1 (.w [(1, .str),(2, .str),(6, .po 45),(7, .int),(8, .po 45),(20, .sl (.st 43)),(21, .int),(22, .int)] [] (fun m t => zcK t.1 t.2.1 t.2.2.2.1 t.2.2.2.2.2.1 t.2.2.2.2.2.2.1 m t.2.2.2.2.1 t.2.2.2.2.2.2.2) fun n0 => .n 2 (.j [(1, .str),(2, .str),(6, .po 45),(7, .int),(8, .po 45),(20, .sl (.st 43)),(21, .int),(22, .int)] [] (fun t => zkD (zcK t.1 t.2.1 t.2.2.2.1 t.2.2.2.2.2.1 t.2.2.2.2.2.2.1 n0) t.2.2.2.2.1 t.2.2.2.2.2.2.2) (.n 1 (.j [(1, .str),(2, .str),(6, .po 45),(7, .int),(8, .po 45),(10, .po 43),(20, .sl (.st 43)),(21, .int),(22, .int)] [] (fun t => zkE (zcK t.1 t.2.1 t.2.2.2.1 t.2.2.2.2.2.2.1 t.2.2.2.2.2.2.2.1 n0) t.2.2.2.2.1 t.2.2.2.2.2.1 t.2.2.2.2.2.2.2.2) .e .e)) .e))) (.j [(6, .po 45),(8, .po 45)] [] (fun t => zkF t.2) .e .e)))
-- slices.Equal[[]doorstep/api.Attr,doorstep/api.Attr]
theorem zeb : zg 401 zi8 := cqG CLs.nil 26 Tryz.func401 (.n 2 (.q (.n 1 (.w [(0, .sl (.st 43)),(1, .sl (.st 43)),(12, .int),(13, .int)] [] (fun m t => zW t.1 t.2.1 t.2.2.1 m t.2.2.2) fun n0 => .e)) .e))
-- doorstep/cookie.Same
theorem zsz : zg 383 zAk := cqG (CLs.nil.add zeb) 24 Tryz.func383 .e
-- doorstep/cookie.Text
theorem zsA : zg 347 zAl := cqG (((CLs.nil.add zsz).add zmD).add zba) 57 Tryz.func347 (.n 2 (.q (.n 1 (.w [(1, .po 44),(4, .so 9 .str),(18, .sl (.st 43)),(19, .int),(20, .int)] [] (fun m t => zfu t.1 t.2.2.1 t.2.2.2.1 m t.2.1 t.2.2.2.2) fun n0 => .e)) .e))
-- doorstep/domains.Rewrite
theorem znm : zg 307 zve := cqG (((((CLs.nil.add zsA).add zut).add zsy).add zus).add zmD) 45 Tryz.func307 .e
-- doorstep/location.Fields
theorem znn : zg 258 zvf := cqG (((CLs.nil.add znm).add zmC).add zcP) 46 Tryz.func258 (.n 2 (.q (.n 1 (.w [(2, .po 5),(5, .so 203 (.st 21)),(12, .int),(13, .int)] [(11,5)] (fun m t => zbw t.2.2.1 m t.1 t.2.1 t.2.2.2) fun n0 => .n 2 (.q (.n 2 (.j [(2, .po 5),(5, .so 203 (.st 21)),(6, .int),(7, .po 21),(12, .int),(13, .int),(20, .str),(21, .bool)] [(11,5)] (fun t => zfV (zbw t.2.2.2.2.1 n0) t.1 t.2.1 t.2.2.1 t.2.2.2.1 t.2.2.2.2.2.1 t.2.2.2.2.2.2.1 t.2.2.2.2.2.2.2) .e .e)) .e))) .e))
-- doorstep/stage.Strip
theorem zsB : zg 188 zAm := cqG ((((((((CLs.nil.add znn).add zbp).add zgH).add zj9).add zpI).add zmB).add zdS).add zvW) 68 Tryz.func188 .e
-- doorstep/stage.Known$1
theorem zpL : zg 263 zxV := cqG CLs.nil 8 Tryz.func263 .e
-- doorstep/stage.Known
theorem zsC : zg 190 zAn := cqG (((CLs.nil.add zd8).add zrm).add zpL) 59 Tryz.func190 .e
-- doorstep/rule.Writes
theorem zsD : zg 384 zAo := cqG (CLs.nil.add zcP) 18 Tryz.func384 .e
-- doorstep/compile.run
theorem zsE : zg 349 zAp := cqG (((CLs.nil.add zG).add zcP).add zsD) 38 Tryz.func349 (.n 3 (.q (.w [(0, .sl (.st 2)),(3, .po 26),(4, .int)] [] (fun m t => zcU t.1 t.2.1 m t.2.2) fun n0 => .q (.j [(0, .sl (.st 2)),(3, .po 26),(4, .int),(34, .bool)] [] (fun t => zg9 (zcU t.1 t.2.1 n0) t.2.2.1 t.2.2.2) .e .e) .e) .e))
-- doorstep/compile.guard
theorem zpM : zg 350 zxW := cqG CLs.nil 25 Tryz.func350 .e
-- doorstep/compile.Own
theorem zsF : zg 385 zAq := cqG (CLs.nil.add zkn) 34 Tryz.func385 .e
-- (*doorstep/compile.compiler).put
theorem zid : zg 351 zn8 := cqG (CLs.nil.add zsF) 24 Tryz.func351 (.n 1 (.w [(9000, .po 48),(6, .sl (.st 2)),(7, .int),(8, .int)] [(0,9000)] (fun m t => zbc t.2.1 t.2.2.1 m t.1 t.2.2.2) fun n0 => .e))
-- (*doorstep/compile.compiler).all
theorem zie : zg 308 zn9 := cqG (((CLs.nil.add zid).add zpM).add zsE) 38 Tryz.func308 (.w [(9000, .po 48),(1, .sl (.st 2))] [(0,9000)] (fun m t => z6 m t.1 t.2) fun n0 => .n 2 (.j [(9000, .po 48),(1, .sl (.st 2)),(4, .int)] [(0,9000)] (fun t => zce (z6 n0) t.1 t.2.1 t.2.2) .e .e))
-- doorstep/compile.Compile
theorem zno : zg 261 zvg := cqG ((CLs.nil.add zie).add znH) 50 Tryz.func261 (.n 1 (.q (.j [(0, .int),(1, .sl (.st 2)),(17, .bool)] [] (fun t => zfW t.1 t.2.1 t.2.2) .e .e) (.n 2 (.q (.n 1 (.w [(0, .int),(8, .so 81 (.st 2)),(26, .sl (.st 2)),(27, .int),(28, .int)] [] (fun m t => zcA t.1 t.2.2.1 t.2.2.2.1 m t.2.1 t.2.2.2.2) fun n0 => .e)) .e))))
-- (*doorstep/machine.machine).skips
theorem ziX : zg 352 zpd := cqG (CLs.nil.add zkW) 36 Tryz.func352 .e
-- doorstep/tmpl.find
theorem zvY : zg 404 zDh := cqG CLs.nil 20 Tryz.func404 (.n 1 (.q (.n 1 (.w [(1, .str),(7, .sl (.st 46)),(8, .int),(9, .int)] [] (fun m t => zjA t.1 t.2.1 t.2.2.1 m t.2.2.2) fun n0 => .e)) .e))
-- doorstep/tmpl.clean
theorem zuu : zg 405 zBU := cqG ((CLs.nil.add zd7).add ziF) 29 Tryz.func405 (.n 2 (.q (.n 1 (.w [(0, .str),(3, .so 5 .u8),(4, .int)] [] (fun m t => ze1 t.1 m t.2.1 t.2.2) fun n0 => .q (.j [(0, .str),(3, .so 5 .u8),(4, .int),(13, .bool)] [] (fun t => zkH (ze1 t.1 n0) t.1 t.2.1 t.2.2.1 t.2.2.2) .e .e) .e)) .e))
-- doorstep/tmpl.Eval
theorem zvZ : zg 402 zDi := cqG (((((CLs.nil.add zuu).add zba).add zkW).add zvY).add zdS) 56 Tryz.func402 (.n 3 (.q (.n 1 (.w [(0, .sl (.st 46)),(7, .po 35),(8, .so 9 .str),(15, .sl (.st 3)),(16, .int),(17, .int)] [] (fun m t => zeD t.1 t.2.1 t.2.2.2.1 t.2.2.2.2.1 m t.2.2.1 t.2.2.2.2.2) fun n0 => .e)) .e))
-- (*doorstep/machine.machine).value
theorem ziY : zg 386 zpe := cqG ((CLs.nil.add zvZ).add zbp) 16 Tryz.func386 .e
-- (*doorstep/bag.Bag).Rename
theorem zmE : zg 387 zt2 := cqG (CLs.nil.add zcQ) 41 Tryz.func387 (.n 3 (.q (.n 1 (.w [(9000, .po 35),(1, .str),(2, .str),(7, .int),(15, .int),(16, .int)] [(0,9000)] (fun m t => zb5 t.2.1 t.2.2.1 t.2.2.2.2.1 m t.1 t.2.2.2.1 t.2.2.2.2.2) fun n0 => .e)) .e))
-- (*doorstep/machine.machine).do
theorem zjP : zg 353 zp4 := cqG (((((CLs.nil.add zmE).add zlx).add zgx).add ziY).add zga) 55 Tryz.func353 .e
-- (*doorstep/machine.machine).run
theorem ziZ : zg 309 zpf := cqG ((CLs.nil.add zjP).add ziX) 41 Tryz.func309 (.n 1 (.w [(9000, .po 50),(1, .sl (.st 47)),(4, .int)] [(0,9000)] (fun m t => zaf t.2.1 m t.1 t.2.2) fun n0 => .n 1 (.j [(9000, .po 50),(1, .sl (.st 47)),(4, .int)] [(0,9000)] (fun t => zcM (zaf t.2.1 n0) t.1 t.2.2) .e .e)))
-- doorstep/machine.Run
theorem zsG : zg 262 zAr := cqG (((CLs.nil.add zbp).add ziZ).add zdS) 21 Tryz.func262 .e
-- doorstep/machine.Rules
theorem zpN : zg 189 zxX := cqG ((CLs.nil.add zsG).add zno) 25 Tryz.func189 .e
-- doorstep/commas.Join
theorem zsH : zg 388 zAs := cqG (CLs.nil.add zba) 5 Tryz.func388 .e
-- doorstep/commas.Append
theorem zpO : zg 355 zxY := cqG (((CLs.nil.add zlD).add zsH).add zd7) 22 Tryz.func355 .e
-- (*doorstep/bag.Bag).Behind
theorem zgb : zg 312 zt3 := cqG (((CLs.nil.add zgx).add zpO).add zcQ) 53 Tryz.func312 (.n 1 (.q (.n 1 (.w [(9000, .po 35),(1, .str),(2, .str),(6, .int)] [(0,9000)] (fun m t => zdr t.1 t.2.1 t.2.2.1 m t.2.2.2) fun n0 => .e)) .e))
-- doorstep/via.Append
theorem zuv : zg 265 zBV := cqG ((((CLs.nil.add zbp).add zgb).add zdS).add ztq) 24 Tryz.func265 .e
-- doorstep/forwarded.Node
theorem zop : zg 357 zwo := cqG ((CLs.nil.add zjL).add zdq) 13 Tryz.func357 .e
-- doorstep/forwarded.Make
theorem zoq : zg 314 zwp := cqG (CLs.nil.add zop) 28 Tryz.func314 (.n 2 (.j [(1, .po 5),(3, .so 338 (.st 46))] [] (fun t => zgL t.1 t.2) .e (.j [(3, .so 338 (.st 46))] [] (fun t => zgK t) .e .e)))
-- doorstep/quoted.Quote
theorem zro : zg 390 zyU := cqG (CLs.nil.add za8) 40 Tryz.func390 (.n 3 (.q (.n 1 (.w [(0, .str),(4, .so 5 .u8),(12, .int),(13, .int)] [] (fun m t => zcc t.1 t.2.2.1 m t.2.1 t.2.2.2) fun n0 => .n 2 (.q (.n 1 (.j [(0, .str),(4, .so 5 .u8),(5, .int),(12, .int),(13, .int)] [] (fun t => ziv (zcc t.1 t.2.2.2.1 n0) t.1 t.2.1 t.2.2.1 t.2.2.2.2) (.j [(0, .str),(4, .so 5 .u8),(5, .int),(12, .int),(13, .int),(25, .bool)] [] (fun t => ziw (zcc t.1 t.2.2.2.1 n0) t.1 t.2.1 t.2.2.1 t.2.2.2.2.1 t.2.2.2.2.2) .e .e) .e)) .e))) .e))
-- doorstep/quoted.Either
theorem zpP : zg 356 zxZ := cqG ((CLs.nil.add zro).add zdN) 11 Tryz.func356 .e
-- doorstep/params.Text
theorem zsI : zg 313 zAt := cqG (((CLs.nil.add zba).add zdN).add zpP) 43 Tryz.func313 (.n 2 (.q (.n 1 (.w [(4, .so 9 .str),(9, .sl (.st 46)),(10, .int),(11, .int)] [] (fun m t => zha t.2.1 t.2.2.1 m t.1 t.2.2.2) fun n0 => .e)) .e))
-- doorstep/forwarded.Append
theorem zmF : zg 266 zt4 := cqG (((((CLs.nil.add zbp).add zgb).add zdS).add zsI).add zoq) 25 Tryz.func266 .e
-- doorstep/xff.bare
theorem zyf : zg 315 zES := cqG ((CLs.nil.add zjL).add zdq) 9 Tryz.func315 .e
-- doorstep/xff.Append
theorem zuw : zg 267 zBW := cqG ((((CLs.nil.add zbp).add zgb).add zdS).add zyf) 16 Tryz.func267 (.n 1 (.j [(0, .str),(1, .sl (.st 21))] [] (fun t => zkL t.1 t.2) .e .e))
-- doorstep/stage.Sign
theorem zux : zg 191 zBX := cqG ((((((CLs.nil.add zgH).add zdS).add zuw).add zmF).add zuv).add zd8) 70 Tryz.func191 (.n 1 (.q (.j [(1, .int),(3, .po 5),(5, .po 32),(6, .po 33),(26, .bool)] [] (fun t => ze2 t.1 t.2.1 t.2.2.1 t.2.2.2.2) .e .e) (.n 1 (.j [(5, .po 32),(6, .po 33),(8, .so 203 (.st 21)),(9, .int)] [] (fun t => zkM t.1 t.2.2.1 t.2.2.2) (.j [(3, .po 5),(5, .po 32),(6, .po 33),(8, .so 203 (.st 21)),(9, .int),(46, .bool)] [] (fun t => zkN t.1 t.2.1 t.2.2.2.1 t.2.2.2.2.1 t.2.2.2.2.2) .e .e) .e))))
-- doorstep/length.Fields
theorem zpQ : zg 192 zx0 := cqG (CLs.nil.add zd8) 16 Tryz.func192 .e
-- doorstep/rewrite.Head
theorem zjQ : zg 131 zyV := cqG (((((CLs.nil.add zpQ).add zux).add zpN).add zsC).add zsB) 58 Tryz.func131 .e
-- (doorstep/startline.line).digit
theorem zjR : zg 370 zp5 := cqG (((CLs.nil.add zx).add zdp).add zbj) 26 Tryz.func370 .e
-- (doorstep/startline.line).version
theorem ze6 : zg 332 zoa := cqG (((CLs.nil.add zx).add zjR).add zgG) 36 Tryz.func332 .e
-- doorstep/startline.other
theorem zjS : zg 293 zvh := cqG (((CLs.nil.add zax).add ze6).add ze5) 30 Tryz.func293 .e
-- doorstep/startline.request$1
theorem zqj : zg 294 zld := cqG CLs.nil 5 Tryz.func294 .e
-- (doorstep/startline.line).minor
theorem zgc : zg 295 zp6 := cqG (CLs.nil.add ze6) 23 Tryz.func295 .e
-- doorstep/startline.request
theorem zlG : zg 247 zth := cqG (((((((((CLs.nil.add zax).add zmB).add zgc).add zL).add zx).add zad).add ze5).add zjS).add zfB) 84 Tryz.func247 .e
-- doorstep/startline.status
theorem zmG : zg 248 zt5 := cqG (((((((((CLs.nil.add za8).add zb8).add zeS).add zL).add zx).add zgc).add ze5).add zjS).add zh9) 84 Tryz.func248 .e
-- doorstep/startline.Parse
theorem zgT : zg 184 zvi := cqG (((CLs.nil.add zmG).add zlG).add zcr) 29 Tryz.func184 (.n 1 (.q (.j [(0, .int),(1, .str),(4, .po 33),(6, .bool)] [] (fun t => zfX t.1 t.2.1 t.2.2.2) .e .e) .e))
-- doorstep/startline.Text
theorem zkq : zg 195 zwq := cqG (((CLs.nil.add zgT).add zba).add zd8) 81 Tryz.func195 (.n 3 (.j [(1, .po 32),(5, .str)] [] (fun t => zgN t.1 t.2) .e (.n 2 (.j [(5, .str),(7, .int),(8, .bool)] [] (fun t => zbQ t.1 t.2.1 t.2.2) .e .e))))
-- doorstep/head.hosts
theorem zuy : zg 296 zBY := cqG (((CLs.nil.add zcE).add zdT).add zdS) 43 Tryz.func296 (.n 4 (.q (.n 1 (.w [(25, .so 9 .str),(26, .int),(27, .int)] [] (fun m t => ze3 t.1 t.2.1 m t.2.2) fun n0 => .n 2 (.q (.n 2 (.j [(25, .so 9 .str),(26, .int),(27, .int),(41, .bool)] [] (fun t => zkP (ze3 t.1 t.2.1 n0) t.2.2.1 t.2.2.2) .e .e)) .e))) .e))
-- doorstep/head.whole
theorem zpr : zg 251 zBZ := cqG (CLs.nil.add zuy) 12 Tryz.func251 .e
-- doorstep/head.Check
theorem zps : zg 193 zB0 := cqG (((CLs.nil.add zpr).add zgR).add zkq) 31 Tryz.func193 (.n 2 (.q (.n 1 (.w [(1, .po 32),(17, .sl (.st 21)),(18, .int),(19, .int)] [] (fun m t => zh5 t.1 t.2.1 t.2.2.1 m t.2.2.2) fun n0 => .e)) .e))
-- doorstep/quill.New
theorem zv0 : zg 194 zDj := cqG CLs.nil 7 Tryz.func194 .e
-- (*doorstep/quill.Quill).Left
theorem zmH : zg 358 zt6 := cqG CLs.nil 15 Tryz.func358 .e
-- (*doorstep/quill.Quill).Put
theorem zlH : zg 316 zti := cqG (CLs.nil.add zmH) 45 Tryz.func316 (.n 3 (.q (.n 1 (.w [(9000, .po 52),(1, .sl .str),(5, .int),(14, .sl .str),(15, .int),(16, .int)] [(0,9000)] (fun m t => zcY t.1 t.2.1 t.2.2.2.1 t.2.2.2.2.1 m t.2.2.1 t.2.2.2.2.2) fun n0 => .e)) (.q (.n 1 (.w [(9000, .po 52),(29, .sl .str),(30, .int),(31, .int)] [(0,9000)] (fun m t => zcX t.2.1 t.2.2.1 m t.1 t.2.2.2) fun n1 => .e)) .e)))
-- (*doorstep/quill.Quill).Line
theorem zll : zg 268 zr5 := cqG (CLs.nil.add zlH) 12 Tryz.func268 .e
-- (*doorstep/head.printer).line
theorem zka : zg 196 zq3 := cqG (CLs.nil.add zll) 21 Tryz.func196 .e
-- doorstep/fieldline.Text
theorem zkr : zg 197 zwr := cqG (CLs.nil.add zgR) 22 Tryz.func197 .e
-- (*doorstep/quill.Quill).Text
theorem zmI : zg 198 zt7 := cqG CLs.nil 10 Tryz.func198 .e
-- doorstep/head.Print
theorem zjT : zg 132 zB1 := cqG ((((((CLs.nil.add zmI).add zkr).add zka).add zkq).add zv0).add zps) 58 Tryz.func132 (.n 5 (.q (.n 1 (.w [(7, .po 53),(32, .sl (.st 21)),(33, .int),(34, .int)] [] (fun m t => zh6 t.2.1 t.2.2.1 m t.1 t.2.2.2) fun n0 => .e)) .e))
-- (*doorstep/gateway.Gateway).onward
theorem znK : zg 90 zob := cqG (((CLs.nil.add zjT).add zjQ).add zkp) 55 Tryz.func90 .e
-- doorstep/dechunk.New
theorem zsJ : zg 133 zAu := cqG CLs.nil 13 Tryz.func133 .e
-- doorstep/body.New
theorem ztt : zg 91 zET := cqG (CLs.nil.add zsJ) 65 Tryz.func91 (.n 1 (.j [(2, .po 34),(6, .pn 23),(7, .int)] [] (fun t => znf t.1 t.2.1 t.2.2) .e (.n 2 (.j [(2, .po 34),(8, .po 22)] [] (fun t => zne t.1 t.2) .e (.j [(8, .po 22)] [] (fun t => zk8 t) .e .e)))))
-- (*doorstep/accum.Accum).Head
theorem zeT : zg 89 zr6 := cqG CLs.nil 25 Tryz.func89 .e
-- (*doorstep/body.Body).Feed
theorem zks : zg 60 zws := cqG CLs.nil 87 Tryz.func60 .e
-- (*doorstep/reframe.Writer).ready
theorem zgd : zg 95 zp7 := cqG CLs.nil 11 Tryz.func95 .e
-- (*doorstep/reframe.Writer).Put
theorem zhi : zg 61 zr7 := cqG (CLs.nil.add zgd) 47 Tryz.func61 .e
-- (*doorstep/body.Body).Trailers
theorem zhj : zg 68 zr8 := cqG CLs.nil 10 Tryz.func68 .e
-- (*doorstep/reframe.Writer).End
theorem zhk : zg 67 zr9 := cqG (CLs.nil.add zgd) 43 Tryz.func67 .e
-- doorstep/commas.Has
theorem zuz : zg 205 zB2 := cqG ((CLs.nil.add zcQ).add ziH) 34 Tryz.func205 (.n 1 (.q (.n 1 (.w [(0, .str),(11, .sl .str),(12, .int),(13, .int)] [] (fun m t => zgD t.1 t.2.1 t.2.2.1 m t.2.2.2) fun n0 => .n 2 (.q (.n 3 (.w [(0, .str),(11, .sl .str),(12, .int),(13, .int),(23, .so 9 .str),(24, .int),(25, .int)] [] (fun m t => zh7 (zgD t.1 t.2.1 t.2.2.1 n0) t.1 t.2.2.2.1 t.2.2.2.2.1 t.2.2.2.2.2.1 m t.2.2.2.2.2.2) fun n1 => .e)) .e))) .e))
-- doorstep/hop.Close
theorem zrp : zg 137 zDk := cqG (((CLs.nil.add zuz).add zdT).add zdS) 16 Tryz.func137 .e
-- doorstep/pairing.Of
theorem zAG : zg 97 zB3 := cqG (CLs.nil.add zrp) 10 Tryz.func97 .e
-- (*doorstep/pairing.Queue).Push
theorem zrq : zg 98 zsa := cqG CLs.nil 44 Tryz.func98 .e
-- doorstep/pairing.early$1
theorem zuA : zg 207 zvj := cqG CLs.nil 5 Tryz.func207 .e
-- slices.IndexFunc[[]doorstep/pairing.Ticket,doorstep/pairing.Ticket]
theorem zec : zg 206 zep := cqG (CLs.nil.add zuA) 19 Tryz.func206 (.n 1 (.q (.n 1 (.w [(0, .sl (.st 19)),(1, .fc 207),(7, .int),(8, .int)] [] (fun m t => zA t.1 t.2.2.1 m t.2.2.2) fun n0 => .e)) .e))
-- doorstep/pairing.early
theorem zwC : zg 138 zx1 := cqG (CLs.nil.add zec) 15 Tryz.func138 .e
-- (*doorstep/dechunk.Decoder).Trailers
theorem zhl : zg 104 zmL := cqG CLs.nil 11 Tryz.func104 .e
-- (*doorstep/dechunk.Decoder).Trailers
theorem zgy : zg 104 zl4 := cqG CLs.nil 11 Tryz.func104 .e
-- (*doorstep/body.Body).Trailers
theorem zge : zg 68 zp8 := cqG ((CLs.nil.add zgy).add zhl) 10 Tryz.func68 .e
-- (*doorstep/reframe.Writer).ready
theorem ze7 : zg 95 zoc := cqG CLs.nil 11 Tryz.func95 .e
-- (*doorstep/enchunk.Encoder).ready
theorem zfF : zg 135 zpg := cqG CLs.nil 11 Tryz.func135 .e
-- doorstep/chunkline.Last
theorem zfG : zg 146 zwt := cqG ((CLs.nil.add zba).add zkr) 36 Tryz.func146 (.n 2 (.q (.n 1 (.w [(0, .sl (.st 21)),(4, .so 9 .str),(10, .sl (.st 21)),(11, .int),(12, .int)] [] (fun m t => zeF t.1 t.2.2.1 t.2.2.2.1 m t.2.1 t.2.2.2.2) fun n0 => .e)) .e))
-- (*doorstep/enchunk.Encoder).End
theorem zkb : zg 103 zq4 := cqG ((CLs.nil.add zfG).add zfF) 37 Tryz.func103 .e
-- (*doorstep/enchunk.Encoder).ready
theorem zeq : zg 135 znv := cqG CLs.nil 11 Tryz.func135 .e
-- doorstep/numeral.HexText
theorem znp : zg 271 zvk := cqG (CLs.nil.add zmx) 5 Tryz.func271 .e
-- doorstep/chunkline.Text
theorem zor : zg 202 zwu := cqG (CLs.nil.add znp) 5 Tryz.func202 .e
-- doorstep/chunkline.Piece
theorem zeU : zg 136 zvl := cqG ((CLs.nil.add zba).add zor) 11 Tryz.func136 .e
-- (*doorstep/enchunk.Encoder).Put
theorem zkc : zg 96 zq5 := cqG (CLs.nil.add zfF) 58 Tryz.func96 .e
-- (*doorstep/dechunk.Decoder).Feed
theorem zjU : zg 94 zp9 := cqG CLs.nil 63 Tryz.func94 .e
-- (*doorstep/pairing.Queue).Len
theorem zlI : zg 39 ztj := cqG CLs.nil 11 Tryz.func39 .e
-- doorstep/reply.Make
theorem zuB : COk Tryz.prog G 140 zB4 := ztM zB7 hNm tyk CLs.nil (.lf 208 (fnS Tryz.func208)) 27 60 Tryz.func140 (by kernel_rfl) (hn := .e) (by unfold zuR opJ zxI; kernel_rfl)
-- doorstep/length.bodiless
theorem znq : zg 211 zvm := cqG CLs.nil 27 Tryz.func211 .e
-- doorstep/length.Response
theorem zjV : zg 143 zvn := cqG ((CLs.nil.add zrl).add znq) 15 Tryz.func143 .e
-- doorstep/message.frame
theorem zpR : zg 275 zx2 := cqG ((CLs.nil.add zjV).add zkp) 18 Tryz.func275 .e
-- doorstep/message.fits
theorem zrr : zg 276 zyW := cqG CLs.nil 38 Tryz.func276 .e
-- doorstep/message.Check
theorem zpS : zg 209 zx3 := cqG ((((CLs.nil.add zfG).add zrr).add zpR).add zps) 42 Tryz.func209 .e
-- (*doorstep/enchunk.Encoder).ready
theorem zer : zg 135 znw := cqG CLs.nil 11 Tryz.func135 .e
-- (*doorstep/enchunk.Encoder).Put
theorem zi0 : zg 96 zph := cqG (((CLs.nil.add zba).add zeU).add zer) 58 Tryz.func96 (.n 4 (.q (.w [(9000, .po 25),(7, .so 9 .str)] [(0,9000)] (fun m t => ze4 m t.1 t.2) fun n0 => .e) .e))
-- (*doorstep/enchunk.Encoder).End
theorem zi1 : zg 103 zpi := cqG (((CLs.nil.add zeU).add zfG).add zer) 37 Tryz.func103 .e
-- doorstep/enchunk.All
theorem zsK : zg 210 zAv := cqG (((((CLs.nil.add zi1).add zi0).add zkb).add zkc).add zkV) 39 Tryz.func210 (.n 1 (.j [(1, .str),(2, .sl (.st 21)),(8, .pn 25),(9, .int)] [] (fun t => zmn t.1 t.2.1 t.2.2.1 t.2.2.2) .e .e))
-- doorstep/message.Print
theorem zpT : zg 141 zx4 := cqG (((CLs.nil.add zsK).add zjT).add zpS) 51 Tryz.func141 (.n 5 (.j [(11, .str),(12, .int),(13, .str)] [] (fun t => zkl t.1 t.2.1 t.2.2) .e .e))
-- doorstep/reply.Text
theorem zuC : zg 99 zB5 := cqG ((CLs.nil.add zpT).add zuB) 20 Tryz.func99 .e
-- (*doorstep/pairing.Queue).Len
theorem zkd : zg 39 zq6 := cqG CLs.nil 11 Tryz.func39 .e
-- (*doorstep/gateway.Gateway).refuse
theorem zhm : zg 58 zmM := cqG (CLs.nil.add zup) 16 Tryz.func58 .e
-- (*doorstep/gateway.Gateway).forward
theorem zdJ : zg 62 zmq := cqG CLs.nil 22 Tryz.func62 (.n 1 (.w [(9000, .po 17),(6, .sl .str),(7, .int),(8, .int)] [(0,9000)] (fun m t => zay t.2.1 t.2.2.1 m t.1 t.2.2.2) fun n0 => .e))
-- doorstep/reframe.New
theorem znL : zg 92 zAw := cqG (CLs.nil.add zkV) 50 Tryz.func92 (.n 1 (.j [(2, .po 34),(6, .pn 25),(7, .int)] [] (fun t => zjE t.1 t.2.1 t.2.2) .e .e))
-- (*doorstep/body.Body).Done
theorem zkt : zg 93 zwv := cqG CLs.nil 11 Tryz.func93 .e
-- (*doorstep/pairing.Queue).Push
theorem zpt : COk Tryz.prog G 98 zqa := ztM zB7 hNm tyk (CLs.nil.add zwC) (.nd 139 (.lf 86 (fnS Tryz.func86)) (.lf 139 (fnS Tryz.func139))) 44 60 Tryz.func98 (by kernel_rfl) (hn := .n 3 (.j [(9000, .po 18)] [] (fun t => zc6 t) .e .e)) (by unfold zuR opJ zxI; kernel_rfl)
-- (*doorstep/enchunk.Encoder).End
theorem zi2 : zg 103 zpj := cqG (((CLs.nil.add zeU).add zfG).add zeq) 37 Tryz.func103 .e
-- (*doorstep/reframe.Writer).End
theorem zgf : zg 67 zqb := cqG (((CLs.nil.add zi2).add zkb).add ze7) 43 Tryz.func67 (.n 3 (.j [(9000, .po 24),(6, .int),(7, .str)] [(0,9000)] (fun t => zaT t.1 t.2.1 t.2.2) .e .e))
-- (*doorstep/gateway.Gateway).whole
theorem zhM : zg 63 znx := cqG (((((((((((CLs.nil.add zgf).add zge).add zeT).add zpt).add ziG).add zrq).add zAG).add zf9).add zdJ).add zhk).add zhj) 58 Tryz.func63 (.j [(9000, .po 17),(2, .str)] [(0,9000)] (fun t => zX t.1 t.2) .e (.n 1 (.j [(9000, .po 17),(4, .po 33)] [(0,9000)] (fun t => zaY t.1 t.2) .e (.n 1 (.j [(9000, .po 17),(6, .po 19)] [(0,9000)] (fun t => zaX t.1 t.2) .e .e)))))
-- (*doorstep/body.Body).Done
theorem ziP : zg 93 zt8 := cqG CLs.nil 11 Tryz.func93 .e
-- (*doorstep/gateway.Gateway).asked
theorem zmP : zg 59 zny := cqG ((((((((((CLs.nil.add zeT).add ziP).add zhM).add zkt).add znL).add ztt).add zdJ).add zhm).add znK).add zf9) 68 Tryz.func59 (.j [(9000, .po 17),(2, .po 33)] [(0,9000)] (fun t => za2 t.1 t.2) .e (.n 3 (.j [(9000, .po 17),(5, .po 34)] [(0,9000)] (fun t => za1 t.1 t.2) .e (.j [(9000, .po 17)] [(0,9000)] (fun t => za0 t) .e (.j [(9000, .po 17),(65, .bool)] [(0,9000)] (fun t => zaZ t.1 t.2) .e .e)))))
-- (*doorstep/accum.Accum).bare
theorem zmJ : zg 128 zt9 := cqG CLs.nil 34 Tryz.func128 (.n 2 (.j [(0, .pt 20),(3, .int),(4, .bool)] [] (fun t => zfg t.1 t.2.1 t.2.2) .e .e))
-- (*doorstep/scan.Scanner).Blanks
theorem zi3 : zg 249 zpk := cqG (CLs.nil.add zL) 5 Tryz.func249 .e
-- doorstep/fieldline.Parse
theorem zgU : zg 185 zvo := cqG ((((((((CLs.nil.add zd7).add za8).add zb8).add zx).add zad).add zi3).add ze5).add zcr) 49 Tryz.func185 .e
-- doorstep/head.Parse
theorem zuD : zg 186 zB6 := cqG (((((CLs.nil.add zpr).add zgU).add ziC).add zpA).add zgT) 93 Tryz.func186 (.n 7 (.q (.n 1 (.w [(6, .po 33),(12, .po 33),(64, .sl .str),(65, .int),(66, .int)] [] (fun m t => zh8 t.2.2.1 t.2.2.2.1 m t.2.1 t.2.2.2.2) fun n0 => .e)) .e))
-- (*doorstep/accum.Accum).line
theorem zlm : zg 129 zsb := cqG (((CLs.nil.add zuD).add zgU).add zgT) 62 Tryz.func129 (.n 2 (.j [(9000, .po 20),(6, .int)] [(0,9000)] (fun t => zek t.1 t.2) .e .e))
-- (*doorstep/accum.Accum).take
theorem zln : zg 87 zsc := cqG ((CLs.nil.add zlm).add zmJ) 50 Tryz.func87 .e
-- (*doorstep/accum.Accum).Feed
theorem zhn : zg 57 zsd := cqG (CLs.nil.add zln) 72 Tryz.func57 (.n 2 (.q (.n 1 (.w [(9000, .po 20),(1, .str),(24, .int),(25, .int)] [(0,9000)] (fun m t => zaK t.2.1 t.2.2.1 m t.1 t.2.2.2) fun n0 => .n 2 (.q (.n 3 (.j [(9000, .po 20),(1, .str),(7, .int),(24, .int),(25, .int),(55, .bool)] [(0,9000)] (fun t => zel (zaK t.2.1 t.2.2.2.1 n0) t.1 t.2.2.1 t.2.2.2.2.1 t.2.2.2.2.2) .e .e)) .e))) .e))
-- (*doorstep/enchunk.Encoder).Put
theorem zi4 : zg 96 zpl := cqG (((CLs.nil.add zba).add zeU).add zeq) 58 Tryz.func96 (.n 4 (.q (.w [(9000, .po 25),(7, .so 9 .str)] [(0,9000)] (fun m t => zbn m t.1 t.2) fun n0 => .e) .e))
-- (*doorstep/reframe.Writer).Put
theorem zgg : zg 61 zqc := cqG (((CLs.nil.add zi4).add zkc).add ze7) 47 Tryz.func61 (.n 2 (.j [(9000, .po 24),(1, .str)] [] (fun t => zc9 t.1 t.2) (.n 2 (.q (.j [(9000, .po 24),(4, .str),(5, .int)] [] (fun t => zc8 t.1 t.2.1 t.2.2) .e .e) (.j [(9000, .po 24),(1, .str),(27, .bool)] [(0,9000)] (fun t => zda t.1 t.2.1 t.2.2) .e .e))) .e))
-- (*doorstep/dechunk.Decoder).data
theorem zif : zg 199 zod := cqG CLs.nil 35 Tryz.func199 (.n 3 (.j [(9000, .po 23),(1, .str),(5, .int)] [] (fun t => zcf t.1 t.2.1 t.2.2) .e .e))
-- (*doorstep/dechunk.Decoder).ended
theorem zhN : zg 200 znz := cqG CLs.nil 29 Tryz.func200 (.n 2 (.j [(9000, .po 23),(1, .u8),(5, .u8)] [(0,9000)] (fun t => zbU t.1 t.2.1 t.2.2) .e (.n 2 (.j [(9000, .po 23)] [] (fun t => zbT t) .e .e))))
-- doorstep/numeral.Hex
theorem zsL : zg 359 zAx := cqG (CLs.nil.add zmw) 11 Tryz.func359 .e
-- doorstep/quoted.Word
theorem zpU : zg 391 zx5 := cqG ((CLs.nil.add zlw).add zad) 17 Tryz.func391 .e
-- (doorstep/chunkline.reader).one
theorem zjW : zg 360 zqd := cqG (((CLs.nil.add zpU).add zx).add zad) 35 Tryz.func360 .e
-- doorstep/chunkline.Parse
theorem znr : zg 317 zvp := cqG ((((((CLs.nil.add zax).add zjW).add zx).add zsL).add zL).add ze5) 52 Tryz.func317 (.n 5 (.q (.w [(5, .po 56),(7, .int),(8, .int),(9, .so 429 (.st 43))] [] (fun m t => zd5 t.2.1 t.2.2.1 m t.1 t.2.2.2) fun n0 => .e) .e))
-- (*doorstep/dechunk.Decoder).size
theorem zig : zg 269 zoe := cqG (CLs.nil.add znr) 47 Tryz.func269 .e
-- (*doorstep/dechunk.Decoder).trailer
theorem zgV : zg 270 zmr := cqG (CLs.nil.add zgU) 36 Tryz.func270 .e
-- (*doorstep/dechunk.Decoder).lined
theorem zhO : zg 201 znA := cqG ((CLs.nil.add zgV).add zig) 95 Tryz.func201 (.n 1 (.j [(9000, .po 23),(1, .u8)] [(0,9000)] (fun t => zbX t.1 t.2) .e (.n 1 (.j [(9000, .po 23),(1, .u8),(6, .int),(7, .bool)] [(0,9000)] (fun t => zbW t.1 t.2.1 t.2.2.1 t.2.2.2) .e (.q (.j [(9000, .po 23),(1, .u8),(6, .int),(7, .bool),(39, .bool)] [(0,9000)] (fun t => zbV t.1 t.2.1 t.2.2.1 t.2.2.2.1 t.2.2.2.2) .e .e) .e)))))
-- (*doorstep/dechunk.Decoder).step
theorem zih : zg 134 zof := cqG (((CLs.nil.add zhO).add zhN).add zif) 35 Tryz.func134 .e
end
end Go.Proofs
end
section
set_option linter.unusedVariables false
set_option maxRecDepth 100000
namespace Go.Proofs
open Go.Dk Go.Dm Go.RowKit Go.Rk
noncomputable section
-- (*doorstep/dechunk.Decoder).Feed
theorem zhY : zg 94 zog := cqG (CLs.nil.add zih) 63 Tryz.func94 (.n 3 (.q (.w [(9000, .po 23),(1, .str),(4, .int),(6, .bool),(7, .int),(8, .so 5 .u8)] [(0,9000)] (fun m t => zQ t.2.1 m t.1 t.2.2.1 t.2.2.2.1 t.2.2.2.2.1 t.2.2.2.2.2) fun n0 => .q (.j [(9000, .po 23),(1, .str),(4, .int),(6, .bool),(7, .int),(8, .so 5 .u8),(30, .bool)] [(0,9000)] (fun t => zbd (zQ t.2.1 n0) t.1 t.2.1 t.2.2.1 t.2.2.2.1 t.2.2.2.2.1 t.2.2.2.2.2.1 t.2.2.2.2.2.2) .e .e) .e) (.j [(9000, .po 23),(4, .int),(6, .bool),(7, .int),(8, .so 5 .u8)] [] (fun t => zch t.1 t.2.1 t.2.2.1 t.2.2.2.1 t.2.2.2.2) (.j [(9000, .po 23),(4, .int),(6, .bool),(7, .int),(8, .so 5 .u8),(51, .bool)] [(0,9000)] (fun t => zci t.1 t.2.1 t.2.2.1 t.2.2.2.1 t.2.2.2.2.1 t.2.2.2.2.2) .e .e) .e)))
-- (*doorstep/body.Body).Feed
theorem ziJ : zg 60 zua := cqG ((CLs.nil.add zhY).add zjU) 87 Tryz.func60 (.n 3 (.j [(9000, .po 22),(1, .str),(4, .int)] [(0,9000)] (fun t => zfi t.1 t.2.1 t.2.2) (.n 2 (.q (.j [(9000, .po 22),(4, .int),(5, .str),(6, .bool),(7, .int)] [(0,9000)] (fun t => zfh t.1 t.2.1 t.2.2.1 t.2.2.2.1 t.2.2.2.2) .e .e) .e)) .e))
-- (*doorstep/gateway.Gateway).request
theorem zlN : zg 37 zms := cqG ((((((((((CLs.nil.add ziJ).add zgg).add zhM).add zdJ).add zhi).add zks).add zhn).add zmP).add zhm).add ziN) 75 Tryz.func37 (.n 1 (.q (.j [(9000, .po 17),(1, .str),(19, .bool)] [(0,9000)] (fun t => zaC t.1 t.2.1 t.2.2) .e (.q (.j [(9000, .po 17),(5, .int),(6, .bool),(7, .int)] [(0,9000)] (fun t => zaz t.1 t.2.1 t.2.2.1 t.2.2.2) .e .e) .e)) (.j [(9000, .po 17),(8, .int),(9, .str),(10, .bool),(11, .int)] [(0,9000)] (fun t => zaB t.1 t.2.1 t.2.2.1 t.2.2.2.1 t.2.2.2.2) .e (.j [(9000, .po 17),(8, .int),(10, .bool),(11, .int),(12, .str)] [(0,9000)] (fun t => zaA t.1 t.2.1 t.2.2.1 t.2.2.2.1 t.2.2.2.2) .e .e))))
-- (*doorstep/gateway.Gateway).send
theorem zbl : zg 66 zoh := cqG CLs.nil 22 Tryz.func66 (.n 1 (.w [(9000, .po 17),(6, .sl .str),(7, .int),(8, .int)] [(0,9000)] (fun m t => zbe t.2.1 t.2.2.1 m t.1 t.2.2.2) fun n0 => .e))
-- (*doorstep/gateway.Gateway).close
theorem zbb : zg 43 znB := cqG CLs.nil 13 Tryz.func43 .e
-- (*doorstep/gateway.Gateway).tell
theorem zeV : zg 64 zoi := cqG (((CLs.nil.add zbb).add zbl).add zuC) 11 Tryz.func64 .e
-- (*doorstep/gateway.Gateway).settle
theorem zbM : zg 38 zmN := cqG ((((CLs.nil.add zkd).add zbb).add zeV).add zlI) 53 Tryz.func38 (.j [(9000, .po 17),(2, .int)] [(0,9000)] (fun t => zaP t.1 t.2) .e (.n 1 (.q .e (.j [(9000, .po 17),(2, .int),(13, .bool)] [(0,9000)] (fun t => zag t.1 t.2.1 t.2.2) .e .e))))
-- (*doorstep/gateway.Gateway).Client
theorem zme : zg 21 zmO := cqG (((CLs.nil.add zbM).add zlN).add zon) 39 Tryz.func21 (.n 3 (.q (.w [(9000, .po 17),(1, .str),(6, .int)] [(0,9000)] (fun m t => zR t.2.1 m t.1 t.2.2) fun n0 => .q (.j [(9000, .po 17),(1, .str),(6, .int),(28, .bool)] [(0,9000)] (fun t => zbJ (zR t.2.1 n0) t.1 t.2.1 t.2.2.1 t.2.2.2) .e .e) .e) .e))
-- (*doorstep/gateway.Gateway).ToClient
theorem zlq : zg 46 zl5 := cqG CLs.nil 15 Tryz.func46 .e
-- (*doorstep/gateway.Gateway).ToUpstream
theorem zkf : zg 47 zle := cqG CLs.nil 15 Tryz.func47 .e
-- (*doorstep/accum.Accum).Kept
theorem zmf : zg 106 zub := cqG CLs.nil 10 Tryz.func106 .e
-- (*doorstep/body.Body).Kept
theorem znO : zg 107 zww := cqG CLs.nil 10 Tryz.func107 .e
-- (*doorstep/reframe.Writer).Kept
theorem zj3 : zg 108 zq7 := cqG CLs.nil 10 Tryz.func108 .e
-- (*doorstep/enchunk.Encoder).Kept
theorem zje : zg 148 zqe := cqG CLs.nil 10 Tryz.func148 .e
-- (*doorstep/enchunk.Encoder).Kept
theorem zhZ : zg 148 zoj := cqG CLs.nil 10 Tryz.func148 .e
-- (*doorstep/reframe.Writer).Kept
theorem ziQ : zg 108 zpm := cqG ((CLs.nil.add zhZ).add zje) 10 Tryz.func108 .e
-- (*doorstep/dechunk.Decoder).Kept
theorem zjf : zg 147 zqf := cqG CLs.nil 10 Tryz.func147 .e
-- (*doorstep/dechunk.Decoder).Kept
theorem zh0 : zg 147 zok := cqG CLs.nil 10 Tryz.func147 .e
-- (*doorstep/body.Body).Kept
theorem zmg : zg 107 zuc := cqG ((CLs.nil.add zh0).add zjf) 10 Tryz.func107 .e
-- (*doorstep/accum.Accum).Kept
theorem zkY : zg 106 zse := cqG CLs.nil 10 Tryz.func106 .e
-- (*doorstep/gateway.side).kept
theorem zrX : zg 71 ztk := cqG ((((((CLs.nil.add zkY).add zmg).add ziQ).add zj3).add znO).add zmf) 20 Tryz.func71 .e
-- (*doorstep/gateway.Gateway).Use
theorem zpV : zg 48 zq8 := cqG (CLs.nil.add zrX) 15 Tryz.func48 .e
-- (*doorstep/wire.Wire).take
theorem zsX : zg 28 zud := cqG (((CLs.nil.add zpV).add zkf).add zlq) 58 Tryz.func28 .e
-- (*doorstep/pairing.Queue).Front
theorem zpW : zg 100 zq9 := cqG CLs.nil 13 Tryz.func100 .e
-- doorstep/reframe.Out
theorem zsk : zg 144 zAy := cqG CLs.nil 20 Tryz.func144 .e
-- (*doorstep/pairing.row[doorstep/pairing.Ticket]).first
theorem zrY : zg 142 ztl := cqG CLs.nil 18 Tryz.func142 .e
-- (*doorstep/pairing.Queue).Front
theorem znP : zg 100 zpn := cqG (CLs.nil.add zrY) 13 Tryz.func100 .e
-- (*doorstep/pairing.Queue).Pop
theorem zrZ : zg 69 ztm := cqG CLs.nil 11 Tryz.func69 .e
-- (*doorstep/gateway.Gateway).interim
theorem zlO : zg 101 zmt := cqG ((((CLs.nil.add ziG).add zbl).add zjT).add zjQ) 58 Tryz.func101 (.n 4 (.j [(9000, .po 17),(8, .int)] [(0,9000)] (fun t => zaD t.1 t.2) (.j [(9000, .po 17),(8, .int),(9, .str),(43, .bool)] [(0,9000)] (fun t => zaE t.1 t.2.1 t.2.2.1 t.2.2.2) .e .e) .e))
-- doorstep/rewrite.Close
theorem zpx : zg 145 zx6 := cqG CLs.nil 30 Tryz.func145 (.n 2 (.j [(3, .po 33),(6, .po 33)] [] (fun t => zfz t.1) .e .e))
-- (*doorstep/pairing.Queue).Pop
theorem zpX : COk Tryz.prog G 69 zra := ztM zB7 hNm tyk CLs.nil (.nd 142 (.lf 105 (fnS Tryz.func105)) (.lf 142 (fnS Tryz.func142))) 11 60 Tryz.func69 (by kernel_rfl) (hn := .e) (by unfold zuR opJ zxI; kernel_rfl)
-- (*doorstep/gateway.Gateway).answered
theorem zdk : zg 42 zl6 := cqG (((((((((CLs.nil.add zgf).add zge).add zpX).add zbb).add ziG).add zrZ).add zbl).add zhk).add zhj) 59 Tryz.func42 (.j [(9000, .po 17),(2, .str)] [(0,9000)] (fun t => zO t.1 t.2) .e (.n 1 (.j [(9000, .po 17)] [(0,9000)] (fun t => zap t) .e (.n 1 (.j [(9000, .po 17)] [(0,9000)] (fun t => zao t) .e .e)))))
-- (*doorstep/gateway.Gateway).final
theorem zmK : zg 102 znC := cqG ((((((((((((CLs.nil.add ziP).add zdk).add zkt).add znL).add ztt).add zbl).add zjT).add zpx).add zrp).add zjQ).add zsk).add zjV) 126 Tryz.func102 (.n 6 (.j [(9000, .po 17),(4, .po 32),(5, .po 19),(7, .po 34),(9, .po 34),(10, .po 33)] [(0,9000)] (fun t => za7 t.1 t.2.1 t.2.2.1 t.2.2.2.1 t.2.2.2.2.1 t.2.2.2.2.2) .e (.j [(9000, .po 17),(5, .po 19),(7, .po 34),(9, .po 34),(10, .po 33)] [(0,9000)] (fun t => za6 t.1 t.2.1 t.2.2.1 t.2.2.2.1 t.2.2.2.2) .e (.n 4 (.j [(9000, .po 17),(9, .po 34)] [(0,9000)] (fun t => za5 t.1 t.2) .e (.j [(9000, .po 17)] [(0,9000)] (fun t => za4 t) .e (.q (.j [(9000, .po 17),(123, .bool)] [(0,9000)] (fun t => za3 t.1 t.2) .e .e) .e)))))))
-- (*doorstep/gateway.Gateway).answers
theorem zlP : zg 65 zmu := cqG (((((((CLs.nil.add zeT).add znP).add zmK).add zlO).add zeV).add zpW).add zf9) 44 Tryz.func65 (.j [(9000, .po 17),(2, .po 33)] [(0,9000)] (fun t => zaG t.1 t.2) .e (.j [(9000, .po 17),(2, .po 33),(4, .po 19)] [(0,9000)] (fun t => zaF t.1 t.2.1 t.2.2) .e (.n 1 (.j [(9000, .po 17),(6, .int)] [(0,9000)] (fun t => z8 t.1 t.2) .e .e))))
-- (*doorstep/gateway.Gateway).response
theorem zlr : zg 40 zl7 := cqG (((((((((((CLs.nil.add ziJ).add zgg).add zdk).add zbb).add zbl).add zhi).add zks).add zhn).add zlP).add zeV).add ziN) 73 Tryz.func40 (.n 1 (.q (.j [(9000, .po 17),(1, .str),(19, .bool)] [(0,9000)] (fun t => zat t.1 t.2.1 t.2.2) .e (.q (.j [(9000, .po 17),(5, .int),(6, .bool),(7, .int)] [(0,9000)] (fun t => zaq t.1 t.2.1 t.2.2.1 t.2.2.2) .e .e) .e)) (.j [(9000, .po 17),(8, .int),(9, .str),(10, .bool),(11, .int)] [(0,9000)] (fun t => zas t.1 t.2.1 t.2.2.1 t.2.2.2.1 t.2.2.2.2) .e (.j [(9000, .po 17),(8, .int),(10, .bool),(11, .int),(12, .str)] [(0,9000)] (fun t => zar t.1 t.2.1 t.2.2.1 t.2.2.2.1 t.2.2.2.2) .e .e))))
-- (*doorstep/gateway.Gateway).Upstream
theorem zls : zg 23 zl8 := cqG ((((CLs.nil.add zkd).add zbM).add zlr).add zlI) 57 Tryz.func23 (.n 3 (.q (.w [(9000, .po 17),(1, .str),(6, .int)] [(0,9000)] (fun m t => zy t.2.1 m t.1 t.2.2) fun n0 => .q (.j [(9000, .po 17),(1, .str),(6, .int),(46, .bool)] [(0,9000)] (fun t => zP (zy t.2.1 n0) t.1 t.2.1 t.2.2.1 t.2.2.2) .e .e) .e) .e))
-- (*doorstep/body.Body).End
theorem zpy : zg 41 zx7 := cqG CLs.nil 23 Tryz.func41 .e
-- (*doorstep/body.Body).End
theorem zmU : zg 41 zvq := cqG CLs.nil 23 Tryz.func41 (.n 1 (.j [(9000, .po 22)] [] (fun t => zf3 t) .e .e))
-- (*doorstep/gateway.Gateway).UpstreamEnd
theorem zjZ : zg 24 zkm := cqG (((((CLs.nil.add zmU).add zbb).add zbM).add zdk).add zpy) 42 Tryz.func24 (.n 3 (.q (.n 1 (.q (.j [(9000, .po 17),(3, .bool)] [(0,9000)] (fun t => zac t.1 t.2) .e .e) .e)) .e))
-- (*doorstep/gateway.Gateway).ClientEnd
theorem zkZ : zg 22 zlv := cqG (CLs.nil.add zbM) 29 Tryz.func22 .e
-- (*doorstep/wire.Wire).Finish
theorem zqA : COk Tryz.prog G 8 zsf := ztM zB7 hNm tyk ((((((CLs.nil.add zkZ).add zjZ).add zls).add zsX).add zme).add zia) (.nd 17 (.nd 16 (.lf 15 (fnS Tryz.func15)) (.lf 16 (fnS Tryz.func16))) (.nd 19 (.lf 17 (fnS Tryz.func17)) (.lf 19 (fnS Tryz.func19)))) 45 60 Tryz.func8 (by kernel_rfl) (hn := .n 3 (.q (.n 1 (.w [(9000, .po 29),(3, .int),(4, .int)] [(0,9000)] (fun m t => zd m t.1 t.2.1 t.2.2) fun n0 => .n 2 (.q .e (.q .e (.q .e .e))))) .e)) (by unfold zuR opJ zxI; kernel_rfl)
-- (*doorstep/wire.Wire).Result
theorem zqB : zg 9 zsg := cqG (CLs.nil.add zia) 38 Tryz.func9 .e
end
end Go.Proofs
end
