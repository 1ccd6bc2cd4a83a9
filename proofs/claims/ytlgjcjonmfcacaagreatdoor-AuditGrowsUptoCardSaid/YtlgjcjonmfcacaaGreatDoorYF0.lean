/-
 What the models are made with: data, contracts.
 AuditGrows' model at the data of a statement. No program in sight.
 Contracts of a program's functions: the facts that show them, written by a program (wip/gen).
-/
import Derived.Test.YtlgjcjonmfcacaaGreatDoorYM
import Derived.Test.YtlgjcjonmfcacaaGreatDoorYTr
import Derived.Test.YtlgjcjonmfcacaaGreatDoorW0
import Derived.Test.YtlgjcjonmfcacaaGreatDoorYMem
import Derived.Test.YtlgjcjonmfcacaaGreatDoorSq
import Derived.Test.YtlgjcjonmfcacaaGreatDoorYLd
import Derived.KernelRfl
set_option linter.unusedVariables false
set_option linter.unusedSimpArgs false
set_option linter.unusedVariables false
set_option linter.unusedSimpArgs false
section
set_option linter.unusedVariables false
set_option maxRecDepth 100000
namespace Go.Proofs
noncomputable section
open Go.Dk Go.Dm Go.RowKit Go.Rk
def tau:Nat→Type
 | 0=>zW5
 | 1=>zWK
 | 2=>zWC
 | 3=>zWz
 | 4=>zXh
 | 5=>zWJ
 | 6=>Str × Str × Str × Str
 | 7=>zWJ
 | 8=>zWC
 | 9=>zW5
 | 10=>zXr
 | 11=>zWP
 | 12=>zWD
 | 13=>zXk
 | 14=>zW0
 | 15=>zWS
 | 16=>zWv
 | 17=>zWV
 | 18=>zWH
 | 19=>zWL
 | 20=>zWx
 | 21=>zW2
 | 22=>zWA
 | 23=>zWM
 | 24=>zWI
 | 25=>zXe
 | 26=>zWZ
 | 27=>zWE
 | 28=>zWF
 | 29=>ref44_Setup
 | 30=>zXd
 | 31=>zXi
 | 32=>zWB
 | 33=>zWB
 | 34=>zWG
 | 35=>zWX
 | 36=>zXt
 | 37=>zWN
 | 38=>zXn
 | 39=>List Str
 | 40=>Str
 | 41=>zW1
 | 42=>zXf
 | 43=>zW4
 | 44=>zWO
 | 45=>zWO
 | 46=>zWW
 | 47=>zXm
 | 48=>zWU
 | 49=>zXm
 | 50=>zWR
 | 51=>zXc
 | 52=>zW9
 | 53=>zXu
 | 54=>zXv
 | 55=>zXv
 | 56=>zXg
 | 57=>zXx
 | 58=>zXb
 | 59=>zXM
 | _=>Unit
noncomputable section
set_option maxHeartbeats 8000000 in
def G:Sig tau where
 fs
  | 0=>[.str, .str, .str, .str, .sl (.st 1), .sl (.st 1), .int, .int, .int, .sl (.st 2), .str, .str, .bool, .bool, .sl (.st 4)]
  | 1=>[.str, .str]
  | 2=>[.int, .int, .str, .str, .int, .str, .str, .sl (.st 3)]
  | 3=>[.int, .str]
  | 4=>[.int, .int]
  | 5=>[.str, .str, .str, .str, .sl (.st 1), .sl (.st 1)]
  | 6=>[.str, .str, .str, .str]
  | 7=>[.str, .str, .str, .str, .so 102 (.st 1), .so 102 (.st 1)]
  | 8=>[.int, .int, .str, .str, .int, .str, .str, .so 113 (.st 3)]
  | 9=>[.str, .str, .str, .str, .so 102 (.st 1), .so 102 (.st 1), .int, .int, .int, .so 92 (.st 2), .str, .str, .bool, .bool, .sl (.st 4)]
  | 10=>[.int, .int, .int]
  | 11=>[.str, .str, .str, .str]
  | 12=>[.str, .int]
  | 13=>[.po 12]
  | 14=>[.int, .str, .int]
  | 15=>[.str, .str, .str, .str, .str, .bool, .bool, .bool]
  | 16=>[.pn 17, .str, .str, .str, .str, .sl (.st 1), .sl (.st 1), .int, .int, .int, .so 92 (.st 2), .pn 19, .pn 21, .pn 23, .pn 19, .pn 21, .pn 23, .so 5 .u8, .so 5 .u8, .int, .bool, .bool, .bool, .bool, .bool, .bool, .bool]
  | 17=>[.so 202 (.st 18), .int, .bool]
  | 18=>[.str, .int, .bool]
  | 19=>[.int, .int, .so 5 .u8, .int, .bool, .int, .bool, .int, .str, .str, .int, .str, .int, .sl (.st 20)]
  | 20=>[.str, .str]
  | 21=>[.pn 22, .int, .int, .int, .bool, .bool]
  | 22=>[.int, .int, .so 5 .u8, .int, .int, .int, .so 247 (.st 20)]
  | 23=>[.pn 24, .int, .int, .int, .bool]
  | 24=>[.int, .str, .bool]
  | 25=>[.int, .str, .str]
  | 26=>[.po 12, .so 113 (.st 3)]
  | 27=>[.pn 19, .pn 21, .pn 23]
  | 28=>[.po 16, .str, .int, .bool, .bool, .so 5 .u8, .mv 16, .mv 17, .str, .int, .bool, .bool, .so 5 .u8, .mv 18, .mv 19, .int, .int]
  | 29=>[.str, .str, .str, .str, .sl (.st 1), .sl (.st 1), .int, .int, .int, .sl (.st 2)]
  | 30=>[.str, .str, .int, .int, .int, .int, .bool]
  | 31=>[.so 202 (.st 18), .int]
  | 32=>[.int, .str, .str, .int, .str, .int, .sl (.st 20)]
  | 33=>[.int, .str, .str, .int, .str, .int, .so 247 (.st 20)]
  | 34=>[.int, .int]
  | 35=>[.so 247 (.st 20)]
  | 36=>[.po 35, .int]
  | 37=>[.po 12, .so 9 .str, .int, .str]
  | 38=>[.po 12, .so 5 .u8]
  | 39=>[.sl .str]
  | 40=>[.str]
  | 41=>[.int, .str, .int, .str, .int, .str, .str, .bool]
  | 42=>[.po 35, .int, .str, .str, .int, .str, .int, .sl (.st 20)]
  | 43=>[.str, .str, .bool]
  | 44=>[.str, .str, .sl (.st 43)]
  | 45=>[.str, .str, .so 484 (.st 43)]
  | 46=>[.str, .str]
  | 47=>[.int, .str, .str, .sl (.st 3), .int]
  | 48=>[.so 477 (.st 47)]
  | 49=>[.int, .str, .str, .so 113 (.st 3), .int]
  | 50=>[.po 35, .sl (.st 46), .int]
  | 51=>[.po 12]
  | 52=>[.so 5 .u8, .int]
  | 53=>[.po 52, .bool]
  | 54=>[.int, .str, .str, .int, .str, .int, .sl (.st 20), .int, .int, .str, .sl (.st 20)]
  | 55=>[.int, .str, .str, .int, .str, .int, .so 247 (.st 20), .int, .int, .str, .so 247 (.st 20)]
  | 56=>[.po 12]
  | 57=>[.int, .int]
  | 58=>[.str, .int, .bool, .bool, .so 5 .u8, .nil /-('bad', 'func')-/, .nil /-('bad', 'func')-/]
  | 59=>[.int, .int, .int, .bool]
  | _=>[]
 ti
  | 0=>30
  | 1=>102
  | 2=>92
  | 3=>113
  | 4=>47
  | 5=>24
  | 6=>133
  | 7=>24
  | 8=>92
  | 9=>30
  | 10=>26
  | 11=>139
  | 12=>291
  | 13=>237
  | 14=>142
  | 15=>226
  | 16=>109
  | 17=>152
  | 18=>202
  | 19=>199
  | 20=>247
  | 21=>169
  | 22=>260
  | 23=>214
  | 24=>147
  | 25=>89
  | 26=>420
  | 27=>107
  | 28=>66
  | 29=>69
  | 30=>41
  | 31=>150
  | 32=>181
  | 33=>181
  | 34=>166
  | 35=>406
  | 36=>374
  | 37=>458
  | 38=>512
  | 39=>80
  | 40=>9
  | 41=>382
  | 42=>379
  | 43=>484
  | 44=>468
  | 45=>468
  | 46=>393
  | 47=>477
  | 48=>436
  | 49=>477
  | 50=>440
  | 51=>421
  | 52=>401
  | 53=>334
  | 54=>183
  | 55=>183
  | 56=>482
  | 57=>39
  | 58=>64
  | 59=>53
  | _=>0
 ctor
  | 0,p=>(⟨(⟨p.1,p.2.1,p.2.2.1,p.2.2.2.1,p.2.2.2.2.1,p.2.2.2.2.2.1⟩:zWJ),(⟨p.2.2.2.2.2.2.1,p.2.2.2.2.2.2.2.1,p.2.2.2.2.2.2.2.2.1⟩:zXr),p.2.2.2.2.2.2.2.2.2.1,p.2.2.2.2.2.2.2.2.2.2.1,p.2.2.2.2.2.2.2.2.2.2.2.1,p.2.2.2.2.2.2.2.2.2.2.2.2.1,p.2.2.2.2.2.2.2.2.2.2.2.2.2.1,p.2.2.2.2.2.2.2.2.2.2.2.2.2.2⟩:zW5)
  | 1,p=>(⟨p.1,p.2⟩:zWK)
  | 2,p=>(⟨p.1,(⟨p.2.1,p.2.2.1,p.2.2.2.1⟩:zXe),p.2.2.2.2.1,p.2.2.2.2.2.1,p.2.2.2.2.2.2.1,p.2.2.2.2.2.2.2⟩:zWC)
  | 3,p=>(⟨p.1,p.2⟩:zWz)
  | 4,p=>(⟨p.1,p.2⟩:zXh)
  | 5,p=>(⟨p.1,p.2.1,p.2.2.1,p.2.2.2.1,p.2.2.2.2.1,p.2.2.2.2.2⟩:zWJ)
  | 6,p=>p
  | 7,p=>(⟨p.1,p.2.1,p.2.2.1,p.2.2.2.1,p.2.2.2.2.1,p.2.2.2.2.2⟩:zWJ)
  | 8,p=>(⟨p.1,(⟨p.2.1,p.2.2.1,p.2.2.2.1⟩:zXe),p.2.2.2.2.1,p.2.2.2.2.2.1,p.2.2.2.2.2.2.1,p.2.2.2.2.2.2.2⟩:zWC)
  | 9,p=>(⟨(⟨p.1,p.2.1,p.2.2.1,p.2.2.2.1,p.2.2.2.2.1,p.2.2.2.2.2.1⟩:zWJ),(⟨p.2.2.2.2.2.2.1,p.2.2.2.2.2.2.2.1,p.2.2.2.2.2.2.2.2.1⟩:zXr),p.2.2.2.2.2.2.2.2.2.1,p.2.2.2.2.2.2.2.2.2.2.1,p.2.2.2.2.2.2.2.2.2.2.2.1,p.2.2.2.2.2.2.2.2.2.2.2.2.1,p.2.2.2.2.2.2.2.2.2.2.2.2.2.1,p.2.2.2.2.2.2.2.2.2.2.2.2.2.2⟩:zW5)
  | 10,p=>(⟨p.1,p.2.1,p.2.2⟩:zXr)
  | 11,p=>(⟨p.1,p.2.1,p.2.2.1,p.2.2.2⟩:zWP)
  | 12,p=>(⟨p.1,p.2⟩:zWD)
  | 13,p=>(⟨p⟩:zXk)
  | 14,p=>(⟨p.1,p.2.1,p.2.2⟩:zW0)
  | 15,p=>(⟨p.1,p.2.1,p.2.2.1,p.2.2.2.1,p.2.2.2.2.1,p.2.2.2.2.2.1,p.2.2.2.2.2.2.1,p.2.2.2.2.2.2.2⟩:zWS)
  | 16,p=>(⟨p.1,(⟨p.2.1,p.2.2.1,p.2.2.2.1,p.2.2.2.2.1,p.2.2.2.2.2.1,p.2.2.2.2.2.2.1⟩:zWJ),(⟨p.2.2.2.2.2.2.2.1,p.2.2.2.2.2.2.2.2.1,p.2.2.2.2.2.2.2.2.2.1⟩:zXr),p.2.2.2.2.2.2.2.2.2.2.1,(⟨p.2.2.2.2.2.2.2.2.2.2.2.1,p.2.2.2.2.2.2.2.2.2.2.2.2.1,p.2.2.2.2.2.2.2.2.2.2.2.2.2.1⟩:zWE),(⟨p.2.2.2.2.2.2.2.2.2.2.2.2.2.2.1,p.2.2.2.2.2.2.2.2.2.2.2.2.2.2.2.1,p.2.2.2.2.2.2.2.2.2.2.2.2.2.2.2.2.1⟩:zWE),p.2.2.2.2.2.2.2.2.2.2.2.2.2.2.2.2.2.1,p.2.2.2.2.2.2.2.2.2.2.2.2.2.2.2.2.2.2.1,p.2.2.2.2.2.2.2.2.2.2.2.2.2.2.2.2.2.2.2.1,p.2.2.2.2.2.2.2.2.2.2.2.2.2.2.2.2.2.2.2.2.1,p.2.2.2.2.2.2.2.2.2.2.2.2.2.2.2.2.2.2.2.2.2.1,p.2.2.2.2.2.2.2.2.2.2.2.2.2.2.2.2.2.2.2.2.2.2.1,p.2.2.2.2.2.2.2.2.2.2.2.2.2.2.2.2.2.2.2.2.2.2.2.1,p.2.2.2.2.2.2.2.2.2.2.2.2.2.2.2.2.2.2.2.2.2.2.2.2.1,p.2.2.2.2.2.2.2.2.2.2.2.2.2.2.2.2.2.2.2.2.2.2.2.2.2.1,p.2.2.2.2.2.2.2.2.2.2.2.2.2.2.2.2.2.2.2.2.2.2.2.2.2.2⟩:zWv)
  | 17,p=>(⟨(⟨p.1,p.2.1⟩:zXi),p.2.2⟩:zWV)
  | 18,p=>(⟨p.1,p.2.1,p.2.2⟩:zWH)
  | 19,p=>(⟨p.1,p.2.1,p.2.2.1,p.2.2.2.1,p.2.2.2.2.1,p.2.2.2.2.2.1,p.2.2.2.2.2.2.1,(⟨p.2.2.2.2.2.2.2.1,p.2.2.2.2.2.2.2.2.1,p.2.2.2.2.2.2.2.2.2.1,p.2.2.2.2.2.2.2.2.2.2.1,p.2.2.2.2.2.2.2.2.2.2.2.1,p.2.2.2.2.2.2.2.2.2.2.2.2.1,p.2.2.2.2.2.2.2.2.2.2.2.2.2⟩:zWB)⟩:zWL)
  | 20,p=>(⟨p.1,p.2⟩:zWx)
  | 21,p=>(⟨p.1,(⟨p.2.1,p.2.2.1⟩:zWG),p.2.2.2.1,p.2.2.2.2.1,p.2.2.2.2.2⟩:zW2)
  | 22,p=>(⟨p.1,p.2.1,p.2.2.1,p.2.2.2.1,p.2.2.2.2.1,p.2.2.2.2.2.1,p.2.2.2.2.2.2⟩:zWA)
  | 23,p=>(⟨p.1,(⟨p.2.1,p.2.2.1⟩:zWG),p.2.2.2.1,p.2.2.2.2⟩:zWM)
  | 24,p=>(⟨p.1,p.2.1,p.2.2⟩:zWI)
  | 25,p=>(⟨p.1,p.2.1,p.2.2⟩:zXe)
  | 26,p=>(⟨p.1,p.2⟩:zWZ)
  | 27,p=>(⟨p.1,p.2.1,p.2.2⟩:zWE)
  | 28,p=>(⟨p.1,(⟨p.2.1,p.2.2.1,p.2.2.2.1,p.2.2.2.2.1,p.2.2.2.2.2.1,p.2.2.2.2.2.2.1,p.2.2.2.2.2.2.2.1⟩:zXb),(⟨p.2.2.2.2.2.2.2.2.1,p.2.2.2.2.2.2.2.2.2.1,p.2.2.2.2.2.2.2.2.2.2.1,p.2.2.2.2.2.2.2.2.2.2.2.1,p.2.2.2.2.2.2.2.2.2.2.2.2.1,p.2.2.2.2.2.2.2.2.2.2.2.2.2.1,p.2.2.2.2.2.2.2.2.2.2.2.2.2.2.1⟩:zXb),(⟨p.2.2.2.2.2.2.2.2.2.2.2.2.2.2.2.1,p.2.2.2.2.2.2.2.2.2.2.2.2.2.2.2.2⟩:zXx)⟩:zWF)
  | 29,p=>(⟨(⟨p.1,p.2.1,p.2.2.1,p.2.2.2.1,p.2.2.2.2.1,p.2.2.2.2.2.1⟩:zWJ),(⟨p.2.2.2.2.2.2.1,p.2.2.2.2.2.2.2.1,p.2.2.2.2.2.2.2.2.1⟩:zXr),p.2.2.2.2.2.2.2.2.2⟩:ref44_Setup)
  | 30,p=>(⟨p.1,p.2.1,p.2.2.1,p.2.2.2.1,(⟨p.2.2.2.2.1,p.2.2.2.2.2.1⟩:zXx),p.2.2.2.2.2.2⟩:zXd)
  | 31,p=>(⟨p.1,p.2⟩:zXi)
  | 32,p=>(⟨p.1,p.2.1,p.2.2.1,p.2.2.2.1,p.2.2.2.2.1,p.2.2.2.2.2.1,p.2.2.2.2.2.2⟩:zWB)
  | 33,p=>(⟨p.1,p.2.1,p.2.2.1,p.2.2.2.1,p.2.2.2.2.1,p.2.2.2.2.2.1,p.2.2.2.2.2.2⟩:zWB)
  | 34,p=>(⟨p.1,p.2⟩:zWG)
  | 35,p=>(⟨p⟩:zWX)
  | 36,p=>(⟨p.1,p.2⟩:zXt)
  | 37,p=>(⟨p.1,p.2.1,p.2.2.1,p.2.2.2⟩:zWN)
  | 38,p=>(⟨p.1,p.2⟩:zXn)
  | 39,p=>p
  | 40,p=>p
  | 41,p=>(⟨p.1,p.2.1,(⟨p.2.2.1,p.2.2.2.1,p.2.2.2.2.1⟩:zW0),p.2.2.2.2.2.1,p.2.2.2.2.2.2.1,p.2.2.2.2.2.2.2⟩:zW1)
  | 42,p=>(⟨p.1,(⟨p.2.1,p.2.2.1,p.2.2.2.1,p.2.2.2.2.1,p.2.2.2.2.2.1,p.2.2.2.2.2.2.1,p.2.2.2.2.2.2.2⟩:zWB)⟩:zXf)
  | 43,p=>(⟨p.1,p.2.1,p.2.2⟩:zW4)
  | 44,p=>(⟨p.1,p.2.1,p.2.2⟩:zWO)
  | 45,p=>(⟨p.1,p.2.1,p.2.2⟩:zWO)
  | 46,p=>(⟨p.1,p.2⟩:zWW)
  | 47,p=>(⟨p.1,p.2.1,p.2.2.1,p.2.2.2.1,p.2.2.2.2⟩:zXm)
  | 48,p=>(⟨p⟩:zWU)
  | 49,p=>(⟨p.1,p.2.1,p.2.2.1,p.2.2.2.1,p.2.2.2.2⟩:zXm)
  | 50,p=>(⟨p.1,p.2.1,p.2.2⟩:zWR)
  | 51,p=>(⟨p⟩:zXc)
  | 52,p=>(⟨p.1,p.2⟩:zW9)
  | 53,p=>(⟨p.1,p.2⟩:zXu)
  | 54,p=>(⟨(⟨p.1,p.2.1,p.2.2.1,p.2.2.2.1,p.2.2.2.2.1,p.2.2.2.2.2.1,p.2.2.2.2.2.2.1⟩:zWB),(⟨p.2.2.2.2.2.2.2.1,p.2.2.2.2.2.2.2.2.1⟩:zWG),p.2.2.2.2.2.2.2.2.2.1,p.2.2.2.2.2.2.2.2.2.2⟩:zXv)
  | 55,p=>(⟨(⟨p.1,p.2.1,p.2.2.1,p.2.2.2.1,p.2.2.2.2.1,p.2.2.2.2.2.1,p.2.2.2.2.2.2.1⟩:zWB),(⟨p.2.2.2.2.2.2.2.1,p.2.2.2.2.2.2.2.2.1⟩:zWG),p.2.2.2.2.2.2.2.2.2.1,p.2.2.2.2.2.2.2.2.2.2⟩:zXv)
  | 56,p=>(⟨p⟩:zXg)
  | 57,p=>(⟨p.1,p.2⟩:zXx)
  | 58,p=>(⟨p.1,p.2.1,p.2.2.1,p.2.2.2.1,p.2.2.2.2.1,p.2.2.2.2.2.1,p.2.2.2.2.2.2⟩:zXb)
  | 59,p=>(⟨p.1,p.2.1,p.2.2.1,p.2.2.2⟩:zXM)
  | _+60,_=>()
 dtor
  | 0,(x:zW5)=>(x.Env.Client,x.Env.Host,x.Env.Scheme,x.Env.By,x.Env.Domains,x.Env.Locations,x.Caps.Head,x.Caps.Chunk,x.Caps.Queue,x.Rules,x.Client,x.Upstream,x.ClientEnds,x.UpstreamEnds,x.Events)
  | 1,(x:zWK)=>(x.From,x.To)
  | 2,(x:zWC)=>(x.Side,x.Guard.Kind,x.Guard.Name,x.Guard.Value,x.Kind,x.Name,x.To,x.Parts)
  | 3,(x:zWz)=>(x.Kind,x.Text)
  | 4,(x:zXh)=>(x.Kind,x.N)
  | 5,(x:zWJ)=>(x.Client,x.Host,x.Scheme,x.By,x.Domains,x.Locations)
  | 6,x=>x
  | 7,(x:zWJ)=>(x.Client,x.Host,x.Scheme,x.By,x.Domains,x.Locations)
  | 8,(x:zWC)=>(x.Side,x.Guard.Kind,x.Guard.Name,x.Guard.Value,x.Kind,x.Name,x.To,x.Parts)
  | 9,(x:zW5)=>(x.Env.Client,x.Env.Host,x.Env.Scheme,x.Env.By,x.Env.Domains,x.Env.Locations,x.Caps.Head,x.Caps.Chunk,x.Caps.Queue,x.Rules,x.Client,x.Upstream,x.ClientEnds,x.UpstreamEnds,x.Events)
  | 10,(x:zXr)=>(x.Head,x.Chunk,x.Queue)
  | 11,(x:zWP)=>(x.Proto,x.Version,x.By,x.Comment)
  | 12,(x:zWD)=>(x.zXp,x.zWY)
  | 13,(x:zXk)=>x.Scanner
  | 14,(x:zW0)=>(x.Kind,x.Name,x.Port)
  | 15,(x:zWS)=>(x.Scheme,x.Auth,x.Path,x.Query,x.Frag,x.HasAuth,x.HasQuery,x.HasFrag)
  | 16,(x:zWv)=>(x.Queue,x.zXT.Client,x.zXT.Host,x.zXT.Scheme,x.zXT.By,x.zXT.Domains,x.zXT.Locations,x.zXC.Head,x.zXC.Chunk,x.zXC.Queue,x.zXG,x.zWy.Accum,x.zWy.zXF,x.zWy.zWQ,x.zWw.Accum,x.zWw.zXF,x.zWw.zWQ,x.zXB,x.zXW,x.zXV,x.zW8,x.zXX,x.zXD,x.zXP,x.zXQ,x.zXS,x.zW3)
  | 17,(x:zWV)=>(x.zXL.zXs,x.zXL.zWT,x.zXQ)
  | 18,(x:zWH)=>(x.Method,x.Minor,x.Close)
  | 19,(x:zWL)=>(x.zXZ,x.zXI,x.zW7,x.zXw,x.zX1,x.zXY,x.f_whole,x.zXE.Kind,x.zXE.Method,x.zXE.Target,x.zXE.Code,x.zXE.Reason,x.zXE.Minor,x.zXE.Fields)
  | 20,(x:zWx)=>(x.Name,x.Value)
  | 21,(x:zW2)=>(x.Decoder,x.zXH.Kind,x.zXH.N,x.zXo,x.zXy,x.zXY)
  | 22,(x:zWA)=>(x.zXI,x.zWY,x.zXJ,x.zXo,x.zX3,x.zXR,x.zXA)
  | 23,(x:zWM)=>(x.Encoder,x.zXH.Kind,x.zXH.N,x.zXo,x.zXy)
  | 24,(x:zWI)=>(x.zXN,x.zW7,x.zXy)
  | 25,(x:zXe)=>(x.Kind,x.Name,x.Value)
  | 26,(x:zWZ)=>(x.Scanner,x.zWQ)
  | 27,(x:zWE)=>(x.Accum,x.zXF,x.zWQ)
  | 28,(x:zWF)=>(x.Gateway,x.zWy.zXj,x.zWy.zXa,x.zWy.zXq,x.zWy.zXl,x.zWy.zW6,x.zWy.zXz,x.zWy.zXK,x.zWw.zXj,x.zWw.zXa,x.zWw.zXq,x.zWw.zXl,x.zWw.zW6,x.zWw.zXz,x.zWw.zXK,x.zWT.Client,x.zWT.Upstream)
  | 29,(x:ref44_Setup)=>(x.Env.Client,x.Env.Host,x.Env.Scheme,x.Env.By,x.Env.Domains,x.Env.Locations,x.Caps.Head,x.Caps.Chunk,x.Caps.Queue,x.Rules)
  | 30,(x:zXd)=>(x.Client,x.Upstream,x.ReadClient,x.ReadUpstream,x.Most.Client,x.Most.Upstream,x.Closed)
  | 31,(x:zXi)=>(x.zXs,x.zWT)
  | 32,(x:zWB)=>(x.Kind,x.Method,x.Target,x.Code,x.Reason,x.Minor,x.Fields)
  | 33,(x:zWB)=>(x.Kind,x.Method,x.Target,x.Code,x.Reason,x.Minor,x.Fields)
  | 34,(x:zWG)=>(x.Kind,x.N)
  | 35,(x:zWX)=>x.zXs
  | 36,(x:zXt)=>(x.Bag,x.zX5)
  | 37,(x:zWN)=>(x.Scanner,x.zWQ,x.zXw,x.zXp)
  | 38,(x:zXn)=>(x.Scanner,x.zWQ)
  | 39,x=>x
  | 40,x=>x
  | 41,(x:zW1)=>(x.Kind,x.Scheme,x.Host.Kind,x.Host.Name,x.Host.Port,x.Path,x.Query,x.HasQuery)
  | 42,(x:zXf)=>(x.Bag,x.zX0.Kind,x.zX0.Method,x.zX0.Target,x.zX0.Code,x.zX0.Reason,x.zX0.Minor,x.zX0.Fields)
  | 43,(x:zW4)=>(x.Name,x.Value,x.Has)
  | 44,(x:zWO)=>(x.Name,x.Value,x.Attrs)
  | 45,(x:zWO)=>(x.Name,x.Value,x.Attrs)
  | 46,(x:zWW)=>(x.Name,x.Value)
  | 47,(x:zXm)=>(x.Kind,x.Name,x.Text,x.Parts,x.N)
  | 48,(x:zWU)=>x.zWQ
  | 49,(x:zXm)=>(x.Kind,x.Name,x.Text,x.Parts,x.N)
  | 50,(x:zWR)=>(x.Bag,x.zXU,x.zXO)
  | 51,(x:zXc)=>x.Scanner
  | 52,(x:zW9)=>(x.zX2,x.zWT)
  | 53,(x:zXu)=>(x.Quill,x.zX4)
  | 54,(x:zXv)=>(x.Head.Kind,x.Head.Method,x.Head.Target,x.Head.Code,x.Head.Reason,x.Head.Minor,x.Head.Fields,x.Frame.Kind,x.Frame.N,x.Body,x.Trailers)
  | 55,(x:zXv)=>(x.Head.Kind,x.Head.Method,x.Head.Target,x.Head.Code,x.Head.Reason,x.Head.Minor,x.Head.Fields,x.Frame.Kind,x.Frame.N,x.Body,x.Trailers)
  | 56,(x:zXg)=>x.Scanner
  | 57,(x:zXx)=>(x.Client,x.Upstream)
  | 58,(x:zXb)=>(x.zXj,x.zXa,x.zXq,x.zXl,x.zW6,x.zXz,x.zXK)
  | 59,(x:zXM)=>(x.Requests,x.Responses,x.Interims,x.Torn)
  | _+60,_=>()
 cd
  | 0,_=>rfl
  | 1,_=>rfl
  | 2,_=>rfl
  | 3,_=>rfl
  | 4,_=>rfl
  | 5,_=>rfl
  | 6,_=>rfl
  | 7,_=>rfl
  | 8,_=>rfl
  | 9,_=>rfl
  | 10,_=>rfl
  | 11,_=>rfl
  | 12,_=>rfl
  | 13,_=>rfl
  | 14,_=>rfl
  | 15,_=>rfl
  | 16,_=>rfl
  | 17,_=>rfl
  | 18,_=>rfl
  | 19,_=>rfl
  | 20,_=>rfl
  | 21,_=>rfl
  | 22,_=>rfl
  | 23,_=>rfl
  | 24,_=>rfl
  | 25,_=>rfl
  | 26,_=>rfl
  | 27,_=>rfl
  | 28,_=>rfl
  | 29,_=>rfl
  | 30,_=>rfl
  | 31,_=>rfl
  | 32,_=>rfl
  | 33,_=>rfl
  | 34,_=>rfl
  | 35,_=>rfl
  | 36,_=>rfl
  | 37,_=>rfl
  | 38,_=>rfl
  | 39,_=>rfl
  | 40,_=>rfl
  | 41,_=>rfl
  | 42,_=>rfl
  | 43,_=>rfl
  | 44,_=>rfl
  | 45,_=>rfl
  | 46,_=>rfl
  | 47,_=>rfl
  | 48,_=>rfl
  | 49,_=>rfl
  | 50,_=>rfl
  | 51,_=>rfl
  | 52,_=>rfl
  | 53,_=>rfl
  | 54,_=>rfl
  | 55,_=>rfl
  | 56,_=>rfl
  | 57,_=>rfl
  | 58,_=>rfl
  | 59,_=>rfl
  | _+60,_=>rfl
 dc
  | 0,_=>rfl
  | 1,_=>rfl
  | 2,_=>rfl
  | 3,_=>rfl
  | 4,_=>rfl
  | 5,_=>rfl
  | 6,_=>rfl
  | 7,_=>rfl
  | 8,_=>rfl
  | 9,_=>rfl
  | 10,_=>rfl
  | 11,_=>rfl
  | 12,_=>rfl
  | 13,_=>rfl
  | 14,_=>rfl
  | 15,_=>rfl
  | 16,_=>rfl
  | 17,_=>rfl
  | 18,_=>rfl
  | 19,_=>rfl
  | 20,_=>rfl
  | 21,_=>rfl
  | 22,_=>rfl
  | 23,_=>rfl
  | 24,_=>rfl
  | 25,_=>rfl
  | 26,_=>rfl
  | 27,_=>rfl
  | 28,_=>rfl
  | 29,_=>rfl
  | 30,_=>rfl
  | 31,_=>rfl
  | 32,_=>rfl
  | 33,_=>rfl
  | 34,_=>rfl
  | 35,_=>rfl
  | 36,_=>rfl
  | 37,_=>rfl
  | 38,_=>rfl
  | 39,_=>rfl
  | 40,_=>rfl
  | 41,_=>rfl
  | 42,_=>rfl
  | 43,_=>rfl
  | 44,_=>rfl
  | 45,_=>rfl
  | 46,_=>rfl
  | 47,_=>rfl
  | 48,_=>rfl
  | 49,_=>rfl
  | 50,_=>rfl
  | 51,_=>rfl
  | 52,_=>rfl
  | 53,_=>rfl
  | 54,_=>rfl
  | 55,_=>rfl
  | 56,_=>rfl
  | 57,_=>rfl
  | 58,_=>rfl
  | 59,_=>rfl
  | _+60,_=>rfl
 eq
  | 1,(x:zWK),y=>x==y
  | 3,(x:zWz),y=>x==y
  | 4,(x:zXh),y=>x==y
  | 11,(x:zWP),y=>x==y
  | 14,(x:zW0),y=>x==y
  | 18,(x:zWH),y=>x==y
  | 20,(x:zWx),y=>x==y
  | 25,(x:zXe),y=>x==y
  | 34,(x:zWG),y=>x==y
  | 43,(x:zW4),y=>x==y
  | 46,(x:zWW),y=>x==y
  | 59,(x:zXM),y=>x==y
  | _,_,_=>true
 fp:=[(151,zbc),(183,zh9),(184,zd0),(185,znh),(190,zpJ),(206,zgI),(216,zcK),(217,zjC),(227,zgY),(228,zaL),(263,zf5),(270,zl6),(271,zl7),(285,zdV),(287,zdU),(299,zdt),(300,zgZ),(341,znC),(342,zjJ),(352,zgK),(353,zh6),(359,zdx),(396,znA),(434,znz),(463,zg3),(464,zik)]
 gl:=[]
 dr
  | 202=>true
  | _=>false
 ax h:=∀w,Fz.on h w→zkz w
 axm hh ha w hw:=ha w fun b o e=>hw b o (hh b o e)
def G0:Sig tau:=⟨G.fs,G.ti,G.ctor,G.dtor,G.cd,G.dc,G.eq,[],[],G.dr,fun _=>True,fun _ h=>h⟩
def tyl:List (TypeId × Ty):=[(5, .u8),(9, .str),(47, .st 4),(53, .st 59),(82, .sl (.st 54)),(89, .st 25),(92, .st 2),(102, .st 1),(113, .st 3),(139, .st 11),(142, .st 14),(166, .st 34),(183, .st 54),(202, .st 18),(247, .st 20),(393, .st 46),(477, .st 47),(484, .st 43)]
def zyc:Con tau:=⟨[.sl (.st 1)],[.so 102 (.st 1)],1,[],zhy⟩
def zyd:Con tau:=⟨[.sl (.st 3)],[.so 113 (.st 3)],1,[],zfD⟩
def zBg:Con tau:=⟨[.sl .str, .str],[.str],1,[],fun p=>strings_Join p.1 p.2⟩
def znp:Con tau:=⟨[.str, .u8],[.int],1,[],fun p=>strings_IndexByte p.1 p.2⟩
def zuD:Con tau:=⟨[.int, .int],[.str],1,[],fun p=>zci p.1 p.2⟩
def zzF:Con tau:=⟨[.str, .str],[.so 9 .str],1,[],fun p=>strings_Split p.1 p.2⟩
def zzG:Con tau:=⟨[.str],[.bool],1,[],zbd⟩
def zDD:Con tau:=⟨[.str, .str],[.str, .str, .bool],3,[],fun p=>strings_Cut p.1 p.2⟩
def zvz:Con tau:=⟨[.str, .str],[.int],1,[],fun p=>strings_IndexAny p.1 p.2⟩
def zvA:Con tau:=⟨[.str, .str],[.bool],1,[],fun p=>strings_Contains p.1 p.2⟩
def zBh:Con tau:=⟨[.str, .str],[.str],1,[],fun p=>zbI p.1 p.2⟩
def zF0:Con tau:=⟨[.str],[.str],1,[],zaX⟩
def ztH:Con tau:=⟨[.str, .str, .str],[.str],1,[],fun p=>strings_ReplaceAll p.1 p.2.1 p.2.2⟩
def zwX:Con tau:=⟨[.sl (.st 20)],[.so 247 (.st 20)],1,[],zgP⟩
def zuE:Con tau:=⟨[.so 247 (.st 20), .int, .so 247 (.st 20)],[.so 247 (.st 20)],1,[],fun p=>zcj p.1 p.2.1 p.2.2⟩
def zuF:Con tau:=⟨[.str, .str],[.str],1,[],fun p=>zdp p.1 p.2⟩
def zzH:Con tau:=⟨[.str, .str],[.int],1,[],fun p=>strings_Index p.1 p.2⟩
def zMZ:Con tau:=⟨[],[.bool],1,[],fun _=>zEF⟩
def zF1:Con tau:=⟨[.st 1],[.st 1],1,[],znx⟩
def zIc:Con tau:=⟨[.st 5],[.st 7],1,[],ztg⟩
def zId:Con tau:=⟨[.sl (.st 1)],[.so 102 (.st 1)],1,[],zpG⟩
def zIe:Con tau:=⟨[.st 5],[.st 7],1,[],zth⟩
def zIf:Con tau:=⟨[.sl (.st 3)],[.so 113 (.st 3)],1,[],zpH⟩
def zIg:Con tau:=⟨[.st 2],[.st 8],1,[],zti⟩
def zIh:Con tau:=⟨[.sl (.st 2)],[.so 92 (.st 2)],1,[],ztj⟩
def zIi:Con tau:=⟨[.sl (.st 2)],[.so 92 (.st 2)],1,[],ztk⟩
def zIj:Con tau:=⟨[.st 0],[.st 9],1,[],znf⟩
def zF2:Con tau:=⟨[.str, .sl .str],[.str],1,[],fun p=>zbk p.1 p.2⟩
def zKy:Con tau:=⟨[.str],[.po 12],1,[],zgH⟩
def zqi:Con tau:=⟨[.u8],[.u8],1,[],zbQ⟩
def zsh:Con tau:=⟨[.u8],[.bool],1,[],zdU⟩
def zsi:Con tau:=⟨[.u8],[.bool],1,[],zbc⟩
def zzI:Con tau:=⟨[.u8, .str],[.bool],1,[],fun p=>zk3 p.1 p.2⟩
def zzJ:Con tau:=⟨[.u8],[.bool],1,[],zgY⟩
def zwY:Con tau:=⟨[.pt 12],[.int],1,[],zcq⟩
def zuG:Con tau:=⟨[.pt 12],[.str],1,[],zal⟩
def zvB:Con tau:=⟨[.pt 12],[.bool],1,[],zaf⟩
def zuH:Con tau:=⟨[.pt 12],[.u8, .bool],2,[],zam⟩
def zrx:Con tau:=⟨[.po 12, .fn],[.str, .po 12],1,[0],fun p=>zx p.1 p.2⟩
def zry:Con tau:=⟨[.po 12],[.str, .bool, .po 12],2,[0],zD⟩
def zsj:Con tau:=⟨[.po 12, .u8],[.bool, .po 12],1,[0],fun p=>zf p.1 p.2⟩
def zqj:Con tau:=⟨[.st 13, .po 11],[.bool, .po 11, .po 12],1,[1,32],fun p=>zbs p.1 p.2⟩
def zwZ:Con tau:=⟨[.u8],[.bool],1,[],zgI⟩
def zIk:Con tau:=⟨[.fn, .sl .str],[.bool],1,[],fun p=>zbS p.1 p.2⟩
def zzK:Con tau:=⟨[.u8],[.int],1,[],zlj⟩
def zBi:Con tau:=⟨[.str, .int, .int, .fn],[.int, .int],2,[],fun p=>zj5 p.1 p.2.1 p.2.2.1 p.2.2.2⟩
def zw0:Con tau:=⟨[.str, .int],[.int, .int],2,[],fun p=>zds p.1 p.2⟩
def zBj:Con tau:=⟨[.int, .int],[.str],1,[],fun p=>zj6 p.1 p.2⟩
def zBk:Con tau:=⟨[.int],[.str],1,[],zcX⟩
def zrk:Con tau:=⟨[.str, .int],[.bool],1,[],fun p=>zbw p.1 p.2⟩
def zDE:Con tau:=⟨[.u8],[.bool],1,[],zdV⟩
def zw1:Con tau:=⟨[.str, .bool],[.int],1,[],fun p=>zeD p.1 p.2⟩
def zBl:Con tau:=⟨[.str],[.bool],1,[],zh4⟩
def zvC:Con tau:=⟨[.str],[.bool],1,[],zh5⟩
def zmA:Con tau:=⟨[.u8],[.bool],1,[],zcK⟩
def zvD:Con tau:=⟨[.u8],[.bool],1,[],zjC⟩
def zzL:Con tau:=⟨[.str],[.bool],1,[],ze5⟩
def zDF:Con tau:=⟨[.str],[.st 14, .bool],2,[],zlX⟩
def zmr:Con tau:=⟨[.str, .u8],[.int],1,[],fun p=>zaQ p.1 p.2⟩
def zqk:Con tau:=⟨[.str, .u8],[.int],1,[],fun p=>zcD p.1 p.2⟩
def zye:Con tau:=⟨[.str],[.st 14, .int],2,[],zb4⟩
def zDG:Con tau:=⟨[.str],[.bool],1,[],zdW⟩
def zsk:Con tau:=⟨[.str, .str],[.bool],1,[],fun p=>strings_ContainsAny p.1 p.2⟩
def zw2:Con tau:=⟨[.st 13, .po 11],[.bool, .po 11, .po 12],1,[1,32],fun p=>zeE p.1 p.2⟩
def zql:Con tau:=⟨[.str, .str],[.bool],1,[],fun p=>stringslite_HasPrefix p.1 p.2⟩
def zqm:Con tau:=⟨[.str, .str],[.str, .bool],2,[],fun p=>stringslite_CutPrefix p.1 p.2⟩
def zuI:Con tau:=⟨[.str, .str],[.str, .bool],2,[],fun p=>strings_CutPrefix p.1 p.2⟩
def zqn:Con tau:=⟨[.str, .str],[.bool],1,[],fun p=>stringslite_HasSuffix p.1 p.2⟩
def zqo:Con tau:=⟨[.str, .str],[.str, .bool],2,[],fun p=>stringslite_CutSuffix p.1 p.2⟩
def zuJ:Con tau:=⟨[.str, .str],[.str, .bool],2,[],fun p=>strings_CutSuffix p.1 p.2⟩
def zpo:Con tau:=⟨[.u8],[.bool],1,[],zdt⟩
def zsl:Con tau:=⟨[.u8],[.bool],1,[],zgZ⟩
def zsm:Con tau:=⟨[.u8],[.bool],1,[],zaL⟩
def zBm:Con tau:=⟨[.str],[.bool],1,[],zm1⟩
def zrz:Con tau:=⟨[.st 13, .po 11],[.bool, .po 11, .po 12],1,[1,32],fun p=>zbT p.1 p.2⟩
def zIl:Con tau:=⟨[.str],[.st 11, .int],2,[],zng⟩
def zKz:Con tau:=⟨[.st 11],[.str, .int],2,[],zj7⟩
def zBn:Con tau:=⟨[.str],[.bool],1,[],zj8⟩
def zzM:Con tau:=⟨[.sl (.st 1)],[.int],1,[],zlk⟩
def zw3:Con tau:=⟨[.u8],[.bool],1,[],zgK⟩
def zzN:Con tau:=⟨[.str],[.bool],1,[],zll⟩
def zuK:Con tau:=⟨[.str, .str],[.bool],1,[],fun p=>strings_HasPrefix p.1 p.2⟩
def zDH:Con tau:=⟨[.str, .str],[.str, .str],2,[],fun p=>zht p.1 p.2⟩
def zBo:Con tau:=⟨[.str],[.st 15],1,[],zm2⟩
def zt6:Con tau:=⟨[.u8],[.bool],1,[],zh6⟩
def zBp:Con tau:=⟨[.str, .str],[.bool],1,[],fun p=>zgi p.1 p.2⟩
def zDI:Con tau:=⟨[.st 15],[.bool],1,[],zn4⟩
def zBq:Con tau:=⟨[.str],[.st 15, .int],2,[],zm3⟩
def zDJ:Con tau:=⟨[.str],[.bool],1,[],zhu⟩
def zyf:Con tau:=⟨[.sl (.st 1)],[.int],1,[],zj9⟩
def zDK:Con tau:=⟨[.st 5],[.int],1,[],zlY⟩
def zDL:Con tau:=⟨[.int],[.pn 24, .int],2,[],zhw⟩
def zDM:Con tau:=⟨[.int],[.pn 17, .int],2,[],zlZ⟩
def zF3:Con tau:=⟨[.int],[.sn 9 .str],1,[],zny⟩
def zw4:Con tau:=⟨[.st 20],[.int],1,[],zeG⟩
def zF4:Con tau:=⟨[.st 25],[.bool],1,[],zqD⟩
def zIm:Con tau:=⟨[],[.so 9 .str],1,[],fun _=>ztl⟩
def zlV:Con tau:=⟨[.sl .str, .str],[.int],1,[],fun p=>zbD p.1 p.2⟩
def zj0:Con tau:=⟨[.sl .str, .str],[.bool],1,[],fun p=>zo p.1 p.2⟩
def zIn:Con tau:=⟨[.str],[.bool],1,[],ztm⟩
def zIo:Con tau:=⟨[.str],[.bool],1,[],ztn⟩
def zIp:Con tau:=⟨[.str],[.bool],1,[],zpI⟩
def zF5:Con tau:=⟨[.sl (.st 3)],[.so 9 .str],1,[],zqE⟩
def zF6:Con tau:=⟨[.u8],[.bool],1,[],znz⟩
def zF7:Con tau:=⟨[.u8],[.bool],1,[],znA⟩
def zsn:Con tau:=⟨[.po 12, .str],[.bool, .po 12],1,[0],fun p=>zck p.1 p.2⟩
def ztI:Con tau:=⟨[.po 26, .str],[.po 26],0,[0],fun p=>zec p.1 p.2⟩
def zso:Con tau:=⟨[.po 26],[.bool, .po 26],1,[0],zfl⟩
def ztJ:Con tau:=⟨[.po 26],[.bool, .po 26],1,[0],zgj⟩
def zF8:Con tau:=⟨[.str],[.so 113 (.st 3), .int],2,[],zqF⟩
def zjQ:Con tau:=⟨[.sl (.st 3), .sl (.st 3)],[.bool],1,[],fun p=>zaR p.1 p.2⟩
def zIq:Con tau:=⟨[.sl (.st 3)],[.str, .int],2,[],zto⟩
def zF9:Con tau:=⟨[.int, .sl (.st 3)],[.bool],1,[],fun p=>zqG p.1 p.2⟩
def zKA:Con tau:=⟨[.st 2],[.bool],1,[],zwc⟩
def zGa:Con tau:=⟨[.st 2],[.int],1,[],zqH⟩
def zDN:Con tau:=⟨[.sl (.st 2)],[.int, .int],2,[],zjF⟩
def zIr:Con tau:=⟨[.int, .int],[.pn 19, .int],2,[],fun p=>ztp p.1 p.2⟩
def zzO:Con tau:=⟨[.int, .int],[.st 27],1,[],fun p=>zdX p.1 p.2⟩
def zDO:Con tau:=⟨[.st 5, .st 10, .sl (.st 2)],[.pn 16, .int],2,[],fun p=>zf4 p.1 p.2.1 p.2.2⟩
def zKB:Con tau:=⟨[.st 0],[.pn 28, .int],2,[],zl0⟩
def zDP:Con tau:=⟨[.st 0],[.st 29],1,[],zn6⟩
def zDQ:Con tau:=⟨[.str, .u8],[.so 9 .str],1,[],fun p=>zjG p.1 p.2⟩
def zDR:Con tau:=⟨[.u8, .int],[.int],1,[],fun p=>zl1 p.1 p.2⟩
def zBr:Con tau:=⟨[.int, .int],[.str],1,[],fun p=>zh8 p.1 p.2⟩
def zyg (n:Nat):Con tau:=⟨[.int, .int],[.str],1,[],fun p=>zee n p.1 p.2⟩
def zDS:Con tau:=⟨[.str, .int],[.str, .bool],2,[],fun p=>zn7 p.1 p.2⟩
def zGb:Con tau:=⟨[.str, .str],[.bool],1,[],fun p=>zqI p.1 p.2⟩
def zGc:Con tau:=⟨[.str, .int, .int],[.int, .int],2,[],fun p=>zqJ p.1 p.2.1 p.2.2⟩
def zGd:Con tau:=⟨[.int, .int],[.str],1,[],fun p=>zqK p.1 p.2⟩
def zDT:Con tau:=⟨[.str, .int],[.int],1,[],fun p=>zl2 p.1 p.2⟩
def zGe:Con tau:=⟨[.str],[.bool],1,[],zjp⟩
def zCO:Con tau:=⟨[.u8, .str],[.bool],1,[],fun p=>zfH p.1 p.2⟩
def zzP:Con tau:=⟨[.u8],[.bool],1,[],zh9⟩
def zDU:Con tau:=⟨[.str],[.bool],1,[],zl3⟩
def zIs:Con tau:=⟨[.str],[.bool],1,[],ztq⟩
def zn2:Con tau:=⟨[.u8],[.bool],1,[],zd0⟩
def zzQ:Con tau:=⟨[.u8],[.bool],1,[],znh⟩
def zGf:Con tau:=⟨[.str],[.bool],1,[],zk4⟩
def zKC:Con tau:=⟨[.str],[.st 14],1,[],zsI⟩
def zDV:Con tau:=⟨[.str],[.st 14, .int],2,[],zl4⟩
def zzR:Con tau:=⟨[.u8],[.bool],1,[],zpJ⟩
def zDW:Con tau:=⟨[.str],[.bool],1,[],zan⟩
def zvE:Con tau:=⟨[.u8],[.bool],1,[],zf5⟩
def zzS:Con tau:=⟨[.str],[.bool],1,[],zlq⟩
def zDX:Con tau:=⟨[.str],[.bool],1,[],zl5⟩
def zDY:Con tau:=⟨[.str],[.st 11, .int],2,[],zn8⟩
def zGg:Con tau:=⟨[.st 11],[.str, .int],2,[],zqL⟩
def zDZ:Con tau:=⟨[.sl (.st 1)],[.int],1,[],zn9⟩
def zD0:Con tau:=⟨[.str, .str],[.int],1,[],fun p=>zeO p.1 p.2⟩
def zvF:Con tau:=⟨[.u8],[.bool],1,[],zl6⟩
def zvG:Con tau:=⟨[.u8],[.bool],1,[],zl7⟩
def zBs:Con tau:=⟨[.str],[.bool],1,[],zm6⟩
def zxE:Con tau:=⟨[.u8],[.bool],1,[],znC⟩
def zKD:Con tau:=⟨[.str, .str],[.bool],1,[],fun p=>znD p.1 p.2⟩
def zGh (n:Nat):Con tau:=⟨[.str, .str],[.bool],1,[],fun p=>zjq n p.1 p.2⟩
def zD1:Con tau:=⟨[.st 15],[.bool],1,[],zoa⟩
def zD2:Con tau:=⟨[.str],[.st 15, .int],2,[],zl8⟩
def zD3:Con tau:=⟨[.sl (.st 1)],[.int],1,[],zob⟩
def zD4:Con tau:=⟨[.st 5],[.int],1,[],zoc⟩
def zBt:Con tau:=⟨[.str],[.bool],1,[],zm7⟩
def zvH:Con tau:=⟨[.u8],[.bool],1,[],zjJ⟩
def zGi:Con tau:=⟨[.str],[.str],1,[],zqM⟩
def zD5:Con tau:=⟨[.st 20],[.int],1,[],zod⟩
def zD6:Con tau:=⟨[.st 25],[.bool],1,[],zl9⟩
def zGj:Con tau:=⟨[.str],[.str],1,[],znE⟩
def zD7:Con tau:=⟨[.str],[.bool],1,[],zoe⟩
def zGk:Con tau:=⟨[.str],[.bool],1,[],zk5⟩
def zD8:Con tau:=⟨[.int],[.so 9 .str],1,[],zof⟩
def zD9:Con tau:=⟨[.sl (.st 3)],[.so 9 .str],1,[],zog⟩
def zIt:Con tau:=⟨[.str],[.st 3, .int],2,[],ztr⟩
def zEa:Con tau:=⟨[.str],[.so 113 (.st 3), .int],2,[],zoh⟩
def zGl:Con tau:=⟨[.sl (.st 3), .sl (.st 3)],[.bool],1,[],fun p=>zqN p.1 p.2⟩
def zGm:Con tau:=⟨[.sl (.st 3)],[.str, .int],2,[],zqO⟩
def zEb:Con tau:=⟨[.st 2],[.int],1,[],zoi⟩
def zEc:Con tau:=⟨[.sl (.st 2)],[.int, .int],2,[],zoj⟩
def zEd:Con tau:=⟨[.st 29],[.int],1,[],zok⟩
def zEe:Con tau:=⟨[.st 0],[.int],1,[],zjK⟩
def zvI:Con tau:=⟨[.nil],[.st 30],1,[],fun _=>zk6⟩
def zBu:Con tau:=⟨[.st 4],[.int],1,[],zkl⟩
def zuL:Con tau:=⟨[.nil],[.bool],1,[],fun _=>zg9⟩
def zsp:Con tau:=⟨[.pt 19],[.bool],1,[],zfm⟩
def zuM:Con tau:=⟨[.pt 27],[.bool],1,[],zha⟩
def ztK:Con tau:=⟨[.nil],[.bool],1,[],fun _=>zgn⟩
def zvJ:Con tau:=⟨[.pt 31],[.int],1,[],zid⟩
def zrA:Con tau:=⟨[.pt 17],[.bool],1,[],zeP⟩
def zqp:Con tau:=⟨[.pt 16],[.bool],1,[],zer⟩
def zvK:Con tau:=⟨[.nil, .str],[.int, .bool, .int],3,[],fun p=>zfN p.2⟩
def zGn:Con tau:=⟨[.int],[.int],1,[],zqP⟩
def zvL:Con tau:=⟨[.nil],[.st 33, .bool],2,[],fun _=>zd1⟩
def zM0:Con tau:=⟨[.sl (.st 20)],[.po 35],1,[],zfn⟩
def zBv:Con tau:=⟨[.pt 35],[.so 247 (.st 20)],1,[],zbF⟩
def zGo:Con tau:=⟨[.str, .str],[.bool],1,[],fun p=>zbl p.1 p.2⟩
def zyh:Con tau:=⟨[.pt 35, .str],[.so 9 .str],1,[],fun p=>zb5 p.1 p.2⟩
def zsq:Con tau:=⟨[.po 12, .int],[.bool, .po 12],1,[0],fun p=>zfo p.1 p.2⟩
def zqq:Con tau:=⟨[.po 37, .int],[.po 37],0,[0],fun p=>zcE p.1 p.2⟩
def znq:Con tau:=⟨[.po 37],[.bool, .po 37],1,[0],zct⟩
def zzT:Con tau:=⟨[.po 12],[.str, .bool, .po 12],2,[0],ziR⟩
def zpp:Con tau:=⟨[.po 37],[.bool, .po 37],1,[0],zdH⟩
def zBw:Con tau:=⟨[.str],[.so 9 .str, .int],2,[],zkm⟩
def zzU:Con tau:=⟨[.sl .str],[.so 9 .str, .int],2,[],zg1⟩
def zrB:Con tau:=⟨[.st 36, .sl .str],[.st 34, .int, .po 35],2,[32],fun p=>zeQ p.1 p.2⟩
def zqr:Con tau:=⟨[.st 36, .sl .str],[.st 34, .int, .po 35],2,[32],fun p=>zes p.1 p.2⟩
def zIu:Con tau:=⟨[.st 32, .int],[.st 34, .int],2,[],fun p=>zpK p.1 p.2⟩
def zyi:Con tau:=⟨[.st 32],[.st 34, .int],2,[],zhP⟩
def zzV:Con tau:=⟨[.sl (.st 20)],[.so 9 .str],1,[],zlv⟩
def zIv:Con tau:=⟨[.str, .pt 40],[.bool],1,[],fun p=>zni p.1 p.2⟩
def zjR:Con tau:=⟨[.sl .str, .cl 439 (.pt 40)],[.int],1,[],fun p=>zY p.1 p.2⟩
def ziD:Con tau:=⟨[.sl .str, .cl 439 (.pt 40)],[.bool],1,[],fun p=>zO p.1 p.2⟩
def zM1:Con tau:=⟨[.str, .sl .str],[.bool],1,[],fun p=>zwd p.1 p.2⟩
def zvM:Con tau:=⟨[.st 20, .pt 39],[.bool],1,[],fun p=>zcQ p.1 p.2⟩
def zhj:Con tau:=⟨[.sl (.st 20), .cl 401 (.pt 39)],[.int],1,[],fun p=>zE p.1 p.2⟩
def zgc:Con tau:=⟨[.so 247 (.st 20), .cl 401 (.pt 39)],[.so 247 (.st 20)],1,[],fun p=>zq p.1 p.2⟩
def zvN:Con tau:=⟨[.po 35, .sl .str],[.int, .po 35],1,[0],fun p=>zcR p.1 p.2⟩
def zIw:Con tau:=⟨[.sl (.st 20)],[.so 247 (.st 20)],1,[],zts⟩
def zKE:Con tau:=⟨[.str, .str],[.bool],1,[],fun p=>zsJ p.1 p.2⟩
def zGp:Con tau:=⟨[.str],[.bool],1,[],zqQ⟩
def zEf:Con tau:=⟨[.str],[.bool],1,[],zol⟩
def zIx:Con tau:=⟨[.str],[.str, .str, .bool, .int],4,[],zpL⟩
def zEg:Con tau:=⟨[.st 41, .str],[.st 41, .bool],2,[],fun p=>zmb p.1 p.2⟩
def zw5:Con tau:=⟨[.str],[.st 41, .bool],2,[],zi5⟩
def zIy:Con tau:=⟨[.str, .str],[.st 41, .bool],2,[],fun p=>ztt p.1 p.2⟩
def zBx:Con tau:=⟨[.str, .str],[.st 41, .int],2,[],fun p=>zkp p.1 p.2⟩
def zGq:Con tau:=⟨[.str, .str, .bool],[.str],1,[],fun p=>zqR p.1 p.2.1 p.2.2⟩
def zzW:Con tau:=⟨[.st 41],[.str],1,[],zlw⟩
def zzX:Con tau:=⟨[.st 14],[.str, .int],2,[],zlx⟩
def zzY:Con tau:=⟨[.st 20, .pt 40],[.bool],1,[],fun p=>zg2 p.1 p.2⟩
def zgG:Con tau:=⟨[.sl (.st 20), .cl 406 (.pt 40)],[.int],1,[],fun p=>zA p.1 p.2⟩
def zEh:Con tau:=⟨[.pt 35, .str],[.str, .bool],2,[],fun p=>zjL p.1 p.2⟩
def zzZ:Con tau:=⟨[.po 35, .sl (.st 20)],[.po 35],0,[0],fun p=>zfb p.1 p.2⟩
def zz0:Con tau:=⟨[.po 35, .str, .str],[.po 35],0,[0],fun p=>ziS p.1 p.2.1 p.2.2⟩
def zsr:Con tau:=⟨[.po 42, .st 5, .st 41],[.po 42],0,[0],fun p=>zfp p.1 p.2.1 p.2.2⟩
def zss:Con tau:=⟨[.po 42],[.st 33, .int],2,[],zcl⟩
def zuN:Con tau:=⟨[.str, .str],[.bool],1,[],fun p=>strings_HasSuffix p.1 p.2⟩
def zEi:Con tau:=⟨[.str, .sl (.st 1)],[.str, .bool],2,[],fun p=>zom p.1 p.2⟩
def zvO:Con tau:=⟨[.str, .sl (.st 1)],[.str],1,[],fun p=>zij p.1 p.2⟩
def zz1:Con tau:=⟨[.u8],[.bool],1,[],zg3⟩
def zEj:Con tau:=⟨[.str],[.st 43, .bool],2,[],zmc⟩
def zBy:Con tau:=⟨[.u8],[.bool],1,[],zik⟩
def zBz:Con tau:=⟨[.str],[.bool],1,[],znb⟩
def zBA:Con tau:=⟨[.str],[.st 45, .int],2,[],zkr⟩
def zEk:Con tau:=⟨[.st 44, .str],[.int],1,[],fun p=>zmd p.1 p.2⟩
def zGr:Con tau:=⟨[.st 44, .str],[.str, .bool],2,[],fun p=>zqS p.1 p.2⟩
def zpq:Con tau:=⟨[.str, .str],[.str],1,[],fun p=>stringslite_TrimPrefix p.1 p.2⟩
def ztL:Con tau:=⟨[.str, .str],[.str],1,[],fun p=>strings_TrimPrefix p.1 p.2⟩
def zyj:Con tau:=⟨[.str, .str],[.bool],1,[],fun p=>zks p.1 p.2⟩
def zEl:Con tau:=⟨[.str, .sl (.st 1)],[.str, .bool],2,[],fun p=>zon p.1 p.2⟩
def zGs:Con tau:=⟨[.st 44, .str, .str],[.st 45],1,[],fun p=>zqT p.1 p.2.1 p.2.2⟩
def zjS:Con tau:=⟨[.sl (.st 43), .sl (.st 43)],[.bool],1,[],fun p=>zaS p.1 p.2⟩
def zEm:Con tau:=⟨[.st 44, .st 44],[.bool],1,[],fun p=>zoo p.1 p.2⟩
def zEn:Con tau:=⟨[.st 44],[.str, .int],2,[],zop⟩
def zw6:Con tau:=⟨[.str, .sl (.st 1)],[.str],1,[],fun p=>zi7 p.1 p.2⟩
def zw7:Con tau:=⟨[.st 5, .sl (.st 20)],[.so 247 (.st 20)],1,[],fun p=>zi8 p.1 p.2⟩
def zEo:Con tau:=⟨[.st 5, .st 32],[.st 33, .int],2,[],fun p=>zoq p.1 p.2⟩
def zz2:Con tau:=⟨[.str, .str],[.st 46],1,[],fun p=>zc0 p.1 p.2⟩
def zEp:Con tau:=⟨[.st 5, .st 32],[.so 393 (.st 46)],1,[],fun p=>zor p.1 p.2⟩
def zEq:Con tau:=⟨[.st 2],[.so 9 .str],1,[],zos⟩
def zEr:Con tau:=⟨[.sl (.st 2)],[.int],1,[],zot⟩
def zz3:Con tau:=⟨[.st 25, .int],[.st 49],1,[],fun p=>zlB p.1 p.2⟩
def zEs:Con tau:=⟨[.st 2],[.st 49],1,[],zou⟩
def zpr:Con tau:=⟨[.po 48, .sl (.st 2)],[.po 48],0,[0],fun p=>zdJ p.1 p.2⟩
def zps:Con tau:=⟨[.po 48, .sl (.st 2)],[.po 48],0,[0],fun p=>zdK p.1 p.2⟩
def zw8:Con tau:=⟨[.int, .sl (.st 2)],[.so 477 (.st 47), .int],2,[],fun p=>zi9 p.1 p.2⟩
def zqs:Con tau:=⟨[.pt 50, .st 47],[.bool],1,[],fun p=>zet p.1 p.2⟩
def zIz:Con tau:=⟨[.sl (.st 46), .str],[.str],1,[],fun p=>ztu p.1 p.2⟩
def zGt:Con tau:=⟨[.str],[.str],1,[],zqU⟩
def zIA:Con tau:=⟨[.sl (.st 46), .sl (.st 20), .sl (.st 3)],[.str],1,[],fun p=>ztv p.1 p.2.1 p.2.2⟩
def zqt:Con tau:=⟨[.pt 50, .sl (.st 3)],[.str],1,[],fun p=>zcF p.1 p.2⟩
def zvP:Con tau:=⟨[.po 35, .str, .str],[.int, .po 35],1,[0],fun p=>zil p.1 p.2.1 p.2.2⟩
def zrC:Con tau:=⟨[.po 50, .st 47],[.po 50],0,[0],fun p=>zeS p.1 p.2⟩
def zqu:Con tau:=⟨[.po 50, .sl (.st 47)],[.po 50],0,[0],fun p=>zeu p.1 p.2⟩
def zEt:Con tau:=⟨[.sl (.st 46), .sl (.st 20), .sl (.st 47)],[.so 247 (.st 20)],1,[],fun p=>zov p.1 p.2.1 p.2.2⟩
def zz4:Con tau:=⟨[.sl (.st 46), .sl (.st 20), .int, .sl (.st 2)],[.so 247 (.st 20), .int],2,[],fun p=>zlD p.1 p.2.1 p.2.2.1 p.2.2.2⟩
def zEu:Con tau:=⟨[.sl .str],[.str],1,[],zme⟩
def zz5:Con tau:=⟨[.str, .sl .str],[.str],1,[],fun p=>zlE p.1 p.2⟩
def zvQ:Con tau:=⟨[.po 35, .str, .str],[.po 35],0,[0],fun p=>zd3 p.1 p.2.1 p.2.2⟩
def zGu:Con tau:=⟨[.st 11, .sl (.st 20)],[.so 247 (.st 20), .int],2,[],fun p=>zqV p.1 p.2⟩
def zyk:Con tau:=⟨[.str],[.str],1,[],zku⟩
def zyl:Con tau:=⟨[.st 5],[.so 393 (.st 46)],1,[],zkv⟩
def zBB:Con tau:=⟨[.str],[.str, .int],2,[],znc⟩
def zz6:Con tau:=⟨[.str],[.str, .int],2,[],zlF⟩
def zEv:Con tau:=⟨[.sl (.st 46)],[.str, .int],2,[],zow⟩
def zvR:Con tau:=⟨[.st 5, .sl (.st 20)],[.so 247 (.st 20), .int],2,[],fun p=>zim p.1 p.2⟩
def zKF:Con tau:=⟨[.str],[.bool],1,[],zwe⟩
def zGv:Con tau:=⟨[.str, .sl (.st 20)],[.so 247 (.st 20)],1,[],fun p=>zqW p.1 p.2⟩
def zGw:Con tau:=⟨[.st 5, .int, .st 32],[.st 33, .int],2,[],fun p=>zqX p.1 p.2.1 p.2.2⟩
def zz7:Con tau:=⟨[.st 34],[.so 247 (.st 20)],1,[],zlJ⟩
def zBC:Con tau:=⟨[.st 5, .st 34, .st 32, .sl (.st 2)],[.st 33, .int],2,[],fun p=>zin p.1 p.2.1 p.2.2.1 p.2.2.2⟩
def zrD:Con tau:=⟨[.st 51],[.int, .bool, .po 12],2,[32],zc8⟩
def zpt:Con tau:=⟨[.st 51],[.int, .int, .bool, .po 12],3,[32],zb6⟩
def zw9:Con tau:=⟨[.str],[.bool],1,[],zgS⟩
def zst:Con tau:=⟨[.u8],[.bool],1,[],zdx⟩
def zrE:Con tau:=⟨[.st 51],[.int, .bool, .po 12],2,[32],zc9⟩
def zuO:Con tau:=⟨[.str],[.st 33, .int],2,[],zhd⟩
def zvS:Con tau:=⟨[.str],[.st 33, .int],2,[],zio⟩
def zxa:Con tau:=⟨[.int, .str],[.st 33, .int],2,[],fun p=>zdu p.1 p.2⟩
def zym:Con tau:=⟨[.st 32],[.str, .int],2,[],zhU⟩
def zGx:Con tau:=⟨[.st 32],[.bool],1,[],zqY⟩
def zGy:Con tau:=⟨[.st 32],[.int],1,[],znF⟩
def zGz:Con tau:=⟨[.st 32],[.int],1,[],znG⟩
def zIB:Con tau:=⟨[.int],[.po 52],1,[],ztw⟩
def zvT:Con tau:=⟨[.pt 52],[.int],1,[],ziq⟩
def zuP:Con tau:=⟨[.po 52, .sl .str],[.int, .po 52],1,[0],fun p=>zhf p.1 p.2⟩
def ztM:Con tau:=⟨[.po 52, .sl .str],[.int, .po 52],1,[0],fun p=>zgs p.1 p.2⟩
def zsu:Con tau:=⟨[.po 53, .str],[.po 53],0,[0],fun p=>zcn p.1 p.2⟩
def zyn:Con tau:=⟨[.st 20],[.str, .int],2,[],zhV⟩
def zvU:Con tau:=⟨[.pt 52],[.str],1,[],zir⟩
def zGA:Con tau:=⟨[.st 32, .int],[.str, .int],2,[],fun p=>zjr p.1 p.2⟩
def zpu:Con tau:=⟨[.pt 16, .st 32],[.str, .st 34, .int],3,[],fun p=>zdL p.1 p.2⟩
def zEw:Con tau:=⟨[.int],[.pn 22, .int],2,[],zox⟩
def zKG:Con tau:=⟨[.st 34, .int],[.pn 21, .int],2,[],fun p=>zsK p.1 p.2⟩
def ztN:Con tau:=⟨[.pt 19],[.st 33, .bool],2,[],zcT⟩
def zyo:Con tau:=⟨[.nil, .str],[.int, .str, .bool, .int],4,[],fun p=>zhW p.2⟩
def zrF:Con tau:=⟨[.nil],[.int],1,[],fun _=>zdc⟩
def ztO:Con tau:=⟨[.nil, .str],[.str, .int],2,[],fun p=>zel p.2⟩
def ztP:Con tau:=⟨[.nil],[.so 247 (.st 20)],1,[],fun _=>zbL⟩
def ztQ:Con tau:=⟨[.nil, .sl (.st 20)],[.str, .int],2,[],fun p=>zbM p.2⟩
def zGB:Con tau:=⟨[.str, .sl .str],[.bool],1,[],fun p=>znH p.1 p.2⟩
def zIC:Con tau:=⟨[.st 32],[.bool],1,[],zpM⟩
def zGC:Con tau:=⟨[.st 32],[.st 18],1,[],zqZ⟩
def ztR:Con tau:=⟨[.nil, .sl (.st 18)],[.int],1,[],fun p=>zgt p.2⟩
def zxb:Con tau:=⟨[.st 18],[.bool],1,[],zjc⟩
def zeB:Con tau:=⟨[.sl (.st 18), .fc 258],[.int],1,[],fun p=>zy p.1⟩
def zz8:Con tau:=⟨[.sl (.st 18)],[.bool],1,[],zlL⟩
def znU:Con tau:=⟨[.nil],[.so 247 (.st 20)],1,[],fun _=>zc2⟩
def zmQ:Con tau:=⟨[.pt 22],[.so 247 (.st 20)],1,[],zb8⟩
def zrG:Con tau:=⟨[.pt 21],[.so 247 (.st 20)],1,[],zaY⟩
def zpv:Con tau:=⟨[.pt 23],[.int],1,[],zb9⟩
def zqv:Con tau:=⟨[.nil],[.int],1,[],fun _=>zcG⟩
def zyp:Con tau:=⟨[.sl (.st 20)],[.str, .int],2,[],zem⟩
def zsv:Con tau:=⟨[.nil, .sl (.st 20)],[.str, .int],2,[],fun p=>zfq p.2⟩
def zoQ:Con tau:=⟨[.pt 24],[.int],1,[],zbU⟩
def zxc:Con tau:=⟨[.int],[.str],1,[],zjd⟩
def zyq:Con tau:=⟨[.int],[.str],1,[],zkw⟩
def zxd:Con tau:=⟨[.str],[.str],1,[],zdv⟩
def zsw:Con tau:=⟨[.nil, .str],[.str, .int],2,[],fun p=>zfr p.2⟩
def zrH:Con tau:=⟨[.nil, .str],[.int, .str, .bool, .int],4,[],fun p=>zeU p.2⟩
def zuQ:Con tau:=⟨[.nil],[.int],1,[],fun _=>zeV⟩
def zGD:Con tau:=⟨[.int],[.st 55, .bool],2,[],zAm⟩
def zxe:Con tau:=⟨[.str, .int],[.bool],1,[],fun p=>zje p.1 p.2⟩
def zxf:Con tau:=⟨[.str, .st 32],[.st 34, .int],2,[],fun p=>zgT p.1 p.2⟩
def zz9:Con tau:=⟨[.str, .st 32],[.st 34, .int],2,[],fun p=>zt7 p.1 p.2⟩
def zBD:Con tau:=⟨[.st 54],[.bool],1,[],zwf⟩
def zAa:Con tau:=⟨[.str, .st 54],[.int],1,[],fun p=>zt8 p.1 p.2⟩
def zoR:Con tau:=⟨[.pn 24],[.int, .pn 24],1,[0],zfQ⟩
def zqw:Con tau:=⟨[.pn 24, .str],[.str, .int, .pn 24],2,[0],fun p=>zkQ p.1 p.2⟩
def zqx:Con tau:=⟨[.pn 24, .sl (.st 20)],[.str, .int, .pn 24],2,[0],fun p=>zkR p.1 p.2⟩
def zEx:Con tau:=⟨[.int, .str, .sl (.st 20)],[.str, .int],2,[],fun p=>zxG p.1 p.2.1 p.2.2⟩
def zAb:Con tau:=⟨[.str, .st 54, .int, .int],[.str, .int],2,[],fun p=>zt9 p.1 p.2.1 p.2.2.1 p.2.2.2⟩
def zGE:Con tau:=⟨[.int],[.str],1,[],zuY⟩
def zsx:Con tau:=⟨[.pt 17],[.int],1,[],zdy⟩
def znV:Con tau:=⟨[.po 16, .int],[.po 16],0,[0],fun p=>zaM p.1 p.2⟩
def znr:Con tau:=⟨[.po 16, .sl .str],[.po 16],0,[0],fun p=>zau p.1 p.2⟩
def zEy:Con tau:=⟨[.st 34, .int],[.pn 23, .int],2,[],fun p=>zmg p.1 p.2⟩
def zyr:Con tau:=⟨[.nil],[.bool],1,[],fun _=>zhX⟩
def zrI:Con tau:=⟨[.po 17, .sl (.st 18)],[.int, .po 17],1,[0],fun p=>zeW p.1 p.2⟩
def zqy:Con tau:=⟨[.po 24, .sl (.st 20)],[.str, .int, .po 24],2,[0],fun p=>zev p.1 p.2⟩
def zrJ:Con tau:=⟨[.po 23, .sl (.st 20)],[.str, .int, .po 23],2,[0],fun p=>zaZ p.1 p.2⟩
def zoS:Con tau:=⟨[.po 16],[.po 16],0,[0],zbV⟩
def zvV:Con tau:=⟨[.pt 21],[.bool],1,[],zfR⟩
def zoT:Con tau:=⟨[.po 16],[.po 16],0,[0],zdi⟩
def zvW:Con tau:=⟨[.pt 19],[.bool],1,[],zis⟩
def zqz:Con tau:=⟨[.po 12],[.str, .po 12],1,[0],zcH⟩
def zxg:Con tau:=⟨[.str],[.st 20, .int],2,[],zeI⟩
def zGF:Con tau:=⟨[.int, .str, .int],[.st 33, .int],2,[],fun p=>zq0 p.1 p.2.1 p.2.2⟩
def ztS:Con tau:=⟨[.po 19, .str],[.bool, .int, .po 19],2,[0],fun p=>zgu p.1 p.2⟩
def ztT:Con tau:=⟨[.po 19, .u8],[.bool, .int, .po 19],2,[0],fun p=>zgv p.1 p.2⟩
def ztU:Con tau:=⟨[.po 19, .str],[.int, .bool, .int, .po 19],3,[0],fun p=>zen p.1 p.2⟩
def zqA:Con tau:=⟨[.po 24, .str],[.str, .int, .po 24],2,[0],fun p=>zey p.1 p.2⟩
def zrK:Con tau:=⟨[.po 23, .str],[.str, .int, .po 23],2,[0],fun p=>zdd p.1 p.2⟩
def zpw:Con tau:=⟨[.po 22, .str],[.str, .po 22],1,[0],fun p=>zdM p.1 p.2⟩
def zoU:Con tau:=⟨[.po 22, .u8],[.int, .po 22],1,[0],fun p=>zdm p.1 p.2⟩
def zEz:Con tau:=⟨[.str, .int],[.int, .int],2,[],fun p=>zoA p.1 p.2⟩
def zAc:Con tau:=⟨[.po 12],[.str, .bool, .po 12],2,[0],zlM⟩
def zrL:Con tau:=⟨[.st 56],[.st 43, .bool, .po 12],2,[32],zeX⟩
def zxh:Con tau:=⟨[.str],[.int, .so 484 (.st 43), .int],3,[],zjf⟩
def zpx:Con tau:=⟨[.po 22, .str],[.int, .po 22],1,[0],fun p=>zdN p.1 p.2⟩
def zns:Con tau:=⟨[.po 22, .str],[.bool, .int, .po 22],2,[0],fun p=>zcw p.1 p.2⟩
def zoV:Con tau:=⟨[.po 22, .u8],[.bool, .int, .po 22],2,[0],fun p=>zdn p.1 p.2⟩
def zpy:Con tau:=⟨[.po 22, .str],[.int, .str, .bool, .int, .po 22],4,[0],fun p=>zdO p.1 p.2⟩
def zpz:Con tau:=⟨[.po 22, .str],[.int, .str, .bool, .int, .po 22],4,[0],fun p=>zdP p.1 p.2⟩
def zvX:Con tau:=⟨[.po 21, .str],[.int, .str, .bool, .int, .po 21],4,[0],fun p=>zfS p.1 p.2⟩
def znt:Con tau:=⟨[.po 16, .str],[.int, .po 16],1,[0],fun p=>zcz p.1 p.2⟩
def zpA:Con tau:=⟨[.po 16, .sl .str],[.po 16],0,[0],fun p=>zZ p.1 p.2⟩
def zoW:Con tau:=⟨[.po 16],[.po 16],0,[0],zS⟩
def zpB:Con tau:=⟨[.po 16, .int],[.po 16],0,[0],fun p=>zaw p.1 p.2⟩
def znW:Con tau:=⟨[.po 16],[.po 16],0,[0],zB⟩
def znX:Con tau:=⟨[.po 16, .str],[.int, .int, .po 16],2,[0],fun p=>zbA p.1 p.2⟩
def zmR:Con tau:=⟨[.po 16],[.str, .po 16],1,[0],zcf⟩
def zlW:Con tau:=⟨[.po 16],[.str, .po 16],1,[0],zbG⟩
def zvY:Con tau:=⟨[.nil],[.int],1,[],fun _=>zit⟩
def zys:Con tau:=⟨[.nil],[.int],1,[],fun _=>zhY⟩
def zsy:Con tau:=⟨[.nil],[.int],1,[],fun _=>zbm⟩
def zrM:Con tau:=⟨[.nil],[.int],1,[],fun _=>zeY⟩
def zpC:Con tau:=⟨[.pt 24],[.int],1,[],zdQ⟩
def zqB:Con tau:=⟨[.pt 23],[.int],1,[],zaO⟩
def zrN:Con tau:=⟨[.nil],[.int],1,[],fun _=>zeZ⟩
def zpD:Con tau:=⟨[.pt 22],[.int],1,[],zdR⟩
def zvZ:Con tau:=⟨[.pt 21],[.int],1,[],zfT⟩
def ztV:Con tau:=⟨[.pt 19],[.int],1,[],zgw⟩
def zuR:Con tau:=⟨[.pt 27],[.int],1,[],ze0⟩
def zsz:Con tau:=⟨[.pt 16],[.st 57],1,[],zfv⟩
def zv0:Con tau:=⟨[.po 28],[.po 28],0,[0],zw⟩
def zsA:Con tau:=⟨[.nil],[.st 18, .bool],2,[],fun _=>zfw⟩
def zEA:Con tau:=⟨[.st 34, .int],[.st 34],1,[],fun p=>zoB p.1 p.2⟩
def zuS:Con tau:=⟨[.pt 31],[.st 18, .bool],2,[],zhg⟩
def zqC:Con tau:=⟨[.pt 17],[.st 18, .bool],2,[],zez⟩
def zuT:Con tau:=⟨[.nil],[.bool],1,[],fun _=>zhh⟩
def znu:Con tau:=⟨[.po 16, .st 32, .st 18],[.int, .po 16],1,[0],fun p=>zcA p.1 p.2.1 p.2.2⟩
def zAd:Con tau:=⟨[.st 32, .bool, .int],[.st 33],1,[],fun p=>zlN p.1 p.2.1 p.2.2⟩
def zsB:Con tau:=⟨[.po 17],[.bool, .po 17],1,[0],zfx⟩
def zmS:Con tau:=⟨[.po 16],[.po 16],0,[0],zaj⟩
def zoX:Con tau:=⟨[.po 16, .st 32, .st 18],[.int, .po 16],1,[0],fun p=>zdo p.1 p.2.1 p.2.2⟩
def znv:Con tau:=⟨[.po 16],[.po 16],0,[0],zcB⟩
def zmT:Con tau:=⟨[.po 16, .str],[.int, .po 16],1,[0],fun p=>zcg p.1 p.2⟩
def zmU:Con tau:=⟨[.po 16, .str],[.int, .int, .po 16],2,[0],fun p=>zak p.1 p.2⟩
def zms:Con tau:=⟨[.po 16],[.int, .po 16],1,[0],zaU⟩
def zAe:Con tau:=⟨[.nil],[.bool, .int],2,[],fun _=>zlO⟩
def zxi:Con tau:=⟨[.po 21],[.bool, .int, .po 21],2,[0],zjg⟩
def zk1:Con tau:=⟨[.po 16],[.int, .po 16],1,[0],zT⟩
def zBE:Con tau:=⟨[.pn 28, .st 4],[.int, .int, .pn 28],2,[0],fun p=>ze1 p.1 p.2⟩
def zpE:Con tau:=⟨[.pt 16],[.bool],1,[],zax⟩
def ztW:Con tau:=⟨[.pn 28],[.st 30, .pn 28],1,[0],zcU⟩
def zBF:Con tau:=⟨[.st 30, .st 30],[.bool],1,[],fun p=>zgy p.1 p.2⟩
def zv1:Con tau:=⟨[.pn 28],[.int, .pn 28],1,[0],ziu⟩
def zKH:Con tau:=⟨[.st 0],[.st 30, .int],2,[],zsL⟩
def zv2:Con tau:=⟨[.st 0],[.bool],1,[],ziv⟩
theorem zAf:Tryz.prog.follows .mixedOrders=true:=by kernel_rfl
theorem hNm:∀(f:FuncId) (fn:Func),Tryz.prog.funcs[f]? = some fn→(fn.name == "runtime.NumGoroutine")=false:=zMa (by kernel_rfl)
theorem heq1:∀x y,G.eq 1 x y=eqD (G.fs 1) (G.dtor 1 x) (G.dtor 1 y):=fun ⟨a0,a1⟩ ⟨b0,b1⟩=>by
 show ((⟨a0,a1⟩:zWK)==⟨b0,b1⟩)=(a0==b0&&a1==b1);rw [Bool.eq_iff_iff];simp [zWK.mk.injEq]
theorem heq3:∀x y,G.eq 3 x y=eqD (G.fs 3) (G.dtor 3 x) (G.dtor 3 y):=fun ⟨a0,a1⟩ ⟨b0,b1⟩=>by
 show ((⟨a0,a1⟩:zWz)==⟨b0,b1⟩)=(a0==b0&&a1==b1);rw [Bool.eq_iff_iff];simp [zWz.mk.injEq]
theorem heq4:∀x y,G.eq 4 x y=eqD (G.fs 4) (G.dtor 4 x) (G.dtor 4 y):=fun ⟨a0,a1⟩ ⟨b0,b1⟩=>by
 show ((⟨a0,a1⟩:zXh)==⟨b0,b1⟩)=(a0==b0&&a1==b1);rw [Bool.eq_iff_iff];simp [zXh.mk.injEq]
theorem heq11:∀x y,G.eq 11 x y=eqD (G.fs 11) (G.dtor 11 x) (G.dtor 11 y):=fun ⟨a0,a1,a2,a3⟩ ⟨b0,b1,b2,b3⟩=>by
 show ((⟨a0,a1,a2,a3⟩:zWP)==⟨b0,b1,b2,b3⟩)=(a0==b0&&(a1==b1&&(a2==b2&&(a3==b3))));rw [Bool.eq_iff_iff];simp [zWP.mk.injEq]
theorem heq14:∀x y,G.eq 14 x y=eqD (G.fs 14) (G.dtor 14 x) (G.dtor 14 y):=fun ⟨a0,a1,a2⟩ ⟨b0,b1,b2⟩=>by
 show ((⟨a0,a1,a2⟩:zW0)==⟨b0,b1,b2⟩)=(a0==b0&&(a1==b1&&(a2==b2)));rw [Bool.eq_iff_iff];simp [zW0.mk.injEq]
theorem heq18:∀x y,G.eq 18 x y=eqD (G.fs 18) (G.dtor 18 x) (G.dtor 18 y):=fun ⟨a0,a1,a2⟩ ⟨b0,b1,b2⟩=>by
 show ((⟨a0,a1,a2⟩:zWH)==⟨b0,b1,b2⟩)=(a0==b0&&(a1==b1&&(a2==b2)));rw [Bool.eq_iff_iff];simp [zWH.mk.injEq]
theorem heq20:∀x y,G.eq 20 x y=eqD (G.fs 20) (G.dtor 20 x) (G.dtor 20 y):=fun ⟨a0,a1⟩ ⟨b0,b1⟩=>by
 show ((⟨a0,a1⟩:zWx)==⟨b0,b1⟩)=(a0==b0&&a1==b1);rw [Bool.eq_iff_iff];simp [zWx.mk.injEq]
theorem heq25:∀x y,G.eq 25 x y=eqD (G.fs 25) (G.dtor 25 x) (G.dtor 25 y):=fun ⟨a0,a1,a2⟩ ⟨b0,b1,b2⟩=>by
 show ((⟨a0,a1,a2⟩:zXe)==⟨b0,b1,b2⟩)=(a0==b0&&(a1==b1&&(a2==b2)));rw [Bool.eq_iff_iff];simp [zXe.mk.injEq]
theorem heq34:∀x y,G.eq 34 x y=eqD (G.fs 34) (G.dtor 34 x) (G.dtor 34 y):=fun ⟨a0,a1⟩ ⟨b0,b1⟩=>by
 show ((⟨a0,a1⟩:zWG)==⟨b0,b1⟩)=(a0==b0&&a1==b1);rw [Bool.eq_iff_iff];simp [zWG.mk.injEq]
theorem heq43:∀x y,G.eq 43 x y=eqD (G.fs 43) (G.dtor 43 x) (G.dtor 43 y):=fun ⟨a0,a1,a2⟩ ⟨b0,b1,b2⟩=>by
 show ((⟨a0,a1,a2⟩:zW4)==⟨b0,b1,b2⟩)=(a0==b0&&(a1==b1&&(a2==b2)));rw [Bool.eq_iff_iff];simp [zW4.mk.injEq]
theorem heq46:∀x y,G.eq 46 x y=eqD (G.fs 46) (G.dtor 46 x) (G.dtor 46 y):=fun ⟨a0,a1⟩ ⟨b0,b1⟩=>by
 show ((⟨a0,a1⟩:zWW)==⟨b0,b1⟩)=(a0==b0&&a1==b1);rw [Bool.eq_iff_iff];simp [zWW.mk.injEq]
theorem heq59:∀x y,G.eq 59 x y=eqD (G.fs 59) (G.dtor 59 x) (G.dtor 59 y):=fun ⟨a0,a1,a2,a3⟩ ⟨b0,b1,b2,b3⟩=>by
 show ((⟨a0,a1,a2,a3⟩:zXM)==⟨b0,b1,b2,b3⟩)=(a0==b0&&(a1==b1&&(a2==b2&&(a3==b3))));rw [Bool.eq_iff_iff];simp [zXM.mk.injEq]
theorem heq:∀n∈[1,3,4,11,14,18,20,25,34,43,46,59], ∀x y,G.eq n x y=eqD (G.fs n) (G.dtor n x) (G.dtor n y):=by
 intro n hn;simp only [List.mem_cons,List.not_mem_nil,or_false] at hn
 rcases hn with rfl|rfl|rfl|rfl|rfl|rfl|rfl|rfl|rfl|rfl|rfl|rfl
 ·exact heq1
 ·exact heq3
 ·exact heq4
 ·exact heq11
 ·exact heq14
 ·exact heq18
 ·exact heq20
 ·exact heq25
 ·exact heq34
 ·exact heq43
 ·exact heq46
 ·exact heq59
theorem tyk:∀cs n,TyOk (⟨Tryz.prog,G,tyl,cs,n,fun _ => .bool false⟩:Cx tau):=zMb [1,3,4,11,14,18,20,25,34,43,46,59] (by kernel_rfl) (by kernel_rfl) heq
theorem tyk0:∀cs n,TyOk (⟨Tryz.prog,G0,tyl,cs,n,fun _ => .bool false⟩:Cx tau):=zMb [1,3,4,11,14,18,20,25,34,43,46,59] (by kernel_rfl) (by kernel_rfl) heq
theorem cqG {f:FuncId} {fn:Func} {k:Con tau} (C:CLs Tryz.prog G) (n:Nat) (h1:Tryz.prog.funcs[f]? = some fn) (hn:Hn tau (DP tau k.rs)) (h2:fnB fn n k=true:=by kernel_rfl) (hF:ztX (⟨Tryz.prog,G,tyl,C.cs,n,fun _ => .bool false⟩:Cx tau) k (bdyF fn) fn.results.toList hn:=by unfold ztX; kernel_rfl):COk Tryz.prog G f k:=zDi zAf hNm tyk C n h1 h2 hF
abbrev za:FuncId→Con tau→Prop:=COk Tryz.prog G
theorem cqH {f:FuncId} {fn:Func} {k:Con tau} (C:CLs Tryz.prog G0) (n:Nat) (h1:Tryz.prog.funcs[f]? = some fn) (hn:Hn tau (DP tau k.rs)) (h2:fnB fn n k=true:=by kernel_rfl) (hF:ztX (⟨Tryz.prog,G0,tyl,C.cs,n,fun _ => .bool false⟩:Cx tau) k (bdyF fn) fn.results.toList hn:=by unfold ztX; kernel_rfl):COk Tryz.prog G0 f k:=zDi zAf hNm tyk0 C n h1 h2 hF
abbrev zj1:FuncId→Con tau→Prop:=COk Tryz.prog G0
theorem zJS {w:World} (hG:zkz w):zrU Tryz.prog G (fun b=>w.heap[b]?):=⟨fun p hp=>(by cases hp),fun w' on=>hG.same (zOz on) fun g hg=>by
 have hlt:g<w.heap.size:=Nat.lt_of_lt_of_le hg hG.size;rw [Array.getElem?_eq_getElem hlt]
 exact on g _ (Array.getElem?_eq_getElem hlt)⟩
end
end
end Go.Proofs
end
section
set_option linter.unusedVariables false
set_option maxRecDepth 10000
namespace Go.Proofs
open Go.Dk Go.Dm Go.RowKit Go.Rk
theorem zx9 (p:DP tau [.st 0]) (_:rgXs G [.st 0] p):ziv p=some true:=zK0 p
end Go.Proofs
end
section
set_option linter.unusedVariables false
set_option maxRecDepth 100000
namespace Go.Proofs
open Go.Dk Go.Dm Go.RowKit Go.Rk
noncomputable section
theorem zpQ:COk Tryz.prog G 38 zyc:=zzm rfl ⟨_,Tryz.func38,by kernel_rfl,by kernel_rfl⟩ fun w h xs R ad c on gl hm hs hc=>zjm xs R w (gl.2 w on).1 hs hc hm
theorem zlc:COk Tryz.prog G 39 zyd:=zzm rfl ⟨_,Tryz.func39,by kernel_rfl,by kernel_rfl⟩ fun w h xs R ad c on gl hm hs hc=>zjn xs R w (gl.2 w on).1 hs hc hm
theorem zAL:COk Tryz.prog G 139 zBg:=zL8 ⟨_,Tryz.func139,by kernel_rfl,by kernel_rfl⟩ fun w h xs s R ad c on gl hm hs hc=>zy8 xs s R w (gl.2 w on).1 (by rw [show cells zkA xs=xs.map str from zKi xs]; exact hs) hc hm
theorem zdz:COk Tryz.prog G 291 znp:=zfy rfl rfl rfl rfl ⟨_,Tryz.func291,by kernel_rfl,by kernel_rfl⟩ fun w h p r on gl hm=>ztB p.1 p.2 r w (gl.2 w on).1 hm
theorem ztY:COk Tryz.prog G 289 zuD:=zfy rfl rfl rfl rfl ⟨_,Tryz.func289,by kernel_rfl,by kernel_rfl⟩ fun w h p r on gl hm=>ztC p.1 p.2 r w (gl.2 w on) hm
theorem zmt:COk Tryz.prog G 284 zzF:=zL7 rfl rfl ⟨_,Tryz.func284,by kernel_rfl,by kernel_rfl⟩ fun w h p R on gl hm=>by
 have:=zxV p.1 p.2 R w (gl.2 w on).1 hm;rw [show zr8 G .str R=cells zkA R from rfl];exact this
theorem zlP:COk Tryz.prog G 212 zDD:=zfy rfl rfl rfl rfl ⟨_,Tryz.func212,by kernel_rfl,by kernel_rfl⟩ fun w h p r on gl hm=>zA6 p.1 p.2 r w (gl.2 w on).1 hm
theorem zjs:COk Tryz.prog G 152 zvz:=zfy rfl rfl rfl rfl ⟨_,Tryz.func152,by kernel_rfl,by kernel_rfl⟩ fun w h p r on gl hm=>zur p.1 p.2 r w (gl.2 w on).1 hm
theorem zu6:COk Tryz.prog G 298 zvA:=zfy rfl rfl rfl rfl ⟨_,Tryz.func298,by kernel_rfl,by kernel_rfl⟩ fun w h p r on gl hm=>zuq p.1 p.2 r w (gl.2 w on).1 hm
theorem zfX:COk Tryz.prog G 229 zBh:=zfy rfl rfl rfl rfl ⟨_,Tryz.func229,by kernel_rfl,by kernel_rfl⟩ fun w h p r on gl hm=>zy7 p.1 p.2 r w (gl.2 w on).1 hm
theorem zsU:COk Tryz.prog G 309 ztH:=zfy rfl rfl rfl rfl ⟨_,Tryz.func309,by kernel_rfl,by kernel_rfl⟩ fun w h p r on gl hm=>zrV p.1 p.2.1 p.2.2 r w (gl.2 w on).1 hm
theorem zoF:COk Tryz.prog G 337 zwX:=zzm rfl ⟨_,Tryz.func337,by kernel_rfl,by kernel_rfl⟩ fun w h xs R ad c on gl hm hs hc=>ziC xs R w (gl.2 w on).1 hs hc hm
theorem ztZ:COk Tryz.prog G 407 zuE:=zOw rfl rfl ⟨_,Tryz.func407,by kernel_rfl,by kernel_rfl⟩ fun w h xs i ys R ad ad2 c c2 F on gl hF hm hO=>zPd xs i ys R w hO hm
theorem zt0:COk Tryz.prog G 454 zuF:=zfy rfl rfl rfl rfl ⟨_,Tryz.func454,by kernel_rfl,by kernel_rfl⟩ fun w h p r on gl hm=>ztD p.1 p.2 r w (gl.2 w on).1 hm
theorem zyy:COk Tryz.prog G 315 zzH:=zfy rfl rfl rfl rfl ⟨_,Tryz.func315,by kernel_rfl,by kernel_rfl⟩ fun w h p r on gl hm=>zmn p.1 p.2 r w (gl.2 w on).1 hm
-- doorstep/octet.Lower
theorem zoZ:zj1 290 zqi:=cqH CLs.nil 12 Tryz.func290 .e
-- doorstep/octet.IsAlpha
theorem zjh:zj1 287 zsh:=cqH (CLs.nil.add zoZ) 11 Tryz.func287 .e
-- doorstep/octet.IsDigit
theorem zgV:zj1 151 zsi:=cqH CLs.nil 9 Tryz.func151 .e
theorem ib0 (s:Str) (c:UInt8) (R:Int) (w0:World) (hm:strings_IndexByte s c=some R):Calls Tryz.prog 291 #[str s,zcW c] w0 fun e w'=>e = .returned (int R)∧Below w0.heap.size w0 w':=by
 refine (Tryz.strings_IndexByte ⟨s.toArray⟩ c.toNat w0).mono fun e w' ⟨he,hw⟩=>?_;subst he hw;refine ⟨?_,Below.refl _ _⟩;unfold strings_IndexByte at hm;rw [zxU] at hm;cases hm;simp
theorem zmD:COk Tryz.prog G0 291 znp:=zfy rfl rfl rfl rfl ⟨_,Tryz.func291,by kernel_rfl,by kernel_rfl⟩ fun w h p r on gl hm=>ib0 p.1 p.2 r w hm
-- doorstep/octet.one
theorem zoG:zj1 288 zzI:=cqH (CLs.nil.add zmD) 9 Tryz.func288 .e
-- doorstep/octet.IsToken
theorem zyz:zj1 227 zzJ:=cqH (((CLs.nil.add zoG).add zgV).add zjh) 13 Tryz.func227 .e
-- (doorstep/via.reader).by$1
theorem zwr:zj1 206 zwZ:=cqH CLs.nil 5 Tryz.func206 .e
-- doorstep/octet.IsHex
theorem zBS:zj1 285 zDE:=cqH ((CLs.nil.add zoZ).add zgV) 15 Tryz.func285 .e
-- doorstep/octet.IsVisible
theorem zkE:zj1 299 zpo:=cqH CLs.nil 9 Tryz.func299 .e
-- doorstep/octet.IsBlank
theorem zrl:zj1 300 zsl:=cqH CLs.nil 9 Tryz.func300 .e
-- doorstep/octet.IsValue
theorem zrm:zj1 228 zsm:=cqH ((CLs.nil.add zrl).add zkE) 13 Tryz.func228 .e
-- doorstep/uriref.scheme$1
theorem zws:zj1 352 zw3:=cqH ((CLs.nil.add zgV).add zjh) 21 Tryz.func352 .e
-- doorstep/tmpl.small
theorem zEW:zj1 434 zF6:=cqH CLs.nil 9 Tryz.func434 .e
-- doorstep/tmpl.plain
theorem zEX:zj1 396 zF7:=cqH (CLs.nil.add zrm) 9 Tryz.func396 .e
-- doorstep/cookie.part$1
theorem zyA:zj1 463 zz1:=cqH CLs.nil 3 Tryz.func463 .e
-- doorstep/cookie.plain
theorem zAM:zj1 464 zBy:=cqH ((CLs.nil.add zmD).add zkE) 10 Tryz.func464 .e
-- doorstep/startline.request$1
theorem zrP:zj1 359 zst:=cqH CLs.nil 5 Tryz.func359 .e
-- doorstep/doorstepref01.In
theorem zld:zj1 269 zCO:=cqH CLs.nil 17 Tryz.func269 (.n 1 (.q (.n 1 (.w [(0, .u8),(1, .str),(5, .int)] [] (fun m t=>zjH t.1 t.2.1 m t.2.2) fun n0 => .e)) .e))
-- doorstep/doorstepref01.Hex
theorem zG4:zj1 183 zzP:=cqH (CLs.nil.add zld) 5 Tryz.func183 .e
-- doorstep/doorstepref01.Unreserved
theorem znL:zj1 184 zn2:=cqH (CLs.nil.add zld) 5 Tryz.func184 .e
-- doorstep/doorstepref01.Sub
theorem zxM:zj1 185 zzQ:=cqH (CLs.nil.add zld) 5 Tryz.func185 .e
-- doorstep/doorstepref01.Tok
theorem zG5:zj1 190 zzR:=cqH (CLs.nil.add zld) 5 Tryz.func190 .e
-- doorstep/octet.IsUnreserved
theorem zmk:zj1 216 zmA:=cqH (((CLs.nil.add zoG).add zgV).add zjh) 13 Tryz.func216 .e
-- doorstep/octet.IsSub
theorem zuc:zj1 217 zvD:=cqH (CLs.nil.add zoG) 5 Tryz.func217 .e
-- doorstep/doorstepref01.Value
theorem zBT:zj1 263 zvE:=cqH CLs.nil 13 Tryz.func263 .e
-- doorstep/doorstepref01.Alpha
theorem zBU:zj1 270 zvF:=cqH (CLs.nil.add zld) 5 Tryz.func270 .e
-- doorstep/doorstepref01.Digit
theorem zBV:zj1 271 zvG:=cqH (CLs.nil.add zld) 5 Tryz.func271 .e
-- doorstep/doorstepref01.Path
theorem zEY:zj1 341 zxE:=cqH ((CLs.nil.add zxM).add znL) 17 Tryz.func341 .e
-- doorstep/doorstepref01.Blank
theorem zBW:zj1 342 zvH:=cqH CLs.nil 9 Tryz.func342 .e
-- doorstep/octet.IsPath
theorem zAN:zj1 353 zt6:=cqH (((CLs.nil.add zoG).add zuc).add zmk) 13 Tryz.func353 .e
theorem zle:∀h,zrU Tryz.prog G0 h:=fun h=>⟨fun p hp=>(by cases hp),trivial⟩
theorem zlf:zC2 Tryz.prog G0:=fun p hp=>by cases hp
theorem fpok:zC2 Tryz.prog G:=zbq (zf3 (m:=zbc) zle zlf zgV) (zbq (zf3 (m:=zh9) zle zlf zG4) (zbq (zf3 (m:=zd0) zle zlf znL) (zbq (zf3 (m:=znh) zle zlf zxM) (zbq (zf3 (m:=zpJ) zle zlf zG5) (zbq (zf3 (m:=zgI) zle zlf zwr) (zbq (zf3 (m:=zcK) zle zlf zmk) (zbq (zf3 (m:=zjC) zle zlf zuc) (zbq (zf3 (m:=zgY) zle zlf zyz) (zbq (zf3 (m:=zaL) zle zlf zrm) (zbq (zf3 (m:=zf5) zle zlf zBT) (zbq (zf3 (m:=zl6) zle zlf zBU) (zbq (zf3 (m:=zl7) zle zlf zBV) (zbq (zf3 (m:=zdV) zle zlf zBS) (zbq (zf3 (m:=zdU) zle zlf zjh) (zbq (zf3 (m:=zdt) zle zlf zkE) (zbq (zf3 (m:=zgZ) zle zlf zrl) (zbq (zf3 (m:=znC) zle zlf zEY) (zbq (zf3 (m:=zjJ) zle zlf zBW) (zbq (zf3 (m:=zgK) zle zlf zws) (zbq (zf3 (m:=zh6) zle zlf zAN) (zbq (zf3 (m:=zdx) zle zlf zrP) (zbq (zf3 (m:=znA) zle zlf zEX) (zbq (zf3 (m:=znz) zle zlf zEW) (zbq (zf3 (m:=zg3) zle zlf zyA) (zbq (zf3 (m:=zik) zle zlf zAM) (fp_nil))))))))))))))))))))))))))
-- doorstep/doorsteplaw26.swap
theorem zEZ:za 58 zF1:=cqG CLs.nil 18 Tryz.func58 .e
-- doorstep/doorsteplaw26.Few
theorem zG6:za 31 zIc:=cqG (CLs.nil.add zEZ) 86 Tryz.func31 (.n 2 (.q (.n 1 (.w [(1, .po 5),(2, .po 7),(3, .po 6),(4, .int)] [] (fun m t=>zR t.1 m t.2.2.1 t.2.2.2) fun n0 => .n 1 (.j [(1, .po 5),(2, .po 7),(3, .po 6),(4, .int)] [] (fun t=>zv6 (zR t.1 n0) t.2.2.1 t.2.2.2) .e .e))) (.j [(1, .po 5),(2, .po 7),(5, .po 7)] [] (fun t=>zv7 t.1 t.2.2) .e (.q (.n 1 (.w [(1, .po 5),(2, .po 7),(5, .po 7),(6, .int)] [] (fun m t=>zdD t.1 m t.2.2.1 t.2.2.2) fun n1 => .q (.j [(1, .po 5),(2, .po 7),(5, .po 7),(6, .int),(49, .bool)] [] (fun t=>zmW (zdD t.1 n1) t.1 t.2.2.1 t.2.2.2.1 t.2.2.2.2) .e .e) .e)) (.q (.n 1 (.w [(1, .po 5),(2, .po 7),(5, .po 7),(7, .int)] [] (fun m t=>zge t.1 m t.2.2.1 t.2.2.2) fun n2 => .q (.j [(1, .po 5),(2, .po 7),(5, .po 7),(7, .int),(71, .bool)] [] (fun t=>zmV (zge t.1 n2) t.1 t.2.2.1 t.2.2.2.1 t.2.2.2.2) .e .e) .e)) .e)))))
-- doorstep/doorsteplaw29.Few
theorem zG7:za 32 zId:=cqG CLs.nil 46 Tryz.func32 (.n 2 (.q (.n 1 (.w [(0, .sl (.st 1)),(3, .so 102 (.st 1)),(4, .int)] [] (fun m t=>zgf t.1 m t.2.1 t.2.2) fun n0 => .q (.j [(0, .sl (.st 1)),(3, .so 102 (.st 1)),(4, .int),(12, .bool)] [] (fun t=>zmX (zgf t.1 n0) t.1 t.2.1 t.2.2.1 t.2.2.2) .e .e) .e)) .e))
-- doorstep/doorsteplaw39.Few
theorem zG8:za 13 zIe:=cqG ((CLs.nil.add zG7).add zG6) 15 Tryz.func13 .e
-- doorstep/doorsteplaw31.Few
theorem zG9:za 90 zIf:=cqG CLs.nil 38 Tryz.func90 (.n 2 (.q (.n 1 (.w [(0, .sl (.st 3)),(3, .so 113 (.st 3)),(4, .int)] [] (fun m t=>zgg t.1 m t.2.1 t.2.2) fun n0 => .q (.j [(0, .sl (.st 3)),(3, .so 113 (.st 3)),(4, .int),(12, .bool)] [] (fun t=>zmY (zgg t.1 n0) t.1 t.2.1 t.2.2.1 t.2.2.2) .e .e) .e)) .e))
-- doorstep/doorsteplaw32.Few
theorem zHa:za 59 zIg:=cqG (CLs.nil.add zG9) 50 Tryz.func59 (.n 2 (.q (.n 1 (.w [(1, .po 2),(2, .po 8),(3, .po 6),(4, .int)] [] (fun m t=>zX t.1 m t.2.2.1 t.2.2.2) fun n0 => .n 1 (.j [(1, .po 2),(2, .po 8),(3, .po 6),(4, .int)] [] (fun t=>zv8 (zX t.1 n0) t.2.2.1 t.2.2.2) .e .e))) (.j [(1, .po 2),(2, .po 8),(3, .po 6)] [] (fun t=>zwb t.1 t.2.2) .e (.j [(1, .po 2),(2, .po 8),(3, .po 6)] [] (fun t=>zwa t.1 t.2.2) .e (.j [(1, .po 2),(2, .po 8),(3, .po 6)] [] (fun t=>zv9 t.1 t.2.2) .e (.j [(1, .po 2),(2, .po 8)] [] (fun t=>zmZ t.1) .e .e))))))
-- doorstep/doorsteplaw35.Few
theorem zHb:za 33 zIh:=cqG (CLs.nil.add zHa) 24 Tryz.func33 (.n 2 (.q (.n 1 (.w [(0, .sl (.st 2)),(3, .so 92 (.st 2)),(4, .int)] [] (fun m t=>zgh t.1 m t.2.1 t.2.2) fun n0 => .q (.j [(0, .sl (.st 2)),(3, .so 92 (.st 2)),(4, .int),(12, .bool)] [] (fun t=>zm0 (zgh t.1 n0) t.1 t.2.1 t.2.2.1 t.2.2.2) .e .e) .e)) .e))
-- doorstep/doorsteplaw40.Few
theorem zHc:za 14 zIi:=cqG (CLs.nil.add zHb) 31 Tryz.func14 (.n 2 (.q (.n 1 (.w [(3, .so 92 (.st 2)),(4, .int)] [] (fun m t=>zj3 m t.1 t.2) fun n0 => .e)) .e))
-- doorstep/doorsteplaw46.Few
theorem zHd:za 5 zIj:=cqG ((CLs.nil.add zHc).add zG8) 36 Tryz.func5 .e
-- doorstep/quill.Join
theorem zbH:za 91 zF2:=cqG (CLs.nil.add zAL) 8 Tryz.func91 .e
-- doorstep/scan.New
theorem zgz:za 140 zKy:=cqG CLs.nil 6 Tryz.func140 .e
-- doorstep/octet.Lower
theorem zud:za 290 zqi:=cqG CLs.nil 12 Tryz.func290 .e
-- doorstep/octet.IsAlpha
theorem zrn:za 287 zsh:=cqG (CLs.nil.add zud) 11 Tryz.func287 .e
-- doorstep/octet.IsDigit
theorem zmu:za 151 zsi:=cqG CLs.nil 9 Tryz.func151 .e
-- doorstep/octet.one
theorem zsV:za 288 zzI:=cqG (CLs.nil.add zdz) 9 Tryz.func288 .e
-- doorstep/octet.IsToken
theorem ze2:za 280 zwY:=cqG CLs.nil 9 Tryz.func280 .e
-- (*doorstep/scan.Scanner).Rest
theorem zdA:za 209 zuG:=cqG CLs.nil 14 Tryz.func209 .e
-- (*doorstep/scan.Scanner).End
theorem zbb:za 207 zvB:=cqG (CLs.nil.add zdA) 6 Tryz.func207 .e
-- (*doorstep/scan.Scanner).Peek
theorem zco:za 204 zuH:=cqG (CLs.nil.add zbb) 15 Tryz.func204 .e
-- (*doorstep/scan.Scanner).While
theorem zL:za 205 zrx:=cqG ((CLs.nil.add zco).add ze2) 42 Tryz.func205 (.n 2 (.q (.w [(9000, .po 12),(1, .fn),(5, .int)] [(0,9000)] (fun m t=>zbR t.2.1 t.2.2 m t.1) fun n0 => .e) .e))
-- (*doorstep/scan.Scanner).Token
theorem zaz:za 203 zry:=cqG (CLs.nil.add zL) 10 Tryz.func203 .e
-- (*doorstep/scan.Scanner).Byte
theorem zp:za 142 zsj:=cqG (CLs.nil.add zco) 26 Tryz.func142 .e
-- (doorstep/via.reader).protocol
theorem zpR:za 141 zqj:=cqG ((CLs.nil.add zp).add zaz) 37 Tryz.func141 (.n 3 (.j [(9001, .po 11),(9032, .po 12),(6, .bool)] [] (fun t=>zbu t.1 t.2.1 t.2.2) (.j [(9001, .po 11),(2, .po 13),(5, .str),(6, .bool),(22, .bool)] [(9032,100002),(1,9001)] (fun t=>zbv t.1 t.2.1 t.2.2.1 t.2.2.2.1 t.2.2.2.2) .e .e) .e))
-- (doorstep/via.reader).by$1
theorem zbr:za 219 zIk:=cqG CLs.nil 27 Tryz.func219 (.n 1 (.q (.n 1 (.w [(0, .fn),(8, .sl .str),(9, .int),(10, .int)] [] (fun m t=>zh3 t.1 t.2.1 t.2.2.1 m t.2.2.2) fun n0 => .n 2 (.q (.n 2 (.w [(0, .fn),(6, .str),(8, .sl .str),(9, .int),(10, .int),(15, .int),(16, .int)] [] (fun m t=>zj4 (zh3 t.1 t.2.2.1 t.2.2.2.1 n0) t.1 t.2.1 t.2.2.2.2.1 t.2.2.2.2.2.1 m t.2.2.2.2.2.2) fun n1 => .e)) .e))) .e))
-- doorstep/numeral.worth
theorem zyB:za 220 zzK:=cqG ((CLs.nil.add zud).add zmu) 13 Tryz.func220 .e
-- doorstep/numeral.read
theorem zsW:za 150 zBi:=cqG ((CLs.nil.add zyB).add zbr) 50 Tryz.func150 (.n 3 (.q (.n 1 (.w [(0, .str),(1, .int),(2, .int),(10, .int),(23, .int),(24, .int)] [] (fun m t=>zgJ t.1 t.2.1 t.2.2.1 t.2.2.2.2.1 m t.2.2.2.1 t.2.2.2.2.2) fun n0 => .e)) .e))
-- doorstep/numeral.Decimal
theorem zhi:za 96 zw0:=cqG (CLs.nil.add zsW) 11 Tryz.func96 .e
-- doorstep/numeral.text
theorem zsX:za 218 zBj:=cqG (CLs.nil.add ztY) 10 Tryz.func218 .e
-- doorstep/numeral.Text
theorem zfY:za 149 zBk:=cqG (CLs.nil.add zsX) 5 Tryz.func149 .e
-- doorstep/hostport.small
theorem zpS:za 95 zrk:=cqG ((CLs.nil.add zfY).add zhi) 21 Tryz.func95 .e
theorem zeJ:COk Tryz.prog G 146 zzG:=zfy rfl rfl rfl rfl ⟨_,Tryz.func146,by kernel_rfl,by kernel_rfl⟩ fun w h p r on gl hm=>by
 have hm:zbd p=some r:=hm;unfold zbd at hm
 split at hm
 ·rename_i hs
  obtain ⟨bs,hbs,hm⟩:=ob hm;cases hm;exact zPp (fun x=>zbw x 255) (fun x b W hG h=>zzn (k:=zrk) rfl rfl rfl rfl zpS fpok (p:=(x,(255:Int))) (r:=b) h (h:=fun b=>W.heap[b]?) (fun _ _ e=>e) (zJS hG)) p hs bs hbs w (gl.2 w on)
 ·cases hm
-- doorstep/octet.IsHex
theorem zwt:za 213 zw1:=cqG (((CLs.nil.add zbr).add zeJ).add zmt) 53 Tryz.func213 (.n 4 (.q (.n 1 (.w [(1, .bool),(5, .so 9 .str),(6, .int),(14, .int),(15, .int)] [(13,5)] (fun m t=>zav t.1 t.2.1 t.2.2.2.1 m t.2.2.1 t.2.2.2.2) fun n0 => .n 2 (.q (.n 1 (.j [(1, .bool),(5, .so 9 .str),(6, .int),(8, .str),(14, .int),(15, .int),(20, .bool)] [(13,5)] (fun t=>zeb (zav t.1 t.2.1 t.2.2.2.2.1 n0) t.2.2.1 t.2.2.2.1 t.2.2.2.2.2.1 t.2.2.2.2.2.2) .e (.q .e (.j [(1, .bool),(5, .so 9 .str),(6, .int),(14, .int),(15, .int),(35, .bool)] [(13,5)] (fun t=>zea (zav t.1 t.2.1 t.2.2.2.1 n0) t.2.2.1 t.2.2.2.2.1 t.2.2.2.2.2) .e .e)))) .e))) .e))
-- doorstep/hostport.Six
theorem znM:za 145 zBl:=cqG ((CLs.nil.add zwt).add zlP) 35 Tryz.func145 .e
-- doorstep/hostport.percent
theorem zu7:za 215 zvC:=cqG (CLs.nil.add zbr) 17 Tryz.func215 .e
-- doorstep/octet.IsUnreserved
theorem zml:za 216 zmA:=cqG (((CLs.nil.add zsV).add zmu).add zrn) 13 Tryz.func216 .e
-- doorstep/octet.IsSub
theorem zue:za 217 zvD:=cqG (CLs.nil.add zsV) 5 Tryz.func217 .e
-- doorstep/hostport.Name
theorem zmv:za 147 zzL:=cqG (((CLs.nil.add zue).add zml).add zu7) 23 Tryz.func147 (.n 2 (.q (.w [(0, .str)] [] (fun m t=>zcL m t) fun n0 => .e) .e))
-- doorstep/hostport.of
theorem zBX:za 93 zDF:=cqG (((CLs.nil.add zmv).add zeJ).add znM) 51 Tryz.func93 (.n 2 (.q (.j [(0, .str),(2, .po 14),(4, .po 14),(7, .bool)] [] (fun t=>zfB t.1 t.2.2.1 t.2.2.2) .e .e) .e))
-- internal/bytealg.LastIndexByteString
theorem zmm:za 148 zmr:=cqG CLs.nil 19 Tryz.func148 (.n 1 (.q (.n 1 (.w [(0, .str),(1, .u8),(5, .int)] [] (fun m t=>zag t.1 t.2.1 m t.2.2) fun n0 => .e)) .e))
-- strings.LastIndexByte
theorem zjM:za 94 zqk:=cqG (CLs.nil.add zmm) 8 Tryz.func94 .e
-- doorstep/hostport.Parse
theorem zd6:za 61 zye:=cqG ((((CLs.nil.add zhi).add zpS).add zjM).add zBX) 49 Tryz.func61 .e
-- doorstep/octet.Token
theorem zfi:za 154 zDG:=cqG (CLs.nil.add zbr) 10 Tryz.func154 .e
-- strings.ContainsAny
theorem zeA:za 98 zsk:=cqG (CLs.nil.add zjs) 9 Tryz.func98 .e
-- (doorstep/via.reader).by
theorem zwu:za 143 zw2:=cqG ((((CLs.nil.add zeA).add zfi).add zd6).add zL) 38 Tryz.func143 (.n 3 (.j [(9001, .po 11),(9032, .po 12),(4, .bool)] [] (fun t=>zcM t.1 t.2.1 t.2.2) .e .e))
-- internal/stringslite.HasPrefix
theorem zfZ:za 53 zql:=cqG CLs.nil 18 Tryz.func53 .e
-- internal/stringslite.CutPrefix
theorem zpT:za 281 zqm:=cqG (CLs.nil.add zfZ) 15 Tryz.func281 .e
-- strings.CutPrefix
theorem ziF:za 208 zuI:=cqG (CLs.nil.add zpT) 11 Tryz.func208 .e
-- internal/stringslite.HasSuffix
theorem zjN:za 345 zqn:=cqG CLs.nil 21 Tryz.func345 .e
-- internal/stringslite.CutSuffix
theorem zpU:za 282 zqo:=cqG (CLs.nil.add zjN) 18 Tryz.func282 .e
-- strings.CutSuffix
theorem zmE:za 210 zuJ:=cqG (CLs.nil.add zpU) 11 Tryz.func210 .e
-- doorstep/octet.IsVisible
theorem zwv:za 299 zpo:=cqG CLs.nil 9 Tryz.func299 .e
-- doorstep/octet.IsBlank
theorem zyC:za 300 zsl:=cqG CLs.nil 9 Tryz.func300 .e
-- doorstep/octet.IsValue
theorem zro:za 228 zsm:=cqG ((CLs.nil.add zyC).add zwv) 13 Tryz.func228 .e
-- doorstep/via.balanced
theorem zAO:za 211 zBm:=cqG (CLs.nil.add zbr) 41 Tryz.func211 (.n 2 (.q (.n 1 (.w [(0, .str),(3, .int),(4, .int)] [] (fun m t=>zbC t.1 m t.2.1 t.2.2) fun n0 => .n 1 (.q (.j [(0, .str),(3, .int),(4, .int)] [] (fun t=>zeF (zbC t.1 n0) t.1 t.2.1 t.2.2) .e .e) .e))) .e))
-- (doorstep/via.reader).comment
theorem zq9:za 144 zrz:=cqG (((((CLs.nil.add zAO).add zmE).add ziF).add zdA).add zbb) 40 Tryz.func144 (.n 5 (.j [(9001, .po 11),(9032, .po 12),(4, .bool)] [] (fun t=>zah t.1 t.2.1 t.2.2) .e .e))
-- doorstep/via.Parse
theorem zHe:za 92 zIl:=cqG (((((CLs.nil.add zq9).add zwu).add zp).add zpR).add zgz) 30 Tryz.func92 .e
-- doorstep/via.Text
theorem zAP:za 60 zKz:=cqG ((CLs.nil.add zHe).add zbH) 44 Tryz.func60 (.n 2 (.j [(1, .po 11),(4, .so 9 .str)] [] (fun t=>zjE t.1 t.2) .e (.j [(1, .po 11),(4, .so 9 .str)] [] (fun t=>zjD t.1 t.2) .e .e)))
-- doorstep/domains.name
theorem zAQ:za 97 zBn:=cqG ((CLs.nil.add zeJ).add zmv) 10 Tryz.func97 .e
-- doorstep/domains.Check
theorem zyD:za 62 zzM:=cqG ((CLs.nil.add zeA).add zAQ) 30 Tryz.func62 (.n 1 (.q (.n 1 (.w [(0, .sl (.st 1)),(5, .sl (.st 1)),(6, .int),(7, .int)] [] (fun m t=>zfC t.1 t.2.1 t.2.2.1 m t.2.2.2) fun n0 => .e)) .e))
-- doorstep/uriref.scheme$1
theorem zyE:za 295 zzN:=cqG ((CLs.nil.add zbr).add zrn) 17 Tryz.func295 .e
-- strings.HasPrefix
theorem zbp:za 26 zuK:=cqG (CLs.nil.add zfZ) 8 Tryz.func26 .e
-- doorstep/uriref.upto
theorem zuf:za 296 zDH:=cqG (CLs.nil.add zjs) 19 Tryz.func296 .e
-- doorstep/uriref.parts
theorem zAR:za 225 zBo:=cqG ((((CLs.nil.add zuf).add zbp).add zyE).add zdz) 56 Tryz.func225 (.n 2 (.j [(0, .str),(2, .po 15),(3, .po 15)] [] (fun t=>zgN t.1 t.2.2) (.n 1 (.j [(0, .str),(2, .po 15),(3, .po 15),(4, .int),(14, .bool)] [] (fun t=>zi2 t.1 t.2.2.1 t.2.2.2.1 t.2.2.2.2) .e .e)) (.j [(0, .str),(2, .po 15),(3, .po 15)] [] (fun t=>zgM t.1 t.2.2) .e (.n 1 (.j [(0, .str),(2, .po 15),(3, .po 15)] [] (fun t=>zgL t.1 t.2.2) .e (.j [(2, .po 15),(3, .po 15)] [] (fun t=>zi1 t.2) .e .e))))))
-- doorstep/octet.IsPath
theorem zsY:za 353 zt6:=cqG (((CLs.nil.add zsV).add zue).add zml) 13 Tryz.func353 .e
-- doorstep/uriref.bytes
theorem zAS:za 297 zBp:=cqG (((CLs.nil.add zdz).add zsY).add zbr) 49 Tryz.func297 (.n 1 (.q (.n 1 (.w [(0, .str),(1, .str),(5, .int)] [] (fun m t=>zcr t.1 t.2.1 m t.2.2) fun n0 => .n 1 (.q (.n 1 (.q .e (.j [(0, .str),(1, .str),(5, .int),(35, .bool)] [] (fun t=>zi3 (zcr t.1 t.2.1 n0) t.2.2.1 t.2.2.2) .e .e))) .e))) .e))
-- doorstep/uriref.well
theorem zBY:za 226 zDI:=cqG ((((CLs.nil.add zbp).add zu6).add zAS).add zuf) 63 Tryz.func226 .e
-- doorstep/uriref.Parse
theorem zAT:za 153 zBq:=cqG ((CLs.nil.add zBY).add zAR) 12 Tryz.func153 .e
-- doorstep/location.is
theorem zug:za 99 zDJ:=cqG (CLs.nil.add zAT) 12 Tryz.func99 .e
-- doorstep/location.Check
theorem zxw:za 63 zyf:=cqG (CLs.nil.add zug) 30 Tryz.func63 (.n 1 (.q (.n 1 (.w [(0, .sl (.st 1)),(5, .sl (.st 1)),(6, .int),(7, .int)] [] (fun m t=>zeM t.1 t.2.1 t.2.2.1 m t.2.2.2) fun n0 => .e)) .e))
-- doorstep/stage.Check
theorem zuh:za 34 zDK:=cqG ((((CLs.nil.add zxw).add zyD).add zd6).add zAP) 54 Tryz.func34 (.n 2 (.q (.n 1 (.j [(1, .po 5),(6, .int),(30, .bool)] [] (fun t=>zka t.1 t.2.1 t.2.2) .e .e)) (.q (.j [(1, .po 5),(44, .bool)] [] (fun t=>zhv t.1 t.2) .e .e) .e)))
-- doorstep/enchunk.New
theorem zlQ:za 35 zDL:=cqG CLs.nil 13 Tryz.func35 .e
-- doorstep/pairing.New
theorem zBZ:za 36 zDM:=cqG CLs.nil 14 Tryz.func36 .e
-- doorstep/rule.Known
theorem zww:za 100 zF3:=cqG CLs.nil 10 Tryz.func100 .e
-- doorstep/fieldline.Check
theorem zkF:za 155 zw4:=cqG (((CLs.nil.add zfX).add zbr).add zfi) 22 Tryz.func155 .e
-- doorstep/rule.guard
theorem zE0:za 101 zF4:=cqG ((CLs.nil.add zkF).add zfi) 35 Tryz.func101 (.n 1 (.q (.n 2 (.q .e (.j [(1, .po 25),(4, .int),(15, .bool)] [] (fun t=>zlm t.1 t.2.1 t.2.2) .e .e))) .e))
-- doorstep/hop.names
theorem zxN:za 307 zIm:=cqG CLs.nil 2 Tryz.func307 .e
theorem zdS:COk Tryz.prog G 232 zF0:=zfy rfl rfl rfl rfl ⟨_,Tryz.func232,by kernel_rfl,by kernel_rfl⟩ fun w h p r on gl hm=>by
 have hm:(if List.length (α:=UInt8) p<4294967281 then List.mapM zbQ p else none)=some r:=hm
 split at hm
 ·rename_i hs
  exact zKt zbQ ⟨List.toArray (α:=UInt8) p⟩ r w (gl.2 w on).1 hs hm fun b c w hbc _=>zzn (k:=zqi) rfl rfl rfl rfl zoZ zlf (p:=b) (r:=c) hbc (h:=fun _=>none) (fun _ _ e=>by cases e) (zle _)
 ·cases hm
-- slices.Index[[]string,string]
theorem zlg:za 308 zlV:=cqG CLs.nil 19 Tryz.func308 (.n 1 (.q (.n 1 (.w [(0, .sl .str),(1, .str),(7, .int),(8, .int)] [] (fun m t=>zab t.1 t.2.1 t.2.2.1 m t.2.2.2) fun n0 => .e)) .e))
-- slices.Contains[[]string,string]
theorem zC:za 231 zj0:=cqG (CLs.nil.add zlg) 9 Tryz.func231 .e
-- doorstep/hop.Fixed
theorem zHf:za 230 zIn:=cqG (((CLs.nil.add zC).add zdS).add zxN) 7 Tryz.func230 .e
-- doorstep/rule.Kept
theorem zHg:za 156 zIo:=cqG (((CLs.nil.add zC).add zdS).add zHf) 13 Tryz.func156 .e
-- doorstep/rule.free
theorem zxO:za 102 zIp:=cqG ((CLs.nil.add zHg).add zfi) 10 Tryz.func102 .e
-- doorstep/tmpl.Names
theorem zE1:za 233 zF5:=cqG (CLs.nil.add zC) 29 Tryz.func233 (.n 2 (.q (.n 1 (.w [(3, .so 9 .str),(6, .sl (.st 3)),(7, .int),(8, .int)] [] (fun m t=>ze6 t.2.1 t.2.2.1 m t.1 t.2.2.2) fun n0 => .n 2 (.q (.n 1 (.j [(3, .so 9 .str),(5, .po 3),(6, .sl (.st 3)),(7, .int),(8, .int),(21, .bool)] [] (fun t=>zln (ze6 t.2.2.1 t.2.2.2.1 n0) t.1 t.2.1 t.2.2.2.2.1 t.2.2.2.2.2) .e .e)) .e))) .e))
-- doorstep/tmpl.small
theorem zkU:za 393 zsn:=cqG ((CLs.nil.add zbp).add zdA) 21 Tryz.func393 .e
-- (*doorstep/tmpl.reader).text
theorem zsZ:za 394 ztI:=cqG CLs.nil 48 Tryz.func394 (.q (.n 1 (.j [(9000, .po 26),(1, .str),(4, .int),(23, .bool)] [(0,9000)] (fun t=>zeq t.1 t.2.1 t.2.2.1 t.2.2.2) .e .e)) .e)
-- (*doorstep/tmpl.reader).named
theorem zrQ:za 395 zso:=cqG (((CLs.nil.add zL).add zaz).add zp) 46 Tryz.func395 (.n 2 (.j [(9000, .po 26),(3, .po 3)] [(0,9000)] (fun t=>zdF t.1 t.2) .e (.n 1 (.j [(9000, .po 26),(2, .bool)] [] (fun t=>zdE t.1 t.2) .e .e))))
-- (*doorstep/tmpl.reader).step
theorem zs0:za 357 ztJ:=cqG ((((CLs.nil.add zL).add zrQ).add zsZ).add zkU) 30 Tryz.func357 .e
-- doorstep/tmpl.Parse
theorem zE2:za 310 zF8:=cqG (((CLs.nil.add zs0).add zbb).add zgz) 28 Tryz.func310 (.n 2 (.q (.w [(4, .po 26)] [] (fun m t=>ziL m t) fun n0 => .e) .e))
-- slices.Equal[[]doorstep/api.Part,doorstep/api.Part]
theorem zjt:za 311 zjQ:=cqG CLs.nil 26 Tryz.func311 (.n 2 (.q (.n 1 (.w [(0, .sl (.st 3)),(1, .sl (.st 3)),(12, .int),(13, .int)] [] (fun m t=>zM t.1 t.2.1 t.2.2.1 m t.2.2.2) fun n0 => .e)) .e))
-- doorstep/tmpl.Text
theorem zHh:za 234 zIq:=cqG ((((CLs.nil.add zjt).add zE2).add zbH).add zsU) 57 Tryz.func234 (.n 2 (.q (.n 1 (.w [(0, .sl (.st 3)),(4, .so 9 .str),(10, .sl (.st 3)),(11, .int),(12, .int)] [] (fun m t=>zdG t.1 t.2.2.1 t.2.2.2.1 m t.2.1 t.2.2.2.2) fun n0 => .n 2 (.j [(0, .sl (.st 3)),(4, .so 9 .str),(10, .sl (.st 3)),(11, .int),(12, .int)] [] (fun t=>zh7 (zdG t.1 t.2.2.1 t.2.2.2.1 n0) t.2.1 t.2.2.2.2) .e .e))) .e))
-- doorstep/rule.parts
theorem zE3:za 157 zF9:=cqG ((((CLs.nil.add zHh).add zC).add zE1).add zww) 31 Tryz.func157 (.n 1 (.j [(1, .sl (.st 3)),(5, .so 9 .str)] [] (fun t=>zlo t.1 t.2) .e (.q (.n 1 (.w [(1, .sl (.st 3)),(5, .so 9 .str),(13, .so 9 .str),(14, .int),(15, .int)] [] (fun m t=>ziM t.1 t.2.1 t.2.2.1 t.2.2.2.1 m t.2.2.2.2) fun n0 => .e)) .e)))
-- doorstep/rule.act
theorem zI1:za 103 zKA:=cqG ((CLs.nil.add zxO).add zE3) 41 Tryz.func103 (.n 1 (.q (.n 1 (.q (.q (.j [(1, .po 2)] [] (fun t=>zn5 t) .e .e) .e) .e)) .e))
-- doorstep/rule.Check
theorem zE4:za 64 zGa:=cqG ((((CLs.nil.add zI1).add zxO).add zE0).add zww) 24 Tryz.func64 .e
-- doorstep/check.Check
theorem zo0:za 37 zDN:=cqG (CLs.nil.add zE4) 24 Tryz.func37 (.n 1 (.q (.n 1 (.w [(0, .sl (.st 2)),(7, .sl (.st 2)),(8, .int),(9, .int)] [] (fun m t=>zhx t.1 t.2.1 t.2.2.1 m t.2.2.2) fun n0 => .e)) .e))
-- doorstep/accum.New
theorem zxP:za 65 zIr:=cqG CLs.nil 24 Tryz.func65 (.n 1 (.q (.j [(0, .int),(1, .int),(19, .bool)] [] (fun t=>zgk t.1 t.2.1 t.2.2) .e .e) .e))
-- doorstep/gateway.fresh
theorem zji:za 40 zzO:=cqG (CLs.nil.add zxP) 15 Tryz.func40 .e
-- doorstep/gateway.New
theorem zB0:za 15 zDO:=cqG (((((((CLs.nil.add zji).add zlc).add zpQ).add zo0).add zBZ).add zlQ).add zuh) 106 Tryz.func15 (.n 2 (.j [(2, .sl (.st 2)),(3, .po 5),(4, .po 10),(10, .int)] [] (fun t=>zfF t.1 t.2.1 t.2.2.1 t.2.2.2) .e (.j [(2, .sl (.st 2)),(3, .po 5),(4, .po 10),(10, .int),(11, .pn 17),(12, .int)] [] (fun t=>zfE t.1 t.2.1 t.2.2.1 t.2.2.2.1 t.2.2.2.2.1 t.2.2.2.2.2) .e (.n 4 (.q (.n 1 (.w [(4, .po 10),(15, .po 16),(72, .sl (.st 2)),(73, .int),(74, .int)] [] (fun m t=>zed t.1 t.2.2.1 t.2.2.2.1 m t.2.1 t.2.2.2.2) fun n0 => .e)) .e)))))
-- doorstep/wire.New
theorem zAU:za 6 zKB:=cqG (CLs.nil.add zB0) 52 Tryz.func6 .e
-- doorstep/doorstepref46.Setup
theorem zB1:za 21 zDP:=cqG CLs.nil 10 Tryz.func21 .e
-- doorstep/doorstepref08.Parts
theorem zo1:za 177 zDQ:=cqG CLs.nil 34 Tryz.func177 (.n 3 (.q (.n 1 (.w [(0, .str),(1, .u8),(5, .so 9 .str),(6, .int),(7, .int)] [] (fun m t=>zfG t.1 t.2.1 m t.2.2.1 t.2.2.2.1 t.2.2.2.2) fun n0 => .e)) .e))
-- doorstep/doorstepref03.worth
theorem zui:za 268 zDR:=cqG CLs.nil 26 Tryz.func268 (.n 3 (.q (.n 1 (.w [(0, .u8),(1, .int),(5, .str),(6, .str),(7, .int)] [] (fun m t=>znB t.1 t.2.1 t.2.2.1 t.2.2.2.1 m t.2.2.2.2) fun n0 => .e)) .e))
-- doorstep/doorstepref03.Digits
theorem zpV:∀n,COk Tryz.prog G 267 (zyg n)
 | 0=>zFH ⟨_,Tryz.func267,by kernel_rfl,by kernel_rfl⟩ fun _=>rfl
 | n+1=>by
  have h:=zpV n;exact zDi zAf hNm tyk (CLs.nil.add h) 29 Tryz.func267 (by kernel_rfl) (hn := .e) (by unfold ztX; kernel_rfl)
theorem znN:COk Tryz.prog G 267 zBr:=zpV fuel
-- doorstep/doorstepref03.Plain
theorem zB2:za 265 zDS:=cqG ((CLs.nil.add znN).add zui) 38 Tryz.func265 (.n 2 (.q (.n 1 (.w [(0, .str),(1, .int),(6, .str),(7, .int)] [] (fun m t=>zef t.1 t.2.1 m t.2.2.1 t.2.2.2) fun n0 => .n 1 (.q (.n 2 (.j [(0, .str),(1, .int),(6, .str),(7, .int),(8, .int),(27, .bool)] [] (fun t=>zkb (zef t.1 t.2.1 n0) t.2.1 t.2.2.1 t.2.2.2.1 t.2.2.2.2.1 t.2.2.2.2.2) .e .e)) .e))) .e))
-- doorstep/doorstepref03.Less
theorem zE5:za 266 zGb:=cqG CLs.nil 22 Tryz.func266 .e
-- doorstep/doorstepref03.Read
theorem zE6:za 181 zGc:=cqG ((((CLs.nil.add zui).add zE5).add znN).add zB2) 45 Tryz.func181 (.n 5 (.q (.n 1 (.w [(1, .int),(8, .str),(10, .int),(11, .int)] [] (fun m t=>ziN t.1 t.2.1 m t.2.2.1 t.2.2.2) fun n0 => .e)) .e))
-- doorstep/doorstepref03.Text
theorem zE7:za 182 zGd:=cqG (CLs.nil.add znN) 10 Tryz.func182 .e
-- doorstep/doorstepref08.Small
theorem zuj:za 127 zDT:=cqG ((CLs.nil.add zE7).add zE6) 25 Tryz.func127 .e
-- doorstep/doorstepref08.Four
theorem zra:za 129 zGe:=cqG ((CLs.nil.add zuj).add zo1) 22 Tryz.func129 (.n 2 (.q (.n 1 (.w [(3, .so 9 .str),(4, .int)] [] (fun m t=>ziO t.1 m t.2) fun n0 => .e)) .e))
-- doorstep/doorstepref01.In
theorem zfj:za 269 zCO:=cqG CLs.nil 17 Tryz.func269 (.n 1 (.q (.n 1 (.w [(0, .u8),(1, .str),(5, .int)] [] (fun m t=>zjH t.1 t.2.1 m t.2.2) fun n0 => .e)) .e))
-- doorstep/doorstepref01.Hex
theorem zs1:za 183 zzP:=cqG (CLs.nil.add zfj) 5 Tryz.func183 .e
-- doorstep/doorstepref08.whole
theorem zB3:za 264 zDU:=cqG (((CLs.nil.add zs1).add zra).add zo1) 64 Tryz.func264 (.n 3 (.q (.n 1 (.w [(3, .so 9 .str),(4, .int),(5, .int)] [] (fun m t=>zc5 t.1 m t.2.1 t.2.2) fun n0 => .n 1 (.q (.q (.j [(3, .so 9 .str),(4, .int),(5, .int),(26, .bool)] [] (fun t=>zkc (zc5 t.1 n0) t.1 t.2.1 t.2.2.1 t.2.2.2) .e .e) (.q (.n 1 (.w [(3, .so 9 .str),(4, .int),(5, .int),(6, .int)] [] (fun m t=>zhz (zc5 t.1 n0) t.1 t.2.1 t.2.2.1 m t.2.2.2) fun n1 => .e)) .e)) .e))) .e))
-- doorstep/doorstepref08.Six
theorem zHi:za 180 zIs:=cqG (CLs.nil.add zB3) 59 Tryz.func180 (.n 1 (.q (.n 1 (.w [(0, .str),(3, .int)] [] (fun m t=>zia t.1 m t.2) fun n0 => .n 1 (.q (.n 1 (.q (.n 1 (.w [(0, .str),(3, .int),(4, .int)] [] (fun m t=>zeN t.1 t.2.1 m t.2.2) fun n1 => .n 1 (.q (.n 1 (.q (.n 1 (.w [(0, .str),(3, .int),(4, .int),(5, .str),(6, .int)] [] (fun m t=>zgl (zeN t.1 t.2.1 n1) t.1 t.2.1 t.2.2.1 m t.2.2.2.1 t.2.2.2.2) fun n2 => .n 1 (.q (.j [(0, .str),(3, .int),(4, .int),(5, .str),(6, .int)] [] (fun t=>zm4 (zgl (zeN t.1 t.2.1 n1) t.1 t.2.1 t.2.2.1 n2) t.2.2.2.1 t.2.2.2.2) .e .e) .e))) (.j [(0, .str),(3, .int),(4, .int),(5, .str)] [] (fun t=>zm5 (zeN t.1 t.2.1 n1) t.2.2.1 t.2.2.2) .e .e))) .e))) .e)) .e))) .e))
-- doorstep/doorstepref01.Unreserved
theorem znO:za 184 zn2:=cqG (CLs.nil.add zfj) 5 Tryz.func184 .e
-- doorstep/doorstepref01.Sub
theorem zxQ:za 185 zzQ:=cqG (CLs.nil.add zfj) 5 Tryz.func185 .e
-- doorstep/doorstepref08.Name
theorem zwx:za 128 zGf:=cqG (((CLs.nil.add zxQ).add znO).add zs1) 52 Tryz.func128 (.n 1 (.q (.n 1 (.w [(0, .str),(3, .int)] [] (fun m t=>zdY t.1 m t.2) fun n0 => .n 1 (.q (.n 1 (.j [(0, .str),(3, .int),(48, .bool)] [] (fun t=>zlp (zdY t.1 n0) t.2.1 t.2.2) .e .e)) .e))) .e))
-- doorstep/doorstepref08.of
theorem zI2:za 126 zKC:=cqG (((CLs.nil.add zwx).add zra).add zHi) 42 Tryz.func126 (.n 1 (.q (.j [(0, .str),(2, .po 14),(26, .bool)] [] (fun t=>zjI t.1 t.2.2) .e .e) .e))
-- doorstep/doorstepref08.Parse
theorem zuk:za 82 zDV:=cqG ((CLs.nil.add zuj).add zI2) 45 Tryz.func82 (.n 3 (.q (.n 1 (.w [(0, .str),(2, .po 14),(4, .po 14),(5, .int)] [] (fun m t=>zhA t.1 m t.2.2.2) fun n0 => .e)) .e))
-- doorstep/doorstepref01.Tok
theorem zHj:za 190 zzR:=cqG (CLs.nil.add zfj) 5 Tryz.func190 .e
-- doorstep/doorstepref01.Token
theorem ziY:za 132 zDW:=cqG (CLs.nil.add zHj) 18 Tryz.func132 (.n 1 (.q (.n 1 (.w [(0, .str),(3, .int)] [] (fun m t=>zhB t.1 m t.2) fun n0 => .e)) .e))
-- doorstep/doorstepref01.Value
theorem zo2:za 263 zvE:=cqG CLs.nil 13 Tryz.func263 .e
-- doorstep/doorstepref25.Comment
theorem zyF:za 179 zzS:=cqG (CLs.nil.add zo2) 49 Tryz.func179 (.n 2 (.q (.n 1 (.w [(0, .str),(3, .int),(4, .int)] [] (fun m t=>zbe t.1 m t.2.1 t.2.2) fun n0 => .n 1 (.q (.n 2 (.j [(0, .str),(3, .int),(4, .int)] [] (fun t=>zic (zbe t.1 n0) t.1 t.2.1 t.2.2) .e (.j [(0, .str),(3, .int),(4, .int)] [] (fun t=>zib (zbe t.1 n0) t.2.1 t.2.2) .e .e))) .e))) .e))
-- doorstep/doorstepref25.comma
theorem zB4:za 178 zDX:=cqG CLs.nil 26 Tryz.func178 (.n 1 (.q (.n 1 (.w [(0, .str),(3, .int)] [] (fun m t=>zhC t.1 m t.2) fun n0 => .e)) .e))
-- doorstep/doorstepref25.Parse
theorem zB5:za 125 zDY:=cqG (((((CLs.nil.add zB4).add zyF).add ziY).add zuk).add zo1) 149 Tryz.func125 (.n 2 (.q (.w [(0, .str),(2, .po 11),(4, .int)] [] (fun m t=>zeh t.1 m t.2.2) fun n0 => .q (.j [(0, .str),(2, .po 11),(4, .int),(21, .bool)] [] (fun t=>zke (zeh t.1 n0) t.1 t.2.2.1 t.2.2.2) .e .e) .e) (.n 2 (.q (.w [(0, .str),(2, .po 11),(4, .int),(5, .int)] [] (fun m t=>zeg t.1 t.2.2.1 m t.2.2.2) fun n1 => .q (.j [(0, .str),(2, .po 11),(4, .int),(5, .int),(40, .bool)] [] (fun t=>zkd (zeg t.1 t.2.2.1 n1) t.1 t.2.2.1 t.2.2.2.1 t.2.2.2.2) .e .e) .e) (.n 2 (.j [(0, .str),(2, .po 11),(5, .int),(6, .po 11),(7, .so 9 .str)] [] (fun t=>zhD t.1 t.2.2.1 t.2.2.2.1 t.2.2.2.2) .e (.n 1 (.q (.j [(0, .str),(2, .po 11),(5, .int),(6, .po 11),(107, .bool)] [] (fun t=>zai t.1 t.2.2.1 t.2.2.2.1 t.2.2.2.2) .e .e) .e))))))))
-- doorstep/doorstepref25.Text
theorem zE8:za 81 zGg:=cqG (CLs.nil.add zB5) 43 Tryz.func81 (.n 2 (.j [(1, .po 11),(4, .str)] [] (fun t=>zlr t.1 t.2) .e (.j [(1, .po 11),(4, .str)] [] (fun t=>ziP t.1 t.2) .e .e)))
-- doorstep/doorstepref29.Check
theorem zB6:za 83 zDZ:=cqG ((CLs.nil.add zra).add zwx) 58 Tryz.func83 (.n 1 (.q (.n 1 (.w [(0, .sl (.st 1)),(3, .int)] [] (fun m t=>zfI t.1 m t.2) fun n0 => .n 1 (.q (.n 3 (.w [(0, .sl (.st 1)),(3, .int),(5, .str),(6, .int)] [] (fun m t=>zhE (zfI t.1 n0) t.2.1 t.2.2.1 m t.2.2.2) fun n1 => .e)) .e))) .e))
-- doorstep/doorstepref11.first
theorem zul:za 186 zD0:=cqG (CLs.nil.add zfj) 21 Tryz.func186 (.n 2 (.q (.w [(0, .str),(1, .str),(5, .int)] [] (fun m t=>zei t.1 t.2.1 m t.2.2) fun n0 => .q (.j [(0, .str),(1, .str),(5, .int),(17, .bool)] [] (fun t=>zkf (zei t.1 t.2.1 n0) t.2.2.1 t.2.2.2) .e .e) .e) .e))
-- doorstep/doorstepref01.Alpha
theorem zB7:za 270 zvF:=cqG (CLs.nil.add zfj) 5 Tryz.func270 .e
-- doorstep/doorstepref01.Digit
theorem zB8:za 271 zvG:=cqG (CLs.nil.add zfj) 5 Tryz.func271 .e
-- doorstep/doorstepref11.scheme
theorem zAV:za 187 zBs:=cqG (((CLs.nil.add zfj).add zB8).add zB7) 36 Tryz.func187 (.n 1 (.q (.n 1 (.w [(0, .str),(3, .int)] [] (fun m t=>zbE t.1 m t.2) fun n0 => .n 1 (.q (.j [(0, .str),(3, .int),(32, .bool)] [] (fun t=>zeH (zbE t.1 n0) t.2.1 t.2.2) .e .e) .e))) .e))
-- doorstep/doorstepref01.Path
theorem zE9:za 341 zxE:=cqG ((CLs.nil.add zxQ).add znO) 17 Tryz.func341 .e
-- doorstep/doorstepref09.Of
theorem zwy:∀n,COk Tryz.prog G 272 (zGh n)
 | 0=>zFH ⟨_,Tryz.func272,by kernel_rfl,by kernel_rfl⟩ fun _=>rfl
 | n+1=>by
  have h:=zwy n;exact zDi zAf hNm tyk ((((CLs.nil.add zfj).add zE9).add h).add zs1) 44 Tryz.func272 (by kernel_rfl) (hn := .e) (by unfold ztX; kernel_rfl)
theorem zI3:COk Tryz.prog G 272 zKD:=zwy fuel
-- doorstep/doorstepref11.right
theorem zB9:za 188 zD1:=cqG ((CLs.nil.add zul).add zI3) 76 Tryz.func188 (.n 3 (.q (.j [(1, .po 15),(55, .bool)] [] (fun t=>zkg t.1 t.2) .e .e) .e))
-- doorstep/doorstepref11.Parse
theorem zCa:za 130 zD2:=cqG (((CLs.nil.add zB9).add zAV).add zul) 94 Tryz.func130 (.n 3 (.j [(0, .str),(2, .po 15),(4, .po 15)] [] (fun t=>zhJ t.1 t.2.2) .e (.n 1 (.j [(0, .str),(2, .po 15),(4, .po 15)] [] (fun t=>zhI t.1 t.2.2) .e (.n 1 (.j [(0, .str),(2, .po 15),(4, .po 15)] [] (fun t=>zhG t.1 t.2.2) (.j [(0, .str),(2, .po 15),(4, .po 15),(7, .int),(57, .bool)] [] (fun t=>zhH t.1 t.2.2.1 t.2.2.2.1 t.2.2.2.2) .e .e) (.j [(0, .str),(2, .po 15),(4, .po 15)] [] (fun t=>zhF t.1 t.2.2) (.j [(0, .str),(2, .po 15),(4, .po 15),(73, .bool)] [] (fun t=>zkh t.1 t.2.2.1 t.2.2.2) .e .e) .e)))))))
-- doorstep/doorstepref30.Check
theorem zCb:za 84 zD3:=cqG (CLs.nil.add zCa) 49 Tryz.func84 (.n 1 (.q (.n 1 (.w [(0, .sl (.st 1)),(3, .int)] [] (fun m t=>zhK t.1 m t.2) fun n0 => .e)) .e))
-- doorstep/doorstepref39.Check
theorem zCc:za 49 zD4:=cqG ((((CLs.nil.add zCb).add zB6).add zuk).add zE8) 51 Tryz.func49 (.n 4 (.q (.j [(1, .po 5),(4, .int),(27, .bool)] [] (fun t=>zki t.1 t.2.1 t.2.2) .e .e) (.q (.j [(1, .po 5),(41, .bool)] [] (fun t=>zhL t.1 t.2) .e .e) .e)))
-- doorstep/doorstepref12.values
theorem zAW:za 273 zBt:=cqG (CLs.nil.add zo2) 15 Tryz.func273 (.n 1 (.q (.n 1 (.w [(0, .str),(3, .int)] [] (fun m t=>zgO t.1 m t.2) fun n0 => .e)) .e))
-- doorstep/doorstepref01.Blank
theorem zCd:za 342 zvH:=cqG CLs.nil 9 Tryz.func342 .e
-- doorstep/doorstepref06.Trim
theorem zFa:za 274 zGi:=cqG (CLs.nil.add zCd) 30 Tryz.func274 (.n 1 (.q (.w [(0, .str)] [] (fun m t=>ze8 m t) fun n0 => .q (.j [(0, .str),(10, .bool)] [] (fun t=>zlt (ze8 n0) t.1 t.2) .e .e) .e) (.q (.w [(0, .str)] [] (fun m t=>ze7 m t) fun n1 => .q (.j [(0, .str),(23, .bool)] [] (fun t=>zls (ze7 n1) t.1 t.2) .e .e) .e) .e)))
-- doorstep/doorstepref12.Check
theorem zCe:za 189 zD5:=cqG (((CLs.nil.add zFa).add zAW).add ziY) 19 Tryz.func189 .e
-- doorstep/doorstepref32.guard
theorem zCf:za 131 zD6:=cqG ((CLs.nil.add ziY).add zCe) 42 Tryz.func131 .e
-- doorstep/doorstepref01.Fold
theorem zwz:za 191 zGj:=cqG CLs.nil 36 Tryz.func191 (.n 2 (.q (.n 1 (.w [(0, .str),(3, .str),(4, .int)] [] (fun m t=>zg0 t.1 m t.2.1 t.2.2) fun n0 => .n 1 (.q (.n 1 (.q (.n 1 (.w [(0, .str),(3, .str),(4, .int),(5, .str),(6, .int)] [] (fun m t=>ze9 (zg0 t.1 n0) t.1 t.2.1 t.2.2.1 m t.2.2.2.1 t.2.2.2.2) fun n1 => .e)) .e)) .e))) .e))
-- doorstep/doorstepref24.Fixed
theorem zCg:za 192 zD7:=cqG (CLs.nil.add zwz) 14 Tryz.func192 .e
-- doorstep/doorstepref32.Kept
theorem zFb:za 133 zGk:=cqG ((CLs.nil.add zCg).add zwz) 12 Tryz.func133 .e
-- doorstep/doorstepref32.Known
theorem zCh:za 134 zD8:=cqG CLs.nil 9 Tryz.func134 .e
-- doorstep/doorstepref31.Names
theorem zCi:za 135 zD9:=cqG CLs.nil 49 Tryz.func135 (.n 2 (.q (.n 1 (.w [(0, .sl (.st 3)),(3, .so 9 .str),(4, .int)] [] (fun m t=>zfK t.1 m t.2.1 t.2.2) fun n0 => .n 1 (.q (.n 1 (.q (.n 1 (.w [(0, .sl (.st 3)),(3, .so 9 .str),(4, .int),(5, .bool),(6, .int)] [] (fun m t=>zfJ (zfK t.1 n0) t.1 t.2.1 t.2.2.1 m t.2.2.2.1 t.2.2.2.2) fun n1 => .e)) .e)) .e))) .e))
-- doorstep/doorstepref31.one
theorem zHk:za 275 zIt:=cqG (((CLs.nil.add zfj).add ziY).add zo2) 85 Tryz.func275 (.n 2 (.q (.j [(0, .str),(2, .po 3),(25, .bool)] [] (fun t=>zm9 t.1 t.2.2) .e .e) (.n 1 (.q (.w [(0, .str),(2, .po 3),(4, .int)] [] (fun m t=>zgm t.1 m t.2.2) fun n0 => .q (.j [(0, .str),(2, .po 3),(4, .int),(36, .bool)] [] (fun t=>zm8 (zgm t.1 n0) t.1 t.2.2.1 t.2.2.2) .e .e) .e) (.n 3 (.q (.n 1 (.w [(2, .po 3),(4, .int),(5, .str),(6, .int)] [] (fun m t=>zkj t.2.1 t.2.2.1 m t.2.2.2) fun n1 => .e)) .e))))))
-- doorstep/doorstepref31.Parse
theorem zCj:za 193 zEa:=cqG (CLs.nil.add zHk) 58 Tryz.func193 (.n 2 (.q (.w [(0, .str),(4, .so 113 (.st 3))] [] (fun m t=>zc6 m t.1 t.2) fun n0 => .n 5 (.j [(0, .str),(4, .so 113 (.st 3)),(5, .po 3),(7, .int),(37, .bool)] [] (fun t=>zhM (zc6 n0) t.1 t.2.1 t.2.2.1 t.2.2.2.1 t.2.2.2.2) .e .e)) .e))
-- doorstep/doorstepref31.Same
theorem zFc:za 194 zGl:=cqG CLs.nil 26 Tryz.func194 (.n 2 (.q (.n 1 (.w [(0, .sl (.st 3)),(1, .sl (.st 3)),(5, .int)] [] (fun m t=>ziQ t.1 t.2.1 m t.2.2) fun n0 => .e)) .e))
-- doorstep/doorstepref31.Text
theorem zFd:za 136 zGm:=cqG ((CLs.nil.add zFc).add zCj) 89 Tryz.func136 (.n 2 (.q (.n 1 (.w [(0, .sl (.st 3)),(4, .str),(5, .int)] [] (fun m t=>zb2 t.1 m t.2.1 t.2.2) fun n0 => .n 1 (.q (.n 2 (.q (.n 1 (.w [(0, .sl (.st 3)),(4, .str),(5, .int),(6, .int)] [] (fun m t=>zfa (zb2 t.1 n0) t.1 t.2.2.1 m t.2.1 t.2.2.2) fun n1 => .n 1 (.q (.j [(0, .sl (.st 3)),(4, .str),(5, .int),(6, .int)] [] (fun t=>zlu (zfa (zb2 t.1 n0) t.1 t.2.2.1 n1) t.1 t.2.1 t.2.2.1 t.2.2.2) .e .e) .e))) .e)) .e))) .e))
-- doorstep/doorstepref32.Check
theorem zCk:za 85 zEb:=cqG ((((((CLs.nil.add zFd).add zCi).add zCh).add zFb).add ziY).add zCf) 126 Tryz.func85 (.n 1 (.j [(1, .po 2),(3, .bool)] [] (fun t=>zbx t.1 t.2) .e (.n 2 (.q (.n 1 (.w [(1, .po 2),(3, .bool),(4, .so 9 .str),(5, .so 9 .str),(6, .int)] [] (fun m t=>zfM t.1 t.2.2.1 t.2.2.2.1 m t.2.1 t.2.2.2.2) fun n0 => .n 1 (.q (.n 1 (.q (.n 1 (.w [(1, .po 2),(3, .bool),(4, .so 9 .str),(5, .so 9 .str),(6, .int),(7, .bool),(8, .int)] [] (fun m t=>zfL (zfM t.1 t.2.2.1 t.2.2.2.1 n0) t.2.1 t.2.2.1 t.2.2.2.1 t.2.2.2.2.1 m t.2.2.2.2.2.1 t.2.2.2.2.2.2) fun n1 => .e)) .e)) .e))) (.n 1 (.q (.n 1 (.j [(1, .po 2),(3, .bool),(10, .int),(76, .int),(77, .bool)] [] (fun t=>zkk t.1 t.2.1 t.2.2.1 t.2.2.2.1 t.2.2.2.2) .e .e)) .e))))))
-- doorstep/doorstepref35.Check
theorem zCl:za 50 zEc:=cqG (CLs.nil.add zCk) 21 Tryz.func50 (.n 1 (.q (.n 1 (.w [(0, .sl (.st 2)),(4, .int)] [] (fun m t=>zhN t.1 m t.2) fun n0 => .e)) .e))
-- doorstep/doorstepref44.Check
theorem zCm:za 20 zEd:=cqG ((CLs.nil.add zCl).add zCc) 48 Tryz.func20 .e
-- doorstep/doorstepref46.Check
theorem zCn:za 7 zEe:=cqG ((CLs.nil.add zCm).add zB1) 22 Tryz.func7 (.n 2 (.q (.j [(3, .int),(20, .bool)] [] (fun t=>zhO t.1 t.2) .e .e) .e))
-- (*doorstep/wire.Wire).Result
theorem zu8:za 8 zvI:=cqG CLs.nil 38 Tryz.func8 .e
-- doorstep/events.Check
theorem zs2:za 23 zBu:=cqG CLs.nil 22 Tryz.func23 (.n 1 (.q (.n 1 (.j [(1, .po 4),(4, .int),(5, .bool)] [] (fun t=>zi4 t.1 t.2.1 t.2.2) .e .e)) .e))
-- (*doorstep/accum.Accum).Empty
theorem zmF:za 104 zuL:=cqG CLs.nil 12 Tryz.func104 .e
-- (*doorstep/accum.Accum).Empty
theorem zkV:za 104 zsp:=cqG CLs.nil 12 Tryz.func104 .e
-- (*doorstep/gateway.side).idle
theorem zt1:za 66 zuM:=cqG ((CLs.nil.add zkV).add zmF) 15 Tryz.func66 .e
-- (*doorstep/pairing.Queue).Full
theorem zs3:za 67 ztK:=cqG CLs.nil 12 Tryz.func67 .e
-- (*doorstep/pairing.row[doorstep/pairing.Ticket]).room
theorem zu9:za 105 zvJ:=cqG CLs.nil 13 Tryz.func105 .e
-- (*doorstep/pairing.Queue).Full
theorem zrb:za 67 zrA:=cqG (CLs.nil.add zu9) 12 Tryz.func67 .e
-- (*doorstep/gateway.Gateway).reads
theorem zpW:za 41 zqp:=cqG (((CLs.nil.add zrb).add zs3).add zt1) 30 Tryz.func41 .e
-- (*doorstep/accum.Accum).Feed
theorem zju:za 68 zvK:=cqG CLs.nil 72 Tryz.func68 .e
-- doorstep/reply.Code
theorem zwA:za 107 zGn:=cqG CLs.nil 8 Tryz.func107 .e
-- (*doorstep/accum.Accum).Head
theorem zgA:za 108 zvL:=cqG CLs.nil 25 Tryz.func108 .e
-- doorstep/bag.New
theorem zeK:za 254 zM0:=cqG (CLs.nil.add zoF) 7 Tryz.func254 .e
-- (*doorstep/bag.Bag).List
theorem zch:za 324 zBv:=cqG (CLs.nil.add zoF) 10 Tryz.func324 .e
-- doorstep/octet.Same
theorem zdT:za 338 zGo:=cqG (CLs.nil.add zdS) 10 Tryz.func338 .e
-- (*doorstep/bag.Bag).Values
theorem zf0:za 255 zyh:=cqG ((CLs.nil.add zdT).add zch) 26 Tryz.func255 (.n 2 (.q (.n 1 (.w [(1, .str),(5, .so 9 .str),(9, .so 247 (.st 20)),(10, .int),(11, .int)] [] (fun m t=>zdg t.1 t.2.2.1 t.2.2.2.1 m t.2.1 t.2.2.2.2) fun n0 => .e)) .e))
-- (*doorstep/scan.Scanner).Back
theorem zrR:za 460 zsq:=cqG (CLs.nil.add ze2) 19 Tryz.func460 .e
-- (*doorstep/commas.splitter).end
theorem zjO:za 399 zqq:=cqG ((CLs.nil.add ze2).add zfX) 36 Tryz.func399 (.j [(9000, .po 37)] [(0,9000)] (fun t=>zcY t) .e .e)
-- (*doorstep/commas.splitter).comment
theorem zne:za 436 znq:=cqG ((CLs.nil.add zp).add zco) 52 Tryz.func436 (.n 1 (.q (.n 1 (.w [(9000, .po 37),(3, .int)] [(0,9000)] (fun m t=>zt m t.1 t.2) fun n0 => .e)) .e))
-- doorstep/quoted.Read
theorem zrp:COk Tryz.prog G 437 zzT:=ztb zAf hNm tyk (((((CLs.nil.add zrR).add zro).add zco).add zp).add ze2) (.lf 459 (fnS Tryz.func459)) 41 60 Tryz.func437 (by kernel_rfl) (hn := .n 4 (.q (.w [(4, .int),(5, .po 38),(6, .bool)] [(9000,100005)] (fun m t=>zcN t.1 m t.2.1 t.2.2) fun n0 => .q (.j [(4, .int),(5, .po 38),(6, .bool),(25, .bool)] [(9000,100005)] (fun t=>zie (zcN t.1 n0) t.1 t.2.1 t.2.2.1 t.2.2.2) .e .e) .e) .e)) (by unfold ztX opJ zxI; kernel_rfl)
-- (*doorstep/commas.splitter).step
theorem zo3:za 398 zpp:=cqG ((((((CLs.nil.add zrp).add zco).add zne).add zjO).add zp).add ze2) 55 Tryz.func398 .e
-- doorstep/commas.Split
theorem zs4:za 362 zBw:=cqG ((((CLs.nil.add zjO).add zo3).add zbb).add zgz) 27 Tryz.func362 (.n 2 (.q (.w [(0, .str),(4, .po 37)] [] (fun m t=>zgQ t.1 m t.2) fun n0 => .e) .e))
-- doorstep/commas.Tokens
theorem zmw:za 339 zzU:=cqG ((CLs.nil.add zfi).add zs4) 40 Tryz.func339 (.n 2 (.q (.n 1 (.w [(4, .so 9 .str),(11, .sl .str),(12, .int),(13, .int)] [] (fun m t=>zd2 t.2.1 t.2.2.1 m t.1 t.2.2.2) fun n0 => .n 2 (.q (.n 3 (.q (.n 1 (.w [(4, .so 9 .str),(7, .so 9 .str),(11, .sl .str),(12, .int),(13, .int),(26, .int),(27, .int)] [(25,7)] (fun m t=>zfO (zd2 t.2.2.1 t.2.2.2.1 n0) t.1 t.2.1 t.2.2.2.2.1 t.2.2.2.2.2.1 m t.2.2.2.2.2.2) fun n1 => .e)) .e)) .e))) .e))
-- (doorstep/length.reader).coding
theorem zrc:za 317 zrB:=cqG ((CLs.nil.add zdT).add zmw) 34 Tryz.func317 .e
-- (doorstep/length.reader).lengths
theorem zpX:za 318 zqr:=cqG ((CLs.nil.add zhi).add zs4) 60 Tryz.func318 (.n 2 (.q (.n 1 (.w [(9032, .po 35),(4, .po 34),(6, .int),(15, .sl .str),(16, .int),(17, .int)] [] (fun m t=>z7 t.1 t.2.2.2.1 t.2.2.2.2.1 m t.2.2.1 t.2.2.2.2.2) fun n0 => .n 2 (.q (.n 4 (.w [(9032, .po 35),(4, .po 34),(6, .int),(15, .sl .str),(16, .int),(17, .int),(29, .so 9 .str),(30, .int),(31, .int)] [] (fun m t=>zN (z7 t.1 t.2.2.2.1 t.2.2.2.2.1 n0) t.1 t.2.2.2.2.2.1 t.2.2.2.2.2.2.1 t.2.2.2.2.2.2.2.1 m t.2.2.1 t.2.2.2.2.2.2.2.2) fun n1 => .n 2 (.q (.n 2 (.q (.j [(9032, .po 35),(4, .po 34),(13, .int),(15, .sl .str),(16, .int),(17, .int),(29, .so 9 .str),(30, .int),(31, .int),(50, .bool)] [] (fun t=>zby (zN (z7 t.1 t.2.2.2.1 t.2.2.2.2.1 n0) t.1 t.2.2.2.2.2.1 t.2.2.2.2.2.2.1 t.2.2.2.2.2.2.2.1 n1) t.1 t.2.2.1 t.2.2.2.2.2.2.2.2.1 t.2.2.2.2.2.2.2.2.2) .e .e) .e)) .e))) .e))) .e))
-- doorstep/length.of
theorem zxR:za 238 zIu:=cqG ((((CLs.nil.add zpX).add zrc).add zf0).add zeK) 51 Tryz.func238 (.n 3 (.q (.j [(1, .int),(4, .po 34),(6, .po 36),(7, .so 9 .str),(8, .so 9 .str),(21, .bool)] [] (fun t=>zna t.1 t.2.2.1 t.2.2.2.1 t.2.2.2.2.1 t.2.2.2.2.2) .e .e) .e))
-- doorstep/length.Request
theorem zlh:za 160 zyi:=cqG (CLs.nil.add zxR) 8 Tryz.func160 .e
-- doorstep/hop.Nominated
theorem zyG:za 364 zzV:=cqG (((((CLs.nil.add zC).add zdS).add zmw).add zf0).add zeK) 47 Tryz.func364 (.n 2 (.q (.n 1 (.w [(3, .so 9 .str),(12, .so 9 .str),(13, .int),(14, .int)] [] (fun m t=>zcP t.2.1 t.2.2.1 m t.1 t.2.2.2) fun n0 => .n 2 (.q (.n 3 (.w [(3, .so 9 .str),(12, .so 9 .str),(13, .int),(14, .int),(24, .so 9 .str),(25, .int),(26, .int)] [] (fun m t=>zcO (zcP t.2.1 t.2.2.1 n0) t.2.2.2.1 t.2.2.2.2.1 t.2.2.2.2.2.1 m t.1 t.2.2.2.2.2.2) fun n1 => .n 2 (.q (.n 2 (.j [(3, .so 9 .str),(9, .str),(12, .so 9 .str),(13, .int),(14, .int),(24, .so 9 .str),(25, .int),(26, .int),(39, .bool)] [] (fun t=>zif (zcO (zcP t.2.2.1 t.2.2.2.1 n0) t.2.2.2.2.1 t.2.2.2.2.2.1 t.2.2.2.2.2.2.1 n1) t.1 t.2.1 t.2.2.2.2.2.2.2.1 t.2.2.2.2.2.2.2.2) .e .e)) .e))) .e))) .e))
-- doorstep/bag.one$1
theorem zHl:za 439 zIv:=cqG (CLs.nil.add zdT) 7 Tryz.func439 .e
-- slices.IndexFunc[[]string,string]
theorem zjv:za 461 zjR:=cqG (CLs.nil.add zHl) 19 Tryz.func461 (.n 1 (.q (.n 1 (.w [(0, .sl .str),(1, .cl 439 (.pt 40)),(7, .int),(8, .int)] [] (fun m t=>zr t.1 t.2.1 t.2.2.1 m t.2.2.2) fun n0 => .e)) .e))
-- slices.ContainsFunc[[]string,string]
theorem zix:za 438 ziD:=cqG (CLs.nil.add zjv) 9 Tryz.func438 .e
-- doorstep/bag.one
theorem zLa:za 402 zM1:=cqG (CLs.nil.add zix) 8 Tryz.func402 .e
-- (*doorstep/bag.Bag).Remove$1
theorem znP:za 401 zvM:=cqG (CLs.nil.add zLa) 8 Tryz.func401 .e
-- slices.IndexFunc[[]doorstep/api.Field,doorstep/api.Field]
theorem zg7:za 405 zhj:=cqG (CLs.nil.add znP) 19 Tryz.func405 (.n 1 (.q (.n 1 (.w [(0, .sl (.st 20)),(1, .cl 401 (.pt 39)),(7, .int),(8, .int)] [] (fun m t=>zk t.1 t.2.1 t.2.2.1 m t.2.2.2) fun n0 => .e)) .e))
-- slices.DeleteFunc[[]doorstep/api.Field,doorstep/api.Field]
theorem zf1:za 400 zgc:=cqG ((CLs.nil.add znP).add zg7) 42 Tryz.func400 (.n 3 (.q (.n 1 (.w [(0, .so 247 (.st 20)),(1, .cl 401 (.pt 39)),(5, .int),(6, .int)] [] (fun m t=>zi t.2.1 m t.1 t.2.2.1 t.2.2.2) fun n0 => .e)) .e))
-- (*doorstep/bag.Bag).Remove
theorem zjw:za 363 zvN:=cqG (CLs.nil.add zf1) 29 Tryz.func363 .e
-- doorstep/hop.Strip
theorem zHm:za 319 zIw:=cqG (((((CLs.nil.add zch).add zjw).add zxN).add zyG).add zeK) 14 Tryz.func319 .e
-- doorstep/pathq.of
theorem zAX:za 419 zKE:=cqG (((CLs.nil.add zbr).add zdz).add zsY) 49 Tryz.func419 (.n 1 (.q (.n 1 (.w [(0, .str),(1, .str),(5, .int)] [] (fun m t=>zdZ t.1 t.2.1 m t.2.2) fun n0 => .n 1 (.q (.n 1 (.q .e (.j [(0, .str),(1, .str),(5, .int),(25, .bool)] [] (fun t=>zma (zdZ t.1 t.2.1 n0) t.2.2.1 t.2.2.2) .e .e))) .e))) .e))
-- doorstep/pathq.Path
theorem zFe:za 375 zGp:=cqG ((CLs.nil.add zAX).add zbp) 9 Tryz.func375 .e
-- doorstep/pathq.Query
theorem zCo:za 376 zEf:=cqG (CLs.nil.add zAX) 5 Tryz.func376 .e
-- doorstep/pathq.Cut
theorem zxS:za 329 zIx:=cqG (((CLs.nil.add zCo).add zFe).add zlP) 23 Tryz.func329 .e
-- doorstep/target.tail
theorem zum:za 404 zEg:=cqG (CLs.nil.add zxS) 32 Tryz.func404 (.n 4 (.j [(1, .str),(2, .po 41),(4, .po 41),(7, .bool)] [] (fun t=>zko t.1 t.2.1 t.2.2.2) .e (.n 1 (.j [(2, .po 41),(4, .po 41),(6, .int)] [] (fun t=>zkn t.1 t.2.2) .e .e))))
-- doorstep/target.absolute
theorem zwB:za 403 zw5:=cqG (((((CLs.nil.add zum).add zd6).add zjs).add zdS).add zlP) 58 Tryz.func403 (.n 3 (.q (.j [(2, .po 41),(5, .str),(7, .po 41),(31, .bool)] [] (fun t=>zej t.2.1 t.2.2.1 t.2.2.2) .e .e) (.n 1 (.j [(2, .po 41),(5, .str),(7, .po 41),(8, .int)] [] (fun t=>zgo t.2.1 t.2.2.1 t.2.2.2) .e .e))))
-- doorstep/target.of
theorem zHn:za 365 zIy:=cqG (((CLs.nil.add zum).add zwB).add zbp) 28 Tryz.func365 .e
-- doorstep/target.Parse
theorem zs5:za 320 zBx:=cqG ((CLs.nil.add zHn).add zd6) 37 Tryz.func320 (.n 1 (.q (.n 1 (.q (.n 1 (.q (.j [(4, .po 41),(6, .po 14),(23, .bool)] [] (fun t=>zi6 t.2.1 t.2.2) .e .e) .e)) .e)) .e))
-- doorstep/pathq.Join
theorem zFf:za 366 zGq:=cqG CLs.nil 14 Tryz.func366 .e
-- doorstep/target.Origin
theorem zyH:za 321 zzW:=cqG (CLs.nil.add zFf) 20 Tryz.func321 (.n 3 (.j [(1, .po 41),(3, .str)] [] (fun t=>zig t.1 t.2) .e .e))
-- doorstep/hostport.Text
theorem zyI:za 367 zzX:=cqG (((CLs.nil.add zd6).add zbH).add zfY) 41 Tryz.func367 (.n 2 (.j [(1, .po 14),(4, .so 9 .str)] [] (fun t=>zii t.1 t.2) .e (.j [(1, .po 14),(4, .so 9 .str)] [] (fun t=>zih t.1 t.2) .e .e)))
-- (*doorstep/bag.Bag).Put$1
theorem zyJ:za 406 zzY:=cqG (CLs.nil.add zdT) 8 Tryz.func406 .e
-- slices.IndexFunc[[]doorstep/api.Field,doorstep/api.Field]
theorem zgB:za 405 zgG:=cqG (CLs.nil.add zyJ) 19 Tryz.func405 (.n 1 (.q (.n 1 (.w [(0, .sl (.st 20)),(1, .cl 406 (.pt 40)),(7, .int),(8, .int)] [] (fun m t=>zj t.1 t.2.1 t.2.2.1 m t.2.2.2) fun n0 => .e)) .e))
-- (*doorstep/bag.Bag).Get
theorem zo4:za 369 zEh:=cqG (CLs.nil.add zf0) 16 Tryz.func369 .e
-- (*doorstep/bag.Bag).Add
theorem zjj:za 370 zzZ:=cqG CLs.nil 15 Tryz.func370 .e
-- (*doorstep/bag.Bag).Put
theorem zrq:za 368 zz0:=cqG ((((CLs.nil.add ztZ).add zjw).add zjj).add zgB) 40 Tryz.func368 .e
-- (*doorstep/stage.worker).host
theorem zrS:za 322 zsr:=cqG ((((CLs.nil.add zjj).add zo4).add zrq).add zyI) 44 Tryz.func322 (.n 1 (.j [(9000, .po 42),(4, .po 5)] [(0,9000)] (fun t=>zdI t.1 t.2) .e .e))
-- (*doorstep/stage.worker).done
theorem zkW:za 325 zss:=cqG (CLs.nil.add zch) 17 Tryz.func325 .e
-- strings.HasSuffix
theorem zmG:za 442 zuN:=cqG (CLs.nil.add zjN) 8 Tryz.func442 .e
-- doorstep/uriref.Swap
theorem zCp:za 408 zEi:=cqG (((CLs.nil.add zdz).add zmG).add ziF) 49 Tryz.func408 (.n 1 (.q (.n 1 (.w [(0, .str),(10, .sl (.st 1)),(11, .int),(12, .int)] [] (fun m t=>zek t.1 t.2.1 t.2.2.1 m t.2.2.2) fun n0 => .e)) .e))
-- doorstep/location.Rewrite
theorem zva:za 371 zvO:=cqG ((CLs.nil.add zug).add zCp) 27 Tryz.func371 .e
-- doorstep/cookie.part$1
theorem zCq:za 443 zEj:=cqG (((((((CLs.nil.add zbr).add zbb).add zL).add zp).add zaz).add zgz).add zfX) 45 Tryz.func443 (.n 4 (.j [(2, .po 43),(4, .po 12),(6, .bool),(7, .po 43)] [] (fun t=>zkq t.2.1 t.2.2.1 t.2.2.2) .e .e))
-- doorstep/cookie.plain
theorem zAY:za 444 zBz:=cqG (((CLs.nil.add zbr).add zmE).add ziF) 24 Tryz.func444 .e
-- doorstep/cookie.Parse
theorem zs6:za 409 zBA:=cqG (((CLs.nil.add zAY).add zCq).add zmt) 63 Tryz.func409 (.n 5 (.q (.n 1 (.w [(2, .po 45),(7, .po 45),(41, .sl .str),(42, .int),(43, .int)] [] (fun m t=>zgR t.2.2.1 t.2.2.2.1 m t.2.1 t.2.2.2.2) fun n0 => .e)) .e))
-- doorstep/cookie.last
theorem zun:za 445 zEk:=cqG (CLs.nil.add zdT) 23 Tryz.func445 (.n 1 (.q (.n 1 (.w [(1, .str),(2, .po 44),(5, .int)] [] (fun m t=>zhQ t.1 t.2.1 m t.2.2) fun n0 => .e)) .e))
-- doorstep/cookie.Get
theorem zFg:za 410 zGr:=cqG (CLs.nil.add zun) 18 Tryz.func410 .e
-- internal/stringslite.TrimPrefix
theorem zo5:za 465 zpq:=cqG (CLs.nil.add zfZ) 13 Tryz.func465 .e
-- strings.TrimPrefix
theorem zs7:za 446 ztL:=cqG (CLs.nil.add zo5) 8 Tryz.func446 .e
-- doorstep/hostport.Under
theorem zxx:za 447 zyj:=cqG ((((CLs.nil.add zmG).add zdS).add zeJ).add zmv) 36 Tryz.func447 .e
-- doorstep/domains.Map
theorem zCr:za 411 zEl:=cqG ((CLs.nil.add zxx).add zs7) 34 Tryz.func411 (.n 2 (.q (.n 1 (.w [(0, .str),(6, .str),(11, .sl (.st 1)),(12, .int),(13, .int)] [] (fun m t=>zhR t.1 t.2.1 t.2.2.1 t.2.2.2.1 m t.2.2.2.2) fun n0 => .e)) .e))
-- doorstep/cookie.Set
theorem zFh:za 413 zGs:=cqG ((CLs.nil.add zdT).add zun) 55 Tryz.func413 (.n 3 (.q (.n 1 (.w [(1, .str),(2, .str),(6, .po 45),(7, .int),(8, .po 45),(20, .sl (.st 43)),(21, .int),(22, .int)] [] (fun m t=>zcZ t.1 t.2.1 t.2.2.2.1 t.2.2.2.2.2.1 t.2.2.2.2.2.2.1 m t.2.2.2.2.1 t.2.2.2.2.2.2.2) fun n0 => .n 2 (.j [(1, .str),(2, .str),(6, .po 45),(7, .int),(8, .po 45),(20, .sl (.st 43)),(21, .int),(22, .int)] [] (fun t=>zly (zcZ t.1 t.2.1 t.2.2.2.1 t.2.2.2.2.2.1 t.2.2.2.2.2.2.1 n0) t.2.2.2.2.1 t.2.2.2.2.2.2.2) (.n 1 (.j [(1, .str),(2, .str),(6, .po 45),(7, .int),(8, .po 45),(10, .po 43),(20, .sl (.st 43)),(21, .int),(22, .int)] [] (fun t=>zlz (zcZ t.1 t.2.1 t.2.2.2.1 t.2.2.2.2.2.2.1 t.2.2.2.2.2.2.2.1 n0) t.2.2.2.2.1 t.2.2.2.2.2.1 t.2.2.2.2.2.2.2.2) .e .e)) .e))) (.j [(6, .po 45),(8, .po 45)] [] (fun t=>zlA t.2) .e .e)))
-- slices.Equal[[]doorstep/api.Attr,doorstep/api.Attr]
theorem zjx:za 466 zjS:=cqG CLs.nil 26 Tryz.func466 (.n 2 (.q (.n 1 (.w [(0, .sl (.st 43)),(1, .sl (.st 43)),(12, .int),(13, .int)] [] (fun m t=>zP t.1 t.2.1 t.2.2.1 m t.2.2.2) fun n0 => .e)) .e))
-- doorstep/cookie.Same
theorem zCs:za 448 zEm:=cqG (CLs.nil.add zjx) 24 Tryz.func448 .e
-- doorstep/cookie.Text
theorem zCt:za 412 zEn:=cqG (((CLs.nil.add zCs).add zs6).add zbH) 57 Tryz.func412 (.n 2 (.q (.n 1 (.w [(1, .po 44),(4, .so 9 .str),(18, .sl (.st 43)),(19, .int),(20, .int)] [] (fun m t=>zfP t.1 t.2.2.1 t.2.2.2.1 m t.2.1 t.2.2.2.2) fun n0 => .e)) .e))
-- doorstep/domains.Rewrite
theorem zwC:za 372 zw6:=cqG (((((CLs.nil.add zCt).add zFh).add zCr).add zFg).add zs6) 45 Tryz.func372 .e
-- doorstep/location.Fields
theorem zwD:za 323 zw7:=cqG (((CLs.nil.add zwC).add zva).add zdS) 46 Tryz.func323 (.n 2 (.q (.n 1 (.w [(2, .po 5),(5, .so 247 (.st 20)),(12, .int),(13, .int)] [(11,5)] (fun m t=>zbK t.2.2.1 m t.1 t.2.1 t.2.2.2) fun n0 => .n 2 (.q (.n 2 (.j [(2, .po 5),(5, .so 247 (.st 20)),(6, .int),(7, .po 20),(12, .int),(13, .int),(20, .str),(21, .bool)] [(11,5)] (fun t=>zgp (zbK t.2.2.2.2.1 n0) t.1 t.2.1 t.2.2.1 t.2.2.2.1 t.2.2.2.2.2.1 t.2.2.2.2.2.2.1 t.2.2.2.2.2.2.2) .e .e)) .e))) .e))
-- doorstep/stage.Strip
theorem zCu:za 239 zEo:=cqG ((((((((CLs.nil.add zwD).add zch).add zkW).add zrS).add zyH).add zs5).add zeK).add zHm) 68 Tryz.func239 .e
-- doorstep/stage.Known$1
theorem zyK:za 328 zz2:=cqG CLs.nil 8 Tryz.func328 .e
-- doorstep/stage.Known
theorem zCv:za 241 zEp:=cqG (((CLs.nil.add zfY).add zxS).add zyK) 59 Tryz.func241 .e
-- doorstep/rule.Writes
theorem zCw:za 449 zEq:=cqG (CLs.nil.add zdS) 18 Tryz.func449 .e
-- doorstep/compile.run
theorem zCx:za 414 zEr:=cqG (((CLs.nil.add zC).add zdS).add zCw) 38 Tryz.func414 (.n 3 (.q (.w [(0, .sl (.st 2)),(3, .po 25),(4, .int)] [] (fun m t=>zc7 t.1 t.2.1 m t.2.2) fun n0 => .q (.j [(0, .sl (.st 2)),(3, .po 25),(4, .int),(34, .bool)] [] (fun t=>zhS (zc7 t.1 t.2.1 n0) t.2.2.1 t.2.2.2) .e .e) .e) .e))
-- doorstep/compile.guard
theorem zyL:za 415 zz3:=cqG CLs.nil 25 Tryz.func415 .e
-- doorstep/compile.Own
theorem zCy:za 450 zEs:=cqG (CLs.nil.add zlc) 34 Tryz.func450 .e
-- (*doorstep/compile.compiler).put
theorem zo6:za 416 zpr:=cqG (CLs.nil.add zCy) 24 Tryz.func416 (.n 1 (.w [(9000, .po 48),(6, .sl (.st 2)),(7, .int),(8, .int)] [(0,9000)] (fun m t=>zbg t.2.1 t.2.2.1 m t.1 t.2.2.2) fun n0 => .e))
-- (*doorstep/compile.compiler).all
theorem zo7:za 373 zps:=cqG (((CLs.nil.add zo6).add zyL).add zCx) 38 Tryz.func373 (.w [(9000, .po 48),(1, .sl (.st 2))] [(0,9000)] (fun m t=>zV m t.1 t.2) fun n0 => .n 2 (.j [(9000, .po 48),(1, .sl (.st 2)),(4, .int)] [(0,9000)] (fun t=>zcu (zV n0) t.1 t.2.1 t.2.2) .e .e))
-- doorstep/compile.Compile
theorem zwE:za 326 zw8:=cqG ((CLs.nil.add zo7).add zo0) 50 Tryz.func326 (.n 1 (.q (.j [(0, .int),(1, .sl (.st 2)),(17, .bool)] [] (fun t=>zgq t.1 t.2.1 t.2.2) .e .e) (.n 2 (.q (.n 1 (.w [(0, .int),(8, .so 92 (.st 2)),(26, .sl (.st 2)),(27, .int),(28, .int)] [] (fun m t=>zcS t.1 t.2.2.1 t.2.2.2.1 m t.2.1 t.2.2.2.2) fun n0 => .e)) .e))))
-- (*doorstep/machine.machine).skips
theorem zpY:za 417 zqs:=cqG (CLs.nil.add zo4) 36 Tryz.func417 .e
-- doorstep/tmpl.find
theorem zHo:za 469 zIz:=cqG CLs.nil 20 Tryz.func469 (.n 1 (.q (.n 1 (.w [(1, .str),(7, .sl (.st 46)),(8, .int),(9, .int)] [] (fun m t=>zkt t.1 t.2.1 t.2.2.1 m t.2.2.2) fun n0 => .e)) .e))
-- doorstep/tmpl.clean
theorem zFi:za 470 zGt:=cqG ((CLs.nil.add zfX).add zro) 29 Tryz.func470 (.n 2 (.q (.n 1 (.w [(0, .str),(3, .so 5 .u8),(4, .int)] [] (fun m t=>zfc t.1 m t.2.1 t.2.2) fun n0 => .q (.j [(0, .str),(3, .so 5 .u8),(4, .int),(13, .bool)] [] (fun t=>zlC (zfc t.1 n0) t.1 t.2.1 t.2.2.1 t.2.2.2) .e .e) .e)) .e))
-- doorstep/tmpl.Eval
theorem zHp:za 467 zIA:=cqG (((((CLs.nil.add zFi).add zbH).add zo4).add zHo).add zeK) 56 Tryz.func467 (.n 3 (.q (.n 1 (.w [(0, .sl (.st 46)),(7, .po 35),(8, .so 9 .str),(15, .sl (.st 3)),(16, .int),(17, .int)] [] (fun m t=>zeR t.1 t.2.1 t.2.2.2.1 t.2.2.2.2.1 m t.2.2.1 t.2.2.2.2.2) fun n0 => .e)) .e))
-- (*doorstep/machine.machine).value
theorem zpZ:za 451 zqt:=cqG ((CLs.nil.add zHp).add zch) 16 Tryz.func451 .e
-- (*doorstep/bag.Bag).Rename
theorem zvb:za 452 zvP:=cqG (CLs.nil.add zdT) 41 Tryz.func452 (.n 3 (.q (.n 1 (.w [(9000, .po 35),(1, .str),(2, .str),(7, .int),(15, .int),(16, .int)] [(0,9000)] (fun m t=>zcm t.2.1 t.2.2.1 t.2.2.2.2.1 m t.1 t.2.2.2.1 t.2.2.2.2.2) fun n0 => .e)) .e))
-- (*doorstep/machine.machine).do
theorem zrd:za 418 zrC:=cqG (((((CLs.nil.add zvb).add zrq).add zjj).add zpZ).add zjw) 55 Tryz.func418 .e
-- (*doorstep/machine.machine).run
theorem zp0:za 374 zqu:=cqG ((CLs.nil.add zrd).add zpY) 41 Tryz.func374 (.n 1 (.w [(9000, .po 50),(1, .sl (.st 47)),(4, .int)] [(0,9000)] (fun m t=>z8 t.2.1 m t.1 t.2.2) fun n0 => .n 1 (.j [(9000, .po 50),(1, .sl (.st 47)),(4, .int)] [(0,9000)] (fun t=>zc1 (z8 t.2.1 n0) t.1 t.2.2) .e .e)))
-- doorstep/machine.Run
theorem zCz:za 327 zEt:=cqG (((CLs.nil.add zch).add zp0).add zeK) 21 Tryz.func327 .e
-- doorstep/machine.Rules
theorem zyM:za 240 zz4:=cqG ((CLs.nil.add zCz).add zwE) 25 Tryz.func240 .e
-- doorstep/commas.Join
theorem zCA:za 453 zEu:=cqG (CLs.nil.add zbH) 5 Tryz.func453 .e
-- doorstep/commas.Append
theorem zyN:za 420 zz5:=cqG (((CLs.nil.add zt0).add zCA).add zfX) 22 Tryz.func420 .e
-- (*doorstep/bag.Bag).Behind
theorem zjy:za 377 zvQ:=cqG (((CLs.nil.add zjj).add zyN).add zdT) 53 Tryz.func377 (.n 1 (.q (.n 1 (.w [(9000, .po 35),(1, .str),(2, .str),(6, .int)] [(0,9000)] (fun m t=>zdw t.1 t.2.1 t.2.2.1 m t.2.2.2) fun n0 => .e)) .e))
-- doorstep/via.Append
theorem zFj:za 330 zGu:=cqG ((((CLs.nil.add zch).add zjy).add zeK).add zAP) 24 Tryz.func330 .e
-- doorstep/forwarded.Node
theorem zxy:za 422 zyk:=cqG ((CLs.nil.add znM).add zeJ) 13 Tryz.func422 .e
-- doorstep/forwarded.Make
theorem zxz:za 379 zyl:=cqG (CLs.nil.add zxy) 28 Tryz.func379 (.n 2 (.j [(1, .po 5),(3, .so 393 (.st 46))] [] (fun t=>zhc t.1 t.2) .e (.j [(3, .so 393 (.st 46))] [] (fun t=>zhb t) .e .e)))
-- doorstep/quoted.Quote
theorem zAZ:za 455 zBB:=cqG (CLs.nil.add zbr) 40 Tryz.func455 (.n 3 (.q (.n 1 (.w [(0, .str),(4, .so 5 .u8),(12, .int),(13, .int)] [] (fun m t=>zcs t.1 t.2.2.1 m t.2.1 t.2.2.2) fun n0 => .n 2 (.q (.n 1 (.j [(0, .str),(4, .so 5 .u8),(5, .int),(12, .int),(13, .int)] [] (fun t=>zja (zcs t.1 t.2.2.2.1 n0) t.1 t.2.1 t.2.2.1 t.2.2.2.2) (.j [(0, .str),(4, .so 5 .u8),(5, .int),(12, .int),(13, .int),(25, .bool)] [] (fun t=>zjb (zcs t.1 t.2.2.2.1 n0) t.1 t.2.1 t.2.2.1 t.2.2.2.2.1 t.2.2.2.2.2) .e .e) .e)) .e))) .e))
-- doorstep/quoted.Either
theorem zyO:za 421 zz6:=cqG ((CLs.nil.add zAZ).add zfi) 11 Tryz.func421 .e
-- doorstep/params.Text
theorem zCB:za 378 zEv:=cqG (((CLs.nil.add zbH).add zfi).add zyO) 43 Tryz.func378 (.n 2 (.q (.n 1 (.w [(4, .so 9 .str),(9, .sl (.st 46)),(10, .int),(11, .int)] [] (fun m t=>zhT t.2.1 t.2.2.1 m t.1 t.2.2.2) fun n0 => .e)) .e))
-- doorstep/forwarded.Append
theorem zvc:za 331 zvR:=cqG (((((CLs.nil.add zch).add zjy).add zeK).add zCB).add zxz) 25 Tryz.func331 .e
-- doorstep/xff.bare
theorem zI4:za 380 zKF:=cqG ((CLs.nil.add znM).add zeJ) 9 Tryz.func380 .e
-- doorstep/xff.Append
theorem zFk:za 332 zGv:=cqG ((((CLs.nil.add zch).add zjy).add zeK).add zI4) 16 Tryz.func332 (.n 1 (.j [(0, .str),(1, .sl (.st 20))] [] (fun t=>zlG t.1 t.2) .e .e))
-- doorstep/stage.Sign
theorem zFl:za 242 zGw:=cqG ((((((CLs.nil.add zkW).add zeK).add zFk).add zvc).add zFj).add zfY) 70 Tryz.func242 (.n 1 (.q (.j [(1, .int),(3, .po 5),(5, .po 32),(6, .po 33),(26, .bool)] [] (fun t=>zfd t.1 t.2.1 t.2.2.1 t.2.2.2.2) .e .e) (.n 1 (.j [(5, .po 32),(6, .po 33),(8, .so 247 (.st 20)),(9, .int)] [] (fun t=>zlH t.1 t.2.2.1 t.2.2.2) (.j [(3, .po 5),(5, .po 32),(6, .po 33),(8, .so 247 (.st 20)),(9, .int),(46, .bool)] [] (fun t=>zlI t.1 t.2.1 t.2.2.2.1 t.2.2.2.2.1 t.2.2.2.2.2) .e .e) .e))))
-- doorstep/length.Fields
theorem zyP:za 243 zz7:=cqG (CLs.nil.add zfY) 16 Tryz.func243 .e
-- doorstep/rewrite.Head
theorem zkG:za 161 zBC:=cqG (((((CLs.nil.add zyP).add zFl).add zyM).add zCv).add zCu) 58 Tryz.func161 .e
-- (doorstep/startline.line).digit
theorem zre:za 435 zrD:=cqG (((CLs.nil.add zp).add zmu).add zco) 26 Tryz.func435 .e
-- (doorstep/startline.line).version
theorem ziZ:za 397 zpt:=cqG (((CLs.nil.add zp).add zre).add zkU) 36 Tryz.func397 .e
-- doorstep/startline.other
theorem zoH:za 358 zw9:=cqG (((CLs.nil.add zbb).add ziZ).add zgz) 30 Tryz.func358 .e
-- doorstep/startline.request$1
theorem zkH:za 360 zrE:=cqG (CLs.nil.add ziZ) 23 Tryz.func360 .e
-- doorstep/startline.request
theorem zt2:za 312 zuO:=cqG (((((((((CLs.nil.add zbb).add zs5).add zkH).add zL).add zp).add zaz).add zgz).add zoH).add zjM) 84 Tryz.func312 .e
-- doorstep/startline.status
theorem zvd:za 313 zvS:=cqG (((((((((CLs.nil.add zbr).add zdA).add zhi).add zL).add zp).add zkH).add zgz).add zoH).add zlP) 84 Tryz.func313 .e
-- doorstep/startline.Parse
theorem zkI:za 235 zxa:=cqG (((CLs.nil.add zvd).add zt2).add zeA) 29 Tryz.func235 (.n 1 (.q (.j [(0, .int),(1, .str),(4, .po 33),(6, .bool)] [] (fun t=>zgr t.1 t.2.1 t.2.2.2) .e .e) .e))
-- doorstep/startline.Text
theorem zp1:za 246 zym:=cqG (((CLs.nil.add zkI).add zbH).add zfY) 81 Tryz.func246 (.n 3 (.j [(1, .po 32),(5, .str)] [] (fun t=>zhe t.1 t.2) .e (.n 2 (.j [(5, .str),(7, .int),(8, .bool)] [] (fun t=>zb7 t.1 t.2.1 t.2.2) .e .e))))
-- doorstep/head.hosts
theorem zFm:za 361 zGx:=cqG (((CLs.nil.add zd6).add zf0).add zeK) 43 Tryz.func361 (.n 4 (.q (.n 1 (.w [(25, .so 9 .str),(26, .int),(27, .int)] [] (fun m t=>zfe t.1 t.2.1 m t.2.2) fun n0 => .n 2 (.q (.n 2 (.j [(25, .so 9 .str),(26, .int),(27, .int),(41, .bool)] [] (fun t=>zlK (zfe t.1 t.2.1 n0) t.2.2.1 t.2.2.2) .e .e)) .e))) .e))
-- doorstep/head.whole
theorem zwF:za 316 zGy:=cqG (CLs.nil.add zFm) 12 Tryz.func316 .e
-- doorstep/head.Check
theorem zwG:za 244 zGz:=cqG (((CLs.nil.add zwF).add zkF).add zp1) 31 Tryz.func244 (.n 2 (.q (.n 1 (.w [(1, .po 32),(17, .sl (.st 20)),(18, .int),(19, .int)] [] (fun m t=>ziT t.1 t.2.1 t.2.2.1 m t.2.2.2) fun n0 => .e)) .e))
-- doorstep/quill.New
theorem zHq:za 245 zIB:=cqG CLs.nil 7 Tryz.func245 .e
-- (*doorstep/quill.Quill).Left
theorem zve:za 423 zvT:=cqG CLs.nil 15 Tryz.func423 .e
-- (*doorstep/quill.Quill).Put
theorem zt3:za 381 zuP:=cqG (CLs.nil.add zve) 45 Tryz.func381 (.n 3 (.q (.n 1 (.w [(9000, .po 52),(1, .sl .str),(5, .int),(14, .sl .str),(15, .int),(16, .int)] [(0,9000)] (fun m t=>zdb t.1 t.2.1 t.2.2.2.1 t.2.2.2.2.1 m t.2.2.1 t.2.2.2.2.2) fun n0 => .e)) (.q (.n 1 (.w [(9000, .po 52),(29, .sl .str),(30, .int),(31, .int)] [(0,9000)] (fun m t=>zda t.2.1 t.2.2.1 m t.1 t.2.2.2) fun n1 => .e)) .e)))
end
end Go.Proofs
end
