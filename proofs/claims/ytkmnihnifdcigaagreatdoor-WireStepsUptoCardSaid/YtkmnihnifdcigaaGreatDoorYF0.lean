/-
 What the models are made with: data, contracts.
 WireSteps' model at the data of a statement. No program in sight.
 Contracts of a program's functions: the facts that show them, written by a program (wip/gen).
-/
import Derived.Test.YtkmnihnifdcigaaGreatDoorYM
import Derived.Test.YtkmnihnifdcigaaGreatDoorYTr
import Derived.Test.YtkmnihnifdcigaaGreatDoorW0
import Derived.Test.YtkmnihnifdcigaaGreatDoorYMem
import Derived.Test.YtkmnihnifdcigaaGreatDoorSq
import Derived.Test.YtkmnihnifdcigaaGreatDoorYMo
import Derived.KernelRfl
set_option linter.unusedVariables false
set_option linter.unusedSimpArgs false
section
set_option linter.unusedVariables false
set_option maxRecDepth 100000
namespace Go.Proofs
noncomputable section
open Go.Dk Go.Dm Go.RowKit Go.Rk
def tau:Nat→Type
 | 0=>zXo
 | 1=>zW3
 | 2=>zWU
 | 3=>zWR
 | 4=>zXA
 | 5=>zW2
 | 6=>Str × Str × Str × Str
 | 7=>zW2
 | 8=>zWU
 | 9=>zXo
 | 10=>zXH
 | 11=>zW9
 | 12=>zWW
 | 13=>zXG
 | 14=>zXk
 | 15=>zXc
 | 16=>zWN
 | 17=>zXg
 | 18=>zW0
 | 19=>zW4
 | 20=>zWQ
 | 21=>zXn
 | 22=>zWS
 | 23=>zW5
 | 24=>zW1
 | 25=>zXx
 | 26=>zXl
 | 27=>zWX
 | 28=>zWV
 | 29=>ref44_Setup
 | 30=>zXN
 | 31=>zXB
 | 32=>zWT
 | 33=>zWT
 | 34=>zWY
 | 35=>zXi
 | 36=>zXK
 | 37=>zW6
 | 38=>zXE
 | 39=>List Str
 | 40=>Str
 | 41=>zXm
 | 42=>zXy
 | 43=>zXp
 | 44=>zW7
 | 45=>zW7
 | 46=>zXf
 | 47=>zXD
 | 48=>zXd
 | 49=>zXD
 | 50=>zXb
 | 51=>zXv
 | 52=>zXt
 | 53=>zXL
 | 54=>zXM
 | 55=>zXM
 | 56=>zXz
 | 57=>zXP
 | 58=>zXu
 | _=>Unit
noncomputable section
set_option maxHeartbeats 8000000 in
def G:Sig tau where
 fs
  | 0=>[.str, .str, .str, .str, .sl (.st 1), .sl (.st 1), .int, .int, .int, .sl (.st 2), .str, .str, .bool, .bool, .sl (.st 4)]
  | 1=>[.str, .str]
  | 2=>[.int, .int, .str, .str, .int, .str, .str, .sl (.st 3)]
  | 3=>[.int, .str]
  | 4=>[.int, .int]
  | 5=>[.str, .str, .str, .str, .sl (.st 1), .sl (.st 1)]
  | 6=>[.str, .str, .str, .str]
  | 7=>[.str, .str, .str, .str, .so 98 (.st 1), .so 98 (.st 1)]
  | 8=>[.int, .int, .str, .str, .int, .str, .str, .so 109 (.st 3)]
  | 9=>[.str, .str, .str, .str, .so 98 (.st 1), .so 98 (.st 1), .int, .int, .int, .so 88 (.st 2), .str, .str, .bool, .bool, .sl (.st 4)]
  | 10=>[.int, .int, .int]
  | 11=>[.str, .str, .str, .str]
  | 12=>[.str, .int]
  | 13=>[.po 12]
  | 14=>[.int, .str, .int]
  | 15=>[.str, .str, .str, .str, .str, .bool, .bool, .bool]
  | 16=>[.pn 17, .str, .str, .str, .str, .sl (.st 1), .sl (.st 1), .int, .int, .int, .so 88 (.st 2), .pn 19, .pn 21, .pn 23, .pn 19, .pn 21, .pn 23, .so 5 .u8, .so 5 .u8, .int, .bool, .bool, .bool, .bool, .bool, .bool, .bool]
  | 17=>[.so 182 (.st 18), .int, .bool]
  | 18=>[.str, .int, .bool]
  | 19=>[.int, .int, .so 5 .u8, .int, .bool, .int, .bool, .int, .str, .str, .int, .str, .int, .sl (.st 20)]
  | 20=>[.str, .str]
  | 21=>[.pn 22, .int, .int, .int, .bool, .bool]
  | 22=>[.int, .int, .so 5 .u8, .int, .int, .int, .so 225 (.st 20)]
  | 23=>[.pn 24, .int, .int, .int, .bool]
  | 24=>[.int, .str, .bool]
  | 25=>[.int, .str, .str]
  | 26=>[.po 12, .so 109 (.st 3)]
  | 27=>[.pn 19, .pn 21, .pn 23]
  | 28=>[.po 16, .str, .int, .bool, .bool, .so 5 .u8, .mv 19, .mv 20, .str, .int, .bool, .bool, .so 5 .u8, .mv 21, .mv 22, .int, .int]
  | 29=>[.str, .str, .str, .str, .sl (.st 1), .sl (.st 1), .int, .int, .int, .sl (.st 2)]
  | 30=>[.str, .str, .int, .int, .int, .int, .bool]
  | 31=>[.so 182 (.st 18), .int]
  | 32=>[.int, .str, .str, .int, .str, .int, .sl (.st 20)]
  | 33=>[.int, .str, .str, .int, .str, .int, .so 225 (.st 20)]
  | 34=>[.int, .int]
  | 35=>[.so 225 (.st 20)]
  | 36=>[.po 35, .int]
  | 37=>[.po 12, .so 9 .str, .int, .str]
  | 38=>[.po 12, .so 5 .u8]
  | 39=>[.sl .str]
  | 40=>[.str]
  | 41=>[.int, .str, .int, .str, .int, .str, .str, .bool]
  | 42=>[.po 35, .int, .str, .str, .int, .str, .int, .sl (.st 20)]
  | 43=>[.str, .str, .bool]
  | 44=>[.str, .str, .sl (.st 43)]
  | 45=>[.str, .str, .so 460 (.st 43)]
  | 46=>[.str, .str]
  | 47=>[.int, .str, .str, .sl (.st 3), .int]
  | 48=>[.so 453 (.st 47)]
  | 49=>[.int, .str, .str, .so 109 (.st 3), .int]
  | 50=>[.po 35, .sl (.st 46), .int]
  | 51=>[.po 12]
  | 52=>[.so 5 .u8, .int]
  | 53=>[.po 52, .bool]
  | 54=>[.int, .str, .str, .int, .str, .int, .sl (.st 20), .int, .int, .str, .sl (.st 20)]
  | 55=>[.int, .str, .str, .int, .str, .int, .so 225 (.st 20), .int, .int, .str, .so 225 (.st 20)]
  | 56=>[.po 12]
  | 57=>[.int, .int]
  | 58=>[.str, .int, .bool, .bool, .so 5 .u8, .nil /-('bad', 'func')-/, .nil /-('bad', 'func')-/]
  | _=>[]
 ti
  | 0=>30
  | 1=>98
  | 2=>88
  | 3=>109
  | 4=>40
  | 5=>24
  | 6=>116
  | 7=>24
  | 8=>88
  | 9=>30
  | 10=>26
  | 11=>122
  | 12=>267
  | 13=>215
  | 14=>125
  | 15=>206
  | 16=>105
  | 17=>135
  | 18=>182
  | 19=>179
  | 20=>225
  | 21=>152
  | 22=>238
  | 23=>194
  | 24=>130
  | 25=>85
  | 26=>396
  | 27=>103
  | 28=>68
  | 29=>71
  | 30=>44
  | 31=>133
  | 32=>177
  | 33=>177
  | 34=>149
  | 35=>382
  | 36=>350
  | 37=>434
  | 38=>488
  | 39=>163
  | 40=>9
  | 41=>358
  | 42=>355
  | 43=>460
  | 44=>444
  | 45=>444
  | 46=>369
  | 47=>453
  | 48=>412
  | 49=>453
  | 50=>416
  | 51=>397
  | 52=>377
  | 53=>310
  | 54=>244
  | 55=>244
  | 56=>458
  | 57=>42
  | 58=>66
  | _=>0
 ctor
  | 0,p=>(⟨(⟨p.1,p.2.1,p.2.2.1,p.2.2.2.1,p.2.2.2.2.1,p.2.2.2.2.2.1⟩:zW2),(⟨p.2.2.2.2.2.2.1,p.2.2.2.2.2.2.2.1,p.2.2.2.2.2.2.2.2.1⟩:zXH),p.2.2.2.2.2.2.2.2.2.1,p.2.2.2.2.2.2.2.2.2.2.1,p.2.2.2.2.2.2.2.2.2.2.2.1,p.2.2.2.2.2.2.2.2.2.2.2.2.1,p.2.2.2.2.2.2.2.2.2.2.2.2.2.1,p.2.2.2.2.2.2.2.2.2.2.2.2.2.2⟩:zXo)
  | 1,p=>(⟨p.1,p.2⟩:zW3)
  | 2,p=>(⟨p.1,(⟨p.2.1,p.2.2.1,p.2.2.2.1⟩:zXx),p.2.2.2.2.1,p.2.2.2.2.2.1,p.2.2.2.2.2.2.1,p.2.2.2.2.2.2.2⟩:zWU)
  | 3,p=>(⟨p.1,p.2⟩:zWR)
  | 4,p=>(⟨p.1,p.2⟩:zXA)
  | 5,p=>(⟨p.1,p.2.1,p.2.2.1,p.2.2.2.1,p.2.2.2.2.1,p.2.2.2.2.2⟩:zW2)
  | 6,p=>p
  | 7,p=>(⟨p.1,p.2.1,p.2.2.1,p.2.2.2.1,p.2.2.2.2.1,p.2.2.2.2.2⟩:zW2)
  | 8,p=>(⟨p.1,(⟨p.2.1,p.2.2.1,p.2.2.2.1⟩:zXx),p.2.2.2.2.1,p.2.2.2.2.2.1,p.2.2.2.2.2.2.1,p.2.2.2.2.2.2.2⟩:zWU)
  | 9,p=>(⟨(⟨p.1,p.2.1,p.2.2.1,p.2.2.2.1,p.2.2.2.2.1,p.2.2.2.2.2.1⟩:zW2),(⟨p.2.2.2.2.2.2.1,p.2.2.2.2.2.2.2.1,p.2.2.2.2.2.2.2.2.1⟩:zXH),p.2.2.2.2.2.2.2.2.2.1,p.2.2.2.2.2.2.2.2.2.2.1,p.2.2.2.2.2.2.2.2.2.2.2.1,p.2.2.2.2.2.2.2.2.2.2.2.2.1,p.2.2.2.2.2.2.2.2.2.2.2.2.2.1,p.2.2.2.2.2.2.2.2.2.2.2.2.2.2⟩:zXo)
  | 10,p=>(⟨p.1,p.2.1,p.2.2⟩:zXH)
  | 11,p=>(⟨p.1,p.2.1,p.2.2.1,p.2.2.2⟩:zW9)
  | 12,p=>(⟨p.1,p.2⟩:zWW)
  | 13,p=>(⟨p⟩:zXG)
  | 14,p=>(⟨p.1,p.2.1,p.2.2⟩:zXk)
  | 15,p=>(⟨p.1,p.2.1,p.2.2.1,p.2.2.2.1,p.2.2.2.2.1,p.2.2.2.2.2.1,p.2.2.2.2.2.2.1,p.2.2.2.2.2.2.2⟩:zXc)
  | 16,p=>(⟨p.1,(⟨p.2.1,p.2.2.1,p.2.2.2.1,p.2.2.2.2.1,p.2.2.2.2.2.1,p.2.2.2.2.2.2.1⟩:zW2),(⟨p.2.2.2.2.2.2.2.1,p.2.2.2.2.2.2.2.2.1,p.2.2.2.2.2.2.2.2.2.1⟩:zXH),p.2.2.2.2.2.2.2.2.2.2.1,(⟨p.2.2.2.2.2.2.2.2.2.2.2.1,p.2.2.2.2.2.2.2.2.2.2.2.2.1,p.2.2.2.2.2.2.2.2.2.2.2.2.2.1⟩:zWX),(⟨p.2.2.2.2.2.2.2.2.2.2.2.2.2.2.1,p.2.2.2.2.2.2.2.2.2.2.2.2.2.2.2.1,p.2.2.2.2.2.2.2.2.2.2.2.2.2.2.2.2.1⟩:zWX),p.2.2.2.2.2.2.2.2.2.2.2.2.2.2.2.2.2.1,p.2.2.2.2.2.2.2.2.2.2.2.2.2.2.2.2.2.2.1,p.2.2.2.2.2.2.2.2.2.2.2.2.2.2.2.2.2.2.2.1,p.2.2.2.2.2.2.2.2.2.2.2.2.2.2.2.2.2.2.2.2.1,p.2.2.2.2.2.2.2.2.2.2.2.2.2.2.2.2.2.2.2.2.2.1,p.2.2.2.2.2.2.2.2.2.2.2.2.2.2.2.2.2.2.2.2.2.2.1,p.2.2.2.2.2.2.2.2.2.2.2.2.2.2.2.2.2.2.2.2.2.2.2.1,p.2.2.2.2.2.2.2.2.2.2.2.2.2.2.2.2.2.2.2.2.2.2.2.2.1,p.2.2.2.2.2.2.2.2.2.2.2.2.2.2.2.2.2.2.2.2.2.2.2.2.2.1,p.2.2.2.2.2.2.2.2.2.2.2.2.2.2.2.2.2.2.2.2.2.2.2.2.2.2⟩:zWN)
  | 17,p=>(⟨(⟨p.1,p.2.1⟩:zXB),p.2.2⟩:zXg)
  | 18,p=>(⟨p.1,p.2.1,p.2.2⟩:zW0)
  | 19,p=>(⟨p.1,p.2.1,p.2.2.1,p.2.2.2.1,p.2.2.2.2.1,p.2.2.2.2.2.1,p.2.2.2.2.2.2.1,(⟨p.2.2.2.2.2.2.2.1,p.2.2.2.2.2.2.2.2.1,p.2.2.2.2.2.2.2.2.2.1,p.2.2.2.2.2.2.2.2.2.2.1,p.2.2.2.2.2.2.2.2.2.2.2.1,p.2.2.2.2.2.2.2.2.2.2.2.2.1,p.2.2.2.2.2.2.2.2.2.2.2.2.2⟩:zWT)⟩:zW4)
  | 20,p=>(⟨p.1,p.2⟩:zWQ)
  | 21,p=>(⟨p.1,(⟨p.2.1,p.2.2.1⟩:zWY),p.2.2.2.1,p.2.2.2.2.1,p.2.2.2.2.2⟩:zXn)
  | 22,p=>(⟨p.1,p.2.1,p.2.2.1,p.2.2.2.1,p.2.2.2.2.1,p.2.2.2.2.2.1,p.2.2.2.2.2.2⟩:zWS)
  | 23,p=>(⟨p.1,(⟨p.2.1,p.2.2.1⟩:zWY),p.2.2.2.1,p.2.2.2.2⟩:zW5)
  | 24,p=>(⟨p.1,p.2.1,p.2.2⟩:zW1)
  | 25,p=>(⟨p.1,p.2.1,p.2.2⟩:zXx)
  | 26,p=>(⟨p.1,p.2⟩:zXl)
  | 27,p=>(⟨p.1,p.2.1,p.2.2⟩:zWX)
  | 28,p=>(⟨p.1,(⟨p.2.1,p.2.2.1,p.2.2.2.1,p.2.2.2.2.1,p.2.2.2.2.2.1,p.2.2.2.2.2.2.1,p.2.2.2.2.2.2.2.1⟩:zXu),(⟨p.2.2.2.2.2.2.2.2.1,p.2.2.2.2.2.2.2.2.2.1,p.2.2.2.2.2.2.2.2.2.2.1,p.2.2.2.2.2.2.2.2.2.2.2.1,p.2.2.2.2.2.2.2.2.2.2.2.2.1,p.2.2.2.2.2.2.2.2.2.2.2.2.2.1,p.2.2.2.2.2.2.2.2.2.2.2.2.2.2.1⟩:zXu),(⟨p.2.2.2.2.2.2.2.2.2.2.2.2.2.2.2.1,p.2.2.2.2.2.2.2.2.2.2.2.2.2.2.2.2⟩:zXP)⟩:zWV)
  | 29,p=>(⟨(⟨p.1,p.2.1,p.2.2.1,p.2.2.2.1,p.2.2.2.2.1,p.2.2.2.2.2.1⟩:zW2),(⟨p.2.2.2.2.2.2.1,p.2.2.2.2.2.2.2.1,p.2.2.2.2.2.2.2.2.1⟩:zXH),p.2.2.2.2.2.2.2.2.2⟩:ref44_Setup)
  | 30,p=>(⟨p.1,p.2.1,p.2.2.1,p.2.2.2.1,(⟨p.2.2.2.2.1,p.2.2.2.2.2.1⟩:zXP),p.2.2.2.2.2.2⟩:zXN)
  | 31,p=>(⟨p.1,p.2⟩:zXB)
  | 32,p=>(⟨p.1,p.2.1,p.2.2.1,p.2.2.2.1,p.2.2.2.2.1,p.2.2.2.2.2.1,p.2.2.2.2.2.2⟩:zWT)
  | 33,p=>(⟨p.1,p.2.1,p.2.2.1,p.2.2.2.1,p.2.2.2.2.1,p.2.2.2.2.2.1,p.2.2.2.2.2.2⟩:zWT)
  | 34,p=>(⟨p.1,p.2⟩:zWY)
  | 35,p=>(⟨p⟩:zXi)
  | 36,p=>(⟨p.1,p.2⟩:zXK)
  | 37,p=>(⟨p.1,p.2.1,p.2.2.1,p.2.2.2⟩:zW6)
  | 38,p=>(⟨p.1,p.2⟩:zXE)
  | 39,p=>p
  | 40,p=>p
  | 41,p=>(⟨p.1,p.2.1,(⟨p.2.2.1,p.2.2.2.1,p.2.2.2.2.1⟩:zXk),p.2.2.2.2.2.1,p.2.2.2.2.2.2.1,p.2.2.2.2.2.2.2⟩:zXm)
  | 42,p=>(⟨p.1,(⟨p.2.1,p.2.2.1,p.2.2.2.1,p.2.2.2.2.1,p.2.2.2.2.2.1,p.2.2.2.2.2.2.1,p.2.2.2.2.2.2.2⟩:zWT)⟩:zXy)
  | 43,p=>(⟨p.1,p.2.1,p.2.2⟩:zXp)
  | 44,p=>(⟨p.1,p.2.1,p.2.2⟩:zW7)
  | 45,p=>(⟨p.1,p.2.1,p.2.2⟩:zW7)
  | 46,p=>(⟨p.1,p.2⟩:zXf)
  | 47,p=>(⟨p.1,p.2.1,p.2.2.1,p.2.2.2.1,p.2.2.2.2⟩:zXD)
  | 48,p=>(⟨p⟩:zXd)
  | 49,p=>(⟨p.1,p.2.1,p.2.2.1,p.2.2.2.1,p.2.2.2.2⟩:zXD)
  | 50,p=>(⟨p.1,p.2.1,p.2.2⟩:zXb)
  | 51,p=>(⟨p⟩:zXv)
  | 52,p=>(⟨p.1,p.2⟩:zXt)
  | 53,p=>(⟨p.1,p.2⟩:zXL)
  | 54,p=>(⟨(⟨p.1,p.2.1,p.2.2.1,p.2.2.2.1,p.2.2.2.2.1,p.2.2.2.2.2.1,p.2.2.2.2.2.2.1⟩:zWT),(⟨p.2.2.2.2.2.2.2.1,p.2.2.2.2.2.2.2.2.1⟩:zWY),p.2.2.2.2.2.2.2.2.2.1,p.2.2.2.2.2.2.2.2.2.2⟩:zXM)
  | 55,p=>(⟨(⟨p.1,p.2.1,p.2.2.1,p.2.2.2.1,p.2.2.2.2.1,p.2.2.2.2.2.1,p.2.2.2.2.2.2.1⟩:zWT),(⟨p.2.2.2.2.2.2.2.1,p.2.2.2.2.2.2.2.2.1⟩:zWY),p.2.2.2.2.2.2.2.2.2.1,p.2.2.2.2.2.2.2.2.2.2⟩:zXM)
  | 56,p=>(⟨p⟩:zXz)
  | 57,p=>(⟨p.1,p.2⟩:zXP)
  | 58,p=>(⟨p.1,p.2.1,p.2.2.1,p.2.2.2.1,p.2.2.2.2.1,p.2.2.2.2.2.1,p.2.2.2.2.2.2⟩:zXu)
  | _+59,_=>()
 dtor
  | 0,(x:zXo)=>(x.Env.Client,x.Env.Host,x.Env.Scheme,x.Env.By,x.Env.Domains,x.Env.Locations,x.Caps.Head,x.Caps.Chunk,x.Caps.Queue,x.Rules,x.Client,x.Upstream,x.ClientEnds,x.UpstreamEnds,x.Events)
  | 1,(x:zW3)=>(x.From,x.To)
  | 2,(x:zWU)=>(x.Side,x.Guard.Kind,x.Guard.Name,x.Guard.Value,x.Kind,x.Name,x.To,x.Parts)
  | 3,(x:zWR)=>(x.Kind,x.Text)
  | 4,(x:zXA)=>(x.Kind,x.N)
  | 5,(x:zW2)=>(x.Client,x.Host,x.Scheme,x.By,x.Domains,x.Locations)
  | 6,x=>x
  | 7,(x:zW2)=>(x.Client,x.Host,x.Scheme,x.By,x.Domains,x.Locations)
  | 8,(x:zWU)=>(x.Side,x.Guard.Kind,x.Guard.Name,x.Guard.Value,x.Kind,x.Name,x.To,x.Parts)
  | 9,(x:zXo)=>(x.Env.Client,x.Env.Host,x.Env.Scheme,x.Env.By,x.Env.Domains,x.Env.Locations,x.Caps.Head,x.Caps.Chunk,x.Caps.Queue,x.Rules,x.Client,x.Upstream,x.ClientEnds,x.UpstreamEnds,x.Events)
  | 10,(x:zXH)=>(x.Head,x.Chunk,x.Queue)
  | 11,(x:zW9)=>(x.Proto,x.Version,x.By,x.Comment)
  | 12,(x:zWW)=>(x.zXI,x.zXj)
  | 13,(x:zXG)=>x.Scanner
  | 14,(x:zXk)=>(x.Kind,x.Name,x.Port)
  | 15,(x:zXc)=>(x.Scheme,x.Auth,x.Path,x.Query,x.Frag,x.HasAuth,x.HasQuery,x.HasFrag)
  | 16,(x:zWN)=>(x.Queue,x.zYb.Client,x.zYb.Host,x.zYb.Scheme,x.zYb.By,x.zYb.Domains,x.zYb.Locations,x.zXV.Head,x.zXV.Chunk,x.zXV.Queue,x.zXZ,x.zWP.Accum,x.zWP.zXW,x.zWP.zW8,x.zWO.Accum,x.zWO.zXW,x.zWO.zW8,x.zXQ,x.zYd,x.zYe,x.zXr,x.zYa,x.zXT,x.zX6,x.zX7,x.zX9,x.zWZ)
  | 17,(x:zXg)=>(x.zX0.zXJ,x.zX0.zXa,x.zX7)
  | 18,(x:zW0)=>(x.Method,x.Minor,x.Close)
  | 19,(x:zW4)=>(x.zYg,x.zX1,x.zXs,x.zXO,x.zYh,x.zYf,x.f_whole,x.zXX.Kind,x.zXX.Method,x.zXX.Target,x.zXX.Code,x.zXX.Reason,x.zXX.Minor,x.zXX.Fields)
  | 20,(x:zWQ)=>(x.Name,x.Value)
  | 21,(x:zXn)=>(x.Decoder,x.zXY.Kind,x.zXY.N,x.zXF,x.zXR,x.zYf)
  | 22,(x:zWS)=>(x.zX1,x.zXj,x.zX2,x.zXF,x.zYk,x.zX8,x.zXU)
  | 23,(x:zW5)=>(x.Encoder,x.zXY.Kind,x.zXY.N,x.zXF,x.zXR)
  | 24,(x:zW1)=>(x.zX4,x.zXs,x.zXR)
  | 25,(x:zXx)=>(x.Kind,x.Name,x.Value)
  | 26,(x:zXl)=>(x.Scanner,x.zW8)
  | 27,(x:zWX)=>(x.Accum,x.zXW,x.zW8)
  | 28,(x:zWV)=>(x.Gateway,x.zWP.zXq,x.zWP.zXh,x.zWP.zXC,x.zWP.zXw,x.zWP.zXe,x.zWP.zXS,x.zWP.zX3,x.zWO.zXq,x.zWO.zXh,x.zWO.zXC,x.zWO.zXw,x.zWO.zXe,x.zWO.zXS,x.zWO.zX3,x.zXa.Client,x.zXa.Upstream)
  | 29,(x:ref44_Setup)=>(x.Env.Client,x.Env.Host,x.Env.Scheme,x.Env.By,x.Env.Domains,x.Env.Locations,x.Caps.Head,x.Caps.Chunk,x.Caps.Queue,x.Rules)
  | 30,(x:zXN)=>(x.Client,x.Upstream,x.ReadClient,x.ReadUpstream,x.Most.Client,x.Most.Upstream,x.Closed)
  | 31,(x:zXB)=>(x.zXJ,x.zXa)
  | 32,(x:zWT)=>(x.Kind,x.Method,x.Target,x.Code,x.Reason,x.Minor,x.Fields)
  | 33,(x:zWT)=>(x.Kind,x.Method,x.Target,x.Code,x.Reason,x.Minor,x.Fields)
  | 34,(x:zWY)=>(x.Kind,x.N)
  | 35,(x:zXi)=>x.zXJ
  | 36,(x:zXK)=>(x.Bag,x.zYm)
  | 37,(x:zW6)=>(x.Scanner,x.zW8,x.zXO,x.zXI)
  | 38,(x:zXE)=>(x.Scanner,x.zW8)
  | 39,x=>x
  | 40,x=>x
  | 41,(x:zXm)=>(x.Kind,x.Scheme,x.Host.Kind,x.Host.Name,x.Host.Port,x.Path,x.Query,x.HasQuery)
  | 42,(x:zXy)=>(x.Bag,x.zYi.Kind,x.zYi.Method,x.zYi.Target,x.zYi.Code,x.zYi.Reason,x.zYi.Minor,x.zYi.Fields)
  | 43,(x:zXp)=>(x.Name,x.Value,x.Has)
  | 44,(x:zW7)=>(x.Name,x.Value,x.Attrs)
  | 45,(x:zW7)=>(x.Name,x.Value,x.Attrs)
  | 46,(x:zXf)=>(x.Name,x.Value)
  | 47,(x:zXD)=>(x.Kind,x.Name,x.Text,x.Parts,x.N)
  | 48,(x:zXd)=>x.zW8
  | 49,(x:zXD)=>(x.Kind,x.Name,x.Text,x.Parts,x.N)
  | 50,(x:zXb)=>(x.Bag,x.zYc,x.zX5)
  | 51,(x:zXv)=>x.Scanner
  | 52,(x:zXt)=>(x.zYj,x.zXa)
  | 53,(x:zXL)=>(x.Quill,x.zYl)
  | 54,(x:zXM)=>(x.Head.Kind,x.Head.Method,x.Head.Target,x.Head.Code,x.Head.Reason,x.Head.Minor,x.Head.Fields,x.Frame.Kind,x.Frame.N,x.Body,x.Trailers)
  | 55,(x:zXM)=>(x.Head.Kind,x.Head.Method,x.Head.Target,x.Head.Code,x.Head.Reason,x.Head.Minor,x.Head.Fields,x.Frame.Kind,x.Frame.N,x.Body,x.Trailers)
  | 56,(x:zXz)=>x.Scanner
  | 57,(x:zXP)=>(x.Client,x.Upstream)
  | 58,(x:zXu)=>(x.zXq,x.zXh,x.zXC,x.zXw,x.zXe,x.zXS,x.zX3)
  | _+59,_=>()
 cd
  | 0,_=>rfl
  | 1,_=>rfl
  | 2,_=>rfl
  | 3,_=>rfl
  | 4,_=>rfl
  | 5,_=>rfl
  | 6,_=>rfl
  | 7,_=>rfl
  | 8,_=>rfl
  | 9,_=>rfl
  | 10,_=>rfl
  | 11,_=>rfl
  | 12,_=>rfl
  | 13,_=>rfl
  | 14,_=>rfl
  | 15,_=>rfl
  | 16,_=>rfl
  | 17,_=>rfl
  | 18,_=>rfl
  | 19,_=>rfl
  | 20,_=>rfl
  | 21,_=>rfl
  | 22,_=>rfl
  | 23,_=>rfl
  | 24,_=>rfl
  | 25,_=>rfl
  | 26,_=>rfl
  | 27,_=>rfl
  | 28,_=>rfl
  | 29,_=>rfl
  | 30,_=>rfl
  | 31,_=>rfl
  | 32,_=>rfl
  | 33,_=>rfl
  | 34,_=>rfl
  | 35,_=>rfl
  | 36,_=>rfl
  | 37,_=>rfl
  | 38,_=>rfl
  | 39,_=>rfl
  | 40,_=>rfl
  | 41,_=>rfl
  | 42,_=>rfl
  | 43,_=>rfl
  | 44,_=>rfl
  | 45,_=>rfl
  | 46,_=>rfl
  | 47,_=>rfl
  | 48,_=>rfl
  | 49,_=>rfl
  | 50,_=>rfl
  | 51,_=>rfl
  | 52,_=>rfl
  | 53,_=>rfl
  | 54,_=>rfl
  | 55,_=>rfl
  | 56,_=>rfl
  | 57,_=>rfl
  | 58,_=>rfl
  | _+59,_=>rfl
 dc
  | 0,_=>rfl
  | 1,_=>rfl
  | 2,_=>rfl
  | 3,_=>rfl
  | 4,_=>rfl
  | 5,_=>rfl
  | 6,_=>rfl
  | 7,_=>rfl
  | 8,_=>rfl
  | 9,_=>rfl
  | 10,_=>rfl
  | 11,_=>rfl
  | 12,_=>rfl
  | 13,_=>rfl
  | 14,_=>rfl
  | 15,_=>rfl
  | 16,_=>rfl
  | 17,_=>rfl
  | 18,_=>rfl
  | 19,_=>rfl
  | 20,_=>rfl
  | 21,_=>rfl
  | 22,_=>rfl
  | 23,_=>rfl
  | 24,_=>rfl
  | 25,_=>rfl
  | 26,_=>rfl
  | 27,_=>rfl
  | 28,_=>rfl
  | 29,_=>rfl
  | 30,_=>rfl
  | 31,_=>rfl
  | 32,_=>rfl
  | 33,_=>rfl
  | 34,_=>rfl
  | 35,_=>rfl
  | 36,_=>rfl
  | 37,_=>rfl
  | 38,_=>rfl
  | 39,_=>rfl
  | 40,_=>rfl
  | 41,_=>rfl
  | 42,_=>rfl
  | 43,_=>rfl
  | 44,_=>rfl
  | 45,_=>rfl
  | 46,_=>rfl
  | 47,_=>rfl
  | 48,_=>rfl
  | 49,_=>rfl
  | 50,_=>rfl
  | 51,_=>rfl
  | 52,_=>rfl
  | 53,_=>rfl
  | 54,_=>rfl
  | 55,_=>rfl
  | 56,_=>rfl
  | 57,_=>rfl
  | 58,_=>rfl
  | _+59,_=>rfl
 eq
  | 1,(x:zW3),y=>x==y
  | 3,(x:zWR),y=>x==y
  | 4,(x:zXA),y=>x==y
  | 11,(x:zW9),y=>x==y
  | 14,(x:zXk),y=>x==y
  | 18,(x:zW0),y=>x==y
  | 20,(x:zWQ),y=>x==y
  | 25,(x:zXx),y=>x==y
  | 30,(x:zXN),y=>x==y
  | 34,(x:zWY),y=>x==y
  | 43,(x:zXp),y=>x==y
  | 46,(x:zXf),y=>x==y
  | _,_,_=>true
 fp:=[(142,zbm),(174,zic),(175,zd3),(176,zne),(181,zpi),(195,zgH),(205,zcJ),(206,zjE),(216,zg2),(217,zaS),(252,zf8),(259,zl0),(260,zl1),(274,zdX),(276,zdW),(289,zds),(290,zg3),(332,zno),(333,zjJ),(344,zgJ),(345,zh9),(351,zdy),(388,znl),(426,znk),(455,zg7),(456,zin)]
 gl:=[]
 dr
  | 182=>true
  | _=>false
 ax h:=∀w,Fz.on h w→zkB w
 axm hh ha w hw:=ha w fun b o e=>hw b o (hh b o e)
def G0:Sig tau:=⟨G.fs,G.ti,G.ctor,G.dtor,G.cd,G.dc,G.eq,[],[],G.dr,fun _=>True,fun _ h=>h⟩
def tyl:List (TypeId × Ty):=[(5, .u8),(9, .str),(40, .st 4),(44, .st 30),(85, .st 25),(88, .st 2),(98, .st 1),(109, .st 3),(122, .st 11),(125, .st 14),(149, .st 34),(182, .st 18),(225, .st 20),(369, .st 46),(453, .st 47),(460, .st 43)]
def zyz:Con tau:=⟨[.sl (.st 1)],[.so 98 (.st 1)],1,[],zhv⟩
def zyA:Con tau:=⟨[.sl (.st 3)],[.so 109 (.st 3)],1,[],zfF⟩
def zCd:Con tau:=⟨[.sl .str, .str],[.str],1,[],fun p=>strings_Join p.1 p.2⟩
def znI:Con tau:=⟨[.str, .u8],[.int],1,[],fun p=>strings_IndexByte p.1 p.2⟩
def zuV:Con tau:=⟨[.int, .int],[.str],1,[],fun p=>zcg p.1 p.2⟩
def zAn:Con tau:=⟨[.str, .str],[.so 9 .str],1,[],fun p=>strings_Split p.1 p.2⟩
def zAo:Con tau:=⟨[.str],[.bool],1,[],zbn⟩
def zEs:Con tau:=⟨[.str, .str],[.str, .str, .bool],3,[],fun p=>strings_Cut p.1 p.2⟩
def zv7:Con tau:=⟨[.str, .str],[.int],1,[],fun p=>strings_IndexAny p.1 p.2⟩
def zv8:Con tau:=⟨[.str, .str],[.bool],1,[],fun p=>strings_Contains p.1 p.2⟩
def zCe:Con tau:=⟨[.str, .str],[.str],1,[],fun p=>zbJ p.1 p.2⟩
def zGP:Con tau:=⟨[.str],[.str],1,[],za6⟩
def ztO:Con tau:=⟨[.str, .str, .str],[.str],1,[],fun p=>strings_ReplaceAll p.1 p.2.1 p.2.2⟩
def zxc:Con tau:=⟨[.sl (.st 20)],[.so 225 (.st 20)],1,[],zgP⟩
def zuW:Con tau:=⟨[.so 225 (.st 20), .int, .so 225 (.st 20)],[.so 225 (.st 20)],1,[],fun p=>zch p.1 p.2.1 p.2.2⟩
def zuX:Con tau:=⟨[.str, .str],[.str],1,[],fun p=>zdp p.1 p.2⟩
def zAp:Con tau:=⟨[.str, .str],[.int],1,[],fun p=>strings_Index p.1 p.2⟩
def zNR:Con tau:=⟨[],[.bool],1,[],fun _=>zDo⟩
def zGQ:Con tau:=⟨[.st 1],[.st 1],1,[],znh⟩
def zIM:Con tau:=⟨[.st 5],[.st 7],1,[],ztc⟩
def zIN:Con tau:=⟨[.sl (.st 1)],[.so 98 (.st 1)],1,[],zpf⟩
def zIO:Con tau:=⟨[.st 5],[.st 7],1,[],ztd⟩
def zIP:Con tau:=⟨[.sl (.st 3)],[.so 109 (.st 3)],1,[],zpg⟩
def zIQ:Con tau:=⟨[.st 2],[.st 8],1,[],zte⟩
def zIR:Con tau:=⟨[.sl (.st 2)],[.so 88 (.st 2)],1,[],ztf⟩
def zIS:Con tau:=⟨[.sl (.st 2)],[.so 88 (.st 2)],1,[],ztg⟩
def zIT:Con tau:=⟨[.st 0],[.st 9],1,[],znd⟩
def zGR:Con tau:=⟨[.str, .sl .str],[.str],1,[],fun p=>zbt p.1 p.2⟩
def zK2:Con tau:=⟨[.str],[.po 12],1,[],zgG⟩
def zqW:Con tau:=⟨[.u8],[.u8],1,[],zbS⟩
def zsL:Con tau:=⟨[.u8],[.bool],1,[],zdW⟩
def zsM:Con tau:=⟨[.u8],[.bool],1,[],zbm⟩
def zAq:Con tau:=⟨[.u8, .str],[.bool],1,[],fun p=>zkX p.1 p.2⟩
def zAr:Con tau:=⟨[.u8],[.bool],1,[],zg2⟩
def zxd:Con tau:=⟨[.pt 12],[.int],1,[],zcq⟩
def zuY:Con tau:=⟨[.pt 12],[.str],1,[],zas⟩
def zv9:Con tau:=⟨[.pt 12],[.bool],1,[],zao⟩
def zuZ:Con tau:=⟨[.pt 12],[.u8, .bool],2,[],zat⟩
def zrE:Con tau:=⟨[.po 12, .fn],[.str, .po 12],1,[0],fun p=>zK p.1 p.2⟩
def zrF:Con tau:=⟨[.po 12],[.str, .bool, .po 12],2,[0],zP⟩
def zsN:Con tau:=⟨[.po 12, .u8],[.bool, .po 12],1,[0],fun p=>zf p.1 p.2⟩
def zqX:Con tau:=⟨[.st 13, .po 11],[.bool, .po 11, .po 12],1,[1,32],fun p=>zeu p.1 p.2⟩
def zxe:Con tau:=⟨[.u8],[.bool],1,[],zgH⟩
def zIU:Con tau:=⟨[.fn, .sl .str],[.bool],1,[],fun p=>zbU p.1 p.2⟩
def zAs:Con tau:=⟨[.u8],[.int],1,[],zlh⟩
def zCf:Con tau:=⟨[.str, .int, .int, .fn],[.int, .int],2,[],fun p=>zjX p.1 p.2.1 p.2.2.1 p.2.2.2⟩
def zxf:Con tau:=⟨[.str, .int],[.int, .int],2,[],fun p=>zdr p.1 p.2⟩
def zCg:Con tau:=⟨[.int, .int],[.str],1,[],fun p=>zjY p.1 p.2⟩
def zCh:Con tau:=⟨[.int],[.str],1,[],zcY⟩
def zrs:Con tau:=⟨[.str, .int],[.bool],1,[],fun p=>zbz p.1 p.2⟩
def zEt:Con tau:=⟨[.u8],[.bool],1,[],zdX⟩
def zxg:Con tau:=⟨[.str, .bool],[.int],1,[],fun p=>zeI p.1 p.2⟩
def zCi:Con tau:=⟨[.str],[.bool],1,[],zh7⟩
def zwa:Con tau:=⟨[.str],[.bool],1,[],zh8⟩
def zmC:Con tau:=⟨[.u8],[.bool],1,[],zcJ⟩
def zwb:Con tau:=⟨[.u8],[.bool],1,[],zjE⟩
def zAt:Con tau:=⟨[.str],[.bool],1,[],ze8⟩
def zEu:Con tau:=⟨[.str],[.st 14, .bool],2,[],zlQ⟩
def zmr:Con tau:=⟨[.str, .u8],[.int],1,[],fun p=>zaX p.1 p.2⟩
def zqY:Con tau:=⟨[.str, .u8],[.int],1,[],fun p=>zcE p.1 p.2⟩
def zyB:Con tau:=⟨[.str],[.st 14, .int],2,[],zb3⟩
def zEv:Con tau:=⟨[.str],[.bool],1,[],zdY⟩
def zsO:Con tau:=⟨[.str, .str],[.bool],1,[],fun p=>strings_ContainsAny p.1 p.2⟩
def zxh:Con tau:=⟨[.st 13, .po 11],[.bool, .po 11, .po 12],1,[1,32],fun p=>zi4 p.1 p.2⟩
def zqZ:Con tau:=⟨[.str, .str],[.bool],1,[],fun p=>stringslite_HasPrefix p.1 p.2⟩
def zq0:Con tau:=⟨[.str, .str],[.str, .bool],2,[],fun p=>stringslite_CutPrefix p.1 p.2⟩
def zu0:Con tau:=⟨[.str, .str],[.str, .bool],2,[],fun p=>strings_CutPrefix p.1 p.2⟩
def zq1:Con tau:=⟨[.str, .str],[.bool],1,[],fun p=>stringslite_HasSuffix p.1 p.2⟩
def zq2:Con tau:=⟨[.str, .str],[.str, .bool],2,[],fun p=>stringslite_CutSuffix p.1 p.2⟩
def zu1:Con tau:=⟨[.str, .str],[.str, .bool],2,[],fun p=>strings_CutSuffix p.1 p.2⟩
def zpL:Con tau:=⟨[.u8],[.bool],1,[],zds⟩
def zsP:Con tau:=⟨[.u8],[.bool],1,[],zg3⟩
def zsQ:Con tau:=⟨[.u8],[.bool],1,[],zaS⟩
def zCj:Con tau:=⟨[.str],[.bool],1,[],zmN⟩
def zrG:Con tau:=⟨[.st 13, .po 11],[.bool, .po 11, .po 12],1,[1,32],fun p=>zeP p.1 p.2⟩
def zIV:Con tau:=⟨[.str],[.st 11, .int],2,[],zth⟩
def zK3:Con tau:=⟨[.st 11],[.str, .int],2,[],zni⟩
def zCk:Con tau:=⟨[.str],[.bool],1,[],zjZ⟩
def zAu:Con tau:=⟨[.sl (.st 1)],[.int],1,[],zli⟩
def zxi:Con tau:=⟨[.u8],[.bool],1,[],zgJ⟩
def zAv:Con tau:=⟨[.str],[.bool],1,[],zlj⟩
def zu2:Con tau:=⟨[.str, .str],[.bool],1,[],fun p=>strings_HasPrefix p.1 p.2⟩
def zEw:Con tau:=⟨[.str, .str],[.str, .str],2,[],fun p=>zhq p.1 p.2⟩
def zCl:Con tau:=⟨[.str],[.st 15],1,[],zmO⟩
def zum:Con tau:=⟨[.u8],[.bool],1,[],zh9⟩
def zCm:Con tau:=⟨[.str, .str],[.bool],1,[],fun p=>zgg p.1 p.2⟩
def zEx:Con tau:=⟨[.st 15],[.bool],1,[],znY⟩
def zCn:Con tau:=⟨[.str],[.st 15, .int],2,[],zmP⟩
def zEy:Con tau:=⟨[.str],[.bool],1,[],zhr⟩
def zyC:Con tau:=⟨[.sl (.st 1)],[.int],1,[],zj0⟩
def zEz:Con tau:=⟨[.st 5],[.int],1,[],zlT⟩
def zEA:Con tau:=⟨[.int],[.pn 24, .int],2,[],zht⟩
def zEB:Con tau:=⟨[.int],[.pn 17, .int],2,[],zlU⟩
def zGS:Con tau:=⟨[.int],[.sn 9 .str],1,[],znj⟩
def zxj:Con tau:=⟨[.st 20],[.int],1,[],zeK⟩
def zGT:Con tau:=⟨[.st 25],[.bool],1,[],zqc⟩
def zIW:Con tau:=⟨[],[.so 9 .str],1,[],fun _=>zti⟩
def zmh:Con tau:=⟨[.sl .str, .str],[.int],1,[],fun p=>zbG p.1 p.2⟩
def zkI:Con tau:=⟨[.sl .str, .str],[.bool],1,[],fun p=>zw p.1 p.2⟩
def zIX:Con tau:=⟨[.str],[.bool],1,[],ztj⟩
def zIY:Con tau:=⟨[.str],[.bool],1,[],ztk⟩
def zIZ:Con tau:=⟨[.str],[.bool],1,[],zph⟩
def zGU:Con tau:=⟨[.sl (.st 3)],[.so 9 .str],1,[],zqd⟩
def zGV:Con tau:=⟨[.u8],[.bool],1,[],znk⟩
def zGW:Con tau:=⟨[.u8],[.bool],1,[],znl⟩
def zsR:Con tau:=⟨[.po 12, .str],[.bool, .po 12],1,[0],fun p=>zck p.1 p.2⟩
def ztP:Con tau:=⟨[.po 26, .str],[.po 26],0,[0],fun p=>zef p.1 p.2⟩
def zsS:Con tau:=⟨[.po 26],[.bool, .po 26],1,[0],zfp⟩
def ztQ:Con tau:=⟨[.po 26],[.bool, .po 26],1,[0],zgh⟩
def zGX:Con tau:=⟨[.str],[.so 109 (.st 3), .int],2,[],zqe⟩
def zjR:Con tau:=⟨[.sl (.st 3), .sl (.st 3)],[.bool],1,[],fun p=>zaY p.1 p.2⟩
def zI0:Con tau:=⟨[.sl (.st 3)],[.str, .int],2,[],ztl⟩
def zGY:Con tau:=⟨[.int, .sl (.st 3)],[.bool],1,[],fun p=>zqf p.1 p.2⟩
def zK4:Con tau:=⟨[.st 2],[.bool],1,[],zvu⟩
def zGZ:Con tau:=⟨[.st 2],[.int],1,[],zqg⟩
def zEC:Con tau:=⟨[.sl (.st 2)],[.int, .int],2,[],zjF⟩
def zI1:Con tau:=⟨[.int, .int],[.pn 19, .int],2,[],fun p=>ztm p.1 p.2⟩
def zAw:Con tau:=⟨[.int, .int],[.st 27],1,[],fun p=>zdZ p.1 p.2⟩
def zED:Con tau:=⟨[.st 5, .st 10, .sl (.st 2)],[.pn 16, .int],2,[],fun p=>zf7 p.1 p.2.1 p.2.2⟩
def zK5:Con tau:=⟨[.st 0],[.pn 28, .int],2,[],znm⟩
def zEE:Con tau:=⟨[.st 0],[.st 29],1,[],zn0⟩
def zEF:Con tau:=⟨[.str, .u8],[.so 9 .str],1,[],fun p=>zjG p.1 p.2⟩
def zEG:Con tau:=⟨[.u8, .int],[.int],1,[],fun p=>zlV p.1 p.2⟩
def zCo:Con tau:=⟨[.int, .int],[.str],1,[],fun p=>zib p.1 p.2⟩
def zyD (n:Nat):Con tau:=⟨[.int, .int],[.str],1,[],fun p=>zeh n p.1 p.2⟩
def zEH:Con tau:=⟨[.str, .int],[.str, .bool],2,[],fun p=>zn1 p.1 p.2⟩
def zG0:Con tau:=⟨[.str, .str],[.bool],1,[],fun p=>zqh p.1 p.2⟩
def zG1:Con tau:=⟨[.str, .int, .int],[.int, .int],2,[],fun p=>zqi p.1 p.2.1 p.2.2⟩
def zG2:Con tau:=⟨[.int, .int],[.str],1,[],fun p=>zqj p.1 p.2⟩
def zEI:Con tau:=⟨[.str, .int],[.int],1,[],fun p=>zlW p.1 p.2⟩
def zG3:Con tau:=⟨[.str],[.bool],1,[],zjr⟩
def zC0:Con tau:=⟨[.u8, .str],[.bool],1,[],fun p=>zfJ p.1 p.2⟩
def zAx:Con tau:=⟨[.u8],[.bool],1,[],zic⟩
def zEJ:Con tau:=⟨[.str],[.bool],1,[],zlX⟩
def zI2:Con tau:=⟨[.str],[.bool],1,[],ztn⟩
def zoH:Con tau:=⟨[.u8],[.bool],1,[],zd3⟩
def zAy:Con tau:=⟨[.u8],[.bool],1,[],zne⟩
def zG4:Con tau:=⟨[.str],[.bool],1,[],zkY⟩
def zK6:Con tau:=⟨[.str],[.st 14],1,[],zr2⟩
def zEK:Con tau:=⟨[.str],[.st 14, .int],2,[],zlY⟩
def zAz:Con tau:=⟨[.u8],[.bool],1,[],zpi⟩
def zEL:Con tau:=⟨[.str],[.bool],1,[],zav⟩
def zwc:Con tau:=⟨[.u8],[.bool],1,[],zf8⟩
def zAA:Con tau:=⟨[.str],[.bool],1,[],zlo⟩
def zEM:Con tau:=⟨[.str],[.bool],1,[],zlZ⟩
def zEN:Con tau:=⟨[.str],[.st 11, .int],2,[],zn2⟩
def zG5:Con tau:=⟨[.st 11],[.str, .int],2,[],zqk⟩
def zEO:Con tau:=⟨[.sl (.st 1)],[.int],1,[],zn3⟩
def zEP:Con tau:=⟨[.str, .str],[.int],1,[],fun p=>zeS p.1 p.2⟩
def zwd:Con tau:=⟨[.u8],[.bool],1,[],zl0⟩
def zwe:Con tau:=⟨[.u8],[.bool],1,[],zl1⟩
def zCp:Con tau:=⟨[.str],[.bool],1,[],zmS⟩
def zxT:Con tau:=⟨[.u8],[.bool],1,[],zno⟩
def zK7:Con tau:=⟨[.str, .str],[.bool],1,[],fun p=>znp p.1 p.2⟩
def zG6 (n:Nat):Con tau:=⟨[.str, .str],[.bool],1,[],fun p=>zjs n p.1 p.2⟩
def zEQ:Con tau:=⟨[.st 15],[.bool],1,[],zn4⟩
def zER:Con tau:=⟨[.str],[.st 15, .int],2,[],zl2⟩
def zES:Con tau:=⟨[.sl (.st 1)],[.int],1,[],zn5⟩
def zET:Con tau:=⟨[.st 5],[.int],1,[],zn6⟩
def zCq:Con tau:=⟨[.str],[.bool],1,[],zmT⟩
def zwf:Con tau:=⟨[.u8],[.bool],1,[],zjJ⟩
def zG7:Con tau:=⟨[.str],[.str],1,[],zql⟩
def zEU:Con tau:=⟨[.st 20],[.int],1,[],zn7⟩
def zEV:Con tau:=⟨[.st 25],[.bool],1,[],zl3⟩
def zG8:Con tau:=⟨[.str],[.str],1,[],znq⟩
def zEW:Con tau:=⟨[.str],[.bool],1,[],zn8⟩
def zG9:Con tau:=⟨[.str],[.bool],1,[],zkZ⟩
def zEX:Con tau:=⟨[.int],[.so 9 .str],1,[],zn9⟩
def zEY:Con tau:=⟨[.sl (.st 3)],[.so 9 .str],1,[],zoa⟩
def zI3:Con tau:=⟨[.str],[.st 3, .int],2,[],zto⟩
def zEZ:Con tau:=⟨[.str],[.so 109 (.st 3), .int],2,[],zob⟩
def zHa:Con tau:=⟨[.sl (.st 3), .sl (.st 3)],[.bool],1,[],fun p=>zqm p.1 p.2⟩
def zHb:Con tau:=⟨[.sl (.st 3)],[.str, .int],2,[],zqn⟩
def zE0:Con tau:=⟨[.st 2],[.int],1,[],zoc⟩
def zE1:Con tau:=⟨[.sl (.st 2)],[.int, .int],2,[],zod⟩
def zE2:Con tau:=⟨[.st 29],[.int],1,[],zoe⟩
def zE3:Con tau:=⟨[.st 0],[.int],1,[],zhM⟩
def zpM:Con tau:=⟨[.pt 16],[.bool],1,[],zaE⟩
def zwg:Con tau:=⟨[.pn 28],[.st 30, .pn 28],1,[0],zd4⟩
def zyE:Con tau:=⟨[.pn 28],[.int, .int, .pn 28],2,[0],zfP⟩
def zCr:Con tau:=⟨[.st 4],[.int],1,[],zae⟩
def zu3:Con tau:=⟨[.nil],[.bool],1,[],fun _=>zhc⟩
def zsT:Con tau:=⟨[.pt 19],[.bool],1,[],zfq⟩
def zu4:Con tau:=⟨[.pt 27],[.bool],1,[],zhd⟩
def ztR:Con tau:=⟨[.nil],[.bool],1,[],fun _=>zgl⟩
def zwh:Con tau:=⟨[.pt 31],[.int],1,[],zig⟩
def zrH:Con tau:=⟨[.pt 17],[.bool],1,[],zeT⟩
def zq3:Con tau:=⟨[.pt 16],[.bool],1,[],zan⟩
def zwi:Con tau:=⟨[.nil, .str],[.int, .bool, .int],3,[],fun p=>zfQ p.2⟩
def zHc:Con tau:=⟨[.int],[.int],1,[],zqo⟩
def zwj:Con tau:=⟨[.nil],[.st 33, .bool],2,[],fun _=>zd5⟩
def zNS:Con tau:=⟨[.sl (.st 20)],[.po 35],1,[],zfr⟩
def zCs:Con tau:=⟨[.pt 35],[.so 225 (.st 20)],1,[],zbI⟩
def zHd:Con tau:=⟨[.str, .str],[.bool],1,[],fun p=>zbu p.1 p.2⟩
def zyF:Con tau:=⟨[.pt 35, .str],[.so 9 .str],1,[],fun p=>zb4 p.1 p.2⟩
def zsU:Con tau:=⟨[.po 12, .int],[.bool, .po 12],1,[0],fun p=>zfs p.1 p.2⟩
def zq4:Con tau:=⟨[.po 37, .int],[.po 37],0,[0],fun p=>zcF p.1 p.2⟩
def znJ:Con tau:=⟨[.po 37],[.bool, .po 37],1,[0],zcu⟩
def zAB:Con tau:=⟨[.po 12],[.str, .bool, .po 12],2,[0],ziP⟩
def zpN:Con tau:=⟨[.po 37],[.bool, .po 37],1,[0],zdI⟩
def zCt:Con tau:=⟨[.str],[.so 9 .str, .int],2,[],zkc⟩
def zAC:Con tau:=⟨[.sl .str],[.so 9 .str, .int],2,[],zg5⟩
def zrI:Con tau:=⟨[.st 36, .sl .str],[.st 34, .int, .po 35],2,[32],fun p=>zeU p.1 p.2⟩
def zq5:Con tau:=⟨[.st 36, .sl .str],[.st 34, .int, .po 35],2,[32],fun p=>zew p.1 p.2⟩
def zI4:Con tau:=⟨[.st 32, .int],[.st 34, .int],2,[],fun p=>zpj p.1 p.2⟩
def zyG:Con tau:=⟨[.st 32],[.st 34, .int],2,[],zhN⟩
def zAD:Con tau:=⟨[.sl (.st 20)],[.so 9 .str],1,[],zlt⟩
def zI5:Con tau:=⟨[.str, .pt 40],[.bool],1,[],fun p=>znf p.1 p.2⟩
def zjS:Con tau:=⟨[.sl .str, .cl 431 (.pt 40)],[.int],1,[],fun p=>zaf p.1 p.2⟩
def ziI:Con tau:=⟨[.sl .str, .cl 431 (.pt 40)],[.bool],1,[],fun p=>zX p.1 p.2⟩
def zNT:Con tau:=⟨[.str, .sl .str],[.bool],1,[],fun p=>zvv p.1 p.2⟩
def zwk:Con tau:=⟨[.st 20, .pt 39],[.bool],1,[],fun p=>zcO p.1 p.2⟩
def zho:Con tau:=⟨[.sl (.st 20), .cl 393 (.pt 39)],[.int],1,[],fun p=>zQ p.1 p.2⟩
def zgE:Con tau:=⟨[.so 225 (.st 20), .cl 393 (.pt 39)],[.so 225 (.st 20)],1,[],fun p=>zB p.1 p.2⟩
def zwl:Con tau:=⟨[.po 35, .sl .str],[.int, .po 35],1,[0],fun p=>zcP p.1 p.2⟩
def zI6:Con tau:=⟨[.sl (.st 20)],[.so 225 (.st 20)],1,[],ztp⟩
def zK8:Con tau:=⟨[.str, .str],[.bool],1,[],fun p=>zr3 p.1 p.2⟩
def zHe:Con tau:=⟨[.str],[.bool],1,[],zqp⟩
def zE4:Con tau:=⟨[.str],[.bool],1,[],zof⟩
def zI7:Con tau:=⟨[.str],[.str, .str, .bool, .int],4,[],zpk⟩
def zE5:Con tau:=⟨[.st 41, .str],[.st 41, .bool],2,[],fun p=>zl5 p.1 p.2⟩
def zxk:Con tau:=⟨[.str],[.st 41, .bool],2,[],zi8⟩
def zI8:Con tau:=⟨[.str, .str],[.st 41, .bool],2,[],fun p=>ztq p.1 p.2⟩
def zCu:Con tau:=⟨[.str, .str],[.st 41, .int],2,[],fun p=>zkf p.1 p.2⟩
def zHf:Con tau:=⟨[.str, .str, .bool],[.str],1,[],fun p=>zqq p.1 p.2.1 p.2.2⟩
def zAE:Con tau:=⟨[.st 41],[.str],1,[],zlu⟩
def zAF:Con tau:=⟨[.st 14],[.str, .int],2,[],zlv⟩
def zAG:Con tau:=⟨[.st 20, .pt 40],[.bool],1,[],fun p=>zg6 p.1 p.2⟩
def zgZ:Con tau:=⟨[.sl (.st 20), .cl 398 (.pt 40)],[.int],1,[],fun p=>zM p.1 p.2⟩
def zE6:Con tau:=⟨[.pt 35, .str],[.str, .bool],2,[],fun p=>zjK p.1 p.2⟩
def zAH:Con tau:=⟨[.po 35, .sl (.st 20)],[.po 35],0,[0],fun p=>zfe p.1 p.2⟩
def zAI:Con tau:=⟨[.po 35, .str, .str],[.po 35],0,[0],fun p=>ziQ p.1 p.2.1 p.2.2⟩
def zsV:Con tau:=⟨[.po 42, .st 5, .st 41],[.po 42],0,[0],fun p=>zft p.1 p.2.1 p.2.2⟩
def zsW:Con tau:=⟨[.po 42],[.st 33, .int],2,[],zcl⟩
def zu5:Con tau:=⟨[.str, .str],[.bool],1,[],fun p=>strings_HasSuffix p.1 p.2⟩
def zE7:Con tau:=⟨[.str, .sl (.st 1)],[.str, .bool],2,[],fun p=>zog p.1 p.2⟩
def zwm:Con tau:=⟨[.str, .sl (.st 1)],[.str],1,[],fun p=>zim p.1 p.2⟩
def zAJ:Con tau:=⟨[.u8],[.bool],1,[],zg7⟩
def zE8:Con tau:=⟨[.str],[.st 43, .bool],2,[],zl6⟩
def zCv:Con tau:=⟨[.u8],[.bool],1,[],zin⟩
def zCw:Con tau:=⟨[.str],[.bool],1,[],zmX⟩
def zCx:Con tau:=⟨[.str],[.st 45, .int],2,[],zkh⟩
def zE9:Con tau:=⟨[.st 44, .str],[.int],1,[],fun p=>zl7 p.1 p.2⟩
def zHg:Con tau:=⟨[.st 44, .str],[.str, .bool],2,[],fun p=>zqr p.1 p.2⟩
def zpO:Con tau:=⟨[.str, .str],[.str],1,[],fun p=>stringslite_TrimPrefix p.1 p.2⟩
def ztS:Con tau:=⟨[.str, .str],[.str],1,[],fun p=>strings_TrimPrefix p.1 p.2⟩
def zyH:Con tau:=⟨[.str, .str],[.bool],1,[],fun p=>zki p.1 p.2⟩
def zFa:Con tau:=⟨[.str, .sl (.st 1)],[.str, .bool],2,[],fun p=>zoh p.1 p.2⟩
def zHh:Con tau:=⟨[.st 44, .str, .str],[.st 45],1,[],fun p=>zqs p.1 p.2.1 p.2.2⟩
def zjT:Con tau:=⟨[.sl (.st 43), .sl (.st 43)],[.bool],1,[],fun p=>zaZ p.1 p.2⟩
def zFb:Con tau:=⟨[.st 44, .st 44],[.bool],1,[],fun p=>zoi p.1 p.2⟩
def zFc:Con tau:=⟨[.st 44],[.str, .int],2,[],zoj⟩
def zxl:Con tau:=⟨[.str, .sl (.st 1)],[.str],1,[],fun p=>zja p.1 p.2⟩
def zxm:Con tau:=⟨[.st 5, .sl (.st 20)],[.so 225 (.st 20)],1,[],fun p=>zjb p.1 p.2⟩
def zFd:Con tau:=⟨[.st 5, .st 32],[.st 33, .int],2,[],fun p=>zok p.1 p.2⟩
def zAK:Con tau:=⟨[.str, .str],[.st 46],1,[],fun p=>zc1 p.1 p.2⟩
def zFe:Con tau:=⟨[.st 5, .st 32],[.so 369 (.st 46)],1,[],fun p=>zol p.1 p.2⟩
def zFf:Con tau:=⟨[.st 2],[.so 9 .str],1,[],zom⟩
def zFg:Con tau:=⟨[.sl (.st 2)],[.int],1,[],zon⟩
def zAL:Con tau:=⟨[.st 25, .int],[.st 49],1,[],fun p=>zlz p.1 p.2⟩
def zFh:Con tau:=⟨[.st 2],[.st 49],1,[],zoo⟩
def zpP:Con tau:=⟨[.po 48, .sl (.st 2)],[.po 48],0,[0],fun p=>zdK p.1 p.2⟩
def zpQ:Con tau:=⟨[.po 48, .sl (.st 2)],[.po 48],0,[0],fun p=>zdL p.1 p.2⟩
def zxn:Con tau:=⟨[.int, .sl (.st 2)],[.so 453 (.st 47), .int],2,[],fun p=>zjc p.1 p.2⟩
def zq6:Con tau:=⟨[.pt 50, .st 47],[.bool],1,[],fun p=>zex p.1 p.2⟩
def zI9:Con tau:=⟨[.sl (.st 46), .str],[.str],1,[],fun p=>ztr p.1 p.2⟩
def zHi:Con tau:=⟨[.str],[.str],1,[],zqt⟩
def zJa:Con tau:=⟨[.sl (.st 46), .sl (.st 20), .sl (.st 3)],[.str],1,[],fun p=>zts p.1 p.2.1 p.2.2⟩
def zq7:Con tau:=⟨[.pt 50, .sl (.st 3)],[.str],1,[],fun p=>zcG p.1 p.2⟩
def zwn:Con tau:=⟨[.po 35, .str, .str],[.int, .po 35],1,[0],fun p=>zio p.1 p.2.1 p.2.2⟩
def zrJ:Con tau:=⟨[.po 50, .st 47],[.po 50],0,[0],fun p=>zeW p.1 p.2⟩
def zq8:Con tau:=⟨[.po 50, .sl (.st 47)],[.po 50],0,[0],fun p=>zey p.1 p.2⟩
def zFi:Con tau:=⟨[.sl (.st 46), .sl (.st 20), .sl (.st 47)],[.so 225 (.st 20)],1,[],fun p=>zop p.1 p.2.1 p.2.2⟩
def zAM:Con tau:=⟨[.sl (.st 46), .sl (.st 20), .int, .sl (.st 2)],[.so 225 (.st 20), .int],2,[],fun p=>zlB p.1 p.2.1 p.2.2.1 p.2.2.2⟩
def zFj:Con tau:=⟨[.sl .str],[.str],1,[],zl8⟩
def zAN:Con tau:=⟨[.str, .sl .str],[.str],1,[],fun p=>zlC p.1 p.2⟩
def zwo:Con tau:=⟨[.po 35, .str, .str],[.po 35],0,[0],fun p=>zd7 p.1 p.2.1 p.2.2⟩
def zHj:Con tau:=⟨[.st 11, .sl (.st 20)],[.so 225 (.st 20), .int],2,[],fun p=>zqu p.1 p.2⟩
def zyI:Con tau:=⟨[.str],[.str],1,[],zkk⟩
def zyJ:Con tau:=⟨[.st 5],[.so 369 (.st 46)],1,[],zkl⟩
def zCy:Con tau:=⟨[.str],[.str, .int],2,[],zmY⟩
def zAO:Con tau:=⟨[.str],[.str, .int],2,[],zlD⟩
def zFk:Con tau:=⟨[.sl (.st 46)],[.str, .int],2,[],zoq⟩
def zwp:Con tau:=⟨[.st 5, .sl (.st 20)],[.so 225 (.st 20), .int],2,[],fun p=>ziq p.1 p.2⟩
def zK9:Con tau:=⟨[.str],[.bool],1,[],zvw⟩
def zHk:Con tau:=⟨[.str, .sl (.st 20)],[.so 225 (.st 20)],1,[],fun p=>zqv p.1 p.2⟩
def zHl:Con tau:=⟨[.st 5, .int, .st 32],[.st 33, .int],2,[],fun p=>zqw p.1 p.2.1 p.2.2⟩
def zAP:Con tau:=⟨[.st 34],[.so 225 (.st 20)],1,[],zlH⟩
def zCz:Con tau:=⟨[.st 5, .st 34, .st 32, .sl (.st 2)],[.st 33, .int],2,[],fun p=>zir p.1 p.2.1 p.2.2.1 p.2.2.2⟩
def zrK:Con tau:=⟨[.st 51],[.int, .bool, .po 12],2,[32],zc7⟩
def zpR:Con tau:=⟨[.st 51],[.int, .int, .bool, .po 12],3,[32],zb5⟩
def zxo:Con tau:=⟨[.str],[.bool],1,[],zgS⟩
def zsX:Con tau:=⟨[.u8],[.bool],1,[],zdy⟩
def zrL:Con tau:=⟨[.st 51],[.int, .bool, .po 12],2,[32],zc8⟩
def zu6:Con tau:=⟨[.str],[.st 33, .int],2,[],zhg⟩
def zwq:Con tau:=⟨[.str],[.st 33, .int],2,[],zis⟩
def zxp:Con tau:=⟨[.int, .str],[.st 33, .int],2,[],fun p=>zdt p.1 p.2⟩
def zyK:Con tau:=⟨[.st 32],[.str, .int],2,[],zhS⟩
def zHm:Con tau:=⟨[.st 32],[.bool],1,[],zqx⟩
def zHn:Con tau:=⟨[.st 32],[.int],1,[],znr⟩
def zHo:Con tau:=⟨[.st 32],[.int],1,[],zns⟩
def zJb:Con tau:=⟨[.int],[.po 52],1,[],ztt⟩
def zwr:Con tau:=⟨[.pt 52],[.int],1,[],zit⟩
def zu7:Con tau:=⟨[.po 52, .sl .str],[.int, .po 52],1,[0],fun p=>zhi p.1 p.2⟩
def ztT:Con tau:=⟨[.po 52, .sl .str],[.int, .po 52],1,[0],fun p=>zgq p.1 p.2⟩
def zsY:Con tau:=⟨[.po 53, .str],[.po 53],0,[0],fun p=>zcn p.1 p.2⟩
def zyL:Con tau:=⟨[.st 20],[.str, .int],2,[],zhT⟩
def zws:Con tau:=⟨[.pt 52],[.str],1,[],ziu⟩
def zHp:Con tau:=⟨[.st 32, .int],[.str, .int],2,[],fun p=>zjt p.1 p.2⟩
def zpS:Con tau:=⟨[.pt 16, .st 32],[.str, .st 34, .int],3,[],fun p=>zdM p.1 p.2⟩
def zFl:Con tau:=⟨[.int],[.pn 22, .int],2,[],zor⟩
def zLa:Con tau:=⟨[.st 34, .int],[.pn 21, .int],2,[],fun p=>zr4 p.1 p.2⟩
def ztU:Con tau:=⟨[.pt 19],[.st 33, .bool],2,[],zcR⟩
def zyM:Con tau:=⟨[.nil, .str],[.int, .str, .bool, .int],4,[],fun p=>zhU p.2⟩
def zrM:Con tau:=⟨[.nil],[.int],1,[],fun _=>zdb⟩
def ztV:Con tau:=⟨[.nil, .str],[.str, .int],2,[],fun p=>zeo p.2⟩
def ztW:Con tau:=⟨[.nil],[.so 225 (.st 20)],1,[],fun _=>zbN⟩
def ztX:Con tau:=⟨[.nil, .sl (.st 20)],[.str, .int],2,[],fun p=>zbO p.2⟩
def zHq:Con tau:=⟨[.str, .sl .str],[.bool],1,[],fun p=>znt p.1 p.2⟩
def zJc:Con tau:=⟨[.st 32],[.bool],1,[],zpl⟩
def zHr:Con tau:=⟨[.st 32],[.st 18],1,[],zqy⟩
def ztY:Con tau:=⟨[.nil, .sl (.st 18)],[.int],1,[],fun p=>zgr p.2⟩
def zxq:Con tau:=⟨[.st 18],[.bool],1,[],zjf⟩
def zeG:Con tau:=⟨[.sl (.st 18), .fc 247],[.int],1,[],fun p=>zL p.1⟩
def zAQ:Con tau:=⟨[.sl (.st 18)],[.bool],1,[],zlJ⟩
def znT:Con tau:=⟨[.nil],[.so 225 (.st 20)],1,[],fun _=>zc3⟩
def zm7:Con tau:=⟨[.pt 22],[.so 225 (.st 20)],1,[],zb7⟩
def zrN:Con tau:=⟨[.pt 21],[.so 225 (.st 20)],1,[],za7⟩
def zpT:Con tau:=⟨[.pt 23],[.int],1,[],zb8⟩
def zq9:Con tau:=⟨[.nil],[.int],1,[],fun _=>zcH⟩
def zyN:Con tau:=⟨[.sl (.st 20)],[.str, .int],2,[],zep⟩
def zsZ:Con tau:=⟨[.nil, .sl (.st 20)],[.str, .int],2,[],fun p=>zfu p.2⟩
def zo0:Con tau:=⟨[.pt 24],[.int],1,[],zbV⟩
def zxr:Con tau:=⟨[.int],[.str],1,[],zjg⟩
def zyO:Con tau:=⟨[.int],[.str],1,[],zkm⟩
def zxs:Con tau:=⟨[.str],[.str],1,[],zdu⟩
def zs0:Con tau:=⟨[.nil, .str],[.str, .int],2,[],fun p=>zfv p.2⟩
def zrO:Con tau:=⟨[.nil, .str],[.int, .str, .bool, .int],4,[],fun p=>zeY p.2⟩
def zu8:Con tau:=⟨[.nil],[.int],1,[],fun _=>zeZ⟩
def zHs:Con tau:=⟨[.int],[.st 55, .bool],2,[],zzu⟩
def zxt:Con tau:=⟨[.str, .int],[.bool],1,[],fun p=>zjh p.1 p.2⟩
def zxu:Con tau:=⟨[.str, .st 32],[.st 34, .int],2,[],fun p=>zgT p.1 p.2⟩
def zAR:Con tau:=⟨[.str, .st 32],[.st 34, .int],2,[],fun p=>zt4 p.1 p.2⟩
def zCA:Con tau:=⟨[.st 54],[.bool],1,[],zvx⟩
def zAS:Con tau:=⟨[.str, .st 54],[.int],1,[],fun p=>zt5 p.1 p.2⟩
def zo1:Con tau:=⟨[.pn 24],[.int, .pn 24],1,[0],zfT⟩
def zra:Con tau:=⟨[.pn 24, .str],[.str, .int, .pn 24],2,[0],fun p=>zkL p.1 p.2⟩
def zrb:Con tau:=⟨[.pn 24, .sl (.st 20)],[.str, .int, .pn 24],2,[0],fun p=>zkM p.1 p.2⟩
def zFm:Con tau:=⟨[.int, .str, .sl (.st 20)],[.str, .int],2,[],fun p=>zxC p.1 p.2.1 p.2.2⟩
def zAT:Con tau:=⟨[.str, .st 54, .int, .int],[.str, .int],2,[],fun p=>zt6 p.1 p.2.1 p.2.2.1 p.2.2.2⟩
def zHt:Con tau:=⟨[.int],[.str],1,[],zus⟩
def zs1:Con tau:=⟨[.pt 17],[.int],1,[],zdz⟩
def znU:Con tau:=⟨[.po 16, .int],[.po 16],0,[0],fun p=>zaT p.1 p.2⟩
def znK:Con tau:=⟨[.po 16, .sl .str],[.po 16],0,[0],fun p=>zaC p.1 p.2⟩
def zFn:Con tau:=⟨[.st 34, .int],[.pn 23, .int],2,[],fun p=>zma p.1 p.2⟩
def zyP:Con tau:=⟨[.nil],[.bool],1,[],fun _=>zhV⟩
def zrP:Con tau:=⟨[.po 17, .sl (.st 18)],[.int, .po 17],1,[0],fun p=>ze0 p.1 p.2⟩
def zrc:Con tau:=⟨[.po 24, .sl (.st 20)],[.str, .int, .po 24],2,[0],fun p=>zez p.1 p.2⟩
def zrQ:Con tau:=⟨[.po 23, .sl (.st 20)],[.str, .int, .po 23],2,[0],fun p=>za8 p.1 p.2⟩
def zo2:Con tau:=⟨[.po 16],[.po 16],0,[0],zbW⟩
def zwt:Con tau:=⟨[.pt 21],[.bool],1,[],zfU⟩
def zo3:Con tau:=⟨[.po 16],[.po 16],0,[0],zdh⟩
def zwu:Con tau:=⟨[.pt 19],[.bool],1,[],ziv⟩
def zrd:Con tau:=⟨[.po 12],[.str, .po 12],1,[0],zcI⟩
def zxv:Con tau:=⟨[.str],[.st 20, .int],2,[],zeM⟩
def zHu:Con tau:=⟨[.int, .str, .int],[.st 33, .int],2,[],fun p=>zqz p.1 p.2.1 p.2.2⟩
def ztZ:Con tau:=⟨[.po 19, .str],[.bool, .int, .po 19],2,[0],fun p=>zgs p.1 p.2⟩
def zt0:Con tau:=⟨[.po 19, .u8],[.bool, .int, .po 19],2,[0],fun p=>zgt p.1 p.2⟩
def zt1:Con tau:=⟨[.po 19, .str],[.int, .bool, .int, .po 19],3,[0],fun p=>zeq p.1 p.2⟩
def zre:Con tau:=⟨[.po 24, .str],[.str, .int, .po 24],2,[0],fun p=>zeC p.1 p.2⟩
def zrR:Con tau:=⟨[.po 23, .str],[.str, .int, .po 23],2,[0],fun p=>zdc p.1 p.2⟩
def zpU:Con tau:=⟨[.po 22, .str],[.str, .po 22],1,[0],fun p=>zdN p.1 p.2⟩
def zo4:Con tau:=⟨[.po 22, .u8],[.int, .po 22],1,[0],fun p=>zdl p.1 p.2⟩
def zFo:Con tau:=⟨[.str, .int],[.int, .int],2,[],fun p=>zou p.1 p.2⟩
def zAU:Con tau:=⟨[.po 12],[.str, .bool, .po 12],2,[0],zlK⟩
def zrS:Con tau:=⟨[.st 56],[.st 43, .bool, .po 12],2,[32],ze1⟩
def zxw:Con tau:=⟨[.str],[.int, .so 460 (.st 43), .int],3,[],zji⟩
def zpV:Con tau:=⟨[.po 22, .str],[.int, .po 22],1,[0],fun p=>zdO p.1 p.2⟩
def znL:Con tau:=⟨[.po 22, .str],[.bool, .int, .po 22],2,[0],fun p=>zcx p.1 p.2⟩
def zo5:Con tau:=⟨[.po 22, .u8],[.bool, .int, .po 22],2,[0],fun p=>zdm p.1 p.2⟩
def zpW:Con tau:=⟨[.po 22, .str],[.int, .str, .bool, .int, .po 22],4,[0],fun p=>zdP p.1 p.2⟩
def zpX:Con tau:=⟨[.po 22, .str],[.int, .str, .bool, .int, .po 22],4,[0],fun p=>zdQ p.1 p.2⟩
def zwv:Con tau:=⟨[.po 21, .str],[.int, .str, .bool, .int, .po 21],4,[0],fun p=>zfV p.1 p.2⟩
def znM:Con tau:=⟨[.po 16, .str],[.int, .po 16],1,[0],fun p=>zcA p.1 p.2⟩
def zpY:Con tau:=⟨[.po 16, .sl .str],[.po 16],0,[0],fun p=>zag p.1 p.2⟩
def zo6:Con tau:=⟨[.po 16],[.po 16],0,[0],z8⟩
def zpZ:Con tau:=⟨[.po 16, .int],[.po 16],0,[0],fun p=>zaF p.1 p.2⟩
def znV:Con tau:=⟨[.po 16],[.po 16],0,[0],zN⟩
def znW:Con tau:=⟨[.po 16, .str],[.int, .int, .po 16],2,[0],fun p=>zG p.1 p.2⟩
def zm8:Con tau:=⟨[.po 16],[.str, .po 16],1,[0],zbf⟩
def zmi:Con tau:=⟨[.po 16],[.str, .po 16],1,[0],zaM⟩
def zww:Con tau:=⟨[.nil],[.int],1,[],fun _=>ziw⟩
def zyQ:Con tau:=⟨[.nil],[.int],1,[],fun _=>zhW⟩
def zs2:Con tau:=⟨[.nil],[.int],1,[],fun _=>zbv⟩
def zrT:Con tau:=⟨[.nil],[.int],1,[],fun _=>ze2⟩
def zp0:Con tau:=⟨[.pt 24],[.int],1,[],zdR⟩
def zrf:Con tau:=⟨[.pt 23],[.int],1,[],zaW⟩
def zrU:Con tau:=⟨[.nil],[.int],1,[],fun _=>ze3⟩
def zp1:Con tau:=⟨[.pt 22],[.int],1,[],zdS⟩
def zwx:Con tau:=⟨[.pt 21],[.int],1,[],zfW⟩
def zt2:Con tau:=⟨[.pt 19],[.int],1,[],zgu⟩
def zu9:Con tau:=⟨[.pt 27],[.int],1,[],ze4⟩
def zs3:Con tau:=⟨[.pt 16],[.st 57],1,[],zco⟩
def zwy:Con tau:=⟨[.po 28],[.po 28],0,[0],zu⟩
def zs4:Con tau:=⟨[.nil],[.st 18, .bool],2,[],fun _=>zfz⟩
def zFp:Con tau:=⟨[.st 34, .int],[.st 34],1,[],fun p=>zov p.1 p.2⟩
def zva:Con tau:=⟨[.pt 31],[.st 18, .bool],2,[],zhj⟩
def zrg:Con tau:=⟨[.pt 17],[.st 18, .bool],2,[],zeD⟩
def zvb:Con tau:=⟨[.nil],[.bool],1,[],fun _=>zhk⟩
def znN:Con tau:=⟨[.po 16, .st 32, .st 18],[.int, .po 16],1,[0],fun p=>zcB p.1 p.2.1 p.2.2⟩
def zAV:Con tau:=⟨[.st 32, .bool, .int],[.st 33],1,[],fun p=>zlL p.1 p.2.1 p.2.2⟩
def zs5:Con tau:=⟨[.po 17],[.bool, .po 17],1,[0],zfA⟩
def zm9:Con tau:=⟨[.po 16],[.po 16],0,[0],zar⟩
def zo7:Con tau:=⟨[.po 16, .st 32, .st 18],[.int, .po 16],1,[0],fun p=>zdn p.1 p.2.1 p.2.2⟩
def znO:Con tau:=⟨[.po 16],[.po 16],0,[0],zcC⟩
def zna:Con tau:=⟨[.po 16, .str],[.int, .po 16],1,[0],fun p=>zce p.1 p.2⟩
def znb:Con tau:=⟨[.po 16, .str],[.int, .int, .po 16],2,[0],fun p=>zl p.1 p.2⟩
def zms:Con tau:=⟨[.po 16],[.int, .po 16],1,[0],zF⟩
def zAW:Con tau:=⟨[.nil],[.bool, .int],2,[],fun _=>zlM⟩
def zxx:Con tau:=⟨[.po 21],[.bool, .int, .po 21],2,[0],zjj⟩
def zlg:Con tau:=⟨[.po 16],[.int, .po 16],1,[0],zr⟩
def zCB:Con tau:=⟨[.pn 28, .st 4],[.int, .int, .pn 28],2,[0],fun p=>zmZ p.1 p.2⟩
def zCC:Con tau:=⟨[.str, .str],[.bool],1,[],fun p=>zcf p.1 p.2⟩
def zFq:Con tau:=⟨[.st 4],[.int],1,[],zow⟩
def zwz:Con tau:=⟨[.pn 28],[.int, .pn 28],1,[0],zd8⟩
def zxy:Con tau:=⟨[.st 0],[.bool],1,[],zjk⟩
theorem zyR:Tryz.prog.follows .mixedOrders=true:=by kernel_rfl
theorem hNm:∀(f:FuncId) (fn:Func),Tryz.prog.funcs[f]? = some fn→(fn.name == "runtime.NumGoroutine")=false:=zLv (by kernel_rfl)
theorem heq1:∀x y,G.eq 1 x y=eqD (G.fs 1) (G.dtor 1 x) (G.dtor 1 y):=fun ⟨a0,a1⟩ ⟨b0,b1⟩=>by
 show ((⟨a0,a1⟩:zW3)==⟨b0,b1⟩)=(a0==b0&&a1==b1);rw [Bool.eq_iff_iff];simp [zW3.mk.injEq]
theorem heq3:∀x y,G.eq 3 x y=eqD (G.fs 3) (G.dtor 3 x) (G.dtor 3 y):=fun ⟨a0,a1⟩ ⟨b0,b1⟩=>by
 show ((⟨a0,a1⟩:zWR)==⟨b0,b1⟩)=(a0==b0&&a1==b1);rw [Bool.eq_iff_iff];simp [zWR.mk.injEq]
theorem heq4:∀x y,G.eq 4 x y=eqD (G.fs 4) (G.dtor 4 x) (G.dtor 4 y):=fun ⟨a0,a1⟩ ⟨b0,b1⟩=>by
 show ((⟨a0,a1⟩:zXA)==⟨b0,b1⟩)=(a0==b0&&a1==b1);rw [Bool.eq_iff_iff];simp [zXA.mk.injEq]
theorem heq11:∀x y,G.eq 11 x y=eqD (G.fs 11) (G.dtor 11 x) (G.dtor 11 y):=fun ⟨a0,a1,a2,a3⟩ ⟨b0,b1,b2,b3⟩=>by
 show ((⟨a0,a1,a2,a3⟩:zW9)==⟨b0,b1,b2,b3⟩)=(a0==b0&&(a1==b1&&(a2==b2&&(a3==b3))));rw [Bool.eq_iff_iff];simp [zW9.mk.injEq]
theorem heq14:∀x y,G.eq 14 x y=eqD (G.fs 14) (G.dtor 14 x) (G.dtor 14 y):=fun ⟨a0,a1,a2⟩ ⟨b0,b1,b2⟩=>by
 show ((⟨a0,a1,a2⟩:zXk)==⟨b0,b1,b2⟩)=(a0==b0&&(a1==b1&&(a2==b2)));rw [Bool.eq_iff_iff];simp [zXk.mk.injEq]
theorem heq18:∀x y,G.eq 18 x y=eqD (G.fs 18) (G.dtor 18 x) (G.dtor 18 y):=fun ⟨a0,a1,a2⟩ ⟨b0,b1,b2⟩=>by
 show ((⟨a0,a1,a2⟩:zW0)==⟨b0,b1,b2⟩)=(a0==b0&&(a1==b1&&(a2==b2)));rw [Bool.eq_iff_iff];simp [zW0.mk.injEq]
theorem heq20:∀x y,G.eq 20 x y=eqD (G.fs 20) (G.dtor 20 x) (G.dtor 20 y):=fun ⟨a0,a1⟩ ⟨b0,b1⟩=>by
 show ((⟨a0,a1⟩:zWQ)==⟨b0,b1⟩)=(a0==b0&&a1==b1);rw [Bool.eq_iff_iff];simp [zWQ.mk.injEq]
theorem heq25:∀x y,G.eq 25 x y=eqD (G.fs 25) (G.dtor 25 x) (G.dtor 25 y):=fun ⟨a0,a1,a2⟩ ⟨b0,b1,b2⟩=>by
 show ((⟨a0,a1,a2⟩:zXx)==⟨b0,b1,b2⟩)=(a0==b0&&(a1==b1&&(a2==b2)));rw [Bool.eq_iff_iff];simp [zXx.mk.injEq]
theorem heq30:∀x y,G.eq 30 x y=eqD (G.fs 30) (G.dtor 30 x) (G.dtor 30 y):=fun ⟨a0,a1,a2,a3,⟨a4,a5⟩,a6⟩ ⟨b0,b1,b2,b3,⟨b4,b5⟩,b6⟩=>by
 show ((⟨a0,a1,a2,a3,⟨a4,a5⟩,a6⟩:zXN)==⟨b0,b1,b2,b3,⟨b4,b5⟩,b6⟩)=(a0==b0&&(a1==b1&&(a2==b2&&(a3==b3&&(a4==b4&&(a5==b5&&(a6==b6)))))));rw [Bool.eq_iff_iff];simp [zXN.mk.injEq,zXP.mk.injEq,and_assoc]
theorem heq34:∀x y,G.eq 34 x y=eqD (G.fs 34) (G.dtor 34 x) (G.dtor 34 y):=fun ⟨a0,a1⟩ ⟨b0,b1⟩=>by
 show ((⟨a0,a1⟩:zWY)==⟨b0,b1⟩)=(a0==b0&&a1==b1);rw [Bool.eq_iff_iff];simp [zWY.mk.injEq]
theorem heq43:∀x y,G.eq 43 x y=eqD (G.fs 43) (G.dtor 43 x) (G.dtor 43 y):=fun ⟨a0,a1,a2⟩ ⟨b0,b1,b2⟩=>by
 show ((⟨a0,a1,a2⟩:zXp)==⟨b0,b1,b2⟩)=(a0==b0&&(a1==b1&&(a2==b2)));rw [Bool.eq_iff_iff];simp [zXp.mk.injEq]
theorem heq46:∀x y,G.eq 46 x y=eqD (G.fs 46) (G.dtor 46 x) (G.dtor 46 y):=fun ⟨a0,a1⟩ ⟨b0,b1⟩=>by
 show ((⟨a0,a1⟩:zXf)==⟨b0,b1⟩)=(a0==b0&&a1==b1);rw [Bool.eq_iff_iff];simp [zXf.mk.injEq]
theorem heq:∀n∈[1,3,4,11,14,18,20,25,30,34,43,46], ∀x y,G.eq n x y=eqD (G.fs n) (G.dtor n x) (G.dtor n y):=by
 intro n hn;simp only [List.mem_cons,List.not_mem_nil,or_false] at hn
 rcases hn with rfl|rfl|rfl|rfl|rfl|rfl|rfl|rfl|rfl|rfl|rfl|rfl
 ·exact heq1
 ·exact heq3
 ·exact heq4
 ·exact heq11
 ·exact heq14
 ·exact heq18
 ·exact heq20
 ·exact heq25
 ·exact heq30
 ·exact heq34
 ·exact heq43
 ·exact heq46
theorem tyk:∀cs n,TyOk (⟨Tryz.prog,G,tyl,cs,n,fun _ => .bool false⟩:Cx tau):=zLw [1,3,4,11,14,18,20,25,30,34,43,46] (by kernel_rfl) (by kernel_rfl) heq
theorem tyk0:∀cs n,TyOk (⟨Tryz.prog,G0,tyl,cs,n,fun _ => .bool false⟩:Cx tau):=zLw [1,3,4,11,14,18,20,25,30,34,43,46] (by kernel_rfl) (by kernel_rfl) heq
theorem cqG {f:FuncId} {fn:Func} {k:Con tau} (C:CLs Tryz.prog G) (n:Nat) (h1:Tryz.prog.funcs[f]? = some fn) (hn:Hn tau (DP tau k.rs)) (h2:fnB fn n k=true:=by kernel_rfl) (hF:zsh (⟨Tryz.prog,G,tyl,C.cs,n,fun _ => .bool false⟩:Cx tau) k (bdyF fn) fn.results.toList hn:=by unfold zsh; kernel_rfl):COk Tryz.prog G f k:=zC7 zyR hNm tyk C n h1 h2 hF
abbrev za:FuncId→Con tau→Prop:=COk Tryz.prog G
theorem cqH {f:FuncId} {fn:Func} {k:Con tau} (C:CLs Tryz.prog G0) (n:Nat) (h1:Tryz.prog.funcs[f]? = some fn) (hn:Hn tau (DP tau k.rs)) (h2:fnB fn n k=true:=by kernel_rfl) (hF:zsh (⟨Tryz.prog,G0,tyl,C.cs,n,fun _ => .bool false⟩:Cx tau) k (bdyF fn) fn.results.toList hn:=by unfold zsh; kernel_rfl):COk Tryz.prog G0 f k:=zC7 zyR hNm tyk0 C n h1 h2 hF
abbrev zkJ:FuncId→Con tau→Prop:=COk Tryz.prog G0
theorem zKd {w:World} (hG:zkB w):zsb Tryz.prog G (fun b=>w.heap[b]?):=⟨fun p hp=>(by cases hp),fun w' on=>hG.same (zOh on) fun g hg=>by
 have hlt:g<w.heap.size:=Nat.lt_of_lt_of_le hg hG.size;rw [Array.getElem?_eq_getElem hlt]
 exact on g _ (Array.getElem?_eq_getElem hlt)⟩
end
end
end Go.Proofs
end
section
set_option linter.unusedVariables false
set_option maxRecDepth 10000
namespace Go.Proofs
open Go.Dk Go.Dm Go.RowKit Go.Rk
theorem zzC (p:DP tau [.st 0]) (_:rgXs G [.st 0] p):zjk p=some true:=zKA p
end Go.Proofs
end
section
set_option linter.unusedVariables false
set_option maxRecDepth 100000
namespace Go.Proofs
open Go.Dk Go.Dm Go.RowKit Go.Rk
noncomputable section
theorem zpz:COk Tryz.prog G 37 zyz:=zza rfl ⟨_,Tryz.func37,by kernel_rfl,by kernel_rfl⟩ fun w h xs R ad c on gl hm hs hc=>zjo xs R w (gl.2 w on).1 hs hc hm
theorem zla:COk Tryz.prog G 38 zyA:=zza rfl ⟨_,Tryz.func38,by kernel_rfl,by kernel_rfl⟩ fun w h xs R ad c on gl hm hs hc=>zjp xs R w (gl.2 w on).1 hs hc hm
theorem zz4:COk Tryz.prog G 130 zCd:=zLt ⟨_,Tryz.func130,by kernel_rfl,by kernel_rfl⟩ fun w h xs s R ad c on gl hm hs hc=>zzX xs s R w (gl.2 w on).1 (by rw [show cells zkC xs=xs.map str from zKj xs]; exact hs) hc hm
theorem zdA:COk Tryz.prog G 280 znI:=zfB rfl rfl rfl rfl ⟨_,Tryz.func280,by kernel_rfl,by kernel_rfl⟩ fun w h p r on gl hm=>ztC p.1 p.2 r w (gl.2 w on).1 hm
theorem ztJ:COk Tryz.prog G 278 zuV:=zfB rfl rfl rfl rfl ⟨_,Tryz.func278,by kernel_rfl,by kernel_rfl⟩ fun w h p r on gl hm=>ztD p.1 p.2 r w (gl.2 w on) hm
theorem zmn:COk Tryz.prog G 273 zAn:=zLs rfl rfl ⟨_,Tryz.func273,by kernel_rfl,by kernel_rfl⟩ fun w h p R on gl hm=>by
 have:=zya p.1 p.2 R w (gl.2 w on).1 hm;rw [show zrW G .str R=cells zkC R from rfl];exact this
theorem zlN:COk Tryz.prog G 201 zEs:=zfB rfl rfl rfl rfl ⟨_,Tryz.func201,by kernel_rfl,by kernel_rfl⟩ fun w h p r on gl hm=>zBl p.1 p.2 r w (gl.2 w on).1 hm
theorem zjx:COk Tryz.prog G 143 zv7:=zfB rfl rfl rfl rfl ⟨_,Tryz.func143,by kernel_rfl,by kernel_rfl⟩ fun w h p r on gl hm=>zuG p.1 p.2 r w (gl.2 w on).1 hm
theorem zuN:COk Tryz.prog G 288 zv8:=zfB rfl rfl rfl rfl ⟨_,Tryz.func288,by kernel_rfl,by kernel_rfl⟩ fun w h p r on gl hm=>zuF p.1 p.2 r w (gl.2 w on).1 hm
theorem zf0:COk Tryz.prog G 218 zCe:=zfB rfl rfl rfl rfl ⟨_,Tryz.func218,by kernel_rfl,by kernel_rfl⟩ fun w h p r on gl hm=>zzW p.1 p.2 r w (gl.2 w on).1 hm
theorem zsv:COk Tryz.prog G 299 ztO:=zfB rfl rfl rfl rfl ⟨_,Tryz.func299,by kernel_rfl,by kernel_rfl⟩ fun w h p r on gl hm=>zsk p.1 p.2.1 p.2.2 r w (gl.2 w on).1 hm
theorem zoE:COk Tryz.prog G 327 zxc:=zza rfl ⟨_,Tryz.func327,by kernel_rfl,by kernel_rfl⟩ fun w h xs R ad c on gl hm hs hc=>ziF xs R w (gl.2 w on).1 hs hc hm
theorem ztK:COk Tryz.prog G 399 zuW:=zOe rfl rfl ⟨_,Tryz.func399,by kernel_rfl,by kernel_rfl⟩ fun w h xs i ys R ad ad2 c c2 F on gl hF hm hO=>zPq xs i ys R w hO hm
theorem ztL:COk Tryz.prog G 446 zuX:=zfB rfl rfl rfl rfl ⟨_,Tryz.func446,by kernel_rfl,by kernel_rfl⟩ fun w h p r on gl hm=>ztE p.1 p.2 r w (gl.2 w on).1 hm
theorem zyg:COk Tryz.prog G 305 zAp:=zfB rfl rfl rfl rfl ⟨_,Tryz.func305,by kernel_rfl,by kernel_rfl⟩ fun w h p r on gl hm=>zmj p.1 p.2 r w (gl.2 w on).1 hm
-- doorstep/octet.Lower
theorem zoR:zkJ 279 zqW:=cqH CLs.nil 12 Tryz.func279 .e
-- doorstep/octet.IsAlpha
theorem zjl:zkJ 276 zsL:=cqH (CLs.nil.add zoR) 11 Tryz.func276 .e
-- doorstep/octet.IsDigit
theorem zgY:zkJ 142 zsM:=cqH CLs.nil 9 Tryz.func142 .e
theorem ib0 (s:Str) (c:UInt8) (R:Int) (w0:World) (hm:strings_IndexByte s c=some R):Calls Tryz.prog 280 #[str s,zcV c] w0 fun e w'=>e = .returned (int R)∧Below w0.heap.size w0 w':=by
 refine (Tryz.strings_IndexByte ⟨s.toArray⟩ c.toNat w0).mono fun e w' ⟨he,hw⟩=>?_;subst he hw;refine ⟨?_,Below.refl _ _⟩;unfold strings_IndexByte at hm;rw [zxH] at hm;cases hm;simp
theorem zmy:COk Tryz.prog G0 280 znI:=zfB rfl rfl rfl rfl ⟨_,Tryz.func280,by kernel_rfl,by kernel_rfl⟩ fun w h p r on gl hm=>ib0 p.1 p.2 r w hm
-- doorstep/octet.one
theorem zoF:zkJ 277 zAq:=cqH (CLs.nil.add zmy) 9 Tryz.func277 .e
-- doorstep/octet.IsToken
theorem zyh:zkJ 216 zAr:=cqH (((CLs.nil.add zoF).add zgY).add zjl) 13 Tryz.func216 .e
-- (doorstep/via.reader).by$1
theorem zvQ:zkJ 195 zxe:=cqH CLs.nil 5 Tryz.func195 .e
-- doorstep/octet.IsHex
theorem zBs:zkJ 274 zEt:=cqH ((CLs.nil.add zoR).add zgY) 15 Tryz.func274 .e
-- doorstep/octet.IsVisible
theorem zkD:zkJ 289 zpL:=cqH CLs.nil 9 Tryz.func289 .e
-- doorstep/octet.IsBlank
theorem zrm:zkJ 290 zsP:=cqH CLs.nil 9 Tryz.func290 .e
-- doorstep/octet.IsValue
theorem zrn:zkJ 217 zsQ:=cqH ((CLs.nil.add zrm).add zkD) 13 Tryz.func217 .e
-- doorstep/uriref.scheme$1
theorem zvR:zkJ 344 zxi:=cqH ((CLs.nil.add zgY).add zjl) 21 Tryz.func344 .e
-- doorstep/tmpl.small
theorem zDZ:zkJ 426 zGV:=cqH CLs.nil 9 Tryz.func426 .e
-- doorstep/tmpl.plain
theorem zD0:zkJ 388 zGW:=cqH (CLs.nil.add zrn) 9 Tryz.func388 .e
-- doorstep/cookie.part$1
theorem zyi:zkJ 455 zAJ:=cqH CLs.nil 3 Tryz.func455 .e
-- doorstep/cookie.plain
theorem zz5:zkJ 456 zCv:=cqH ((CLs.nil.add zmy).add zkD) 10 Tryz.func456 .e
-- doorstep/startline.request$1
theorem zrA:zkJ 351 zsX:=cqH CLs.nil 5 Tryz.func351 .e
-- doorstep/doorstepref01.In
theorem zlb:zkJ 258 zC0:=cqH CLs.nil 17 Tryz.func258 (.n 1 (.q (.n 1 (.w [(0, .u8),(1, .str),(5, .int)] [] (fun m t=>zjH t.1 t.2.1 m t.2.2) fun n0 => .e)) .e))
-- doorstep/doorstepref01.Hex
theorem zGl:zkJ 174 zAx:=cqH (CLs.nil.add zlb) 5 Tryz.func174 .e
-- doorstep/doorstepref01.Unreserved
theorem znC:zkJ 175 zoH:=cqH (CLs.nil.add zlb) 5 Tryz.func175 .e
-- doorstep/doorstepref01.Sub
theorem zxK:zkJ 176 zAy:=cqH (CLs.nil.add zlb) 5 Tryz.func176 .e
-- doorstep/doorstepref01.Tok
theorem zGm:zkJ 181 zAz:=cqH (CLs.nil.add zlb) 5 Tryz.func181 .e
-- doorstep/octet.IsUnreserved
theorem zme:zkJ 205 zmC:=cqH (((CLs.nil.add zoF).add zgY).add zjl) 13 Tryz.func205 .e
-- doorstep/octet.IsSub
theorem zua:zkJ 206 zwb:=cqH (CLs.nil.add zoF) 5 Tryz.func206 .e
-- doorstep/doorstepref01.Value
theorem zBt:zkJ 252 zwc:=cqH CLs.nil 13 Tryz.func252 .e
-- doorstep/doorstepref01.Alpha
theorem zBu:zkJ 259 zwd:=cqH (CLs.nil.add zlb) 5 Tryz.func259 .e
-- doorstep/doorstepref01.Digit
theorem zBv:zkJ 260 zwe:=cqH (CLs.nil.add zlb) 5 Tryz.func260 .e
-- doorstep/doorstepref01.Path
theorem zD1:zkJ 332 zxT:=cqH ((CLs.nil.add zxK).add znC) 17 Tryz.func332 .e
-- doorstep/doorstepref01.Blank
theorem zBw:zkJ 333 zwf:=cqH CLs.nil 9 Tryz.func333 .e
-- doorstep/octet.IsPath
theorem zz6:zkJ 345 zum:=cqH (((CLs.nil.add zoF).add zua).add zme) 13 Tryz.func345 .e
theorem zlc:∀h,zsb Tryz.prog G0 h:=fun h=>⟨fun p hp=>(by cases hp),trivial⟩
theorem zld:zDA Tryz.prog G0:=fun p hp=>by cases hp
theorem fpok:zDA Tryz.prog G:=zbx (zf6 (m:=zbm) zlc zld zgY) (zbx (zf6 (m:=zic) zlc zld zGl) (zbx (zf6 (m:=zd3) zlc zld znC) (zbx (zf6 (m:=zne) zlc zld zxK) (zbx (zf6 (m:=zpi) zlc zld zGm) (zbx (zf6 (m:=zgH) zlc zld zvQ) (zbx (zf6 (m:=zcJ) zlc zld zme) (zbx (zf6 (m:=zjE) zlc zld zua) (zbx (zf6 (m:=zg2) zlc zld zyh) (zbx (zf6 (m:=zaS) zlc zld zrn) (zbx (zf6 (m:=zf8) zlc zld zBt) (zbx (zf6 (m:=zl0) zlc zld zBu) (zbx (zf6 (m:=zl1) zlc zld zBv) (zbx (zf6 (m:=zdX) zlc zld zBs) (zbx (zf6 (m:=zdW) zlc zld zjl) (zbx (zf6 (m:=zds) zlc zld zkD) (zbx (zf6 (m:=zg3) zlc zld zrm) (zbx (zf6 (m:=zno) zlc zld zD1) (zbx (zf6 (m:=zjJ) zlc zld zBw) (zbx (zf6 (m:=zgJ) zlc zld zvR) (zbx (zf6 (m:=zh9) zlc zld zz6) (zbx (zf6 (m:=zdy) zlc zld zrA) (zbx (zf6 (m:=znl) zlc zld zD0) (zbx (zf6 (m:=znk) zlc zld zDZ) (zbx (zf6 (m:=zg7) zlc zld zyi) (zbx (zf6 (m:=zin) zlc zld zz5) (fp_nil))))))))))))))))))))))))))
-- doorstep/doorsteplaw26.swap
theorem zD2:za 51 zGQ:=cqG CLs.nil 18 Tryz.func51 .e
-- doorstep/doorsteplaw26.Few
theorem zGn:za 30 zIM:=cqG (CLs.nil.add zD2) 86 Tryz.func30 (.n 2 (.q (.n 1 (.w [(1, .po 5),(2, .po 7),(3, .po 6),(4, .int)] [] (fun m t=>z7 t.1 m t.2.2.1 t.2.2.2) fun n0 => .n 1 (.j [(1, .po 5),(2, .po 7),(3, .po 6),(4, .int)] [] (fun t=>zvo (z7 t.1 n0) t.2.2.1 t.2.2.2) .e .e))) (.j [(1, .po 5),(2, .po 7),(5, .po 7)] [] (fun t=>zvp t.1 t.2.2) .e (.q (.n 1 (.w [(1, .po 5),(2, .po 7),(5, .po 7),(6, .int)] [] (fun m t=>zdE t.1 m t.2.2.1 t.2.2.2) fun n1 => .q (.j [(1, .po 5),(2, .po 7),(5, .po 7),(6, .int),(49, .bool)] [] (fun t=>zmI (zdE t.1 n1) t.1 t.2.2.1 t.2.2.2.1 t.2.2.2.2) .e .e) .e)) (.q (.n 1 (.w [(1, .po 5),(2, .po 7),(5, .po 7),(7, .int)] [] (fun m t=>zgc t.1 m t.2.2.1 t.2.2.2) fun n2 => .q (.j [(1, .po 5),(2, .po 7),(5, .po 7),(7, .int),(71, .bool)] [] (fun t=>zmH (zgc t.1 n2) t.1 t.2.2.1 t.2.2.2.1 t.2.2.2.2) .e .e) .e)) .e)))))
-- doorstep/doorsteplaw29.Few
theorem zGo:za 31 zIN:=cqG CLs.nil 46 Tryz.func31 (.n 2 (.q (.n 1 (.w [(0, .sl (.st 1)),(3, .so 98 (.st 1)),(4, .int)] [] (fun m t=>zgd t.1 m t.2.1 t.2.2) fun n0 => .q (.j [(0, .sl (.st 1)),(3, .so 98 (.st 1)),(4, .int),(12, .bool)] [] (fun t=>zmJ (zgd t.1 n0) t.1 t.2.1 t.2.2.1 t.2.2.2) .e .e) .e)) .e))
-- doorstep/doorsteplaw39.Few
theorem zGp:za 16 zIO:=cqG ((CLs.nil.add zGo).add zGn) 15 Tryz.func16 .e
-- doorstep/doorsteplaw31.Few
theorem zGq:za 82 zIP:=cqG CLs.nil 38 Tryz.func82 (.n 2 (.q (.n 1 (.w [(0, .sl (.st 3)),(3, .so 109 (.st 3)),(4, .int)] [] (fun m t=>zge t.1 m t.2.1 t.2.2) fun n0 => .q (.j [(0, .sl (.st 3)),(3, .so 109 (.st 3)),(4, .int),(12, .bool)] [] (fun t=>zmK (zge t.1 n0) t.1 t.2.1 t.2.2.1 t.2.2.2) .e .e) .e)) .e))
-- doorstep/doorsteplaw32.Few
theorem zGr:za 52 zIQ:=cqG (CLs.nil.add zGq) 50 Tryz.func52 (.n 2 (.q (.n 1 (.w [(1, .po 2),(2, .po 8),(3, .po 6),(4, .int)] [] (fun m t=>zad t.1 m t.2.2.1 t.2.2.2) fun n0 => .n 1 (.j [(1, .po 2),(2, .po 8),(3, .po 6),(4, .int)] [] (fun t=>zvq (zad t.1 n0) t.2.2.1 t.2.2.2) .e .e))) (.j [(1, .po 2),(2, .po 8),(3, .po 6)] [] (fun t=>zvt t.1 t.2.2) .e (.j [(1, .po 2),(2, .po 8),(3, .po 6)] [] (fun t=>zvs t.1 t.2.2) .e (.j [(1, .po 2),(2, .po 8),(3, .po 6)] [] (fun t=>zvr t.1 t.2.2) .e (.j [(1, .po 2),(2, .po 8)] [] (fun t=>zmL t.1) .e .e))))))
-- doorstep/doorsteplaw35.Few
theorem zGs:za 32 zIR:=cqG (CLs.nil.add zGr) 24 Tryz.func32 (.n 2 (.q (.n 1 (.w [(0, .sl (.st 2)),(3, .so 88 (.st 2)),(4, .int)] [] (fun m t=>zgf t.1 m t.2.1 t.2.2) fun n0 => .q (.j [(0, .sl (.st 2)),(3, .so 88 (.st 2)),(4, .int),(12, .bool)] [] (fun t=>zmM (zgf t.1 n0) t.1 t.2.1 t.2.2.1 t.2.2.2) .e .e) .e)) .e))
-- doorstep/doorsteplaw40.Few
theorem zGt:za 17 zIS:=cqG (CLs.nil.add zGs) 31 Tryz.func17 (.n 2 (.q (.n 1 (.w [(3, .so 88 (.st 2)),(4, .int)] [] (fun m t=>zjV m t.1 t.2) fun n0 => .e)) .e))
-- doorstep/doorsteplaw46.Few
theorem zGu:za 5 zIT:=cqG ((CLs.nil.add zGt).add zGp) 36 Tryz.func5 .e
-- doorstep/quill.Join
theorem zbK:za 83 zGR:=cqG (CLs.nil.add zz4) 8 Tryz.func83 .e
-- doorstep/scan.New
theorem zgB:za 131 zK2:=cqG CLs.nil 6 Tryz.func131 .e
-- doorstep/octet.Lower
theorem zub:za 279 zqW:=cqG CLs.nil 12 Tryz.func279 .e
-- doorstep/octet.IsAlpha
theorem zro:za 276 zsL:=cqG (CLs.nil.add zub) 11 Tryz.func276 .e
-- doorstep/octet.IsDigit
theorem zmo:za 142 zsM:=cqG CLs.nil 9 Tryz.func142 .e
-- doorstep/octet.one
theorem zsw:za 277 zAq:=cqG (CLs.nil.add zdA) 9 Tryz.func277 .e
-- doorstep/octet.IsToken
theorem ze6:za 269 zxd:=cqG CLs.nil 9 Tryz.func269 .e
-- (*doorstep/scan.Scanner).Rest
theorem zdB:za 198 zuY:=cqG CLs.nil 14 Tryz.func198 .e
-- (*doorstep/scan.Scanner).End
theorem zbl:za 196 zv9:=cqG (CLs.nil.add zdB) 6 Tryz.func196 .e
-- (*doorstep/scan.Scanner).Peek
theorem zcp:za 193 zuZ:=cqG (CLs.nil.add zbl) 15 Tryz.func193 .e
-- (*doorstep/scan.Scanner).While
theorem zU:za 194 zrE:=cqG ((CLs.nil.add zcp).add ze6) 42 Tryz.func194 (.n 2 (.q (.w [(9000, .po 12),(1, .fn),(5, .int)] [(0,9000)] (fun m t=>zbT t.2.1 t.2.2 m t.1) fun n0 => .e) .e))
-- (*doorstep/scan.Scanner).Token
theorem zaG:za 192 zrF:=cqG (CLs.nil.add zU) 10 Tryz.func192 .e
-- (*doorstep/scan.Scanner).Byte
theorem zy:za 133 zsN:=cqG (CLs.nil.add zcp) 26 Tryz.func133 .e
-- (doorstep/via.reader).protocol
theorem zpA:za 132 zqX:=cqG ((CLs.nil.add zy).add zaG) 37 Tryz.func132 (.n 3 (.j [(9001, .po 11),(9032, .po 12),(6, .bool)] [] (fun t=>zcW t.1 t.2.1 t.2.2) (.j [(9001, .po 11),(2, .po 13),(5, .str),(6, .bool),(22, .bool)] [(9032,100002),(1,9001)] (fun t=>zcX t.1 t.2.1 t.2.2.1 t.2.2.2.1 t.2.2.2.2) .e .e) .e))
-- (doorstep/via.reader).by$1
theorem zby:za 208 zIU:=cqG CLs.nil 27 Tryz.func208 (.n 1 (.q (.n 1 (.w [(0, .fn),(8, .sl .str),(9, .int),(10, .int)] [] (fun m t=>zh6 t.1 t.2.1 t.2.2.1 m t.2.2.2) fun n0 => .n 2 (.q (.n 2 (.w [(0, .fn),(6, .str),(8, .sl .str),(9, .int),(10, .int),(15, .int),(16, .int)] [] (fun m t=>zjW (zh6 t.1 t.2.2.1 t.2.2.2.1 n0) t.1 t.2.1 t.2.2.2.2.1 t.2.2.2.2.2.1 m t.2.2.2.2.2.2) fun n1 => .e)) .e))) .e))
-- doorstep/numeral.worth
theorem zyj:za 209 zAs:=cqG ((CLs.nil.add zub).add zmo) 13 Tryz.func209 .e
-- doorstep/numeral.read
theorem zsx:za 141 zCf:=cqG ((CLs.nil.add zyj).add zby) 50 Tryz.func141 (.n 3 (.q (.n 1 (.w [(0, .str),(1, .int),(2, .int),(10, .int),(23, .int),(24, .int)] [] (fun m t=>zgI t.1 t.2.1 t.2.2.1 t.2.2.2.2.1 m t.2.2.2.1 t.2.2.2.2.2) fun n0 => .e)) .e))
-- doorstep/numeral.Decimal
theorem zhm:za 88 zxf:=cqG (CLs.nil.add zsx) 11 Tryz.func88 .e
-- doorstep/numeral.text
theorem zsy:za 207 zCg:=cqG (CLs.nil.add ztJ) 10 Tryz.func207 .e
-- doorstep/numeral.Text
theorem zf1:za 140 zCh:=cqG (CLs.nil.add zsy) 5 Tryz.func140 .e
-- doorstep/hostport.small
theorem zpB:za 87 zrs:=cqG ((CLs.nil.add zf1).add zhm) 21 Tryz.func87 .e
theorem zeN:COk Tryz.prog G 137 zAo:=zfB rfl rfl rfl rfl ⟨_,Tryz.func137,by kernel_rfl,by kernel_rfl⟩ fun w h p r on gl hm=>by
 have hm:zbn p=some r:=hm;unfold zbn at hm
 split at hm
 ·rename_i hs
  obtain ⟨bs,hbs,hm⟩:=ob hm;cases hm;exact zOH (fun x=>zbz x 255) (fun x b W hG h=>zzb (k:=zrs) rfl rfl rfl rfl zpB fpok (p:=(x,(255:Int))) (r:=b) h (h:=fun b=>W.heap[b]?) (fun _ _ e=>e) (zKd hG)) p hs bs hbs w (gl.2 w on)
 ·cases hm
-- doorstep/octet.IsHex
theorem zvS:za 202 zxg:=cqG (((CLs.nil.add zby).add zeN).add zmn) 53 Tryz.func202 (.n 4 (.q (.n 1 (.w [(1, .bool),(5, .so 9 .str),(6, .int),(14, .int),(15, .int)] [(13,5)] (fun m t=>zaD t.1 t.2.1 t.2.2.2.1 m t.2.2.1 t.2.2.2.2) fun n0 => .n 2 (.q (.n 1 (.j [(1, .bool),(5, .so 9 .str),(6, .int),(8, .str),(14, .int),(15, .int),(20, .bool)] [(13,5)] (fun t=>zed (zaD t.1 t.2.1 t.2.2.2.2.1 n0) t.2.2.1 t.2.2.2.1 t.2.2.2.2.2.1 t.2.2.2.2.2.2) .e (.q .e (.j [(1, .bool),(5, .so 9 .str),(6, .int),(14, .int),(15, .int),(35, .bool)] [(13,5)] (fun t=>zec (zaD t.1 t.2.1 t.2.2.2.1 n0) t.2.2.1 t.2.2.2.2.1 t.2.2.2.2.2) .e .e)))) .e))) .e))
-- doorstep/hostport.Six
theorem znD:za 136 zCi:=cqG ((CLs.nil.add zvS).add zlN) 35 Tryz.func136 .e
-- doorstep/hostport.percent
theorem zuO:za 204 zwa:=cqG (CLs.nil.add zby) 17 Tryz.func204 .e
-- doorstep/octet.IsUnreserved
theorem zmf:za 205 zmC:=cqG (((CLs.nil.add zsw).add zmo).add zro) 13 Tryz.func205 .e
-- doorstep/octet.IsSub
theorem zuc:za 206 zwb:=cqG (CLs.nil.add zsw) 5 Tryz.func206 .e
-- doorstep/hostport.Name
theorem zmp:za 138 zAt:=cqG (((CLs.nil.add zuc).add zmf).add zuO) 23 Tryz.func138 (.n 2 (.q (.w [(0, .str)] [] (fun m t=>zcK m t) fun n0 => .e) .e))
-- doorstep/hostport.of
theorem zBx:za 85 zEu:=cqG (((CLs.nil.add zmp).add zeN).add znD) 51 Tryz.func85 (.n 2 (.q (.j [(0, .str),(2, .po 14),(4, .po 14),(7, .bool)] [] (fun t=>zfD t.1 t.2.2.1 t.2.2.2) .e .e) .e))
-- internal/bytealg.LastIndexByteString
theorem zmg:za 139 zmr:=cqG CLs.nil 19 Tryz.func139 (.n 1 (.q (.n 1 (.w [(0, .str),(1, .u8),(5, .int)] [] (fun m t=>zap t.1 t.2.1 m t.2.2) fun n0 => .e)) .e))
-- strings.LastIndexByte
theorem zjN:za 86 zqY:=cqG (CLs.nil.add zmg) 8 Tryz.func86 .e
-- doorstep/hostport.Parse
theorem zea:za 54 zyB:=cqG ((((CLs.nil.add zhm).add zpB).add zjN).add zBx) 49 Tryz.func54 .e
-- doorstep/octet.Token
theorem zfm:za 145 zEv:=cqG (CLs.nil.add zby) 10 Tryz.func145 .e
-- strings.ContainsAny
theorem zeF:za 90 zsO:=cqG (CLs.nil.add zjx) 9 Tryz.func90 .e
-- (doorstep/via.reader).by
theorem zvT:za 134 zxh:=cqG ((((CLs.nil.add zeF).add zfm).add zea).add zU) 38 Tryz.func134 (.n 3 (.j [(9001, .po 11),(9032, .po 12),(4, .bool)] [] (fun t=>zee t.1 t.2.1 t.2.2) .e .e))
-- internal/stringslite.HasPrefix
theorem zf2:za 336 zqZ:=cqG CLs.nil 18 Tryz.func336 .e
-- internal/stringslite.CutPrefix
theorem zpC:za 270 zq0:=cqG (CLs.nil.add zf2) 15 Tryz.func270 .e
-- strings.CutPrefix
theorem ziH:za 197 zu0:=cqG (CLs.nil.add zpC) 11 Tryz.func197 .e
-- internal/stringslite.HasSuffix
theorem zjO:za 337 zq1:=cqG CLs.nil 21 Tryz.func337 .e
-- internal/stringslite.CutSuffix
theorem zpD:za 271 zq2:=cqG (CLs.nil.add zjO) 18 Tryz.func271 .e
-- strings.CutSuffix
theorem zmz:za 199 zu1:=cqG (CLs.nil.add zpD) 11 Tryz.func199 .e
-- doorstep/octet.IsVisible
theorem zvU:za 289 zpL:=cqG CLs.nil 9 Tryz.func289 .e
-- doorstep/octet.IsBlank
theorem zyk:za 290 zsP:=cqG CLs.nil 9 Tryz.func290 .e
-- doorstep/octet.IsValue
theorem zrp:za 217 zsQ:=cqG ((CLs.nil.add zyk).add zvU) 13 Tryz.func217 .e
-- doorstep/via.balanced
theorem zz7:za 200 zCj:=cqG (CLs.nil.add zby) 41 Tryz.func200 (.n 2 (.q (.n 1 (.w [(0, .str),(3, .int),(4, .int)] [] (fun m t=>zbF t.1 m t.2.1 t.2.2) fun n0 => .n 1 (.q (.j [(0, .str),(3, .int),(4, .int)] [] (fun t=>zeJ (zbF t.1 n0) t.1 t.2.1 t.2.2) .e .e) .e))) .e))
-- (doorstep/via.reader).comment
theorem zqQ:za 135 zrG:=cqG (((((CLs.nil.add zz7).add zmz).add ziH).add zdB).add zbl) 40 Tryz.func135 (.n 5 (.j [(9001, .po 11),(9032, .po 12),(4, .bool)] [] (fun t=>za4 t.1 t.2.1 t.2.2) .e .e))
-- doorstep/via.Parse
theorem zGv:za 84 zIV:=cqG (((((CLs.nil.add zqQ).add zvT).add zy).add zpA).add zgB) 30 Tryz.func84 .e
-- doorstep/via.Text
theorem zz8:za 53 zK3:=cqG ((CLs.nil.add zGv).add zbK) 44 Tryz.func53 (.n 2 (.j [(1, .po 11),(4, .so 9 .str)] [] (fun t=>zlS t.1 t.2) .e (.j [(1, .po 11),(4, .so 9 .str)] [] (fun t=>zlR t.1 t.2) .e .e)))
-- doorstep/domains.name
theorem zz9:za 89 zCk:=cqG ((CLs.nil.add zeN).add zmp) 10 Tryz.func89 .e
-- doorstep/domains.Check
theorem zyl:za 55 zAu:=cqG ((CLs.nil.add zeF).add zz9) 30 Tryz.func55 (.n 1 (.q (.n 1 (.w [(0, .sl (.st 1)),(5, .sl (.st 1)),(6, .int),(7, .int)] [] (fun m t=>zfE t.1 t.2.1 t.2.2.1 m t.2.2.2) fun n0 => .e)) .e))
-- doorstep/uriref.scheme$1
theorem zym:za 284 zAv:=cqG ((CLs.nil.add zby).add zro) 17 Tryz.func284 .e
-- strings.HasPrefix
theorem zdC:za 285 zu2:=cqG (CLs.nil.add zf2) 8 Tryz.func285 .e
-- doorstep/uriref.upto
theorem zud:za 286 zEw:=cqG (CLs.nil.add zjx) 19 Tryz.func286 .e
-- doorstep/uriref.parts
theorem zAa:za 214 zCl:=cqG ((((CLs.nil.add zud).add zdC).add zym).add zdA) 56 Tryz.func214 (.n 2 (.j [(0, .str),(2, .po 15),(3, .po 15)] [] (fun t=>zgM t.1 t.2.2) (.n 1 (.j [(0, .str),(2, .po 15),(3, .po 15),(4, .int),(14, .bool)] [] (fun t=>zi6 t.1 t.2.2.1 t.2.2.2.1 t.2.2.2.2) .e .e)) (.j [(0, .str),(2, .po 15),(3, .po 15)] [] (fun t=>zgL t.1 t.2.2) .e (.n 1 (.j [(0, .str),(2, .po 15),(3, .po 15)] [] (fun t=>zgK t.1 t.2.2) .e (.j [(2, .po 15),(3, .po 15)] [] (fun t=>zi5 t.2) .e .e))))))
-- doorstep/octet.IsPath
theorem zsz:za 345 zum:=cqG (((CLs.nil.add zsw).add zuc).add zmf) 13 Tryz.func345 .e
-- doorstep/uriref.bytes
theorem zAb:za 287 zCm:=cqG (((CLs.nil.add zdA).add zsz).add zby) 49 Tryz.func287 (.n 1 (.q (.n 1 (.w [(0, .str),(1, .str),(5, .int)] [] (fun m t=>zcr t.1 t.2.1 m t.2.2) fun n0 => .n 1 (.q (.n 1 (.q .e (.j [(0, .str),(1, .str),(5, .int),(35, .bool)] [] (fun t=>zi7 (zcr t.1 t.2.1 n0) t.2.2.1 t.2.2.2) .e .e))) .e))) .e))
-- doorstep/uriref.well
theorem zBy:za 215 zEx:=cqG ((((CLs.nil.add zdC).add zuN).add zAb).add zud) 63 Tryz.func215 .e
-- doorstep/uriref.Parse
theorem zAc:za 144 zCn:=cqG ((CLs.nil.add zBy).add zAa) 12 Tryz.func144 .e
-- doorstep/location.is
theorem zue:za 91 zEy:=cqG (CLs.nil.add zAc) 12 Tryz.func91 .e
-- doorstep/location.Check
theorem zw7:za 56 zyC:=cqG (CLs.nil.add zue) 30 Tryz.func56 (.n 1 (.q (.n 1 (.w [(0, .sl (.st 1)),(5, .sl (.st 1)),(6, .int),(7, .int)] [] (fun m t=>zeQ t.1 t.2.1 t.2.2.1 m t.2.2.2) fun n0 => .e)) .e))
-- doorstep/stage.Check
theorem zuf:za 33 zEz:=cqG ((((CLs.nil.add zw7).add zyl).add zea).add zz8) 54 Tryz.func33 (.n 2 (.q (.n 1 (.j [(1, .po 5),(6, .int),(30, .bool)] [] (fun t=>zj1 t.1 t.2.1 t.2.2) .e .e)) (.q (.j [(1, .po 5),(44, .bool)] [] (fun t=>zhs t.1 t.2) .e .e) .e)))
-- doorstep/enchunk.New
theorem zlO:za 34 zEA:=cqG CLs.nil 13 Tryz.func34 .e
-- doorstep/pairing.New
theorem zBz:za 35 zEB:=cqG CLs.nil 14 Tryz.func35 .e
-- doorstep/rule.Known
theorem zvV:za 92 zGS:=cqG CLs.nil 10 Tryz.func92 .e
-- doorstep/fieldline.Check
theorem zkE:za 146 zxj:=cqG (((CLs.nil.add zf0).add zby).add zfm) 22 Tryz.func146 .e
-- doorstep/rule.guard
theorem zD3:za 93 zGT:=cqG ((CLs.nil.add zkE).add zfm) 35 Tryz.func93 (.n 1 (.q (.n 2 (.q .e (.j [(1, .po 25),(4, .int),(15, .bool)] [] (fun t=>zlk t.1 t.2.1 t.2.2) .e .e))) .e))
-- doorstep/hop.names
theorem zxL:za 297 zIW:=cqG CLs.nil 2 Tryz.func297 .e
theorem zdU:COk Tryz.prog G 221 zGP:=zfB rfl rfl rfl rfl ⟨_,Tryz.func221,by kernel_rfl,by kernel_rfl⟩ fun w h p r on gl hm=>by
 have hm:(if List.length (α:=UInt8) p<4294967281 then List.mapM zbS p else none)=some r:=hm
 split at hm
 ·rename_i hs
  exact zKF zbS ⟨List.toArray (α:=UInt8) p⟩ r w (gl.2 w on).1 hs hm fun b c w hbc _=>zzb (k:=zqW) rfl rfl rfl rfl zoR zld (p:=b) (r:=c) hbc (h:=fun _=>none) (fun _ _ e=>by cases e) (zlc _)
 ·cases hm
-- slices.Index[[]string,string]
theorem zle:za 298 zmh:=cqG CLs.nil 19 Tryz.func298 (.n 1 (.q (.n 1 (.w [(0, .sl .str),(1, .str),(7, .int),(8, .int)] [] (fun m t=>zal t.1 t.2.1 t.2.2.1 m t.2.2.2) fun n0 => .e)) .e))
-- slices.Contains[[]string,string]
theorem zO:za 220 zkI:=cqG (CLs.nil.add zle) 9 Tryz.func220 .e
-- doorstep/hop.Fixed
theorem zGw:za 219 zIX:=cqG (((CLs.nil.add zO).add zdU).add zxL) 7 Tryz.func219 .e
-- doorstep/rule.Kept
theorem zGx:za 147 zIY:=cqG (((CLs.nil.add zO).add zdU).add zGw) 13 Tryz.func147 .e
-- doorstep/rule.free
theorem zxM:za 94 zIZ:=cqG ((CLs.nil.add zGx).add zfm) 10 Tryz.func94 .e
-- doorstep/tmpl.Names
theorem zD4:za 222 zGU:=cqG (CLs.nil.add zO) 29 Tryz.func222 (.n 2 (.q (.n 1 (.w [(3, .so 9 .str),(6, .sl (.st 3)),(7, .int),(8, .int)] [] (fun m t=>ze9 t.2.1 t.2.2.1 m t.1 t.2.2.2) fun n0 => .n 2 (.q (.n 1 (.j [(3, .so 9 .str),(5, .po 3),(6, .sl (.st 3)),(7, .int),(8, .int),(21, .bool)] [] (fun t=>zll (ze9 t.2.2.1 t.2.2.2.1 n0) t.1 t.2.1 t.2.2.2.2.1 t.2.2.2.2.2) .e .e)) .e))) .e))
-- doorstep/tmpl.small
theorem zkT:za 385 zsR:=cqG ((CLs.nil.add zdC).add zdB) 21 Tryz.func385 .e
-- (*doorstep/tmpl.reader).text
theorem zsA:za 386 ztP:=cqG CLs.nil 48 Tryz.func386 (.q (.n 1 (.j [(9000, .po 26),(1, .str),(4, .int),(23, .bool)] [(0,9000)] (fun t=>zev t.1 t.2.1 t.2.2.1 t.2.2.2) .e .e)) .e)
-- (*doorstep/tmpl.reader).named
theorem zrB:za 387 zsS:=cqG (((CLs.nil.add zU).add zaG).add zy) 46 Tryz.func387 (.n 2 (.j [(9000, .po 26),(3, .po 3)] [(0,9000)] (fun t=>zdG t.1 t.2) .e (.n 1 (.j [(9000, .po 26),(2, .bool)] [] (fun t=>zdF t.1 t.2) .e .e))))
-- (*doorstep/tmpl.reader).step
theorem zsB:za 349 ztQ:=cqG ((((CLs.nil.add zU).add zrB).add zsA).add zkT) 30 Tryz.func349 .e
-- doorstep/tmpl.Parse
theorem zD5:za 300 zGX:=cqG (((CLs.nil.add zsB).add zbl).add zgB) 28 Tryz.func300 (.n 2 (.q (.w [(4, .po 26)] [] (fun m t=>ziJ m t) fun n0 => .e) .e))
-- slices.Equal[[]doorstep/api.Part,doorstep/api.Part]
theorem zjy:za 301 zjR:=cqG CLs.nil 26 Tryz.func301 (.n 2 (.q (.n 1 (.w [(0, .sl (.st 3)),(1, .sl (.st 3)),(12, .int),(13, .int)] [] (fun m t=>zV t.1 t.2.1 t.2.2.1 m t.2.2.2) fun n0 => .e)) .e))
-- doorstep/tmpl.Text
theorem zGy:za 223 zI0:=cqG ((((CLs.nil.add zjy).add zD5).add zbK).add zsv) 57 Tryz.func223 (.n 2 (.q (.n 1 (.w [(0, .sl (.st 3)),(4, .so 9 .str),(10, .sl (.st 3)),(11, .int),(12, .int)] [] (fun m t=>zdH t.1 t.2.2.1 t.2.2.2.1 m t.2.1 t.2.2.2.2) fun n0 => .n 2 (.j [(0, .sl (.st 3)),(4, .so 9 .str),(10, .sl (.st 3)),(11, .int),(12, .int)] [] (fun t=>zia (zdH t.1 t.2.2.1 t.2.2.2.1 n0) t.2.1 t.2.2.2.2) .e .e))) .e))
-- doorstep/rule.parts
theorem zD6:za 148 zGY:=cqG ((((CLs.nil.add zGy).add zO).add zD4).add zvV) 31 Tryz.func148 (.n 1 (.j [(1, .sl (.st 3)),(5, .so 9 .str)] [] (fun t=>zlm t.1 t.2) .e (.q (.n 1 (.w [(1, .sl (.st 3)),(5, .so 9 .str),(13, .so 9 .str),(14, .int),(15, .int)] [] (fun m t=>ziK t.1 t.2.1 t.2.2.1 t.2.2.2.1 m t.2.2.2.2) fun n0 => .e)) .e)))
-- doorstep/rule.act
theorem zIz:za 95 zK4:=cqG ((CLs.nil.add zxM).add zD6) 41 Tryz.func95 (.n 1 (.q (.n 1 (.q (.q (.j [(1, .po 2)] [] (fun t=>znZ t) .e .e) .e) .e)) .e))
-- doorstep/rule.Check
theorem zD7:za 57 zGZ:=cqG ((((CLs.nil.add zIz).add zxM).add zD3).add zvV) 24 Tryz.func57 .e
-- doorstep/check.Check
theorem zoS:za 36 zEC:=cqG (CLs.nil.add zD7) 24 Tryz.func36 (.n 1 (.q (.n 1 (.w [(0, .sl (.st 2)),(7, .sl (.st 2)),(8, .int),(9, .int)] [] (fun m t=>zhu t.1 t.2.1 t.2.2.1 m t.2.2.2) fun n0 => .e)) .e))
-- doorstep/accum.New
theorem zxN:za 58 zI1:=cqG CLs.nil 24 Tryz.func58 (.n 1 (.q (.j [(0, .int),(1, .int),(19, .bool)] [] (fun t=>zgi t.1 t.2.1 t.2.2) .e .e) .e))
-- doorstep/gateway.fresh
theorem zjm:za 39 zAw:=cqG (CLs.nil.add zxN) 15 Tryz.func39 .e
-- doorstep/gateway.New
theorem zBA:za 18 zED:=cqG (((((((CLs.nil.add zjm).add zla).add zpz).add zoS).add zBz).add zlO).add zuf) 106 Tryz.func18 (.n 2 (.j [(2, .sl (.st 2)),(3, .po 5),(4, .po 10),(10, .int)] [] (fun t=>zfH t.1 t.2.1 t.2.2.1 t.2.2.2) .e (.j [(2, .sl (.st 2)),(3, .po 5),(4, .po 10),(10, .int),(11, .pn 17),(12, .int)] [] (fun t=>zfG t.1 t.2.1 t.2.2.1 t.2.2.2.1 t.2.2.2.2.1 t.2.2.2.2.2) .e (.n 4 (.q (.n 1 (.w [(4, .po 10),(15, .po 16),(72, .sl (.st 2)),(73, .int),(74, .int)] [] (fun m t=>zeg t.1 t.2.2.1 t.2.2.2.1 m t.2.1 t.2.2.2.2) fun n0 => .e)) .e)))))
-- doorstep/wire.New
theorem zIA:za 6 zK5:=cqG (CLs.nil.add zBA) 52 Tryz.func6 .e
-- doorstep/doorstepref46.Setup
theorem zBB:za 24 zEE:=cqG CLs.nil 10 Tryz.func24 .e
-- doorstep/doorstepref08.Parts
theorem zoT:za 168 zEF:=cqG CLs.nil 34 Tryz.func168 (.n 3 (.q (.n 1 (.w [(0, .str),(1, .u8),(5, .so 9 .str),(6, .int),(7, .int)] [] (fun m t=>zfI t.1 t.2.1 m t.2.2.1 t.2.2.2.1 t.2.2.2.2) fun n0 => .e)) .e))
-- doorstep/doorstepref03.worth
theorem zug:za 257 zEG:=cqG CLs.nil 26 Tryz.func257 (.n 3 (.q (.n 1 (.w [(0, .u8),(1, .int),(5, .str),(6, .str),(7, .int)] [] (fun m t=>znn t.1 t.2.1 t.2.2.1 t.2.2.2.1 m t.2.2.2.2) fun n0 => .e)) .e))
-- doorstep/doorstepref03.Digits
theorem zpE:∀n,COk Tryz.prog G 256 (zyD n)
 | 0=>zFB ⟨_,Tryz.func256,by kernel_rfl,by kernel_rfl⟩ fun _=>rfl
 | n+1=>by
  have h:=zpE n;exact zC7 zyR hNm tyk (CLs.nil.add h) 29 Tryz.func256 (by kernel_rfl) (hn := .e) (by unfold zsh; kernel_rfl)
theorem znE:COk Tryz.prog G 256 zCo:=zpE fuel
-- doorstep/doorstepref03.Plain
theorem zBC:za 254 zEH:=cqG ((CLs.nil.add znE).add zug) 38 Tryz.func254 (.n 2 (.q (.n 1 (.w [(0, .str),(1, .int),(6, .str),(7, .int)] [] (fun m t=>zei t.1 t.2.1 m t.2.2.1 t.2.2.2) fun n0 => .n 1 (.q (.n 2 (.j [(0, .str),(1, .int),(6, .str),(7, .int),(8, .int),(27, .bool)] [] (fun t=>zj2 (zei t.1 t.2.1 n0) t.2.1 t.2.2.1 t.2.2.2.1 t.2.2.2.2.1 t.2.2.2.2.2) .e .e)) .e))) .e))
-- doorstep/doorstepref03.Less
theorem zD8:za 255 zG0:=cqG CLs.nil 22 Tryz.func255 .e
-- doorstep/doorstepref03.Read
theorem zD9:za 172 zG1:=cqG ((((CLs.nil.add zug).add zD8).add znE).add zBC) 45 Tryz.func172 (.n 5 (.q (.n 1 (.w [(1, .int),(8, .str),(10, .int),(11, .int)] [] (fun m t=>ziL t.1 t.2.1 m t.2.2.1 t.2.2.2) fun n0 => .e)) .e))
-- doorstep/doorstepref03.Text
theorem zEa:za 173 zG2:=cqG (CLs.nil.add znE) 10 Tryz.func173 .e
-- doorstep/doorstepref08.Small
theorem zuh:za 119 zEI:=cqG ((CLs.nil.add zEa).add zD9) 25 Tryz.func119 .e
-- doorstep/doorstepref08.Four
theorem zqR:za 121 zG3:=cqG ((CLs.nil.add zuh).add zoT) 22 Tryz.func121 (.n 2 (.q (.n 1 (.w [(3, .so 9 .str),(4, .int)] [] (fun m t=>ziM t.1 m t.2) fun n0 => .e)) .e))
-- doorstep/doorstepref01.In
theorem zfn:za 258 zC0:=cqG CLs.nil 17 Tryz.func258 (.n 1 (.q (.n 1 (.w [(0, .u8),(1, .str),(5, .int)] [] (fun m t=>zjH t.1 t.2.1 m t.2.2) fun n0 => .e)) .e))
-- doorstep/doorstepref01.Hex
theorem zsC:za 174 zAx:=cqG (CLs.nil.add zfn) 5 Tryz.func174 .e
-- doorstep/doorstepref08.whole
theorem zBD:za 253 zEJ:=cqG (((CLs.nil.add zsC).add zqR).add zoT) 64 Tryz.func253 (.n 3 (.q (.n 1 (.w [(3, .so 9 .str),(4, .int),(5, .int)] [] (fun m t=>zc4 t.1 m t.2.1 t.2.2) fun n0 => .n 1 (.q (.q (.j [(3, .so 9 .str),(4, .int),(5, .int),(26, .bool)] [] (fun t=>zj3 (zc4 t.1 n0) t.1 t.2.1 t.2.2.1 t.2.2.2) .e .e) (.q (.n 1 (.w [(3, .so 9 .str),(4, .int),(5, .int),(6, .int)] [] (fun m t=>zhw (zc4 t.1 n0) t.1 t.2.1 t.2.2.1 m t.2.2.2) fun n1 => .e)) .e)) .e))) .e))
-- doorstep/doorstepref08.Six
theorem zGz:za 171 zI2:=cqG (CLs.nil.add zBD) 59 Tryz.func171 (.n 1 (.q (.n 1 (.w [(0, .str),(3, .int)] [] (fun m t=>zid t.1 m t.2) fun n0 => .n 1 (.q (.n 1 (.q (.n 1 (.w [(0, .str),(3, .int),(4, .int)] [] (fun m t=>zeR t.1 t.2.1 m t.2.2) fun n1 => .n 1 (.q (.n 1 (.q (.n 1 (.w [(0, .str),(3, .int),(4, .int),(5, .str),(6, .int)] [] (fun m t=>zgj (zeR t.1 t.2.1 n1) t.1 t.2.1 t.2.2.1 m t.2.2.2.1 t.2.2.2.2) fun n2 => .n 1 (.q (.j [(0, .str),(3, .int),(4, .int),(5, .str),(6, .int)] [] (fun t=>zmQ (zgj (zeR t.1 t.2.1 n1) t.1 t.2.1 t.2.2.1 n2) t.2.2.2.1 t.2.2.2.2) .e .e) .e))) (.j [(0, .str),(3, .int),(4, .int),(5, .str)] [] (fun t=>zmR (zeR t.1 t.2.1 n1) t.2.2.1 t.2.2.2) .e .e))) .e))) .e)) .e))) .e))
-- doorstep/doorstepref01.Unreserved
theorem znF:za 175 zoH:=cqG (CLs.nil.add zfn) 5 Tryz.func175 .e
-- doorstep/doorstepref01.Sub
theorem zxO:za 176 zAy:=cqG (CLs.nil.add zfn) 5 Tryz.func176 .e
-- doorstep/doorstepref08.Name
theorem zvW:za 120 zG4:=cqG (((CLs.nil.add zxO).add znF).add zsC) 52 Tryz.func120 (.n 1 (.q (.n 1 (.w [(0, .str),(3, .int)] [] (fun m t=>zd0 t.1 m t.2) fun n0 => .n 1 (.q (.n 1 (.j [(0, .str),(3, .int),(48, .bool)] [] (fun t=>zln (zd0 t.1 n0) t.2.1 t.2.2) .e .e)) .e))) .e))
-- doorstep/doorstepref08.of
theorem zIB:za 118 zK6:=cqG (((CLs.nil.add zvW).add zqR).add zGz) 42 Tryz.func118 (.n 1 (.q (.j [(0, .str),(2, .po 14),(26, .bool)] [] (fun t=>zjI t.1 t.2.2) .e .e) .e))
-- doorstep/doorstepref08.Parse
theorem zui:za 75 zEK:=cqG ((CLs.nil.add zuh).add zIB) 45 Tryz.func75 (.n 3 (.q (.n 1 (.w [(0, .str),(2, .po 14),(4, .po 14),(5, .int)] [] (fun m t=>zhx t.1 m t.2.2.2) fun n0 => .e)) .e))
-- doorstep/doorstepref01.Tok
theorem zGA:za 181 zAz:=cqG (CLs.nil.add zfn) 5 Tryz.func181 .e
-- doorstep/doorstepref01.Token
theorem ziZ:za 124 zEL:=cqG (CLs.nil.add zGA) 18 Tryz.func124 (.n 1 (.q (.n 1 (.w [(0, .str),(3, .int)] [] (fun m t=>zhy t.1 m t.2) fun n0 => .e)) .e))
-- doorstep/doorstepref01.Value
theorem zoU:za 252 zwc:=cqG CLs.nil 13 Tryz.func252 .e
-- doorstep/doorstepref25.Comment
theorem zyn:za 170 zAA:=cqG (CLs.nil.add zoU) 49 Tryz.func170 (.n 2 (.q (.n 1 (.w [(0, .str),(3, .int),(4, .int)] [] (fun m t=>zbo t.1 m t.2.1 t.2.2) fun n0 => .n 1 (.q (.n 2 (.j [(0, .str),(3, .int),(4, .int)] [] (fun t=>zif (zbo t.1 n0) t.1 t.2.1 t.2.2) .e (.j [(0, .str),(3, .int),(4, .int)] [] (fun t=>zie (zbo t.1 n0) t.2.1 t.2.2) .e .e))) .e))) .e))
-- doorstep/doorstepref25.comma
theorem zBE:za 169 zEM:=cqG CLs.nil 26 Tryz.func169 (.n 1 (.q (.n 1 (.w [(0, .str),(3, .int)] [] (fun m t=>zhz t.1 m t.2) fun n0 => .e)) .e))
-- doorstep/doorstepref25.Parse
theorem zBF:za 117 zEN:=cqG (((((CLs.nil.add zBE).add zyn).add ziZ).add zui).add zoT) 149 Tryz.func117 (.n 2 (.q (.w [(0, .str),(2, .po 11),(4, .int)] [] (fun m t=>zek t.1 m t.2.2) fun n0 => .q (.j [(0, .str),(2, .po 11),(4, .int),(21, .bool)] [] (fun t=>zj5 (zek t.1 n0) t.1 t.2.2.1 t.2.2.2) .e .e) .e) (.n 2 (.q (.w [(0, .str),(2, .po 11),(4, .int),(5, .int)] [] (fun m t=>zej t.1 t.2.2.1 m t.2.2.2) fun n1 => .q (.j [(0, .str),(2, .po 11),(4, .int),(5, .int),(40, .bool)] [] (fun t=>zj4 (zej t.1 t.2.2.1 n1) t.1 t.2.2.1 t.2.2.2.1 t.2.2.2.2) .e .e) .e) (.n 2 (.j [(0, .str),(2, .po 11),(5, .int),(6, .po 11),(7, .so 9 .str)] [] (fun t=>zhA t.1 t.2.2.1 t.2.2.2.1 t.2.2.2.2) .e (.n 1 (.q (.j [(0, .str),(2, .po 11),(5, .int),(6, .po 11),(107, .bool)] [] (fun t=>zaq t.1 t.2.2.1 t.2.2.2.1 t.2.2.2.2) .e .e) .e))))))))
-- doorstep/doorstepref25.Text
theorem zEb:za 74 zG5:=cqG (CLs.nil.add zBF) 43 Tryz.func74 (.n 2 (.j [(1, .po 11),(4, .str)] [] (fun t=>zlp t.1 t.2) .e (.j [(1, .po 11),(4, .str)] [] (fun t=>ziN t.1 t.2) .e .e)))
-- doorstep/doorstepref29.Check
theorem zBG:za 76 zEO:=cqG ((CLs.nil.add zqR).add zvW) 58 Tryz.func76 (.n 1 (.q (.n 1 (.w [(0, .sl (.st 1)),(3, .int)] [] (fun m t=>zfK t.1 m t.2) fun n0 => .n 1 (.q (.n 3 (.w [(0, .sl (.st 1)),(3, .int),(5, .str),(6, .int)] [] (fun m t=>zhB (zfK t.1 n0) t.2.1 t.2.2.1 m t.2.2.2) fun n1 => .e)) .e))) .e))
-- doorstep/doorstepref11.first
theorem zuj:za 177 zEP:=cqG (CLs.nil.add zfn) 21 Tryz.func177 (.n 2 (.q (.w [(0, .str),(1, .str),(5, .int)] [] (fun m t=>zel t.1 t.2.1 m t.2.2) fun n0 => .q (.j [(0, .str),(1, .str),(5, .int),(17, .bool)] [] (fun t=>zj6 (zel t.1 t.2.1 n0) t.2.2.1 t.2.2.2) .e .e) .e) .e))
-- doorstep/doorstepref01.Alpha
theorem zBH:za 259 zwd:=cqG (CLs.nil.add zfn) 5 Tryz.func259 .e
-- doorstep/doorstepref01.Digit
theorem zBI:za 260 zwe:=cqG (CLs.nil.add zfn) 5 Tryz.func260 .e
-- doorstep/doorstepref11.scheme
theorem zAd:za 178 zCp:=cqG (((CLs.nil.add zfn).add zBI).add zBH) 36 Tryz.func178 (.n 1 (.q (.n 1 (.w [(0, .str),(3, .int)] [] (fun m t=>zbH t.1 m t.2) fun n0 => .n 1 (.q (.j [(0, .str),(3, .int),(32, .bool)] [] (fun t=>zeL (zbH t.1 n0) t.2.1 t.2.2) .e .e) .e))) .e))
-- doorstep/doorstepref01.Path
theorem zEc:za 332 zxT:=cqG ((CLs.nil.add zxO).add znF) 17 Tryz.func332 .e
-- doorstep/doorstepref09.Of
theorem zvX:∀n,COk Tryz.prog G 261 (zG6 n)
 | 0=>zFB ⟨_,Tryz.func261,by kernel_rfl,by kernel_rfl⟩ fun _=>rfl
 | n+1=>by
  have h:=zvX n;exact zC7 zyR hNm tyk ((((CLs.nil.add zfn).add zEc).add h).add zsC) 44 Tryz.func261 (by kernel_rfl) (hn := .e) (by unfold zsh; kernel_rfl)
theorem zIC:COk Tryz.prog G 261 zK7:=zvX fuel
-- doorstep/doorstepref11.right
theorem zBJ:za 179 zEQ:=cqG ((CLs.nil.add zuj).add zIC) 76 Tryz.func179 (.n 3 (.q (.j [(1, .po 15),(55, .bool)] [] (fun t=>zj7 t.1 t.2) .e .e) .e))
-- doorstep/doorstepref11.Parse
theorem zBK:za 122 zER:=cqG (((CLs.nil.add zBJ).add zAd).add zuj) 94 Tryz.func122 (.n 3 (.j [(0, .str),(2, .po 15),(4, .po 15)] [] (fun t=>zhG t.1 t.2.2) .e (.n 1 (.j [(0, .str),(2, .po 15),(4, .po 15)] [] (fun t=>zhF t.1 t.2.2) .e (.n 1 (.j [(0, .str),(2, .po 15),(4, .po 15)] [] (fun t=>zhD t.1 t.2.2) (.j [(0, .str),(2, .po 15),(4, .po 15),(7, .int),(57, .bool)] [] (fun t=>zhE t.1 t.2.2.1 t.2.2.2.1 t.2.2.2.2) .e .e) (.j [(0, .str),(2, .po 15),(4, .po 15)] [] (fun t=>zhC t.1 t.2.2) (.j [(0, .str),(2, .po 15),(4, .po 15),(73, .bool)] [] (fun t=>zj8 t.1 t.2.2.1 t.2.2.2) .e .e) .e)))))))
-- doorstep/doorstepref30.Check
theorem zBL:za 77 zES:=cqG (CLs.nil.add zBK) 49 Tryz.func77 (.n 1 (.q (.n 1 (.w [(0, .sl (.st 1)),(3, .int)] [] (fun m t=>zhH t.1 m t.2) fun n0 => .e)) .e))
-- doorstep/doorstepref39.Check
theorem zBM:za 48 zET:=cqG ((((CLs.nil.add zBL).add zBG).add zui).add zEb) 51 Tryz.func48 (.n 4 (.q (.j [(1, .po 5),(4, .int),(27, .bool)] [] (fun t=>zj9 t.1 t.2.1 t.2.2) .e .e) (.q (.j [(1, .po 5),(41, .bool)] [] (fun t=>zhI t.1 t.2) .e .e) .e)))
-- doorstep/doorstepref12.values
theorem zAe:za 262 zCq:=cqG (CLs.nil.add zoU) 15 Tryz.func262 (.n 1 (.q (.n 1 (.w [(0, .str),(3, .int)] [] (fun m t=>zgN t.1 m t.2) fun n0 => .e)) .e))
-- doorstep/doorstepref01.Blank
theorem zBN:za 333 zwf:=cqG CLs.nil 9 Tryz.func333 .e
-- doorstep/doorstepref06.Trim
theorem zEd:za 263 zG7:=cqG (CLs.nil.add zBN) 30 Tryz.func263 (.n 1 (.q (.w [(0, .str)] [] (fun m t=>zfb m t) fun n0 => .q (.j [(0, .str),(10, .bool)] [] (fun t=>zlr (zfb n0) t.1 t.2) .e .e) .e) (.q (.w [(0, .str)] [] (fun m t=>zfa m t) fun n1 => .q (.j [(0, .str),(23, .bool)] [] (fun t=>zlq (zfa n1) t.1 t.2) .e .e) .e) .e)))
-- doorstep/doorstepref12.Check
theorem zBO:za 180 zEU:=cqG (((CLs.nil.add zEd).add zAe).add ziZ) 19 Tryz.func180 .e
-- doorstep/doorstepref32.guard
theorem zBP:za 123 zEV:=cqG ((CLs.nil.add ziZ).add zBO) 42 Tryz.func123 .e
-- doorstep/doorstepref01.Fold
theorem zvY:za 182 zG8:=cqG CLs.nil 36 Tryz.func182 (.n 2 (.q (.n 1 (.w [(0, .str),(3, .str),(4, .int)] [] (fun m t=>zg4 t.1 m t.2.1 t.2.2) fun n0 => .n 1 (.q (.n 1 (.q (.n 1 (.w [(0, .str),(3, .str),(4, .int),(5, .str),(6, .int)] [] (fun m t=>zfc (zg4 t.1 n0) t.1 t.2.1 t.2.2.1 m t.2.2.2.1 t.2.2.2.2) fun n1 => .e)) .e)) .e))) .e))
-- doorstep/doorstepref24.Fixed
theorem zBQ:za 183 zEW:=cqG (CLs.nil.add zvY) 14 Tryz.func183 .e
-- doorstep/doorstepref32.Kept
theorem zEe:za 125 zG9:=cqG ((CLs.nil.add zBQ).add zvY) 12 Tryz.func125 .e
-- doorstep/doorstepref32.Known
theorem zBR:za 126 zEX:=cqG CLs.nil 9 Tryz.func126 .e
-- doorstep/doorstepref31.Names
theorem zBS:za 127 zEY:=cqG CLs.nil 49 Tryz.func127 (.n 2 (.q (.n 1 (.w [(0, .sl (.st 3)),(3, .so 9 .str),(4, .int)] [] (fun m t=>zfM t.1 m t.2.1 t.2.2) fun n0 => .n 1 (.q (.n 1 (.q (.n 1 (.w [(0, .sl (.st 3)),(3, .so 9 .str),(4, .int),(5, .bool),(6, .int)] [] (fun m t=>zfL (zfM t.1 n0) t.1 t.2.1 t.2.2.1 m t.2.2.2.1 t.2.2.2.2) fun n1 => .e)) .e)) .e))) .e))
-- doorstep/doorstepref31.one
theorem zGB:za 264 zI3:=cqG (((CLs.nil.add zfn).add ziZ).add zoU) 85 Tryz.func264 (.n 2 (.q (.j [(0, .str),(2, .po 3),(25, .bool)] [] (fun t=>zmV t.1 t.2.2) .e .e) (.n 1 (.q (.w [(0, .str),(2, .po 3),(4, .int)] [] (fun m t=>zgk t.1 m t.2.2) fun n0 => .q (.j [(0, .str),(2, .po 3),(4, .int),(36, .bool)] [] (fun t=>zmU (zgk t.1 n0) t.1 t.2.2.1 t.2.2.2) .e .e) .e) (.n 3 (.q (.n 1 (.w [(2, .po 3),(4, .int),(5, .str),(6, .int)] [] (fun m t=>zka t.2.1 t.2.2.1 m t.2.2.2) fun n1 => .e)) .e))))))
-- doorstep/doorstepref31.Parse
theorem zBT:za 184 zEZ:=cqG (CLs.nil.add zGB) 58 Tryz.func184 (.n 2 (.q (.w [(0, .str),(4, .so 109 (.st 3))] [] (fun m t=>zc5 m t.1 t.2) fun n0 => .n 5 (.j [(0, .str),(4, .so 109 (.st 3)),(5, .po 3),(7, .int),(37, .bool)] [] (fun t=>zhJ (zc5 n0) t.1 t.2.1 t.2.2.1 t.2.2.2.1 t.2.2.2.2) .e .e)) .e))
-- doorstep/doorstepref31.Same
theorem zEf:za 185 zHa:=cqG CLs.nil 26 Tryz.func185 (.n 2 (.q (.n 1 (.w [(0, .sl (.st 3)),(1, .sl (.st 3)),(5, .int)] [] (fun m t=>ziO t.1 t.2.1 m t.2.2) fun n0 => .e)) .e))
-- doorstep/doorstepref31.Text
theorem zEg:za 128 zHb:=cqG ((CLs.nil.add zEf).add zBT) 89 Tryz.func128 (.n 2 (.q (.n 1 (.w [(0, .sl (.st 3)),(4, .str),(5, .int)] [] (fun m t=>zb2 t.1 m t.2.1 t.2.2) fun n0 => .n 1 (.q (.n 2 (.q (.n 1 (.w [(0, .sl (.st 3)),(4, .str),(5, .int),(6, .int)] [] (fun m t=>zfd (zb2 t.1 n0) t.1 t.2.2.1 m t.2.1 t.2.2.2) fun n1 => .n 1 (.q (.j [(0, .sl (.st 3)),(4, .str),(5, .int),(6, .int)] [] (fun t=>zls (zfd (zb2 t.1 n0) t.1 t.2.2.1 n1) t.1 t.2.1 t.2.2.1 t.2.2.2) .e .e) .e))) .e)) .e))) .e))
-- doorstep/doorstepref32.Check
theorem zBU:za 78 zE0:=cqG ((((((CLs.nil.add zEg).add zBS).add zBR).add zEe).add ziZ).add zBP) 126 Tryz.func78 (.n 1 (.j [(1, .po 2),(3, .bool)] [] (fun t=>zbA t.1 t.2) .e (.n 2 (.q (.n 1 (.w [(1, .po 2),(3, .bool),(4, .so 9 .str),(5, .so 9 .str),(6, .int)] [] (fun m t=>zfO t.1 t.2.2.1 t.2.2.2.1 m t.2.1 t.2.2.2.2) fun n0 => .n 1 (.q (.n 1 (.q (.n 1 (.w [(1, .po 2),(3, .bool),(4, .so 9 .str),(5, .so 9 .str),(6, .int),(7, .bool),(8, .int)] [] (fun m t=>zfN (zfO t.1 t.2.2.1 t.2.2.2.1 n0) t.2.1 t.2.2.1 t.2.2.2.1 t.2.2.2.2.1 m t.2.2.2.2.2.1 t.2.2.2.2.2.2) fun n1 => .e)) .e)) .e))) (.n 1 (.q (.n 1 (.j [(1, .po 2),(3, .bool),(10, .int),(76, .int),(77, .bool)] [] (fun t=>zkb t.1 t.2.1 t.2.2.1 t.2.2.2.1 t.2.2.2.2) .e .e)) .e))))))
-- doorstep/doorstepref35.Check
theorem zBV:za 49 zE1:=cqG (CLs.nil.add zBU) 21 Tryz.func49 (.n 1 (.q (.n 1 (.w [(0, .sl (.st 2)),(4, .int)] [] (fun m t=>zhK t.1 m t.2) fun n0 => .e)) .e))
-- doorstep/doorstepref44.Check
theorem zBW:za 23 zE2:=cqG ((CLs.nil.add zBV).add zBM) 48 Tryz.func23 .e
-- doorstep/doorstepref46.Check
theorem zBX:za 7 zE3:=cqG ((CLs.nil.add zBW).add zBB) 22 Tryz.func7 (.n 2 (.q (.j [(3, .int),(20, .bool)] [] (fun t=>zhL t.1 t.2) .e .e) .e))
-- (*doorstep/gateway.Gateway).Closed
theorem zi0:za 25 zpM:=cqG CLs.nil 11 Tryz.func25 .e
-- (*doorstep/wire.Wire).Result
theorem zuP:za 8 zwg:=cqG (CLs.nil.add zi0) 38 Tryz.func8 .e
-- (*doorstep/wire.Wire).Left
theorem zw8:COk Tryz.prog G 9 zyE:=zp5 zyR hNm tyk CLs.nil (.lf 26 (fnS Tryz.func26)) 16 60 Tryz.func9 (by kernel_rfl) (hn := .e) (by unfold zsh opJ zxI; kernel_rfl)
-- doorstep/events.Check
theorem znG:za 13 zCr:=cqG CLs.nil 22 Tryz.func13 (.n 1 (.q (.n 1 (.j [(1, .po 4),(4, .int),(5, .bool)] [] (fun t=>zgO t.1 t.2.1 t.2.2) .e .e)) .e))
-- (*doorstep/accum.Accum).Empty
theorem zmA:za 96 zu3:=cqG CLs.nil 12 Tryz.func96 .e
-- (*doorstep/accum.Accum).Empty
theorem zkU:za 96 zsT:=cqG CLs.nil 12 Tryz.func96 .e
-- (*doorstep/gateway.side).idle
theorem ztM:za 59 zu4:=cqG ((CLs.nil.add zkU).add zmA) 15 Tryz.func59 .e
-- (*doorstep/pairing.Queue).Full
theorem zsD:za 60 ztR:=cqG CLs.nil 12 Tryz.func60 .e
-- (*doorstep/pairing.row[doorstep/pairing.Ticket]).room
theorem zuQ:za 97 zwh:=cqG CLs.nil 13 Tryz.func97 .e
-- (*doorstep/pairing.Queue).Full
theorem zqS:za 60 zrH:=cqG (CLs.nil.add zuQ) 12 Tryz.func60 .e
-- (*doorstep/gateway.Gateway).reads
theorem zpF:za 40 zq3:=cqG (((CLs.nil.add zqS).add zsD).add ztM) 30 Tryz.func40 .e
-- (*doorstep/accum.Accum).Feed
theorem zjz:za 61 zwi:=cqG CLs.nil 72 Tryz.func61 .e
-- doorstep/reply.Code
theorem zvZ:za 99 zHc:=cqG CLs.nil 8 Tryz.func99 .e
-- (*doorstep/accum.Accum).Head
theorem zgC:za 100 zwj:=cqG CLs.nil 25 Tryz.func100 .e
-- doorstep/bag.New
theorem zeO:za 243 zNS:=cqG (CLs.nil.add zoE) 7 Tryz.func243 .e
-- (*doorstep/bag.Bag).List
theorem zcj:za 314 zCs:=cqG (CLs.nil.add zoE) 10 Tryz.func314 .e
-- doorstep/octet.Same
theorem zdV:za 328 zHd:=cqG (CLs.nil.add zdU) 10 Tryz.func328 .e
-- (*doorstep/bag.Bag).Values
theorem zf3:za 244 zyF:=cqG ((CLs.nil.add zdV).add zcj) 26 Tryz.func244 (.n 2 (.q (.n 1 (.w [(1, .str),(5, .so 9 .str),(9, .so 225 (.st 20)),(10, .int),(11, .int)] [] (fun m t=>zdf t.1 t.2.2.1 t.2.2.2.1 m t.2.1 t.2.2.2.2) fun n0 => .e)) .e))
-- (*doorstep/scan.Scanner).Back
theorem zrC:za 452 zsU:=cqG (CLs.nil.add ze6) 19 Tryz.func452 .e
-- (*doorstep/commas.splitter).end
theorem zjP:za 391 zq4:=cqG ((CLs.nil.add ze6).add zf0) 36 Tryz.func391 (.j [(9000, .po 37)] [(0,9000)] (fun t=>zcZ t) .e .e)
-- (*doorstep/commas.splitter).comment
theorem zm6:za 428 znJ:=cqG ((CLs.nil.add zy).add zcp) 52 Tryz.func428 (.n 1 (.q (.n 1 (.w [(9000, .po 37),(3, .int)] [(0,9000)] (fun m t=>zD m t.1 t.2) fun n0 => .e)) .e))
-- doorstep/quoted.Read
theorem zrq:COk Tryz.prog G 429 zAB:=zp5 zyR hNm tyk (((((CLs.nil.add zrC).add zrp).add zcp).add zy).add ze6) (.lf 451 (fnS Tryz.func451)) 41 60 Tryz.func429 (by kernel_rfl) (hn := .n 4 (.q (.w [(4, .int),(5, .po 38),(6, .bool)] [(9000,100005)] (fun m t=>zcL t.1 m t.2.1 t.2.2) fun n0 => .q (.j [(4, .int),(5, .po 38),(6, .bool),(25, .bool)] [(9000,100005)] (fun t=>zih (zcL t.1 n0) t.1 t.2.1 t.2.2.1 t.2.2.2) .e .e) .e) .e)) (by unfold zsh opJ zxI; kernel_rfl)
-- (*doorstep/commas.splitter).step
theorem zoV:za 390 zpN:=cqG ((((((CLs.nil.add zrq).add zcp).add zm6).add zjP).add zy).add ze6) 55 Tryz.func390 .e
-- doorstep/commas.Split
theorem zsE:za 354 zCt:=cqG ((((CLs.nil.add zjP).add zoV).add zbl).add zgB) 27 Tryz.func354 (.n 2 (.q (.w [(0, .str),(4, .po 37)] [] (fun m t=>zgQ t.1 m t.2) fun n0 => .e) .e))
-- doorstep/commas.Tokens
theorem zmq:za 329 zAC:=cqG ((CLs.nil.add zfm).add zsE) 40 Tryz.func329 (.n 2 (.q (.n 1 (.w [(4, .so 9 .str),(11, .sl .str),(12, .int),(13, .int)] [] (fun m t=>zd6 t.2.1 t.2.2.1 m t.1 t.2.2.2) fun n0 => .n 2 (.q (.n 3 (.q (.n 1 (.w [(4, .so 9 .str),(7, .so 9 .str),(11, .sl .str),(12, .int),(13, .int),(26, .int),(27, .int)] [(25,7)] (fun m t=>zfR (zd6 t.2.2.1 t.2.2.2.1 n0) t.1 t.2.1 t.2.2.2.2.1 t.2.2.2.2.2.1 m t.2.2.2.2.2.2) fun n1 => .e)) .e)) .e))) .e))
-- (doorstep/length.reader).coding
theorem zqT:za 307 zrI:=cqG ((CLs.nil.add zdV).add zmq) 34 Tryz.func307 .e
-- (doorstep/length.reader).lengths
theorem zpG:za 308 zq5:=cqG ((CLs.nil.add zhm).add zsE) 60 Tryz.func308 (.n 2 (.q (.n 1 (.w [(9032, .po 35),(4, .po 34),(6, .int),(15, .sl .str),(16, .int),(17, .int)] [] (fun m t=>zah t.1 t.2.2.2.1 t.2.2.2.2.1 m t.2.2.1 t.2.2.2.2.2) fun n0 => .n 2 (.q (.n 4 (.w [(9032, .po 35),(4, .po 34),(6, .int),(15, .sl .str),(16, .int),(17, .int),(29, .so 9 .str),(30, .int),(31, .int)] [] (fun m t=>zW (zah t.1 t.2.2.2.1 t.2.2.2.2.1 n0) t.1 t.2.2.2.2.2.1 t.2.2.2.2.2.2.1 t.2.2.2.2.2.2.2.1 m t.2.2.1 t.2.2.2.2.2.2.2.2) fun n1 => .n 2 (.q (.n 2 (.q (.j [(9032, .po 35),(4, .po 34),(13, .int),(15, .sl .str),(16, .int),(17, .int),(29, .so 9 .str),(30, .int),(31, .int),(50, .bool)] [] (fun t=>zbB (zW (zah t.1 t.2.2.2.1 t.2.2.2.2.1 n0) t.1 t.2.2.2.2.2.1 t.2.2.2.2.2.2.1 t.2.2.2.2.2.2.2.1 n1) t.1 t.2.2.1 t.2.2.2.2.2.2.2.2.1 t.2.2.2.2.2.2.2.2.2) .e .e) .e)) .e))) .e))) .e))
-- doorstep/length.of
theorem zxP:za 227 zI4:=cqG ((((CLs.nil.add zpG).add zqT).add zf3).add zeO) 51 Tryz.func227 (.n 3 (.q (.j [(1, .int),(4, .po 34),(6, .po 36),(7, .so 9 .str),(8, .so 9 .str),(21, .bool)] [] (fun t=>zmW t.1 t.2.2.1 t.2.2.2.1 t.2.2.2.2.1 t.2.2.2.2.2) .e .e) .e))
-- doorstep/length.Request
theorem zlf:za 151 zyG:=cqG (CLs.nil.add zxP) 8 Tryz.func151 .e
-- doorstep/hop.Nominated
theorem zyo:za 356 zAD:=cqG (((((CLs.nil.add zO).add zdU).add zmq).add zf3).add zeO) 47 Tryz.func356 (.n 2 (.q (.n 1 (.w [(3, .so 9 .str),(12, .so 9 .str),(13, .int),(14, .int)] [] (fun m t=>zcN t.2.1 t.2.2.1 m t.1 t.2.2.2) fun n0 => .n 2 (.q (.n 3 (.w [(3, .so 9 .str),(12, .so 9 .str),(13, .int),(14, .int),(24, .so 9 .str),(25, .int),(26, .int)] [] (fun m t=>zcM (zcN t.2.1 t.2.2.1 n0) t.2.2.2.1 t.2.2.2.2.1 t.2.2.2.2.2.1 m t.1 t.2.2.2.2.2.2) fun n1 => .n 2 (.q (.n 2 (.j [(3, .so 9 .str),(9, .str),(12, .so 9 .str),(13, .int),(14, .int),(24, .so 9 .str),(25, .int),(26, .int),(39, .bool)] [] (fun t=>zii (zcM (zcN t.2.2.1 t.2.2.2.1 n0) t.2.2.2.2.1 t.2.2.2.2.2.1 t.2.2.2.2.2.2.1 n1) t.1 t.2.1 t.2.2.2.2.2.2.2.1 t.2.2.2.2.2.2.2.2) .e .e)) .e))) .e))) .e))
-- doorstep/bag.one$1
theorem zGC:za 431 zI5:=cqG (CLs.nil.add zdV) 7 Tryz.func431 .e
-- slices.IndexFunc[[]string,string]
theorem zjA:za 453 zjS:=cqG (CLs.nil.add zGC) 19 Tryz.func453 (.n 1 (.q (.n 1 (.w [(0, .sl .str),(1, .cl 431 (.pt 40)),(7, .int),(8, .int)] [] (fun m t=>zC t.1 t.2.1 t.2.2.1 m t.2.2.2) fun n0 => .e)) .e))
-- slices.ContainsFunc[[]string,string]
theorem ziA:za 430 ziI:=cqG (CLs.nil.add zjA) 9 Tryz.func430 .e
-- doorstep/bag.one
theorem zKX:za 394 zNT:=cqG (CLs.nil.add ziA) 8 Tryz.func394 .e
-- (*doorstep/bag.Bag).Remove$1
theorem znH:za 393 zwk:=cqG (CLs.nil.add zKX) 8 Tryz.func393 .e
-- slices.IndexFunc[[]doorstep/api.Field,doorstep/api.Field]
theorem zhb:za 397 zho:=cqG (CLs.nil.add znH) 19 Tryz.func397 (.n 1 (.q (.n 1 (.w [(0, .sl (.st 20)),(1, .cl 393 (.pt 39)),(7, .int),(8, .int)] [] (fun m t=>zn t.1 t.2.1 t.2.2.1 m t.2.2.2) fun n0 => .e)) .e))
-- slices.DeleteFunc[[]doorstep/api.Field,doorstep/api.Field]
theorem zf5:za 392 zgE:=cqG ((CLs.nil.add znH).add zhb) 42 Tryz.func392 (.n 3 (.q (.n 1 (.w [(0, .so 225 (.st 20)),(1, .cl 393 (.pt 39)),(5, .int),(6, .int)] [] (fun m t=>zk t.2.1 m t.1 t.2.2.1 t.2.2.2) fun n0 => .e)) .e))
-- (*doorstep/bag.Bag).Remove
theorem zjB:za 355 zwl:=cqG (CLs.nil.add zf5) 29 Tryz.func355 .e
-- doorstep/hop.Strip
theorem zGD:za 309 zI6:=cqG (((((CLs.nil.add zcj).add zjB).add zxL).add zyo).add zeO) 14 Tryz.func309 .e
-- doorstep/pathq.of
theorem zAf:za 411 zK8:=cqG (((CLs.nil.add zby).add zdA).add zsz) 49 Tryz.func411 (.n 1 (.q (.n 1 (.w [(0, .str),(1, .str),(5, .int)] [] (fun m t=>zd1 t.1 t.2.1 m t.2.2) fun n0 => .n 1 (.q (.n 1 (.q .e (.j [(0, .str),(1, .str),(5, .int),(25, .bool)] [] (fun t=>zl4 (zd1 t.1 t.2.1 n0) t.2.2.1 t.2.2.2) .e .e))) .e))) .e))
-- doorstep/pathq.Path
theorem zEh:za 367 zHe:=cqG ((CLs.nil.add zAf).add zdC) 9 Tryz.func367 .e
-- doorstep/pathq.Query
theorem zBY:za 368 zE4:=cqG (CLs.nil.add zAf) 5 Tryz.func368 .e
-- doorstep/pathq.Cut
theorem zxQ:za 319 zI7:=cqG (((CLs.nil.add zBY).add zEh).add zlN) 23 Tryz.func319 .e
-- doorstep/target.tail
theorem zuk:za 396 zE5:=cqG (CLs.nil.add zxQ) 32 Tryz.func396 (.n 4 (.j [(1, .str),(2, .po 41),(4, .po 41),(7, .bool)] [] (fun t=>zke t.1 t.2.1 t.2.2.2) .e (.n 1 (.j [(2, .po 41),(4, .po 41),(6, .int)] [] (fun t=>zkd t.1 t.2.2) .e .e))))
-- doorstep/target.absolute
theorem zv0:za 395 zxk:=cqG (((((CLs.nil.add zuk).add zea).add zjx).add zdU).add zlN) 58 Tryz.func395 (.n 3 (.q (.j [(2, .po 41),(5, .str),(7, .po 41),(31, .bool)] [] (fun t=>zem t.2.1 t.2.2.1 t.2.2.2) .e .e) (.n 1 (.j [(2, .po 41),(5, .str),(7, .po 41),(8, .int)] [] (fun t=>zgm t.2.1 t.2.2.1 t.2.2.2) .e .e))))
-- doorstep/target.of
theorem zGE:za 357 zI8:=cqG (((CLs.nil.add zuk).add zv0).add zdC) 28 Tryz.func357 .e
-- doorstep/target.Parse
theorem zsF:za 310 zCu:=cqG ((CLs.nil.add zGE).add zea) 37 Tryz.func310 (.n 1 (.q (.n 1 (.q (.n 1 (.q (.j [(4, .po 41),(6, .po 14),(23, .bool)] [] (fun t=>zi9 t.2.1 t.2.2) .e .e) .e)) .e)) .e))
-- doorstep/pathq.Join
theorem zEi:za 358 zHf:=cqG CLs.nil 14 Tryz.func358 .e
-- doorstep/target.Origin
theorem zyp:za 311 zAE:=cqG (CLs.nil.add zEi) 20 Tryz.func311 (.n 3 (.j [(1, .po 41),(3, .str)] [] (fun t=>zij t.1 t.2) .e .e))
-- doorstep/hostport.Text
theorem zyq:za 359 zAF:=cqG (((CLs.nil.add zea).add zbK).add zf1) 41 Tryz.func359 (.n 2 (.j [(1, .po 14),(4, .so 9 .str)] [] (fun t=>zil t.1 t.2) .e (.j [(1, .po 14),(4, .so 9 .str)] [] (fun t=>zik t.1 t.2) .e .e)))
-- (*doorstep/bag.Bag).Put$1
theorem zyr:za 398 zAG:=cqG (CLs.nil.add zdV) 8 Tryz.func398 .e
-- slices.IndexFunc[[]doorstep/api.Field,doorstep/api.Field]
theorem zgD:za 397 zgZ:=cqG (CLs.nil.add zyr) 19 Tryz.func397 (.n 1 (.q (.n 1 (.w [(0, .sl (.st 20)),(1, .cl 398 (.pt 40)),(7, .int),(8, .int)] [] (fun m t=>zm t.1 t.2.1 t.2.2.1 m t.2.2.2) fun n0 => .e)) .e))
-- (*doorstep/bag.Bag).Get
theorem zoW:za 361 zE6:=cqG (CLs.nil.add zf3) 16 Tryz.func361 .e
-- (*doorstep/bag.Bag).Add
theorem zjn:za 362 zAH:=cqG CLs.nil 15 Tryz.func362 .e
-- (*doorstep/bag.Bag).Put
theorem zrr:za 360 zAI:=cqG ((((CLs.nil.add ztK).add zjB).add zjn).add zgD) 40 Tryz.func360 .e
-- (*doorstep/stage.worker).host
theorem zrD:za 312 zsV:=cqG ((((CLs.nil.add zjn).add zoW).add zrr).add zyq) 44 Tryz.func312 (.n 1 (.j [(9000, .po 42),(4, .po 5)] [(0,9000)] (fun t=>zdJ t.1 t.2) .e .e))
-- (*doorstep/stage.worker).done
theorem zkV:za 315 zsW:=cqG (CLs.nil.add zcj) 17 Tryz.func315 .e
-- strings.HasSuffix
theorem zmB:za 434 zu5:=cqG (CLs.nil.add zjO) 8 Tryz.func434 .e
-- doorstep/uriref.Swap
theorem zBZ:za 400 zE7:=cqG (((CLs.nil.add zdA).add zmB).add ziH) 49 Tryz.func400 (.n 1 (.q (.n 1 (.w [(0, .str),(10, .sl (.st 1)),(11, .int),(12, .int)] [] (fun m t=>zen t.1 t.2.1 t.2.2.1 m t.2.2.2) fun n0 => .e)) .e))
-- doorstep/location.Rewrite
theorem zuR:za 363 zwm:=cqG ((CLs.nil.add zue).add zBZ) 27 Tryz.func363 .e
-- doorstep/cookie.part$1
theorem zB0:za 435 zE8:=cqG (((((((CLs.nil.add zby).add zbl).add zU).add zy).add zaG).add zgB).add zf0) 45 Tryz.func435 (.n 4 (.j [(2, .po 43),(4, .po 12),(6, .bool),(7, .po 43)] [] (fun t=>zkg t.2.1 t.2.2.1 t.2.2.2) .e .e))
-- doorstep/cookie.plain
theorem zAg:za 436 zCw:=cqG (((CLs.nil.add zby).add zmz).add ziH) 24 Tryz.func436 .e
-- doorstep/cookie.Parse
theorem zsG:za 401 zCx:=cqG (((CLs.nil.add zAg).add zB0).add zmn) 63 Tryz.func401 (.n 5 (.q (.n 1 (.w [(2, .po 45),(7, .po 45),(41, .sl .str),(42, .int),(43, .int)] [] (fun m t=>zgR t.2.2.1 t.2.2.2.1 m t.2.1 t.2.2.2.2) fun n0 => .e)) .e))
-- doorstep/cookie.last
theorem zul:za 437 zE9:=cqG (CLs.nil.add zdV) 23 Tryz.func437 (.n 1 (.q (.n 1 (.w [(1, .str),(2, .po 44),(5, .int)] [] (fun m t=>zhO t.1 t.2.1 m t.2.2) fun n0 => .e)) .e))
-- doorstep/cookie.Get
theorem zEj:za 402 zHg:=cqG (CLs.nil.add zul) 18 Tryz.func402 .e
-- internal/stringslite.TrimPrefix
theorem zoX:za 457 zpO:=cqG (CLs.nil.add zf2) 13 Tryz.func457 .e
-- strings.TrimPrefix
theorem zsH:za 438 ztS:=cqG (CLs.nil.add zoX) 8 Tryz.func438 .e
-- doorstep/hostport.Under
theorem zw9:za 439 zyH:=cqG ((((CLs.nil.add zmB).add zdU).add zeN).add zmp) 36 Tryz.func439 .e
-- doorstep/domains.Map
theorem zB1:za 403 zFa:=cqG ((CLs.nil.add zw9).add zsH) 34 Tryz.func403 (.n 2 (.q (.n 1 (.w [(0, .str),(6, .str),(11, .sl (.st 1)),(12, .int),(13, .int)] [] (fun m t=>zhP t.1 t.2.1 t.2.2.1 t.2.2.2.1 m t.2.2.2.2) fun n0 => .e)) .e))
-- doorstep/cookie.Set
theorem zEk:za 405 zHh:=cqG ((CLs.nil.add zdV).add zul) 55 Tryz.func405 (.n 3 (.q (.n 1 (.w [(1, .str),(2, .str),(6, .po 45),(7, .int),(8, .po 45),(20, .sl (.st 43)),(21, .int),(22, .int)] [] (fun m t=>zc0 t.1 t.2.1 t.2.2.2.1 t.2.2.2.2.2.1 t.2.2.2.2.2.2.1 m t.2.2.2.2.1 t.2.2.2.2.2.2.2) fun n0 => .n 2 (.j [(1, .str),(2, .str),(6, .po 45),(7, .int),(8, .po 45),(20, .sl (.st 43)),(21, .int),(22, .int)] [] (fun t=>zlw (zc0 t.1 t.2.1 t.2.2.2.1 t.2.2.2.2.2.1 t.2.2.2.2.2.2.1 n0) t.2.2.2.2.1 t.2.2.2.2.2.2.2) (.n 1 (.j [(1, .str),(2, .str),(6, .po 45),(7, .int),(8, .po 45),(10, .po 43),(20, .sl (.st 43)),(21, .int),(22, .int)] [] (fun t=>zlx (zc0 t.1 t.2.1 t.2.2.2.1 t.2.2.2.2.2.2.1 t.2.2.2.2.2.2.2.1 n0) t.2.2.2.2.1 t.2.2.2.2.2.1 t.2.2.2.2.2.2.2.2) .e .e)) .e))) (.j [(6, .po 45),(8, .po 45)] [] (fun t=>zly t.2) .e .e)))
-- slices.Equal[[]doorstep/api.Attr,doorstep/api.Attr]
theorem zjC:za 458 zjT:=cqG CLs.nil 26 Tryz.func458 (.n 2 (.q (.n 1 (.w [(0, .sl (.st 43)),(1, .sl (.st 43)),(12, .int),(13, .int)] [] (fun m t=>zY t.1 t.2.1 t.2.2.1 m t.2.2.2) fun n0 => .e)) .e))
-- doorstep/cookie.Same
theorem zB2:za 440 zFb:=cqG (CLs.nil.add zjC) 24 Tryz.func440 .e
-- doorstep/cookie.Text
theorem zB3:za 404 zFc:=cqG (((CLs.nil.add zB2).add zsG).add zbK) 57 Tryz.func404 (.n 2 (.q (.n 1 (.w [(1, .po 44),(4, .so 9 .str),(18, .sl (.st 43)),(19, .int),(20, .int)] [] (fun m t=>zfS t.1 t.2.2.1 t.2.2.2.1 m t.2.1 t.2.2.2.2) fun n0 => .e)) .e))
-- doorstep/domains.Rewrite
theorem zv1:za 364 zxl:=cqG (((((CLs.nil.add zB3).add zEk).add zB1).add zEj).add zsG) 45 Tryz.func364 .e
-- doorstep/location.Fields
theorem zv2:za 313 zxm:=cqG (((CLs.nil.add zv1).add zuR).add zdU) 46 Tryz.func313 (.n 2 (.q (.n 1 (.w [(2, .po 5),(5, .so 225 (.st 20)),(12, .int),(13, .int)] [(11,5)] (fun m t=>zbM t.2.2.1 m t.1 t.2.1 t.2.2.2) fun n0 => .n 2 (.q (.n 2 (.j [(2, .po 5),(5, .so 225 (.st 20)),(6, .int),(7, .po 20),(12, .int),(13, .int),(20, .str),(21, .bool)] [(11,5)] (fun t=>zgn (zbM t.2.2.2.2.1 n0) t.1 t.2.1 t.2.2.1 t.2.2.2.1 t.2.2.2.2.2.1 t.2.2.2.2.2.2.1 t.2.2.2.2.2.2.2) .e .e)) .e))) .e))
-- doorstep/stage.Strip
theorem zB4:za 228 zFd:=cqG ((((((((CLs.nil.add zv2).add zcj).add zkV).add zrD).add zyp).add zsF).add zeO).add zGD) 68 Tryz.func228 .e
-- doorstep/stage.Known$1
theorem zys:za 318 zAK:=cqG CLs.nil 8 Tryz.func318 .e
-- doorstep/stage.Known
theorem zB5:za 230 zFe:=cqG (((CLs.nil.add zf1).add zxQ).add zys) 59 Tryz.func230 .e
-- doorstep/rule.Writes
theorem zB6:za 441 zFf:=cqG (CLs.nil.add zdU) 18 Tryz.func441 .e
-- doorstep/compile.run
theorem zB7:za 406 zFg:=cqG (((CLs.nil.add zO).add zdU).add zB6) 38 Tryz.func406 (.n 3 (.q (.w [(0, .sl (.st 2)),(3, .po 25),(4, .int)] [] (fun m t=>zc6 t.1 t.2.1 m t.2.2) fun n0 => .q (.j [(0, .sl (.st 2)),(3, .po 25),(4, .int),(34, .bool)] [] (fun t=>zhQ (zc6 t.1 t.2.1 n0) t.2.2.1 t.2.2.2) .e .e) .e) .e))
-- doorstep/compile.guard
theorem zyt:za 407 zAL:=cqG CLs.nil 25 Tryz.func407 .e
-- doorstep/compile.Own
theorem zB8:za 442 zFh:=cqG (CLs.nil.add zla) 34 Tryz.func442 .e
-- (*doorstep/compile.compiler).put
theorem zoY:za 408 zpP:=cqG (CLs.nil.add zB8) 24 Tryz.func408 (.n 1 (.w [(9000, .po 48),(6, .sl (.st 2)),(7, .int),(8, .int)] [(0,9000)] (fun m t=>zbp t.2.1 t.2.2.1 m t.1 t.2.2.2) fun n0 => .e))
-- (*doorstep/compile.compiler).all
theorem zoZ:za 365 zpQ:=cqG (((CLs.nil.add zoY).add zyt).add zB7) 38 Tryz.func365 (.w [(9000, .po 48),(1, .sl (.st 2))] [(0,9000)] (fun m t=>zaa m t.1 t.2) fun n0 => .n 2 (.j [(9000, .po 48),(1, .sl (.st 2)),(4, .int)] [(0,9000)] (fun t=>zcv (zaa n0) t.1 t.2.1 t.2.2) .e .e))
-- doorstep/compile.Compile
theorem zv3:za 316 zxn:=cqG ((CLs.nil.add zoZ).add zoS) 50 Tryz.func316 (.n 1 (.q (.j [(0, .int),(1, .sl (.st 2)),(17, .bool)] [] (fun t=>zgo t.1 t.2.1 t.2.2) .e .e) (.n 2 (.q (.n 1 (.w [(0, .int),(8, .so 88 (.st 2)),(26, .sl (.st 2)),(27, .int),(28, .int)] [] (fun m t=>zcQ t.1 t.2.2.1 t.2.2.2.1 m t.2.1 t.2.2.2.2) fun n0 => .e)) .e))))
-- (*doorstep/machine.machine).skips
theorem zpH:za 409 zq6:=cqG (CLs.nil.add zoW) 36 Tryz.func409 .e
-- doorstep/tmpl.find
theorem zGF:za 461 zI9:=cqG CLs.nil 20 Tryz.func461 (.n 1 (.q (.n 1 (.w [(1, .str),(7, .sl (.st 46)),(8, .int),(9, .int)] [] (fun m t=>zkj t.1 t.2.1 t.2.2.1 m t.2.2.2) fun n0 => .e)) .e))
-- doorstep/tmpl.clean
theorem zEl:za 462 zHi:=cqG ((CLs.nil.add zf0).add zrp) 29 Tryz.func462 (.n 2 (.q (.n 1 (.w [(0, .str),(3, .so 5 .u8),(4, .int)] [] (fun m t=>zff t.1 m t.2.1 t.2.2) fun n0 => .q (.j [(0, .str),(3, .so 5 .u8),(4, .int),(13, .bool)] [] (fun t=>zlA (zff t.1 n0) t.1 t.2.1 t.2.2.1 t.2.2.2) .e .e) .e)) .e))
-- doorstep/tmpl.Eval
theorem zGG:za 459 zJa:=cqG (((((CLs.nil.add zEl).add zbK).add zoW).add zGF).add zeO) 56 Tryz.func459 (.n 3 (.q (.n 1 (.w [(0, .sl (.st 46)),(7, .po 35),(8, .so 9 .str),(15, .sl (.st 3)),(16, .int),(17, .int)] [] (fun m t=>zeV t.1 t.2.1 t.2.2.2.1 t.2.2.2.2.1 m t.2.2.1 t.2.2.2.2.2) fun n0 => .e)) .e))
-- (*doorstep/machine.machine).value
theorem zpI:za 443 zq7:=cqG ((CLs.nil.add zGG).add zcj) 16 Tryz.func443 .e
-- (*doorstep/bag.Bag).Rename
theorem zuS:za 444 zwn:=cqG (CLs.nil.add zdV) 41 Tryz.func444 (.n 3 (.q (.n 1 (.w [(9000, .po 35),(1, .str),(2, .str),(7, .int),(15, .int),(16, .int)] [(0,9000)] (fun m t=>zcm t.2.1 t.2.2.1 t.2.2.2.2.1 m t.1 t.2.2.2.1 t.2.2.2.2.2) fun n0 => .e)) .e))
-- (*doorstep/machine.machine).do
theorem zqU:za 410 zrJ:=cqG (((((CLs.nil.add zuS).add zrr).add zjn).add zpI).add zjB) 55 Tryz.func410 .e
-- (*doorstep/machine.machine).run
theorem zpJ:za 366 zq8:=cqG ((CLs.nil.add zqU).add zpH) 41 Tryz.func366 (.n 1 (.w [(9000, .po 50),(1, .sl (.st 47)),(4, .int)] [(0,9000)] (fun m t=>zai t.2.1 m t.1 t.2.2) fun n0 => .n 1 (.j [(9000, .po 50),(1, .sl (.st 47)),(4, .int)] [(0,9000)] (fun t=>zc2 (zai t.2.1 n0) t.1 t.2.2) .e .e)))
-- doorstep/machine.Run
theorem zB9:za 317 zFi:=cqG (((CLs.nil.add zcj).add zpJ).add zeO) 21 Tryz.func317 .e
-- doorstep/machine.Rules
theorem zyu:za 229 zAM:=cqG ((CLs.nil.add zB9).add zv3) 25 Tryz.func229 .e
-- doorstep/commas.Join
theorem zCa:za 445 zFj:=cqG (CLs.nil.add zbK) 5 Tryz.func445 .e
-- doorstep/commas.Append
theorem zyv:za 412 zAN:=cqG (((CLs.nil.add ztL).add zCa).add zf0) 22 Tryz.func412 .e
-- (*doorstep/bag.Bag).Behind
theorem zjD:za 369 zwo:=cqG (((CLs.nil.add zjn).add zyv).add zdV) 53 Tryz.func369 (.n 1 (.q (.n 1 (.w [(9000, .po 35),(1, .str),(2, .str),(6, .int)] [(0,9000)] (fun m t=>zdx t.1 t.2.1 t.2.2.1 m t.2.2.2) fun n0 => .e)) .e))
-- doorstep/via.Append
theorem zEm:za 320 zHj:=cqG ((((CLs.nil.add zcj).add zjD).add zeO).add zz8) 24 Tryz.func320 .e
-- doorstep/forwarded.Node
theorem zxa:za 414 zyI:=cqG ((CLs.nil.add znD).add zeN) 13 Tryz.func414 .e
-- doorstep/forwarded.Make
theorem zxb:za 371 zyJ:=cqG (CLs.nil.add zxa) 28 Tryz.func371 (.n 2 (.j [(1, .po 5),(3, .so 369 (.st 46))] [] (fun t=>zhf t.1 t.2) .e (.j [(3, .so 369 (.st 46))] [] (fun t=>zhe t) .e .e)))
-- doorstep/quoted.Quote
theorem zAh:za 447 zCy:=cqG (CLs.nil.add zby) 40 Tryz.func447 (.n 3 (.q (.n 1 (.w [(0, .str),(4, .so 5 .u8),(12, .int),(13, .int)] [] (fun m t=>zcs t.1 t.2.2.1 m t.2.1 t.2.2.2) fun n0 => .n 2 (.q (.n 1 (.j [(0, .str),(4, .so 5 .u8),(5, .int),(12, .int),(13, .int)] [] (fun t=>zjd (zcs t.1 t.2.2.2.1 n0) t.1 t.2.1 t.2.2.1 t.2.2.2.2) (.j [(0, .str),(4, .so 5 .u8),(5, .int),(12, .int),(13, .int),(25, .bool)] [] (fun t=>zje (zcs t.1 t.2.2.2.1 n0) t.1 t.2.1 t.2.2.1 t.2.2.2.2.1 t.2.2.2.2.2) .e .e) .e)) .e))) .e))
-- doorstep/quoted.Either
theorem zyw:za 413 zAO:=cqG ((CLs.nil.add zAh).add zfm) 11 Tryz.func413 .e
-- doorstep/params.Text
theorem zCb:za 370 zFk:=cqG (((CLs.nil.add zbK).add zfm).add zyw) 43 Tryz.func370 (.n 2 (.q (.n 1 (.w [(4, .so 9 .str),(9, .sl (.st 46)),(10, .int),(11, .int)] [] (fun m t=>zhR t.2.1 t.2.2.1 m t.1 t.2.2.2) fun n0 => .e)) .e))
-- doorstep/forwarded.Append
theorem zuT:za 321 zwp:=cqG (((((CLs.nil.add zcj).add zjD).add zeO).add zCb).add zxb) 25 Tryz.func321 .e
-- doorstep/xff.bare
theorem zID:za 372 zK9:=cqG ((CLs.nil.add znD).add zeN) 9 Tryz.func372 .e
-- doorstep/xff.Append
theorem zEn:za 322 zHk:=cqG ((((CLs.nil.add zcj).add zjD).add zeO).add zID) 16 Tryz.func322 (.n 1 (.j [(0, .str),(1, .sl (.st 20))] [] (fun t=>zlE t.1 t.2) .e .e))
-- doorstep/stage.Sign
theorem zEo:za 231 zHl:=cqG ((((((CLs.nil.add zkV).add zeO).add zEn).add zuT).add zEm).add zf1) 70 Tryz.func231 (.n 1 (.q (.j [(1, .int),(3, .po 5),(5, .po 32),(6, .po 33),(26, .bool)] [] (fun t=>zfg t.1 t.2.1 t.2.2.1 t.2.2.2.2) .e .e) (.n 1 (.j [(5, .po 32),(6, .po 33),(8, .so 225 (.st 20)),(9, .int)] [] (fun t=>zlF t.1 t.2.2.1 t.2.2.2) (.j [(3, .po 5),(5, .po 32),(6, .po 33),(8, .so 225 (.st 20)),(9, .int),(46, .bool)] [] (fun t=>zlG t.1 t.2.1 t.2.2.2.1 t.2.2.2.2.1 t.2.2.2.2.2) .e .e) .e))))
-- doorstep/length.Fields
theorem zyx:za 232 zAP:=cqG (CLs.nil.add zf1) 16 Tryz.func232 .e
-- doorstep/rewrite.Head
theorem zkF:za 152 zCz:=cqG (((((CLs.nil.add zyx).add zEo).add zyu).add zB5).add zB4) 58 Tryz.func152 .e
-- (doorstep/startline.line).digit
theorem zqV:za 427 zrK:=cqG (((CLs.nil.add zy).add zmo).add zcp) 26 Tryz.func427 .e
-- (doorstep/startline.line).version
theorem zi1:za 389 zpR:=cqG (((CLs.nil.add zy).add zqV).add zkT) 36 Tryz.func389 .e
-- doorstep/startline.other
theorem zoG:za 350 zxo:=cqG (((CLs.nil.add zbl).add zi1).add zgB) 30 Tryz.func350 .e
-- doorstep/startline.request$1
theorem zkG:za 352 zrL:=cqG (CLs.nil.add zi1) 23 Tryz.func352 .e
-- doorstep/startline.request
theorem ztN:za 302 zu6:=cqG (((((((((CLs.nil.add zbl).add zsF).add zkG).add zU).add zy).add zaG).add zgB).add zoG).add zjN) 84 Tryz.func302 .e
-- doorstep/startline.status
theorem zuU:za 303 zwq:=cqG (((((((((CLs.nil.add zby).add zdB).add zhm).add zU).add zy).add zkG).add zgB).add zoG).add zlN) 84 Tryz.func303 .e
-- doorstep/startline.Parse
theorem zkH:za 224 zxp:=cqG (((CLs.nil.add zuU).add ztN).add zeF) 29 Tryz.func224 (.n 1 (.q (.j [(0, .int),(1, .str),(4, .po 33),(6, .bool)] [] (fun t=>zgp t.1 t.2.1 t.2.2.2) .e .e) .e))
-- doorstep/startline.Text
theorem zpK:za 235 zyK:=cqG (((CLs.nil.add zkH).add zbK).add zf1) 81 Tryz.func235 (.n 3 (.j [(1, .po 32),(5, .str)] [] (fun t=>zhh t.1 t.2) .e (.n 2 (.j [(5, .str),(7, .int),(8, .bool)] [] (fun t=>zb6 t.1 t.2.1 t.2.2) .e .e))))
-- doorstep/head.hosts
theorem zEp:za 353 zHm:=cqG (((CLs.nil.add zea).add zf3).add zeO) 43 Tryz.func353 (.n 4 (.q (.n 1 (.w [(25, .so 9 .str),(26, .int),(27, .int)] [] (fun m t=>zfh t.1 t.2.1 m t.2.2) fun n0 => .n 2 (.q (.n 2 (.j [(25, .so 9 .str),(26, .int),(27, .int),(41, .bool)] [] (fun t=>zlI (zfh t.1 t.2.1 n0) t.2.2.1 t.2.2.2) .e .e)) .e))) .e))
-- doorstep/head.whole
theorem zv4:za 306 zHn:=cqG (CLs.nil.add zEp) 12 Tryz.func306 .e
-- doorstep/head.Check
theorem zv5:za 233 zHo:=cqG (((CLs.nil.add zv4).add zkE).add zpK) 31 Tryz.func233 (.n 2 (.q (.n 1 (.w [(1, .po 32),(17, .sl (.st 20)),(18, .int),(19, .int)] [] (fun m t=>ziR t.1 t.2.1 t.2.2.1 m t.2.2.2) fun n0 => .e)) .e))
-- doorstep/quill.New
theorem zGH:za 234 zJb:=cqG CLs.nil 7 Tryz.func234 .e
end
end Go.Proofs
end
