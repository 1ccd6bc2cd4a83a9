/- What the models are made with: data, contracts. TopCuts' model at the data of a statement. No program in sight. Contract -/
import Derived.Test.YtlehfmpjckapdaaGreatDoorYM
import Derived.Test.YtlehfmpjckapdaaGreatDoorYTr
import Derived.Test.YtlehfmpjckapdaaGreatDoorW0
import Derived.Test.YtlehfmpjckapdaaGreatDoorYTy
import Derived.Test.YtlehfmpjckapdaaGreatDoorSq
import Derived.Test.YtlehfmpjckapdaaGreatDoorYPu
import Derived.KernelRfl
set_option linter.unusedVariables false
set_option linter.unusedSimpArgs false
set_option linter.unusedVariables false
set_option maxRecDepth 100000
section
namespace Go.Proofs
noncomputable section
open Go.Dk Go.Dm Go.RowKit Go.Rk
def tau:Nat→Type
 | 0=>zZV
 | 1=>zZJ
 | 2=>zZu
 | 3=>zZq
 | 4=>zZL
 | 5=>zZI
 | 6=>Str × Str × Str × Str
 | 7=>zZI
 | 8=>zZu
 | 9=>zZV
 | 10=>ref44_Setup
 | 11=>zZR
 | 12=>zZ8
 | 13=>zZT
 | 14=>z0m
 | 15=>zZn
 | 16=>zZV
 | 17=>z0l
 | 18=>zZy
 | 19=>z0u
 | 20=>zZk
 | 21=>zZC
 | 22=>zZs
 | 23=>zZA
 | 24=>zZK
 | 25=>zZp
 | 26=>zZz
 | 27=>zZG
 | 28=>zZ7
 | 29=>zZv
 | 30=>zZt
 | 31=>z0v
 | 32=>z0q
 | 33=>zZr
 | 34=>zZr
 | 35=>zZw
 | 36=>zZZ
 | 37=>z0x
 | 38=>zZM
 | 39=>z0s
 | 40=>List Str
 | 41=>Str
 | 42=>zZ9
 | 43=>z0o
 | 44=>z0d
 | 45=>zZO
 | 46=>zZO
 | 47=>zZ2
 | 48=>z0r
 | 49=>zZ0
 | 50=>z0r
 | 51=>zZS
 | 52=>z0i
 | 53=>z0e
 | 54=>z0y
 | 55=>z0z
 | 56=>z0z
 | 57=>z0p
 | 58=>z0D
 | 59=>z0f
 | _=>Unit
noncomputable section
set_option maxHeartbeats 8000000 in
def G:Sig tau where
 fs
  | 0=>[.str,.str,.str,.str,.sl (.st 1),.sl (.st 1),.int,.int,.int,.sl (.st 2),.str,.str,.bool,.bool,.sl (.st 4)]
  | 1=>[.str,.str]
  | 2=>[.int,.int,.str,.str,.int,.str,.str,.sl (.st 3)]
  | 3=>[.int,.str]
  | 4=>[.int,.int]
  | 5=>[.str,.str,.str,.str,.sl (.st 1),.sl (.st 1)]
  | 6=>[.str,.str,.str,.str]
  | 7=>[.str,.str,.str,.str,.so 124 (.st 1),.so 124 (.st 1)]
  | 8=>[.int,.int,.str,.str,.int,.str,.str,.so 135 (.st 3)]
  | 9=>[.str,.str,.str,.str,.so 124 (.st 1),.so 124 (.st 1),.int,.int,.int,.so 112 (.st 2),.str,.str,.bool,.bool,.sl (.st 4)]
  | 10=>[.str,.str,.str,.str,.sl (.st 1),.sl (.st 1),.int,.int,.int,.sl (.st 2)]
  | 11=>[.str,.str,.str,.str]
  | 12=>[.int,.str,.int]
  | 13=>[.str,.str,.str,.str,.str,.bool,.bool,.bool]
  | 14=>[.int,.str,.str]
  | 15=>[.str,.str]
  | 16=>[.str,.str,.str,.str,.sl (.st 1),.sl (.st 1),.int,.int,.int,.sl (.st 2),.str,.str,.bool,.bool,.so 56 (.st 4)]
  | 17=>[.int,.int,.int]
  | 18=>[.str,.int]
  | 19=>[.po 18]
  | 20=>[.pn 21,.str,.str,.str,.str,.sl (.st 1),.sl (.st 1),.int,.int,.int,.so 112 (.st 2),.pn 23,.pn 24,.pn 26,.pn 23,.pn 24,.pn 26,.so 5 .u8,.so 5 .u8,.int,.bool,.bool,.bool,.bool,.bool,.bool,.bool]
  | 21=>[.so 222 (.st 22),.int,.bool]
  | 22=>[.str,.int,.bool]
  | 23=>[.int,.int,.so 5 .u8,.int,.bool,.int,.bool,.int,.str,.str,.int,.str,.int,.sl (.st 15)]
  | 24=>[.pn 25,.int,.int,.int,.bool,.bool]
  | 25=>[.int,.int,.so 5 .u8,.int,.int,.int,.so 255 (.st 15)]
  | 26=>[.pn 27,.int,.int,.int,.bool]
  | 27=>[.int,.str,.bool]
  | 28=>[.po 18,.so 135 (.st 3)]
  | 29=>[.pn 23,.pn 24,.pn 26]
  | 30=>[.po 20,.str,.int,.bool,.bool,.so 5 .u8,.mv 28,.mv 29,.str,.int,.bool,.bool,.so 5 .u8,.mv 30,.mv 31,.int,.int]
  | 31=>[.str,.str,.int,.int,.int,.int,.bool]
  | 32=>[.so 222 (.st 22),.int]
  | 33=>[.int,.str,.str,.int,.str,.int,.sl (.st 15)]
  | 34=>[.int,.str,.str,.int,.str,.int,.so 255 (.st 15)]
  | 35=>[.int,.int]
  | 36=>[.so 255 (.st 15)]
  | 37=>[.po 36,.int]
  | 38=>[.po 18,.so 9 .str,.int,.str]
  | 39=>[.po 18,.so 5 .u8]
  | 40=>[.sl .str]
  | 41=>[.str]
  | 42=>[.int,.str,.int,.str,.int,.str,.str,.bool]
  | 43=>[.po 36,.int,.str,.str,.int,.str,.int,.sl (.st 15)]
  | 44=>[.str,.str,.bool]
  | 45=>[.str,.str,.sl (.st 44)]
  | 46=>[.str,.str,.so 492 (.st 44)]
  | 47=>[.str,.str]
  | 48=>[.int,.str,.str,.sl (.st 3),.int]
  | 49=>[.so 485 (.st 48)]
  | 50=>[.int,.str,.str,.so 135 (.st 3),.int]
  | 51=>[.po 36,.sl (.st 47),.int]
  | 52=>[.po 18]
  | 53=>[.so 5 .u8,.int]
  | 54=>[.po 53,.bool]
  | 55=>[.int,.str,.str,.int,.str,.int,.sl (.st 15),.int,.int,.str,.sl (.st 15)]
  | 56=>[.int,.str,.str,.int,.str,.int,.so 255 (.st 15),.int,.int,.str,.so 255 (.st 15)]
  | 57=>[.po 18]
  | 58=>[.int,.int]
  | 59=>[.str,.int,.bool,.bool,.so 5 .u8,.nil ,.nil ]
  | _=>[]
 ti
  | 0=>30
  | 1=>124
  | 2=>112
  | 3=>135
  | 4=>56
  | 5=>24
  | 6=>150
  | 7=>24
  | 8=>112
  | 9=>30
  | 10=>76
  | 11=>156
  | 12=>159
  | 13=>201
  | 14=>109
  | 15=>255
  | 16=>30
  | 17=>26
  | 18=>305
  | 19=>264
  | 20=>131
  | 21=>175
  | 22=>222
  | 23=>219
  | 24=>189
  | 25=>282
  | 26=>234
  | 27=>170
  | 28=>428
  | 29=>129
  | 30=>88
  | 31=>43
  | 32=>173
  | 33=>142
  | 34=>142
  | 35=>145
  | 36=>414
  | 37=>382
  | 38=>466
  | 39=>520
  | 40=>68
  | 41=>9
  | 42=>390
  | 43=>387
  | 44=>492
  | 45=>476
  | 46=>476
  | 47=>401
  | 48=>485
  | 49=>444
  | 50=>485
  | 51=>448
  | 52=>429
  | 53=>409
  | 54=>347
  | 55=>147
  | 56=>147
  | 57=>490
  | 58=>41
  | 59=>86
  | _=>0
 ctor
  | 0,p=>(⟨(⟨p.1,p.2.1,p.2.2.1,p.2.2.2.1,p.2.2.2.2.1,p.2.2.2.2.2.1⟩:zZI),(⟨p.2.2.2.2.2.2.1,p.2.2.2.2.2.2.2.1,p.2.2.2.2.2.2.2.2.1⟩:z0l),p.2.2.2.2.2.2.2.2.2.1,p.2.2.2.2.2.2.2.2.2.2.1,p.2.2.2.2.2.2.2.2.2.2.2.1,p.2.2.2.2.2.2.2.2.2.2.2.2.1,p.2.2.2.2.2.2.2.2.2.2.2.2.2.1,p.2.2.2.2.2.2.2.2.2.2.2.2.2.2⟩:zZV)
  | 1,p=>(⟨p.1,p.2⟩:zZJ)
  | 2,p=>(⟨p.1,(⟨p.2.1,p.2.2.1,p.2.2.2.1⟩:z0m),p.2.2.2.2.1,p.2.2.2.2.2.1,p.2.2.2.2.2.2.1,p.2.2.2.2.2.2.2⟩:zZu)
  | 3,p=>(⟨p.1,p.2⟩:zZq)
  | 4,p=>(⟨p.1,p.2⟩:zZL)
  | 5,p=>(⟨p.1,p.2.1,p.2.2.1,p.2.2.2.1,p.2.2.2.2.1,p.2.2.2.2.2⟩:zZI)
  | 6,p=>p
  | 7,p=>(⟨p.1,p.2.1,p.2.2.1,p.2.2.2.1,p.2.2.2.2.1,p.2.2.2.2.2⟩:zZI)
  | 8,p=>(⟨p.1,(⟨p.2.1,p.2.2.1,p.2.2.2.1⟩:z0m),p.2.2.2.2.1,p.2.2.2.2.2.1,p.2.2.2.2.2.2.1,p.2.2.2.2.2.2.2⟩:zZu)
  | 9,p=>(⟨(⟨p.1,p.2.1,p.2.2.1,p.2.2.2.1,p.2.2.2.2.1,p.2.2.2.2.2.1⟩:zZI),(⟨p.2.2.2.2.2.2.1,p.2.2.2.2.2.2.2.1,p.2.2.2.2.2.2.2.2.1⟩:z0l),p.2.2.2.2.2.2.2.2.2.1,p.2.2.2.2.2.2.2.2.2.2.1,p.2.2.2.2.2.2.2.2.2.2.2.1,p.2.2.2.2.2.2.2.2.2.2.2.2.1,p.2.2.2.2.2.2.2.2.2.2.2.2.2.1,p.2.2.2.2.2.2.2.2.2.2.2.2.2.2⟩:zZV)
  | 10,p=>(⟨(⟨p.1,p.2.1,p.2.2.1,p.2.2.2.1,p.2.2.2.2.1,p.2.2.2.2.2.1⟩:zZI),(⟨p.2.2.2.2.2.2.1,p.2.2.2.2.2.2.2.1,p.2.2.2.2.2.2.2.2.1⟩:z0l),p.2.2.2.2.2.2.2.2.2⟩:ref44_Setup)
  | 11,p=>(⟨p.1,p.2.1,p.2.2.1,p.2.2.2⟩:zZR)
  | 12,p=>(⟨p.1,p.2.1,p.2.2⟩:zZ8)
  | 13,p=>(⟨p.1,p.2.1,p.2.2.1,p.2.2.2.1,p.2.2.2.2.1,p.2.2.2.2.2.1,p.2.2.2.2.2.2.1,p.2.2.2.2.2.2.2⟩:zZT)
  | 14,p=>(⟨p.1,p.2.1,p.2.2⟩:z0m)
  | 15,p=>(⟨p.1,p.2⟩:zZn)
  | 16,p=>(⟨(⟨p.1,p.2.1,p.2.2.1,p.2.2.2.1,p.2.2.2.2.1,p.2.2.2.2.2.1⟩:zZI),(⟨p.2.2.2.2.2.2.1,p.2.2.2.2.2.2.2.1,p.2.2.2.2.2.2.2.2.1⟩:z0l),p.2.2.2.2.2.2.2.2.2.1,p.2.2.2.2.2.2.2.2.2.2.1,p.2.2.2.2.2.2.2.2.2.2.2.1,p.2.2.2.2.2.2.2.2.2.2.2.2.1,p.2.2.2.2.2.2.2.2.2.2.2.2.2.1,p.2.2.2.2.2.2.2.2.2.2.2.2.2.2⟩:zZV)
  | 17,p=>(⟨p.1,p.2.1,p.2.2⟩:z0l)
  | 18,p=>(⟨p.1,p.2⟩:zZy)
  | 19,p=>(⟨p⟩:z0u)
  | 20,p=>(⟨p.1,(⟨p.2.1,p.2.2.1,p.2.2.2.1,p.2.2.2.2.1,p.2.2.2.2.2.1,p.2.2.2.2.2.2.1⟩:zZI),(⟨p.2.2.2.2.2.2.2.1,p.2.2.2.2.2.2.2.2.1,p.2.2.2.2.2.2.2.2.2.1⟩:z0l),p.2.2.2.2.2.2.2.2.2.2.1,(⟨p.2.2.2.2.2.2.2.2.2.2.2.1,p.2.2.2.2.2.2.2.2.2.2.2.2.1,p.2.2.2.2.2.2.2.2.2.2.2.2.2.1⟩:zZv),(⟨p.2.2.2.2.2.2.2.2.2.2.2.2.2.2.1,p.2.2.2.2.2.2.2.2.2.2.2.2.2.2.2.1,p.2.2.2.2.2.2.2.2.2.2.2.2.2.2.2.2.1⟩:zZv),p.2.2.2.2.2.2.2.2.2.2.2.2.2.2.2.2.2.1,p.2.2.2.2.2.2.2.2.2.2.2.2.2.2.2.2.2.2.1,p.2.2.2.2.2.2.2.2.2.2.2.2.2.2.2.2.2.2.2.1,p.2.2.2.2.2.2.2.2.2.2.2.2.2.2.2.2.2.2.2.2.1,p.2.2.2.2.2.2.2.2.2.2.2.2.2.2.2.2.2.2.2.2.2.1,p.2.2.2.2.2.2.2.2.2.2.2.2.2.2.2.2.2.2.2.2.2.2.1,p.2.2.2.2.2.2.2.2.2.2.2.2.2.2.2.2.2.2.2.2.2.2.2.1,p.2.2.2.2.2.2.2.2.2.2.2.2.2.2.2.2.2.2.2.2.2.2.2.2.1,p.2.2.2.2.2.2.2.2.2.2.2.2.2.2.2.2.2.2.2.2.2.2.2.2.2.1,p.2.2.2.2.2.2.2.2.2.2.2.2.2.2.2.2.2.2.2.2.2.2.2.2.2.2⟩:zZk)
  | 21,p=>(⟨(⟨p.1,p.2.1⟩:z0q),p.2.2⟩:zZC)
  | 22,p=>(⟨p.1,p.2.1,p.2.2⟩:zZs)
  | 23,p=>(⟨p.1,p.2.1,p.2.2.1,p.2.2.2.1,p.2.2.2.2.1,p.2.2.2.2.2.1,p.2.2.2.2.2.2.1,(⟨p.2.2.2.2.2.2.2.1,p.2.2.2.2.2.2.2.2.1,p.2.2.2.2.2.2.2.2.2.1,p.2.2.2.2.2.2.2.2.2.2.1,p.2.2.2.2.2.2.2.2.2.2.2.1,p.2.2.2.2.2.2.2.2.2.2.2.2.1,p.2.2.2.2.2.2.2.2.2.2.2.2.2⟩:zZr)⟩:zZA)
  | 24,p=>(⟨p.1,(⟨p.2.1,p.2.2.1⟩:zZw),p.2.2.2.1,p.2.2.2.2.1,p.2.2.2.2.2⟩:zZK)
  | 25,p=>(⟨p.1,p.2.1,p.2.2.1,p.2.2.2.1,p.2.2.2.2.1,p.2.2.2.2.2.1,p.2.2.2.2.2.2⟩:zZp)
  | 26,p=>(⟨p.1,(⟨p.2.1,p.2.2.1⟩:zZw),p.2.2.2.1,p.2.2.2.2⟩:zZz)
  | 27,p=>(⟨p.1,p.2.1,p.2.2⟩:zZG)
  | 28,p=>(⟨p.1,p.2⟩:zZ7)
  | 29,p=>(⟨p.1,p.2.1,p.2.2⟩:zZv)
  | 30,p=>(⟨p.1,(⟨p.2.1,p.2.2.1,p.2.2.2.1,p.2.2.2.2.1,p.2.2.2.2.2.1,p.2.2.2.2.2.2.1,p.2.2.2.2.2.2.2.1⟩:z0f),(⟨p.2.2.2.2.2.2.2.2.1,p.2.2.2.2.2.2.2.2.2.1,p.2.2.2.2.2.2.2.2.2.2.1,p.2.2.2.2.2.2.2.2.2.2.2.1,p.2.2.2.2.2.2.2.2.2.2.2.2.1,p.2.2.2.2.2.2.2.2.2.2.2.2.2.1,p.2.2.2.2.2.2.2.2.2.2.2.2.2.2.1⟩:z0f),(⟨p.2.2.2.2.2.2.2.2.2.2.2.2.2.2.2.1,p.2.2.2.2.2.2.2.2.2.2.2.2.2.2.2.2⟩:z0D)⟩:zZt)
  | 31,p=>(⟨p.1,p.2.1,p.2.2.1,p.2.2.2.1,(⟨p.2.2.2.2.1,p.2.2.2.2.2.1⟩:z0D),p.2.2.2.2.2.2⟩:z0v)
  | 32,p=>(⟨p.1,p.2⟩:z0q)
  | 33,p=>(⟨p.1,p.2.1,p.2.2.1,p.2.2.2.1,p.2.2.2.2.1,p.2.2.2.2.2.1,p.2.2.2.2.2.2⟩:zZr)
  | 34,p=>(⟨p.1,p.2.1,p.2.2.1,p.2.2.2.1,p.2.2.2.2.1,p.2.2.2.2.2.1,p.2.2.2.2.2.2⟩:zZr)
  | 35,p=>(⟨p.1,p.2⟩:zZw)
  | 36,p=>(⟨p⟩:zZZ)
  | 37,p=>(⟨p.1,p.2⟩:z0x)
  | 38,p=>(⟨p.1,p.2.1,p.2.2.1,p.2.2.2⟩:zZM)
  | 39,p=>(⟨p.1,p.2⟩:z0s)
  | 40,p=>p
  | 41,p=>p
  | 42,p=>(⟨p.1,p.2.1,(⟨p.2.2.1,p.2.2.2.1,p.2.2.2.2.1⟩:zZ8),p.2.2.2.2.2.1,p.2.2.2.2.2.2.1,p.2.2.2.2.2.2.2⟩:zZ9)
  | 43,p=>(⟨p.1,(⟨p.2.1,p.2.2.1,p.2.2.2.1,p.2.2.2.2.1,p.2.2.2.2.2.1,p.2.2.2.2.2.2.1,p.2.2.2.2.2.2.2⟩:zZr)⟩:z0o)
  | 44,p=>(⟨p.1,p.2.1,p.2.2⟩:z0d)
  | 45,p=>(⟨p.1,p.2.1,p.2.2⟩:zZO)
  | 46,p=>(⟨p.1,p.2.1,p.2.2⟩:zZO)
  | 47,p=>(⟨p.1,p.2⟩:zZ2)
  | 48,p=>(⟨p.1,p.2.1,p.2.2.1,p.2.2.2.1,p.2.2.2.2⟩:z0r)
  | 49,p=>(⟨p⟩:zZ0)
  | 50,p=>(⟨p.1,p.2.1,p.2.2.1,p.2.2.2.1,p.2.2.2.2⟩:z0r)
  | 51,p=>(⟨p.1,p.2.1,p.2.2⟩:zZS)
  | 52,p=>(⟨p⟩:z0i)
  | 53,p=>(⟨p.1,p.2⟩:z0e)
  | 54,p=>(⟨p.1,p.2⟩:z0y)
  | 55,p=>(⟨(⟨p.1,p.2.1,p.2.2.1,p.2.2.2.1,p.2.2.2.2.1,p.2.2.2.2.2.1,p.2.2.2.2.2.2.1⟩:zZr),(⟨p.2.2.2.2.2.2.2.1,p.2.2.2.2.2.2.2.2.1⟩:zZw),p.2.2.2.2.2.2.2.2.2.1,p.2.2.2.2.2.2.2.2.2.2⟩:z0z)
  | 56,p=>(⟨(⟨p.1,p.2.1,p.2.2.1,p.2.2.2.1,p.2.2.2.2.1,p.2.2.2.2.2.1,p.2.2.2.2.2.2.1⟩:zZr),(⟨p.2.2.2.2.2.2.2.1,p.2.2.2.2.2.2.2.2.1⟩:zZw),p.2.2.2.2.2.2.2.2.2.1,p.2.2.2.2.2.2.2.2.2.2⟩:z0z)
  | 57,p=>(⟨p⟩:z0p)
  | 58,p=>(⟨p.1,p.2⟩:z0D)
  | 59,p=>(⟨p.1,p.2.1,p.2.2.1,p.2.2.2.1,p.2.2.2.2.1,p.2.2.2.2.2.1,p.2.2.2.2.2.2⟩:z0f)
  | _+60,_=>()
 dtor
  | 0,(x:zZV)=>(x.Env.Client,x.Env.Host,x.Env.Scheme,x.Env.By,x.Env.Domains,x.Env.Locations,x.Caps.Head,x.Caps.Chunk,x.Caps.Queue,x.Rules,x.Client,x.Upstream,x.ClientEnds,x.UpstreamEnds,x.Events)
  | 1,(x:zZJ)=>(x.From,x.To)
  | 2,(x:zZu)=>(x.Side,x.Guard.Kind,x.Guard.Name,x.Guard.Value,x.Kind,x.Name,x.To,x.Parts)
  | 3,(x:zZq)=>(x.Kind,x.Text)
  | 4,(x:zZL)=>(x.Kind,x.N)
  | 5,(x:zZI)=>(x.Client,x.Host,x.Scheme,x.By,x.Domains,x.Locations)
  | 6,x=>x
  | 7,(x:zZI)=>(x.Client,x.Host,x.Scheme,x.By,x.Domains,x.Locations)
  | 8,(x:zZu)=>(x.Side,x.Guard.Kind,x.Guard.Name,x.Guard.Value,x.Kind,x.Name,x.To,x.Parts)
  | 9,(x:zZV)=>(x.Env.Client,x.Env.Host,x.Env.Scheme,x.Env.By,x.Env.Domains,x.Env.Locations,x.Caps.Head,x.Caps.Chunk,x.Caps.Queue,x.Rules,x.Client,x.Upstream,x.ClientEnds,x.UpstreamEnds,x.Events)
  | 10,(x:ref44_Setup)=>(x.Env.Client,x.Env.Host,x.Env.Scheme,x.Env.By,x.Env.Domains,x.Env.Locations,x.Caps.Head,x.Caps.Chunk,x.Caps.Queue,x.Rules)
  | 11,(x:zZR)=>(x.Proto,x.Version,x.By,x.Comment)
  | 12,(x:zZ8)=>(x.Kind,x.Name,x.Port)
  | 13,(x:zZT)=>(x.Scheme,x.Auth,x.Path,x.Query,x.Frag,x.HasAuth,x.HasQuery,x.HasFrag)
  | 14,(x:z0m)=>(x.Kind,x.Name,x.Value)
  | 15,(x:zZn)=>(x.Name,x.Value)
  | 16,(x:zZV)=>(x.Env.Client,x.Env.Host,x.Env.Scheme,x.Env.By,x.Env.Domains,x.Env.Locations,x.Caps.Head,x.Caps.Chunk,x.Caps.Queue,x.Rules,x.Client,x.Upstream,x.ClientEnds,x.UpstreamEnds,x.Events)
  | 17,(x:z0l)=>(x.Head,x.Chunk,x.Queue)
  | 18,(x:zZy)=>(x.z0w,x.zZ4)
  | 19,(x:z0u)=>x.Scanner
  | 20,(x:zZk)=>(x.Queue,x.z0h.Client,x.z0h.Host,x.z0h.Scheme,x.z0h.By,x.z0h.Domains,x.z0h.Locations,x.zZF.Head,x.zZF.Chunk,x.zZF.Queue,x.zZ5,x.zZm.Accum,x.zZm.z0t,x.zZm.zZD,x.zZl.Accum,x.zZl.z0t,x.zZl.zZD,x.zZx,x.z0a,x.z0b,x.zZH,x.zZ3,x.z0c,x.zZU,x.zZW,x.zZX,x.zZo)
  | 21,(x:zZC)=>(x.zZQ.z0g,x.zZQ.zZE,x.zZW)
  | 22,(x:zZs)=>(x.Method,x.Minor,x.Close)
  | 23,(x:zZA)=>(x.z0O,x.z0E,x.zZ6,x.z0C,x.z0L,x.z0K,x.f_whole,x.z0G.Kind,x.z0G.Method,x.z0G.Target,x.z0G.Code,x.z0G.Reason,x.z0G.Minor,x.z0G.Fields)
  | 24,(x:zZK)=>(x.Decoder,x.zZY.Kind,x.zZY.N,x.zZB,x.z0n,x.z0K)
  | 25,(x:zZp)=>(x.z0E,x.zZ4,x.z0I,x.zZB,x.z0P,x.z0J,x.z0B)
  | 26,(x:zZz)=>(x.Encoder,x.zZY.Kind,x.zZY.N,x.zZB,x.z0n)
  | 27,(x:zZG)=>(x.z0H,x.zZ6,x.z0n)
  | 28,(x:zZ7)=>(x.Scanner,x.zZD)
  | 29,(x:zZv)=>(x.Accum,x.z0t,x.zZD)
  | 30,(x:zZt)=>(x.Gateway,x.zZm.zZ1,x.zZm.zZP,x.zZm.z0k,x.zZm.z0j,x.zZm.zZN,x.zZm.z0A,x.zZm.z0F,x.zZl.zZ1,x.zZl.zZP,x.zZl.z0k,x.zZl.z0j,x.zZl.zZN,x.zZl.z0A,x.zZl.z0F,x.zZE.Client,x.zZE.Upstream)
  | 31,(x:z0v)=>(x.Client,x.Upstream,x.ReadClient,x.ReadUpstream,x.Most.Client,x.Most.Upstream,x.Closed)
  | 32,(x:z0q)=>(x.z0g,x.zZE)
  | 33,(x:zZr)=>(x.Kind,x.Method,x.Target,x.Code,x.Reason,x.Minor,x.Fields)
  | 34,(x:zZr)=>(x.Kind,x.Method,x.Target,x.Code,x.Reason,x.Minor,x.Fields)
  | 35,(x:zZw)=>(x.Kind,x.N)
  | 36,(x:zZZ)=>x.z0g
  | 37,(x:z0x)=>(x.Bag,x.z0T)
  | 38,(x:zZM)=>(x.Scanner,x.zZD,x.z0C,x.z0w)
  | 39,(x:z0s)=>(x.Scanner,x.zZD)
  | 40,x=>x
  | 41,x=>x
  | 42,(x:zZ9)=>(x.Kind,x.Scheme,x.Host.Kind,x.Host.Name,x.Host.Port,x.Path,x.Query,x.HasQuery)
  | 43,(x:z0o)=>(x.Bag,x.z0Q.Kind,x.z0Q.Method,x.z0Q.Target,x.z0Q.Code,x.z0Q.Reason,x.z0Q.Minor,x.z0Q.Fields)
  | 44,(x:z0d)=>(x.Name,x.Value,x.Has)
  | 45,(x:zZO)=>(x.Name,x.Value,x.Attrs)
  | 46,(x:zZO)=>(x.Name,x.Value,x.Attrs)
  | 47,(x:zZ2)=>(x.Name,x.Value)
  | 48,(x:z0r)=>(x.Kind,x.Name,x.Text,x.Parts,x.N)
  | 49,(x:zZ0)=>x.zZD
  | 50,(x:z0r)=>(x.Kind,x.Name,x.Text,x.Parts,x.N)
  | 51,(x:zZS)=>(x.Bag,x.z0N,x.z0M)
  | 52,(x:z0i)=>x.Scanner
  | 53,(x:z0e)=>(x.z0R,x.zZE)
  | 54,(x:z0y)=>(x.Quill,x.z0S)
  | 55,(x:z0z)=>(x.Head.Kind,x.Head.Method,x.Head.Target,x.Head.Code,x.Head.Reason,x.Head.Minor,x.Head.Fields,x.Frame.Kind,x.Frame.N,x.Body,x.Trailers)
  | 56,(x:z0z)=>(x.Head.Kind,x.Head.Method,x.Head.Target,x.Head.Code,x.Head.Reason,x.Head.Minor,x.Head.Fields,x.Frame.Kind,x.Frame.N,x.Body,x.Trailers)
  | 57,(x:z0p)=>x.Scanner
  | 58,(x:z0D)=>(x.Client,x.Upstream)
  | 59,(x:z0f)=>(x.zZ1,x.zZP,x.z0k,x.z0j,x.zZN,x.z0A,x.z0F)
  | _+60,_=>()
 cd
  | 0,_=>rfl
  | 1,_=>rfl
  | 2,_=>rfl
  | 3,_=>rfl
  | 4,_=>rfl
  | 5,_=>rfl
  | 6,_=>rfl
  | 7,_=>rfl
  | 8,_=>rfl
  | 9,_=>rfl
  | 10,_=>rfl
  | 11,_=>rfl
  | 12,_=>rfl
  | 13,_=>rfl
  | 14,_=>rfl
  | 15,_=>rfl
  | 16,_=>rfl
  | 17,_=>rfl
  | 18,_=>rfl
  | 19,_=>rfl
  | 20,_=>rfl
  | 21,_=>rfl
  | 22,_=>rfl
  | 23,_=>rfl
  | 24,_=>rfl
  | 25,_=>rfl
  | 26,_=>rfl
  | 27,_=>rfl
  | 28,_=>rfl
  | 29,_=>rfl
  | 30,_=>rfl
  | 31,_=>rfl
  | 32,_=>rfl
  | 33,_=>rfl
  | 34,_=>rfl
  | 35,_=>rfl
  | 36,_=>rfl
  | 37,_=>rfl
  | 38,_=>rfl
  | 39,_=>rfl
  | 40,_=>rfl
  | 41,_=>rfl
  | 42,_=>rfl
  | 43,_=>rfl
  | 44,_=>rfl
  | 45,_=>rfl
  | 46,_=>rfl
  | 47,_=>rfl
  | 48,_=>rfl
  | 49,_=>rfl
  | 50,_=>rfl
  | 51,_=>rfl
  | 52,_=>rfl
  | 53,_=>rfl
  | 54,_=>rfl
  | 55,_=>rfl
  | 56,_=>rfl
  | 57,_=>rfl
  | 58,_=>rfl
  | 59,_=>rfl
  | _+60,_=>rfl
 dc
  | 0,_=>rfl
  | 1,_=>rfl
  | 2,_=>rfl
  | 3,_=>rfl
  | 4,_=>rfl
  | 5,_=>rfl
  | 6,_=>rfl
  | 7,_=>rfl
  | 8,_=>rfl
  | 9,_=>rfl
  | 10,_=>rfl
  | 11,_=>rfl
  | 12,_=>rfl
  | 13,_=>rfl
  | 14,_=>rfl
  | 15,_=>rfl
  | 16,_=>rfl
  | 17,_=>rfl
  | 18,_=>rfl
  | 19,_=>rfl
  | 20,_=>rfl
  | 21,_=>rfl
  | 22,_=>rfl
  | 23,_=>rfl
  | 24,_=>rfl
  | 25,_=>rfl
  | 26,_=>rfl
  | 27,_=>rfl
  | 28,_=>rfl
  | 29,_=>rfl
  | 30,_=>rfl
  | 31,_=>rfl
  | 32,_=>rfl
  | 33,_=>rfl
  | 34,_=>rfl
  | 35,_=>rfl
  | 36,_=>rfl
  | 37,_=>rfl
  | 38,_=>rfl
  | 39,_=>rfl
  | 40,_=>rfl
  | 41,_=>rfl
  | 42,_=>rfl
  | 43,_=>rfl
  | 44,_=>rfl
  | 45,_=>rfl
  | 46,_=>rfl
  | 47,_=>rfl
  | 48,_=>rfl
  | 49,_=>rfl
  | 50,_=>rfl
  | 51,_=>rfl
  | 52,_=>rfl
  | 53,_=>rfl
  | 54,_=>rfl
  | 55,_=>rfl
  | 56,_=>rfl
  | 57,_=>rfl
  | 58,_=>rfl
  | 59,_=>rfl
  | _+60,_=>rfl
 eq
  | 1,(x:zZJ),y=>x==y
  | 3,(x:zZq),y=>x==y
  | 4,(x:zZL),y=>x==y
  | 11,(x:zZR),y=>x==y
  | 12,(x:zZ8),y=>x==y
  | 14,(x:z0m),y=>x==y
  | 15,(x:zZn),y=>x==y
  | 22,(x:zZs),y=>x==y
  | 35,(x:zZw),y=>x==y
  | 44,(x:z0d),y=>x==y
  | 47,(x:zZ2),y=>x==y
  | _,_,_=>true
 fp:=[(151,ziv),(152,zep),(153,znM),(158,zpU),(175,zbL),(204,zgt),(211,zmw),(212,zmx),(223,zg3),(233,zc7),(234,zka),(244,zhl),(245,zbn),(282,znY),(283,zj9),(291,zek),(293,zej),(306,zg5),(307,zhm),(358,zg6),(359,ziC),(365,zdZ),(402,zn5),(440,zn4),(469,zhp),(470,ziL)]
 gl:=[]
 dr
  | 222=>true
  | _=>false
 ax h:=∀w,Fz.on h w→zlb w
 axm hh ha w hw:=ha w fun b o e=>hw b o (hh b o e)
def G0:Sig tau:=⟨G.fs,G.ti,G.ctor,G.dtor,G.cd,G.dc,G.eq,[],[],G.dr,fun _=>True,fun _ h=>h⟩
def tyl:List (TypeId × Ty):=[(5,.u8),(9,.str),(56,.st 4),(70,.sl (.st 55)),(109,.st 14),(112,.st 2),(124,.st 1),(135,.st 3),(145,.st 35),(147,.st 55),(156,.st 11),(159,.st 12),(222,.st 22),(255,.st 15),(401,.st 47),(485,.st 48),(492,.st 44)]
def zyH:Con tau:=⟨[.sl (.st 1)],[.so 124 (.st 1)],1,[],zh6⟩
def zyI:Con tau:=⟨[.sl (.st 3)],[.so 135 (.st 3)],1,[],zgb⟩
def zyJ:Con tau:=⟨[.sl (.st 4)],[.so 56 (.st 4)],1,[],zsD⟩
def zCb:Con tau:=⟨[.sl .str,.str],[.str],1,[],fun p=>strings_Join p.1 p.2⟩
def zod:Con tau:=⟨[.str,.u8],[.int],1,[],fun p=>strings_IndexByte p.1 p.2⟩
def zuY:Con tau:=⟨[.int,.int],[.str],1,[],fun p=>zcJ p.1 p.2⟩
def zAh:Con tau:=⟨[.str,.str],[.so 9 .str],1,[],fun p=>strings_Split p.1 p.2⟩
def zAi:Con tau:=⟨[.str],[.bool],1,[],zbM⟩
def zD6:Con tau:=⟨[.str,.str],[.str,.str,.bool],3,[],fun p=>strings_Cut p.1 p.2⟩
def zwb:Con tau:=⟨[.str,.str],[.int],1,[],fun p=>zco p.1 p.2⟩
def zwc:Con tau:=⟨[.str,.str],[.bool],1,[],fun p=>strings_Contains p.1 p.2⟩
def zCc:Con tau:=⟨[.str,.str],[.str],1,[],fun p=>zcc p.1 p.2⟩
def zGz:Con tau:=⟨[.str],[.str],1,[],zbF⟩
def zt0:Con tau:=⟨[.str,.str,.str],[.str],1,[],fun p=>strings_ReplaceAll p.1 p.2.1 p.2.2⟩
def zxg:Con tau:=⟨[.sl (.st 15)],[.so 255 (.st 15)],1,[],zha⟩
def zuZ:Con tau:=⟨[.so 255 (.st 15),.int,.so 255 (.st 15)],[.so 255 (.st 15)],1,[],fun p=>zcK p.1 p.2.1 p.2.2⟩
def zu0:Con tau:=⟨[.str,.str],[.str],1,[],fun p=>zdN p.1 p.2⟩
def zAj:Con tau:=⟨[.str,.str],[.int],1,[],fun p=>strings_Index p.1 p.2⟩
def zM5:Con tau:=⟨[],[.bool],1,[],fun _=>zJT⟩
def zCd:Con tau:=⟨[.int,.int],[.str],1,[],fun p=>ziu p.1 p.2⟩
def zyK (n:Nat):Con tau:=⟨[.int,.int],[.str],1,[],fun p=>zeu n p.1 p.2⟩
def zCX:Con tau:=⟨[.u8,.str],[.bool],1,[],fun p=>zf3 p.1 p.2⟩
def zAk:Con tau:=⟨[.u8],[.bool],1,[],ziv⟩
def zpb:Con tau:=⟨[.u8],[.bool],1,[],zep⟩
def zAl:Con tau:=⟨[.u8],[.bool],1,[],znM⟩
def zAm:Con tau:=⟨[.u8],[.bool],1,[],zpU⟩
def zwd:Con tau:=⟨[.u8],[.bool],1,[],zgt⟩
def zwe:Con tau:=⟨[.u8],[.bool],1,[],zmw⟩
def zwf:Con tau:=⟨[.u8],[.bool],1,[],zmx⟩
def zx9:Con tau:=⟨[.u8],[.bool],1,[],znY⟩
def zK2:Con tau:=⟨[.str,.str],[.bool],1,[],fun p=>znZ p.1 p.2⟩
def zGH (n:Nat):Con tau:=⟨[.str,.str],[.bool],1,[],fun p=>zjU n p.1 p.2⟩
def zwg:Con tau:=⟨[.u8],[.bool],1,[],zj9⟩
def zq3:Con tau:=⟨[.u8],[.u8],1,[],zck⟩
def zsK:Con tau:=⟨[.u8],[.bool],1,[],zej⟩
def zsL:Con tau:=⟨[.u8],[.bool],1,[],zbL⟩
def zAo:Con tau:=⟨[.u8,.str],[.bool],1,[],fun p=>zpW p.1 p.2⟩
def zrL:Con tau:=⟨[.str,.int],[.bool],1,[],fun p=>zb4 p.1 p.2⟩
def zm7:Con tau:=⟨[.u8],[.bool],1,[],zc7⟩
def zwj:Con tau:=⟨[.u8],[.bool],1,[],zka⟩
def zp0:Con tau:=⟨[.u8],[.bool],1,[],zg5⟩
def zsO:Con tau:=⟨[.u8],[.bool],1,[],zhm⟩
def zsP:Con tau:=⟨[.u8],[.bool],1,[],zbn⟩
def zuB:Con tau:=⟨[.u8],[.bool],1,[],ziC⟩
def zAv:Con tau:=⟨[.po 18],[.str,.bool,.po 18],2,[0],zjg⟩
def zHd:Con tau:=⟨[.int],[.st 56,.bool],2,[],zz5⟩
def zr8:Con tau:=⟨[.po 21,.sl (.st 22)],[.int,.po 21],1,[0],fun p=>zbI p.1 p.2⟩
def zs4:Con tau:=⟨[.po 21],[.bool,.po 21],1,[0],zaY⟩
def zCz:Con tau:=⟨[.pn 30,.st 4],[.int,.int,.pn 30],2,[0],fun p=>zft p.1 p.2⟩
def zwC:Con tau:=⟨[.pn 30],[.int,.pn 30],1,[0],zgl⟩
theorem zAR:Tryz.prog.follows .mixedOrders=true:=by kernel_rfl
theorem hNm:∀(f:FuncId) (fn:Func),Tryz.prog.funcs[f]? = some fn→(fn.name == "runtime.NumGoroutine")=false:=zNv (by kernel_rfl)
theorem heq1:∀x y,G.eq 1 x y=eqD (G.fs 1) (G.dtor 1 x) (G.dtor 1 y):=fun ⟨a0,a⟩ ⟨b,c⟩=>by
 show ((⟨a0,a⟩:zZJ)==⟨b,c⟩)=(a0==b&&a==c);rw [Bool.eq_iff_iff];simp [zZJ.mk.injEq]
theorem heq3:∀x y,G.eq 3 x y=eqD (G.fs 3) (G.dtor 3 x) (G.dtor 3 y):=fun ⟨a0,a⟩ ⟨b,c⟩=>by
 show ((⟨a0,a⟩:zZq)==⟨b,c⟩)=(a0==b&&a==c);rw [Bool.eq_iff_iff];simp [zZq.mk.injEq]
theorem heq4:∀x y,G.eq 4 x y=eqD (G.fs 4) (G.dtor 4 x) (G.dtor 4 y):=fun ⟨a0,a⟩ ⟨b,c⟩=>by
 show ((⟨a0,a⟩:zZL)==⟨b,c⟩)=(a0==b&&a==c);rw [Bool.eq_iff_iff];simp [zZL.mk.injEq]
theorem heq11:∀x y,G.eq 11 x y=eqD (G.fs 11) (G.dtor 11 x) (G.dtor 11 y):=fun ⟨a0,b,a2,a3⟩ ⟨c,e,d,a⟩=>by
 show ((⟨a0,b,a2,a3⟩:zZR)==⟨c,e,d,a⟩)=(a0==c&&(b==e&&(a2==d&&(a3==a))));rw [Bool.eq_iff_iff];simp [zZR.mk.injEq]
theorem heq12:∀x y,G.eq 12 x y=eqD (G.fs 12) (G.dtor 12 x) (G.dtor 12 y):=fun ⟨a0,a,a2⟩ ⟨b,d,c⟩=>by
 show ((⟨a0,a,a2⟩:zZ8)==⟨b,d,c⟩)=(a0==b&&(a==d&&(a2==c)));rw [Bool.eq_iff_iff];simp [zZ8.mk.injEq]
theorem heq14:∀x y,G.eq 14 x y=eqD (G.fs 14) (G.dtor 14 x) (G.dtor 14 y):=fun ⟨a0,a,a2⟩ ⟨b,d,c⟩=>by
 show ((⟨a0,a,a2⟩:z0m)==⟨b,d,c⟩)=(a0==b&&(a==d&&(a2==c)));rw [Bool.eq_iff_iff];simp [z0m.mk.injEq]
theorem heq15:∀x y,G.eq 15 x y=eqD (G.fs 15) (G.dtor 15 x) (G.dtor 15 y):=fun ⟨a0,a⟩ ⟨b,c⟩=>by
 show ((⟨a0,a⟩:zZn)==⟨b,c⟩)=(a0==b&&a==c);rw [Bool.eq_iff_iff];simp [zZn.mk.injEq]
theorem heq22:∀x y,G.eq 22 x y=eqD (G.fs 22) (G.dtor 22 x) (G.dtor 22 y):=fun ⟨a0,a,a2⟩ ⟨b,d,c⟩=>by
 show ((⟨a0,a,a2⟩:zZs)==⟨b,d,c⟩)=(a0==b&&(a==d&&(a2==c)));rw [Bool.eq_iff_iff];simp [zZs.mk.injEq]
theorem heq35:∀x y,G.eq 35 x y=eqD (G.fs 35) (G.dtor 35 x) (G.dtor 35 y):=fun ⟨a0,a⟩ ⟨b,c⟩=>by
 show ((⟨a0,a⟩:zZw)==⟨b,c⟩)=(a0==b&&a==c);rw [Bool.eq_iff_iff];simp [zZw.mk.injEq]
theorem heq44:∀x y,G.eq 44 x y=eqD (G.fs 44) (G.dtor 44 x) (G.dtor 44 y):=fun ⟨a0,a,a2⟩ ⟨b,d,c⟩=>by
 show ((⟨a0,a,a2⟩:z0d)==⟨b,d,c⟩)=(a0==b&&(a==d&&(a2==c)));rw [Bool.eq_iff_iff];simp [z0d.mk.injEq]
theorem heq47:∀x y,G.eq 47 x y=eqD (G.fs 47) (G.dtor 47 x) (G.dtor 47 y):=fun ⟨a0,a⟩ ⟨b,c⟩=>by
 show ((⟨a0,a⟩:zZ2)==⟨b,c⟩)=(a0==b&&a==c);rw [Bool.eq_iff_iff];simp [zZ2.mk.injEq]
theorem heq:∀n∈[1,3,4,11,12,14,15,22,35,44,47], ∀x y,G.eq n x y=eqD (G.fs n) (G.dtor n x) (G.dtor n y):=by
 intro n hn;simp only [List.mem_cons,List.not_mem_nil,or_false] at hn
 rcases hn with rfl|rfl|rfl|rfl|rfl|rfl|rfl|rfl|rfl|rfl|rfl
 ·exact heq1
 ·exact heq3
 ·exact heq4
 ·exact heq11
 ·exact heq12
 ·exact heq14
 ·exact heq15
 ·exact heq22
 ·exact heq35
 ·exact heq44
 ·exact heq47
theorem tyk:∀cs n,TyOk (⟨Tryz.prog,G,tyl,cs,n,fun _ => .bool false⟩:Cx tau):=zNw [1,3,4,11,12,14,15,22,35,44,47] (by kernel_rfl) (by kernel_rfl) heq
theorem tyk0:∀cs n,TyOk (⟨Tryz.prog,G0,tyl,cs,n,fun _ => .bool false⟩:Cx tau):=zNw [1,3,4,11,12,14,15,22,35,44,47] (by kernel_rfl) (by kernel_rfl) heq
theorem cqG {f:FuncId} {fn:Func} {k:Con tau} (C:CLs Tryz.prog G) (n:Nat) (h1:Tryz.prog.funcs[f]? = some fn) (hn:Hn tau (DP tau k.rs)) (h2:fnB fn n k=true:=by kernel_rfl) (a:zui (⟨Tryz.prog,G,tyl,C.cs,n,fun _ => .bool false⟩:Cx tau) k (bdyF fn) fn.results.toList hn:=by unfold zui; kernel_rfl):COk Tryz.prog G f k:=zFf zAR hNm tyk C n h1 h2 a
abbrev zd:FuncId→Con tau→Prop:=COk Tryz.prog G
theorem cqH {f:FuncId} {fn:Func} {k:Con tau} (C:CLs Tryz.prog G0) (n:Nat) (h1:Tryz.prog.funcs[f]? = some fn) (hn:Hn tau (DP tau k.rs)) (h2:fnB fn n k=true:=by kernel_rfl) (a:zui (⟨Tryz.prog,G0,tyl,C.cs,n,fun _ => .bool false⟩:Cx tau) k (bdyF fn) fn.results.toList hn:=by unfold zui; kernel_rfl):COk Tryz.prog G0 f k:=zFf zAR hNm tyk0 C n h1 h2 a
abbrev zk6:FuncId→Con tau→Prop:=COk Tryz.prog G0
theorem zJ7 {w:World} (c:zlb w):zth Tryz.prog G (fun b=>w.heap[b]?):=⟨fun p hp=>(by cases hp),fun w' on=>c.same (zP0 on) fun g d=>by
 have a:g<w.heap.size:=Nat.lt_of_lt_of_le d c.size;rw [Array.getElem?_eq_getElem a]
 exact on g _ (Array.getElem?_eq_getElem a)⟩
end
end
end Go.Proofs
end
section
namespace Go.Proofs
open Go.Dk Go.Dm Go.RowKit Go.Rk
theorem zD5 (p:DP tau [.st 0,.u8]) (_:rgXs G [.st 0,.u8] p):zmL p.1 p.2=some true:=zNg p.1 p.2
end Go.Proofs
end
section
namespace Go.Proofs
open Go.Dk Go.Dm Go.RowKit Go.Rk
noncomputable section
theorem zpF:COk Tryz.prog G 49 zyH:=zwI rfl ⟨_,Tryz.func49,by kernel_rfl,by kernel_rfl⟩ fun w h xs R ad c on gl a b hc=>zjY xs R w (gl.2 w on).1 b hc a
theorem zlu:COk Tryz.prog G 50 zyI:=zwI rfl ⟨_,Tryz.func50,by kernel_rfl,by kernel_rfl⟩ fun w h xs R ad c on gl a b hc=>zjZ xs R w (gl.2 w on).1 b hc a
theorem zwY:COk Tryz.prog G 26 zyJ:=zwI rfl ⟨_,Tryz.func26,by kernel_rfl,by kernel_rfl⟩ fun w h xs R ad c on gl a b hc=>zi5 xs R w (gl.2 w on).1 b hc a
theorem zzs:COk Tryz.prog G 163 zCb:=zNt ⟨_,Tryz.func163,by kernel_rfl,by kernel_rfl⟩ fun w h xs s R ad c on gl a b hc=>zzP xs s R w (gl.2 w on).1 (by rw [show cells zlc xs=xs.map str from zLg xs]; exact b) hc a
theorem zdU:COk Tryz.prog G 297 zod:=zgo rfl rfl rfl rfl ⟨_,Tryz.func297,by kernel_rfl,by kernel_rfl⟩ fun w h p r on gl a=>ztX p.1 p.2 r w (gl.2 w on).1 a
theorem ztS:COk Tryz.prog G 295 zuY:=zgo rfl rfl rfl rfl ⟨_,Tryz.func295,by kernel_rfl,by kernel_rfl⟩ fun w h p r on gl a=>ztY p.1 p.2 r w (gl.2 w on) a
theorem zmT:COk Tryz.prog G 290 zAh:=zNs rfl rfl ⟨_,Tryz.func290,by kernel_rfl,by kernel_rfl⟩ fun w h p R on gl a=>by
 have:=zyE p.1 p.2 R w (gl.2 w on).1 a;rw [show zs5 G .str R=cells zlc R from rfl];exact this
theorem zlQ:COk Tryz.prog G 229 zD6:=zgo rfl rfl rfl rfl ⟨_,Tryz.func229,by kernel_rfl,by kernel_rfl⟩ fun w h p r on gl a=>zB4 p.1 p.2 r w (gl.2 w on).1 a
theorem zjM:COk Tryz.prog G 176 zwb:=zgo rfl rfl rfl rfl ⟨_,Tryz.func176,by kernel_rfl,by kernel_rfl⟩ fun w h p r on gl a=>zuP p.1 p.2 r w (gl.2 w on).1 a
theorem zuH:COk Tryz.prog G 305 zwc:=zgo rfl rfl rfl rfl ⟨_,Tryz.func305,by kernel_rfl,by kernel_rfl⟩ fun w h p r on gl a=>zuO p.1 p.2 r w (gl.2 w on).1 a
theorem zfY:COk Tryz.prog G 246 zCc:=zgo rfl rfl rfl rfl ⟨_,Tryz.func246,by kernel_rfl,by kernel_rfl⟩ fun w h p r on gl a=>zzO p.1 p.2 r w (gl.2 w on).1 a
theorem zsj:COk Tryz.prog G 316 zt0:=zgo rfl rfl rfl rfl ⟨_,Tryz.func316,by kernel_rfl,by kernel_rfl⟩ fun w h p r on gl a=>zsw p.1 p.2.1 p.2.2 r w (gl.2 w on).1 a
theorem zoB:COk Tryz.prog G 344 zxg:=zwI rfl ⟨_,Tryz.func344,by kernel_rfl,by kernel_rfl⟩ fun w h xs R ad c on gl a b hc=>zi4 xs R w (gl.2 w on).1 b hc a
theorem ztT:COk Tryz.prog G 413 zuZ:=zPX rfl rfl ⟨_,Tryz.func413,by kernel_rfl,by kernel_rfl⟩ fun w h xs i ys R ad d c e F on gl f a b=>zPV xs i ys R w b a
theorem ztU:COk Tryz.prog G 460 zu0:=zgo rfl rfl rfl rfl ⟨_,Tryz.func460,by kernel_rfl,by kernel_rfl⟩ fun w h p r on gl a=>ztZ p.1 p.2 r w (gl.2 w on).1 a
theorem zym:COk Tryz.prog G 322 zAj:=zgo rfl rfl rfl rfl ⟨_,Tryz.func322,by kernel_rfl,by kernel_rfl⟩ fun w h p r on gl a=>zmX p.1 p.2 r w (gl.2 w on).1 a
theorem zpe:zk6 296 zq3:=cqH CLs.nil 12 Tryz.func296 .e
def cN {τ:Nat→Type} {P:Program} {G:Sig τ} {f:FuncId} {k:Con τ} (h:COk P G f k):=(CLs.nil:CLs P G).add h
theorem zjt:zk6 293 zsK:=cqH (cN zpe) 11 Tryz.func293 .e
theorem zgZ:zk6 175 zsL:=cqH CLs.nil 9 Tryz.func175 .e
theorem ib0 (s:Str) (c:UInt8) (R:Int) (w0:World) (a:strings_IndexByte s c=some R):Calls Tryz.prog 297 #[str s,zcs c] w0 fun e w'=>e = .returned (int R)∧Below w0.heap.size w0 w':=by
 refine (Tryz.strings_IndexByte ⟨s.toArray⟩ c.toNat w0).mono fun e w' ⟨d,b⟩=>?_;subst d b;refine ⟨?_,Below.refl _ _⟩;unfold strings_IndexByte at a;rw [zx4] at a;cases a;simp
theorem zm3:COk Tryz.prog G0 297 zod:=zgo rfl rfl rfl rfl ⟨_,Tryz.func297,by kernel_rfl,by kernel_rfl⟩ fun w h p r on gl a=>ib0 p.1 p.2 r w a
theorem zoC:zk6 294 zAo:=cqH (cN zm3) 9 Tryz.func294 .e
theorem zyn:zk6 244 ⟨[.u8],[.bool],1,[],zhl⟩:=cqH (((cN zoC).add zgZ).add zjt) 13 Tryz.func244 .e
theorem zvw:zk6 223 ⟨[.u8],[.bool],1,[],zg3⟩:=cqH CLs.nil 5 Tryz.func223 .e
theorem zBl:zk6 291 ⟨[.u8],[.bool],1,[],zek⟩:=cqH ((cN zpe).add zgZ) 15 Tryz.func291 .e
theorem zkn:zk6 306 zp0:=cqH CLs.nil 9 Tryz.func306 .e
theorem zrF:zk6 307 zsO:=cqH CLs.nil 9 Tryz.func307 .e
theorem zrG:zk6 245 zsP:=cqH ((cN zrF).add zkn) 13 Tryz.func245 .e
theorem zvx:zk6 358 ⟨[.u8],[.bool],1,[],zg6⟩:=cqH ((cN zgZ).add zjt) 21 Tryz.func358 .e
theorem zDf:zk6 440 ⟨[.u8],[.bool],1,[],zn4⟩:=cqH CLs.nil 9 Tryz.func440 .e
theorem zDg:zk6 402 ⟨[.u8],[.bool],1,[],zn5⟩:=cqH (cN zrG) 9 Tryz.func402 .e
theorem zyo:zk6 469 ⟨[.u8],[.bool],1,[],zhp⟩:=cqH CLs.nil 3 Tryz.func469 .e
theorem zzt:zk6 470 ⟨[.u8],[.bool],1,[],ziL⟩:=cqH ((cN zm3).add zkn) 10 Tryz.func470 .e
theorem zrR:zk6 365 ⟨[.u8],[.bool],1,[],zdZ⟩:=cqH CLs.nil 5 Tryz.func365 .e
theorem zlv:zk6 210 zCX:=cqH CLs.nil 17 Tryz.func210 (.n 1 (.q (.n 1 (.w [(0,.u8),(1,.str),(5,.int)] [] (fun m t=>zj7 t.1 t.2.1 m t.2.2) fun n0 => .e)) .e))
theorem zFJ:zk6 151 zAk:=cqH (cN zlv) 5 Tryz.func151 .e
theorem znQ:zk6 152 zpb:=cqH (cN zlv) 5 Tryz.func152 .e
theorem zxW:zk6 153 zAl:=cqH (cN zlv) 5 Tryz.func153 .e
theorem zFK:zk6 158 zAm:=cqH (cN zlv) 5 Tryz.func158 .e
theorem zBm:zk6 204 zwd:=cqH CLs.nil 13 Tryz.func204 .e
theorem zBn:zk6 211 zwe:=cqH (cN zlv) 5 Tryz.func211 .e
theorem zBo:zk6 212 zwf:=cqH (cN zlv) 5 Tryz.func212 .e
theorem zmn:zk6 233 zm7:=cqH (((cN zoC).add zgZ).add zjt) 13 Tryz.func233 .e
theorem zuj:zk6 234 zwj:=cqH (cN zoC) 5 Tryz.func234 .e
theorem zDh:zk6 282 zx9:=cqH ((cN zxW).add znQ) 17 Tryz.func282 .e
theorem zBp:zk6 283 zwg:=cqH CLs.nil 9 Tryz.func283 .e
theorem zzu:zk6 359 zuB:=cqH (((cN zoC).add zuj).add zmn) 13 Tryz.func359 .e
theorem zlw:∀h,zth Tryz.prog G0 h:=fun h=>⟨fun p hp=>(by cases hp),trivial⟩
theorem zlx:zFx Tryz.prog G0:=fun p hp=>by cases hp
theorem fpok:zFx Tryz.prog G:=zb1 (zgu (m:=ziv) zlw zlx zFJ) (zb1 (zgu (m:=zep) zlw zlx znQ) (zb1 (zgu (m:=znM) zlw zlx zxW) (zb1 (zgu (m:=zpU) zlw zlx zFK) (zb1 (zgu (m:=zbL) zlw zlx zgZ) (zb1 (zgu (m:=zgt) zlw zlx zBm) (zb1 (zgu (m:=zmw) zlw zlx zBn) (zb1 (zgu (m:=zmx) zlw zlx zBo) (zb1 (zgu (m:=zg3) zlw zlx zvw) (zb1 (zgu (m:=zc7) zlw zlx zmn) (zb1 (zgu (m:=zka) zlw zlx zuj) (zb1 (zgu (m:=zhl) zlw zlx zyn) (zb1 (zgu (m:=zbn) zlw zlx zrG) (zb1 (zgu (m:=znY) zlw zlx zDh) (zb1 (zgu (m:=zj9) zlw zlx zBp) (zb1 (zgu (m:=zek) zlw zlx zBl) (zb1 (zgu (m:=zej) zlw zlx zjt) (zb1 (zgu (m:=zg5) zlw zlx zkn) (zb1 (zgu (m:=zhm) zlw zlx zrF) (zb1 (zgu (m:=zg6) zlw zlx zvx) (zb1 (zgu (m:=ziC) zlw zlx zzu) (zb1 (zgu (m:=zdZ) zlw zlx zrR) (zb1 (zgu (m:=zn5) zlw zlx zDg) (zb1 (zgu (m:=zn4) zlw zlx zDf) (zb1 (zgu (m:=zhp) zlw zlx zyo) (zb1 (zgu (m:=ziL) zlw zlx zzt) (fp_nil))))))))))))))))))))))))))
theorem zDi:zd 63 ⟨[.st 1],[.st 1],1,[],znW⟩:=cqG CLs.nil 18 Tryz.func63 .e
theorem zFL:zd 40 ⟨[.st 5],[.st 7],1,[],zts⟩:=cqG (cN zDi) 86 Tryz.func40 (.n 2 (.q (.n 1 (.w [(1,.po 5),(2,.po 7),(3,.po 6),(4,.int)] [] (fun m t=>zaW t.1 m t.2.2.1 t.2.2.2) fun n0 => .n 1 (.j [(1,.po 5),(2,.po 7),(3,.po 6),(4,.int)] [] (fun t=>zvV (zaW t.1 n0) t.2.2.1 t.2.2.2) .e .e))) (.j [(1,.po 5),(2,.po 7),(5,.po 7)] [] (fun t=>zvW t.1 t.2.2) .e (.q (.n 1 (.w [(1,.po 5),(2,.po 7),(5,.po 7),(6,.int)] [] (fun m t=>zd3 t.1 m t.2.2.1 t.2.2.2) fun a => .q (.j [(1,.po 5),(2,.po 7),(5,.po 7),(6,.int),(49,.bool)] [] (fun t=>znh (zd3 t.1 a) t.1 t.2.2.1 t.2.2.2.1 t.2.2.2.2) .e .e) .e)) (.q (.n 1 (.w [(1,.po 5),(2,.po 7),(5,.po 7),(7,.int)] [] (fun m t=>zgA t.1 m t.2.2.1 t.2.2.2) fun b => .q (.j [(1,.po 5),(2,.po 7),(5,.po 7),(7,.int),(71,.bool)] [] (fun t=>zng (zgA t.1 b) t.1 t.2.2.1 t.2.2.2.1 t.2.2.2.2) .e .e) .e)) .e)))))
theorem zFM:zd 41 ⟨[.sl (.st 1)],[.so 124 (.st 1)],1,[],zpS⟩:=cqG CLs.nil 46 Tryz.func41 (.n 2 (.q (.n 1 (.w [(0,.sl (.st 1)),(3,.so 124 (.st 1)),(4,.int)] [] (fun m t=>zgB t.1 m t.2.1 t.2.2) fun n0 => .q (.j [(0,.sl (.st 1)),(3,.so 124 (.st 1)),(4,.int),(12,.bool)] [] (fun t=>zni (zgB t.1 n0) t.1 t.2.1 t.2.2.1 t.2.2.2) .e .e) .e)) .e))
theorem zFN:zd 22 ⟨[.st 5],[.st 7],1,[],ztt⟩:=cqG ((cN zFM).add zFL) 15 Tryz.func22 .e
theorem zFO:zd 95 ⟨[.sl (.st 3)],[.so 135 (.st 3)],1,[],zpT⟩:=cqG CLs.nil 38 Tryz.func95 (.n 2 (.q (.n 1 (.w [(0,.sl (.st 3)),(3,.so 135 (.st 3)),(4,.int)] [] (fun m t=>zgC t.1 m t.2.1 t.2.2) fun n0 => .q (.j [(0,.sl (.st 3)),(3,.so 135 (.st 3)),(4,.int),(12,.bool)] [] (fun t=>znj (zgC t.1 n0) t.1 t.2.1 t.2.2.1 t.2.2.2) .e .e) .e)) .e))
theorem zFP:zd 64 ⟨[.st 2],[.st 8],1,[],ztu⟩:=cqG (cN zFO) 50 Tryz.func64 (.n 2 (.q (.n 1 (.w [(1,.po 2),(2,.po 8),(3,.po 6),(4,.int)] [] (fun m t=>za3 t.1 m t.2.2.1 t.2.2.2) fun n0 => .n 1 (.j [(1,.po 2),(2,.po 8),(3,.po 6),(4,.int)] [] (fun t=>zvX (za3 t.1 n0) t.2.2.1 t.2.2.2) .e .e))) (.j [(1,.po 2),(2,.po 8),(3,.po 6)] [] (fun t=>zv0 t.1 t.2.2) .e (.j [(1,.po 2),(2,.po 8),(3,.po 6)] [] (fun t=>zvZ t.1 t.2.2) .e (.j [(1,.po 2),(2,.po 8),(3,.po 6)] [] (fun t=>zvY t.1 t.2.2) .e (.j [(1,.po 2),(2,.po 8)] [] (fun t=>znk t.1) .e .e))))))
theorem zFQ:zd 42 ⟨[.sl (.st 2)],[.so 112 (.st 2)],1,[],ztv⟩:=cqG (cN zFP) 24 Tryz.func42 (.n 2 (.q (.n 1 (.w [(0,.sl (.st 2)),(3,.so 112 (.st 2)),(4,.int)] [] (fun m t=>zgD t.1 m t.2.1 t.2.2) fun n0 => .q (.j [(0,.sl (.st 2)),(3,.so 112 (.st 2)),(4,.int),(12,.bool)] [] (fun t=>znl (zgD t.1 n0) t.1 t.2.1 t.2.2.1 t.2.2.2) .e .e) .e)) .e))
theorem zFR:zd 23 ⟨[.sl (.st 2)],[.so 112 (.st 2)],1,[],ztw⟩:=cqG (cN zFQ) 31 Tryz.func23 (.n 2 (.q (.n 1 (.w [(3,.so 112 (.st 2)),(4,.int)] [] (fun m t=>zky m t.1 t.2) fun n0 => .e)) .e))
theorem zFS:zd 11 ⟨[.st 0],[.st 9],1,[],znL⟩:=cqG ((cN zFR).add zFN) 36 Tryz.func11 .e
theorem zBq:zd 25 ⟨[.st 0],[.st 10],1,[],zoH⟩:=cqG CLs.nil 10 Tryz.func25 .e
theorem zpf:zd 145 ⟨[.str,.u8],[.so 9 .str],1,[],fun p=>zj6 p.1 p.2⟩:=cqG CLs.nil 34 Tryz.func145 (.n 3 (.q (.n 1 (.w [(0,.str),(1,.u8),(5,.so 9 .str),(6,.int),(7,.int)] [] (fun m t=>zf2 t.1 t.2.1 m t.2.2.1 t.2.2.2.1 t.2.2.2.2) fun n0 => .e)) .e))
theorem zuk:zd 209 ⟨[.u8,.int],[.int],1,[],fun p=>zmr p.1 p.2⟩:=cqG CLs.nil 26 Tryz.func209 (.n 3 (.q (.n 1 (.w [(0,.u8),(1,.int),(5,.str),(6,.str),(7,.int)] [] (fun m t=>znX t.1 t.2.1 t.2.2.1 t.2.2.2.1 m t.2.2.2.2) fun n0 => .e)) .e))
theorem zpG:∀n,COk Tryz.prog G 208 (zyK n)
 | 0=>zHr ⟨_,Tryz.func208,by kernel_rfl,by kernel_rfl⟩ fun _=>rfl
 | n+1=>by
  have h:=zpG n;exact zFf zAR hNm tyk (cN h) 29 Tryz.func208 (by kernel_rfl) (hn := .e) (by unfold zui; kernel_rfl)
theorem znR:COk Tryz.prog G 208 zCd:=zpG fuel
theorem zBr:zd 206 ⟨[.str,.int],[.str,.bool],2,[],fun p=>zoI p.1 p.2⟩:=cqG ((cN znR).add zuk) 38 Tryz.func206 (.n 2 (.q (.n 1 (.w [(0,.str),(1,.int),(6,.str),(7,.int)] [] (fun m t=>zev t.1 t.2.1 m t.2.2.1 t.2.2.2) fun n0 => .n 1 (.q (.n 2 (.j [(0,.str),(1,.int),(6,.str),(7,.int),(8,.int),(27,.bool)] [] (fun t=>zkz (zev t.1 t.2.1 n0) t.2.1 t.2.2.1 t.2.2.2.1 t.2.2.2.2.1 t.2.2.2.2.2) .e .e)) .e))) .e))
theorem zDj:zd 207 ⟨[.str,.str],[.bool],1,[],fun p=>zqD p.1 p.2⟩:=cqG CLs.nil 22 Tryz.func207 .e
theorem zDk:zd 149 ⟨[.str,.int,.int],[.int,.int],2,[],fun p=>zqE p.1 p.2.1 p.2.2⟩:=cqG ((((cN zuk).add zDj).add znR).add zBr) 45 Tryz.func149 (.n 5 (.q (.n 1 (.w [(1,.int),(8,.str),(10,.int),(11,.int)] [] (fun m t=>zja t.1 t.2.1 m t.2.2.1 t.2.2.2) fun n0 => .e)) .e))
theorem zDl:zd 150 ⟨[.int,.int],[.str],1,[],fun p=>zqF p.1 p.2⟩:=cqG (cN znR) 10 Tryz.func150 .e
theorem zul:zd 98 ⟨[.str,.int],[.int],1,[],fun p=>zms p.1 p.2⟩:=cqG ((cN zDl).add zDk) 25 Tryz.func98 .e
theorem zqv:zd 100 ⟨[.str],[.bool],1,[],zjT⟩:=cqG ((cN zul).add zpf) 22 Tryz.func100 (.n 2 (.q (.n 1 (.w [(3,.so 9 .str),(4,.int)] [] (fun m t=>zjb t.1 m t.2) fun n0 => .e)) .e))
theorem zfw:zd 210 zCX:=cqG CLs.nil 17 Tryz.func210 (.n 1 (.q (.n 1 (.w [(0,.u8),(1,.str),(5,.int)] [] (fun m t=>zj7 t.1 t.2.1 m t.2.2) fun n0 => .e)) .e))
theorem zsk:zd 151 zAk:=cqG (cN zfw) 5 Tryz.func151 .e
theorem zBs:zd 205 ⟨[.str],[.bool],1,[],zmt⟩:=cqG (((cN zsk).add zqv).add zpf) 64 Tryz.func205 (.n 3 (.q (.n 1 (.w [(3,.so 9 .str),(4,.int),(5,.int)] [] (fun m t=>zds t.1 m t.2.1 t.2.2) fun n0 => .n 1 (.q (.q (.j [(3,.so 9 .str),(4,.int),(5,.int),(26,.bool)] [] (fun t=>zkA (zds t.1 n0) t.1 t.2.1 t.2.2.1 t.2.2.2) .e .e) (.q (.n 1 (.w [(3,.so 9 .str),(4,.int),(5,.int),(6,.int)] [] (fun m t=>zhK (zds t.1 n0) t.1 t.2.1 t.2.2.1 m t.2.2.2) fun a => .e)) .e)) .e))) .e))
theorem zFT:zd 148 ⟨[.str],[.bool],1,[],ztx⟩:=cqG (cN zBs) 59 Tryz.func148 (.n 1 (.q (.n 1 (.w [(0,.str),(3,.int)] [] (fun m t=>ziw t.1 m t.2) fun n0 => .n 1 (.q (.n 1 (.q (.n 1 (.w [(0,.str),(3,.int),(4,.int)] [] (fun m t=>zfc t.1 t.2.1 m t.2.2) fun a => .n 1 (.q (.n 1 (.q (.n 1 (.w [(0,.str),(3,.int),(4,.int),(5,.str),(6,.int)] [] (fun m t=>zgE (zfc t.1 t.2.1 a) t.1 t.2.1 t.2.2.1 m t.2.2.2.1 t.2.2.2.2) fun b => .n 1 (.q (.j [(0,.str),(3,.int),(4,.int),(5,.str),(6,.int)] [] (fun t=>znm (zgE (zfc t.1 t.2.1 a) t.1 t.2.1 t.2.2.1 b) t.2.2.2.1 t.2.2.2.2) .e .e) .e))) (.j [(0,.str),(3,.int),(4,.int),(5,.str)] [] (fun t=>znn (zfc t.1 t.2.1 a) t.2.2.1 t.2.2.2) .e .e))) .e))) .e)) .e))) .e))
theorem znS:zd 152 zpb:=cqG (cN zfw) 5 Tryz.func152 .e
theorem zxX:zd 153 zAl:=cqG (cN zfw) 5 Tryz.func153 .e
theorem zvy:zd 99 ⟨[.str],[.bool],1,[],zlA⟩:=cqG (((cN zxX).add znS).add zsk) 52 Tryz.func99 (.n 1 (.q (.n 1 (.w [(0,.str),(3,.int)] [] (fun m t=>zeh t.1 m t.2) fun n0 => .n 1 (.q (.n 1 (.j [(0,.str),(3,.int),(48,.bool)] [] (fun t=>zlS (zeh t.1 n0) t.2.1 t.2.2) .e .e)) .e))) .e))
theorem zH1:zd 97 ⟨[.str],[.st 12],1,[],zsC⟩:=cqG (((cN zvy).add zqv).add zFT) 42 Tryz.func97 (.n 1 (.q (.j [(0,.str),(2,.po 12),(26,.bool)] [] (fun t=>zj8 t.1 t.2.2) .e .e) .e))
theorem zum:zd 66 ⟨[.str],[.st 12,.int],2,[],zmu⟩:=cqG ((cN zul).add zH1) 45 Tryz.func66 (.n 3 (.q (.n 1 (.w [(0,.str),(2,.po 12),(4,.po 12),(5,.int)] [] (fun m t=>zhL t.1 m t.2.2.2) fun n0 => .e)) .e))
theorem zFU:zd 158 zAm:=cqG (cN zfw) 5 Tryz.func158 .e
theorem zi8:zd 103 ⟨[.str],[.bool],1,[],zbh⟩:=cqG (cN zFU) 18 Tryz.func103 (.n 1 (.q (.n 1 (.w [(0,.str),(3,.int)] [] (fun m t=>zhM t.1 m t.2) fun n0 => .e)) .e))
theorem zpg:zd 204 zwd:=cqG CLs.nil 13 Tryz.func204 .e
theorem zyp:zd 147 ⟨[.str],[.bool],1,[],zlT⟩:=cqG (cN zpg) 49 Tryz.func147 (.n 2 (.q (.n 1 (.w [(0,.str),(3,.int),(4,.int)] [] (fun m t=>zbO t.1 m t.2.1 t.2.2) fun n0 => .n 1 (.q (.n 2 (.j [(0,.str),(3,.int),(4,.int)] [] (fun t=>ziy (zbO t.1 n0) t.1 t.2.1 t.2.2) .e (.j [(0,.str),(3,.int),(4,.int)] [] (fun t=>zix (zbO t.1 n0) t.2.1 t.2.2) .e .e))) .e))) .e))
theorem zBt:zd 146 ⟨[.str],[.bool],1,[],zmv⟩:=cqG CLs.nil 26 Tryz.func146 (.n 1 (.q (.n 1 (.w [(0,.str),(3,.int)] [] (fun m t=>zhN t.1 m t.2) fun n0 => .e)) .e))
theorem zBu:zd 96 ⟨[.str],[.st 11,.int],2,[],zoJ⟩:=cqG (((((cN zBt).add zyp).add zi8).add zum).add zpf) 149 Tryz.func96 (.n 2 (.q (.w [(0,.str),(2,.po 11),(4,.int)] [] (fun m t=>zex t.1 m t.2.2) fun n0 => .q (.j [(0,.str),(2,.po 11),(4,.int),(21,.bool)] [] (fun t=>zkC (zex t.1 n0) t.1 t.2.2.1 t.2.2.2) .e .e) .e) (.n 2 (.q (.w [(0,.str),(2,.po 11),(4,.int),(5,.int)] [] (fun m t=>zew t.1 t.2.2.1 m t.2.2.2) fun a => .q (.j [(0,.str),(2,.po 11),(4,.int),(5,.int),(40,.bool)] [] (fun t=>zkB (zew t.1 t.2.2.1 a) t.1 t.2.2.1 t.2.2.2.1 t.2.2.2.2) .e .e) .e) (.n 2 (.j [(0,.str),(2,.po 11),(5,.int),(6,.po 11),(7,.so 9 .str)] [] (fun t=>zhO t.1 t.2.2.1 t.2.2.2.1 t.2.2.2.2) .e (.n 1 (.q (.j [(0,.str),(2,.po 11),(5,.int),(6,.po 11),(107,.bool)] [] (fun t=>zba t.1 t.2.2.1 t.2.2.2.1 t.2.2.2.2) .e .e) .e))))))))
theorem zDm:zd 65 ⟨[.st 11],[.str,.int],2,[],zqG⟩:=cqG (cN zBu) 43 Tryz.func65 (.n 2 (.j [(1,.po 11),(4,.str)] [] (fun t=>zlU t.1 t.2) .e (.j [(1,.po 11),(4,.str)] [] (fun t=>zjc t.1 t.2) .e .e)))
theorem zBv:zd 67 ⟨[.sl (.st 1)],[.int],1,[],zoK⟩:=cqG ((cN zqv).add zvy) 58 Tryz.func67 (.n 1 (.q (.n 1 (.w [(0,.sl (.st 1)),(3,.int)] [] (fun m t=>zf4 t.1 m t.2) fun n0 => .n 1 (.q (.n 3 (.w [(0,.sl (.st 1)),(3,.int),(5,.str),(6,.int)] [] (fun m t=>zhP (zf4 t.1 n0) t.2.1 t.2.2.1 m t.2.2.2) fun a => .e)) .e))) .e))
theorem zun:zd 154 ⟨[.str,.str],[.int],1,[],fun p=>zfd p.1 p.2⟩:=cqG (cN zfw) 21 Tryz.func154 (.n 2 (.q (.w [(0,.str),(1,.str),(5,.int)] [] (fun m t=>zey t.1 t.2.1 m t.2.2) fun n0 => .q (.j [(0,.str),(1,.str),(5,.int),(17,.bool)] [] (fun t=>zkD (zey t.1 t.2.1 n0) t.2.2.1 t.2.2.2) .e .e) .e) .e))
theorem zBw:zd 211 zwe:=cqG (cN zfw) 5 Tryz.func211 .e
theorem zBx:zd 212 zwf:=cqG (cN zfw) 5 Tryz.func212 .e
theorem zzv:zd 155 ⟨[.str],[.bool],1,[],zno⟩:=cqG (((cN zfw).add zBx).add zBw) 36 Tryz.func155 (.n 1 (.q (.n 1 (.w [(0,.str),(3,.int)] [] (fun m t=>zb8 t.1 m t.2) fun n0 => .n 1 (.q (.j [(0,.str),(3,.int),(32,.bool)] [] (fun t=>ze5 (zb8 t.1 n0) t.2.1 t.2.2) .e .e) .e))) .e))
theorem zDn:zd 282 zx9:=cqG ((cN zxX).add znS) 17 Tryz.func282 .e
theorem zvz:∀n,COk Tryz.prog G 213 (zGH n)
 | 0=>zHr ⟨_,Tryz.func213,by kernel_rfl,by kernel_rfl⟩ fun _=>rfl
 | n+1=>by
  have h:=zvz n;exact zFf zAR hNm tyk ((((cN zfw).add zDn).add h).add zsk) 44 Tryz.func213 (by kernel_rfl) (hn := .e) (by unfold zui; kernel_rfl)
theorem zH2:COk Tryz.prog G 213 zK2:=zvz fuel
theorem zBy:zd 156 ⟨[.st 13],[.bool],1,[],zoL⟩:=cqG ((cN zun).add zH2) 76 Tryz.func156 (.n 3 (.q (.j [(1,.po 13),(55,.bool)] [] (fun t=>zkE t.1 t.2) .e .e) .e))
theorem zBz:zd 101 ⟨[.str],[.st 13,.int],2,[],zmy⟩:=cqG (((cN zBy).add zzv).add zun) 94 Tryz.func101 (.n 3 (.j [(0,.str),(2,.po 13),(4,.po 13)] [] (fun t=>zhU t.1 t.2.2) .e (.n 1 (.j [(0,.str),(2,.po 13),(4,.po 13)] [] (fun t=>zhT t.1 t.2.2) .e (.n 1 (.j [(0,.str),(2,.po 13),(4,.po 13)] [] (fun t=>zhR t.1 t.2.2) (.j [(0,.str),(2,.po 13),(4,.po 13),(7,.int),(57,.bool)] [] (fun t=>zhS t.1 t.2.2.1 t.2.2.2.1 t.2.2.2.2) .e .e) (.j [(0,.str),(2,.po 13),(4,.po 13)] [] (fun t=>zhQ t.1 t.2.2) (.j [(0,.str),(2,.po 13),(4,.po 13),(73,.bool)] [] (fun t=>zkF t.1 t.2.2.1 t.2.2.2) .e .e) .e)))))))
theorem zBA:zd 68 ⟨[.sl (.st 1)],[.int],1,[],zoM⟩:=cqG (cN zBz) 49 Tryz.func68 (.n 1 (.q (.n 1 (.w [(0,.sl (.st 1)),(3,.int)] [] (fun m t=>zhV t.1 m t.2) fun n0 => .e)) .e))
theorem zBB:zd 43 ⟨[.st 5],[.int],1,[],zoN⟩:=cqG ((((cN zBA).add zBv).add zum).add zDm) 51 Tryz.func43 (.n 4 (.q (.j [(1,.po 5),(4,.int),(27,.bool)] [] (fun t=>zkG t.1 t.2.1 t.2.2) .e .e) (.q (.j [(1,.po 5),(41,.bool)] [] (fun t=>zhW t.1 t.2) .e .e) .e)))
theorem zzw:zd 214 ⟨[.str],[.bool],1,[],znp⟩:=cqG (cN zpg) 15 Tryz.func214 (.n 1 (.q (.n 1 (.w [(0,.str),(3,.int)] [] (fun m t=>zg1 t.1 m t.2) fun n0 => .e)) .e))
theorem zBC:zd 283 zwg:=cqG CLs.nil 9 Tryz.func283 .e
theorem zDo:zd 215 ⟨[.str],[.str],1,[],zqH⟩:=cqG (cN zBC) 30 Tryz.func215 (.n 1 (.q (.w [(0,.str)] [] (fun m t=>zfA m t) fun n0 => .q (.j [(0,.str),(10,.bool)] [] (fun t=>zlW (zfA n0) t.1 t.2) .e .e) .e) (.q (.w [(0,.str)] [] (fun m t=>zfz m t) fun a => .q (.j [(0,.str),(23,.bool)] [] (fun t=>zlV (zfz a) t.1 t.2) .e .e) .e) .e)))
theorem zBD:zd 157 ⟨[.st 15],[.int],1,[],zoO⟩:=cqG (((cN zDo).add zzw).add zi8) 19 Tryz.func157 .e
theorem zBE:zd 102 ⟨[.st 14],[.bool],1,[],zmz⟩:=cqG ((cN zi8).add zBD) 42 Tryz.func102 .e
theorem zvA:zd 159 ⟨[.str],[.str],1,[],zn0⟩:=cqG CLs.nil 36 Tryz.func159 (.n 2 (.q (.n 1 (.w [(0,.str),(3,.str),(4,.int)] [] (fun m t=>zhk t.1 m t.2.1 t.2.2) fun n0 => .n 1 (.q (.n 1 (.q (.n 1 (.w [(0,.str),(3,.str),(4,.int),(5,.str),(6,.int)] [] (fun m t=>zfB (zhk t.1 n0) t.1 t.2.1 t.2.2.1 m t.2.2.2.1 t.2.2.2.2) fun a => .e)) .e)) .e))) .e))
theorem zBF:zd 160 ⟨[.str],[.bool],1,[],zoP⟩:=cqG (cN zvA) 14 Tryz.func160 .e
theorem zDp:zd 104 ⟨[.str],[.bool],1,[],zlB⟩:=cqG ((cN zBF).add zvA) 12 Tryz.func104 .e
theorem zBG:zd 105 ⟨[.int],[.so 9 .str],1,[],zoQ⟩:=cqG CLs.nil 9 Tryz.func105 .e
theorem zBH:zd 106 ⟨[.sl (.st 3)],[.so 9 .str],1,[],zoR⟩:=cqG CLs.nil 49 Tryz.func106 (.n 2 (.q (.n 1 (.w [(0,.sl (.st 3)),(3,.so 9 .str),(4,.int)] [] (fun m t=>zf6 t.1 m t.2.1 t.2.2) fun n0 => .n 1 (.q (.n 1 (.q (.n 1 (.w [(0,.sl (.st 3)),(3,.so 9 .str),(4,.int),(5,.bool),(6,.int)] [] (fun m t=>zf5 (zf6 t.1 n0) t.1 t.2.1 t.2.2.1 m t.2.2.2.1 t.2.2.2.2) fun a => .e)) .e)) .e))) .e))
theorem zFV:zd 216 ⟨[.str],[.st 3,.int],2,[],zty⟩:=cqG (((cN zfw).add zi8).add zpg) 85 Tryz.func216 (.n 2 (.q (.j [(0,.str),(2,.po 3),(25,.bool)] [] (fun t=>znr t.1 t.2.2) .e .e) (.n 1 (.q (.w [(0,.str),(2,.po 3),(4,.int)] [] (fun m t=>zgF t.1 m t.2.2) fun n0 => .q (.j [(0,.str),(2,.po 3),(4,.int),(36,.bool)] [] (fun t=>znq (zgF t.1 n0) t.1 t.2.2.1 t.2.2.2) .e .e) .e) (.n 3 (.q (.n 1 (.w [(2,.po 3),(4,.int),(5,.str),(6,.int)] [] (fun m t=>zkH t.2.1 t.2.2.1 m t.2.2.2) fun a => .e)) .e))))))
theorem zBI:zd 161 ⟨[.str],[.so 135 (.st 3),.int],2,[],zoS⟩:=cqG (cN zFV) 58 Tryz.func161 (.n 2 (.q (.w [(0,.str),(4,.so 135 (.st 3))] [] (fun m t=>zdt m t.1 t.2) fun n0 => .n 5 (.j [(0,.str),(4,.so 135 (.st 3)),(5,.po 3),(7,.int),(37,.bool)] [] (fun t=>zhX (zdt n0) t.1 t.2.1 t.2.2.1 t.2.2.2.1 t.2.2.2.2) .e .e)) .e))
theorem zDq:zd 162 ⟨[.sl (.st 3),.sl (.st 3)],[.bool],1,[],fun p=>zqI p.1 p.2⟩:=cqG CLs.nil 26 Tryz.func162 (.n 2 (.q (.n 1 (.w [(0,.sl (.st 3)),(1,.sl (.st 3)),(5,.int)] [] (fun m t=>zjd t.1 t.2.1 m t.2.2) fun n0 => .e)) .e))
theorem zDr:zd 107 ⟨[.sl (.st 3)],[.str,.int],2,[],zqJ⟩:=cqG ((cN zDq).add zBI) 89 Tryz.func107 (.n 2 (.q (.n 1 (.w [(0,.sl (.st 3)),(4,.str),(5,.int)] [] (fun m t=>zct t.1 m t.2.1 t.2.2) fun n0 => .n 1 (.q (.n 2 (.q (.n 1 (.w [(0,.sl (.st 3)),(4,.str),(5,.int),(6,.int)] [] (fun m t=>zfC (zct t.1 n0) t.1 t.2.2.1 m t.2.1 t.2.2.2) fun a => .n 1 (.q (.j [(0,.sl (.st 3)),(4,.str),(5,.int),(6,.int)] [] (fun t=>zlX (zfC (zct t.1 n0) t.1 t.2.2.1 a) t.1 t.2.1 t.2.2.1 t.2.2.2) .e .e) .e))) .e)) .e))) .e))
theorem zBJ:zd 69 ⟨[.st 2],[.int],1,[],zoT⟩:=cqG ((((((cN zDr).add zBH).add zBG).add zDp).add zi8).add zBE) 126 Tryz.func69 (.n 1 (.j [(1,.po 2),(3,.bool)] [] (fun t=>zb3 t.1 t.2) .e (.n 2 (.q (.n 1 (.w [(1,.po 2),(3,.bool),(4,.so 9 .str),(5,.so 9 .str),(6,.int)] [] (fun m t=>zf8 t.1 t.2.2.1 t.2.2.2.1 m t.2.1 t.2.2.2.2) fun n0 => .n 1 (.q (.n 1 (.q (.n 1 (.w [(1,.po 2),(3,.bool),(4,.so 9 .str),(5,.so 9 .str),(6,.int),(7,.bool),(8,.int)] [] (fun m t=>zf7 (zf8 t.1 t.2.2.1 t.2.2.2.1 n0) t.2.1 t.2.2.1 t.2.2.2.1 t.2.2.2.2.1 m t.2.2.2.2.2.1 t.2.2.2.2.2.2) fun a => .e)) .e)) .e))) (.n 1 (.q (.n 1 (.j [(1,.po 2),(3,.bool),(10,.int),(76,.int),(77,.bool)] [] (fun t=>zkI t.1 t.2.1 t.2.2.1 t.2.2.2.1 t.2.2.2.2) .e .e)) .e))))))
theorem zBK:zd 44 ⟨[.sl (.st 2)],[.int,.int],2,[],zoU⟩:=cqG (cN zBJ) 21 Tryz.func44 (.n 1 (.q (.n 1 (.w [(0,.sl (.st 2)),(4,.int)] [] (fun m t=>zhY t.1 m t.2) fun n0 => .e)) .e))
theorem zBL:zd 24 ⟨[.st 10],[.int],1,[],zoV⟩:=cqG ((cN zBK).add zBB) 48 Tryz.func24 .e
theorem zBM:zd 12 ⟨[.st 0],[.int],1,[],zei⟩:=cqG ((cN zBL).add zBq) 22 Tryz.func12 (.n 2 (.q (.j [(3,.int),(20,.bool)] [] (fun t=>zhZ t.1 t.2) .e .e) .e))
theorem zKJ:zd 5 ⟨[.st 0],[.st 9,.bool],2,[],zDV⟩:=cqG ((cN zBM).add zFS) 10 Tryz.func5 .e
theorem zDs:zd 13 ⟨[.int,.int],[.int,.int],2,[],fun p=>zn1 p.1 p.2⟩:=cqG CLs.nil 14 Tryz.func13 .e
theorem zFW:zd 6 ⟨[.st 0,.int],[.so 56 (.st 4),.int],2,[],fun p=>zlC p.1 p.2⟩:=cqG (cN zDs) 59 Tryz.func6 (.n 5 (.q (.w [(1,.int),(6,.int),(7,.int),(8,.so 56 (.st 4))] [] (fun m t=>zfe t.1 m t.2.1 t.2.2.1 t.2.2.2) fun n0 => .n 2 (.j [(1,.int),(6,.int),(7,.int),(8,.so 56 (.st 4))] [] (fun t=>zkJ (zfe t.1 n0) t.1 t.2.1 t.2.2.1 t.2.2.2) .e .e)) .e))
theorem zFX:zd 14 ⟨[.st 0,.sl (.st 4)],[.st 16],1,[],fun p=>zpV p.1 p.2⟩:=cqG (cN zwY) 9 Tryz.func14 .e
theorem zb7:zd 108 ⟨[.str,.sl .str],[.str],1,[],fun p=>zaM p.1 p.2⟩:=cqG (cN zzs) 8 Tryz.func108 .e
theorem zgw:zd 164 ⟨[.str],[.po 18],1,[],zg2⟩:=cqG CLs.nil 6 Tryz.func164 .e
theorem zuo:zd 296 zq3:=cqG CLs.nil 12 Tryz.func296 .e
theorem zrH:zd 293 zsK:=cqG (cN zuo) 11 Tryz.func293 .e
theorem zmU:zd 175 zsL:=cqG CLs.nil 9 Tryz.func175 .e
theorem zsl:zd 294 zAo:=cqG (cN zdU) 9 Tryz.func294 .e
theorem zfb:zd 286 ⟨[.pt 18],[.int],1,[],zcT⟩:=cqG CLs.nil 9 Tryz.func286 .e
theorem zdV:zd 226 ⟨[.pt 18],[.str],1,[],zbe⟩:=cqG CLs.nil 14 Tryz.func226 .e
theorem zbE:zd 224 ⟨[.pt 18],[.bool],1,[],zbb⟩:=cqG (cN zdV) 6 Tryz.func224 .e
theorem zcN:zd 221 ⟨[.pt 18],[.u8,.bool],2,[],zbf⟩:=cqG (cN zbE) 15 Tryz.func221 .e
theorem zaL:zd 222 ⟨[.po 18,.fn],[.str,.po 18],1,[0],fun p=>zaj p.1 p.2⟩:=cqG ((cN zcN).add zfb) 42 Tryz.func222 (.n 2 (.q (.w [(9000,.po 18),(1,.fn),(5,.int)] [(0,9000)] (fun m t=>zcl t.2.1 t.2.2 m t.1) fun n0 => .e) .e))
theorem zbi:zd 220 ⟨[.po 18],[.str,.bool,.po 18],2,[0],zat⟩:=cqG (cN zaL) 10 Tryz.func220 .e
theorem zX:zd 166 ⟨[.po 18,.u8],[.bool,.po 18],1,[0],fun p=>zl p.1 p.2⟩:=cqG (cN zcN) 26 Tryz.func166 .e
theorem zpH:zd 165 ⟨[.st 19,.po 11],[.bool,.po 11,.po 18],1,[1,32],fun p=>zeQ p.1 p.2⟩:=cqG ((cN zX).add zbi) 37 Tryz.func165 (.n 3 (.j [(9001,.po 11),(9032,.po 18),(6,.bool)] [] (fun t=>zdi t.1 t.2.1 t.2.2) (.j [(9001,.po 11),(2,.po 19),(5,.str),(6,.bool),(22,.bool)] [(9032,100002),(1,9001)] (fun t=>zdj t.1 t.2.1 t.2.2.1 t.2.2.2.1 t.2.2.2.2) .e .e) .e))
theorem zb0:zd 236 ⟨[.fn,.sl .str],[.bool],1,[],fun p=>zcm p.1 p.2⟩:=cqG CLs.nil 27 Tryz.func236 (.n 1 (.q (.n 1 (.w [(0,.fn),(8,.sl .str),(9,.int),(10,.int)] [] (fun m t=>ziz t.1 t.2.1 t.2.2.1 m t.2.2.2) fun n0 => .n 2 (.q (.n 2 (.w [(0,.fn),(6,.str),(8,.sl .str),(9,.int),(10,.int),(15,.int),(16,.int)] [] (fun m t=>zkK (ziz t.1 t.2.2.1 t.2.2.2.1 n0) t.1 t.2.1 t.2.2.2.2.1 t.2.2.2.2.2.1 m t.2.2.2.2.2.2) fun a => .e)) .e))) .e))
theorem zyq:zd 237 ⟨[.u8],[.int],1,[],zlY⟩:=cqG ((cN zuo).add zmU) 13 Tryz.func237 .e
theorem zsm:zd 174 ⟨[.str,.int,.int,.fn],[.int,.int],2,[],fun p=>zkL p.1 p.2.1 p.2.2.1 p.2.2.2⟩:=cqG ((cN zyq).add zb0) 50 Tryz.func174 (.n 3 (.q (.n 1 (.w [(0,.str),(1,.int),(2,.int),(10,.int),(23,.int),(24,.int)] [] (fun m t=>zg4 t.1 t.2.1 t.2.2.1 t.2.2.2.2.1 m t.2.2.2.1 t.2.2.2.2.2) fun n0 => .e)) .e))
theorem zhx:zd 113 ⟨[.str,.int],[.int,.int],2,[],fun p=>zdP p.1 p.2⟩:=cqG (cN zsm) 11 Tryz.func113 .e
theorem zsn:zd 235 ⟨[.int,.int],[.str],1,[],fun p=>zkM p.1 p.2⟩:=cqG (cN ztS) 10 Tryz.func235 .e
theorem zfZ:zd 173 ⟨[.int],[.str],1,[],zdk⟩:=cqG (cN zsn) 5 Tryz.func173 .e
theorem zpI:zd 112 zrL:=cqG ((cN zfZ).add zhx) 21 Tryz.func112 .e
theorem ze3:COk Tryz.prog G 170 zAi:=zgo rfl rfl rfl rfl ⟨_,Tryz.func170,by kernel_rfl,by kernel_rfl⟩ fun w h p r on gl a=>by
 have a:zbM p=some r:=a;unfold zbM at a
 split at a
 ·rename_i d
  obtain ⟨bs,c,a⟩:=ob a;cases a;exact zQA (fun x=>zb4 x 255) (fun x b W f h=>zA0 (k:=zrL) rfl rfl rfl rfl zpI fpok (p:=(x,(255:Int))) (r:=b) h (h:=fun b=>W.heap[b]?) (fun _ _ e=>e) (zJ7 f)) p d bs c w (gl.2 w on)
 ·cases a
theorem zvB:zd 230 ⟨[.str,.bool],[.int],1,[],fun p=>ze6 p.1 p.2⟩:=cqG (((cN zb0).add ze3).add zmT) 53 Tryz.func230 (.n 4 (.q (.n 1 (.w [(1,.bool),(5,.so 9 .str),(6,.int),(14,.int),(15,.int)] [(13,5)] (fun m t=>zbj t.1 t.2.1 t.2.2.2.1 m t.2.2.1 t.2.2.2.2) fun n0 => .n 2 (.q (.n 1 (.j [(1,.bool),(5,.so 9 .str),(6,.int),(8,.str),(14,.int),(15,.int),(20,.bool)] [(13,5)] (fun t=>zeA (zbj t.1 t.2.1 t.2.2.2.2.1 n0) t.2.2.1 t.2.2.2.1 t.2.2.2.2.2.1 t.2.2.2.2.2.2) .e (.q .e (.j [(1,.bool),(5,.so 9 .str),(6,.int),(14,.int),(15,.int),(35,.bool)] [(13,5)] (fun t=>zez (zbj t.1 t.2.1 t.2.2.2.1 n0) t.2.2.1 t.2.2.2.2.1 t.2.2.2.2.2) .e .e)))) .e))) .e))
theorem znT:zd 169 ⟨[.str],[.bool],1,[],ziA⟩:=cqG ((cN zvB).add zlQ) 35 Tryz.func169 .e
theorem zuI:zd 232 ⟨[.str],[.bool],1,[],ziB⟩:=cqG (cN zb0) 17 Tryz.func232 .e
theorem zmo:zd 233 zm7:=cqG (((cN zsl).add zmU).add zrH) 13 Tryz.func233 .e
theorem zup:zd 234 zwj:=cqG (cN zsl) 5 Tryz.func234 .e
theorem zmV:zd 171 ⟨[.str],[.bool],1,[],zfD⟩:=cqG (((cN zup).add zmo).add zuI) 23 Tryz.func171 (.n 2 (.q (.w [(0,.str)] [] (fun m t=>zc8 m t) fun n0 => .e) .e))
theorem zBN:zd 110 ⟨[.str],[.st 12,.bool],2,[],zmA⟩:=cqG (((cN zmV).add ze3).add znT) 51 Tryz.func110 (.n 2 (.q (.j [(0,.str),(2,.po 12),(4,.po 12),(7,.bool)] [] (fun t=>zf9 t.1 t.2.2.1 t.2.2.2) .e .e) .e))
theorem zmp:zd 172 ⟨[.str,.u8],[.int],1,[],fun p=>zbu p.1 p.2⟩:=cqG CLs.nil 19 Tryz.func172 (.n 1 (.q (.n 1 (.w [(0,.str),(1,.u8),(5,.int)] [] (fun m t=>zbc t.1 t.2.1 m t.2.2) fun n0 => .e)) .e))
theorem zj3:zd 111 ⟨[.str,.u8],[.int],1,[],fun p=>zc0 p.1 p.2⟩:=cqG (cN zmp) 8 Tryz.func111 .e
theorem zen:zd 71 ⟨[.str],[.st 12,.int],2,[],zcv⟩:=cqG ((((cN zhx).add zpI).add zj3).add zBN) 49 Tryz.func71 .e
theorem zfx:zd 178 ⟨[.str],[.bool],1,[],zel⟩:=cqG (cN zb0) 10 Tryz.func178 .e
theorem zeO:zd 115 ⟨[.str,.str],[.bool],1,[],fun p=>zbW p.1 p.2⟩:=cqG (cN zjM) 9 Tryz.func115 .e
theorem zvC:zd 167 ⟨[.st 19,.po 11],[.bool,.po 11,.po 18],1,[1,32],fun p=>zjw p.1 p.2⟩:=cqG ((((cN zeO).add zfx).add zen).add zaL) 38 Tryz.func167 (.n 3 (.j [(9001,.po 11),(9032,.po 18),(4,.bool)] [] (fun t=>zeB t.1 t.2.1 t.2.2) .e .e))
theorem zf0:zd 350 ⟨[.str,.str],[.bool],1,[],fun p=>zb2 p.1 p.2⟩:=cqG CLs.nil 18 Tryz.func350 .e
theorem zpJ:zd 287 ⟨[.str,.str],[.str,.bool],2,[],fun p=>zeR p.1 p.2⟩:=cqG (cN zf0) 15 Tryz.func287 .e
theorem zi1:zd 225 ⟨[.str,.str],[.str,.bool],2,[],fun p=>zdE p.1 p.2⟩:=cqG (cN zpJ) 11 Tryz.func225 .e
theorem zj4:zd 351 ⟨[.str,.str],[.bool],1,[],fun p=>zc1 p.1 p.2⟩:=cqG CLs.nil 21 Tryz.func351 .e
theorem zpK:zd 288 ⟨[.str,.str],[.str,.bool],2,[],fun p=>zeS p.1 p.2⟩:=cqG (cN zj4) 18 Tryz.func288 .e
theorem zm4:zd 227 ⟨[.str,.str],[.str,.bool],2,[],fun p=>zff p.1 p.2⟩:=cqG (cN zpK) 11 Tryz.func227 .e
theorem zvD:zd 306 zp0:=cqG CLs.nil 9 Tryz.func306 .e
theorem zyr:zd 307 zsO:=cqG CLs.nil 9 Tryz.func307 .e
theorem zrI:zd 245 zsP:=cqG ((cN zyr).add zvD) 13 Tryz.func245 .e
theorem zzx:zd 228 ⟨[.str],[.bool],1,[],zns⟩:=cqG (cN zb0) 41 Tryz.func228 (.n 2 (.q (.n 1 (.w [(0,.str),(3,.int),(4,.int)] [] (fun m t=>zb9 t.1 m t.2.1 t.2.2) fun n0 => .n 1 (.q (.j [(0,.str),(3,.int),(4,.int)] [] (fun t=>ze7 (zb9 t.1 n0) t.1 t.2.1 t.2.2) .e .e) .e))) .e))
theorem zqw:zd 168 ⟨[.st 19,.po 11],[.bool,.po 11,.po 18],1,[1,32],fun p=>zfg p.1 p.2⟩:=cqG (((((cN zzx).add zm4).add zi1).add zdV).add zbE) 40 Tryz.func168 (.n 5 (.j [(9001,.po 11),(9032,.po 18),(4,.bool)] [] (fun t=>zbA t.1 t.2.1 t.2.2) .e .e))
theorem zFY:zd 109 ⟨[.str],[.st 11,.int],2,[],ztz⟩:=cqG (((((cN zqw).add zvC).add zX).add zpH).add zgw) 30 Tryz.func109 .e
theorem zzy:zd 70 ⟨[.st 11],[.str,.int],2,[],zn2⟩:=cqG ((cN zFY).add zb7) 44 Tryz.func70 (.n 2 (.j [(1,.po 11),(4,.so 9 .str)] [] (fun t=>zmC t.1 t.2) .e (.j [(1,.po 11),(4,.so 9 .str)] [] (fun t=>zmB t.1 t.2) .e .e)))
theorem zzz:zd 114 ⟨[.str],[.bool],1,[],zkN⟩:=cqG ((cN ze3).add zmV) 10 Tryz.func114 .e
theorem zys:zd 72 ⟨[.sl (.st 1)],[.int],1,[],zlZ⟩:=cqG ((cN zeO).add zzz) 30 Tryz.func72 (.n 1 (.q (.n 1 (.w [(0,.sl (.st 1)),(5,.sl (.st 1)),(6,.int),(7,.int)] [] (fun m t=>zga t.1 t.2.1 t.2.2.1 m t.2.2.2) fun n0 => .e)) .e))
theorem zyt:zd 301 ⟨[.str],[.bool],1,[],zl0⟩:=cqG ((cN zb0).add zrH) 17 Tryz.func301 .e
theorem zdW:zd 302 ⟨[.str,.str],[.bool],1,[],fun p=>zbv p.1 p.2⟩:=cqG (cN zf0) 8 Tryz.func302 .e
theorem zuq:zd 303 ⟨[.str,.str],[.str,.str],2,[],fun p=>zh0 p.1 p.2⟩:=cqG (cN zjM) 19 Tryz.func303 .e
theorem zzA:zd 242 ⟨[.str],[.st 13],1,[],znt⟩:=cqG ((((cN zuq).add zdW).add zyt).add zdU) 56 Tryz.func242 (.n 2 (.j [(0,.str),(2,.po 13),(3,.po 13)] [] (fun t=>zg9 t.1 t.2.2) (.n 1 (.j [(0,.str),(2,.po 13),(3,.po 13),(4,.int),(14,.bool)] [] (fun t=>zjy t.1 t.2.2.1 t.2.2.2.1 t.2.2.2.2) .e .e)) (.j [(0,.str),(2,.po 13),(3,.po 13)] [] (fun t=>zg8 t.1 t.2.2) .e (.n 1 (.j [(0,.str),(2,.po 13),(3,.po 13)] [] (fun t=>zg7 t.1 t.2.2) .e (.j [(2,.po 13),(3,.po 13)] [] (fun t=>zjx t.2) .e .e))))))
theorem zso:zd 359 zuB:=cqG (((cN zsl).add zup).add zmo) 13 Tryz.func359 .e
theorem zzB:zd 304 ⟨[.str,.str],[.bool],1,[],fun p=>zgG p.1 p.2⟩:=cqG (((cN zdU).add zso).add zb0) 49 Tryz.func304 (.n 1 (.q (.n 1 (.w [(0,.str),(1,.str),(5,.int)] [] (fun m t=>zcU t.1 t.2.1 m t.2.2) fun n0 => .n 1 (.q (.n 1 (.q .e (.j [(0,.str),(1,.str),(5,.int),(35,.bool)] [] (fun t=>zjz (zcU t.1 t.2.1 n0) t.2.2.1 t.2.2.2) .e .e))) .e))) .e))
theorem zBO:zd 243 ⟨[.st 13],[.bool],1,[],zoW⟩:=cqG ((((cN zdW).add zuH).add zzB).add zuq) 63 Tryz.func243 .e
theorem zzC:zd 177 ⟨[.str],[.st 13,.int],2,[],znu⟩:=cqG ((cN zBO).add zzA) 12 Tryz.func177 .e
theorem zur:zd 116 ⟨[.str],[.bool],1,[],zh1⟩:=cqG (cN zzC) 12 Tryz.func116 .e
theorem zwZ:zd 73 ⟨[.sl (.st 1)],[.int],1,[],zkO⟩:=cqG (cN zur) 30 Tryz.func73 (.n 1 (.q (.n 1 (.w [(0,.sl (.st 1)),(5,.sl (.st 1)),(6,.int),(7,.int)] [] (fun m t=>zfh t.1 t.2.1 t.2.2.1 m t.2.2.2) fun n0 => .e)) .e))
theorem zus:zd 45 ⟨[.st 5],[.int],1,[],zkb⟩:=cqG ((((cN zwZ).add zys).add zen).add zzy) 54 Tryz.func45 (.n 2 (.q (.n 1 (.j [(1,.po 5),(6,.int),(30,.bool)] [] (fun t=>zkP t.1 t.2.1 t.2.2) .e .e)) (.q (.j [(1,.po 5),(44,.bool)] [] (fun t=>zh2 t.1 t.2) .e .e) .e)))
theorem zlR:zd 46 ⟨[.int],[.pn 27,.int],2,[],zdu⟩:=cqG CLs.nil 13 Tryz.func46 .e
theorem zut:zd 47 ⟨[.int],[.pn 21,.int],2,[],zh3⟩:=cqG CLs.nil 14 Tryz.func47 .e
theorem zvE:zd 117 ⟨[.int],[.sn 9 .str],1,[],zn3⟩:=cqG CLs.nil 10 Tryz.func117 .e
theorem zko:zd 179 ⟨[.st 15],[.int],1,[],ze8⟩:=cqG (((cN zfY).add zb0).add zfx) 22 Tryz.func179 .e
theorem zDt:zd 118 ⟨[.st 14],[.bool],1,[],zqK⟩:=cqG ((cN zko).add zfx) 35 Tryz.func118 (.n 1 (.q (.n 2 (.q .e (.j [(1,.po 14),(4,.int),(15,.bool)] [] (fun t=>zl1 t.1 t.2.1 t.2.2) .e .e))) .e))
theorem zxY:zd 314 ⟨[],[.so 9 .str],1,[],fun _=>ztA⟩:=cqG CLs.nil 2 Tryz.func314 .e
theorem zd1:COk Tryz.prog G 249 zGz:=zgo rfl rfl rfl rfl ⟨_,Tryz.func249,by kernel_rfl,by kernel_rfl⟩ fun w h p r on gl a=>by
 have a:(if List.length (α:=UInt8) p<4294967281 then List.mapM zck p else none)=some r:=a
 split at a
 ·rename_i f
  exact zLE zck ⟨List.toArray (α:=UInt8) p⟩ r w (gl.2 w on).1 f a fun b c w d _=>zA0 (k:=zq3) rfl rfl rfl rfl zpe zlx (p:=b) (r:=c) d (h:=fun _=>none) (fun _ _ e=>by cases e) (zlw _)
 ·cases a
theorem zly:zd 315 ⟨[.sl .str,.str],[.int],1,[],fun p=>zca p.1 p.2⟩:=cqG CLs.nil 19 Tryz.func315 (.n 1 (.q (.n 1 (.w [(0,.sl .str),(1,.str),(7,.int),(8,.int)] [] (fun m t=>za8 t.1 t.2.1 t.2.2.1 m t.2.2.2) fun n0 => .e)) .e))
theorem zas:zd 248 ⟨[.sl .str,.str],[.bool],1,[],fun p=>zU p.1 p.2⟩:=cqG (cN zly) 9 Tryz.func248 .e
theorem zFZ:zd 247 ⟨[.str],[.bool],1,[],ztB⟩:=cqG (((cN zas).add zd1).add zxY) 7 Tryz.func247 .e
theorem zF0:zd 180 ⟨[.str],[.bool],1,[],ztC⟩:=cqG (((cN zas).add zd1).add zFZ) 13 Tryz.func180 .e
theorem zxZ:zd 119 ⟨[.str],[.bool],1,[],zpX⟩:=cqG ((cN zF0).add zfx) 10 Tryz.func119 .e
theorem zDu:zd 250 ⟨[.sl (.st 3)],[.so 9 .str],1,[],zqL⟩:=cqG (cN zas) 29 Tryz.func250 (.n 2 (.q (.n 1 (.w [(3,.so 9 .str),(6,.sl (.st 3)),(7,.int),(8,.int)] [] (fun m t=>zfE t.2.1 t.2.2.1 m t.1 t.2.2.2) fun n0 => .n 2 (.q (.n 1 (.j [(3,.so 9 .str),(5,.po 3),(6,.sl (.st 3)),(7,.int),(8,.int),(21,.bool)] [] (fun t=>zl2 (zfE t.2.2.1 t.2.2.2.1 n0) t.1 t.2.1 t.2.2.2.2.1 t.2.2.2.2.2) .e .e)) .e))) .e))
theorem zlk:zd 399 ⟨[.po 18,.str],[.bool,.po 18],1,[0],fun p=>zcO p.1 p.2⟩:=cqG ((cN zdW).add zdV) 21 Tryz.func399 .e
theorem zsp:zd 400 ⟨[.po 28,.str],[.po 28],0,[0],fun p=>zeC p.1 p.2⟩:=cqG CLs.nil 48 Tryz.func400 (.q (.n 1 (.j [(9000,.po 28),(1,.str),(4,.int),(23,.bool)] [(0,9000)] (fun t=>zeT t.1 t.2.1 t.2.2.1 t.2.2.2) .e .e)) .e)
theorem zrS:zd 401 ⟨[.po 28],[.bool,.po 28],1,[0],zfN⟩:=cqG (((cN zaL).add zbi).add zX) 46 Tryz.func401 (.n 2 (.j [(9000,.po 28),(3,.po 3)] [(0,9000)] (fun t=>zd5 t.1 t.2) .e (.n 1 (.j [(9000,.po 28),(2,.bool)] [] (fun t=>zd4 t.1 t.2) .e .e))))
theorem zsq:zd 363 ⟨[.po 28],[.bool,.po 28],1,[0],zgH⟩:=cqG ((((cN zaL).add zrS).add zsp).add zlk) 30 Tryz.func363 .e
theorem zDv:zd 317 ⟨[.str],[.so 135 (.st 3),.int],2,[],zqM⟩:=cqG (((cN zsq).add zbE).add zgw) 28 Tryz.func317 (.n 2 (.q (.w [(4,.po 28)] [] (fun m t=>zje m t) fun n0 => .e) .e))
theorem zjN:zd 318 ⟨[.sl (.st 3),.sl (.st 3)],[.bool],1,[],fun p=>zbw p.1 p.2⟩:=cqG CLs.nil 26 Tryz.func318 (.n 2 (.q (.n 1 (.w [(0,.sl (.st 3)),(1,.sl (.st 3)),(12,.int),(13,.int)] [] (fun m t=>zaO t.1 t.2.1 t.2.2.1 m t.2.2.2) fun n0 => .e)) .e))
theorem zF1:zd 251 ⟨[.sl (.st 3)],[.str,.int],2,[],ztD⟩:=cqG ((((cN zjN).add zDv).add zb7).add zsj) 57 Tryz.func251 (.n 2 (.q (.n 1 (.w [(0,.sl (.st 3)),(4,.so 9 .str),(10,.sl (.st 3)),(11,.int),(12,.int)] [] (fun m t=>zd6 t.1 t.2.2.1 t.2.2.2.1 m t.2.1 t.2.2.2.2) fun n0 => .n 2 (.j [(0,.sl (.st 3)),(4,.so 9 .str),(10,.sl (.st 3)),(11,.int),(12,.int)] [] (fun t=>ziD (zd6 t.1 t.2.2.1 t.2.2.2.1 n0) t.2.1 t.2.2.2.2) .e .e))) .e))
theorem zDw:zd 181 ⟨[.int,.sl (.st 3)],[.bool],1,[],fun p=>zqN p.1 p.2⟩:=cqG ((((cN zF1).add zas).add zDu).add zvE) 31 Tryz.func181 (.n 1 (.j [(1,.sl (.st 3)),(5,.so 9 .str)] [] (fun t=>zl3 t.1 t.2) .e (.q (.n 1 (.w [(1,.sl (.st 3)),(5,.so 9 .str),(13,.so 9 .str),(14,.int),(15,.int)] [] (fun m t=>zjf t.1 t.2.1 t.2.2.1 t.2.2.2.1 m t.2.2.2.2) fun n0 => .e)) .e)))
theorem zH3:zd 120 ⟨[.st 2],[.bool],1,[],zv1⟩:=cqG ((cN zxZ).add zDw) 41 Tryz.func120 (.n 1 (.q (.n 1 (.q (.q (.j [(1,.po 2)] [] (fun t=>zoX t) .e .e) .e) .e)) .e))
theorem zDx:zd 74 ⟨[.st 2],[.int],1,[],zqO⟩:=cqG ((((cN zH3).add zxZ).add zDt).add zvE) 24 Tryz.func74 .e
theorem zph:zd 48 ⟨[.sl (.st 2)],[.int,.int],2,[],zh5⟩:=cqG (cN zDx) 24 Tryz.func48 (.n 1 (.q (.n 1 (.w [(0,.sl (.st 2)),(7,.sl (.st 2)),(8,.int),(9,.int)] [] (fun m t=>zh4 t.1 t.2.1 t.2.2.1 m t.2.2.2) fun n0 => .e)) .e))
theorem zx0:zd 75 ⟨[.int,.int],[.pn 23,.int],2,[],fun p=>ziE p.1 p.2⟩:=cqG CLs.nil 24 Tryz.func75 (.n 1 (.q (.j [(0,.int),(1,.int),(19,.bool)] [] (fun t=>zdl t.1 t.2.1 t.2.2) .e .e) .e))
theorem zju:zd 51 ⟨[.int,.int],[.st 29],1,[],fun p=>zbN p.1 p.2⟩:=cqG (cN zx0) 15 Tryz.func51 .e
theorem zBP:zd 27 ⟨[.st 5,.st 17,.sl (.st 2)],[.pn 20,.int],2,[],fun p=>zdv p.1 p.2.1 p.2.2⟩:=cqG (((((((cN zju).add zlu).add zpF).add zph).add zut).add zlR).add zus) 106 Tryz.func27 (.n 2 (.j [(2,.sl (.st 2)),(3,.po 5),(4,.po 17),(10,.int)] [] (fun t=>zcy t.1 t.2.1 t.2.2.1 t.2.2.2) .e (.j [(2,.sl (.st 2)),(3,.po 5),(4,.po 17),(10,.int),(11,.pn 21),(12,.int)] [] (fun t=>zcx t.1 t.2.1 t.2.2.1 t.2.2.2.1 t.2.2.2.2.1 t.2.2.2.2.2) .e (.n 4 (.q (.n 1 (.w [(4,.po 17),(15,.po 20),(72,.sl (.st 2)),(73,.int),(74,.int)] [] (fun m t=>zcw t.1 t.2.2.1 t.2.2.2.1 m t.2.1 t.2.2.2.2) fun n0 => .e)) .e)))))
theorem zH4:zd 15 ⟨[.st 0],[.pn 30,.int],2,[],zdX⟩:=cqG (cN zBP) 52 Tryz.func15 .e
theorem zsr:zd 32 ⟨[.st 4],[.int],1,[],zkQ⟩:=cqG CLs.nil 22 Tryz.func32 (.n 1 (.q (.n 1 (.j [(1,.po 4),(4,.int),(5,.bool)] [] (fun t=>zjA t.1 t.2.1 t.2.2) .e .e)) .e))
theorem zm5:zd 121 ⟨[.nil],[.bool],1,[],fun _=>zhy⟩:=cqG CLs.nil 12 Tryz.func121 .e
theorem zll:zd 121 ⟨[.pt 23],[.bool],1,[],zfO⟩:=cqG CLs.nil 12 Tryz.func121 .e
theorem ztV:zd 76 ⟨[.pt 29],[.bool],1,[],zfi⟩:=cqG ((cN zll).add zm5) 15 Tryz.func76 .e
theorem zmq:zd 77 ⟨[.nil],[.bool],1,[],fun _=>zgI⟩:=cqG CLs.nil 12 Tryz.func77 .e
theorem zuJ:zd 122 ⟨[.pt 32],[.int],1,[],zgc⟩:=cqG CLs.nil 13 Tryz.func122 .e
theorem zkp:zd 77 ⟨[.pt 21],[.bool],1,[],zcn⟩:=cqG (cN zuJ) 12 Tryz.func77 .e
theorem zpL:zd 52 ⟨[.pt 20],[.bool],1,[],zI⟩:=cqG (((cN zkp).add zmq).add ztV) 30 Tryz.func52 .e
theorem zjO:zd 78 ⟨[.nil,.str],[.int,.bool,.int],3,[],fun p=>zgd p.2⟩:=cqG CLs.nil 72 Tryz.func78 .e
theorem zvF:zd 124 ⟨[.int],[.int],1,[],zqP⟩:=cqG CLs.nil 8 Tryz.func124 .e
theorem zgx:zd 125 ⟨[.nil],[.st 34,.bool],2,[],fun _=>zeq⟩:=cqG CLs.nil 25 Tryz.func125 .e
theorem ze4:zd 271 ⟨[.sl (.st 15)],[.po 36],1,[],zfP⟩:=cqG (cN zoB) 7 Tryz.func271 .e
theorem zcu:zd 331 ⟨[.pt 36],[.so 255 (.st 15)],1,[],zcb⟩:=cqG (cN zoB) 10 Tryz.func331 .e
theorem zd2:zd 345 ⟨[.str,.str],[.bool],1,[],fun p=>zbX p.1 p.2⟩:=cqG (cN zd1) 10 Tryz.func345 .e
theorem zf1:zd 272 ⟨[.pt 36,.str],[.so 9 .str],1,[],fun p=>zcz p.1 p.2⟩:=cqG ((cN zd2).add zcu) 26 Tryz.func272 (.n 2 (.q (.n 1 (.w [(1,.str),(5,.so 9 .str),(9,.so 255 (.st 15)),(10,.int),(11,.int)] [] (fun m t=>zdF t.1 t.2.2.1 t.2.2.2.1 m t.2.1 t.2.2.2.2) fun n0 => .e)) .e))
theorem zrT:zd 466 ⟨[.po 18,.int],[.bool,.po 18],1,[0],fun p=>zfQ p.1 p.2⟩:=cqG (cN zfb) 19 Tryz.func466 .e
theorem zj5:zd 405 ⟨[.po 38,.int],[.po 38],0,[0],fun p=>zc2 p.1 p.2⟩:=cqG ((cN zfb).add zfY) 36 Tryz.func405 (.j [(9000,.po 38)] [(0,9000)] (fun t=>zdm t) .e .e)
theorem znd:zd 442 ⟨[.po 38],[.bool,.po 38],1,[0],zcX⟩:=cqG ((cN zX).add zcN) 52 Tryz.func442 (.n 1 (.q (.n 1 (.w [(9000,.po 38),(3,.int)] [(0,9000)] (fun m t=>zaa m t.1 t.2) fun n0 => .e)) .e))
theorem zrJ:COk Tryz.prog G 443 zAv:=ztO zAR hNm tyk (((((cN zrT).add zrI).add zcN).add zX).add zfb) (.lf 465 (fnS Tryz.func465)) 41 60 Tryz.func443 (by kernel_rfl) (hn := .n 4 (.q (.w [(4,.int),(5,.po 39),(6,.bool)] [(9000,100005)] (fun m t=>zc9 t.1 m t.2.1 t.2.2) fun n0 => .q (.j [(4,.int),(5,.po 39),(6,.bool),(25,.bool)] [(9000,100005)] (fun t=>ziF (zc9 t.1 n0) t.1 t.2.1 t.2.2.1 t.2.2.2) .e .e) .e) .e)) (by unfold zui opJ zxI; kernel_rfl)
theorem zpi:zd 404 ⟨[.po 38],[.bool,.po 38],1,[0],zd7⟩:=cqG ((((((cN zrJ).add zcN).add znd).add zj5).add zX).add zfb) 55 Tryz.func404 .e
theorem zss:zd 368 ⟨[.str],[.so 9 .str,.int],2,[],zkR⟩:=cqG ((((cN zj5).add zpi).add zbE).add zgw) 27 Tryz.func368 (.n 2 (.q (.w [(0,.str),(4,.po 38)] [] (fun m t=>zhb t.1 m t.2) fun n0 => .e) .e))
theorem zmW:zd 346 ⟨[.sl .str],[.so 9 .str,.int],2,[],zhn⟩:=cqG ((cN zfx).add zss) 40 Tryz.func346 (.n 2 (.q (.n 1 (.w [(4,.so 9 .str),(11,.sl .str),(12,.int),(13,.int)] [] (fun m t=>zer t.2.1 t.2.2.1 m t.1 t.2.2.2) fun n0 => .n 2 (.q (.n 3 (.q (.n 1 (.w [(4,.so 9 .str),(7,.so 9 .str),(11,.sl .str),(12,.int),(13,.int),(26,.int),(27,.int)] [(25,7)] (fun m t=>zge (zer t.2.2.1 t.2.2.2.1 n0) t.1 t.2.1 t.2.2.2.2.1 t.2.2.2.2.2.1 m t.2.2.2.2.2.2) fun a => .e)) .e)) .e))) .e))
theorem zqx:zd 324 ⟨[.st 37,.sl .str],[.st 35,.int,.po 36],2,[32],fun p=>zdw p.1 p.2⟩:=cqG ((cN zd2).add zmW) 34 Tryz.func324 .e
theorem zpM:zd 325 ⟨[.st 37,.sl .str],[.st 35,.int,.po 36],2,[32],fun p=>zeU p.1 p.2⟩:=cqG ((cN zhx).add zss) 60 Tryz.func325 (.n 2 (.q (.n 1 (.w [(9032,.po 36),(4,.po 35),(6,.int),(15,.sl .str),(16,.int),(17,.int)] [] (fun m t=>zaP t.1 t.2.2.2.1 t.2.2.2.2.1 m t.2.2.1 t.2.2.2.2.2) fun n0 => .n 2 (.q (.n 4 (.w [(9032,.po 36),(4,.po 35),(6,.int),(15,.sl .str),(16,.int),(17,.int),(29,.so 9 .str),(30,.int),(31,.int)] [] (fun m t=>zai (zaP t.1 t.2.2.2.1 t.2.2.2.2.1 n0) t.1 t.2.2.2.2.2.1 t.2.2.2.2.2.2.1 t.2.2.2.2.2.2.2.1 m t.2.2.1 t.2.2.2.2.2.2.2.2) fun a => .n 2 (.q (.n 2 (.q (.j [(9032,.po 36),(4,.po 35),(13,.int),(15,.sl .str),(16,.int),(17,.int),(29,.so 9 .str),(30,.int),(31,.int),(50,.bool)] [] (fun t=>zbo (zai (zaP t.1 t.2.2.2.1 t.2.2.2.2.1 n0) t.1 t.2.2.2.2.2.1 t.2.2.2.2.2.2.1 t.2.2.2.2.2.2.2.1 a) t.1 t.2.2.1 t.2.2.2.2.2.2.2.2.1 t.2.2.2.2.2.2.2.2.2) .e .e) .e)) .e))) .e))) .e))
theorem zx1:zd 255 ⟨[.st 33,.int],[.st 35,.int],2,[],fun p=>znN p.1 p.2⟩:=cqG ((((cN zpM).add zqx).add zf1).add ze4) 51 Tryz.func255 (.n 3 (.q (.j [(1,.int),(4,.po 35),(6,.po 37),(7,.so 9 .str),(8,.so 9 .str),(21,.bool)] [] (fun t=>zkS t.1 t.2.2.1 t.2.2.2.1 t.2.2.2.2.1 t.2.2.2.2.2) .e .e) .e))
theorem zlz:zd 184 ⟨[.st 33],[.st 35,.int],2,[],zeD⟩:=cqG (cN zx1) 8 Tryz.func184 .e
theorem zyu:zd 370 ⟨[.sl (.st 15)],[.so 9 .str],1,[],zl4⟩:=cqG (((((cN zas).add zd1).add zmW).add zf1).add ze4) 47 Tryz.func370 (.n 2 (.q (.n 1 (.w [(3,.so 9 .str),(12,.so 9 .str),(13,.int),(14,.int)] [] (fun m t=>zdb t.2.1 t.2.2.1 m t.1 t.2.2.2) fun n0 => .n 2 (.q (.n 3 (.w [(3,.so 9 .str),(12,.so 9 .str),(13,.int),(14,.int),(24,.so 9 .str),(25,.int),(26,.int)] [] (fun m t=>zda (zdb t.2.1 t.2.2.1 n0) t.2.2.2.1 t.2.2.2.2.1 t.2.2.2.2.2.1 m t.1 t.2.2.2.2.2.2) fun a => .n 2 (.q (.n 2 (.j [(3,.so 9 .str),(9,.str),(12,.so 9 .str),(13,.int),(14,.int),(24,.so 9 .str),(25,.int),(26,.int),(39,.bool)] [] (fun t=>ziG (zda (zdb t.2.2.1 t.2.2.2.1 n0) t.2.2.2.2.1 t.2.2.2.2.2.1 t.2.2.2.2.2.2.1 a) t.1 t.2.1 t.2.2.2.2.2.2.2.1 t.2.2.2.2.2.2.2.2) .e .e)) .e))) .e))) .e))
theorem zF2:zd 445 ⟨[.str,.pt 41],[.bool],1,[],fun p=>znO p.1 p.2⟩:=cqG (cN zd2) 7 Tryz.func445 .e
theorem zjP:zd 467 ⟨[.sl .str,.cl 445 (.pt 41)],[.int],1,[],fun p=>za4 p.1 p.2⟩:=cqG (cN zF2) 19 Tryz.func467 (.n 1 (.q (.n 1 (.w [(0,.sl .str),(1,.cl 445 (.pt 41)),(7,.int),(8,.int)] [] (fun m t=>z7 t.1 t.2.1 t.2.2.1 m t.2.2.2) fun n0 => .e)) .e))
theorem zit:zd 444 ⟨[.sl .str,.cl 445 (.pt 41)],[.bool],1,[],fun p=>zaQ p.1 p.2⟩:=cqG (cN zjP) 9 Tryz.func444 .e
theorem zKK:zd 408 ⟨[.str,.sl .str],[.bool],1,[],fun p=>zv2 p.1 p.2⟩:=cqG (cN zit) 8 Tryz.func408 .e
theorem znU:zd 407 ⟨[.st 15,.pt 40],[.bool],1,[],fun p=>zdc p.1 p.2⟩:=cqG (cN zKK) 8 Tryz.func407 .e
theorem zhu:zd 411 ⟨[.sl (.st 15),.cl 407 (.pt 40)],[.int],1,[],fun p=>zau p.1 p.2⟩:=cqG (cN znU) 19 Tryz.func411 (.n 1 (.q (.n 1 (.w [(0,.sl (.st 15)),(1,.cl 407 (.pt 40)),(7,.int),(8,.int)] [] (fun m t=>zJ t.1 t.2.1 t.2.2.1 m t.2.2.2) fun n0 => .e)) .e))
theorem zgq:zd 406 ⟨[.so 255 (.st 15),.cl 407 (.pt 40)],[.so 255 (.st 15)],1,[],fun p=>zZ p.1 p.2⟩:=cqG ((cN znU).add zhu) 42 Tryz.func406 (.n 3 (.q (.n 1 (.w [(0,.so 255 (.st 15)),(1,.cl 407 (.pt 40)),(5,.int),(6,.int)] [] (fun m t=>zE t.2.1 m t.1 t.2.2.1 t.2.2.2) fun n0 => .e)) .e))
theorem zjQ:zd 369 ⟨[.po 36,.sl .str],[.int,.po 36],1,[0],fun p=>zdd p.1 p.2⟩:=cqG (cN zgq) 29 Tryz.func369 .e
theorem zF3:zd 326 ⟨[.sl (.st 15)],[.so 255 (.st 15)],1,[],ztE⟩:=cqG (((((cN zcu).add zjQ).add zxY).add zyu).add ze4) 14 Tryz.func326 .e
theorem zzD:zd 425 ⟨[.str,.str],[.bool],1,[],fun p=>zsE p.1 p.2⟩:=cqG (((cN zb0).add zdU).add zso) 49 Tryz.func425 (.n 1 (.q (.n 1 (.w [(0,.str),(1,.str),(5,.int)] [] (fun m t=>zem t.1 t.2.1 m t.2.2) fun n0 => .n 1 (.q (.n 1 (.q .e (.j [(0,.str),(1,.str),(5,.int),(25,.bool)] [] (fun t=>zmD (zem t.1 t.2.1 n0) t.2.2.1 t.2.2.2) .e .e))) .e))) .e))
theorem zDy:zd 381 ⟨[.str],[.bool],1,[],zqQ⟩:=cqG ((cN zzD).add zdW) 9 Tryz.func381 .e
theorem zBQ:zd 382 ⟨[.str],[.bool],1,[],zoY⟩:=cqG (cN zzD) 5 Tryz.func382 .e
theorem zx2:zd 336 ⟨[.str],[.str,.str,.bool,.int],4,[],zpY⟩:=cqG (((cN zBQ).add zDy).add zlQ) 23 Tryz.func336 .e
theorem zuu:zd 410 ⟨[.st 42,.str],[.st 42,.bool],2,[],fun p=>zmE p.1 p.2⟩:=cqG (cN zx2) 32 Tryz.func410 (.n 4 (.j [(1,.str),(2,.po 42),(4,.po 42),(7,.bool)] [] (fun t=>zkU t.1 t.2.1 t.2.2.2) .e (.n 1 (.j [(2,.po 42),(4,.po 42),(6,.int)] [] (fun t=>zkT t.1 t.2.2) .e .e))))
theorem zvG:zd 409 ⟨[.str],[.st 42,.bool],2,[],zjB⟩:=cqG (((((cN zuu).add zen).add zjM).add zd1).add zlQ) 58 Tryz.func409 (.n 3 (.q (.j [(2,.po 42),(5,.str),(7,.po 42),(31,.bool)] [] (fun t=>zeE t.2.1 t.2.2.1 t.2.2.2) .e .e) (.n 1 (.j [(2,.po 42),(5,.str),(7,.po 42),(8,.int)] [] (fun t=>zgJ t.2.1 t.2.2.1 t.2.2.2) .e .e))))
theorem zF4:zd 371 ⟨[.str,.str],[.st 42,.bool],2,[],fun p=>ztF p.1 p.2⟩:=cqG (((cN zuu).add zvG).add zdW) 28 Tryz.func371 .e
theorem zst:zd 327 ⟨[.str,.str],[.st 42,.int],2,[],fun p=>zkV p.1 p.2⟩:=cqG ((cN zF4).add zen) 37 Tryz.func327 (.n 1 (.q (.n 1 (.q (.n 1 (.q (.j [(4,.po 42),(6,.po 12),(23,.bool)] [] (fun t=>zjC t.2.1 t.2.2) .e .e) .e)) .e)) .e))
theorem zDz:zd 372 ⟨[.str,.str,.bool],[.str],1,[],fun p=>zqR p.1 p.2.1 p.2.2⟩:=cqG CLs.nil 14 Tryz.func372 .e
theorem zyv:zd 328 ⟨[.st 42],[.str],1,[],zl5⟩:=cqG (cN zDz) 20 Tryz.func328 (.n 3 (.j [(1,.po 42),(3,.str)] [] (fun t=>ziH t.1 t.2) .e .e))
theorem zyw:zd 373 ⟨[.st 12],[.str,.int],2,[],zl6⟩:=cqG (((cN zen).add zb7).add zfZ) 41 Tryz.func373 (.n 2 (.j [(1,.po 12),(4,.so 9 .str)] [] (fun t=>ziJ t.1 t.2) .e (.j [(1,.po 12),(4,.so 9 .str)] [] (fun t=>ziI t.1 t.2) .e .e)))
theorem zyx:zd 412 ⟨[.st 15,.pt 41],[.bool],1,[],fun p=>zho p.1 p.2⟩:=cqG (cN zd2) 8 Tryz.func412 .e
theorem zgy:zd 411 ⟨[.sl (.st 15),.cl 412 (.pt 41)],[.int],1,[],fun p=>zap p.1 p.2⟩:=cqG (cN zyx) 19 Tryz.func411 (.n 1 (.q (.n 1 (.w [(0,.sl (.st 15)),(1,.cl 412 (.pt 41)),(7,.int),(8,.int)] [] (fun m t=>zF t.1 t.2.1 t.2.2.1 m t.2.2.2) fun n0 => .e)) .e))
theorem zpj:zd 375 ⟨[.pt 36,.str],[.str,.bool],2,[],fun p=>zkc p.1 p.2⟩:=cqG (cN zf1) 16 Tryz.func375 .e
theorem zjv:zd 376 ⟨[.po 36,.sl (.st 15)],[.po 36],0,[0],fun p=>zfF p.1 p.2⟩:=cqG CLs.nil 15 Tryz.func376 .e
theorem zrK:zd 374 ⟨[.po 36,.str,.str],[.po 36],0,[0],fun p=>zjh p.1 p.2.1 p.2.2⟩:=cqG ((((cN ztT).add zjQ).add zjv).add zgy) 40 Tryz.func374 .e
theorem zrU:zd 329 ⟨[.po 43,.st 5,.st 42],[.po 43],0,[0],fun p=>zfR p.1 p.2.1 p.2.2⟩:=cqG ((((cN zjv).add zpj).add zrK).add zyw) 44 Tryz.func329 (.n 1 (.j [(9000,.po 43),(4,.po 5)] [(0,9000)] (fun t=>zd8 t.1 t.2) .e .e))
theorem zlm:zd 332 ⟨[.po 43],[.st 34,.int],2,[],zcP⟩:=cqG (cN zcu) 17 Tryz.func332 .e
theorem zm6:zd 448 ⟨[.str,.str],[.bool],1,[],fun p=>zfj p.1 p.2⟩:=cqG (cN zj4) 8 Tryz.func448 .e
theorem zBR:zd 414 ⟨[.str,.sl (.st 1)],[.str,.bool],2,[],fun p=>zoZ p.1 p.2⟩:=cqG (((cN zdU).add zm6).add zi1) 49 Tryz.func414 (.n 1 (.q (.n 1 (.w [(0,.str),(10,.sl (.st 1)),(11,.int),(12,.int)] [] (fun m t=>zeF t.1 t.2.1 t.2.2.1 m t.2.2.2) fun n0 => .e)) .e))
theorem zuK:zd 377 ⟨[.str,.sl (.st 1)],[.str],1,[],fun p=>ziK p.1 p.2⟩:=cqG ((cN zur).add zBR) 27 Tryz.func377 .e
theorem zBS:zd 449 ⟨[.str],[.st 44,.bool],2,[],zmF⟩:=cqG (((((((cN zb0).add zbE).add zaL).add zX).add zbi).add zgw).add zfY) 45 Tryz.func449 (.n 4 (.j [(2,.po 44),(4,.po 18),(6,.bool),(7,.po 44)] [] (fun t=>zkW t.2.1 t.2.2.1 t.2.2.2) .e .e))
theorem zzE:zd 450 ⟨[.str],[.bool],1,[],znv⟩:=cqG (((cN zb0).add zm4).add zi1) 24 Tryz.func450 .e
theorem zsu:zd 415 ⟨[.str],[.st 46,.int],2,[],zkX⟩:=cqG (((cN zzE).add zBS).add zmT) 63 Tryz.func415 (.n 5 (.q (.n 1 (.w [(2,.po 46),(7,.po 46),(41,.sl .str),(42,.int),(43,.int)] [] (fun m t=>zhc t.2.2.1 t.2.2.2.1 m t.2.1 t.2.2.2.2) fun n0 => .e)) .e))
theorem zuv:zd 451 ⟨[.st 45,.str],[.int],1,[],fun p=>zmG p.1 p.2⟩:=cqG (cN zd2) 23 Tryz.func451 (.n 1 (.q (.n 1 (.w [(1,.str),(2,.po 45),(5,.int)] [] (fun m t=>zh7 t.1 t.2.1 m t.2.2) fun n0 => .e)) .e))
theorem zDA:zd 416 ⟨[.st 45,.str],[.str,.bool],2,[],fun p=>zqS p.1 p.2⟩:=cqG (cN zuv) 18 Tryz.func416 .e
theorem zpk:zd 471 ⟨[.str,.str],[.str],1,[],fun p=>zd9 p.1 p.2⟩:=cqG (cN zf0) 13 Tryz.func471 .e
theorem zsv:zd 452 ⟨[.str,.str],[.str],1,[],fun p=>zgK p.1 p.2⟩:=cqG (cN zpk) 8 Tryz.func452 .e
theorem zw0:zd 453 ⟨[.str,.str],[.bool],1,[],fun p=>zkY p.1 p.2⟩:=cqG ((((cN zm6).add zd1).add ze3).add zmV) 36 Tryz.func453 .e
theorem zBT:zd 417 ⟨[.str,.sl (.st 1)],[.str,.bool],2,[],fun p=>zo0 p.1 p.2⟩:=cqG ((cN zw0).add zsv) 34 Tryz.func417 (.n 2 (.q (.n 1 (.w [(0,.str),(6,.str),(11,.sl (.st 1)),(12,.int),(13,.int)] [] (fun m t=>zh8 t.1 t.2.1 t.2.2.1 t.2.2.2.1 m t.2.2.2.2) fun n0 => .e)) .e))
theorem zDB:zd 419 ⟨[.st 45,.str,.str],[.st 46],1,[],fun p=>zqT p.1 p.2.1 p.2.2⟩:=cqG ((cN zd2).add zuv) 55 Tryz.func419 (.n 3 (.q (.n 1 (.w [(1,.str),(2,.str),(6,.po 46),(7,.int),(8,.po 46),(20,.sl (.st 44)),(21,.int),(22,.int)] [] (fun m t=>zdn t.1 t.2.1 t.2.2.2.1 t.2.2.2.2.2.1 t.2.2.2.2.2.2.1 m t.2.2.2.2.1 t.2.2.2.2.2.2.2) fun n0 => .n 2 (.j [(1,.str),(2,.str),(6,.po 46),(7,.int),(8,.po 46),(20,.sl (.st 44)),(21,.int),(22,.int)] [] (fun t=>zl7 (zdn t.1 t.2.1 t.2.2.2.1 t.2.2.2.2.2.1 t.2.2.2.2.2.2.1 n0) t.2.2.2.2.1 t.2.2.2.2.2.2.2) (.n 1 (.j [(1,.str),(2,.str),(6,.po 46),(7,.int),(8,.po 46),(10,.po 44),(20,.sl (.st 44)),(21,.int),(22,.int)] [] (fun t=>zl8 (zdn t.1 t.2.1 t.2.2.2.1 t.2.2.2.2.2.2.1 t.2.2.2.2.2.2.2.1 n0) t.2.2.2.2.1 t.2.2.2.2.2.1 t.2.2.2.2.2.2.2.2) .e .e)) .e))) (.j [(6,.po 46),(8,.po 46)] [] (fun t=>zl9 t.2) .e .e)))
theorem zjR:zd 472 ⟨[.sl (.st 44),.sl (.st 44)],[.bool],1,[],fun p=>zbx p.1 p.2⟩:=cqG CLs.nil 26 Tryz.func472 (.n 2 (.q (.n 1 (.w [(0,.sl (.st 44)),(1,.sl (.st 44)),(12,.int),(13,.int)] [] (fun m t=>zaR t.1 t.2.1 t.2.2.1 m t.2.2.2) fun n0 => .e)) .e))
theorem zBU:zd 454 ⟨[.st 45,.st 45],[.bool],1,[],fun p=>zo1 p.1 p.2⟩:=cqG (cN zjR) 24 Tryz.func454 .e
theorem zBV:zd 418 ⟨[.st 45],[.str,.int],2,[],zo2⟩:=cqG (((cN zBU).add zsu).add zb7) 57 Tryz.func418 (.n 2 (.q (.n 1 (.w [(1,.po 45),(4,.so 9 .str),(18,.sl (.st 44)),(19,.int),(20,.int)] [] (fun m t=>zgf t.1 t.2.2.1 t.2.2.2.1 m t.2.1 t.2.2.2.2) fun n0 => .e)) .e))
theorem zvH:zd 378 ⟨[.str,.sl (.st 1)],[.str],1,[],fun p=>zjD p.1 p.2⟩:=cqG (((((cN zBV).add zDB).add zBT).add zDA).add zsu) 45 Tryz.func378 .e
theorem zvI:zd 330 ⟨[.st 5,.sl (.st 15)],[.so 255 (.st 15)],1,[],fun p=>zjE p.1 p.2⟩:=cqG (((cN zvH).add zuK).add zd1) 46 Tryz.func330 (.n 2 (.q (.n 1 (.w [(2,.po 5),(5,.so 255 (.st 15)),(12,.int),(13,.int)] [(11,5)] (fun m t=>zce t.2.2.1 m t.1 t.2.1 t.2.2.2) fun n0 => .n 2 (.q (.n 2 (.j [(2,.po 5),(5,.so 255 (.st 15)),(6,.int),(7,.po 15),(12,.int),(13,.int),(20,.str),(21,.bool)] [(11,5)] (fun t=>zgL (zce t.2.2.2.2.1 n0) t.1 t.2.1 t.2.2.1 t.2.2.2.1 t.2.2.2.2.2.1 t.2.2.2.2.2.2.1 t.2.2.2.2.2.2.2) .e .e)) .e))) .e))
theorem zBW:zd 256 ⟨[.st 5,.st 33],[.st 34,.int],2,[],fun p=>zo3 p.1 p.2⟩:=cqG ((((((((cN zvI).add zcu).add zlm).add zrU).add zyv).add zst).add ze4).add zF3) 68 Tryz.func256 .e
theorem zyy:zd 335 ⟨[.str,.str],[.st 47],1,[],fun p=>zdo p.1 p.2⟩:=cqG CLs.nil 8 Tryz.func335 .e
theorem zBX:zd 258 ⟨[.st 5,.st 33],[.so 401 (.st 47)],1,[],fun p=>zo4 p.1 p.2⟩:=cqG (((cN zfZ).add zx2).add zyy) 59 Tryz.func258 .e
theorem zBY:zd 455 ⟨[.st 2],[.so 9 .str],1,[],zo5⟩:=cqG (cN zd1) 18 Tryz.func455 .e
theorem zBZ:zd 420 ⟨[.sl (.st 2)],[.int],1,[],zo6⟩:=cqG (((cN zas).add zd1).add zBY) 38 Tryz.func420 (.n 3 (.q (.w [(0,.sl (.st 2)),(3,.po 14),(4,.int)] [] (fun m t=>zdx t.1 t.2.1 m t.2.2) fun n0 => .q (.j [(0,.sl (.st 2)),(3,.po 14),(4,.int),(34,.bool)] [] (fun t=>zh9 (zdx t.1 t.2.1 n0) t.2.2.1 t.2.2.2) .e .e) .e) .e))
theorem zyz:zd 421 ⟨[.st 14,.int],[.st 50],1,[],fun p=>zma p.1 p.2⟩:=cqG CLs.nil 25 Tryz.func421 .e
theorem zB0:zd 456 ⟨[.st 2],[.st 50],1,[],zo7⟩:=cqG (cN zlu) 34 Tryz.func456 .e
theorem zpl:zd 422 ⟨[.po 49,.sl (.st 2)],[.po 49],0,[0],fun p=>zea p.1 p.2⟩:=cqG (cN zB0) 24 Tryz.func422 (.n 1 (.w [(9000,.po 49),(6,.sl (.st 2)),(7,.int),(8,.int)] [(0,9000)] (fun m t=>zbQ t.2.1 t.2.2.1 m t.1 t.2.2.2) fun n0 => .e))
theorem zpm:zd 379 ⟨[.po 49,.sl (.st 2)],[.po 49],0,[0],fun p=>zeb p.1 p.2⟩:=cqG (((cN zpl).add zyz).add zBZ) 38 Tryz.func379 (.w [(9000,.po 49),(1,.sl (.st 2))] [(0,9000)] (fun m t=>za1 m t.1 t.2) fun n0 => .n 2 (.j [(9000,.po 49),(1,.sl (.st 2)),(4,.int)] [(0,9000)] (fun t=>zcY (za1 n0) t.1 t.2.1 t.2.2) .e .e))
theorem zvJ:zd 333 ⟨[.int,.sl (.st 2)],[.so 485 (.st 48),.int],2,[],fun p=>zjF p.1 p.2⟩:=cqG ((cN zpm).add zph) 50 Tryz.func333 (.n 1 (.q (.j [(0,.int),(1,.sl (.st 2)),(17,.bool)] [] (fun t=>zgM t.1 t.2.1 t.2.2) .e .e) (.n 2 (.q (.n 1 (.w [(0,.int),(8,.so 112 (.st 2)),(26,.sl (.st 2)),(27,.int),(28,.int)] [] (fun m t=>zde t.1 t.2.2.1 t.2.2.2.1 m t.2.1 t.2.2.2.2) fun n0 => .e)) .e))))
theorem zpN:zd 423 ⟨[.pt 51,.st 48],[.bool],1,[],fun p=>zeV p.1 p.2⟩:=cqG (cN zpj) 36 Tryz.func423 .e
theorem zF5:zd 475 ⟨[.sl (.st 47),.str],[.str],1,[],fun p=>ztG p.1 p.2⟩:=cqG CLs.nil 20 Tryz.func475 (.n 1 (.q (.n 1 (.w [(1,.str),(7,.sl (.st 47)),(8,.int),(9,.int)] [] (fun m t=>zkZ t.1 t.2.1 t.2.2.1 m t.2.2.2) fun n0 => .e)) .e))
theorem zDC:zd 476 ⟨[.str],[.str],1,[],zqU⟩:=cqG ((cN zfY).add zrI) 29 Tryz.func476 (.n 2 (.q (.n 1 (.w [(0,.str),(3,.so 5 .u8),(4,.int)] [] (fun m t=>zfG t.1 m t.2.1 t.2.2) fun n0 => .q (.j [(0,.str),(3,.so 5 .u8),(4,.int),(13,.bool)] [] (fun t=>zmb (zfG t.1 n0) t.1 t.2.1 t.2.2.1 t.2.2.2) .e .e) .e)) .e))
theorem zF6:zd 473 ⟨[.sl (.st 47),.sl (.st 15),.sl (.st 3)],[.str],1,[],fun p=>ztH p.1 p.2.1 p.2.2⟩:=cqG (((((cN zDC).add zb7).add zpj).add zF5).add ze4) 56 Tryz.func473 (.n 3 (.q (.n 1 (.w [(0,.sl (.st 47)),(7,.po 36),(8,.so 9 .str),(15,.sl (.st 3)),(16,.int),(17,.int)] [] (fun m t=>zfk t.1 t.2.1 t.2.2.2.1 t.2.2.2.2.1 m t.2.2.1 t.2.2.2.2.2) fun n0 => .e)) .e))
theorem zpO:zd 457 ⟨[.pt 51,.sl (.st 3)],[.str],1,[],fun p=>zc3 p.1 p.2⟩:=cqG ((cN zF6).add zcu) 16 Tryz.func457 .e
theorem zuL:zd 458 ⟨[.po 36,.str,.str],[.int,.po 36],1,[0],fun p=>ziM p.1 p.2.1 p.2.2⟩:=cqG (cN zd2) 41 Tryz.func458 (.n 3 (.q (.n 1 (.w [(9000,.po 36),(1,.str),(2,.str),(7,.int),(15,.int),(16,.int)] [(0,9000)] (fun m t=>zcQ t.2.1 t.2.2.1 t.2.2.2.2.1 m t.1 t.2.2.2.1 t.2.2.2.2.2) fun n0 => .e)) .e))
theorem zqy:zd 424 ⟨[.po 51,.st 48],[.po 51],0,[0],fun p=>zfl p.1 p.2⟩:=cqG (((((cN zuL).add zrK).add zjv).add zpO).add zjQ) 55 Tryz.func424 .e
theorem zpP:zd 380 ⟨[.po 51,.sl (.st 48)],[.po 51],0,[0],fun p=>zeW p.1 p.2⟩:=cqG ((cN zqy).add zpN) 41 Tryz.func380 (.n 1 (.w [(9000,.po 51),(1,.sl (.st 48)),(4,.int)] [(0,9000)] (fun m t=>za7 t.2.1 m t.1 t.2.2) fun n0 => .n 1 (.j [(9000,.po 51),(1,.sl (.st 48)),(4,.int)] [(0,9000)] (fun t=>zdp (za7 t.2.1 n0) t.1 t.2.2) .e .e)))
theorem zB1:zd 334 ⟨[.sl (.st 47),.sl (.st 15),.sl (.st 48)],[.so 255 (.st 15)],1,[],fun p=>zo8 p.1 p.2.1 p.2.2⟩:=cqG (((cN zcu).add zpP).add ze4) 21 Tryz.func334 .e
theorem zyA:zd 257 ⟨[.sl (.st 47),.sl (.st 15),.int,.sl (.st 2)],[.so 255 (.st 15),.int],2,[],fun p=>zmc p.1 p.2.1 p.2.2.1 p.2.2.2⟩:=cqG ((cN zB1).add zvJ) 25 Tryz.func257 .e
theorem zB2:zd 459 ⟨[.sl .str],[.str],1,[],zmH⟩:=cqG (cN zb7) 5 Tryz.func459 .e
theorem zyB:zd 426 ⟨[.str,.sl .str],[.str],1,[],fun p=>zmd p.1 p.2⟩:=cqG (((cN ztU).add zB2).add zfY) 22 Tryz.func426 .e
theorem zjS:zd 383 ⟨[.po 36,.str,.str],[.po 36],0,[0],fun p=>zes p.1 p.2.1 p.2.2⟩:=cqG (((cN zjv).add zyB).add zd2) 53 Tryz.func383 (.n 1 (.q (.n 1 (.w [(9000,.po 36),(1,.str),(2,.str),(6,.int)] [(0,9000)] (fun m t=>zdY t.1 t.2.1 t.2.2.1 m t.2.2.2) fun n0 => .e)) .e))
theorem zDD:zd 337 ⟨[.st 11,.sl (.st 15)],[.so 255 (.st 15),.int],2,[],fun p=>zqV p.1 p.2⟩:=cqG ((((cN zcu).add zjS).add ze4).add zzy) 24 Tryz.func337 .e
theorem zw1:zd 428 ⟨[.str],[.str],1,[],zk0⟩:=cqG ((cN znT).add ze3) 13 Tryz.func428 .e
theorem zw2:zd 385 ⟨[.st 5],[.so 401 (.st 47)],1,[],zk1⟩:=cqG (cN zw1) 28 Tryz.func385 (.n 2 (.j [(1,.po 5),(3,.so 401 (.st 47))] [] (fun t=>zhA t.1 t.2) .e (.j [(3,.so 401 (.st 47))] [] (fun t=>zhz t) .e .e)))
theorem zzF:zd 461 ⟨[.str],[.str,.int],2,[],znw⟩:=cqG (cN zb0) 40 Tryz.func461 (.n 3 (.q (.n 1 (.w [(0,.str),(4,.so 5 .u8),(12,.int),(13,.int)] [] (fun m t=>zcV t.1 t.2.2.1 m t.2.1 t.2.2.2) fun n0 => .n 2 (.q (.n 1 (.j [(0,.str),(4,.so 5 .u8),(5,.int),(12,.int),(13,.int)] [] (fun t=>zjG (zcV t.1 t.2.2.2.1 n0) t.1 t.2.1 t.2.2.1 t.2.2.2.2) (.j [(0,.str),(4,.so 5 .u8),(5,.int),(12,.int),(13,.int),(25,.bool)] [] (fun t=>zjH (zcV t.1 t.2.2.2.1 n0) t.1 t.2.1 t.2.2.1 t.2.2.2.2.1 t.2.2.2.2.2) .e .e) .e)) .e))) .e))
theorem zyC:zd 427 ⟨[.str],[.str,.int],2,[],zme⟩:=cqG ((cN zzF).add zfx) 11 Tryz.func427 .e
theorem zB3:zd 384 ⟨[.sl (.st 47)],[.str,.int],2,[],zo9⟩:=cqG (((cN zb7).add zfx).add zyC) 43 Tryz.func384 (.n 2 (.q (.n 1 (.w [(4,.so 9 .str),(9,.sl (.st 47)),(10,.int),(11,.int)] [] (fun m t=>zia t.2.1 t.2.2.1 m t.1 t.2.2.2) fun n0 => .e)) .e))
theorem zuM:zd 338 ⟨[.st 5,.sl (.st 15)],[.so 255 (.st 15),.int],2,[],fun p=>ziN p.1 p.2⟩:=cqG (((((cN zcu).add zjS).add ze4).add zB3).add zw2) 25 Tryz.func338 .e
theorem zH5:zd 386 ⟨[.str],[.bool],1,[],zv3⟩:=cqG ((cN znT).add ze3) 9 Tryz.func386 .e
theorem zDE:zd 339 ⟨[.str,.sl (.st 15)],[.so 255 (.st 15)],1,[],fun p=>zqW p.1 p.2⟩:=cqG ((((cN zcu).add zjS).add ze4).add zH5) 16 Tryz.func339 (.n 1 (.j [(0,.str),(1,.sl (.st 15))] [] (fun t=>zmf t.1 t.2) .e .e))
theorem zDF:zd 259 ⟨[.st 5,.int,.st 33],[.st 34,.int],2,[],fun p=>zqX p.1 p.2.1 p.2.2⟩:=cqG ((((((cN zlm).add ze4).add zDE).add zuM).add zDD).add zfZ) 70 Tryz.func259 (.n 1 (.q (.j [(1,.int),(3,.po 5),(5,.po 33),(6,.po 34),(26,.bool)] [] (fun t=>zfH t.1 t.2.1 t.2.2.1 t.2.2.2.2) .e .e) (.n 1 (.j [(5,.po 33),(6,.po 34),(8,.so 255 (.st 15)),(9,.int)] [] (fun t=>zmg t.1 t.2.2.1 t.2.2.2) (.j [(3,.po 5),(5,.po 33),(6,.po 34),(8,.so 255 (.st 15)),(9,.int),(46,.bool)] [] (fun t=>zmh t.1 t.2.1 t.2.2.2.1 t.2.2.2.2.1 t.2.2.2.2.2) .e .e) .e))))
theorem zyD:zd 260 ⟨[.st 35],[.so 255 (.st 15)],1,[],zmi⟩:=cqG (cN zfZ) 16 Tryz.func260 .e
theorem zkq:zd 185 ⟨[.st 5,.st 35,.st 33,.sl (.st 2)],[.st 34,.int],2,[],fun p=>ziO p.1 p.2.1 p.2.2.1 p.2.2.2⟩:=cqG (((((cN zyD).add zDF).add zyA).add zBX).add zBW) 58 Tryz.func185 .e
theorem zqz:zd 441 ⟨[.st 52],[.int,.bool,.po 18],2,[32],zdy⟩:=cqG (((cN zX).add zmU).add zcN) 26 Tryz.func441 .e
theorem zi9:zd 403 ⟨[.st 52],[.int,.int,.bool,.po 18],3,[32],zcA⟩:=cqG (((cN zX).add zqz).add zlk) 36 Tryz.func403 .e
theorem zoD:zd 364 ⟨[.str],[.bool],1,[],zhd⟩:=cqG (((cN zbE).add zi9).add zgw) 30 Tryz.func364 .e
theorem zkr:zd 366 ⟨[.st 52],[.int,.bool,.po 18],2,[32],zdz⟩:=cqG (cN zi9) 23 Tryz.func366 .e
theorem ztW:zd 319 ⟨[.str],[.st 34,.int],2,[],zhB⟩:=cqG (((((((((cN zbE).add zst).add zkr).add zaL).add zX).add zbi).add zgw).add zoD).add zj3) 84 Tryz.func319 .e
theorem zuN:zd 320 ⟨[.str],[.st 34,.int],2,[],ziP⟩:=cqG (((((((((cN zb0).add zdV).add zhx).add zaL).add zX).add zkr).add zgw).add zoD).add zlQ) 84 Tryz.func320 .e
theorem zks:zd 252 ⟨[.int,.str],[.st 34,.int],2,[],fun p=>zdQ p.1 p.2⟩:=cqG (((cN zuN).add ztW).add zeO) 29 Tryz.func252 (.n 1 (.q (.j [(0,.int),(1,.str),(4,.po 34),(6,.bool)] [] (fun t=>zgN t.1 t.2.1 t.2.2.2) .e .e) .e))
theorem zpQ:zd 263 ⟨[.st 33],[.str,.int],2,[],zib⟩:=cqG (((cN zks).add zb7).add zfZ) 81 Tryz.func263 (.n 3 (.j [(1,.po 33),(5,.str)] [] (fun t=>zhC t.1 t.2) .e (.n 2 (.j [(5,.str),(7,.int),(8,.bool)] [] (fun t=>zcB t.1 t.2.1 t.2.2) .e .e))))
theorem zDG:zd 367 ⟨[.st 33],[.bool],1,[],zqY⟩:=cqG (((cN zen).add zf1).add ze4) 43 Tryz.func367 (.n 4 (.q (.n 1 (.w [(25,.so 9 .str),(26,.int),(27,.int)] [] (fun m t=>zfI t.1 t.2.1 m t.2.2) fun n0 => .n 2 (.q (.n 2 (.j [(25,.so 9 .str),(26,.int),(27,.int),(41,.bool)] [] (fun t=>zmj (zfI t.1 t.2.1 n0) t.2.2.1 t.2.2.2) .e .e)) .e))) .e))
theorem zvK:zd 323 ⟨[.st 33],[.int],1,[],zn6⟩:=cqG (cN zDG) 12 Tryz.func323 .e
end
end Go.Proofs
end
