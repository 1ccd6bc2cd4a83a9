/- What the models are made with: data, contracts. TwinAgrees' model at the data of a statement. No program in sight. Contr -/
import Derived.Test.YtkbigjfhddediaaGreatDoorYM
import Derived.Test.YtkbigjfhddediaaGreatDoorYTr
import Derived.Test.YtkbigjfhddediaaGreatDoorW0
import Derived.Test.YtkbigjfhddediaaGreatDoorYTy
import Derived.Test.YtkbigjfhddediaaGreatDoorSq
import Derived.Test.YtkbigjfhddediaaGreatDoorCfK
import Derived.KernelRfl
set_option linter.unusedVariables false
set_option linter.unusedSimpArgs false
set_option linter.unusedVariables false
set_option maxRecDepth 100000
section
namespace Go.Proofs
noncomputable section
open Go.Dk Go.Dm Go.RowKit Go.Rk
def tau:Nat→Type
 | 0=>z0q
 | 1=>z0h
 | 2=>zZ1
 | 3=>zZX
 | 4=>zZ2
 | 5=>z0g
 | 6=>Str × Str × Str × Str
 | 7=>z0g
 | 8=>zZ1
 | 9=>z0q
 | 10=>ref44_Setup
 | 11=>z0o
 | 12=>z0G
 | 13=>z0s
 | 14=>z0S
 | 15=>zZU
 | 16=>z0q
 | 17=>z0Q
 | 18=>zZ6
 | 19=>z02
 | 20=>zZR
 | 21=>z0a
 | 22=>zZZ
 | 23=>zZ8
 | 24=>z0i
 | 25=>zZW
 | 26=>zZ7
 | 27=>z0e
 | 28=>z0E
 | 29=>zZ3
 | 30=>zZ0
 | 31=>z01
 | 32=>z0X
 | 33=>zZY
 | 34=>zZY
 | 35=>zZ4
 | 36=>z0w
 | 37=>z04
 | 38=>z0j
 | 39=>z0Z
 | 40=>List Str
 | 41=>Str
 | 42=>z0F
 | 43=>z0T
 | 44=>z0K
 | 45=>z0k
 | 46=>z0k
 | 47=>z0z
 | 48=>z0Y
 | 49=>z0x
 | 50=>z0Y
 | 51=>z0p
 | 52=>z0P
 | 53=>z0L
 | 54=>z05
 | 55=>z06
 | 56=>z06
 | 57=>z0W
 | 58=>z08
 | 59=>z0M
 | _=>Unit
noncomputable section
set_option maxHeartbeats 8000000 in
def G:Sig tau where
 fs
  | 0=>[.str,.str,.str,.str,.sl (.st 1),.sl (.st 1),.int,.int,.int,.sl (.st 2),.str,.str,.bool,.bool,.sl (.st 4)]
  | 1=>[.str,.str]
  | 2=>[.int,.int,.str,.str,.int,.str,.str,.sl (.st 3)]
  | 3=>[.int,.str]
  | 4=>[.int,.int]
  | 5=>[.str,.str,.str,.str,.sl (.st 1),.sl (.st 1)]
  | 6=>[.str,.str,.str,.str]
  | 7=>[.str,.str,.str,.str,.so 85 (.st 1),.so 85 (.st 1)]
  | 8=>[.int,.int,.str,.str,.int,.str,.str,.so 147 (.st 3)]
  | 9=>[.str,.str,.str,.str,.so 85 (.st 1),.so 85 (.st 1),.int,.int,.int,.so 72 (.st 2),.str,.str,.bool,.bool,.sl (.st 4)]
  | 10=>[.str,.str,.str,.str,.sl (.st 1),.sl (.st 1),.int,.int,.int,.sl (.st 2)]
  | 11=>[.str,.str,.str,.str]
  | 12=>[.int,.str,.int]
  | 13=>[.str,.str,.str,.str,.str,.bool,.bool,.bool]
  | 14=>[.int,.str,.str]
  | 15=>[.str,.str]
  | 16=>[.str,.str,.str,.str,.sl (.st 1),.sl (.st 1),.int,.int,.int,.sl (.st 2),.str,.str,.bool,.bool,.so 47 (.st 4)]
  | 17=>[.int,.int,.int]
  | 18=>[.str,.int]
  | 19=>[.po 18]
  | 20=>[.pn 21,.str,.str,.str,.str,.sl (.st 1),.sl (.st 1),.int,.int,.int,.so 72 (.st 2),.pn 23,.pn 24,.pn 26,.pn 23,.pn 24,.pn 26,.so 5 .u8,.so 5 .u8,.int,.bool,.bool,.bool,.bool,.bool,.bool,.bool]
  | 21=>[.so 220 (.st 22),.int,.bool]
  | 22=>[.str,.int,.bool]
  | 23=>[.int,.int,.so 5 .u8,.int,.bool,.int,.bool,.int,.str,.str,.int,.str,.int,.sl (.st 15)]
  | 24=>[.pn 25,.int,.int,.int,.bool,.bool]
  | 25=>[.int,.int,.so 5 .u8,.int,.int,.int,.so 160 (.st 15)]
  | 26=>[.pn 27,.int,.int,.int,.bool]
  | 27=>[.int,.str,.bool]
  | 28=>[.po 18,.so 147 (.st 3)]
  | 29=>[.pn 23,.pn 24,.pn 26]
  | 30=>[.po 20,.str,.int,.bool,.bool,.so 5 .u8,.mv 41,.mv 42,.str,.int,.bool,.bool,.so 5 .u8,.mv 43,.mv 44,.int,.int]
  | 31=>[.str,.str,.int,.int,.int,.int,.bool]
  | 32=>[.so 220 (.st 22),.int]
  | 33=>[.int,.str,.str,.int,.str,.int,.sl (.st 15)]
  | 34=>[.int,.str,.str,.int,.str,.int,.so 160 (.st 15)]
  | 35=>[.int,.int]
  | 36=>[.so 160 (.st 15)]
  | 37=>[.po 36,.int]
  | 38=>[.po 18,.so 9 .str,.int,.str]
  | 39=>[.po 18,.so 5 .u8]
  | 40=>[.sl .str]
  | 41=>[.str]
  | 42=>[.int,.str,.int,.str,.int,.str,.str,.bool]
  | 43=>[.po 36,.int,.str,.str,.int,.str,.int,.sl (.st 15)]
  | 44=>[.str,.str,.bool]
  | 45=>[.str,.str,.sl (.st 44)]
  | 46=>[.str,.str,.so 469 (.st 44)]
  | 47=>[.str,.str]
  | 48=>[.int,.str,.str,.sl (.st 3),.int]
  | 49=>[.so 462 (.st 48)]
  | 50=>[.int,.str,.str,.so 147 (.st 3),.int]
  | 51=>[.po 36,.sl (.st 47),.int]
  | 52=>[.po 18]
  | 53=>[.so 5 .u8,.int]
  | 54=>[.po 53,.bool]
  | 55=>[.int,.str,.str,.int,.str,.int,.sl (.st 15),.int,.int,.str,.sl (.st 15)]
  | 56=>[.int,.str,.str,.int,.str,.int,.so 160 (.st 15),.int,.int,.str,.so 160 (.st 15)]
  | 57=>[.po 18]
  | 58=>[.int,.int]
  | 59=>[.str,.int,.bool,.bool,.so 5 .u8,.nil ,.nil ]
  | _=>[]
 ti
  | 0=>30
  | 1=>85
  | 2=>72
  | 3=>147
  | 4=>47
  | 5=>24
  | 6=>83
  | 7=>24
  | 8=>72
  | 9=>30
  | 10=>55
  | 11=>91
  | 12=>94
  | 13=>122
  | 14=>69
  | 15=>160
  | 16=>30
  | 17=>26
  | 18=>282
  | 19=>243
  | 20=>144
  | 21=>176
  | 22=>220
  | 23=>217
  | 24=>193
  | 25=>262
  | 26=>232
  | 27=>171
  | 28=>405
  | 29=>142
  | 30=>108
  | 31=>60
  | 32=>174
  | 33=>215
  | 34=>215
  | 35=>190
  | 36=>391
  | 37=>359
  | 38=>443
  | 39=>497
  | 40=>126
  | 41=>9
  | 42=>367
  | 43=>364
  | 44=>469
  | 45=>453
  | 46=>453
  | 47=>378
  | 48=>462
  | 49=>421
  | 50=>462
  | 51=>425
  | 52=>406
  | 53=>386
  | 54=>324
  | 55=>267
  | 56=>267
  | 57=>467
  | 58=>58
  | 59=>106
  | _=>0
 ctor
  | 0,p=>(⟨(⟨p.1,p.2.1,p.2.2.1,p.2.2.2.1,p.2.2.2.2.1,p.2.2.2.2.2.1⟩:z0g),(⟨p.2.2.2.2.2.2.1,p.2.2.2.2.2.2.2.1,p.2.2.2.2.2.2.2.2.1⟩:z0Q),p.2.2.2.2.2.2.2.2.2.1,p.2.2.2.2.2.2.2.2.2.2.1,p.2.2.2.2.2.2.2.2.2.2.2.1,p.2.2.2.2.2.2.2.2.2.2.2.2.1,p.2.2.2.2.2.2.2.2.2.2.2.2.2.1,p.2.2.2.2.2.2.2.2.2.2.2.2.2.2⟩:z0q)
  | 1,p=>(⟨p.1,p.2⟩:z0h)
  | 2,p=>(⟨p.1,(⟨p.2.1,p.2.2.1,p.2.2.2.1⟩:z0S),p.2.2.2.2.1,p.2.2.2.2.2.1,p.2.2.2.2.2.2.1,p.2.2.2.2.2.2.2⟩:zZ1)
  | 3,p=>(⟨p.1,p.2⟩:zZX)
  | 4,p=>(⟨p.1,p.2⟩:zZ2)
  | 5,p=>(⟨p.1,p.2.1,p.2.2.1,p.2.2.2.1,p.2.2.2.2.1,p.2.2.2.2.2⟩:z0g)
  | 6,p=>p
  | 7,p=>(⟨p.1,p.2.1,p.2.2.1,p.2.2.2.1,p.2.2.2.2.1,p.2.2.2.2.2⟩:z0g)
  | 8,p=>(⟨p.1,(⟨p.2.1,p.2.2.1,p.2.2.2.1⟩:z0S),p.2.2.2.2.1,p.2.2.2.2.2.1,p.2.2.2.2.2.2.1,p.2.2.2.2.2.2.2⟩:zZ1)
  | 9,p=>(⟨(⟨p.1,p.2.1,p.2.2.1,p.2.2.2.1,p.2.2.2.2.1,p.2.2.2.2.2.1⟩:z0g),(⟨p.2.2.2.2.2.2.1,p.2.2.2.2.2.2.2.1,p.2.2.2.2.2.2.2.2.1⟩:z0Q),p.2.2.2.2.2.2.2.2.2.1,p.2.2.2.2.2.2.2.2.2.2.1,p.2.2.2.2.2.2.2.2.2.2.2.1,p.2.2.2.2.2.2.2.2.2.2.2.2.1,p.2.2.2.2.2.2.2.2.2.2.2.2.2.1,p.2.2.2.2.2.2.2.2.2.2.2.2.2.2⟩:z0q)
  | 10,p=>(⟨(⟨p.1,p.2.1,p.2.2.1,p.2.2.2.1,p.2.2.2.2.1,p.2.2.2.2.2.1⟩:z0g),(⟨p.2.2.2.2.2.2.1,p.2.2.2.2.2.2.2.1,p.2.2.2.2.2.2.2.2.1⟩:z0Q),p.2.2.2.2.2.2.2.2.2⟩:ref44_Setup)
  | 11,p=>(⟨p.1,p.2.1,p.2.2.1,p.2.2.2⟩:z0o)
  | 12,p=>(⟨p.1,p.2.1,p.2.2⟩:z0G)
  | 13,p=>(⟨p.1,p.2.1,p.2.2.1,p.2.2.2.1,p.2.2.2.2.1,p.2.2.2.2.2.1,p.2.2.2.2.2.2.1,p.2.2.2.2.2.2.2⟩:z0s)
  | 14,p=>(⟨p.1,p.2.1,p.2.2⟩:z0S)
  | 15,p=>(⟨p.1,p.2⟩:zZU)
  | 16,p=>(⟨(⟨p.1,p.2.1,p.2.2.1,p.2.2.2.1,p.2.2.2.2.1,p.2.2.2.2.2.1⟩:z0g),(⟨p.2.2.2.2.2.2.1,p.2.2.2.2.2.2.2.1,p.2.2.2.2.2.2.2.2.1⟩:z0Q),p.2.2.2.2.2.2.2.2.2.1,p.2.2.2.2.2.2.2.2.2.2.1,p.2.2.2.2.2.2.2.2.2.2.2.1,p.2.2.2.2.2.2.2.2.2.2.2.2.1,p.2.2.2.2.2.2.2.2.2.2.2.2.2.1,p.2.2.2.2.2.2.2.2.2.2.2.2.2.2⟩:z0q)
  | 17,p=>(⟨p.1,p.2.1,p.2.2⟩:z0Q)
  | 18,p=>(⟨p.1,p.2⟩:zZ6)
  | 19,p=>(⟨p⟩:z02)
  | 20,p=>(⟨p.1,(⟨p.2.1,p.2.2.1,p.2.2.2.1,p.2.2.2.2.1,p.2.2.2.2.2.1,p.2.2.2.2.2.2.1⟩:z0g),(⟨p.2.2.2.2.2.2.2.1,p.2.2.2.2.2.2.2.2.1,p.2.2.2.2.2.2.2.2.2.1⟩:z0Q),p.2.2.2.2.2.2.2.2.2.2.1,(⟨p.2.2.2.2.2.2.2.2.2.2.2.1,p.2.2.2.2.2.2.2.2.2.2.2.2.1,p.2.2.2.2.2.2.2.2.2.2.2.2.2.1⟩:zZ3),(⟨p.2.2.2.2.2.2.2.2.2.2.2.2.2.2.1,p.2.2.2.2.2.2.2.2.2.2.2.2.2.2.2.1,p.2.2.2.2.2.2.2.2.2.2.2.2.2.2.2.2.1⟩:zZ3),p.2.2.2.2.2.2.2.2.2.2.2.2.2.2.2.2.2.1,p.2.2.2.2.2.2.2.2.2.2.2.2.2.2.2.2.2.2.1,p.2.2.2.2.2.2.2.2.2.2.2.2.2.2.2.2.2.2.2.1,p.2.2.2.2.2.2.2.2.2.2.2.2.2.2.2.2.2.2.2.2.1,p.2.2.2.2.2.2.2.2.2.2.2.2.2.2.2.2.2.2.2.2.2.1,p.2.2.2.2.2.2.2.2.2.2.2.2.2.2.2.2.2.2.2.2.2.2.1,p.2.2.2.2.2.2.2.2.2.2.2.2.2.2.2.2.2.2.2.2.2.2.2.1,p.2.2.2.2.2.2.2.2.2.2.2.2.2.2.2.2.2.2.2.2.2.2.2.2.1,p.2.2.2.2.2.2.2.2.2.2.2.2.2.2.2.2.2.2.2.2.2.2.2.2.2.1,p.2.2.2.2.2.2.2.2.2.2.2.2.2.2.2.2.2.2.2.2.2.2.2.2.2.2⟩:zZR)
  | 21,p=>(⟨(⟨p.1,p.2.1⟩:z0X),p.2.2⟩:z0a)
  | 22,p=>(⟨p.1,p.2.1,p.2.2⟩:zZZ)
  | 23,p=>(⟨p.1,p.2.1,p.2.2.1,p.2.2.2.1,p.2.2.2.2.1,p.2.2.2.2.2.1,p.2.2.2.2.2.2.1,(⟨p.2.2.2.2.2.2.2.1,p.2.2.2.2.2.2.2.2.1,p.2.2.2.2.2.2.2.2.2.1,p.2.2.2.2.2.2.2.2.2.2.1,p.2.2.2.2.2.2.2.2.2.2.2.1,p.2.2.2.2.2.2.2.2.2.2.2.2.1,p.2.2.2.2.2.2.2.2.2.2.2.2.2⟩:zZY)⟩:zZ8)
  | 24,p=>(⟨p.1,(⟨p.2.1,p.2.2.1⟩:zZ4),p.2.2.2.1,p.2.2.2.2.1,p.2.2.2.2.2⟩:z0i)
  | 25,p=>(⟨p.1,p.2.1,p.2.2.1,p.2.2.2.1,p.2.2.2.2.1,p.2.2.2.2.2.1,p.2.2.2.2.2.2⟩:zZW)
  | 26,p=>(⟨p.1,(⟨p.2.1,p.2.2.1⟩:zZ4),p.2.2.2.1,p.2.2.2.2⟩:zZ7)
  | 27,p=>(⟨p.1,p.2.1,p.2.2⟩:z0e)
  | 28,p=>(⟨p.1,p.2⟩:z0E)
  | 29,p=>(⟨p.1,p.2.1,p.2.2⟩:zZ3)
  | 30,p=>(⟨p.1,(⟨p.2.1,p.2.2.1,p.2.2.2.1,p.2.2.2.2.1,p.2.2.2.2.2.1,p.2.2.2.2.2.2.1,p.2.2.2.2.2.2.2.1⟩:z0M),(⟨p.2.2.2.2.2.2.2.2.1,p.2.2.2.2.2.2.2.2.2.1,p.2.2.2.2.2.2.2.2.2.2.1,p.2.2.2.2.2.2.2.2.2.2.2.1,p.2.2.2.2.2.2.2.2.2.2.2.2.1,p.2.2.2.2.2.2.2.2.2.2.2.2.2.1,p.2.2.2.2.2.2.2.2.2.2.2.2.2.2.1⟩:z0M),(⟨p.2.2.2.2.2.2.2.2.2.2.2.2.2.2.2.1,p.2.2.2.2.2.2.2.2.2.2.2.2.2.2.2.2⟩:z08)⟩:zZ0)
  | 31,p=>(⟨p.1,p.2.1,p.2.2.1,p.2.2.2.1,(⟨p.2.2.2.2.1,p.2.2.2.2.2.1⟩:z08),p.2.2.2.2.2.2⟩:z01)
  | 32,p=>(⟨p.1,p.2⟩:z0X)
  | 33,p=>(⟨p.1,p.2.1,p.2.2.1,p.2.2.2.1,p.2.2.2.2.1,p.2.2.2.2.2.1,p.2.2.2.2.2.2⟩:zZY)
  | 34,p=>(⟨p.1,p.2.1,p.2.2.1,p.2.2.2.1,p.2.2.2.2.1,p.2.2.2.2.2.1,p.2.2.2.2.2.2⟩:zZY)
  | 35,p=>(⟨p.1,p.2⟩:zZ4)
  | 36,p=>(⟨p⟩:z0w)
  | 37,p=>(⟨p.1,p.2⟩:z04)
  | 38,p=>(⟨p.1,p.2.1,p.2.2.1,p.2.2.2⟩:z0j)
  | 39,p=>(⟨p.1,p.2⟩:z0Z)
  | 40,p=>p
  | 41,p=>p
  | 42,p=>(⟨p.1,p.2.1,(⟨p.2.2.1,p.2.2.2.1,p.2.2.2.2.1⟩:z0G),p.2.2.2.2.2.1,p.2.2.2.2.2.2.1,p.2.2.2.2.2.2.2⟩:z0F)
  | 43,p=>(⟨p.1,(⟨p.2.1,p.2.2.1,p.2.2.2.1,p.2.2.2.2.1,p.2.2.2.2.2.1,p.2.2.2.2.2.2.1,p.2.2.2.2.2.2.2⟩:zZY)⟩:z0T)
  | 44,p=>(⟨p.1,p.2.1,p.2.2⟩:z0K)
  | 45,p=>(⟨p.1,p.2.1,p.2.2⟩:z0k)
  | 46,p=>(⟨p.1,p.2.1,p.2.2⟩:z0k)
  | 47,p=>(⟨p.1,p.2⟩:z0z)
  | 48,p=>(⟨p.1,p.2.1,p.2.2.1,p.2.2.2.1,p.2.2.2.2⟩:z0Y)
  | 49,p=>(⟨p⟩:z0x)
  | 50,p=>(⟨p.1,p.2.1,p.2.2.1,p.2.2.2.1,p.2.2.2.2⟩:z0Y)
  | 51,p=>(⟨p.1,p.2.1,p.2.2⟩:z0p)
  | 52,p=>(⟨p⟩:z0P)
  | 53,p=>(⟨p.1,p.2⟩:z0L)
  | 54,p=>(⟨p.1,p.2⟩:z05)
  | 55,p=>(⟨(⟨p.1,p.2.1,p.2.2.1,p.2.2.2.1,p.2.2.2.2.1,p.2.2.2.2.2.1,p.2.2.2.2.2.2.1⟩:zZY),(⟨p.2.2.2.2.2.2.2.1,p.2.2.2.2.2.2.2.2.1⟩:zZ4),p.2.2.2.2.2.2.2.2.2.1,p.2.2.2.2.2.2.2.2.2.2⟩:z06)
  | 56,p=>(⟨(⟨p.1,p.2.1,p.2.2.1,p.2.2.2.1,p.2.2.2.2.1,p.2.2.2.2.2.1,p.2.2.2.2.2.2.1⟩:zZY),(⟨p.2.2.2.2.2.2.2.1,p.2.2.2.2.2.2.2.2.1⟩:zZ4),p.2.2.2.2.2.2.2.2.2.1,p.2.2.2.2.2.2.2.2.2.2⟩:z06)
  | 57,p=>(⟨p⟩:z0W)
  | 58,p=>(⟨p.1,p.2⟩:z08)
  | 59,p=>(⟨p.1,p.2.1,p.2.2.1,p.2.2.2.1,p.2.2.2.2.1,p.2.2.2.2.2.1,p.2.2.2.2.2.2⟩:z0M)
  | _+60,_=>()
 dtor
  | 0,(x:z0q)=>(x.Env.Client,x.Env.Host,x.Env.Scheme,x.Env.By,x.Env.Domains,x.Env.Locations,x.Caps.Head,x.Caps.Chunk,x.Caps.Queue,x.Rules,x.Client,x.Upstream,x.ClientEnds,x.UpstreamEnds,x.Events)
  | 1,(x:z0h)=>(x.From,x.To)
  | 2,(x:zZ1)=>(x.Side,x.Guard.Kind,x.Guard.Name,x.Guard.Value,x.Kind,x.Name,x.To,x.Parts)
  | 3,(x:zZX)=>(x.Kind,x.Text)
  | 4,(x:zZ2)=>(x.Kind,x.N)
  | 5,(x:z0g)=>(x.Client,x.Host,x.Scheme,x.By,x.Domains,x.Locations)
  | 6,x=>x
  | 7,(x:z0g)=>(x.Client,x.Host,x.Scheme,x.By,x.Domains,x.Locations)
  | 8,(x:zZ1)=>(x.Side,x.Guard.Kind,x.Guard.Name,x.Guard.Value,x.Kind,x.Name,x.To,x.Parts)
  | 9,(x:z0q)=>(x.Env.Client,x.Env.Host,x.Env.Scheme,x.Env.By,x.Env.Domains,x.Env.Locations,x.Caps.Head,x.Caps.Chunk,x.Caps.Queue,x.Rules,x.Client,x.Upstream,x.ClientEnds,x.UpstreamEnds,x.Events)
  | 10,(x:ref44_Setup)=>(x.Env.Client,x.Env.Host,x.Env.Scheme,x.Env.By,x.Env.Domains,x.Env.Locations,x.Caps.Head,x.Caps.Chunk,x.Caps.Queue,x.Rules)
  | 11,(x:z0o)=>(x.Proto,x.Version,x.By,x.Comment)
  | 12,(x:z0G)=>(x.Kind,x.Name,x.Port)
  | 13,(x:z0s)=>(x.Scheme,x.Auth,x.Path,x.Query,x.Frag,x.HasAuth,x.HasQuery,x.HasFrag)
  | 14,(x:z0S)=>(x.Kind,x.Name,x.Value)
  | 15,(x:zZU)=>(x.Name,x.Value)
  | 16,(x:z0q)=>(x.Env.Client,x.Env.Host,x.Env.Scheme,x.Env.By,x.Env.Domains,x.Env.Locations,x.Caps.Head,x.Caps.Chunk,x.Caps.Queue,x.Rules,x.Client,x.Upstream,x.ClientEnds,x.UpstreamEnds,x.Events)
  | 17,(x:z0Q)=>(x.Head,x.Chunk,x.Queue)
  | 18,(x:zZ6)=>(x.z03,x.z0A)
  | 19,(x:z02)=>x.Scanner
  | 20,(x:zZR)=>(x.Queue,x.z0O.Client,x.z0O.Host,x.z0O.Scheme,x.z0O.By,x.z0O.Domains,x.z0O.Locations,x.z0c.Head,x.z0c.Chunk,x.z0c.Queue,x.z0C,x.zZT.Accum,x.zZT.z00,x.zZT.z0b,x.zZS.Accum,x.zZS.z00,x.zZS.z0b,x.zZ5,x.z0H,x.z0I,x.z0f,x.z0y,x.z0J,x.z0r,x.z0t,x.z0u,x.zZV)
  | 21,(x:z0a)=>(x.z0l.z0N,x.z0l.z0d,x.z0t)
  | 22,(x:zZZ)=>(x.Method,x.Minor,x.Close)
  | 23,(x:zZ8)=>(x.z1l,x.z1b,x.z0D,x.z1a,x.z1i,x.z1h,x.f_whole,x.z1d.Kind,x.z1d.Method,x.z1d.Target,x.z1d.Code,x.z1d.Reason,x.z1d.Minor,x.z1d.Fields)
  | 24,(x:z0i)=>(x.Decoder,x.z0v.Kind,x.z0v.N,x.zZ9,x.z0V,x.z1h)
  | 25,(x:zZW)=>(x.z1b,x.z0A,x.z1f,x.zZ9,x.z1m,x.z1g,x.z09)
  | 26,(x:zZ7)=>(x.Encoder,x.z0v.Kind,x.z0v.N,x.zZ9,x.z0V)
  | 27,(x:z0e)=>(x.z1e,x.z0D,x.z0V)
  | 28,(x:z0E)=>(x.Scanner,x.z0b)
  | 29,(x:zZ3)=>(x.Accum,x.z00,x.z0b)
  | 30,(x:zZ0)=>(x.Gateway,x.zZT.z0B,x.zZT.z0n,x.zZT.z0R,x.zZT.z0U,x.zZT.z0m,x.zZT.z07,x.zZT.z1c,x.zZS.z0B,x.zZS.z0n,x.zZS.z0R,x.zZS.z0U,x.zZS.z0m,x.zZS.z07,x.zZS.z1c,x.z0d.Client,x.z0d.Upstream)
  | 31,(x:z01)=>(x.Client,x.Upstream,x.ReadClient,x.ReadUpstream,x.Most.Client,x.Most.Upstream,x.Closed)
  | 32,(x:z0X)=>(x.z0N,x.z0d)
  | 33,(x:zZY)=>(x.Kind,x.Method,x.Target,x.Code,x.Reason,x.Minor,x.Fields)
  | 34,(x:zZY)=>(x.Kind,x.Method,x.Target,x.Code,x.Reason,x.Minor,x.Fields)
  | 35,(x:zZ4)=>(x.Kind,x.N)
  | 36,(x:z0w)=>x.z0N
  | 37,(x:z04)=>(x.Bag,x.z1q)
  | 38,(x:z0j)=>(x.Scanner,x.z0b,x.z1a,x.z03)
  | 39,(x:z0Z)=>(x.Scanner,x.z0b)
  | 40,x=>x
  | 41,x=>x
  | 42,(x:z0F)=>(x.Kind,x.Scheme,x.Host.Kind,x.Host.Name,x.Host.Port,x.Path,x.Query,x.HasQuery)
  | 43,(x:z0T)=>(x.Bag,x.z1n.Kind,x.z1n.Method,x.z1n.Target,x.z1n.Code,x.z1n.Reason,x.z1n.Minor,x.z1n.Fields)
  | 44,(x:z0K)=>(x.Name,x.Value,x.Has)
  | 45,(x:z0k)=>(x.Name,x.Value,x.Attrs)
  | 46,(x:z0k)=>(x.Name,x.Value,x.Attrs)
  | 47,(x:z0z)=>(x.Name,x.Value)
  | 48,(x:z0Y)=>(x.Kind,x.Name,x.Text,x.Parts,x.N)
  | 49,(x:z0x)=>x.z0b
  | 50,(x:z0Y)=>(x.Kind,x.Name,x.Text,x.Parts,x.N)
  | 51,(x:z0p)=>(x.Bag,x.z1k,x.z1j)
  | 52,(x:z0P)=>x.Scanner
  | 53,(x:z0L)=>(x.z1o,x.z0d)
  | 54,(x:z05)=>(x.Quill,x.z1p)
  | 55,(x:z06)=>(x.Head.Kind,x.Head.Method,x.Head.Target,x.Head.Code,x.Head.Reason,x.Head.Minor,x.Head.Fields,x.Frame.Kind,x.Frame.N,x.Body,x.Trailers)
  | 56,(x:z06)=>(x.Head.Kind,x.Head.Method,x.Head.Target,x.Head.Code,x.Head.Reason,x.Head.Minor,x.Head.Fields,x.Frame.Kind,x.Frame.N,x.Body,x.Trailers)
  | 57,(x:z0W)=>x.Scanner
  | 58,(x:z08)=>(x.Client,x.Upstream)
  | 59,(x:z0M)=>(x.z0B,x.z0n,x.z0R,x.z0U,x.z0m,x.z07,x.z1c)
  | _+60,_=>()
 cd
  | 0,_=>rfl
  | 1,_=>rfl
  | 2,_=>rfl
  | 3,_=>rfl
  | 4,_=>rfl
  | 5,_=>rfl
  | 6,_=>rfl
  | 7,_=>rfl
  | 8,_=>rfl
  | 9,_=>rfl
  | 10,_=>rfl
  | 11,_=>rfl
  | 12,_=>rfl
  | 13,_=>rfl
  | 14,_=>rfl
  | 15,_=>rfl
  | 16,_=>rfl
  | 17,_=>rfl
  | 18,_=>rfl
  | 19,_=>rfl
  | 20,_=>rfl
  | 21,_=>rfl
  | 22,_=>rfl
  | 23,_=>rfl
  | 24,_=>rfl
  | 25,_=>rfl
  | 26,_=>rfl
  | 27,_=>rfl
  | 28,_=>rfl
  | 29,_=>rfl
  | 30,_=>rfl
  | 31,_=>rfl
  | 32,_=>rfl
  | 33,_=>rfl
  | 34,_=>rfl
  | 35,_=>rfl
  | 36,_=>rfl
  | 37,_=>rfl
  | 38,_=>rfl
  | 39,_=>rfl
  | 40,_=>rfl
  | 41,_=>rfl
  | 42,_=>rfl
  | 43,_=>rfl
  | 44,_=>rfl
  | 45,_=>rfl
  | 46,_=>rfl
  | 47,_=>rfl
  | 48,_=>rfl
  | 49,_=>rfl
  | 50,_=>rfl
  | 51,_=>rfl
  | 52,_=>rfl
  | 53,_=>rfl
  | 54,_=>rfl
  | 55,_=>rfl
  | 56,_=>rfl
  | 57,_=>rfl
  | 58,_=>rfl
  | 59,_=>rfl
  | _+60,_=>rfl
 dc
  | 0,_=>rfl
  | 1,_=>rfl
  | 2,_=>rfl
  | 3,_=>rfl
  | 4,_=>rfl
  | 5,_=>rfl
  | 6,_=>rfl
  | 7,_=>rfl
  | 8,_=>rfl
  | 9,_=>rfl
  | 10,_=>rfl
  | 11,_=>rfl
  | 12,_=>rfl
  | 13,_=>rfl
  | 14,_=>rfl
  | 15,_=>rfl
  | 16,_=>rfl
  | 17,_=>rfl
  | 18,_=>rfl
  | 19,_=>rfl
  | 20,_=>rfl
  | 21,_=>rfl
  | 22,_=>rfl
  | 23,_=>rfl
  | 24,_=>rfl
  | 25,_=>rfl
  | 26,_=>rfl
  | 27,_=>rfl
  | 28,_=>rfl
  | 29,_=>rfl
  | 30,_=>rfl
  | 31,_=>rfl
  | 32,_=>rfl
  | 33,_=>rfl
  | 34,_=>rfl
  | 35,_=>rfl
  | 36,_=>rfl
  | 37,_=>rfl
  | 38,_=>rfl
  | 39,_=>rfl
  | 40,_=>rfl
  | 41,_=>rfl
  | 42,_=>rfl
  | 43,_=>rfl
  | 44,_=>rfl
  | 45,_=>rfl
  | 46,_=>rfl
  | 47,_=>rfl
  | 48,_=>rfl
  | 49,_=>rfl
  | 50,_=>rfl
  | 51,_=>rfl
  | 52,_=>rfl
  | 53,_=>rfl
  | 54,_=>rfl
  | 55,_=>rfl
  | 56,_=>rfl
  | 57,_=>rfl
  | 58,_=>rfl
  | 59,_=>rfl
  | _+60,_=>rfl
 eq
  | 1,(x:z0h),y=>x==y
  | 3,(x:zZX),y=>x==y
  | 4,(x:zZ2),y=>x==y
  | 11,(x:z0o),y=>x==y
  | 12,(x:z0G),y=>x==y
  | 14,(x:z0S),y=>x==y
  | 15,(x:zZU),y=>x==y
  | 22,(x:zZZ),y=>x==y
  | 35,(x:zZ4),y=>x==y
  | 44,(x:z0K),y=>x==y
  | 47,(x:z0z),y=>x==y
  | _,_,_=>true
 fp:=[(85,ziy),(86,zer),(87,zny),(92,zqi),(121,zgy),(128,zmm),(129,zmn),(169,zn0),(170,zj7),(183,zbM),(218,zg6),(228,zdb),(229,zj8),(239,zho),(240,zbq),(284,zek),(286,zej),(299,zg8),(300,zhp),(352,zg9),(353,ziF),(359,zdZ),(396,zn6),(434,zn5),(463,zhs),(464,ziO)]
 gl:=[]
 dr
  | 220=>true
  | _=>false
 ax h:=∀w,Fz.on h w→zk9 w
 axm hh ha w hw:=ha w fun b o e=>hw b o (hh b o e)
def G0:Sig tau:=⟨G.fs,G.ti,G.ctor,G.dtor,G.cd,G.dc,G.eq,[],[],G.dr,fun _=>True,fun _ h=>h⟩
def tyl:List (TypeId × Ty):=[(5,.u8),(9,.str),(47,.st 4),(69,.st 14),(72,.st 2),(85,.st 1),(91,.st 11),(94,.st 12),(147,.st 3),(160,.st 15),(190,.st 35),(220,.st 22),(378,.st 47),(462,.st 48),(469,.st 44)]
def zy1:Con tau:=⟨[.sl (.st 4)],[.so 47 (.st 4)],1,[],ztj⟩
def zCC:Con tau:=⟨[.sl .str,.str],[.str],1,[],fun p=>strings_Join p.1 p.2⟩
def znQ:Con tau:=⟨[.str,.u8],[.int],1,[],fun p=>strings_IndexByte p.1 p.2⟩
def zvd:Con tau:=⟨[.int,.int],[.str],1,[],fun p=>zcM p.1 p.2⟩
def zAD:Con tau:=⟨[.str,.str],[.so 9 .str],1,[],fun p=>strings_Split p.1 p.2⟩
def zAE:Con tau:=⟨[.str],[.bool],1,[],zbN⟩
def zEG:Con tau:=⟨[.str,.str],[.str,.str,.bool],3,[],fun p=>strings_Cut p.1 p.2⟩
def zwh:Con tau:=⟨[.str,.str],[.int],1,[],fun p=>zcq p.1 p.2⟩
def zwi:Con tau:=⟨[.str,.str],[.bool],1,[],fun p=>strings_Contains p.1 p.2⟩
def zCD:Con tau:=⟨[.str,.str],[.str],1,[],fun p=>zcd p.1 p.2⟩
def zG6:Con tau:=⟨[.str],[.str],1,[],zbG⟩
def zt9:Con tau:=⟨[.str,.str,.str],[.str],1,[],fun p=>strings_ReplaceAll p.1 p.2.1 p.2.2⟩
def zy2:Con tau:=⟨[.sl (.st 1)],[.so 85 (.st 1)],1,[],zif⟩
def zy3:Con tau:=⟨[.sl (.st 3)],[.so 147 (.st 3)],1,[],zgi⟩
def zxA:Con tau:=⟨[.sl (.st 15)],[.so 160 (.st 15)],1,[],zhd⟩
def zve:Con tau:=⟨[.so 160 (.st 15),.int,.so 160 (.st 15)],[.so 160 (.st 15)],1,[],fun p=>zcN p.1 p.2.1 p.2.2⟩
def zvf:Con tau:=⟨[.str,.str],[.str],1,[],fun p=>zdP p.1 p.2⟩
def zAF:Con tau:=⟨[.str,.str],[.int],1,[],fun p=>strings_Index p.1 p.2⟩
def zOn:Con tau:=⟨[],[.bool],1,[],fun _=>zKH⟩
def zCF:Con tau:=⟨[.int,.int],[.str],1,[],fun p=>zix p.1 p.2⟩
def zy4 (n:Nat):Con tau:=⟨[.int,.int],[.str],1,[],fun p=>zez n p.1 p.2⟩
def zDr:Con tau:=⟨[.u8,.str],[.bool],1,[],fun p=>zga p.1 p.2⟩
def zAG:Con tau:=⟨[.u8],[.bool],1,[],ziy⟩
def zov:Con tau:=⟨[.u8],[.bool],1,[],zer⟩
def zAH:Con tau:=⟨[.u8],[.bool],1,[],zny⟩
def zAI:Con tau:=⟨[.u8],[.bool],1,[],zqi⟩
def zwj:Con tau:=⟨[.u8],[.bool],1,[],zgy⟩
def zwk:Con tau:=⟨[.u8],[.bool],1,[],zmm⟩
def zwl:Con tau:=⟨[.u8],[.bool],1,[],zmn⟩
def zyh:Con tau:=⟨[.u8],[.bool],1,[],zn0⟩
def zLG:Con tau:=⟨[.str,.str],[.bool],1,[],fun p=>zn1 p.1 p.2⟩
def zHf (n:Nat):Con tau:=⟨[.str,.str],[.bool],1,[],fun p=>zjU n p.1 p.2⟩
def zwm:Con tau:=⟨[.u8],[.bool],1,[],zj7⟩
def zqK:Con tau:=⟨[.u8],[.u8],1,[],zcm⟩
def zsW:Con tau:=⟨[.u8],[.bool],1,[],zej⟩
def zsX:Con tau:=⟨[.u8],[.bool],1,[],zbM⟩
def zAK:Con tau:=⟨[.u8,.str],[.bool],1,[],fun p=>zqk p.1 p.2⟩
def zrL:Con tau:=⟨[.str,.int],[.bool],1,[],fun p=>zb7 p.1 p.2⟩
def zmT:Con tau:=⟨[.u8],[.bool],1,[],zdb⟩
def zwp:Con tau:=⟨[.u8],[.bool],1,[],zj8⟩
def zpZ:Con tau:=⟨[.u8],[.bool],1,[],zg8⟩
def zs0:Con tau:=⟨[.u8],[.bool],1,[],zhp⟩
def zs1:Con tau:=⟨[.u8],[.bool],1,[],zbq⟩
def zuF:Con tau:=⟨[.u8],[.bool],1,[],ziF⟩
def zAR:Con tau:=⟨[.po 18],[.str,.bool,.po 18],2,[0],zji⟩
def zHK:Con tau:=⟨[.int],[.st 56,.bool],2,[],zBg⟩
def zr9:Con tau:=⟨[.po 21,.sl (.st 22)],[.int,.po 21],1,[0],fun p=>zbJ p.1 p.2⟩
def ztg:Con tau:=⟨[.po 21],[.bool,.po 21],1,[0],zaZ⟩
def zC1:Con tau:=⟨[.pn 30,.st 4],[.int,.int,.pn 30],2,[0],fun p=>zfx p.1 p.2⟩
def zwI:Con tau:=⟨[.pn 30],[.int,.pn 30],1,[0],zgs⟩
theorem zBf:Tryz.prog.follows .mixedOrders=true:=by kernel_rfl
theorem hNm:∀(f:FuncId) (fn:Func),Tryz.prog.funcs[f]? = some fn→(fn.name == "runtime.NumGoroutine")=false:=zNV (by kernel_rfl)
theorem heq1:∀x y,G.eq 1 x y=eqD (G.fs 1) (G.dtor 1 x) (G.dtor 1 y):=fun ⟨a0,b⟩ ⟨c,a⟩=>by
 show ((⟨a0,b⟩:z0h)==⟨c,a⟩)=(a0==c&&b==a);rw [Bool.eq_iff_iff];simp [z0h.mk.injEq]
theorem heq3:∀x y,G.eq 3 x y=eqD (G.fs 3) (G.dtor 3 x) (G.dtor 3 y):=fun ⟨a0,b⟩ ⟨c,a⟩=>by
 show ((⟨a0,b⟩:zZX)==⟨c,a⟩)=(a0==c&&b==a);rw [Bool.eq_iff_iff];simp [zZX.mk.injEq]
theorem heq4:∀x y,G.eq 4 x y=eqD (G.fs 4) (G.dtor 4 x) (G.dtor 4 y):=fun ⟨a0,b⟩ ⟨c,a⟩=>by
 show ((⟨a0,b⟩:zZ2)==⟨c,a⟩)=(a0==c&&b==a);rw [Bool.eq_iff_iff];simp [zZ2.mk.injEq]
theorem heq11:∀x y,G.eq 11 x y=eqD (G.fs 11) (G.dtor 11 x) (G.dtor 11 y):=fun ⟨a0,c,a2,a3⟩ ⟨d,a,b,e⟩=>by
 show ((⟨a0,c,a2,a3⟩:z0o)==⟨d,a,b,e⟩)=(a0==d&&(c==a&&(a2==b&&(a3==e))));rw [Bool.eq_iff_iff];simp [z0o.mk.injEq]
theorem heq12:∀x y,G.eq 12 x y=eqD (G.fs 12) (G.dtor 12 x) (G.dtor 12 y):=fun ⟨a0,c,a2⟩ ⟨d,a,b⟩=>by
 show ((⟨a0,c,a2⟩:z0G)==⟨d,a,b⟩)=(a0==d&&(c==a&&(a2==b)));rw [Bool.eq_iff_iff];simp [z0G.mk.injEq]
theorem heq14:∀x y,G.eq 14 x y=eqD (G.fs 14) (G.dtor 14 x) (G.dtor 14 y):=fun ⟨a0,c,a2⟩ ⟨d,a,b⟩=>by
 show ((⟨a0,c,a2⟩:z0S)==⟨d,a,b⟩)=(a0==d&&(c==a&&(a2==b)));rw [Bool.eq_iff_iff];simp [z0S.mk.injEq]
theorem heq15:∀x y,G.eq 15 x y=eqD (G.fs 15) (G.dtor 15 x) (G.dtor 15 y):=fun ⟨a0,b⟩ ⟨c,a⟩=>by
 show ((⟨a0,b⟩:zZU)==⟨c,a⟩)=(a0==c&&b==a);rw [Bool.eq_iff_iff];simp [zZU.mk.injEq]
theorem heq22:∀x y,G.eq 22 x y=eqD (G.fs 22) (G.dtor 22 x) (G.dtor 22 y):=fun ⟨a0,c,a2⟩ ⟨d,a,b⟩=>by
 show ((⟨a0,c,a2⟩:zZZ)==⟨d,a,b⟩)=(a0==d&&(c==a&&(a2==b)));rw [Bool.eq_iff_iff];simp [zZZ.mk.injEq]
theorem heq35:∀x y,G.eq 35 x y=eqD (G.fs 35) (G.dtor 35 x) (G.dtor 35 y):=fun ⟨a0,b⟩ ⟨c,a⟩=>by
 show ((⟨a0,b⟩:zZ4)==⟨c,a⟩)=(a0==c&&b==a);rw [Bool.eq_iff_iff];simp [zZ4.mk.injEq]
theorem heq44:∀x y,G.eq 44 x y=eqD (G.fs 44) (G.dtor 44 x) (G.dtor 44 y):=fun ⟨a0,c,a2⟩ ⟨d,a,b⟩=>by
 show ((⟨a0,c,a2⟩:z0K)==⟨d,a,b⟩)=(a0==d&&(c==a&&(a2==b)));rw [Bool.eq_iff_iff];simp [z0K.mk.injEq]
theorem heq47:∀x y,G.eq 47 x y=eqD (G.fs 47) (G.dtor 47 x) (G.dtor 47 y):=fun ⟨a0,b⟩ ⟨c,a⟩=>by
 show ((⟨a0,b⟩:z0z)==⟨c,a⟩)=(a0==c&&b==a);rw [Bool.eq_iff_iff];simp [z0z.mk.injEq]
theorem heq:∀n∈[1,3,4,11,12,14,15,22,35,44,47], ∀x y,G.eq n x y=eqD (G.fs n) (G.dtor n x) (G.dtor n y):=by
 intro n hn;simp only [List.mem_cons,List.not_mem_nil,or_false] at hn
 rcases hn with rfl|rfl|rfl|rfl|rfl|rfl|rfl|rfl|rfl|rfl|rfl
 ·exact heq1
 ·exact heq3
 ·exact heq4
 ·exact heq11
 ·exact heq12
 ·exact heq14
 ·exact heq15
 ·exact heq22
 ·exact heq35
 ·exact heq44
 ·exact heq47
theorem tyk:∀cs n,TyOk (⟨Tryz.prog,G,tyl,cs,n,fun _ => .bool false⟩:Cx tau):=zNW [1,3,4,11,12,14,15,22,35,44,47] (by kernel_rfl) (by kernel_rfl) heq
theorem tyk0:∀cs n,TyOk (⟨Tryz.prog,G0,tyl,cs,n,fun _ => .bool false⟩:Cx tau):=zNW [1,3,4,11,12,14,15,22,35,44,47] (by kernel_rfl) (by kernel_rfl) heq
theorem cqG {f:FuncId} {fn:Func} {k:Con tau} (C:CLs Tryz.prog G) (n:Nat) (h1:Tryz.prog.funcs[f]? = some fn) (hn:Hn tau (DP tau k.rs)) (h2:fnB fn n k=true:=by kernel_rfl) (a:zt8 (⟨Tryz.prog,G,tyl,C.cs,n,fun _ => .bool false⟩:Cx tau) k (bdyF fn) fn.results.toList hn:=by unfold zt8; kernel_rfl):COk Tryz.prog G f k:=zEq zBf hNm tyk C n h1 h2 a
abbrev zd:FuncId→Con tau→Prop:=COk Tryz.prog G
theorem cqH {f:FuncId} {fn:Func} {k:Con tau} (C:CLs Tryz.prog G0) (n:Nat) (h1:Tryz.prog.funcs[f]? = some fn) (hn:Hn tau (DP tau k.rs)) (h2:fnB fn n k=true:=by kernel_rfl) (a:zt8 (⟨Tryz.prog,G0,tyl,C.cs,n,fun _ => .bool false⟩:Cx tau) k (bdyF fn) fn.results.toList hn:=by unfold zt8; kernel_rfl):COk Tryz.prog G0 f k:=zEq zBf hNm tyk0 C n h1 h2 a
abbrev zkB:FuncId→Con tau→Prop:=COk Tryz.prog G0
theorem zKG {w:World} (c:zk9 w):zsJ Tryz.prog G (fun b=>w.heap[b]?):=⟨fun p hp=>(by cases hp),fun w' on=>c.same (zQj on) fun g d=>by
 have a:g<w.heap.size:=Nat.lt_of_lt_of_le d c.size;rw [Array.getElem?_eq_getElem a]
 exact on g _ (Array.getElem?_eq_getElem a)⟩
end
end
end Go.Proofs
end
section
namespace Go.Proofs
open Go.Dk Go.Dm Go.RowKit Go.Rk
theorem zzl (p:DP tau [.st 0,.int]) (_:rgXs G [.st 0,.int] p):ziX p.1 p.2=some true:=zJ2 p.1 p.2
end Go.Proofs
end
section
namespace Go.Proofs
open Go.Dk Go.Dm Go.RowKit Go.Rk
noncomputable section
theorem zxa:COk Tryz.prog G 32 zy1:=zv6 rfl ⟨_,Tryz.func32,by kernel_rfl,by kernel_rfl⟩ fun w h xs R ad c on gl b a hc=>zi6 xs R w (gl.2 w on).1 a hc b
theorem zzI:COk Tryz.prog G 171 zCC:=zNT ⟨_,Tryz.func171,by kernel_rfl,by kernel_rfl⟩ fun w h xs s R ad c on gl b a hc=>zzD xs s R w (gl.2 w on).1 (by rw [show cells zla xs=xs.map str from zLu xs]; exact a) hc b
theorem zdV:COk Tryz.prog G 290 znQ:=zf6 rfl rfl rfl rfl ⟨_,Tryz.func290,by kernel_rfl,by kernel_rfl⟩ fun w h p r on gl a=>ztV p.1 p.2 r w (gl.2 w on).1 a
theorem ztY:COk Tryz.prog G 288 zvd:=zf6 rfl rfl rfl rfl ⟨_,Tryz.func288,by kernel_rfl,by kernel_rfl⟩ fun w h p r on gl a=>ztW p.1 p.2 r w (gl.2 w on) a
theorem zmE:COk Tryz.prog G 283 zAD:=zNS rfl rfl ⟨_,Tryz.func283,by kernel_rfl,by kernel_rfl⟩ fun w h p R on gl a=>by
 have:=zyl p.1 p.2 R w (gl.2 w on).1 a;rw [show zsO G .str R=cells zla R from rfl];exact this
theorem zlB:COk Tryz.prog G 224 zEG:=zf6 rfl rfl rfl rfl ⟨_,Tryz.func224,by kernel_rfl,by kernel_rfl⟩ fun w h p r on gl a=>zBA p.1 p.2 r w (gl.2 w on).1 a
theorem zjL:COk Tryz.prog G 184 zwh:=zf6 rfl rfl rfl rfl ⟨_,Tryz.func184,by kernel_rfl,by kernel_rfl⟩ fun w h p r on gl a=>zuM p.1 p.2 r w (gl.2 w on).1 a
theorem zuO:COk Tryz.prog G 298 zwi:=zf6 rfl rfl rfl rfl ⟨_,Tryz.func298,by kernel_rfl,by kernel_rfl⟩ fun w h p r on gl a=>zuL p.1 p.2 r w (gl.2 w on).1 a
theorem zf0:COk Tryz.prog G 241 zCD:=zf6 rfl rfl rfl rfl ⟨_,Tryz.func241,by kernel_rfl,by kernel_rfl⟩ fun w h p r on gl a=>zzC p.1 p.2 r w (gl.2 w on).1 a
theorem zsp:COk Tryz.prog G 309 zt9:=zf6 rfl rfl rfl rfl ⟨_,Tryz.func309,by kernel_rfl,by kernel_rfl⟩ fun w h p r on gl a=>zsi p.1 p.2.1 p.2.2 r w (gl.2 w on).1 a
theorem zxb:COk Tryz.prog G 66 zy2:=zv6 rfl ⟨_,Tryz.func66,by kernel_rfl,by kernel_rfl⟩ fun w h xs R ad c on gl b a hc=>zjW xs R w (gl.2 w on).1 a hc b
theorem zpy:COk Tryz.prog G 67 zy3:=zv6 rfl ⟨_,Tryz.func67,by kernel_rfl,by kernel_rfl⟩ fun w h xs R ad c on gl b a hc=>zjX xs R w (gl.2 w on).1 a hc b
theorem zoq:COk Tryz.prog G 337 zxA:=zv6 rfl ⟨_,Tryz.func337,by kernel_rfl,by kernel_rfl⟩ fun w h xs R ad c on gl b a hc=>zi5 xs R w (gl.2 w on).1 a hc b
theorem ztZ:COk Tryz.prog G 407 zve:=zQg rfl rfl ⟨_,Tryz.func407,by kernel_rfl,by kernel_rfl⟩ fun w h xs i ys R ad a c f F on gl e d b=>zQ4 xs i ys R w b d
theorem zt0:COk Tryz.prog G 454 zvf:=zf6 rfl rfl rfl rfl ⟨_,Tryz.func454,by kernel_rfl,by kernel_rfl⟩ fun w h p r on gl a=>ztX p.1 p.2 r w (gl.2 w on).1 a
theorem zyv:COk Tryz.prog G 315 zAF:=zf6 rfl rfl rfl rfl ⟨_,Tryz.func315,by kernel_rfl,by kernel_rfl⟩ fun w h p r on gl a=>zmD p.1 p.2 r w (gl.2 w on).1 a
theorem zo3:zkB 289 zqK:=cqH CLs.nil 12 Tryz.func289 .e
def cN {τ:Nat→Type} {P:Program} {G:Sig τ} {f:FuncId} {k:Con τ} (h:COk P G f k):=(CLs.nil:CLs P G).add h
theorem zjt:zkB 286 zsW:=cqH (cN zo3) 11 Tryz.func286 .e
theorem zgZ:zkB 183 zsX:=cqH CLs.nil 9 Tryz.func183 .e
theorem ib0 (s:Str) (c:UInt8) (R:Int) (w0:World) (a:strings_IndexByte s c=some R):Calls Tryz.prog 290 #[str s,zct c] w0 fun e w'=>e = .returned (int R)∧Below w0.heap.size w0 w':=by
 refine (Tryz.strings_IndexByte ⟨s.toArray⟩ c.toNat w0).mono fun e w' ⟨d,b⟩=>?_;subst d b;refine ⟨?_,Below.refl _ _⟩;unfold strings_IndexByte at a;rw [zyk] at a;cases a;simp
theorem zmN:COk Tryz.prog G0 290 znQ:=zf6 rfl rfl rfl rfl ⟨_,Tryz.func290,by kernel_rfl,by kernel_rfl⟩ fun w h p r on gl a=>ib0 p.1 p.2 r w a
theorem zor:zkB 287 zAK:=cqH (cN zmN) 9 Tryz.func287 .e
theorem zyw:zkB 239 ⟨[.u8],[.bool],1,[],zho⟩:=cqH (((cN zor).add zgZ).add zjt) 13 Tryz.func239 .e
theorem zvG:zkB 218 ⟨[.u8],[.bool],1,[],zg6⟩:=cqH CLs.nil 5 Tryz.func218 .e
theorem zBD:zkB 284 ⟨[.u8],[.bool],1,[],zek⟩:=cqH ((cN zo3).add zgZ) 15 Tryz.func284 .e
theorem zkl:zkB 299 zpZ:=cqH CLs.nil 9 Tryz.func299 .e
theorem zrE:zkB 300 zs0:=cqH CLs.nil 9 Tryz.func300 .e
theorem zrF:zkB 240 zs1:=cqH ((cN zrE).add zkl) 13 Tryz.func240 .e
theorem zvH:zkB 352 ⟨[.u8],[.bool],1,[],zg9⟩:=cqH ((cN zgZ).add zjt) 21 Tryz.func352 .e
theorem zDH:zkB 434 ⟨[.u8],[.bool],1,[],zn5⟩:=cqH CLs.nil 9 Tryz.func434 .e
theorem zDI:zkB 396 ⟨[.u8],[.bool],1,[],zn6⟩:=cqH (cN zrF) 9 Tryz.func396 .e
theorem zyx:zkB 463 ⟨[.u8],[.bool],1,[],zhs⟩:=cqH CLs.nil 3 Tryz.func463 .e
theorem zzJ:zkB 464 ⟨[.u8],[.bool],1,[],ziO⟩:=cqH ((cN zmN).add zkl) 10 Tryz.func464 .e
theorem zrN:zkB 359 ⟨[.u8],[.bool],1,[],zdZ⟩:=cqH CLs.nil 5 Tryz.func359 .e
theorem zlk:zkB 127 zDr:=cqH CLs.nil 17 Tryz.func127 (.n 1 (.q (.n 1 (.w [(0,.u8),(1,.str),(5,.int)] [] (fun m t=>zj5 t.1 t.2.1 m t.2.2) fun n0 => .e)) .e))
theorem zF8:zkB 85 zAG:=cqH (cN zlk) 5 Tryz.func85 .e
theorem znC:zkB 86 zov:=cqH (cN zlk) 5 Tryz.func86 .e
theorem zx5:zkB 87 zAH:=cqH (cN zlk) 5 Tryz.func87 .e
theorem zF9:zkB 92 zAI:=cqH (cN zlk) 5 Tryz.func92 .e
theorem zBE:zkB 121 zwj:=cqH CLs.nil 13 Tryz.func121 .e
theorem zBF:zkB 128 zwk:=cqH (cN zlk) 5 Tryz.func128 .e
theorem zBG:zkB 129 zwl:=cqH (cN zlk) 5 Tryz.func129 .e
theorem zDJ:zkB 169 zyh:=cqH ((cN zx5).add znC) 17 Tryz.func169 .e
theorem zBH:zkB 170 zwm:=cqH CLs.nil 9 Tryz.func170 .e
theorem zl7:zkB 228 zmT:=cqH (((cN zor).add zgZ).add zjt) 13 Tryz.func228 .e
theorem zuo:zkB 229 zwp:=cqH (cN zor) 5 Tryz.func229 .e
theorem zzK:zkB 353 zuF:=cqH (((cN zor).add zuo).add zl7) 13 Tryz.func353 .e
theorem zll:∀h,zsJ Tryz.prog G0 h:=fun h=>⟨fun p hp=>(by cases hp),trivial⟩
theorem zlm:zEj Tryz.prog G0:=fun p hp=>by cases hp
theorem fpok:zEj Tryz.prog G:=zb2 (zgx (m:=ziy) zll zlm zF8) (zb2 (zgx (m:=zer) zll zlm znC) (zb2 (zgx (m:=zny) zll zlm zx5) (zb2 (zgx (m:=zqi) zll zlm zF9) (zb2 (zgx (m:=zgy) zll zlm zBE) (zb2 (zgx (m:=zmm) zll zlm zBF) (zb2 (zgx (m:=zmn) zll zlm zBG) (zb2 (zgx (m:=zn0) zll zlm zDJ) (zb2 (zgx (m:=zj7) zll zlm zBH) (zb2 (zgx (m:=zbM) zll zlm zgZ) (zb2 (zgx (m:=zg6) zll zlm zvG) (zb2 (zgx (m:=zdb) zll zlm zl7) (zb2 (zgx (m:=zj8) zll zlm zuo) (zb2 (zgx (m:=zho) zll zlm zyw) (zb2 (zgx (m:=zbq) zll zlm zrF) (zb2 (zgx (m:=zek) zll zlm zBD) (zb2 (zgx (m:=zej) zll zlm zjt) (zb2 (zgx (m:=zg8) zll zlm zkl) (zb2 (zgx (m:=zhp) zll zlm zrE) (zb2 (zgx (m:=zg9) zll zlm zvH) (zb2 (zgx (m:=ziF) zll zlm zzK) (zb2 (zgx (m:=zdZ) zll zlm zrN) (zb2 (zgx (m:=zn6) zll zlm zDI) (zb2 (zgx (m:=zn5) zll zlm zDH) (zb2 (zgx (m:=zhs) zll zlm zyx) (zb2 (zgx (m:=ziO) zll zlm zzJ) (fp_nil))))))))))))))))))))))))))
theorem zDK:zd 33 ⟨[.st 1],[.st 1],1,[],znX⟩:=cqG CLs.nil 18 Tryz.func33 .e
theorem zGa:zd 23 ⟨[.st 5],[.st 7],1,[],ztC⟩:=cqG (cN zDK) 86 Tryz.func23 (.n 2 (.q (.n 1 (.w [(1,.po 5),(2,.po 7),(3,.po 6),(4,.int)] [] (fun m t=>zaX t.1 m t.2.2.1 t.2.2.2) fun n0 => .n 1 (.j [(1,.po 5),(2,.po 7),(3,.po 6),(4,.int)] [] (fun t=>zwL (zaX t.1 n0) t.2.2.1 t.2.2.2) .e .e))) (.j [(1,.po 5),(2,.po 7),(5,.po 7)] [] (fun t=>zwM t.1 t.2.2) .e (.q (.n 1 (.w [(1,.po 5),(2,.po 7),(5,.po 7),(6,.int)] [] (fun m t=>zd6 t.1 m t.2.2.1 t.2.2.2) fun b => .q (.j [(1,.po 5),(2,.po 7),(5,.po 7),(6,.int),(49,.bool)] [] (fun t=>zne (zd6 t.1 b) t.1 t.2.2.1 t.2.2.2.1 t.2.2.2.2) .e .e) .e)) (.q (.n 1 (.w [(1,.po 5),(2,.po 7),(5,.po 7),(7,.int)] [] (fun m t=>zgG t.1 m t.2.2.1 t.2.2.2) fun a => .q (.j [(1,.po 5),(2,.po 7),(5,.po 7),(7,.int),(71,.bool)] [] (fun t=>znd (zgG t.1 a) t.1 t.2.2.1 t.2.2.2.1 t.2.2.2.2) .e .e) .e)) .e)))))
theorem zGb:zd 24 ⟨[.sl (.st 1)],[.so 85 (.st 1)],1,[],zqg⟩:=cqG CLs.nil 46 Tryz.func24 (.n 2 (.q (.n 1 (.w [(0,.sl (.st 1)),(3,.so 85 (.st 1)),(4,.int)] [] (fun m t=>zgH t.1 m t.2.1 t.2.2) fun n0 => .q (.j [(0,.sl (.st 1)),(3,.so 85 (.st 1)),(4,.int),(12,.bool)] [] (fun t=>znf (zgH t.1 n0) t.1 t.2.1 t.2.2.1 t.2.2.2) .e .e) .e)) .e))
theorem zGc:zd 11 ⟨[.st 5],[.st 7],1,[],ztD⟩:=cqG ((cN zGb).add zGa) 15 Tryz.func11 .e
theorem zGd:zd 49 ⟨[.sl (.st 3)],[.so 147 (.st 3)],1,[],zqh⟩:=cqG CLs.nil 38 Tryz.func49 (.n 2 (.q (.n 1 (.w [(0,.sl (.st 3)),(3,.so 147 (.st 3)),(4,.int)] [] (fun m t=>zgI t.1 m t.2.1 t.2.2) fun n0 => .q (.j [(0,.sl (.st 3)),(3,.so 147 (.st 3)),(4,.int),(12,.bool)] [] (fun t=>zng (zgI t.1 n0) t.1 t.2.1 t.2.2.1 t.2.2.2) .e .e) .e)) .e))
theorem zGe:zd 34 ⟨[.st 2],[.st 8],1,[],ztE⟩:=cqG (cN zGd) 50 Tryz.func34 (.n 2 (.q (.n 1 (.w [(1,.po 2),(2,.po 8),(3,.po 6),(4,.int)] [] (fun m t=>za4 t.1 m t.2.2.1 t.2.2.2) fun n0 => .n 1 (.j [(1,.po 2),(2,.po 8),(3,.po 6),(4,.int)] [] (fun t=>zwN (za4 t.1 n0) t.2.2.1 t.2.2.2) .e .e))) (.j [(1,.po 2),(2,.po 8),(3,.po 6)] [] (fun t=>zwQ t.1 t.2.2) .e (.j [(1,.po 2),(2,.po 8),(3,.po 6)] [] (fun t=>zwP t.1 t.2.2) .e (.j [(1,.po 2),(2,.po 8),(3,.po 6)] [] (fun t=>zwO t.1 t.2.2) .e (.j [(1,.po 2),(2,.po 8)] [] (fun t=>znh t.1) .e .e))))))
theorem zGf:zd 25 ⟨[.sl (.st 2)],[.so 72 (.st 2)],1,[],ztF⟩:=cqG (cN zGe) 24 Tryz.func25 (.n 2 (.q (.n 1 (.w [(0,.sl (.st 2)),(3,.so 72 (.st 2)),(4,.int)] [] (fun m t=>zgJ t.1 m t.2.1 t.2.2) fun n0 => .q (.j [(0,.sl (.st 2)),(3,.so 72 (.st 2)),(4,.int),(12,.bool)] [] (fun t=>zni (zgJ t.1 n0) t.1 t.2.1 t.2.2.1 t.2.2.2) .e .e) .e)) .e))
theorem zGg:zd 12 ⟨[.sl (.st 2)],[.so 72 (.st 2)],1,[],ztG⟩:=cqG (cN zGf) 31 Tryz.func12 (.n 2 (.q (.n 1 (.w [(3,.so 72 (.st 2)),(4,.int)] [] (fun m t=>zkC m t.1 t.2) fun n0 => .e)) .e))
theorem zGh:zd 5 ⟨[.st 0],[.st 9],1,[],znw⟩:=cqG ((cN zGg).add zGc) 36 Tryz.func5 .e
theorem zsq:zd 15 ⟨[.st 4],[.int],1,[],zff⟩:=cqG CLs.nil 22 Tryz.func15 (.n 1 (.q (.n 1 (.j [(1,.po 4),(4,.int),(5,.bool)] [] (fun t=>zg3 t.1 t.2.1 t.2.2) .e .e)) .e))
theorem zBI:zd 14 ⟨[.st 4],[.bool],1,[],zow⟩:=cqG (cN zsq) 16 Tryz.func14 .e
theorem zBJ:zd 13 ⟨[.sl (.st 4),.fc 14],[.so 47 (.st 4)],1,[],fun p=>zth p.1⟩:=cqG (cN zBI) 23 Tryz.func13 (.n 2 (.q (.n 1 (.w [(1,.fc 14),(5,.so 47 (.st 4)),(8,.sl (.st 4)),(9,.int),(10,.int)] [] (fun m t=>zf8 t.2.2.1 t.2.2.2.1 m t.2.1 t.2.2.2.2) fun n0 => .e)) .e))
theorem zhv:zd 16 ⟨[.so 47 (.st 4)],[.so 47 (.st 4)],0,[0],zbF⟩:=cqG CLs.nil 28 Tryz.func16 (.n 1 (.w [(9000,.so 47 (.st 4)),(2,.int),(3,.int)] [(0,9000)] (fun m t=>zaj m t.1 t.2.1 t.2.2) fun n0 => .e))
theorem zGi:zd 6 ⟨[.sl (.st 4)],[.so 47 (.st 4)],1,[],znx⟩:=cqG ((cN zhv).add zBJ) 9 Tryz.func6 .e
theorem zDL:zd 17 ⟨[.int,.int],[.int,.int],2,[],fun p=>znY p.1 p.2⟩:=cqG CLs.nil 14 Tryz.func17 .e
theorem zx6:zd 7 ⟨[.st 0,.int],[.so 47 (.st 4),.int],2,[],fun p=>zlu p.1 p.2⟩:=cqG (cN zDL) 59 Tryz.func7 (.n 5 (.q (.w [(1,.int),(6,.int),(7,.int),(8,.so 47 (.st 4))] [] (fun m t=>zfg t.1 m t.2.1 t.2.2.1 t.2.2.2) fun n0 => .n 2 (.j [(1,.int),(6,.int),(7,.int),(8,.so 47 (.st 4))] [] (fun t=>zkD (zfg t.1 n0) t.1 t.2.1 t.2.2.1 t.2.2.2) .e .e)) .e))
theorem zBK:zd 19 ⟨[.st 0],[.st 10],1,[],zox⟩:=cqG CLs.nil 10 Tryz.func19 .e
theorem zo4:zd 79 ⟨[.str,.u8],[.so 9 .str],1,[],fun p=>zj4 p.1 p.2⟩:=cqG CLs.nil 34 Tryz.func79 (.n 3 (.q (.n 1 (.w [(0,.str),(1,.u8),(5,.so 9 .str),(6,.int),(7,.int)] [] (fun m t=>zf9 t.1 t.2.1 m t.2.2.1 t.2.2.2.1 t.2.2.2.2) fun n0 => .e)) .e))
theorem zup:zd 126 ⟨[.u8,.int],[.int],1,[],fun p=>zmh p.1 p.2⟩:=cqG CLs.nil 26 Tryz.func126 (.n 3 (.q (.n 1 (.w [(0,.u8),(1,.int),(5,.str),(6,.str),(7,.int)] [] (fun m t=>znZ t.1 t.2.1 t.2.2.1 t.2.2.2.1 m t.2.2.2.2) fun n0 => .e)) .e))
theorem zpz:∀n,COk Tryz.prog G 125 (zy4 n)
 | 0=>zGP ⟨_,Tryz.func125,by kernel_rfl,by kernel_rfl⟩ fun _=>rfl
 | n+1=>by
  have h:=zpz n;exact zEq zBf hNm tyk (cN h) 29 Tryz.func125 (by kernel_rfl) (hn := .e) (by unfold zt8; kernel_rfl)
theorem znD:COk Tryz.prog G 125 zCF:=zpz fuel
theorem zBL:zd 123 ⟨[.str,.int],[.str,.bool],2,[],fun p=>zoy p.1 p.2⟩:=cqG ((cN znD).add zup) 38 Tryz.func123 (.n 2 (.q (.n 1 (.w [(0,.str),(1,.int),(6,.str),(7,.int)] [] (fun m t=>zeA t.1 t.2.1 m t.2.2.1 t.2.2.2) fun n0 => .n 1 (.q (.n 2 (.j [(0,.str),(1,.int),(6,.str),(7,.int),(8,.int),(27,.bool)] [] (fun t=>zkE (zeA t.1 t.2.1 n0) t.2.1 t.2.2.1 t.2.2.2.1 t.2.2.2.2.1 t.2.2.2.2.2) .e .e)) .e))) .e))
theorem zDM:zd 124 ⟨[.str,.str],[.bool],1,[],fun p=>zq5 p.1 p.2⟩:=cqG CLs.nil 22 Tryz.func124 .e
theorem zDN:zd 83 ⟨[.str,.int,.int],[.int,.int],2,[],fun p=>zq6 p.1 p.2.1 p.2.2⟩:=cqG ((((cN zup).add zDM).add znD).add zBL) 45 Tryz.func83 (.n 5 (.q (.n 1 (.w [(1,.int),(8,.str),(10,.int),(11,.int)] [] (fun m t=>zjc t.1 t.2.1 m t.2.2.1 t.2.2.2) fun n0 => .e)) .e))
theorem zDO:zd 84 ⟨[.int,.int],[.str],1,[],fun p=>zq7 p.1 p.2⟩:=cqG (cN znD) 10 Tryz.func84 .e
theorem zuq:zd 52 ⟨[.str,.int],[.int],1,[],fun p=>zmi p.1 p.2⟩:=cqG ((cN zDO).add zDN) 25 Tryz.func52 .e
theorem zqs:zd 54 ⟨[.str],[.bool],1,[],zjT⟩:=cqG ((cN zuq).add zo4) 22 Tryz.func54 (.n 2 (.q (.n 1 (.w [(3,.so 9 .str),(4,.int)] [] (fun m t=>zjd t.1 m t.2) fun n0 => .e)) .e))
theorem zfy:zd 127 zDr:=cqG CLs.nil 17 Tryz.func127 (.n 1 (.q (.n 1 (.w [(0,.u8),(1,.str),(5,.int)] [] (fun m t=>zj5 t.1 t.2.1 m t.2.2) fun n0 => .e)) .e))
theorem zsr:zd 85 zAG:=cqG (cN zfy) 5 Tryz.func85 .e
theorem zBM:zd 122 ⟨[.str],[.bool],1,[],zmj⟩:=cqG (((cN zsr).add zqs).add zo4) 64 Tryz.func122 (.n 3 (.q (.n 1 (.w [(3,.so 9 .str),(4,.int),(5,.int)] [] (fun m t=>zdv t.1 m t.2.1 t.2.2) fun n0 => .n 1 (.q (.q (.j [(3,.so 9 .str),(4,.int),(5,.int),(26,.bool)] [] (fun t=>zkF (zdv t.1 n0) t.1 t.2.1 t.2.2.1 t.2.2.2) .e .e) (.q (.n 1 (.w [(3,.so 9 .str),(4,.int),(5,.int),(6,.int)] [] (fun m t=>zhT (zdv t.1 n0) t.1 t.2.1 t.2.2.1 m t.2.2.2) fun a => .e)) .e)) .e))) .e))
theorem zGj:zd 82 ⟨[.str],[.bool],1,[],ztH⟩:=cqG (cN zBM) 59 Tryz.func82 (.n 1 (.q (.n 1 (.w [(0,.str),(3,.int)] [] (fun m t=>ziz t.1 m t.2) fun n0 => .n 1 (.q (.n 1 (.q (.n 1 (.w [(0,.str),(3,.int),(4,.int)] [] (fun m t=>zfh t.1 t.2.1 m t.2.2) fun a => .n 1 (.q (.n 1 (.q (.n 1 (.w [(0,.str),(3,.int),(4,.int),(5,.str),(6,.int)] [] (fun m t=>zgK (zfh t.1 t.2.1 a) t.1 t.2.1 t.2.2.1 m t.2.2.2.1 t.2.2.2.2) fun b => .n 1 (.q (.j [(0,.str),(3,.int),(4,.int),(5,.str),(6,.int)] [] (fun t=>znj (zgK (zfh t.1 t.2.1 a) t.1 t.2.1 t.2.2.1 b) t.2.2.2.1 t.2.2.2.2) .e .e) .e))) (.j [(0,.str),(3,.int),(4,.int),(5,.str)] [] (fun t=>znk (zfh t.1 t.2.1 a) t.2.2.1 t.2.2.2) .e .e))) .e))) .e)) .e))) .e))
theorem znE:zd 86 zov:=cqG (cN zfy) 5 Tryz.func86 .e
theorem zx7:zd 87 zAH:=cqG (cN zfy) 5 Tryz.func87 .e
theorem zvI:zd 53 ⟨[.str],[.bool],1,[],zlv⟩:=cqG (((cN zx7).add znE).add zsr) 52 Tryz.func53 (.n 1 (.q (.n 1 (.w [(0,.str),(3,.int)] [] (fun m t=>zei t.1 m t.2) fun n0 => .n 1 (.q (.n 1 (.j [(0,.str),(3,.int),(48,.bool)] [] (fun t=>zlC (zei t.1 n0) t.2.1 t.2.2) .e .e)) .e))) .e))
theorem zIC:zd 51 ⟨[.str],[.st 12],1,[],zti⟩:=cqG (((cN zvI).add zqs).add zGj) 42 Tryz.func51 (.n 1 (.q (.j [(0,.str),(2,.po 12),(26,.bool)] [] (fun t=>zj6 t.1 t.2.2) .e .e) .e))
theorem zur:zd 36 ⟨[.str],[.st 12,.int],2,[],zmk⟩:=cqG ((cN zuq).add zIC) 45 Tryz.func36 (.n 3 (.q (.n 1 (.w [(0,.str),(2,.po 12),(4,.po 12),(5,.int)] [] (fun m t=>zhU t.1 m t.2.2.2) fun n0 => .e)) .e))
theorem zGk:zd 92 zAI:=cqG (cN zfy) 5 Tryz.func92 .e
theorem zi8:zd 57 ⟨[.str],[.bool],1,[],zbi⟩:=cqG (cN zGk) 18 Tryz.func57 (.n 1 (.q (.n 1 (.w [(0,.str),(3,.int)] [] (fun m t=>zhV t.1 m t.2) fun n0 => .e)) .e))
theorem zo5:zd 121 zwj:=cqG CLs.nil 13 Tryz.func121 .e
theorem zyy:zd 81 ⟨[.str],[.bool],1,[],zlD⟩:=cqG (cN zo5) 49 Tryz.func81 (.n 2 (.q (.n 1 (.w [(0,.str),(3,.int),(4,.int)] [] (fun m t=>zbP t.1 m t.2.1 t.2.2) fun n0 => .n 1 (.q (.n 2 (.j [(0,.str),(3,.int),(4,.int)] [] (fun t=>ziB (zbP t.1 n0) t.1 t.2.1 t.2.2) .e (.j [(0,.str),(3,.int),(4,.int)] [] (fun t=>ziA (zbP t.1 n0) t.2.1 t.2.2) .e .e))) .e))) .e))
theorem zBN:zd 80 ⟨[.str],[.bool],1,[],zml⟩:=cqG CLs.nil 26 Tryz.func80 (.n 1 (.q (.n 1 (.w [(0,.str),(3,.int)] [] (fun m t=>zhW t.1 m t.2) fun n0 => .e)) .e))
theorem zBO:zd 50 ⟨[.str],[.st 11,.int],2,[],zoz⟩:=cqG (((((cN zBN).add zyy).add zi8).add zur).add zo4) 149 Tryz.func50 (.n 2 (.q (.w [(0,.str),(2,.po 11),(4,.int)] [] (fun m t=>zeC t.1 m t.2.2) fun n0 => .q (.j [(0,.str),(2,.po 11),(4,.int),(21,.bool)] [] (fun t=>zkH (zeC t.1 n0) t.1 t.2.2.1 t.2.2.2) .e .e) .e) (.n 2 (.q (.w [(0,.str),(2,.po 11),(4,.int),(5,.int)] [] (fun m t=>zeB t.1 t.2.2.1 m t.2.2.2) fun a => .q (.j [(0,.str),(2,.po 11),(4,.int),(5,.int),(40,.bool)] [] (fun t=>zkG (zeB t.1 t.2.2.1 a) t.1 t.2.2.1 t.2.2.2.1 t.2.2.2.2) .e .e) .e) (.n 2 (.j [(0,.str),(2,.po 11),(5,.int),(6,.po 11),(7,.so 9 .str)] [] (fun t=>zhX t.1 t.2.2.1 t.2.2.2.1 t.2.2.2.2) .e (.n 1 (.q (.j [(0,.str),(2,.po 11),(5,.int),(6,.po 11),(107,.bool)] [] (fun t=>zbb t.1 t.2.2.1 t.2.2.2.1 t.2.2.2.2) .e .e) .e))))))))
theorem zDP:zd 35 ⟨[.st 11],[.str,.int],2,[],zq8⟩:=cqG (cN zBO) 43 Tryz.func35 (.n 2 (.j [(1,.po 11),(4,.str)] [] (fun t=>zlE t.1 t.2) .e (.j [(1,.po 11),(4,.str)] [] (fun t=>zje t.1 t.2) .e .e)))
theorem zBP:zd 37 ⟨[.sl (.st 1)],[.int],1,[],zoA⟩:=cqG ((cN zqs).add zvI) 58 Tryz.func37 (.n 1 (.q (.n 1 (.w [(0,.sl (.st 1)),(3,.int)] [] (fun m t=>zgb t.1 m t.2) fun n0 => .n 1 (.q (.n 3 (.w [(0,.sl (.st 1)),(3,.int),(5,.str),(6,.int)] [] (fun m t=>zhY (zgb t.1 n0) t.2.1 t.2.2.1 m t.2.2.2) fun a => .e)) .e))) .e))
theorem zus:zd 88 ⟨[.str,.str],[.int],1,[],fun p=>zfi p.1 p.2⟩:=cqG (cN zfy) 21 Tryz.func88 (.n 2 (.q (.w [(0,.str),(1,.str),(5,.int)] [] (fun m t=>zeD t.1 t.2.1 m t.2.2) fun n0 => .q (.j [(0,.str),(1,.str),(5,.int),(17,.bool)] [] (fun t=>zkI (zeD t.1 t.2.1 n0) t.2.2.1 t.2.2.2) .e .e) .e) .e))
theorem zBQ:zd 128 zwk:=cqG (cN zfy) 5 Tryz.func128 .e
theorem zBR:zd 129 zwl:=cqG (cN zfy) 5 Tryz.func129 .e
theorem zzL:zd 89 ⟨[.str],[.bool],1,[],znl⟩:=cqG (((cN zfy).add zBR).add zBQ) 36 Tryz.func89 (.n 1 (.q (.n 1 (.w [(0,.str),(3,.int)] [] (fun m t=>zb9 t.1 m t.2) fun n0 => .n 1 (.q (.j [(0,.str),(3,.int),(32,.bool)] [] (fun t=>ze7 (zb9 t.1 n0) t.2.1 t.2.2) .e .e) .e))) .e))
theorem zDQ:zd 169 zyh:=cqG ((cN zx7).add znE) 17 Tryz.func169 .e
theorem zvJ:∀n,COk Tryz.prog G 130 (zHf n)
 | 0=>zGP ⟨_,Tryz.func130,by kernel_rfl,by kernel_rfl⟩ fun _=>rfl
 | n+1=>by
  have h:=zvJ n;exact zEq zBf hNm tyk ((((cN zfy).add zDQ).add h).add zsr) 44 Tryz.func130 (by kernel_rfl) (hn := .e) (by unfold zt8; kernel_rfl)
theorem zID:COk Tryz.prog G 130 zLG:=zvJ fuel
theorem zBS:zd 90 ⟨[.st 13],[.bool],1,[],zoB⟩:=cqG ((cN zus).add zID) 76 Tryz.func90 (.n 3 (.q (.j [(1,.po 13),(55,.bool)] [] (fun t=>zkJ t.1 t.2) .e .e) .e))
theorem zBT:zd 55 ⟨[.str],[.st 13,.int],2,[],zmo⟩:=cqG (((cN zBS).add zzL).add zus) 94 Tryz.func55 (.n 3 (.j [(0,.str),(2,.po 13),(4,.po 13)] [] (fun t=>zh3 t.1 t.2.2) .e (.n 1 (.j [(0,.str),(2,.po 13),(4,.po 13)] [] (fun t=>zh2 t.1 t.2.2) .e (.n 1 (.j [(0,.str),(2,.po 13),(4,.po 13)] [] (fun t=>zh0 t.1 t.2.2) (.j [(0,.str),(2,.po 13),(4,.po 13),(7,.int),(57,.bool)] [] (fun t=>zh1 t.1 t.2.2.1 t.2.2.2.1 t.2.2.2.2) .e .e) (.j [(0,.str),(2,.po 13),(4,.po 13)] [] (fun t=>zhZ t.1 t.2.2) (.j [(0,.str),(2,.po 13),(4,.po 13),(73,.bool)] [] (fun t=>zkK t.1 t.2.2.1 t.2.2.2) .e .e) .e)))))))
theorem zBU:zd 38 ⟨[.sl (.st 1)],[.int],1,[],zoC⟩:=cqG (cN zBT) 49 Tryz.func38 (.n 1 (.q (.n 1 (.w [(0,.sl (.st 1)),(3,.int)] [] (fun m t=>zh4 t.1 m t.2) fun n0 => .e)) .e))
theorem zBV:zd 26 ⟨[.st 5],[.int],1,[],zoD⟩:=cqG ((((cN zBU).add zBP).add zur).add zDP) 51 Tryz.func26 (.n 4 (.q (.j [(1,.po 5),(4,.int),(27,.bool)] [] (fun t=>zkL t.1 t.2.1 t.2.2) .e .e) (.q (.j [(1,.po 5),(41,.bool)] [] (fun t=>zh5 t.1 t.2) .e .e) .e)))
theorem zzM:zd 131 ⟨[.str],[.bool],1,[],znm⟩:=cqG (cN zo5) 15 Tryz.func131 (.n 1 (.q (.n 1 (.w [(0,.str),(3,.int)] [] (fun m t=>zg4 t.1 m t.2) fun n0 => .e)) .e))
theorem zBW:zd 170 zwm:=cqG CLs.nil 9 Tryz.func170 .e
theorem zDR:zd 132 ⟨[.str],[.str],1,[],zq9⟩:=cqG (cN zBW) 30 Tryz.func132 (.n 1 (.q (.w [(0,.str)] [] (fun m t=>zfE m t) fun n0 => .q (.j [(0,.str),(10,.bool)] [] (fun t=>zlG (zfE n0) t.1 t.2) .e .e) .e) (.q (.w [(0,.str)] [] (fun m t=>zfD m t) fun a => .q (.j [(0,.str),(23,.bool)] [] (fun t=>zlF (zfD a) t.1 t.2) .e .e) .e) .e)))
theorem zBX:zd 91 ⟨[.st 15],[.int],1,[],zoE⟩:=cqG (((cN zDR).add zzM).add zi8) 19 Tryz.func91 .e
theorem zBY:zd 56 ⟨[.st 14],[.bool],1,[],zmp⟩:=cqG ((cN zi8).add zBX) 42 Tryz.func56 .e
theorem zvK:zd 93 ⟨[.str],[.str],1,[],zn2⟩:=cqG CLs.nil 36 Tryz.func93 (.n 2 (.q (.n 1 (.w [(0,.str),(3,.str),(4,.int)] [] (fun m t=>zhn t.1 m t.2.1 t.2.2) fun n0 => .n 1 (.q (.n 1 (.q (.n 1 (.w [(0,.str),(3,.str),(4,.int),(5,.str),(6,.int)] [] (fun m t=>zfF (zhn t.1 n0) t.1 t.2.1 t.2.2.1 m t.2.2.2.1 t.2.2.2.2) fun a => .e)) .e)) .e))) .e))
theorem zBZ:zd 94 ⟨[.str],[.bool],1,[],zoF⟩:=cqG (cN zvK) 14 Tryz.func94 .e
theorem zDS:zd 58 ⟨[.str],[.bool],1,[],zlw⟩:=cqG ((cN zBZ).add zvK) 12 Tryz.func58 .e
theorem zB0:zd 59 ⟨[.int],[.so 9 .str],1,[],zoG⟩:=cqG CLs.nil 9 Tryz.func59 .e
theorem zB1:zd 60 ⟨[.sl (.st 3)],[.so 9 .str],1,[],zoH⟩:=cqG CLs.nil 49 Tryz.func60 (.n 2 (.q (.n 1 (.w [(0,.sl (.st 3)),(3,.so 9 .str),(4,.int)] [] (fun m t=>zgd t.1 m t.2.1 t.2.2) fun n0 => .n 1 (.q (.n 1 (.q (.n 1 (.w [(0,.sl (.st 3)),(3,.so 9 .str),(4,.int),(5,.bool),(6,.int)] [] (fun m t=>zgc (zgd t.1 n0) t.1 t.2.1 t.2.2.1 m t.2.2.2.1 t.2.2.2.2) fun a => .e)) .e)) .e))) .e))
theorem zGl:zd 133 ⟨[.str],[.st 3,.int],2,[],ztI⟩:=cqG (((cN zfy).add zi8).add zo5) 85 Tryz.func133 (.n 2 (.q (.j [(0,.str),(2,.po 3),(25,.bool)] [] (fun t=>zno t.1 t.2.2) .e .e) (.n 1 (.q (.w [(0,.str),(2,.po 3),(4,.int)] [] (fun m t=>zgL t.1 m t.2.2) fun n0 => .q (.j [(0,.str),(2,.po 3),(4,.int),(36,.bool)] [] (fun t=>znn (zgL t.1 n0) t.1 t.2.2.1 t.2.2.2) .e .e) .e) (.n 3 (.q (.n 1 (.w [(2,.po 3),(4,.int),(5,.str),(6,.int)] [] (fun m t=>zkM t.2.1 t.2.2.1 m t.2.2.2) fun a => .e)) .e))))))
theorem zB2:zd 95 ⟨[.str],[.so 147 (.st 3),.int],2,[],zoI⟩:=cqG (cN zGl) 58 Tryz.func95 (.n 2 (.q (.w [(0,.str),(4,.so 147 (.st 3))] [] (fun m t=>zdw m t.1 t.2) fun n0 => .n 5 (.j [(0,.str),(4,.so 147 (.st 3)),(5,.po 3),(7,.int),(37,.bool)] [] (fun t=>zh6 (zdw n0) t.1 t.2.1 t.2.2.1 t.2.2.2.1 t.2.2.2.2) .e .e)) .e))
theorem zDT:zd 96 ⟨[.sl (.st 3),.sl (.st 3)],[.bool],1,[],fun p=>zra p.1 p.2⟩:=cqG CLs.nil 26 Tryz.func96 (.n 2 (.q (.n 1 (.w [(0,.sl (.st 3)),(1,.sl (.st 3)),(5,.int)] [] (fun m t=>zjf t.1 t.2.1 m t.2.2) fun n0 => .e)) .e))
theorem zDU:zd 61 ⟨[.sl (.st 3)],[.str,.int],2,[],zrb⟩:=cqG ((cN zDT).add zB2) 89 Tryz.func61 (.n 2 (.q (.n 1 (.w [(0,.sl (.st 3)),(4,.str),(5,.int)] [] (fun m t=>zcu t.1 m t.2.1 t.2.2) fun n0 => .n 1 (.q (.n 2 (.q (.n 1 (.w [(0,.sl (.st 3)),(4,.str),(5,.int),(6,.int)] [] (fun m t=>zfG (zcu t.1 n0) t.1 t.2.2.1 m t.2.1 t.2.2.2) fun a => .n 1 (.q (.j [(0,.sl (.st 3)),(4,.str),(5,.int),(6,.int)] [] (fun t=>zlH (zfG (zcu t.1 n0) t.1 t.2.2.1 a) t.1 t.2.1 t.2.2.1 t.2.2.2) .e .e) .e))) .e)) .e))) .e))
theorem zB3:zd 39 ⟨[.st 2],[.int],1,[],zoJ⟩:=cqG ((((((cN zDU).add zB1).add zB0).add zDS).add zi8).add zBY) 126 Tryz.func39 (.n 1 (.j [(1,.po 2),(3,.bool)] [] (fun t=>zb6 t.1 t.2) .e (.n 2 (.q (.n 1 (.w [(1,.po 2),(3,.bool),(4,.so 9 .str),(5,.so 9 .str),(6,.int)] [] (fun m t=>zgf t.1 t.2.2.1 t.2.2.2.1 m t.2.1 t.2.2.2.2) fun n0 => .n 1 (.q (.n 1 (.q (.n 1 (.w [(1,.po 2),(3,.bool),(4,.so 9 .str),(5,.so 9 .str),(6,.int),(7,.bool),(8,.int)] [] (fun m t=>zge (zgf t.1 t.2.2.1 t.2.2.2.1 n0) t.2.1 t.2.2.1 t.2.2.2.1 t.2.2.2.2.1 m t.2.2.2.2.2.1 t.2.2.2.2.2.2) fun a => .e)) .e)) .e))) (.n 1 (.q (.n 1 (.j [(1,.po 2),(3,.bool),(10,.int),(76,.int),(77,.bool)] [] (fun t=>zkN t.1 t.2.1 t.2.2.1 t.2.2.2.1 t.2.2.2.2) .e .e)) .e))))))
theorem zB4:zd 27 ⟨[.sl (.st 2)],[.int,.int],2,[],zoK⟩:=cqG (cN zB3) 21 Tryz.func27 (.n 1 (.q (.n 1 (.w [(0,.sl (.st 2)),(4,.int)] [] (fun m t=>zh7 t.1 m t.2) fun n0 => .e)) .e))
theorem zB5:zd 18 ⟨[.st 10],[.int],1,[],zoL⟩:=cqG ((cN zB4).add zBV) 48 Tryz.func18 .e
theorem zB6:zd 8 ⟨[.st 0],[.int],1,[],zgz⟩:=cqG ((cN zB5).add zBK) 22 Tryz.func8 (.n 2 (.q (.j [(3,.int),(20,.bool)] [] (fun t=>zh8 t.1 t.2) .e .e) .e))
theorem zGm:zd 21 ⟨[.st 0,.sl (.st 4)],[.st 16],1,[],fun p=>zqj p.1 p.2⟩:=cqG (cN zxa) 9 Tryz.func21 .e
theorem zb8:zd 134 ⟨[.str,.sl .str],[.str],1,[],fun p=>zaN p.1 p.2⟩:=cqG (cN zzI) 8 Tryz.func134 .e
theorem zgA:zd 172 ⟨[.str],[.po 18],1,[],zg5⟩:=cqG CLs.nil 6 Tryz.func172 .e
theorem zut:zd 289 zqK:=cqG CLs.nil 12 Tryz.func289 .e
theorem zrG:zd 286 zsW:=cqG (cN zut) 11 Tryz.func286 .e
theorem zmF:zd 183 zsX:=cqG CLs.nil 9 Tryz.func183 .e
theorem zss:zd 287 zAK:=cqG (cN zdV) 9 Tryz.func287 .e
theorem zfe:zd 279 ⟨[.pt 18],[.int],1,[],zcW⟩:=cqG CLs.nil 9 Tryz.func279 .e
theorem zdW:zd 221 ⟨[.pt 18],[.str],1,[],zbf⟩:=cqG CLs.nil 14 Tryz.func221 .e
theorem zbE:zd 219 ⟨[.pt 18],[.bool],1,[],zbc⟩:=cqG (cN zdW) 6 Tryz.func219 .e
theorem zcO:zd 216 ⟨[.pt 18],[.u8,.bool],2,[],zbg⟩:=cqG (cN zbE) 15 Tryz.func216 .e
theorem zaM:zd 217 ⟨[.po 18,.fn],[.str,.po 18],1,[0],fun p=>zak p.1 p.2⟩:=cqG ((cN zcO).add zfe) 42 Tryz.func217 (.n 2 (.q (.w [(9000,.po 18),(1,.fn),(5,.int)] [(0,9000)] (fun m t=>zcn t.2.1 t.2.2 m t.1) fun n0 => .e) .e))
theorem zbj:zd 215 ⟨[.po 18],[.str,.bool,.po 18],2,[0],zau⟩:=cqG (cN zaM) 10 Tryz.func215 .e
theorem zX:zd 174 ⟨[.po 18,.u8],[.bool,.po 18],1,[0],fun p=>zl p.1 p.2⟩:=cqG (cN zcO) 26 Tryz.func174 .e
theorem zpA:zd 173 ⟨[.st 19,.po 11],[.bool,.po 11,.po 18],1,[1,32],fun p=>zeT p.1 p.2⟩:=cqG ((cN zX).add zbj) 37 Tryz.func173 (.n 3 (.j [(9001,.po 11),(9032,.po 18),(6,.bool)] [] (fun t=>zdk t.1 t.2.1 t.2.2) (.j [(9001,.po 11),(2,.po 19),(5,.str),(6,.bool),(22,.bool)] [(9032,100002),(1,9001)] (fun t=>zdl t.1 t.2.1 t.2.2.1 t.2.2.2.1 t.2.2.2.2) .e .e) .e))
theorem zb1:zd 231 ⟨[.fn,.sl .str],[.bool],1,[],fun p=>zco p.1 p.2⟩:=cqG CLs.nil 27 Tryz.func231 (.n 1 (.q (.n 1 (.w [(0,.fn),(8,.sl .str),(9,.int),(10,.int)] [] (fun m t=>ziC t.1 t.2.1 t.2.2.1 m t.2.2.2) fun n0 => .n 2 (.q (.n 2 (.w [(0,.fn),(6,.str),(8,.sl .str),(9,.int),(10,.int),(15,.int),(16,.int)] [] (fun m t=>zkO (ziC t.1 t.2.2.1 t.2.2.2.1 n0) t.1 t.2.1 t.2.2.2.2.1 t.2.2.2.2.2.1 m t.2.2.2.2.2.2) fun a => .e)) .e))) .e))
theorem zyz:zd 232 ⟨[.u8],[.int],1,[],zlI⟩:=cqG ((cN zut).add zmF) 13 Tryz.func232 .e
theorem zst:zd 182 ⟨[.str,.int,.int,.fn],[.int,.int],2,[],fun p=>zkP p.1 p.2.1 p.2.2.1 p.2.2.2⟩:=cqG ((cN zyz).add zb1) 50 Tryz.func182 (.n 3 (.q (.n 1 (.w [(0,.str),(1,.int),(2,.int),(10,.int),(23,.int),(24,.int)] [] (fun m t=>zg7 t.1 t.2.1 t.2.2.1 t.2.2.2.2.1 m t.2.2.2.1 t.2.2.2.2.2) fun n0 => .e)) .e))
theorem zhy:zd 139 ⟨[.str,.int],[.int,.int],2,[],fun p=>zdS p.1 p.2⟩:=cqG (cN zst) 11 Tryz.func139 .e
theorem zsu:zd 230 ⟨[.int,.int],[.str],1,[],fun p=>zkQ p.1 p.2⟩:=cqG (cN ztY) 10 Tryz.func230 .e
theorem zf1:zd 181 ⟨[.int],[.str],1,[],zdm⟩:=cqG (cN zsu) 5 Tryz.func181 .e
theorem zpB:zd 138 zrL:=cqG ((cN zf1).add zhy) 21 Tryz.func138 .e
theorem ze5:COk Tryz.prog G 178 zAE:=zf6 rfl rfl rfl rfl ⟨_,Tryz.func178,by kernel_rfl,by kernel_rfl⟩ fun w h p r on gl a=>by
 have a:zbN p=some r:=a;unfold zbN at a
 split at a
 ·rename_i d
  obtain ⟨bs,c,a⟩:=ob a;cases a;exact zQo (fun x=>zb7 x 255) (fun x b W f h=>zAq (k:=zrL) rfl rfl rfl rfl zpB fpok (p:=(x,(255:Int))) (r:=b) h (h:=fun b=>W.heap[b]?) (fun _ _ e=>e) (zKG f)) p d bs c w (gl.2 w on)
 ·cases a
theorem zvL:zd 225 ⟨[.str,.bool],[.int],1,[],fun p=>ze8 p.1 p.2⟩:=cqG (((cN zb1).add ze5).add zmE) 53 Tryz.func225 (.n 4 (.q (.n 1 (.w [(1,.bool),(5,.so 9 .str),(6,.int),(14,.int),(15,.int)] [(13,5)] (fun m t=>zbl t.1 t.2.1 t.2.2.2.1 m t.2.2.1 t.2.2.2.2) fun n0 => .n 2 (.q (.n 1 (.j [(1,.bool),(5,.so 9 .str),(6,.int),(8,.str),(14,.int),(15,.int),(20,.bool)] [(13,5)] (fun t=>zeF (zbl t.1 t.2.1 t.2.2.2.2.1 n0) t.2.2.1 t.2.2.2.1 t.2.2.2.2.2.1 t.2.2.2.2.2.2) .e (.q .e (.j [(1,.bool),(5,.so 9 .str),(6,.int),(14,.int),(15,.int),(35,.bool)] [(13,5)] (fun t=>zeE (zbl t.1 t.2.1 t.2.2.2.1 n0) t.2.2.1 t.2.2.2.2.1 t.2.2.2.2.2) .e .e)))) .e))) .e))
theorem znF:zd 177 ⟨[.str],[.bool],1,[],ziD⟩:=cqG ((cN zvL).add zlB) 35 Tryz.func177 .e
theorem zuP:zd 227 ⟨[.str],[.bool],1,[],ziE⟩:=cqG (cN zb1) 17 Tryz.func227 .e
theorem zl8:zd 228 zmT:=cqG (((cN zss).add zmF).add zrG) 13 Tryz.func228 .e
theorem zuu:zd 229 zwp:=cqG (cN zss) 5 Tryz.func229 .e
theorem zmG:zd 179 ⟨[.str],[.bool],1,[],zfH⟩:=cqG (((cN zuu).add zl8).add zuP) 23 Tryz.func179 (.n 2 (.q (.w [(0,.str)] [] (fun m t=>zdc m t) fun n0 => .e) .e))
theorem zB7:zd 136 ⟨[.str],[.st 12,.bool],2,[],zmq⟩:=cqG (((cN zmG).add ze5).add znF) 51 Tryz.func136 (.n 2 (.q (.j [(0,.str),(2,.po 12),(4,.po 12),(7,.bool)] [] (fun t=>zgg t.1 t.2.2.1 t.2.2.2) .e .e) .e))
theorem zl9:zd 180 ⟨[.str,.u8],[.int],1,[],fun p=>zbv p.1 p.2⟩:=cqG CLs.nil 19 Tryz.func180 (.n 1 (.q (.n 1 (.w [(0,.str),(1,.u8),(5,.int)] [] (fun m t=>zbd t.1 t.2.1 m t.2.2) fun n0 => .e)) .e))
theorem zj0:zd 137 ⟨[.str,.u8],[.int],1,[],fun p=>zc2 p.1 p.2⟩:=cqG (cN zl9) 8 Tryz.func137 .e
theorem zep:zd 98 ⟨[.str],[.st 12,.int],2,[],zcy⟩:=cqG ((((cN zhy).add zpB).add zj0).add zB7) 49 Tryz.func98 .e
theorem zfz:zd 186 ⟨[.str],[.bool],1,[],zel⟩:=cqG (cN zb1) 10 Tryz.func186 .e
theorem zeQ:zd 141 ⟨[.str,.str],[.bool],1,[],fun p=>zbX p.1 p.2⟩:=cqG (cN zjL) 9 Tryz.func141 .e
theorem zvM:zd 175 ⟨[.st 19,.po 11],[.bool,.po 11,.po 18],1,[1,32],fun p=>zjw p.1 p.2⟩:=cqG ((((cN zeQ).add zfz).add zep).add zaM) 38 Tryz.func175 (.n 3 (.j [(9001,.po 11),(9032,.po 18),(4,.bool)] [] (fun t=>zeG t.1 t.2.1 t.2.2) .e .e))
theorem zf2:zd 344 ⟨[.str,.str],[.bool],1,[],fun p=>zb3 p.1 p.2⟩:=cqG CLs.nil 18 Tryz.func344 .e
theorem zpC:zd 280 ⟨[.str,.str],[.str,.bool],2,[],fun p=>zeU p.1 p.2⟩:=cqG (cN zf2) 15 Tryz.func280 .e
theorem zi2:zd 220 ⟨[.str,.str],[.str,.bool],2,[],fun p=>zdH p.1 p.2⟩:=cqG (cN zpC) 11 Tryz.func220 .e
theorem zj1:zd 345 ⟨[.str,.str],[.bool],1,[],fun p=>zc3 p.1 p.2⟩:=cqG CLs.nil 21 Tryz.func345 .e
theorem zpD:zd 281 ⟨[.str,.str],[.str,.bool],2,[],fun p=>zeV p.1 p.2⟩:=cqG (cN zj1) 18 Tryz.func281 .e
theorem zmO:zd 222 ⟨[.str,.str],[.str,.bool],2,[],fun p=>zfj p.1 p.2⟩:=cqG (cN zpD) 11 Tryz.func222 .e
theorem zvN:zd 299 zpZ:=cqG CLs.nil 9 Tryz.func299 .e
theorem zyA:zd 300 zs0:=cqG CLs.nil 9 Tryz.func300 .e
theorem zrH:zd 240 zs1:=cqG ((cN zyA).add zvN) 13 Tryz.func240 .e
theorem zzN:zd 223 ⟨[.str],[.bool],1,[],znp⟩:=cqG (cN zb1) 41 Tryz.func223 (.n 2 (.q (.n 1 (.w [(0,.str),(3,.int),(4,.int)] [] (fun m t=>zca t.1 m t.2.1 t.2.2) fun n0 => .n 1 (.q (.j [(0,.str),(3,.int),(4,.int)] [] (fun t=>ze9 (zca t.1 n0) t.1 t.2.1 t.2.2) .e .e) .e))) .e))
theorem zqt:zd 176 ⟨[.st 19,.po 11],[.bool,.po 11,.po 18],1,[1,32],fun p=>zfk p.1 p.2⟩:=cqG (((((cN zzN).add zmO).add zi2).add zdW).add zbE) 40 Tryz.func176 (.n 5 (.j [(9001,.po 11),(9032,.po 18),(4,.bool)] [] (fun t=>zbA t.1 t.2.1 t.2.2) .e .e))
theorem zGn:zd 135 ⟨[.str],[.st 11,.int],2,[],ztJ⟩:=cqG (((((cN zqt).add zvM).add zX).add zpA).add zgA) 30 Tryz.func135 .e
theorem zzO:zd 97 ⟨[.st 11],[.str,.int],2,[],zn3⟩:=cqG ((cN zGn).add zb8) 44 Tryz.func97 (.n 2 (.j [(1,.po 11),(4,.so 9 .str)] [] (fun t=>zms t.1 t.2) .e (.j [(1,.po 11),(4,.so 9 .str)] [] (fun t=>zmr t.1 t.2) .e .e)))
theorem zzP:zd 140 ⟨[.str],[.bool],1,[],zkR⟩:=cqG ((cN ze5).add zmG) 10 Tryz.func140 .e
theorem zyB:zd 99 ⟨[.sl (.st 1)],[.int],1,[],zlJ⟩:=cqG ((cN zeQ).add zzP) 30 Tryz.func99 (.n 1 (.q (.n 1 (.w [(0,.sl (.st 1)),(5,.sl (.st 1)),(6,.int),(7,.int)] [] (fun m t=>zgh t.1 t.2.1 t.2.2.1 m t.2.2.2) fun n0 => .e)) .e))
theorem zyC:zd 294 ⟨[.str],[.bool],1,[],zlK⟩:=cqG ((cN zb1).add zrG) 17 Tryz.func294 .e
theorem zdX:zd 295 ⟨[.str,.str],[.bool],1,[],fun p=>zbw p.1 p.2⟩:=cqG (cN zf2) 8 Tryz.func295 .e
theorem zuv:zd 296 ⟨[.str,.str],[.str,.str],2,[],fun p=>zh9 p.1 p.2⟩:=cqG (cN zjL) 19 Tryz.func296 .e
theorem zzQ:zd 237 ⟨[.str],[.st 13],1,[],znq⟩:=cqG ((((cN zuv).add zdX).add zyC).add zdV) 56 Tryz.func237 (.n 2 (.j [(0,.str),(2,.po 13),(3,.po 13)] [] (fun t=>zhc t.1 t.2.2) (.n 1 (.j [(0,.str),(2,.po 13),(3,.po 13),(4,.int),(14,.bool)] [] (fun t=>zjy t.1 t.2.2.1 t.2.2.2.1 t.2.2.2.2) .e .e)) (.j [(0,.str),(2,.po 13),(3,.po 13)] [] (fun t=>zhb t.1 t.2.2) .e (.n 1 (.j [(0,.str),(2,.po 13),(3,.po 13)] [] (fun t=>zha t.1 t.2.2) .e (.j [(2,.po 13),(3,.po 13)] [] (fun t=>zjx t.2) .e .e))))))
theorem zsv:zd 353 zuF:=cqG (((cN zss).add zuu).add zl8) 13 Tryz.func353 .e
theorem zzR:zd 297 ⟨[.str,.str],[.bool],1,[],fun p=>zgM p.1 p.2⟩:=cqG (((cN zdV).add zsv).add zb1) 49 Tryz.func297 (.n 1 (.q (.n 1 (.w [(0,.str),(1,.str),(5,.int)] [] (fun m t=>zcX t.1 t.2.1 m t.2.2) fun n0 => .n 1 (.q (.n 1 (.q .e (.j [(0,.str),(1,.str),(5,.int),(35,.bool)] [] (fun t=>zjz (zcX t.1 t.2.1 n0) t.2.2.1 t.2.2.2) .e .e))) .e))) .e))
theorem zB8:zd 238 ⟨[.st 13],[.bool],1,[],zoM⟩:=cqG ((((cN zdX).add zuO).add zzR).add zuv) 63 Tryz.func238 .e
theorem zzS:zd 185 ⟨[.str],[.st 13,.int],2,[],znr⟩:=cqG ((cN zB8).add zzQ) 12 Tryz.func185 .e
theorem zuw:zd 142 ⟨[.str],[.bool],1,[],zia⟩:=cqG (cN zzS) 12 Tryz.func142 .e
theorem zxc:zd 100 ⟨[.sl (.st 1)],[.int],1,[],zkS⟩:=cqG (cN zuw) 30 Tryz.func100 (.n 1 (.q (.n 1 (.w [(0,.sl (.st 1)),(5,.sl (.st 1)),(6,.int),(7,.int)] [] (fun m t=>zfl t.1 t.2.1 t.2.2.1 m t.2.2.2) fun n0 => .e)) .e))
theorem zB9:zd 62 ⟨[.st 5],[.int],1,[],zj9⟩:=cqG ((((cN zxc).add zyB).add zep).add zzO) 54 Tryz.func62 (.n 2 (.q (.n 1 (.j [(1,.po 5),(6,.int),(30,.bool)] [] (fun t=>zkT t.1 t.2.1 t.2.2) .e .e)) (.q (.j [(1,.po 5),(44,.bool)] [] (fun t=>zib t.1 t.2) .e .e) .e)))
theorem zo6:zd 63 ⟨[.int],[.pn 27,.int],2,[],zdx⟩:=cqG CLs.nil 13 Tryz.func63 .e
theorem zCa:zd 64 ⟨[.int],[.pn 21,.int],2,[],zic⟩:=cqG CLs.nil 14 Tryz.func64 .e
theorem zvO:zd 143 ⟨[.int],[.sn 9 .str],1,[],zn4⟩:=cqG CLs.nil 10 Tryz.func143 .e
theorem zkm:zd 187 ⟨[.st 15],[.int],1,[],zfa⟩:=cqG (((cN zf0).add zb1).add zfz) 22 Tryz.func187 .e
theorem zDV:zd 144 ⟨[.st 14],[.bool],1,[],zrc⟩:=cqG ((cN zkm).add zfz) 35 Tryz.func144 (.n 1 (.q (.n 2 (.q .e (.j [(1,.po 14),(4,.int),(15,.bool)] [] (fun t=>zlL t.1 t.2.1 t.2.2) .e .e))) .e))
theorem zx8:zd 307 ⟨[],[.so 9 .str],1,[],fun _=>ztK⟩:=cqG CLs.nil 2 Tryz.func307 .e
theorem zd2:COk Tryz.prog G 244 zG6:=zf6 rfl rfl rfl rfl ⟨_,Tryz.func244,by kernel_rfl,by kernel_rfl⟩ fun w h p r on gl a=>by
 have a:(if List.length (α:=UInt8) p<4294967281 then List.mapM zcm p else none)=some r:=a
 split at a
 ·rename_i f
  exact zLm zcm ⟨List.toArray (α:=UInt8) p⟩ r w (gl.2 w on).1 f a fun b c w d _=>zAq (k:=zqK) rfl rfl rfl rfl zo3 zlm (p:=b) (r:=c) d (h:=fun _=>none) (fun _ _ e=>by cases e) (zll _)
 ·cases a
theorem zln:zd 308 ⟨[.sl .str,.str],[.int],1,[],fun p=>zcb p.1 p.2⟩:=cqG CLs.nil 19 Tryz.func308 (.n 1 (.q (.n 1 (.w [(0,.sl .str),(1,.str),(7,.int),(8,.int)] [] (fun m t=>za9 t.1 t.2.1 t.2.2.1 m t.2.2.2) fun n0 => .e)) .e))
theorem zat:zd 243 ⟨[.sl .str,.str],[.bool],1,[],fun p=>zU p.1 p.2⟩:=cqG (cN zln) 9 Tryz.func243 .e
theorem zGo:zd 242 ⟨[.str],[.bool],1,[],ztL⟩:=cqG (((cN zat).add zd2).add zx8) 7 Tryz.func242 .e
theorem zGp:zd 188 ⟨[.str],[.bool],1,[],ztM⟩:=cqG (((cN zat).add zd2).add zGo) 13 Tryz.func188 .e
theorem zx9:zd 145 ⟨[.str],[.bool],1,[],zql⟩:=cqG ((cN zGp).add zfz) 10 Tryz.func145 .e
theorem zDW:zd 245 ⟨[.sl (.st 3)],[.so 9 .str],1,[],zrd⟩:=cqG (cN zat) 29 Tryz.func245 (.n 2 (.q (.n 1 (.w [(3,.so 9 .str),(6,.sl (.st 3)),(7,.int),(8,.int)] [] (fun m t=>zfI t.2.1 t.2.2.1 m t.1 t.2.2.2) fun n0 => .n 2 (.q (.n 1 (.j [(3,.so 9 .str),(5,.po 3),(6,.sl (.st 3)),(7,.int),(8,.int),(21,.bool)] [] (fun t=>zlM (zfI t.2.2.1 t.2.2.2.1 n0) t.1 t.2.1 t.2.2.2.2.1 t.2.2.2.2.2) .e .e)) .e))) .e))
theorem zlc:zd 393 ⟨[.po 18,.str],[.bool,.po 18],1,[0],fun p=>zcP p.1 p.2⟩:=cqG ((cN zdX).add zdW) 21 Tryz.func393 .e
theorem zsw:zd 394 ⟨[.po 28,.str],[.po 28],0,[0],fun p=>zeH p.1 p.2⟩:=cqG CLs.nil 48 Tryz.func394 (.q (.n 1 (.j [(9000,.po 28),(1,.str),(4,.int),(23,.bool)] [(0,9000)] (fun t=>zeW t.1 t.2.1 t.2.2.1 t.2.2.2) .e .e)) .e)
theorem zrO:zd 395 ⟨[.po 28],[.bool,.po 28],1,[0],zfP⟩:=cqG (((cN zaM).add zbj).add zX) 46 Tryz.func395 (.n 2 (.j [(9000,.po 28),(3,.po 3)] [(0,9000)] (fun t=>zd8 t.1 t.2) .e (.n 1 (.j [(9000,.po 28),(2,.bool)] [] (fun t=>zd7 t.1 t.2) .e .e))))
theorem zsx:zd 357 ⟨[.po 28],[.bool,.po 28],1,[0],zgN⟩:=cqG ((((cN zaM).add zrO).add zsw).add zlc) 30 Tryz.func357 .e
theorem zDX:zd 310 ⟨[.str],[.so 147 (.st 3),.int],2,[],zre⟩:=cqG (((cN zsx).add zbE).add zgA) 28 Tryz.func310 (.n 2 (.q (.w [(4,.po 28)] [] (fun m t=>zjg m t) fun n0 => .e) .e))
theorem zjM:zd 311 ⟨[.sl (.st 3),.sl (.st 3)],[.bool],1,[],fun p=>zbx p.1 p.2⟩:=cqG CLs.nil 26 Tryz.func311 (.n 2 (.q (.n 1 (.w [(0,.sl (.st 3)),(1,.sl (.st 3)),(12,.int),(13,.int)] [] (fun m t=>zaP t.1 t.2.1 t.2.2.1 m t.2.2.2) fun n0 => .e)) .e))
theorem zGq:zd 246 ⟨[.sl (.st 3)],[.str,.int],2,[],ztN⟩:=cqG ((((cN zjM).add zDX).add zb8).add zsp) 57 Tryz.func246 (.n 2 (.q (.n 1 (.w [(0,.sl (.st 3)),(4,.so 9 .str),(10,.sl (.st 3)),(11,.int),(12,.int)] [] (fun m t=>zd9 t.1 t.2.2.1 t.2.2.2.1 m t.2.1 t.2.2.2.2) fun n0 => .n 2 (.j [(0,.sl (.st 3)),(4,.so 9 .str),(10,.sl (.st 3)),(11,.int),(12,.int)] [] (fun t=>ziG (zd9 t.1 t.2.2.1 t.2.2.2.1 n0) t.2.1 t.2.2.2.2) .e .e))) .e))
theorem zDY:zd 189 ⟨[.int,.sl (.st 3)],[.bool],1,[],fun p=>zrf p.1 p.2⟩:=cqG ((((cN zGq).add zat).add zDW).add zvO) 31 Tryz.func189 (.n 1 (.j [(1,.sl (.st 3)),(5,.so 9 .str)] [] (fun t=>zlN t.1 t.2) .e (.q (.n 1 (.w [(1,.sl (.st 3)),(5,.so 9 .str),(13,.so 9 .str),(14,.int),(15,.int)] [] (fun m t=>zjh t.1 t.2.1 t.2.2.1 t.2.2.2.1 m t.2.2.2.2) fun n0 => .e)) .e)))
theorem zIE:zd 146 ⟨[.st 2],[.bool],1,[],zwR⟩:=cqG ((cN zx9).add zDY) 41 Tryz.func146 (.n 1 (.q (.n 1 (.q (.q (.j [(1,.po 2)] [] (fun t=>zoN t) .e .e) .e) .e)) .e))
theorem zDZ:zd 101 ⟨[.st 2],[.int],1,[],zrg⟩:=cqG ((((cN zIE).add zx9).add zDV).add zvO) 24 Tryz.func101 .e
theorem zux:zd 65 ⟨[.sl (.st 2)],[.int,.int],2,[],zie⟩:=cqG (cN zDZ) 24 Tryz.func65 (.n 1 (.q (.n 1 (.w [(0,.sl (.st 2)),(7,.sl (.st 2)),(8,.int),(9,.int)] [] (fun m t=>zid t.1 t.2.1 t.2.2.1 m t.2.2.2) fun n0 => .e)) .e))
theorem zGr:zd 102 ⟨[.int,.int],[.pn 23,.int],2,[],fun p=>ziH p.1 p.2⟩:=cqG CLs.nil 24 Tryz.func102 (.n 1 (.q (.j [(0,.int),(1,.int),(19,.bool)] [] (fun t=>zdn t.1 t.2.1 t.2.2) .e .e) .e))
theorem zju:zd 68 ⟨[.int,.int],[.st 29],1,[],fun p=>zbO p.1 p.2⟩:=cqG (cN zGr) 15 Tryz.func68 .e
theorem zCb:zd 40 ⟨[.st 5,.st 17,.sl (.st 2)],[.pn 20,.int],2,[],fun p=>zem p.1 p.2.1 p.2.2⟩:=cqG (((((((cN zju).add zpy).add zxb).add zux).add zCa).add zo6).add zB9) 106 Tryz.func40 (.n 2 (.j [(2,.sl (.st 2)),(3,.po 5),(4,.po 17),(10,.int)] [] (fun t=>zcB t.1 t.2.1 t.2.2.1 t.2.2.2) .e (.j [(2,.sl (.st 2)),(3,.po 5),(4,.po 17),(10,.int),(11,.pn 21),(12,.int)] [] (fun t=>zcA t.1 t.2.1 t.2.2.1 t.2.2.2.1 t.2.2.2.2.1 t.2.2.2.2.2) .e (.n 4 (.q (.n 1 (.w [(4,.po 17),(15,.po 20),(72,.sl (.st 2)),(73,.int),(74,.int)] [] (fun m t=>zcz t.1 t.2.2.1 t.2.2.2.1 m t.2.1 t.2.2.2.2) fun n0 => .e)) .e)))))
theorem zIF:zd 28 ⟨[.st 0],[.pn 30,.int],2,[],zeI⟩:=cqG (cN zCb) 52 Tryz.func28 .e
theorem zt1:zd 147 ⟨[.nil],[.bool],1,[],fun _=>zhA⟩:=cqG CLs.nil 12 Tryz.func147 .e
theorem zrP:zd 147 ⟨[.pt 23],[.bool],1,[],zfQ⟩:=cqG CLs.nil 12 Tryz.func147 .e
theorem zt2:zd 103 ⟨[.pt 29],[.bool],1,[],zfm⟩:=cqG ((cN zrP).add zt1) 15 Tryz.func103 .e
theorem zsy:zd 104 ⟨[.nil],[.bool],1,[],fun _=>zgO⟩:=cqG CLs.nil 12 Tryz.func104 .e
theorem zuQ:zd 148 ⟨[.pt 32],[.int],1,[],zgj⟩:=cqG CLs.nil 13 Tryz.func148 .e
theorem zqu:zd 104 ⟨[.pt 21],[.bool],1,[],zcp⟩:=cqG (cN zuQ) 12 Tryz.func104 .e
theorem zpE:zd 69 ⟨[.pt 20],[.bool],1,[],zI⟩:=cqG (((cN zqu).add zsy).add zt2) 30 Tryz.func69 .e
theorem znG:zd 105 ⟨[.nil,.str],[.int,.bool,.int],3,[],fun p=>zgk p.2⟩:=cqG CLs.nil 72 Tryz.func105 .e
theorem zD0:zd 150 ⟨[.int],[.int],1,[],zrh⟩:=cqG CLs.nil 8 Tryz.func150 .e
theorem zjN:zd 151 ⟨[.nil],[.st 34,.bool],2,[],fun _=>zes⟩:=cqG CLs.nil 25 Tryz.func151 .e
theorem ze6:zd 266 ⟨[.sl (.st 15)],[.po 36],1,[],zfR⟩:=cqG (cN zoq) 7 Tryz.func266 .e
theorem zcv:zd 324 ⟨[.pt 36],[.so 160 (.st 15)],1,[],zcc⟩:=cqG (cN zoq) 10 Tryz.func324 .e
theorem zd3:zd 338 ⟨[.str,.str],[.bool],1,[],fun p=>zbY p.1 p.2⟩:=cqG (cN zd2) 10 Tryz.func338 .e
theorem zf3:zd 267 ⟨[.pt 36,.str],[.so 9 .str],1,[],fun p=>zcC p.1 p.2⟩:=cqG ((cN zd3).add zcv) 26 Tryz.func267 (.n 2 (.q (.n 1 (.w [(1,.str),(5,.so 9 .str),(9,.so 160 (.st 15)),(10,.int),(11,.int)] [] (fun m t=>zdI t.1 t.2.2.1 t.2.2.2.1 m t.2.1 t.2.2.2.2) fun n0 => .e)) .e))
theorem zrQ:zd 460 ⟨[.po 18,.int],[.bool,.po 18],1,[0],fun p=>zfS p.1 p.2⟩:=cqG (cN zfe) 19 Tryz.func460 .e
theorem zj2:zd 399 ⟨[.po 38,.int],[.po 38],0,[0],fun p=>zc4 p.1 p.2⟩:=cqG ((cN zfe).add zf0) 36 Tryz.func399 (.j [(9000,.po 38)] [(0,9000)] (fun t=>zdo t) .e .e)
theorem zmY:zd 436 ⟨[.po 38],[.bool,.po 38],1,[0],zcZ⟩:=cqG ((cN zX).add zcO) 52 Tryz.func436 (.n 1 (.q (.n 1 (.w [(9000,.po 38),(3,.int)] [(0,9000)] (fun m t=>zaa m t.1 t.2) fun n0 => .e)) .e))
theorem zrI:COk Tryz.prog G 437 zAR:=ztv zBf hNm tyk (((((cN zrQ).add zrH).add zcO).add zX).add zfe) (.lf 459 (fnS Tryz.func459)) 41 60 Tryz.func437 (by kernel_rfl) (hn := .n 4 (.q (.w [(4,.int),(5,.po 39),(6,.bool)] [(9000,100005)] (fun m t=>zdd t.1 m t.2.1 t.2.2) fun n0 => .q (.j [(4,.int),(5,.po 39),(6,.bool),(25,.bool)] [(9000,100005)] (fun t=>ziI (zdd t.1 n0) t.1 t.2.1 t.2.2.1 t.2.2.2) .e .e) .e) .e)) (by unfold zt8 opJ zxI; kernel_rfl)
theorem zo7:zd 398 ⟨[.po 38],[.bool,.po 38],1,[0],zea⟩:=cqG ((((((cN zrI).add zcO).add zmY).add zj2).add zX).add zfe) 55 Tryz.func398 .e
theorem zsz:zd 362 ⟨[.str],[.so 9 .str,.int],2,[],zkU⟩:=cqG ((((cN zj2).add zo7).add zbE).add zgA) 27 Tryz.func362 (.n 2 (.q (.w [(0,.str),(4,.po 38)] [] (fun m t=>zhe t.1 m t.2) fun n0 => .e) .e))
theorem zmH:zd 339 ⟨[.sl .str],[.so 9 .str,.int],2,[],zhq⟩:=cqG ((cN zfz).add zsz) 40 Tryz.func339 (.n 2 (.q (.n 1 (.w [(4,.so 9 .str),(11,.sl .str),(12,.int),(13,.int)] [] (fun m t=>zet t.2.1 t.2.2.1 m t.1 t.2.2.2) fun n0 => .n 2 (.q (.n 3 (.q (.n 1 (.w [(4,.so 9 .str),(7,.so 9 .str),(11,.sl .str),(12,.int),(13,.int),(26,.int),(27,.int)] [(25,7)] (fun m t=>zgl (zet t.2.2.1 t.2.2.2.1 n0) t.1 t.2.1 t.2.2.2.2.1 t.2.2.2.2.2.1 m t.2.2.2.2.2.2) fun a => .e)) .e)) .e))) .e))
theorem zqv:zd 317 ⟨[.st 37,.sl .str],[.st 35,.int,.po 36],2,[32],fun p=>zdy p.1 p.2⟩:=cqG ((cN zd3).add zmH) 34 Tryz.func317 .e
theorem zpF:zd 318 ⟨[.st 37,.sl .str],[.st 35,.int,.po 36],2,[32],fun p=>zeX p.1 p.2⟩:=cqG ((cN zhy).add zsz) 60 Tryz.func318 (.n 2 (.q (.n 1 (.w [(9032,.po 36),(4,.po 35),(6,.int),(15,.sl .str),(16,.int),(17,.int)] [] (fun m t=>zaQ t.1 t.2.2.2.1 t.2.2.2.2.1 m t.2.2.1 t.2.2.2.2.2) fun n0 => .n 2 (.q (.n 4 (.w [(9032,.po 36),(4,.po 35),(6,.int),(15,.sl .str),(16,.int),(17,.int),(29,.so 9 .str),(30,.int),(31,.int)] [] (fun m t=>zai (zaQ t.1 t.2.2.2.1 t.2.2.2.2.1 n0) t.1 t.2.2.2.2.2.1 t.2.2.2.2.2.2.1 t.2.2.2.2.2.2.2.1 m t.2.2.1 t.2.2.2.2.2.2.2.2) fun a => .n 2 (.q (.n 2 (.q (.j [(9032,.po 36),(4,.po 35),(13,.int),(15,.sl .str),(16,.int),(17,.int),(29,.so 9 .str),(30,.int),(31,.int),(50,.bool)] [] (fun t=>zbr (zai (zaQ t.1 t.2.2.2.1 t.2.2.2.2.1 n0) t.1 t.2.2.2.2.2.1 t.2.2.2.2.2.2.1 t.2.2.2.2.2.2.2.1 a) t.1 t.2.2.1 t.2.2.2.2.2.2.2.2.1 t.2.2.2.2.2.2.2.2.2) .e .e) .e)) .e))) .e))) .e))
theorem zya:zd 250 ⟨[.st 33,.int],[.st 35,.int],2,[],fun p=>znz p.1 p.2⟩:=cqG ((((cN zpF).add zqv).add zf3).add ze6) 51 Tryz.func250 (.n 3 (.q (.j [(1,.int),(4,.po 35),(6,.po 37),(7,.so 9 .str),(8,.so 9 .str),(21,.bool)] [] (fun t=>zkV t.1 t.2.2.1 t.2.2.2.1 t.2.2.2.2.1 t.2.2.2.2.2) .e .e) .e))
theorem zpG:zd 192 ⟨[.st 33],[.st 35,.int],2,[],zeJ⟩:=cqG (cN zya) 8 Tryz.func192 .e
theorem zyD:zd 364 ⟨[.sl (.st 15)],[.so 9 .str],1,[],zlO⟩:=cqG (((((cN zat).add zd2).add zmH).add zf3).add ze6) 47 Tryz.func364 (.n 2 (.q (.n 1 (.w [(3,.so 9 .str),(12,.so 9 .str),(13,.int),(14,.int)] [] (fun m t=>zdf t.2.1 t.2.2.1 m t.1 t.2.2.2) fun n0 => .n 2 (.q (.n 3 (.w [(3,.so 9 .str),(12,.so 9 .str),(13,.int),(14,.int),(24,.so 9 .str),(25,.int),(26,.int)] [] (fun m t=>zde (zdf t.2.1 t.2.2.1 n0) t.2.2.2.1 t.2.2.2.2.1 t.2.2.2.2.2.1 m t.1 t.2.2.2.2.2.2) fun a => .n 2 (.q (.n 2 (.j [(3,.so 9 .str),(9,.str),(12,.so 9 .str),(13,.int),(14,.int),(24,.so 9 .str),(25,.int),(26,.int),(39,.bool)] [] (fun t=>ziJ (zde (zdf t.2.2.1 t.2.2.2.1 n0) t.2.2.2.2.1 t.2.2.2.2.2.1 t.2.2.2.2.2.2.1 a) t.1 t.2.1 t.2.2.2.2.2.2.2.1 t.2.2.2.2.2.2.2.2) .e .e)) .e))) .e))) .e))
theorem zGs:zd 439 ⟨[.str,.pt 41],[.bool],1,[],fun p=>znA p.1 p.2⟩:=cqG (cN zd3) 7 Tryz.func439 .e
theorem zjO:zd 461 ⟨[.sl .str,.cl 439 (.pt 41)],[.int],1,[],fun p=>za5 p.1 p.2⟩:=cqG (cN zGs) 19 Tryz.func461 (.n 1 (.q (.n 1 (.w [(0,.sl .str),(1,.cl 439 (.pt 41)),(7,.int),(8,.int)] [] (fun m t=>z7 t.1 t.2.1 t.2.2.1 m t.2.2.2) fun n0 => .e)) .e))
theorem ziu:zd 438 ⟨[.sl .str,.cl 439 (.pt 41)],[.bool],1,[],fun p=>zaR p.1 p.2⟩:=cqG (cN zjO) 9 Tryz.func438 .e
theorem zLe:zd 402 ⟨[.str,.sl .str],[.bool],1,[],fun p=>zwS p.1 p.2⟩:=cqG (cN ziu) 8 Tryz.func402 .e
theorem znH:zd 401 ⟨[.st 15,.pt 40],[.bool],1,[],fun p=>zdg p.1 p.2⟩:=cqG (cN zLe) 8 Tryz.func401 .e
theorem zhw:zd 405 ⟨[.sl (.st 15),.cl 401 (.pt 40)],[.int],1,[],fun p=>zav p.1 p.2⟩:=cqG (cN znH) 19 Tryz.func405 (.n 1 (.q (.n 1 (.w [(0,.sl (.st 15)),(1,.cl 401 (.pt 40)),(7,.int),(8,.int)] [] (fun m t=>zJ t.1 t.2.1 t.2.2.1 m t.2.2.2) fun n0 => .e)) .e))
theorem zgt:zd 400 ⟨[.so 160 (.st 15),.cl 401 (.pt 40)],[.so 160 (.st 15)],1,[],fun p=>zZ p.1 p.2⟩:=cqG ((cN znH).add zhw) 42 Tryz.func400 (.n 3 (.q (.n 1 (.w [(0,.so 160 (.st 15)),(1,.cl 401 (.pt 40)),(5,.int),(6,.int)] [] (fun m t=>zE t.2.1 m t.1 t.2.2.1 t.2.2.2) fun n0 => .e)) .e))
theorem zjP:zd 363 ⟨[.po 36,.sl .str],[.int,.po 36],1,[0],fun p=>zdh p.1 p.2⟩:=cqG (cN zgt) 29 Tryz.func363 .e
theorem zGt:zd 319 ⟨[.sl (.st 15)],[.so 160 (.st 15)],1,[],ztO⟩:=cqG (((((cN zcv).add zjP).add zx8).add zyD).add ze6) 14 Tryz.func319 .e
theorem zzT:zd 419 ⟨[.str,.str],[.bool],1,[],fun p=>ztk p.1 p.2⟩:=cqG (((cN zb1).add zdV).add zsv) 49 Tryz.func419 (.n 1 (.q (.n 1 (.w [(0,.str),(1,.str),(5,.int)] [] (fun m t=>zen t.1 t.2.1 m t.2.2) fun n0 => .n 1 (.q (.n 1 (.q .e (.j [(0,.str),(1,.str),(5,.int),(25,.bool)] [] (fun t=>zmt (zen t.1 t.2.1 n0) t.2.2.1 t.2.2.2) .e .e))) .e))) .e))
theorem zD1:zd 375 ⟨[.str],[.bool],1,[],zri⟩:=cqG ((cN zzT).add zdX) 9 Tryz.func375 .e
theorem zCc:zd 376 ⟨[.str],[.bool],1,[],zoO⟩:=cqG (cN zzT) 5 Tryz.func376 .e
theorem zyb:zd 329 ⟨[.str],[.str,.str,.bool,.int],4,[],zqm⟩:=cqG (((cN zCc).add zD1).add zlB) 23 Tryz.func329 .e
theorem zuy:zd 404 ⟨[.st 42,.str],[.st 42,.bool],2,[],fun p=>zmu p.1 p.2⟩:=cqG (cN zyb) 32 Tryz.func404 (.n 4 (.j [(1,.str),(2,.po 42),(4,.po 42),(7,.bool)] [] (fun t=>zkX t.1 t.2.1 t.2.2.2) .e (.n 1 (.j [(2,.po 42),(4,.po 42),(6,.int)] [] (fun t=>zkW t.1 t.2.2) .e .e))))
theorem zvP:zd 403 ⟨[.str],[.st 42,.bool],2,[],zjA⟩:=cqG (((((cN zuy).add zep).add zjL).add zd2).add zlB) 58 Tryz.func403 (.n 3 (.q (.j [(2,.po 42),(5,.str),(7,.po 42),(31,.bool)] [] (fun t=>zeK t.2.1 t.2.2.1 t.2.2.2) .e .e) (.n 1 (.j [(2,.po 42),(5,.str),(7,.po 42),(8,.int)] [] (fun t=>zgP t.2.1 t.2.2.1 t.2.2.2) .e .e))))
theorem zGu:zd 365 ⟨[.str,.str],[.st 42,.bool],2,[],fun p=>ztP p.1 p.2⟩:=cqG (((cN zuy).add zvP).add zdX) 28 Tryz.func365 .e
theorem zsA:zd 320 ⟨[.str,.str],[.st 42,.int],2,[],fun p=>zkY p.1 p.2⟩:=cqG ((cN zGu).add zep) 37 Tryz.func320 (.n 1 (.q (.n 1 (.q (.n 1 (.q (.j [(4,.po 42),(6,.po 12),(23,.bool)] [] (fun t=>zjB t.2.1 t.2.2) .e .e) .e)) .e)) .e))
theorem zD2:zd 366 ⟨[.str,.str,.bool],[.str],1,[],fun p=>zrj p.1 p.2.1 p.2.2⟩:=cqG CLs.nil 14 Tryz.func366 .e
theorem zyE:zd 321 ⟨[.st 42],[.str],1,[],zlP⟩:=cqG (cN zD2) 20 Tryz.func321 (.n 3 (.j [(1,.po 42),(3,.str)] [] (fun t=>ziK t.1 t.2) .e .e))
theorem zyF:zd 367 ⟨[.st 12],[.str,.int],2,[],zlQ⟩:=cqG (((cN zep).add zb8).add zf1) 41 Tryz.func367 (.n 2 (.j [(1,.po 12),(4,.so 9 .str)] [] (fun t=>ziM t.1 t.2) .e (.j [(1,.po 12),(4,.so 9 .str)] [] (fun t=>ziL t.1 t.2) .e .e)))
theorem zyG:zd 406 ⟨[.st 15,.pt 41],[.bool],1,[],fun p=>zhr p.1 p.2⟩:=cqG (cN zd3) 8 Tryz.func406 .e
theorem zgB:zd 405 ⟨[.sl (.st 15),.cl 406 (.pt 41)],[.int],1,[],fun p=>zaq p.1 p.2⟩:=cqG (cN zyG) 19 Tryz.func405 (.n 1 (.q (.n 1 (.w [(0,.sl (.st 15)),(1,.cl 406 (.pt 41)),(7,.int),(8,.int)] [] (fun m t=>zF t.1 t.2.1 t.2.2.1 m t.2.2.2) fun n0 => .e)) .e))
theorem zo8:zd 369 ⟨[.pt 36,.str],[.str,.bool],2,[],fun p=>zka p.1 p.2⟩:=cqG (cN zf3) 16 Tryz.func369 .e
theorem zjv:zd 370 ⟨[.po 36,.sl (.st 15)],[.po 36],0,[0],fun p=>zfJ p.1 p.2⟩:=cqG CLs.nil 15 Tryz.func370 .e
theorem zrJ:zd 368 ⟨[.po 36,.str,.str],[.po 36],0,[0],fun p=>zjj p.1 p.2.1 p.2.2⟩:=cqG ((((cN ztZ).add zjP).add zjv).add zgB) 40 Tryz.func368 .e
theorem zrR:zd 322 ⟨[.po 43,.st 5,.st 42],[.po 43],0,[0],fun p=>zfT p.1 p.2.1 p.2.2⟩:=cqG ((((cN zjv).add zo8).add zrJ).add zyF) 44 Tryz.func322 (.n 1 (.j [(9000,.po 43),(4,.po 5)] [(0,9000)] (fun t=>zeb t.1 t.2) .e .e))
theorem zld:zd 325 ⟨[.po 43],[.st 34,.int],2,[],zcQ⟩:=cqG (cN zcv) 17 Tryz.func325 .e
theorem zmP:zd 442 ⟨[.str,.str],[.bool],1,[],fun p=>zfn p.1 p.2⟩:=cqG (cN zj1) 8 Tryz.func442 .e
theorem zCd:zd 408 ⟨[.str,.sl (.st 1)],[.str,.bool],2,[],fun p=>zoP p.1 p.2⟩:=cqG (((cN zdV).add zmP).add zi2) 49 Tryz.func408 (.n 1 (.q (.n 1 (.w [(0,.str),(10,.sl (.st 1)),(11,.int),(12,.int)] [] (fun m t=>zeL t.1 t.2.1 t.2.2.1 m t.2.2.2) fun n0 => .e)) .e))
theorem zuR:zd 371 ⟨[.str,.sl (.st 1)],[.str],1,[],fun p=>ziN p.1 p.2⟩:=cqG ((cN zuw).add zCd) 27 Tryz.func371 .e
theorem zCe:zd 443 ⟨[.str],[.st 44,.bool],2,[],zmv⟩:=cqG (((((((cN zb1).add zbE).add zaM).add zX).add zbj).add zgA).add zf0) 45 Tryz.func443 (.n 4 (.j [(2,.po 44),(4,.po 18),(6,.bool),(7,.po 44)] [] (fun t=>zkZ t.2.1 t.2.2.1 t.2.2.2) .e .e))
theorem zzU:zd 444 ⟨[.str],[.bool],1,[],zns⟩:=cqG (((cN zb1).add zmO).add zi2) 24 Tryz.func444 .e
theorem zsB:zd 409 ⟨[.str],[.st 46,.int],2,[],zk0⟩:=cqG (((cN zzU).add zCe).add zmE) 63 Tryz.func409 (.n 5 (.q (.n 1 (.w [(2,.po 46),(7,.po 46),(41,.sl .str),(42,.int),(43,.int)] [] (fun m t=>zhf t.2.2.1 t.2.2.2.1 m t.2.1 t.2.2.2.2) fun n0 => .e)) .e))
theorem zuz:zd 445 ⟨[.st 45,.str],[.int],1,[],fun p=>zmw p.1 p.2⟩:=cqG (cN zd3) 23 Tryz.func445 (.n 1 (.q (.n 1 (.w [(1,.str),(2,.po 45),(5,.int)] [] (fun m t=>zig t.1 t.2.1 m t.2.2) fun n0 => .e)) .e))
theorem zD3:zd 410 ⟨[.st 45,.str],[.str,.bool],2,[],fun p=>zrk p.1 p.2⟩:=cqG (cN zuz) 18 Tryz.func410 .e
theorem zo9:zd 465 ⟨[.str,.str],[.str],1,[],fun p=>zec p.1 p.2⟩:=cqG (cN zf2) 13 Tryz.func465 .e
theorem zsC:zd 446 ⟨[.str,.str],[.str],1,[],fun p=>zgQ p.1 p.2⟩:=cqG (cN zo9) 8 Tryz.func446 .e
theorem zxd:zd 447 ⟨[.str,.str],[.bool],1,[],fun p=>zk1 p.1 p.2⟩:=cqG ((((cN zmP).add zd2).add ze5).add zmG) 36 Tryz.func447 .e
theorem zCf:zd 411 ⟨[.str,.sl (.st 1)],[.str,.bool],2,[],fun p=>zoQ p.1 p.2⟩:=cqG ((cN zxd).add zsC) 34 Tryz.func411 (.n 2 (.q (.n 1 (.w [(0,.str),(6,.str),(11,.sl (.st 1)),(12,.int),(13,.int)] [] (fun m t=>zih t.1 t.2.1 t.2.2.1 t.2.2.2.1 m t.2.2.2.2) fun n0 => .e)) .e))
theorem zD4:zd 413 ⟨[.st 45,.str,.str],[.st 46],1,[],fun p=>zrl p.1 p.2.1 p.2.2⟩:=cqG ((cN zd3).add zuz) 55 Tryz.func413 (.n 3 (.q (.n 1 (.w [(1,.str),(2,.str),(6,.po 46),(7,.int),(8,.po 46),(20,.sl (.st 44)),(21,.int),(22,.int)] [] (fun m t=>zdp t.1 t.2.1 t.2.2.2.1 t.2.2.2.2.2.1 t.2.2.2.2.2.2.1 m t.2.2.2.2.1 t.2.2.2.2.2.2.2) fun n0 => .n 2 (.j [(1,.str),(2,.str),(6,.po 46),(7,.int),(8,.po 46),(20,.sl (.st 44)),(21,.int),(22,.int)] [] (fun t=>zlR (zdp t.1 t.2.1 t.2.2.2.1 t.2.2.2.2.2.1 t.2.2.2.2.2.2.1 n0) t.2.2.2.2.1 t.2.2.2.2.2.2.2) (.n 1 (.j [(1,.str),(2,.str),(6,.po 46),(7,.int),(8,.po 46),(10,.po 44),(20,.sl (.st 44)),(21,.int),(22,.int)] [] (fun t=>zlS (zdp t.1 t.2.1 t.2.2.2.1 t.2.2.2.2.2.2.1 t.2.2.2.2.2.2.2.1 n0) t.2.2.2.2.1 t.2.2.2.2.2.1 t.2.2.2.2.2.2.2.2) .e .e)) .e))) (.j [(6,.po 46),(8,.po 46)] [] (fun t=>zlT t.2) .e .e)))
theorem zjQ:zd 466 ⟨[.sl (.st 44),.sl (.st 44)],[.bool],1,[],fun p=>zby p.1 p.2⟩:=cqG CLs.nil 26 Tryz.func466 (.n 2 (.q (.n 1 (.w [(0,.sl (.st 44)),(1,.sl (.st 44)),(12,.int),(13,.int)] [] (fun m t=>zaS t.1 t.2.1 t.2.2.1 m t.2.2.2) fun n0 => .e)) .e))
theorem zCg:zd 448 ⟨[.st 45,.st 45],[.bool],1,[],fun p=>zoR p.1 p.2⟩:=cqG (cN zjQ) 24 Tryz.func448 .e
theorem zCh:zd 412 ⟨[.st 45],[.str,.int],2,[],zoS⟩:=cqG (((cN zCg).add zsB).add zb8) 57 Tryz.func412 (.n 2 (.q (.n 1 (.w [(1,.po 45),(4,.so 9 .str),(18,.sl (.st 44)),(19,.int),(20,.int)] [] (fun m t=>zgm t.1 t.2.2.1 t.2.2.2.1 m t.2.1 t.2.2.2.2) fun n0 => .e)) .e))
theorem zvQ:zd 372 ⟨[.str,.sl (.st 1)],[.str],1,[],fun p=>zjC p.1 p.2⟩:=cqG (((((cN zCh).add zD4).add zCf).add zD3).add zsB) 45 Tryz.func372 .e
theorem zvR:zd 323 ⟨[.st 5,.sl (.st 15)],[.so 160 (.st 15)],1,[],fun p=>zjD p.1 p.2⟩:=cqG (((cN zvQ).add zuR).add zd2) 46 Tryz.func323 (.n 2 (.q (.n 1 (.w [(2,.po 5),(5,.so 160 (.st 15)),(12,.int),(13,.int)] [(11,5)] (fun m t=>zcg t.2.2.1 m t.1 t.2.1 t.2.2.2) fun n0 => .n 2 (.q (.n 2 (.j [(2,.po 5),(5,.so 160 (.st 15)),(6,.int),(7,.po 15),(12,.int),(13,.int),(20,.str),(21,.bool)] [(11,5)] (fun t=>zgR (zcg t.2.2.2.2.1 n0) t.1 t.2.1 t.2.2.1 t.2.2.2.1 t.2.2.2.2.2.1 t.2.2.2.2.2.2.1 t.2.2.2.2.2.2.2) .e .e)) .e))) .e))
theorem zCi:zd 251 ⟨[.st 5,.st 33],[.st 34,.int],2,[],fun p=>zoT p.1 p.2⟩:=cqG ((((((((cN zvR).add zcv).add zld).add zrR).add zyE).add zsA).add ze6).add zGt) 68 Tryz.func251 .e
theorem zyH:zd 328 ⟨[.str,.str],[.st 47],1,[],fun p=>zdq p.1 p.2⟩:=cqG CLs.nil 8 Tryz.func328 .e
theorem zCj:zd 253 ⟨[.st 5,.st 33],[.so 378 (.st 47)],1,[],fun p=>zoU p.1 p.2⟩:=cqG (((cN zf1).add zyb).add zyH) 59 Tryz.func253 .e
theorem zCk:zd 449 ⟨[.st 2],[.so 9 .str],1,[],zoV⟩:=cqG (cN zd2) 18 Tryz.func449 .e
theorem zCl:zd 414 ⟨[.sl (.st 2)],[.int],1,[],zoW⟩:=cqG (((cN zat).add zd2).add zCk) 38 Tryz.func414 (.n 3 (.q (.w [(0,.sl (.st 2)),(3,.po 14),(4,.int)] [] (fun m t=>zdz t.1 t.2.1 m t.2.2) fun n0 => .q (.j [(0,.sl (.st 2)),(3,.po 14),(4,.int),(34,.bool)] [] (fun t=>zii (zdz t.1 t.2.1 n0) t.2.2.1 t.2.2.2) .e .e) .e) .e))
theorem zyI:zd 415 ⟨[.st 14,.int],[.st 50],1,[],fun p=>zlU p.1 p.2⟩:=cqG CLs.nil 25 Tryz.func415 .e
theorem zCm:zd 450 ⟨[.st 2],[.st 50],1,[],zoX⟩:=cqG (cN zpy) 34 Tryz.func450 .e
theorem zpa:zd 416 ⟨[.po 49,.sl (.st 2)],[.po 49],0,[0],fun p=>zed p.1 p.2⟩:=cqG (cN zCm) 24 Tryz.func416 (.n 1 (.w [(9000,.po 49),(6,.sl (.st 2)),(7,.int),(8,.int)] [(0,9000)] (fun m t=>zbS t.2.1 t.2.2.1 m t.1 t.2.2.2) fun n0 => .e))
theorem zpb:zd 373 ⟨[.po 49,.sl (.st 2)],[.po 49],0,[0],fun p=>zee p.1 p.2⟩:=cqG (((cN zpa).add zyI).add zCl) 38 Tryz.func373 (.w [(9000,.po 49),(1,.sl (.st 2))] [(0,9000)] (fun m t=>za2 m t.1 t.2) fun n0 => .n 2 (.j [(9000,.po 49),(1,.sl (.st 2)),(4,.int)] [(0,9000)] (fun t=>zc0 (za2 n0) t.1 t.2.1 t.2.2) .e .e))
theorem zvS:zd 326 ⟨[.int,.sl (.st 2)],[.so 462 (.st 48),.int],2,[],fun p=>zjE p.1 p.2⟩:=cqG ((cN zpb).add zux) 50 Tryz.func326 (.n 1 (.q (.j [(0,.int),(1,.sl (.st 2)),(17,.bool)] [] (fun t=>zgS t.1 t.2.1 t.2.2) .e .e) (.n 2 (.q (.n 1 (.w [(0,.int),(8,.so 72 (.st 2)),(26,.sl (.st 2)),(27,.int),(28,.int)] [] (fun m t=>zdi t.1 t.2.2.1 t.2.2.2.1 m t.2.1 t.2.2.2.2) fun n0 => .e)) .e))))
theorem zpH:zd 417 ⟨[.pt 51,.st 48],[.bool],1,[],fun p=>zeY p.1 p.2⟩:=cqG (cN zo8) 36 Tryz.func417 .e
theorem zGv:zd 469 ⟨[.sl (.st 47),.str],[.str],1,[],fun p=>ztQ p.1 p.2⟩:=cqG CLs.nil 20 Tryz.func469 (.n 1 (.q (.n 1 (.w [(1,.str),(7,.sl (.st 47)),(8,.int),(9,.int)] [] (fun m t=>zk2 t.1 t.2.1 t.2.2.1 m t.2.2.2) fun n0 => .e)) .e))
theorem zD5:zd 470 ⟨[.str],[.str],1,[],zrm⟩:=cqG ((cN zf0).add zrH) 29 Tryz.func470 (.n 2 (.q (.n 1 (.w [(0,.str),(3,.so 5 .u8),(4,.int)] [] (fun m t=>zfK t.1 m t.2.1 t.2.2) fun n0 => .q (.j [(0,.str),(3,.so 5 .u8),(4,.int),(13,.bool)] [] (fun t=>zlV (zfK t.1 n0) t.1 t.2.1 t.2.2.1 t.2.2.2) .e .e) .e)) .e))
theorem zGw:zd 467 ⟨[.sl (.st 47),.sl (.st 15),.sl (.st 3)],[.str],1,[],fun p=>ztR p.1 p.2.1 p.2.2⟩:=cqG (((((cN zD5).add zb8).add zo8).add zGv).add ze6) 56 Tryz.func467 (.n 3 (.q (.n 1 (.w [(0,.sl (.st 47)),(7,.po 36),(8,.so 9 .str),(15,.sl (.st 3)),(16,.int),(17,.int)] [] (fun m t=>zfo t.1 t.2.1 t.2.2.2.1 t.2.2.2.2.1 m t.2.2.1 t.2.2.2.2.2) fun n0 => .e)) .e))
theorem zpI:zd 451 ⟨[.pt 51,.sl (.st 3)],[.str],1,[],fun p=>zc5 p.1 p.2⟩:=cqG ((cN zGw).add zcv) 16 Tryz.func451 .e
theorem zuS:zd 452 ⟨[.po 36,.str,.str],[.int,.po 36],1,[0],fun p=>ziP p.1 p.2.1 p.2.2⟩:=cqG (cN zd3) 41 Tryz.func452 (.n 3 (.q (.n 1 (.w [(9000,.po 36),(1,.str),(2,.str),(7,.int),(15,.int),(16,.int)] [(0,9000)] (fun m t=>zcR t.2.1 t.2.2.1 t.2.2.2.2.1 m t.1 t.2.2.2.1 t.2.2.2.2.2) fun n0 => .e)) .e))
theorem zqw:zd 418 ⟨[.po 51,.st 48],[.po 51],0,[0],fun p=>zfp p.1 p.2⟩:=cqG (((((cN zuS).add zrJ).add zjv).add zpI).add zjP) 55 Tryz.func418 .e
theorem zpJ:zd 374 ⟨[.po 51,.sl (.st 48)],[.po 51],0,[0],fun p=>zeZ p.1 p.2⟩:=cqG ((cN zqw).add zpH) 41 Tryz.func374 (.n 1 (.w [(9000,.po 51),(1,.sl (.st 48)),(4,.int)] [(0,9000)] (fun m t=>za8 t.2.1 m t.1 t.2.2) fun n0 => .n 1 (.j [(9000,.po 51),(1,.sl (.st 48)),(4,.int)] [(0,9000)] (fun t=>zdr (za8 t.2.1 n0) t.1 t.2.2) .e .e)))
theorem zCn:zd 327 ⟨[.sl (.st 47),.sl (.st 15),.sl (.st 48)],[.so 160 (.st 15)],1,[],fun p=>zoY p.1 p.2.1 p.2.2⟩:=cqG (((cN zcv).add zpJ).add ze6) 21 Tryz.func327 .e
theorem zyJ:zd 252 ⟨[.sl (.st 47),.sl (.st 15),.int,.sl (.st 2)],[.so 160 (.st 15),.int],2,[],fun p=>zlW p.1 p.2.1 p.2.2.1 p.2.2.2⟩:=cqG ((cN zCn).add zvS) 25 Tryz.func252 .e
theorem zCo:zd 453 ⟨[.sl .str],[.str],1,[],zmx⟩:=cqG (cN zb8) 5 Tryz.func453 .e
theorem zyK:zd 420 ⟨[.str,.sl .str],[.str],1,[],fun p=>zlX p.1 p.2⟩:=cqG (((cN zt0).add zCo).add zf0) 22 Tryz.func420 .e
theorem zjR:zd 377 ⟨[.po 36,.str,.str],[.po 36],0,[0],fun p=>zeu p.1 p.2.1 p.2.2⟩:=cqG (((cN zjv).add zyK).add zd3) 53 Tryz.func377 (.n 1 (.q (.n 1 (.w [(9000,.po 36),(1,.str),(2,.str),(6,.int)] [(0,9000)] (fun m t=>zdY t.1 t.2.1 t.2.2.1 m t.2.2.2) fun n0 => .e)) .e))
theorem zD6:zd 330 ⟨[.st 11,.sl (.st 15)],[.so 160 (.st 15),.int],2,[],fun p=>zrn p.1 p.2⟩:=cqG ((((cN zcv).add zjR).add ze6).add zzO) 24 Tryz.func330 .e
theorem zxe:zd 422 ⟨[.str],[.str],1,[],zk3⟩:=cqG ((cN znF).add ze5) 13 Tryz.func422 .e
theorem zxf:zd 379 ⟨[.st 5],[.so 378 (.st 47)],1,[],zk4⟩:=cqG (cN zxe) 28 Tryz.func379 (.n 2 (.j [(1,.po 5),(3,.so 378 (.st 47))] [] (fun t=>zhC t.1 t.2) .e (.j [(3,.so 378 (.st 47))] [] (fun t=>zhB t) .e .e)))
theorem zzV:zd 455 ⟨[.str],[.str,.int],2,[],znt⟩:=cqG (cN zb1) 40 Tryz.func455 (.n 3 (.q (.n 1 (.w [(0,.str),(4,.so 5 .u8),(12,.int),(13,.int)] [] (fun m t=>zcY t.1 t.2.2.1 m t.2.1 t.2.2.2) fun n0 => .n 2 (.q (.n 1 (.j [(0,.str),(4,.so 5 .u8),(5,.int),(12,.int),(13,.int)] [] (fun t=>zjF (zcY t.1 t.2.2.2.1 n0) t.1 t.2.1 t.2.2.1 t.2.2.2.2) (.j [(0,.str),(4,.so 5 .u8),(5,.int),(12,.int),(13,.int),(25,.bool)] [] (fun t=>zjG (zcY t.1 t.2.2.2.1 n0) t.1 t.2.1 t.2.2.1 t.2.2.2.2.1 t.2.2.2.2.2) .e .e) .e)) .e))) .e))
theorem zyL:zd 421 ⟨[.str],[.str,.int],2,[],zlY⟩:=cqG ((cN zzV).add zfz) 11 Tryz.func421 .e
theorem zCp:zd 378 ⟨[.sl (.st 47)],[.str,.int],2,[],zoZ⟩:=cqG (((cN zb8).add zfz).add zyL) 43 Tryz.func378 (.n 2 (.q (.n 1 (.w [(4,.so 9 .str),(9,.sl (.st 47)),(10,.int),(11,.int)] [] (fun m t=>zij t.2.1 t.2.2.1 m t.1 t.2.2.2) fun n0 => .e)) .e))
theorem zuT:zd 331 ⟨[.st 5,.sl (.st 15)],[.so 160 (.st 15),.int],2,[],fun p=>ziQ p.1 p.2⟩:=cqG (((((cN zcv).add zjR).add ze6).add zCp).add zxf) 25 Tryz.func331 .e
theorem zIG:zd 380 ⟨[.str],[.bool],1,[],zwT⟩:=cqG ((cN znF).add ze5) 9 Tryz.func380 .e
theorem zD7:zd 332 ⟨[.str,.sl (.st 15)],[.so 160 (.st 15)],1,[],fun p=>zro p.1 p.2⟩:=cqG ((((cN zcv).add zjR).add ze6).add zIG) 16 Tryz.func332 (.n 1 (.j [(0,.str),(1,.sl (.st 15))] [] (fun t=>zlZ t.1 t.2) .e .e))
theorem zD8:zd 254 ⟨[.st 5,.int,.st 33],[.st 34,.int],2,[],fun p=>zrp p.1 p.2.1 p.2.2⟩:=cqG ((((((cN zld).add ze6).add zD7).add zuT).add zD6).add zf1) 70 Tryz.func254 (.n 1 (.q (.j [(1,.int),(3,.po 5),(5,.po 33),(6,.po 34),(26,.bool)] [] (fun t=>zfL t.1 t.2.1 t.2.2.1 t.2.2.2.2) .e .e) (.n 1 (.j [(5,.po 33),(6,.po 34),(8,.so 160 (.st 15)),(9,.int)] [] (fun t=>zl0 t.1 t.2.2.1 t.2.2.2) (.j [(3,.po 5),(5,.po 33),(6,.po 34),(8,.so 160 (.st 15)),(9,.int),(46,.bool)] [] (fun t=>zl1 t.1 t.2.1 t.2.2.2.1 t.2.2.2.2.1 t.2.2.2.2.2) .e .e) .e))))
theorem zyM:zd 255 ⟨[.st 35],[.so 160 (.st 15)],1,[],zl2⟩:=cqG (cN zf1) 16 Tryz.func255 .e
theorem znI:zd 193 ⟨[.st 5,.st 35,.st 33,.sl (.st 2)],[.st 34,.int],2,[],fun p=>ziR p.1 p.2.1 p.2.2.1 p.2.2.2⟩:=cqG (((((cN zyM).add zD8).add zyJ).add zCj).add zCi) 58 Tryz.func193 .e
theorem zqx:zd 435 ⟨[.st 52],[.int,.bool,.po 18],2,[32],zdA⟩:=cqG (((cN zX).add zmF).add zcO) 26 Tryz.func435 .e
theorem zi9:zd 397 ⟨[.st 52],[.int,.int,.bool,.po 18],3,[32],zcD⟩:=cqG (((cN zX).add zqx).add zlc) 36 Tryz.func397 .e
theorem zos:zd 358 ⟨[.str],[.bool],1,[],zhg⟩:=cqG (((cN zbE).add zi9).add zgA) 30 Tryz.func358 .e
theorem zkn:zd 360 ⟨[.st 52],[.int,.bool,.po 18],2,[32],zdB⟩:=cqG (cN zi9) 23 Tryz.func360 .e
theorem zt3:zd 312 ⟨[.str],[.st 34,.int],2,[],zhD⟩:=cqG (((((((((cN zbE).add zsA).add zkn).add zaM).add zX).add zbj).add zgA).add zos).add zj0) 84 Tryz.func312 .e
theorem zuU:zd 313 ⟨[.str],[.st 34,.int],2,[],ziS⟩:=cqG (((((((((cN zb1).add zdW).add zhy).add zaM).add zX).add zkn).add zgA).add zos).add zlB) 84 Tryz.func313 .e
theorem zko:zd 247 ⟨[.int,.str],[.st 34,.int],2,[],fun p=>zdT p.1 p.2⟩:=cqG (((cN zuU).add zt3).add zeQ) 29 Tryz.func247 (.n 1 (.q (.j [(0,.int),(1,.str),(4,.po 34),(6,.bool)] [] (fun t=>zgT t.1 t.2.1 t.2.2.2) .e .e) .e))
end
end Go.Proofs
end
