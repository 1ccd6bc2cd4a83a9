/-
 The models of the functions: written by a program (wip/gen) off the translation. No program in sight.
-/
import Derived.Test.YtlplokibplopbaaGreatDoorTSplit
import Derived.Test.YtlplokibplopbaaGreatDoorYRun
set_option linter.unusedVariables false
set_option linter.unusedSimpArgs false
set_option linter.unusedVariables false
set_option maxRecDepth 100000
namespace Go.Dm
noncomputable section
open Go.Rk
structure zLm where
 Client : Str
 Host : Str
 Scheme : Str
 By : Str
 Domains : List zLK
 Locations : List zLK
deriving DecidableEq
structure zMC where
 Head : Int
 Chunk : Int
 Queue : Int
deriving DecidableEq
structure zMc where
 Kind : Int
 Name : Str
 Value : Str
deriving DecidableEq
structure zLr where
 Side : Int
 Guard : zMc
 Kind : Int
 Name : Str
 To : Str
 Parts : List zLD
deriving DecidableEq
structure zMH where
 Kind : Int
 N : Int
deriving DecidableEq
structure zMn where
 Env : zLm
 Caps : zMC
 Rules : List zLr
 Client : Str
 Upstream : Str
 ClientEnds : Bool
 UpstreamEnds : Bool
 Events : List zMH
deriving DecidableEq
structure zME where
 Client : Int
 Upstream : Int
deriving DecidableEq
structure zMu where
 Client : Str
 Upstream : Str
 ReadClient : Int
 ReadUpstream : Int
 Most : zME
 Closed : Bool
deriving DecidableEq
structure zL5 where
 Proto : Str
 Version : Str
 By : Str
 Comment : Str
deriving DecidableEq
structure zLs where
 zMz : Str
 zL8 : Int
deriving DecidableEq
structure zMt where
 Scanner : zLs
deriving DecidableEq
structure zL9 where
 Kind : Int
 Name : Str
 Port : Int
deriving DecidableEq
structure zMr where
 Scheme : Str
 Auth : Str
 Path : Str
 Query : Str
 Frag : Str
 HasAuth : Bool
 HasQuery : Bool
 HasFrag : Bool
deriving DecidableEq
structure zLz where
 Method : Str
 Minor : Int
 Close : Bool
deriving DecidableEq
structure zMl where
 zMv : List zLz
 zLN : Int
deriving DecidableEq
structure zLX where
 zML : zMl
 zLQ : Bool
deriving DecidableEq
structure zLq where
 Kind : Int
 Method : Str
 Target : Str
 Code : Int
 Reason : Str
 Minor : Int
 Fields : List zLo
deriving DecidableEq
structure zLC where
 zMN : Int
 zMh : Int
 zMb : List UInt8
 zMk : Int
 zMP : Bool
 zMK : Int
 f_whole : Bool
 zMD : zLq
deriving DecidableEq
structure zLp where
 zMh : Int
 zL8 : Int
 zMG : List UInt8
 zMd : Int
 zMO : Int
 zMA : Int
 zMj : List zLo
deriving DecidableEq
structure zLy where
 Kind : Int
 N : Int
deriving DecidableEq
structure zL1 where
 Decoder : Option zLp
 zMq : zLy
 zMd : Int
 zMB : Bool
 zMK : Bool
deriving DecidableEq
structure zLA where
 zMJ : Int
 zMb : Str
 zMB : Bool
deriving DecidableEq
structure zLE where
 Encoder : Option zLA
 zMq : zLy
 zMd : Int
 zMB : Bool
deriving DecidableEq
structure zLu where
 Accum : Option zLC
 zMI : Option zL1
 zLI : Option zLE
deriving DecidableEq
structure zLk where
 Queue : Option zLX
 zL2 : zLm
 zLO : zMC
 zLF : List zLr
 zLn : zLu
 zLl : zLu
 zLw : List UInt8
 zLU : List UInt8
 zLR : Int
 zLt : Bool
 zLS : Bool
 zL3 : Bool
 zLJ : Bool
 zLQ : Bool
 zLB : Bool
 zLv : Bool
deriving DecidableEq
structure zL0 where
 Scanner : zLs
 zLI : List zLD
deriving DecidableEq
structure zLP where
 zLW : Str
 zLL : Int
 zL6 : Bool
 zMe : Bool
 zL7 : List UInt8
 zMg : Unit
 zMs : Unit
structure zLx where
 Gateway : zLk
 zLn : zLP
 zLl : zLP
 zLN : zME
structure zLY where
 zMv : List zLo
deriving DecidableEq
structure zMw where
 Bag : zLY
 zMT : Int
deriving DecidableEq
structure zLG where
 Scanner : zLs
 zLI : List Str
 zMk : Int
 zMz : Str
deriving DecidableEq
structure zMp where
 Scanner : zLs
 zLI : List UInt8
deriving DecidableEq
structure zLZ where
 Kind : Int
 Scheme : Str
 Host : zL9
 Path : Str
 Query : Str
 HasQuery : Bool
deriving DecidableEq
structure zMi where
 Bag : zLY
 zMQ : zLq
deriving DecidableEq
structure zL4 where
 Name : Str
 Value : Str
 Has : Bool
deriving DecidableEq
structure zLH where
 Name : Str
 Value : Str
 Attrs : List zL4
deriving DecidableEq
structure zLV where
 Name : Str
 Value : Str
deriving DecidableEq
structure zMo where
 Kind : Int
 Name : Str
 Text : Str
 Parts : List zLD
 N : Int
deriving DecidableEq
structure zLT where
 zLI : List zMo
deriving DecidableEq
structure zLM where
 Bag : zLY
 zMF : List zLV
 zMM : Int
deriving DecidableEq
structure zMf where
 Scanner : zLs
deriving DecidableEq
structure zMa where
 zMR : List UInt8
 zLN : Int
deriving DecidableEq
structure zMx where
 Quill : zMa
 zMS : Bool
deriving DecidableEq
structure zMy where
 Head : zLq
 Frame : zLy
 Body : Str
 Trailers : List zLo
deriving DecidableEq
structure zMm where
 Scanner : zLs
deriving DecidableEq
def zzO : Option Bool := some true
def zmh (x_x : zLK) : Option zLK := (sTo x_x.From (min (x_x.From.length : Int) 60)).bind fun r1 => (sTo x_x.To (min (x_x.To.length : Int) 60)).bind fun r2 => some (⟨r1,r2⟩ : zLK)
def zh (k0 : (Str × Str × Str × Str) → Int → Option zLm) (v3 : Str × Str × Str × Str) (i4 : Int) : Option zLm := (zj i4 1).bind fun r1 => k0 v3 r1
def zlR (k2 : zLm → Int → Option zLm) (v1 : zLm) (v5 : zLm) (i7 : Int) (t71 : Bool) : Option zLm := if t71 then (lAt v1.Locations i7).bind fun r1 => (zmh r1).bind fun r2 => if zl v5.Locations.length ([r2] : List zLK).length 32 then (zj i7 1).bind fun r3 => k2 (⟨v5.Client,v5.Host,v5.Scheme,v5.By,v5.Domains,v5.Locations ++ [r2]⟩ : zLm) r3 else none else some v5
def zfK (v1 : zLm) : Nat → zLm → Int → Option zLm
 | 0,_,_ => none
 | n + 1,v5,i7 => if (decide (i7 < (v1.Locations.length : Int))) then zlR (zfK v1 n) v1 v5 i7 (decide (i7 < 6)) else zlR (zfK v1 n) v1 v5 i7 false
def zlS (k1 : zLm → Int → Option zLm) (v1 : zLm) (v5 : zLm) (i6 : Int) (t49 : Bool) : Option zLm := if t49 then (lAt v1.Domains i6).bind fun r1 => (zmh r1).bind fun r2 => if zl v5.Domains.length ([r2] : List zLK).length 32 then (zj i6 1).bind fun r3 => k1 (⟨v5.Client,v5.Host,v5.Scheme,v5.By,v5.Domains ++ [r2],v5.Locations⟩ : zLm) r3 else none else zfK v1 fuel v5 0
def zdu (v1 : zLm) : Nat → zLm → Int → Option zLm
 | 0,_,_ => none
 | n + 1,v5,i6 => if (decide (i6 < (v1.Domains.length : Int))) then zlS (zdu v1 n) v1 v5 i6 (decide (i6 < 6)) else zlS (zdu v1 n) v1 v5 i6 false
def za (v1 : zLm) (v5 : zLm) : Option zLm := zdu v1 fuel v5 0
def ze (v1 : zLm) : Nat → (Str × Str × Str × Str) → Int → Option zLm
 | 0,_,_ => none
 | n + 1,v3,i4 => if (decide (i4 < 4)) then if isN i4 0 then if isN i4 0 then (sTo v3.1 (min (v3.1.length : Int) 60)).bind fun r16 => if isN i4 0 then zh (ze v1 n) (r16,v3.2.1,v3.2.2.1,v3.2.2.2) i4 else if isN i4 1 then zh (ze v1 n) (v3.1,r16,v3.2.2.1,v3.2.2.2) i4 else if isN i4 2 then zh (ze v1 n) (v3.1,v3.2.1,r16,v3.2.2.2) i4 else if isN i4 3 then zh (ze v1 n) (v3.1,v3.2.1,v3.2.2.1,r16) i4 else none else if isN i4 1 then (sTo v3.1 (min (v3.2.1.length : Int) 60)).bind fun r15 => if isN i4 0 then zh (ze v1 n) (r15,v3.2.1,v3.2.2.1,v3.2.2.2) i4 else if isN i4 1 then zh (ze v1 n) (v3.1,r15,v3.2.2.1,v3.2.2.2) i4 else if isN i4 2 then zh (ze v1 n) (v3.1,v3.2.1,r15,v3.2.2.2) i4 else if isN i4 3 then zh (ze v1 n) (v3.1,v3.2.1,v3.2.2.1,r15) i4 else none else if isN i4 2 then (sTo v3.1 (min (v3.2.2.1.length : Int) 60)).bind fun r14 => if isN i4 0 then zh (ze v1 n) (r14,v3.2.1,v3.2.2.1,v3.2.2.2) i4 else if isN i4 1 then zh (ze v1 n) (v3.1,r14,v3.2.2.1,v3.2.2.2) i4 else if isN i4 2 then zh (ze v1 n) (v3.1,v3.2.1,r14,v3.2.2.2) i4 else if isN i4 3 then zh (ze v1 n) (v3.1,v3.2.1,v3.2.2.1,r14) i4 else none else if isN i4 3 then (sTo v3.1 (min (v3.2.2.2.length : Int) 60)).bind fun r13 => if isN i4 0 then zh (ze v1 n) (r13,v3.2.1,v3.2.2.1,v3.2.2.2) i4 else if isN i4 1 then zh (ze v1 n) (v3.1,r13,v3.2.2.1,v3.2.2.2) i4 else if isN i4 2 then zh (ze v1 n) (v3.1,v3.2.1,r13,v3.2.2.2) i4 else if isN i4 3 then zh (ze v1 n) (v3.1,v3.2.1,v3.2.2.1,r13) i4 else none else none else if isN i4 1 then if isN i4 0 then (sTo v3.2.1 (min (v3.1.length : Int) 60)).bind fun r12 => if isN i4 0 then zh (ze v1 n) (r12,v3.2.1,v3.2.2.1,v3.2.2.2) i4 else if isN i4 1 then zh (ze v1 n) (v3.1,r12,v3.2.2.1,v3.2.2.2) i4 else if isN i4 2 then zh (ze v1 n) (v3.1,v3.2.1,r12,v3.2.2.2) i4 else if isN i4 3 then zh (ze v1 n) (v3.1,v3.2.1,v3.2.2.1,r12) i4 else none else if isN i4 1 then (sTo v3.2.1 (min (v3.2.1.length : Int) 60)).bind fun r11 => if isN i4 0 then zh (ze v1 n) (r11,v3.2.1,v3.2.2.1,v3.2.2.2) i4 else if isN i4 1 then zh (ze v1 n) (v3.1,r11,v3.2.2.1,v3.2.2.2) i4 else if isN i4 2 then zh (ze v1 n) (v3.1,v3.2.1,r11,v3.2.2.2) i4 else if isN i4 3 then zh (ze v1 n) (v3.1,v3.2.1,v3.2.2.1,r11) i4 else none else if isN i4 2 then (sTo v3.2.1 (min (v3.2.2.1.length : Int) 60)).bind fun r10 => if isN i4 0 then zh (ze v1 n) (r10,v3.2.1,v3.2.2.1,v3.2.2.2) i4 else if isN i4 1 then zh (ze v1 n) (v3.1,r10,v3.2.2.1,v3.2.2.2) i4 else if isN i4 2 then zh (ze v1 n) (v3.1,v3.2.1,r10,v3.2.2.2) i4 else if isN i4 3 then zh (ze v1 n) (v3.1,v3.2.1,v3.2.2.1,r10) i4 else none else if isN i4 3 then (sTo v3.2.1 (min (v3.2.2.2.length : Int) 60)).bind fun r9 => if isN i4 0 then zh (ze v1 n) (r9,v3.2.1,v3.2.2.1,v3.2.2.2) i4 else if isN i4 1 then zh (ze v1 n) (v3.1,r9,v3.2.2.1,v3.2.2.2) i4 else if isN i4 2 then zh (ze v1 n) (v3.1,v3.2.1,r9,v3.2.2.2) i4 else if isN i4 3 then zh (ze v1 n) (v3.1,v3.2.1,v3.2.2.1,r9) i4 else none else none else if isN i4 2 then if isN i4 0 then (sTo v3.2.2.1 (min (v3.1.length : Int) 60)).bind fun r8 => if isN i4 0 then zh (ze v1 n) (r8,v3.2.1,v3.2.2.1,v3.2.2.2) i4 else if isN i4 1 then zh (ze v1 n) (v3.1,r8,v3.2.2.1,v3.2.2.2) i4 else if isN i4 2 then zh (ze v1 n) (v3.1,v3.2.1,r8,v3.2.2.2) i4 else if isN i4 3 then zh (ze v1 n) (v3.1,v3.2.1,v3.2.2.1,r8) i4 else none else if isN i4 1 then (sTo v3.2.2.1 (min (v3.2.1.length : Int) 60)).bind fun r7 => if isN i4 0 then zh (ze v1 n) (r7,v3.2.1,v3.2.2.1,v3.2.2.2) i4 else if isN i4 1 then zh (ze v1 n) (v3.1,r7,v3.2.2.1,v3.2.2.2) i4 else if isN i4 2 then zh (ze v1 n) (v3.1,v3.2.1,r7,v3.2.2.2) i4 else if isN i4 3 then zh (ze v1 n) (v3.1,v3.2.1,v3.2.2.1,r7) i4 else none else if isN i4 2 then (sTo v3.2.2.1 (min (v3.2.2.1.length : Int) 60)).bind fun r6 => if isN i4 0 then zh (ze v1 n) (r6,v3.2.1,v3.2.2.1,v3.2.2.2) i4 else if isN i4 1 then zh (ze v1 n) (v3.1,r6,v3.2.2.1,v3.2.2.2) i4 else if isN i4 2 then zh (ze v1 n) (v3.1,v3.2.1,r6,v3.2.2.2) i4 else if isN i4 3 then zh (ze v1 n) (v3.1,v3.2.1,v3.2.2.1,r6) i4 else none else if isN i4 3 then (sTo v3.2.2.1 (min (v3.2.2.2.length : Int) 60)).bind fun r5 => if isN i4 0 then zh (ze v1 n) (r5,v3.2.1,v3.2.2.1,v3.2.2.2) i4 else if isN i4 1 then zh (ze v1 n) (v3.1,r5,v3.2.2.1,v3.2.2.2) i4 else if isN i4 2 then zh (ze v1 n) (v3.1,v3.2.1,r5,v3.2.2.2) i4 else if isN i4 3 then zh (ze v1 n) (v3.1,v3.2.1,v3.2.2.1,r5) i4 else none else none else if isN i4 3 then if isN i4 0 then (sTo v3.2.2.2 (min (v3.1.length : Int) 60)).bind fun r4 => if isN i4 0 then zh (ze v1 n) (r4,v3.2.1,v3.2.2.1,v3.2.2.2) i4 else if isN i4 1 then zh (ze v1 n) (v3.1,r4,v3.2.2.1,v3.2.2.2) i4 else if isN i4 2 then zh (ze v1 n) (v3.1,v3.2.1,r4,v3.2.2.2) i4 else if isN i4 3 then zh (ze v1 n) (v3.1,v3.2.1,v3.2.2.1,r4) i4 else none else if isN i4 1 then (sTo v3.2.2.2 (min (v3.2.1.length : Int) 60)).bind fun r3 => if isN i4 0 then zh (ze v1 n) (r3,v3.2.1,v3.2.2.1,v3.2.2.2) i4 else if isN i4 1 then zh (ze v1 n) (v3.1,r3,v3.2.2.1,v3.2.2.2) i4 else if isN i4 2 then zh (ze v1 n) (v3.1,v3.2.1,r3,v3.2.2.2) i4 else if isN i4 3 then zh (ze v1 n) (v3.1,v3.2.1,v3.2.2.1,r3) i4 else none else if isN i4 2 then (sTo v3.2.2.2 (min (v3.2.2.1.length : Int) 60)).bind fun r2 => if isN i4 0 then zh (ze v1 n) (r2,v3.2.1,v3.2.2.1,v3.2.2.2) i4 else if isN i4 1 then zh (ze v1 n) (v3.1,r2,v3.2.2.1,v3.2.2.2) i4 else if isN i4 2 then zh (ze v1 n) (v3.1,v3.2.1,r2,v3.2.2.2) i4 else if isN i4 3 then zh (ze v1 n) (v3.1,v3.2.1,v3.2.2.1,r2) i4 else none else if isN i4 3 then (sTo v3.2.2.2 (min (v3.2.2.2.length : Int) 60)).bind fun r1 => if isN i4 0 then zh (ze v1 n) (r1,v3.2.1,v3.2.2.1,v3.2.2.2) i4 else if isN i4 1 then zh (ze v1 n) (v3.1,r1,v3.2.2.1,v3.2.2.2) i4 else if isN i4 2 then zh (ze v1 n) (v3.1,v3.2.1,r1,v3.2.2.2) i4 else if isN i4 3 then zh (ze v1 n) (v3.1,v3.2.1,v3.2.2.1,r1) i4 else none else none else none else if isN 0 0 then if isN 1 0 then if isN 2 0 then if isN 3 0 then za v1 (⟨v3.1,v3.1,v3.1,v3.1,[],[]⟩ : zLm) else if isN 3 1 then za v1 (⟨v3.1,v3.1,v3.1,v3.2.1,[],[]⟩ : zLm) else if isN 3 2 then za v1 (⟨v3.1,v3.1,v3.1,v3.2.2.1,[],[]⟩ : zLm) else if isN 3 3 then za v1 (⟨v3.1,v3.1,v3.1,v3.2.2.2,[],[]⟩ : zLm) else none else if isN 2 1 then if isN 3 0 then za v1 (⟨v3.1,v3.1,v3.2.1,v3.1,[],[]⟩ : zLm) else if isN 3 1 then za v1 (⟨v3.1,v3.1,v3.2.1,v3.2.1,[],[]⟩ : zLm) else if isN 3 2 then za v1 (⟨v3.1,v3.1,v3.2.1,v3.2.2.1,[],[]⟩ : zLm) else if isN 3 3 then za v1 (⟨v3.1,v3.1,v3.2.1,v3.2.2.2,[],[]⟩ : zLm) else none else if isN 2 2 then if isN 3 0 then za v1 (⟨v3.1,v3.1,v3.2.2.1,v3.1,[],[]⟩ : zLm) else if isN 3 1 then za v1 (⟨v3.1,v3.1,v3.2.2.1,v3.2.1,[],[]⟩ : zLm) else if isN 3 2 then za v1 (⟨v3.1,v3.1,v3.2.2.1,v3.2.2.1,[],[]⟩ : zLm) else if isN 3 3 then za v1 (⟨v3.1,v3.1,v3.2.2.1,v3.2.2.2,[],[]⟩ : zLm) else none else if isN 2 3 then if isN 3 0 then za v1 (⟨v3.1,v3.1,v3.2.2.2,v3.1,[],[]⟩ : zLm) else if isN 3 1 then za v1 (⟨v3.1,v3.1,v3.2.2.2,v3.2.1,[],[]⟩ : zLm) else if isN 3 2 then za v1 (⟨v3.1,v3.1,v3.2.2.2,v3.2.2.1,[],[]⟩ : zLm) else if isN 3 3 then za v1 (⟨v3.1,v3.1,v3.2.2.2,v3.2.2.2,[],[]⟩ : zLm) else none else none else if isN 1 1 then if isN 2 0 then if isN 3 0 then za v1 (⟨v3.1,v3.2.1,v3.1,v3.1,[],[]⟩ : zLm) else if isN 3 1 then za v1 (⟨v3.1,v3.2.1,v3.1,v3.2.1,[],[]⟩ : zLm) else if isN 3 2 then za v1 (⟨v3.1,v3.2.1,v3.1,v3.2.2.1,[],[]⟩ : zLm) else if isN 3 3 then za v1 (⟨v3.1,v3.2.1,v3.1,v3.2.2.2,[],[]⟩ : zLm) else none else if isN 2 1 then if isN 3 0 then za v1 (⟨v3.1,v3.2.1,v3.2.1,v3.1,[],[]⟩ : zLm) else if isN 3 1 then za v1 (⟨v3.1,v3.2.1,v3.2.1,v3.2.1,[],[]⟩ : zLm) else if isN 3 2 then za v1 (⟨v3.1,v3.2.1,v3.2.1,v3.2.2.1,[],[]⟩ : zLm) else if isN 3 3 then za v1 (⟨v3.1,v3.2.1,v3.2.1,v3.2.2.2,[],[]⟩ : zLm) else none else if isN 2 2 then if isN 3 0 then za v1 (⟨v3.1,v3.2.1,v3.2.2.1,v3.1,[],[]⟩ : zLm) else if isN 3 1 then za v1 (⟨v3.1,v3.2.1,v3.2.2.1,v3.2.1,[],[]⟩ : zLm) else if isN 3 2 then za v1 (⟨v3.1,v3.2.1,v3.2.2.1,v3.2.2.1,[],[]⟩ : zLm) else if isN 3 3 then za v1 (⟨v3.1,v3.2.1,v3.2.2.1,v3.2.2.2,[],[]⟩ : zLm) else none else if isN 2 3 then if isN 3 0 then za v1 (⟨v3.1,v3.2.1,v3.2.2.2,v3.1,[],[]⟩ : zLm) else if isN 3 1 then za v1 (⟨v3.1,v3.2.1,v3.2.2.2,v3.2.1,[],[]⟩ : zLm) else if isN 3 2 then za v1 (⟨v3.1,v3.2.1,v3.2.2.2,v3.2.2.1,[],[]⟩ : zLm) else if isN 3 3 then za v1 (⟨v3.1,v3.2.1,v3.2.2.2,v3.2.2.2,[],[]⟩ : zLm) else none else none else if isN 1 2 then if isN 2 0 then if isN 3 0 then za v1 (⟨v3.1,v3.2.2.1,v3.1,v3.1,[],[]⟩ : zLm) else if isN 3 1 then za v1 (⟨v3.1,v3.2.2.1,v3.1,v3.2.1,[],[]⟩ : zLm) else if isN 3 2 then za v1 (⟨v3.1,v3.2.2.1,v3.1,v3.2.2.1,[],[]⟩ : zLm) else if isN 3 3 then za v1 (⟨v3.1,v3.2.2.1,v3.1,v3.2.2.2,[],[]⟩ : zLm) else none else if isN 2 1 then if isN 3 0 then za v1 (⟨v3.1,v3.2.2.1,v3.2.1,v3.1,[],[]⟩ : zLm) else if isN 3 1 then za v1 (⟨v3.1,v3.2.2.1,v3.2.1,v3.2.1,[],[]⟩ : zLm) else if isN 3 2 then za v1 (⟨v3.1,v3.2.2.1,v3.2.1,v3.2.2.1,[],[]⟩ : zLm) else if isN 3 3 then za v1 (⟨v3.1,v3.2.2.1,v3.2.1,v3.2.2.2,[],[]⟩ : zLm) else none else if isN 2 2 then if isN 3 0 then za v1 (⟨v3.1,v3.2.2.1,v3.2.2.1,v3.1,[],[]⟩ : zLm) else if isN 3 1 then za v1 (⟨v3.1,v3.2.2.1,v3.2.2.1,v3.2.1,[],[]⟩ : zLm) else if isN 3 2 then za v1 (⟨v3.1,v3.2.2.1,v3.2.2.1,v3.2.2.1,[],[]⟩ : zLm) else if isN 3 3 then za v1 (⟨v3.1,v3.2.2.1,v3.2.2.1,v3.2.2.2,[],[]⟩ : zLm) else none else if isN 2 3 then if isN 3 0 then za v1 (⟨v3.1,v3.2.2.1,v3.2.2.2,v3.1,[],[]⟩ : zLm) else if isN 3 1 then za v1 (⟨v3.1,v3.2.2.1,v3.2.2.2,v3.2.1,[],[]⟩ : zLm) else if isN 3 2 then za v1 (⟨v3.1,v3.2.2.1,v3.2.2.2,v3.2.2.1,[],[]⟩ : zLm) else if isN 3 3 then za v1 (⟨v3.1,v3.2.2.1,v3.2.2.2,v3.2.2.2,[],[]⟩ : zLm) else none else none else if isN 1 3 then if isN 2 0 then if isN 3 0 then za v1 (⟨v3.1,v3.2.2.2,v3.1,v3.1,[],[]⟩ : zLm) else if isN 3 1 then za v1 (⟨v3.1,v3.2.2.2,v3.1,v3.2.1,[],[]⟩ : zLm) else if isN 3 2 then za v1 (⟨v3.1,v3.2.2.2,v3.1,v3.2.2.1,[],[]⟩ : zLm) else if isN 3 3 then za v1 (⟨v3.1,v3.2.2.2,v3.1,v3.2.2.2,[],[]⟩ : zLm) else none else if isN 2 1 then if isN 3 0 then za v1 (⟨v3.1,v3.2.2.2,v3.2.1,v3.1,[],[]⟩ : zLm) else if isN 3 1 then za v1 (⟨v3.1,v3.2.2.2,v3.2.1,v3.2.1,[],[]⟩ : zLm) else if isN 3 2 then za v1 (⟨v3.1,v3.2.2.2,v3.2.1,v3.2.2.1,[],[]⟩ : zLm) else if isN 3 3 then za v1 (⟨v3.1,v3.2.2.2,v3.2.1,v3.2.2.2,[],[]⟩ : zLm) else none else if isN 2 2 then if isN 3 0 then za v1 (⟨v3.1,v3.2.2.2,v3.2.2.1,v3.1,[],[]⟩ : zLm) else if isN 3 1 then za v1 (⟨v3.1,v3.2.2.2,v3.2.2.1,v3.2.1,[],[]⟩ : zLm) else if isN 3 2 then za v1 (⟨v3.1,v3.2.2.2,v3.2.2.1,v3.2.2.1,[],[]⟩ : zLm) else if isN 3 3 then za v1 (⟨v3.1,v3.2.2.2,v3.2.2.1,v3.2.2.2,[],[]⟩ : zLm) else none else if isN 2 3 then if isN 3 0 then za v1 (⟨v3.1,v3.2.2.2,v3.2.2.2,v3.1,[],[]⟩ : zLm) else if isN 3 1 then za v1 (⟨v3.1,v3.2.2.2,v3.2.2.2,v3.2.1,[],[]⟩ : zLm) else if isN 3 2 then za v1 (⟨v3.1,v3.2.2.2,v3.2.2.2,v3.2.2.1,[],[]⟩ : zLm) else if isN 3 3 then za v1 (⟨v3.1,v3.2.2.2,v3.2.2.2,v3.2.2.2,[],[]⟩ : zLm) else none else none else none else if isN 0 1 then if isN 1 0 then if isN 2 0 then if isN 3 0 then za v1 (⟨v3.2.1,v3.1,v3.1,v3.1,[],[]⟩ : zLm) else if isN 3 1 then za v1 (⟨v3.2.1,v3.1,v3.1,v3.2.1,[],[]⟩ : zLm) else if isN 3 2 then za v1 (⟨v3.2.1,v3.1,v3.1,v3.2.2.1,[],[]⟩ : zLm) else if isN 3 3 then za v1 (⟨v3.2.1,v3.1,v3.1,v3.2.2.2,[],[]⟩ : zLm) else none else if isN 2 1 then if isN 3 0 then za v1 (⟨v3.2.1,v3.1,v3.2.1,v3.1,[],[]⟩ : zLm) else if isN 3 1 then za v1 (⟨v3.2.1,v3.1,v3.2.1,v3.2.1,[],[]⟩ : zLm) else if isN 3 2 then za v1 (⟨v3.2.1,v3.1,v3.2.1,v3.2.2.1,[],[]⟩ : zLm) else if isN 3 3 then za v1 (⟨v3.2.1,v3.1,v3.2.1,v3.2.2.2,[],[]⟩ : zLm) else none else if isN 2 2 then if isN 3 0 then za v1 (⟨v3.2.1,v3.1,v3.2.2.1,v3.1,[],[]⟩ : zLm) else if isN 3 1 then za v1 (⟨v3.2.1,v3.1,v3.2.2.1,v3.2.1,[],[]⟩ : zLm) else if isN 3 2 then za v1 (⟨v3.2.1,v3.1,v3.2.2.1,v3.2.2.1,[],[]⟩ : zLm) else if isN 3 3 then za v1 (⟨v3.2.1,v3.1,v3.2.2.1,v3.2.2.2,[],[]⟩ : zLm) else none else if isN 2 3 then if isN 3 0 then za v1 (⟨v3.2.1,v3.1,v3.2.2.2,v3.1,[],[]⟩ : zLm) else if isN 3 1 then za v1 (⟨v3.2.1,v3.1,v3.2.2.2,v3.2.1,[],[]⟩ : zLm) else if isN 3 2 then za v1 (⟨v3.2.1,v3.1,v3.2.2.2,v3.2.2.1,[],[]⟩ : zLm) else if isN 3 3 then za v1 (⟨v3.2.1,v3.1,v3.2.2.2,v3.2.2.2,[],[]⟩ : zLm) else none else none else if isN 1 1 then if isN 2 0 then if isN 3 0 then za v1 (⟨v3.2.1,v3.2.1,v3.1,v3.1,[],[]⟩ : zLm) else if isN 3 1 then za v1 (⟨v3.2.1,v3.2.1,v3.1,v3.2.1,[],[]⟩ : zLm) else if isN 3 2 then za v1 (⟨v3.2.1,v3.2.1,v3.1,v3.2.2.1,[],[]⟩ : zLm) else if isN 3 3 then za v1 (⟨v3.2.1,v3.2.1,v3.1,v3.2.2.2,[],[]⟩ : zLm) else none else if isN 2 1 then if isN 3 0 then za v1 (⟨v3.2.1,v3.2.1,v3.2.1,v3.1,[],[]⟩ : zLm) else if isN 3 1 then za v1 (⟨v3.2.1,v3.2.1,v3.2.1,v3.2.1,[],[]⟩ : zLm) else if isN 3 2 then za v1 (⟨v3.2.1,v3.2.1,v3.2.1,v3.2.2.1,[],[]⟩ : zLm) else if isN 3 3 then za v1 (⟨v3.2.1,v3.2.1,v3.2.1,v3.2.2.2,[],[]⟩ : zLm) else none else if isN 2 2 then if isN 3 0 then za v1 (⟨v3.2.1,v3.2.1,v3.2.2.1,v3.1,[],[]⟩ : zLm) else if isN 3 1 then za v1 (⟨v3.2.1,v3.2.1,v3.2.2.1,v3.2.1,[],[]⟩ : zLm) else if isN 3 2 then za v1 (⟨v3.2.1,v3.2.1,v3.2.2.1,v3.2.2.1,[],[]⟩ : zLm) else if isN 3 3 then za v1 (⟨v3.2.1,v3.2.1,v3.2.2.1,v3.2.2.2,[],[]⟩ : zLm) else none else if isN 2 3 then if isN 3 0 then za v1 (⟨v3.2.1,v3.2.1,v3.2.2.2,v3.1,[],[]⟩ : zLm) else if isN 3 1 then za v1 (⟨v3.2.1,v3.2.1,v3.2.2.2,v3.2.1,[],[]⟩ : zLm) else if isN 3 2 then za v1 (⟨v3.2.1,v3.2.1,v3.2.2.2,v3.2.2.1,[],[]⟩ : zLm) else if isN 3 3 then za v1 (⟨v3.2.1,v3.2.1,v3.2.2.2,v3.2.2.2,[],[]⟩ : zLm) else none else none else if isN 1 2 then if isN 2 0 then if isN 3 0 then za v1 (⟨v3.2.1,v3.2.2.1,v3.1,v3.1,[],[]⟩ : zLm) else if isN 3 1 then za v1 (⟨v3.2.1,v3.2.2.1,v3.1,v3.2.1,[],[]⟩ : zLm) else if isN 3 2 then za v1 (⟨v3.2.1,v3.2.2.1,v3.1,v3.2.2.1,[],[]⟩ : zLm) else if isN 3 3 then za v1 (⟨v3.2.1,v3.2.2.1,v3.1,v3.2.2.2,[],[]⟩ : zLm) else none else if isN 2 1 then if isN 3 0 then za v1 (⟨v3.2.1,v3.2.2.1,v3.2.1,v3.1,[],[]⟩ : zLm) else if isN 3 1 then za v1 (⟨v3.2.1,v3.2.2.1,v3.2.1,v3.2.1,[],[]⟩ : zLm) else if isN 3 2 then za v1 (⟨v3.2.1,v3.2.2.1,v3.2.1,v3.2.2.1,[],[]⟩ : zLm) else if isN 3 3 then za v1 (⟨v3.2.1,v3.2.2.1,v3.2.1,v3.2.2.2,[],[]⟩ : zLm) else none else if isN 2 2 then if isN 3 0 then za v1 (⟨v3.2.1,v3.2.2.1,v3.2.2.1,v3.1,[],[]⟩ : zLm) else if isN 3 1 then za v1 (⟨v3.2.1,v3.2.2.1,v3.2.2.1,v3.2.1,[],[]⟩ : zLm) else if isN 3 2 then za v1 (⟨v3.2.1,v3.2.2.1,v3.2.2.1,v3.2.2.1,[],[]⟩ : zLm) else if isN 3 3 then za v1 (⟨v3.2.1,v3.2.2.1,v3.2.2.1,v3.2.2.2,[],[]⟩ : zLm) else none else if isN 2 3 then if isN 3 0 then za v1 (⟨v3.2.1,v3.2.2.1,v3.2.2.2,v3.1,[],[]⟩ : zLm) else if isN 3 1 then za v1 (⟨v3.2.1,v3.2.2.1,v3.2.2.2,v3.2.1,[],[]⟩ : zLm) else if isN 3 2 then za v1 (⟨v3.2.1,v3.2.2.1,v3.2.2.2,v3.2.2.1,[],[]⟩ : zLm) else if isN 3 3 then za v1 (⟨v3.2.1,v3.2.2.1,v3.2.2.2,v3.2.2.2,[],[]⟩ : zLm) else none else none else if isN 1 3 then if isN 2 0 then if isN 3 0 then za v1 (⟨v3.2.1,v3.2.2.2,v3.1,v3.1,[],[]⟩ : zLm) else if isN 3 1 then za v1 (⟨v3.2.1,v3.2.2.2,v3.1,v3.2.1,[],[]⟩ : zLm) else if isN 3 2 then za v1 (⟨v3.2.1,v3.2.2.2,v3.1,v3.2.2.1,[],[]⟩ : zLm) else if isN 3 3 then za v1 (⟨v3.2.1,v3.2.2.2,v3.1,v3.2.2.2,[],[]⟩ : zLm) else none else if isN 2 1 then if isN 3 0 then za v1 (⟨v3.2.1,v3.2.2.2,v3.2.1,v3.1,[],[]⟩ : zLm) else if isN 3 1 then za v1 (⟨v3.2.1,v3.2.2.2,v3.2.1,v3.2.1,[],[]⟩ : zLm) else if isN 3 2 then za v1 (⟨v3.2.1,v3.2.2.2,v3.2.1,v3.2.2.1,[],[]⟩ : zLm) else if isN 3 3 then za v1 (⟨v3.2.1,v3.2.2.2,v3.2.1,v3.2.2.2,[],[]⟩ : zLm) else none else if isN 2 2 then if isN 3 0 then za v1 (⟨v3.2.1,v3.2.2.2,v3.2.2.1,v3.1,[],[]⟩ : zLm) else if isN 3 1 then za v1 (⟨v3.2.1,v3.2.2.2,v3.2.2.1,v3.2.1,[],[]⟩ : zLm) else if isN 3 2 then za v1 (⟨v3.2.1,v3.2.2.2,v3.2.2.1,v3.2.2.1,[],[]⟩ : zLm) else if isN 3 3 then za v1 (⟨v3.2.1,v3.2.2.2,v3.2.2.1,v3.2.2.2,[],[]⟩ : zLm) else none else if isN 2 3 then if isN 3 0 then za v1 (⟨v3.2.1,v3.2.2.2,v3.2.2.2,v3.1,[],[]⟩ : zLm) else if isN 3 1 then za v1 (⟨v3.2.1,v3.2.2.2,v3.2.2.2,v3.2.1,[],[]⟩ : zLm) else if isN 3 2 then za v1 (⟨v3.2.1,v3.2.2.2,v3.2.2.2,v3.2.2.1,[],[]⟩ : zLm) else if isN 3 3 then za v1 (⟨v3.2.1,v3.2.2.2,v3.2.2.2,v3.2.2.2,[],[]⟩ : zLm) else none else none else none else if isN 0 2 then if isN 1 0 then if isN 2 0 then if isN 3 0 then za v1 (⟨v3.2.2.1,v3.1,v3.1,v3.1,[],[]⟩ : zLm) else if isN 3 1 then za v1 (⟨v3.2.2.1,v3.1,v3.1,v3.2.1,[],[]⟩ : zLm) else if isN 3 2 then za v1 (⟨v3.2.2.1,v3.1,v3.1,v3.2.2.1,[],[]⟩ : zLm) else if isN 3 3 then za v1 (⟨v3.2.2.1,v3.1,v3.1,v3.2.2.2,[],[]⟩ : zLm) else none else if isN 2 1 then if isN 3 0 then za v1 (⟨v3.2.2.1,v3.1,v3.2.1,v3.1,[],[]⟩ : zLm) else if isN 3 1 then za v1 (⟨v3.2.2.1,v3.1,v3.2.1,v3.2.1,[],[]⟩ : zLm) else if isN 3 2 then za v1 (⟨v3.2.2.1,v3.1,v3.2.1,v3.2.2.1,[],[]⟩ : zLm) else if isN 3 3 then za v1 (⟨v3.2.2.1,v3.1,v3.2.1,v3.2.2.2,[],[]⟩ : zLm) else none else if isN 2 2 then if isN 3 0 then za v1 (⟨v3.2.2.1,v3.1,v3.2.2.1,v3.1,[],[]⟩ : zLm) else if isN 3 1 then za v1 (⟨v3.2.2.1,v3.1,v3.2.2.1,v3.2.1,[],[]⟩ : zLm) else if isN 3 2 then za v1 (⟨v3.2.2.1,v3.1,v3.2.2.1,v3.2.2.1,[],[]⟩ : zLm) else if isN 3 3 then za v1 (⟨v3.2.2.1,v3.1,v3.2.2.1,v3.2.2.2,[],[]⟩ : zLm) else none else if isN 2 3 then if isN 3 0 then za v1 (⟨v3.2.2.1,v3.1,v3.2.2.2,v3.1,[],[]⟩ : zLm) else if isN 3 1 then za v1 (⟨v3.2.2.1,v3.1,v3.2.2.2,v3.2.1,[],[]⟩ : zLm) else if isN 3 2 then za v1 (⟨v3.2.2.1,v3.1,v3.2.2.2,v3.2.2.1,[],[]⟩ : zLm) else if isN 3 3 then za v1 (⟨v3.2.2.1,v3.1,v3.2.2.2,v3.2.2.2,[],[]⟩ : zLm) else none else none else if isN 1 1 then if isN 2 0 then if isN 3 0 then za v1 (⟨v3.2.2.1,v3.2.1,v3.1,v3.1,[],[]⟩ : zLm) else if isN 3 1 then za v1 (⟨v3.2.2.1,v3.2.1,v3.1,v3.2.1,[],[]⟩ : zLm) else if isN 3 2 then za v1 (⟨v3.2.2.1,v3.2.1,v3.1,v3.2.2.1,[],[]⟩ : zLm) else if isN 3 3 then za v1 (⟨v3.2.2.1,v3.2.1,v3.1,v3.2.2.2,[],[]⟩ : zLm) else none else if isN 2 1 then if isN 3 0 then za v1 (⟨v3.2.2.1,v3.2.1,v3.2.1,v3.1,[],[]⟩ : zLm) else if isN 3 1 then za v1 (⟨v3.2.2.1,v3.2.1,v3.2.1,v3.2.1,[],[]⟩ : zLm) else if isN 3 2 then za v1 (⟨v3.2.2.1,v3.2.1,v3.2.1,v3.2.2.1,[],[]⟩ : zLm) else if isN 3 3 then za v1 (⟨v3.2.2.1,v3.2.1,v3.2.1,v3.2.2.2,[],[]⟩ : zLm) else none else if isN 2 2 then if isN 3 0 then za v1 (⟨v3.2.2.1,v3.2.1,v3.2.2.1,v3.1,[],[]⟩ : zLm) else if isN 3 1 then za v1 (⟨v3.2.2.1,v3.2.1,v3.2.2.1,v3.2.1,[],[]⟩ : zLm) else if isN 3 2 then za v1 (⟨v3.2.2.1,v3.2.1,v3.2.2.1,v3.2.2.1,[],[]⟩ : zLm) else if isN 3 3 then za v1 (⟨v3.2.2.1,v3.2.1,v3.2.2.1,v3.2.2.2,[],[]⟩ : zLm) else none else if isN 2 3 then if isN 3 0 then za v1 (⟨v3.2.2.1,v3.2.1,v3.2.2.2,v3.1,[],[]⟩ : zLm) else if isN 3 1 then za v1 (⟨v3.2.2.1,v3.2.1,v3.2.2.2,v3.2.1,[],[]⟩ : zLm) else if isN 3 2 then za v1 (⟨v3.2.2.1,v3.2.1,v3.2.2.2,v3.2.2.1,[],[]⟩ : zLm) else if isN 3 3 then za v1 (⟨v3.2.2.1,v3.2.1,v3.2.2.2,v3.2.2.2,[],[]⟩ : zLm) else none else none else if isN 1 2 then if isN 2 0 then if isN 3 0 then za v1 (⟨v3.2.2.1,v3.2.2.1,v3.1,v3.1,[],[]⟩ : zLm) else if isN 3 1 then za v1 (⟨v3.2.2.1,v3.2.2.1,v3.1,v3.2.1,[],[]⟩ : zLm) else if isN 3 2 then za v1 (⟨v3.2.2.1,v3.2.2.1,v3.1,v3.2.2.1,[],[]⟩ : zLm) else if isN 3 3 then za v1 (⟨v3.2.2.1,v3.2.2.1,v3.1,v3.2.2.2,[],[]⟩ : zLm) else none else if isN 2 1 then if isN 3 0 then za v1 (⟨v3.2.2.1,v3.2.2.1,v3.2.1,v3.1,[],[]⟩ : zLm) else if isN 3 1 then za v1 (⟨v3.2.2.1,v3.2.2.1,v3.2.1,v3.2.1,[],[]⟩ : zLm) else if isN 3 2 then za v1 (⟨v3.2.2.1,v3.2.2.1,v3.2.1,v3.2.2.1,[],[]⟩ : zLm) else if isN 3 3 then za v1 (⟨v3.2.2.1,v3.2.2.1,v3.2.1,v3.2.2.2,[],[]⟩ : zLm) else none else if isN 2 2 then if isN 3 0 then za v1 (⟨v3.2.2.1,v3.2.2.1,v3.2.2.1,v3.1,[],[]⟩ : zLm) else if isN 3 1 then za v1 (⟨v3.2.2.1,v3.2.2.1,v3.2.2.1,v3.2.1,[],[]⟩ : zLm) else if isN 3 2 then za v1 (⟨v3.2.2.1,v3.2.2.1,v3.2.2.1,v3.2.2.1,[],[]⟩ : zLm) else if isN 3 3 then za v1 (⟨v3.2.2.1,v3.2.2.1,v3.2.2.1,v3.2.2.2,[],[]⟩ : zLm) else none else if isN 2 3 then if isN 3 0 then za v1 (⟨v3.2.2.1,v3.2.2.1,v3.2.2.2,v3.1,[],[]⟩ : zLm) else if isN 3 1 then za v1 (⟨v3.2.2.1,v3.2.2.1,v3.2.2.2,v3.2.1,[],[]⟩ : zLm) else if isN 3 2 then za v1 (⟨v3.2.2.1,v3.2.2.1,v3.2.2.2,v3.2.2.1,[],[]⟩ : zLm) else if isN 3 3 then za v1 (⟨v3.2.2.1,v3.2.2.1,v3.2.2.2,v3.2.2.2,[],[]⟩ : zLm) else none else none else if isN 1 3 then if isN 2 0 then if isN 3 0 then za v1 (⟨v3.2.2.1,v3.2.2.2,v3.1,v3.1,[],[]⟩ : zLm) else if isN 3 1 then za v1 (⟨v3.2.2.1,v3.2.2.2,v3.1,v3.2.1,[],[]⟩ : zLm) else if isN 3 2 then za v1 (⟨v3.2.2.1,v3.2.2.2,v3.1,v3.2.2.1,[],[]⟩ : zLm) else if isN 3 3 then za v1 (⟨v3.2.2.1,v3.2.2.2,v3.1,v3.2.2.2,[],[]⟩ : zLm) else none else if isN 2 1 then if isN 3 0 then za v1 (⟨v3.2.2.1,v3.2.2.2,v3.2.1,v3.1,[],[]⟩ : zLm) else if isN 3 1 then za v1 (⟨v3.2.2.1,v3.2.2.2,v3.2.1,v3.2.1,[],[]⟩ : zLm) else if isN 3 2 then za v1 (⟨v3.2.2.1,v3.2.2.2,v3.2.1,v3.2.2.1,[],[]⟩ : zLm) else if isN 3 3 then za v1 (⟨v3.2.2.1,v3.2.2.2,v3.2.1,v3.2.2.2,[],[]⟩ : zLm) else none else if isN 2 2 then if isN 3 0 then za v1 (⟨v3.2.2.1,v3.2.2.2,v3.2.2.1,v3.1,[],[]⟩ : zLm) else if isN 3 1 then za v1 (⟨v3.2.2.1,v3.2.2.2,v3.2.2.1,v3.2.1,[],[]⟩ : zLm) else if isN 3 2 then za v1 (⟨v3.2.2.1,v3.2.2.2,v3.2.2.1,v3.2.2.1,[],[]⟩ : zLm) else if isN 3 3 then za v1 (⟨v3.2.2.1,v3.2.2.2,v3.2.2.1,v3.2.2.2,[],[]⟩ : zLm) else none else if isN 2 3 then if isN 3 0 then za v1 (⟨v3.2.2.1,v3.2.2.2,v3.2.2.2,v3.1,[],[]⟩ : zLm) else if isN 3 1 then za v1 (⟨v3.2.2.1,v3.2.2.2,v3.2.2.2,v3.2.1,[],[]⟩ : zLm) else if isN 3 2 then za v1 (⟨v3.2.2.1,v3.2.2.2,v3.2.2.2,v3.2.2.1,[],[]⟩ : zLm) else if isN 3 3 then za v1 (⟨v3.2.2.1,v3.2.2.2,v3.2.2.2,v3.2.2.2,[],[]⟩ : zLm) else none else none else none else if isN 0 3 then if isN 1 0 then if isN 2 0 then if isN 3 0 then za v1 (⟨v3.2.2.2,v3.1,v3.1,v3.1,[],[]⟩ : zLm) else if isN 3 1 then za v1 (⟨v3.2.2.2,v3.1,v3.1,v3.2.1,[],[]⟩ : zLm) else if isN 3 2 then za v1 (⟨v3.2.2.2,v3.1,v3.1,v3.2.2.1,[],[]⟩ : zLm) else if isN 3 3 then za v1 (⟨v3.2.2.2,v3.1,v3.1,v3.2.2.2,[],[]⟩ : zLm) else none else if isN 2 1 then if isN 3 0 then za v1 (⟨v3.2.2.2,v3.1,v3.2.1,v3.1,[],[]⟩ : zLm) else if isN 3 1 then za v1 (⟨v3.2.2.2,v3.1,v3.2.1,v3.2.1,[],[]⟩ : zLm) else if isN 3 2 then za v1 (⟨v3.2.2.2,v3.1,v3.2.1,v3.2.2.1,[],[]⟩ : zLm) else if isN 3 3 then za v1 (⟨v3.2.2.2,v3.1,v3.2.1,v3.2.2.2,[],[]⟩ : zLm) else none else if isN 2 2 then if isN 3 0 then za v1 (⟨v3.2.2.2,v3.1,v3.2.2.1,v3.1,[],[]⟩ : zLm) else if isN 3 1 then za v1 (⟨v3.2.2.2,v3.1,v3.2.2.1,v3.2.1,[],[]⟩ : zLm) else if isN 3 2 then za v1 (⟨v3.2.2.2,v3.1,v3.2.2.1,v3.2.2.1,[],[]⟩ : zLm) else if isN 3 3 then za v1 (⟨v3.2.2.2,v3.1,v3.2.2.1,v3.2.2.2,[],[]⟩ : zLm) else none else if isN 2 3 then if isN 3 0 then za v1 (⟨v3.2.2.2,v3.1,v3.2.2.2,v3.1,[],[]⟩ : zLm) else if isN 3 1 then za v1 (⟨v3.2.2.2,v3.1,v3.2.2.2,v3.2.1,[],[]⟩ : zLm) else if isN 3 2 then za v1 (⟨v3.2.2.2,v3.1,v3.2.2.2,v3.2.2.1,[],[]⟩ : zLm) else if isN 3 3 then za v1 (⟨v3.2.2.2,v3.1,v3.2.2.2,v3.2.2.2,[],[]⟩ : zLm) else none else none else if isN 1 1 then if isN 2 0 then if isN 3 0 then za v1 (⟨v3.2.2.2,v3.2.1,v3.1,v3.1,[],[]⟩ : zLm) else if isN 3 1 then za v1 (⟨v3.2.2.2,v3.2.1,v3.1,v3.2.1,[],[]⟩ : zLm) else if isN 3 2 then za v1 (⟨v3.2.2.2,v3.2.1,v3.1,v3.2.2.1,[],[]⟩ : zLm) else if isN 3 3 then za v1 (⟨v3.2.2.2,v3.2.1,v3.1,v3.2.2.2,[],[]⟩ : zLm) else none else if isN 2 1 then if isN 3 0 then za v1 (⟨v3.2.2.2,v3.2.1,v3.2.1,v3.1,[],[]⟩ : zLm) else if isN 3 1 then za v1 (⟨v3.2.2.2,v3.2.1,v3.2.1,v3.2.1,[],[]⟩ : zLm) else if isN 3 2 then za v1 (⟨v3.2.2.2,v3.2.1,v3.2.1,v3.2.2.1,[],[]⟩ : zLm) else if isN 3 3 then za v1 (⟨v3.2.2.2,v3.2.1,v3.2.1,v3.2.2.2,[],[]⟩ : zLm) else none else if isN 2 2 then if isN 3 0 then za v1 (⟨v3.2.2.2,v3.2.1,v3.2.2.1,v3.1,[],[]⟩ : zLm) else if isN 3 1 then za v1 (⟨v3.2.2.2,v3.2.1,v3.2.2.1,v3.2.1,[],[]⟩ : zLm) else if isN 3 2 then za v1 (⟨v3.2.2.2,v3.2.1,v3.2.2.1,v3.2.2.1,[],[]⟩ : zLm) else if isN 3 3 then za v1 (⟨v3.2.2.2,v3.2.1,v3.2.2.1,v3.2.2.2,[],[]⟩ : zLm) else none else if isN 2 3 then if isN 3 0 then za v1 (⟨v3.2.2.2,v3.2.1,v3.2.2.2,v3.1,[],[]⟩ : zLm) else if isN 3 1 then za v1 (⟨v3.2.2.2,v3.2.1,v3.2.2.2,v3.2.1,[],[]⟩ : zLm) else if isN 3 2 then za v1 (⟨v3.2.2.2,v3.2.1,v3.2.2.2,v3.2.2.1,[],[]⟩ : zLm) else if isN 3 3 then za v1 (⟨v3.2.2.2,v3.2.1,v3.2.2.2,v3.2.2.2,[],[]⟩ : zLm) else none else none else if isN 1 2 then if isN 2 0 then if isN 3 0 then za v1 (⟨v3.2.2.2,v3.2.2.1,v3.1,v3.1,[],[]⟩ : zLm) else if isN 3 1 then za v1 (⟨v3.2.2.2,v3.2.2.1,v3.1,v3.2.1,[],[]⟩ : zLm) else if isN 3 2 then za v1 (⟨v3.2.2.2,v3.2.2.1,v3.1,v3.2.2.1,[],[]⟩ : zLm) else if isN 3 3 then za v1 (⟨v3.2.2.2,v3.2.2.1,v3.1,v3.2.2.2,[],[]⟩ : zLm) else none else if isN 2 1 then if isN 3 0 then za v1 (⟨v3.2.2.2,v3.2.2.1,v3.2.1,v3.1,[],[]⟩ : zLm) else if isN 3 1 then za v1 (⟨v3.2.2.2,v3.2.2.1,v3.2.1,v3.2.1,[],[]⟩ : zLm) else if isN 3 2 then za v1 (⟨v3.2.2.2,v3.2.2.1,v3.2.1,v3.2.2.1,[],[]⟩ : zLm) else if isN 3 3 then za v1 (⟨v3.2.2.2,v3.2.2.1,v3.2.1,v3.2.2.2,[],[]⟩ : zLm) else none else if isN 2 2 then if isN 3 0 then za v1 (⟨v3.2.2.2,v3.2.2.1,v3.2.2.1,v3.1,[],[]⟩ : zLm) else if isN 3 1 then za v1 (⟨v3.2.2.2,v3.2.2.1,v3.2.2.1,v3.2.1,[],[]⟩ : zLm) else if isN 3 2 then za v1 (⟨v3.2.2.2,v3.2.2.1,v3.2.2.1,v3.2.2.1,[],[]⟩ : zLm) else if isN 3 3 then za v1 (⟨v3.2.2.2,v3.2.2.1,v3.2.2.1,v3.2.2.2,[],[]⟩ : zLm) else none else if isN 2 3 then if isN 3 0 then za v1 (⟨v3.2.2.2,v3.2.2.1,v3.2.2.2,v3.1,[],[]⟩ : zLm) else if isN 3 1 then za v1 (⟨v3.2.2.2,v3.2.2.1,v3.2.2.2,v3.2.1,[],[]⟩ : zLm) else if isN 3 2 then za v1 (⟨v3.2.2.2,v3.2.2.1,v3.2.2.2,v3.2.2.1,[],[]⟩ : zLm) else if isN 3 3 then za v1 (⟨v3.2.2.2,v3.2.2.1,v3.2.2.2,v3.2.2.2,[],[]⟩ : zLm) else none else none else if isN 1 3 then if isN 2 0 then if isN 3 0 then za v1 (⟨v3.2.2.2,v3.2.2.2,v3.1,v3.1,[],[]⟩ : zLm) else if isN 3 1 then za v1 (⟨v3.2.2.2,v3.2.2.2,v3.1,v3.2.1,[],[]⟩ : zLm) else if isN 3 2 then za v1 (⟨v3.2.2.2,v3.2.2.2,v3.1,v3.2.2.1,[],[]⟩ : zLm) else if isN 3 3 then za v1 (⟨v3.2.2.2,v3.2.2.2,v3.1,v3.2.2.2,[],[]⟩ : zLm) else none else if isN 2 1 then if isN 3 0 then za v1 (⟨v3.2.2.2,v3.2.2.2,v3.2.1,v3.1,[],[]⟩ : zLm) else if isN 3 1 then za v1 (⟨v3.2.2.2,v3.2.2.2,v3.2.1,v3.2.1,[],[]⟩ : zLm) else if isN 3 2 then za v1 (⟨v3.2.2.2,v3.2.2.2,v3.2.1,v3.2.2.1,[],[]⟩ : zLm) else if isN 3 3 then za v1 (⟨v3.2.2.2,v3.2.2.2,v3.2.1,v3.2.2.2,[],[]⟩ : zLm) else none else if isN 2 2 then if isN 3 0 then za v1 (⟨v3.2.2.2,v3.2.2.2,v3.2.2.1,v3.1,[],[]⟩ : zLm) else if isN 3 1 then za v1 (⟨v3.2.2.2,v3.2.2.2,v3.2.2.1,v3.2.1,[],[]⟩ : zLm) else if isN 3 2 then za v1 (⟨v3.2.2.2,v3.2.2.2,v3.2.2.1,v3.2.2.1,[],[]⟩ : zLm) else if isN 3 3 then za v1 (⟨v3.2.2.2,v3.2.2.2,v3.2.2.1,v3.2.2.2,[],[]⟩ : zLm) else none else if isN 2 3 then if isN 3 0 then za v1 (⟨v3.2.2.2,v3.2.2.2,v3.2.2.2,v3.1,[],[]⟩ : zLm) else if isN 3 1 then za v1 (⟨v3.2.2.2,v3.2.2.2,v3.2.2.2,v3.2.1,[],[]⟩ : zLm) else if isN 3 2 then za v1 (⟨v3.2.2.2,v3.2.2.2,v3.2.2.2,v3.2.2.1,[],[]⟩ : zLm) else if isN 3 3 then za v1 (⟨v3.2.2.2,v3.2.2.2,v3.2.2.2,v3.2.2.2,[],[]⟩ : zLm) else none else none else none else none
def zrA (x_a0 : zLm) : Option zLm := ze x_a0 fuel (x_a0.Client,x_a0.Host,x_a0.Scheme,x_a0.By) 0
def zlT (k0 : List zLK → Int → Option (List zLK)) (l0 : List zLK) (l3 : List zLK) (i4 : Int) (t12 : Bool) : Option (List zLK) := if t12 then (lAt l0 i4).bind fun r1 => (lAt l0 i4).bind fun r2 => (sTo r1.From (min (r2.From.length : Int) 60)).bind fun r3 => (lAt l0 i4).bind fun r4 => (lAt l0 i4).bind fun r5 => (sTo r4.To (min (r5.To.length : Int) 60)).bind fun r6 => if zl l3.length ([(⟨r3,r6⟩ : zLK)] : List zLK).length 32 then (zj i4 1).bind fun r7 => k0 (l3 ++ [(⟨r3,r6⟩ : zLK)]) r7 else none else some l3
def zfL (l0 : List zLK) : Nat → List zLK → Int → Option (List zLK)
 | 0,_,_ => none
 | n + 1,l3,i4 => if (decide (i4 < (l0.length : Int))) then zlT (zfL l0 n) l0 l3 i4 (decide (i4 < 70)) else zlT (zfL l0 n) l0 l3 i4 false
def znR (x_l : List zLK) : Option (List zLK) := zfL x_l fuel [] 0
def zrB (x_env : zLm) : Option zLm := (zrA x_env).bind fun r1 => (znR x_env.Domains).bind fun r2 => (znR x_env.Locations).bind fun r3 => some (⟨r1.Client,r1.Host,r1.Scheme,r1.By,r2,r3⟩ : zLm)
def zlU (k0 : List zLD → Int → Option (List zLD)) (l0 : List zLD) (l3 : List zLD) (i4 : Int) (t12 : Bool) : Option (List zLD) := if t12 then (lAt l0 i4).bind fun r1 => (lAt l0 i4).bind fun r2 => (lAt l0 i4).bind fun r3 => (sTo r2.Text (min (r3.Text.length : Int) 60)).bind fun r4 => if zl l3.length ([(⟨r1.Kind,r4⟩ : zLD)] : List zLD).length 24 then (zj i4 1).bind fun r5 => k0 (l3 ++ [(⟨r1.Kind,r4⟩ : zLD)]) r5 else none else some l3
def zfM (l0 : List zLD) : Nat → List zLD → Int → Option (List zLD)
 | 0,_,_ => none
 | n + 1,l3,i4 => if (decide (i4 < (l0.length : Int))) then zlU (zfM l0 n) l0 l3 i4 (decide (i4 < 40)) else zlU (zfM l0 n) l0 l3 i4 false
def znS (x_l : List zLD) : Option (List zLD) := zfM x_l fuel [] 0
def zi (k0 : (Str × Str × Str × Str) → Int → Option zLr) (v3 : Str × Str × Str × Str) (i4 : Int) : Option zLr := (zj i4 1).bind fun r1 => k0 v3 r1
def zfN (v1 : zLr) : Option zLr := (znS v1.Parts).bind fun r1 => some (⟨v1.Side,v1.Guard,v1.Kind,v1.Name,v1.To,r1⟩ : zLr)
def zjh (v1 : zLr) (v3 : Str × Str × Str × Str) : Option zLr := if isN 3 0 then zfN (⟨v1.Side,(⟨v1.Guard.Kind,v1.Guard.Name,v3.1⟩ : zMc),v1.Kind,v1.Name,v1.To,v1.Parts⟩ : zLr) else if isN 3 1 then zfN (⟨v1.Side,(⟨v1.Guard.Kind,v1.Guard.Name,v3.2.1⟩ : zMc),v1.Kind,v1.Name,v1.To,v1.Parts⟩ : zLr) else if isN 3 2 then zfN (⟨v1.Side,(⟨v1.Guard.Kind,v1.Guard.Name,v3.2.2.1⟩ : zMc),v1.Kind,v1.Name,v1.To,v1.Parts⟩ : zLr) else if isN 3 3 then zfN (⟨v1.Side,(⟨v1.Guard.Kind,v1.Guard.Name,v3.2.2.2⟩ : zMc),v1.Kind,v1.Name,v1.To,v1.Parts⟩ : zLr) else none
def zji (v1 : zLr) (v3 : Str × Str × Str × Str) : Option zLr := if isN 2 0 then zjh (⟨v1.Side,(⟨v1.Guard.Kind,v3.1,v1.Guard.Value⟩ : zMc),v1.Kind,v1.Name,v1.To,v1.Parts⟩ : zLr) v3 else if isN 2 1 then zjh (⟨v1.Side,(⟨v1.Guard.Kind,v3.2.1,v1.Guard.Value⟩ : zMc),v1.Kind,v1.Name,v1.To,v1.Parts⟩ : zLr) v3 else if isN 2 2 then zjh (⟨v1.Side,(⟨v1.Guard.Kind,v3.2.2.1,v1.Guard.Value⟩ : zMc),v1.Kind,v1.Name,v1.To,v1.Parts⟩ : zLr) v3 else if isN 2 3 then zjh (⟨v1.Side,(⟨v1.Guard.Kind,v3.2.2.2,v1.Guard.Value⟩ : zMc),v1.Kind,v1.Name,v1.To,v1.Parts⟩ : zLr) v3 else none
def zjj (v1 : zLr) (v3 : Str × Str × Str × Str) : Option zLr := if isN 1 0 then zji (⟨v1.Side,v1.Guard,v1.Kind,v1.Name,v3.1,v1.Parts⟩ : zLr) v3 else if isN 1 1 then zji (⟨v1.Side,v1.Guard,v1.Kind,v1.Name,v3.2.1,v1.Parts⟩ : zLr) v3 else if isN 1 2 then zji (⟨v1.Side,v1.Guard,v1.Kind,v1.Name,v3.2.2.1,v1.Parts⟩ : zLr) v3 else if isN 1 3 then zji (⟨v1.Side,v1.Guard,v1.Kind,v1.Name,v3.2.2.2,v1.Parts⟩ : zLr) v3 else none
def zf (v1 : zLr) : Nat → (Str × Str × Str × Str) → Int → Option zLr
 | 0,_,_ => none
 | n + 1,v3,i4 => if (decide (i4 < 4)) then if isN i4 0 then if isN i4 0 then (sTo v3.1 (min (v3.1.length : Int) 60)).bind fun r16 => if isN i4 0 then zi (zf v1 n) (r16,v3.2.1,v3.2.2.1,v3.2.2.2) i4 else if isN i4 1 then zi (zf v1 n) (v3.1,r16,v3.2.2.1,v3.2.2.2) i4 else if isN i4 2 then zi (zf v1 n) (v3.1,v3.2.1,r16,v3.2.2.2) i4 else if isN i4 3 then zi (zf v1 n) (v3.1,v3.2.1,v3.2.2.1,r16) i4 else none else if isN i4 1 then (sTo v3.1 (min (v3.2.1.length : Int) 60)).bind fun r15 => if isN i4 0 then zi (zf v1 n) (r15,v3.2.1,v3.2.2.1,v3.2.2.2) i4 else if isN i4 1 then zi (zf v1 n) (v3.1,r15,v3.2.2.1,v3.2.2.2) i4 else if isN i4 2 then zi (zf v1 n) (v3.1,v3.2.1,r15,v3.2.2.2) i4 else if isN i4 3 then zi (zf v1 n) (v3.1,v3.2.1,v3.2.2.1,r15) i4 else none else if isN i4 2 then (sTo v3.1 (min (v3.2.2.1.length : Int) 60)).bind fun r14 => if isN i4 0 then zi (zf v1 n) (r14,v3.2.1,v3.2.2.1,v3.2.2.2) i4 else if isN i4 1 then zi (zf v1 n) (v3.1,r14,v3.2.2.1,v3.2.2.2) i4 else if isN i4 2 then zi (zf v1 n) (v3.1,v3.2.1,r14,v3.2.2.2) i4 else if isN i4 3 then zi (zf v1 n) (v3.1,v3.2.1,v3.2.2.1,r14) i4 else none else if isN i4 3 then (sTo v3.1 (min (v3.2.2.2.length : Int) 60)).bind fun r13 => if isN i4 0 then zi (zf v1 n) (r13,v3.2.1,v3.2.2.1,v3.2.2.2) i4 else if isN i4 1 then zi (zf v1 n) (v3.1,r13,v3.2.2.1,v3.2.2.2) i4 else if isN i4 2 then zi (zf v1 n) (v3.1,v3.2.1,r13,v3.2.2.2) i4 else if isN i4 3 then zi (zf v1 n) (v3.1,v3.2.1,v3.2.2.1,r13) i4 else none else none else if isN i4 1 then if isN i4 0 then (sTo v3.2.1 (min (v3.1.length : Int) 60)).bind fun r12 => if isN i4 0 then zi (zf v1 n) (r12,v3.2.1,v3.2.2.1,v3.2.2.2) i4 else if isN i4 1 then zi (zf v1 n) (v3.1,r12,v3.2.2.1,v3.2.2.2) i4 else if isN i4 2 then zi (zf v1 n) (v3.1,v3.2.1,r12,v3.2.2.2) i4 else if isN i4 3 then zi (zf v1 n) (v3.1,v3.2.1,v3.2.2.1,r12) i4 else none else if isN i4 1 then (sTo v3.2.1 (min (v3.2.1.length : Int) 60)).bind fun r11 => if isN i4 0 then zi (zf v1 n) (r11,v3.2.1,v3.2.2.1,v3.2.2.2) i4 else if isN i4 1 then zi (zf v1 n) (v3.1,r11,v3.2.2.1,v3.2.2.2) i4 else if isN i4 2 then zi (zf v1 n) (v3.1,v3.2.1,r11,v3.2.2.2) i4 else if isN i4 3 then zi (zf v1 n) (v3.1,v3.2.1,v3.2.2.1,r11) i4 else none else if isN i4 2 then (sTo v3.2.1 (min (v3.2.2.1.length : Int) 60)).bind fun r10 => if isN i4 0 then zi (zf v1 n) (r10,v3.2.1,v3.2.2.1,v3.2.2.2) i4 else if isN i4 1 then zi (zf v1 n) (v3.1,r10,v3.2.2.1,v3.2.2.2) i4 else if isN i4 2 then zi (zf v1 n) (v3.1,v3.2.1,r10,v3.2.2.2) i4 else if isN i4 3 then zi (zf v1 n) (v3.1,v3.2.1,v3.2.2.1,r10) i4 else none else if isN i4 3 then (sTo v3.2.1 (min (v3.2.2.2.length : Int) 60)).bind fun r9 => if isN i4 0 then zi (zf v1 n) (r9,v3.2.1,v3.2.2.1,v3.2.2.2) i4 else if isN i4 1 then zi (zf v1 n) (v3.1,r9,v3.2.2.1,v3.2.2.2) i4 else if isN i4 2 then zi (zf v1 n) (v3.1,v3.2.1,r9,v3.2.2.2) i4 else if isN i4 3 then zi (zf v1 n) (v3.1,v3.2.1,v3.2.2.1,r9) i4 else none else none else if isN i4 2 then if isN i4 0 then (sTo v3.2.2.1 (min (v3.1.length : Int) 60)).bind fun r8 => if isN i4 0 then zi (zf v1 n) (r8,v3.2.1,v3.2.2.1,v3.2.2.2) i4 else if isN i4 1 then zi (zf v1 n) (v3.1,r8,v3.2.2.1,v3.2.2.2) i4 else if isN i4 2 then zi (zf v1 n) (v3.1,v3.2.1,r8,v3.2.2.2) i4 else if isN i4 3 then zi (zf v1 n) (v3.1,v3.2.1,v3.2.2.1,r8) i4 else none else if isN i4 1 then (sTo v3.2.2.1 (min (v3.2.1.length : Int) 60)).bind fun r7 => if isN i4 0 then zi (zf v1 n) (r7,v3.2.1,v3.2.2.1,v3.2.2.2) i4 else if isN i4 1 then zi (zf v1 n) (v3.1,r7,v3.2.2.1,v3.2.2.2) i4 else if isN i4 2 then zi (zf v1 n) (v3.1,v3.2.1,r7,v3.2.2.2) i4 else if isN i4 3 then zi (zf v1 n) (v3.1,v3.2.1,v3.2.2.1,r7) i4 else none else if isN i4 2 then (sTo v3.2.2.1 (min (v3.2.2.1.length : Int) 60)).bind fun r6 => if isN i4 0 then zi (zf v1 n) (r6,v3.2.1,v3.2.2.1,v3.2.2.2) i4 else if isN i4 1 then zi (zf v1 n) (v3.1,r6,v3.2.2.1,v3.2.2.2) i4 else if isN i4 2 then zi (zf v1 n) (v3.1,v3.2.1,r6,v3.2.2.2) i4 else if isN i4 3 then zi (zf v1 n) (v3.1,v3.2.1,v3.2.2.1,r6) i4 else none else if isN i4 3 then (sTo v3.2.2.1 (min (v3.2.2.2.length : Int) 60)).bind fun r5 => if isN i4 0 then zi (zf v1 n) (r5,v3.2.1,v3.2.2.1,v3.2.2.2) i4 else if isN i4 1 then zi (zf v1 n) (v3.1,r5,v3.2.2.1,v3.2.2.2) i4 else if isN i4 2 then zi (zf v1 n) (v3.1,v3.2.1,r5,v3.2.2.2) i4 else if isN i4 3 then zi (zf v1 n) (v3.1,v3.2.1,v3.2.2.1,r5) i4 else none else none else if isN i4 3 then if isN i4 0 then (sTo v3.2.2.2 (min (v3.1.length : Int) 60)).bind fun r4 => if isN i4 0 then zi (zf v1 n) (r4,v3.2.1,v3.2.2.1,v3.2.2.2) i4 else if isN i4 1 then zi (zf v1 n) (v3.1,r4,v3.2.2.1,v3.2.2.2) i4 else if isN i4 2 then zi (zf v1 n) (v3.1,v3.2.1,r4,v3.2.2.2) i4 else if isN i4 3 then zi (zf v1 n) (v3.1,v3.2.1,v3.2.2.1,r4) i4 else none else if isN i4 1 then (sTo v3.2.2.2 (min (v3.2.1.length : Int) 60)).bind fun r3 => if isN i4 0 then zi (zf v1 n) (r3,v3.2.1,v3.2.2.1,v3.2.2.2) i4 else if isN i4 1 then zi (zf v1 n) (v3.1,r3,v3.2.2.1,v3.2.2.2) i4 else if isN i4 2 then zi (zf v1 n) (v3.1,v3.2.1,r3,v3.2.2.2) i4 else if isN i4 3 then zi (zf v1 n) (v3.1,v3.2.1,v3.2.2.1,r3) i4 else none else if isN i4 2 then (sTo v3.2.2.2 (min (v3.2.2.1.length : Int) 60)).bind fun r2 => if isN i4 0 then zi (zf v1 n) (r2,v3.2.1,v3.2.2.1,v3.2.2.2) i4 else if isN i4 1 then zi (zf v1 n) (v3.1,r2,v3.2.2.1,v3.2.2.2) i4 else if isN i4 2 then zi (zf v1 n) (v3.1,v3.2.1,r2,v3.2.2.2) i4 else if isN i4 3 then zi (zf v1 n) (v3.1,v3.2.1,v3.2.2.1,r2) i4 else none else if isN i4 3 then (sTo v3.2.2.2 (min (v3.2.2.2.length : Int) 60)).bind fun r1 => if isN i4 0 then zi (zf v1 n) (r1,v3.2.1,v3.2.2.1,v3.2.2.2) i4 else if isN i4 1 then zi (zf v1 n) (v3.1,r1,v3.2.2.1,v3.2.2.2) i4 else if isN i4 2 then zi (zf v1 n) (v3.1,v3.2.1,r1,v3.2.2.2) i4 else if isN i4 3 then zi (zf v1 n) (v3.1,v3.2.1,v3.2.2.1,r1) i4 else none else none else none else if isN 0 0 then zjj (⟨v1.Side,v1.Guard,v1.Kind,v3.1,v1.To,v1.Parts⟩ : zLr) v3 else if isN 0 1 then zjj (⟨v1.Side,v1.Guard,v1.Kind,v3.2.1,v1.To,v1.Parts⟩ : zLr) v3 else if isN 0 2 then zjj (⟨v1.Side,v1.Guard,v1.Kind,v3.2.2.1,v1.To,v1.Parts⟩ : zLr) v3 else if isN 0 3 then zjj (⟨v1.Side,v1.Guard,v1.Kind,v3.2.2.2,v1.To,v1.Parts⟩ : zLr) v3 else none
def zrC (x_r : zLr) : Option zLr := zf x_r fuel (x_r.Name,x_r.To,x_r.Guard.Name,x_r.Guard.Value) 0
def zlV (k0 : List zLr → Int → Option (List zLr)) (l0 : List zLr) (l3 : List zLr) (i4 : Int) (t12 : Bool) : Option (List zLr) := if t12 then (lAt l0 i4).bind fun r1 => (zrC r1).bind fun r2 => if zl l3.length ([r2] : List zLr).length 112 then (zj i4 1).bind fun r3 => k0 (l3 ++ [r2]) r3 else none else some l3
def zfO (l0 : List zLr) : Nat → List zLr → Int → Option (List zLr)
 | 0,_,_ => none
 | n + 1,l3,i4 => if (decide (i4 < (l0.length : Int))) then zlV (zfO l0 n) l0 l3 i4 (decide (i4 < 70)) else zlV (zfO l0 n) l0 l3 i4 false
def zrD (x_l : List zLr) : Option (List zLr) := zfO x_l fuel [] 0
def zjk : Nat → List zLr → Int → Option (List zLr)
 | 0,_,_ => none
 | n + 1,l3,i4 => if (decide (i4 < (l3.length : Int))) then (lAt l3 i4).bind fun r1 => (lAt l3 i4).bind fun r2 => (lTo r1.Parts (min (r2.Parts.length : Int) 4)).bind fun r3 => (lAt l3 i4).bind fun r4 => (zv1 l3 i4 (⟨r4.Side,r4.Guard,r4.Kind,r4.Name,r4.To,r3⟩ : zLr)).bind fun r5 => (zj i4 1).bind fun r6 => zjk n r5 r6 else some l3
def zrE (x_l : List zLr) : Option (List zLr) := (zrD x_l).bind fun r1 => zjk fuel r1 0
def znT (x_s : zMn) : Option zMn := (zrB x_s.Env).bind fun r1 => (zrE x_s.Rules).bind fun r2 => (sTo x_s.Client (min (x_s.Client.length : Int) 3000)).bind fun r3 => (sTo x_s.Upstream (min (x_s.Upstream.length : Int) 3000)).bind fun r4 => (lTo x_s.Events (min (x_s.Events.length : Int) 150)).bind fun r5 => some (⟨r1,x_s.Caps,r2,r3,r4,x_s.ClientEnds,x_s.UpstreamEnds,r5⟩ : zMn)
def zoC (x_e : zMH) : Option (Int × Int) := some (0,5)
def zmi : Option (Int × Int) := some (0,0)
def zkg : Option Int := some 0
def zkh : Option zMu := some (⟨[],[],0,0,(⟨0,0⟩ : zME),false⟩ : zMu)
def zbf (x_sep : Str) (x_l : List Str) : Option Str := (strings_Join x_l x_sep).bind fun r1 => some r1
def zgm (x_s : Str) : Option zLs := some (⟨x_s,0⟩ : zLs)
def zbD (x_b : UInt8) : Option UInt8 := if (decide (65 ≤ x_b)) then if (decide (x_b ≤ 90)) then some (x_b + 32) else some x_b else some x_b
def zcF (x_b : UInt8) : Option Bool := (zbD x_b).bind fun r1 => if (decide (97 ≤ r1)) then (zbD x_b).bind fun r2 => some (decide (r2 ≤ 122)) else some false
def zaI (x_b : UInt8) : Option Bool := if (decide (48 ≤ x_b)) then some (decide (x_b ≤ 57)) else some false
def zki (x_b : UInt8) (x_l : Str) : Option Bool := (strings_IndexByte x_l x_b).bind fun r1 => some (decide ((0 : Int) ≤ r1))
def zeW (x_b : UInt8) : Option Bool := (zcF x_b).bind fun r1 => if r1 then some true else (zaI x_b).bind fun r2 => if r2 then some true else (zki x_b [33,35,36,37,38,39,42,43,45,46,94,95,96,124,126]).bind fun r3 => some r3
def zca (x_c : zLs) : Option Int := some x_c.zL8
def zal (x_c : zLs) : Option Str := (zY x_c.zMz x_c.zL8).bind fun r1 => some r1
def zai (x_c : zLs) : Option Bool := (zal x_c).bind fun r1 => some (r1 == [])
def zam (x_c : zLs) : Option (UInt8 × Bool) := (zai x_c).bind fun r1 => if r1 then some (0,false) else (sAt x_c.zMz x_c.zL8).bind fun r2 => some (r2,true)
def zbE (f1 : (UInt8 → Option Bool)) (i5 : Int) : Nat → zLs → Option (Str × zLs)
 | 0,_ => none
 | n + 1,vp0 => (zam vp0).bind fun r1 => if (!r1.2) then (zuJ vp0.zMz i5 vp0.zL8).bind fun r2 => some (r2,vp0) else (f1 r1.1).bind fun r3 => if (!r3) then (zuJ vp0.zMz i5 vp0.zL8).bind fun r4 => some (r4,vp0) else (zj vp0.zL8 1).bind fun r5 => zbE f1 i5 n (⟨vp0.zMz,r5⟩ : zLs)
def zH (x_c : zLs) (x_is : (UInt8 → Option Bool)) : Option (Str × zLs) := (zca x_c).bind fun r1 => zbE x_is r1 fuel x_c
def zM (x_c : zLs) : Option (Str × Bool × zLs) := (zH x_c zeW).bind fun r1 => some (r1.1, !(r1.1 == []),r1.2)
def zk (x_c : zLs) (x_b : UInt8) : Option (Bool × zLs) := (zam x_c).bind fun r1 => if (!r1.2) then some (false,x_c) else if (!(r1.1 == x_b)) then some (false,x_c) else (zj x_c.zL8 1).bind fun r2 => some (true,(⟨x_c.zMz,r2⟩ : zLs))
def zcG (vp1 : zL5) (vp32 : zLs) (t6 : Bool) : Option (Bool × zL5 × zLs) := some (t6,vp1,vp32)
def zcH (vp1 : zL5) (v2 : zMt) (s5 : Str) (t6 : Bool) (t22 : Bool) : Option (Bool × zL5 × zLs) := if t22 then (zM v2.Scanner).bind fun r1 => zcG (⟨s5,r1.1,vp1.By,vp1.Comment⟩ : zL5) r1.2.2 r1.2.1 else zcG vp1 v2.Scanner t6
def zed (x_r : zMt) (x_v : zL5) : Option (Bool × zL5 × zLs) := (zM x_r.Scanner).bind fun r1 => if r1.2.1 then (zk r1.2.2 47).bind fun r2 => zcH (⟨x_v.Proto,r1.1,x_v.By,x_v.Comment⟩ : zL5) (⟨r2.2⟩ : zMt) r1.1 r1.2.1 r2.1 else zcH (⟨x_v.Proto,r1.1,x_v.By,x_v.Comment⟩ : zL5) (⟨r1.2.2⟩ : zMt) r1.1 r1.2.1 false
def zes (x_b : UInt8) : Option Bool := some (!(x_b == 32))
def zjl (k0 : Int → Option Bool) (f0 : (UInt8 → Option Bool)) (s6 : Str) (i10 : Int) (i15 : Int) : Nat → Int → Option Bool
 | 0,_ => none
 | n + 1,i16 => if (decide (i16 < i15)) then (sAt s6 i16).bind fun r1 => (f0 r1).bind fun r2 => if (!r2) then some false else (zj i16 1).bind fun r3 => zjl k0 f0 s6 i10 i15 n r3 else (zj i10 1).bind fun r4 => k0 r4
def zhq (f0 : (UInt8 → Option Bool)) (l8 : List Str) (i9 : Int) : Nat → Int → Option Bool
 | 0,_ => none
 | n + 1,i10 => if (decide (i10 < i9)) then (lAt l8 i10).bind fun r1 => zjl (zhq f0 l8 i9 n) f0 r1 i10 (r1.length : Int) fuel 0 else some true
def zbF (x_is : (UInt8 → Option Bool)) (x_l : List Str) : Option Bool := zhq x_is x_l (x_l.length : Int) fuel 0
def zku (x_b : UInt8) : Option Int := (zaI x_b).bind fun r1 => if r1 then some ((x_b - 48).toNat : Int) else (zbD x_b).bind fun r2 => (zj ((r2 - 97).toNat : Int) 10).bind fun r3 => some r3
def zgn (s0 : Str) (i1 : Int) (i2 : Int) (i23 : Int) : Nat → Int → Int → Option (Int × Int)
 | 0,_,_ => none
 | n + 1,i10,i24 => if (decide (i24 < i23)) then (sAt s0 i24).bind fun r1 => (zku r1).bind fun r2 => if (decide (i2 < r2)) then some (0,7) else (zey i2 r2).bind fun r3 => (iDiv r3 i1).bind fun r4 => if (decide (r4 < i10)) then some (0,7) else (iMul i10 i1).bind fun r5 => (zj r5 r2).bind fun r6 => (zj i24 1).bind fun r7 => zgn s0 i1 i2 i23 n r6 r7 else some (i10,0)
def zjm (x_s : Str) (x_base : Int) (x_most : Int) (x_is : (UInt8 → Option Bool)) : Option (Int × Int) := if (x_s == []) then some (0,2) else (zbF x_is [x_s]).bind fun r1 => if (!r1) then some (0,2) else zgn x_s x_base x_most (x_s.length : Int) fuel 0 0
def zdl (x_s : Str) (x_most : Int) : Option (Int × Int) := (zjm x_s 10 x_most zaI).bind fun r1 => some (r1.1,r1.2)
def zjn (x_n : Int) (x_base : Int) : Option Str := if (decide (x_n < 0)) then some [] else (zb0 x_n x_base).bind fun r1 => some r1
def zcI (x_n : Int) : Option Str := (zjn x_n 10).bind fun r1 => some r1
def zcS (x_s : Str) (x_most : Int) : Option Bool := (zdl x_s x_most).bind fun r1 => if (r1.2 == 0) then (zcI r1.1).bind fun r2 => some (r2 == x_s) else some false
def za9 (s : Str) : Option Bool := if s.length < 1000000000 then ((zS 46 s).mapM (fun x => zcS x 255)).bind fun bs => some (bs.all id && decide ((bs.length : Int) = 4)) else none
def zcT (x_b : UInt8) : Option Bool := (zaI x_b).bind fun r1 => if r1 then some true else (zbD x_b).bind fun r2 => if (decide (97 ≤ r2)) then (zbD x_b).bind fun r3 => some (decide (r3 ≤ 102)) else some false
def zdW (k0 : Int → Int → Option Int) (i6 : Int) (i15 : Int) (t35 : Bool) : Option Int := if t35 then (zj i6 1).bind fun r1 => (zj i15 1).bind fun r2 => k0 r1 r2 else some (-1)
def zdX (k0 : Int → Int → Option Int) (i6 : Int) (s8 : Str) (i15 : Int) (t20 : Bool) : Option Int := if t20 then (zj i6 2).bind fun r1 => (zj i15 1).bind fun r2 => k0 r1 r2 else if (decide ((1 : Int) ≤ (s8.length : Int))) then if (decide ((s8.length : Int) ≤ 4)) then (zbF zcT [s8]).bind fun r3 => zdW k0 i6 i15 r3 else zdW k0 i6 i15 false else zdW k0 i6 i15 false
def zav (t1 : Bool) (l5 : List Str) (i14 : Int) : Nat → Int → Int → Option Int
 | 0,_,_ => none
 | n + 1,i6,i15 => if (decide (i15 < i14)) then (lAt l5 i15).bind fun r1 => if t1 then (zey (l5.length : Int) 1).bind fun r2 => if (i15 == r2) then (za9 r1).bind fun r3 => zdX (zav t1 l5 i14 n) i6 r1 i15 r3 else zdX (zav t1 l5 i14 n) i6 r1 i15 false else zdX (zav t1 l5 i14 n) i6 r1 i15 false else some i6
def zet (x_s : Str) (x_last : Bool) : Option Int := if (x_s == []) then some 0 else (strings_Split x_s [58]).bind fun r1 => zav x_last r1 (r1.length : Int) fuel 0 0
def zhr (x_s : Str) : Option Bool := (strings_Cut x_s [58,58]).bind fun r1 => if (!r1.2.2) then (zet x_s true).bind fun r2 => some (r2 == 8) else (zet r1.1 false).bind fun r3 => (zet r1.2.1 true).bind fun r4 => if (decide ((0 : Int) ≤ r3)) then if (decide ((0 : Int) ≤ r4)) then (zj r3 r4).bind fun r5 => some (decide (r5 ≤ 7)) else some false else some false
def zhs (x_s : Str) : Option Bool := if (decide ((3 : Int) ≤ (x_s.length : Int))) then (sAt x_s 0).bind fun r1 => if (r1 == 37) then (zuJ x_s 1 3).bind fun r2 => (zbF zcT [r2]).bind fun r3 => some r3 else some false else some false
def zbv (x_b : UInt8) : Option Bool := (zcF x_b).bind fun r1 => if r1 then some true else (zaI x_b).bind fun r2 => if r2 then some true else (zki x_b [45,46,95,126]).bind fun r3 => some r3
def zgZ (x_b : UInt8) : Option Bool := (zki x_b [33,36,38,39,40,41,42,43,44,59,61]).bind fun r1 => some r1
def zcu : Nat → Str → Option Bool
 | 0,_ => none
 | n + 1,s0 => if (!(s0 == [])) then (zhs s0).bind fun r1 => if r1 then (zY s0 3).bind fun r2 => zcu n r2 else (sAt s0 0).bind fun r3 => (zbv r3).bind fun r4 => if r4 then (zY s0 1).bind fun r5 => zcu n r5 else (sAt s0 0).bind fun r6 => (zgZ r6).bind fun r7 => if r7 then (zY s0 1).bind fun r8 => zcu n r8 else some false else some true
def zeX (x_s : Str) : Option Bool := if (x_s == []) then some false else zcu fuel x_s
def zfp (s0 : Str) (v4 : zL9) (t7 : Bool) : Option (zL9 × Bool) := if t7 then (zey (s0.length : Int) 1).bind fun r1 => (zuJ s0 1 r1).bind fun r2 => some ((⟨3,r2,v4.Port⟩ : zL9), !((3 : Int) == 0)) else (za9 s0).bind fun r3 => if r3 then some ((⟨2,v4.Name,v4.Port⟩ : zL9), !((2 : Int) == 0)) else (zeX s0).bind fun r4 => if r4 then some ((⟨1,v4.Name,v4.Port⟩ : zL9), !((1 : Int) == 0)) else some (v4, !(v4.Kind == 0))
def zk0 (x_s : Str) : Option (zL9 × Bool) := if (decide ((2 : Int) < (x_s.length : Int))) then (sAt x_s 0).bind fun r1 => if (r1 == 91) then (zey (x_s.length : Int) 1).bind fun r2 => (sAt x_s r2).bind fun r3 => if (r3 == 93) then (zey (x_s.length : Int) 1).bind fun r4 => (zuJ x_s 1 r4).bind fun r5 => (zhr r5).bind fun r6 => zfp x_s (⟨0,x_s,(-1)⟩ : zL9) r6 else zfp x_s (⟨0,x_s,(-1)⟩ : zL9) false else zfp x_s (⟨0,x_s,(-1)⟩ : zL9) false else zfp x_s (⟨0,x_s,(-1)⟩ : zL9) false
def zaj (s0 : Str) (b1 : UInt8) : Nat → Int → Option Int
 | 0,_ => none
 | n + 1,i5 => if (decide ((0 : Int) ≤ i5)) then (sAt s0 i5).bind fun r1 => if (r1 == b1) then some i5 else (zey i5 1).bind fun r2 => zaj s0 b1 n r2 else some (-1)
def zbI (x_s : Str) (x_c : UInt8) : Option Int := (zey (x_s.length : Int) 1).bind fun r1 => zaj x_s x_c fuel r1
def zcm (x_s : Str) (x_c : UInt8) : Option Int := (zbI x_s x_c).bind fun r1 => some r1
def zbN (x_s : Str) : Option (zL9 × Int) := (zk0 x_s).bind fun r1 => if r1.2 then some (r1.1,0) else (zcm x_s 58).bind fun r2 => if (decide (r2 < 0)) then some ((⟨0,[],0⟩ : zL9),27) else (sTo x_s r2).bind fun r3 => (zk0 r3).bind fun r4 => if (!r4.2) then some ((⟨0,[],0⟩ : zL9),27) else (zj r2 1).bind fun r5 => (zY x_s r5).bind fun r6 => (zcS r6 65535).bind fun r7 => if (!r7) then some ((⟨0,[],0⟩ : zL9),27) else (zj r2 1).bind fun r8 => (zY x_s r8).bind fun r9 => (zdl r9 65535).bind fun r10 => some ((⟨r4.1.Kind,r4.1.Name,r10.1⟩ : zL9),0)
def zdK (x_s : Str) : Option Bool := if (!(x_s == [])) then (zbF zeW [x_s]).bind fun r1 => some r1 else some false
def strings_ContainsAny (x_s : Str) (x_chars : Str) : Option Bool := (strings_IndexAny x_s x_chars).bind fun r1 => some (decide ((0 : Int) ≤ r1))
def zdY (vp1 : zL5) (vp32 : zLs) (t4 : Bool) : Option (Bool × zL5 × zLs) := some (t4,vp1,vp32)
def zii (x_r : zMt) (x_v : zL5) : Option (Bool × zL5 × zLs) := (zH x_r.Scanner zes).bind fun r1 => (zbN r1.1).bind fun r2 => (zdK r1.1).bind fun r3 => if r3 then zdY (⟨x_v.Proto,x_v.Version,r1.1,x_v.Comment⟩ : zL5) r1.2 true else if (r2.2 == 0) then (strings_ContainsAny r1.1 [44,40,41]).bind fun r4 => zdY (⟨x_v.Proto,x_v.Version,r1.1,x_v.Comment⟩ : zL5) r1.2 (!r4) else zdY (⟨x_v.Proto,x_v.Version,r1.1,x_v.Comment⟩ : zL5) r1.2 false
def stringslite_HasPrefix (x_s : Str) (x_prefix : Str) : Option Bool := if (decide ((x_prefix.length : Int) ≤ (x_s.length : Int))) then (sTo x_s (x_prefix.length : Int)).bind fun r1 => some (r1 == x_prefix) else some false
def stringslite_CutPrefix (x_s : Str) (x_prefix : Str) : Option (Str × Bool) := (stringslite_HasPrefix x_s x_prefix).bind fun r1 => if (!r1) then some (x_s,false) else (zY x_s (x_prefix.length : Int)).bind fun r2 => some (r2,true)
def strings_CutPrefix (x_s : Str) (x_prefix : Str) : Option (Str × Bool) := (stringslite_CutPrefix x_s x_prefix).bind fun r1 => some (r1.1,r1.2)
def stringslite_HasSuffix (x_s : Str) (x_suffix : Str) : Option Bool := if (decide ((x_suffix.length : Int) ≤ (x_s.length : Int))) then (zey (x_s.length : Int) (x_suffix.length : Int)).bind fun r1 => (zY x_s r1).bind fun r2 => some (r2 == x_suffix) else some false
def stringslite_CutSuffix (x_s : Str) (x_suffix : Str) : Option (Str × Bool) := (stringslite_HasSuffix x_s x_suffix).bind fun r1 => if (!r1) then some (x_s,false) else (zey (x_s.length : Int) (x_suffix.length : Int)).bind fun r2 => (sTo x_s r2).bind fun r3 => some (r3,true)
def strings_CutSuffix (x_s : Str) (x_suffix : Str) : Option (Str × Bool) := (stringslite_CutSuffix x_s x_suffix).bind fun r1 => some (r1.1,r1.2)
def zdm (x_b : UInt8) : Option Bool := if (decide (32 < x_b)) then some (decide (x_b < 127)) else some false
def zeY (x_b : UInt8) : Option Bool := if (x_b == 32) then some true else some (x_b == 9)
def zan (x_b : UInt8) : Option Bool := (zdm x_b).bind fun r1 => if r1 then some true else (zeY x_b).bind fun r2 => if r2 then some true else some (decide (127 < x_b))
def zeu (k0 : Int → Int → Option Bool) (s0 : Str) (i3 : Int) (i4 : Int) : Option Bool := if (decide (i3 < 0)) then some false else if (decide ((s0.length : Int) ≤ i4)) then some false else (zj i4 1).bind fun r1 => k0 i3 r1
def zbq (s0 : Str) : Nat → Int → Int → Option Bool
 | 0,_,_ => none
 | n + 1,i3,i4 => if (decide (i4 < (s0.length : Int))) then (sAt s0 i4).bind fun r1 => if (r1 == 40) then (zj i3 1).bind fun r2 => zeu (zbq s0 n) s0 r2 i4 else if (r1 == 41) then (zey i3 1).bind fun r3 => zeu (zbq s0 n) s0 r3 i4 else if (r1 == 92) then (zj i4 1).bind fun r4 => zeu (zbq s0 n) s0 i3 r4 else zeu (zbq s0 n) s0 i3 i4 else if (i3 == 0) then (zbF zan [s0]).bind fun r5 => some r5 else some false
def zlW (x_s : Str) : Option Bool := zbq x_s fuel 0 0
def zaS (vp1 : zL5) (vp32 : zLs) (t4 : Bool) : Option (Bool × zL5 × zLs) := some (t4,vp1,vp32)
def zez (x_r : zMt) (x_v : zL5) : Option (Bool × zL5 × zLs) := (zai x_r.Scanner).bind fun r1 => if r1 then some (true,x_v,x_r.Scanner) else (zal x_r.Scanner).bind fun r2 => (strings_CutPrefix r2 [32,40]).bind fun r3 => (strings_CutSuffix r3.1 [41]).bind fun r4 => if r3.2 then if r4.2 then if (!(r4.1 == [])) then (zlW r4.1).bind fun r5 => zaS (⟨x_v.Proto,x_v.Version,x_v.By,r4.1⟩ : zL5) x_r.Scanner r5 else zaS (⟨x_v.Proto,x_v.Version,x_v.By,r4.1⟩ : zL5) x_r.Scanner false else zaS (⟨x_v.Proto,x_v.Version,x_v.By,r4.1⟩ : zL5) x_r.Scanner false else zaS (⟨x_v.Proto,x_v.Version,x_v.By,r4.1⟩ : zL5) x_r.Scanner false
def zrF (x_s : Str) : Option (zL5 × Int) := (zgm x_s).bind fun r1 => (zed (⟨r1⟩ : zMt) (⟨[],[],[],[]⟩ : zL5)).bind fun r2 => if (!r2.1) then some ((⟨[],[],[],[]⟩ : zL5),2) else (zk r2.2.2 32).bind fun r3 => if (!r3.1) then some ((⟨[],[],[],[]⟩ : zL5),2) else (zii (⟨r3.2⟩ : zMt) r2.2.1).bind fun r4 => if (!r4.1) then some ((⟨[],[],[],[]⟩ : zL5),2) else (zez (⟨r4.2.2⟩ : zMt) r4.2.1).bind fun r5 => if (!r5.1) then some ((⟨[],[],[],[]⟩ : zL5),2) else some (r5.2.1,0)
def zmV (v1 : zL5) (l4 : List Str) : Option (Str × Int) := (zbf [] l4).bind fun r1 => (zrF r1).bind fun r2 => if (!(r2.2 == 0)) then some ([],2) else if (!(r2.1 == v1)) then some ([],2) else some (r1,0)
def zmW (v1 : zL5) (l4 : List Str) : Option (Str × Int) := if (!(v1.Comment == [])) then if zl l4.length ([[32,40],v1.Comment,[41]] : List Str).length 16 then zmV v1 (l4 ++ ([[32,40],v1.Comment,[41]])) else none else zmV v1 l4
def zqD (x_v : zL5) : Option (Str × Int) := if (!(x_v.Proto == [])) then if zl ([x_v.Proto,[47]] : List Str).length ([x_v.Version,[32],x_v.By] : List Str).length 16 then zmW x_v (([x_v.Proto,[47]] : List Str) ++ ([x_v.Version,[32],x_v.By])) else none else zmW x_v ([x_v.Version,[32],x_v.By])
def zjo (x_s : Str) : Option Bool := (zeX x_s).bind fun r1 => if r1 then (za9 x_s).bind fun r2 => some (!r2) else some false
def zfq (l0 : List zLK) (l5 : List zLK) (i6 : Int) : Nat → Int → Option Int
 | 0,_ => none
 | n + 1,i7 => if (decide (i7 < i6)) then (lAt l5 i7).bind fun r1 => (zjo r1.From).bind fun r2 => if (!r2) then some 27 else (zjo r1.To).bind fun r3 => if (!r3) then some 27 else (strings_ContainsAny r1.To [44,59]).bind fun r4 => if r4 then some 27 else (zj i7 1).bind fun r5 => zfq l0 l5 i6 n r5 else if (decide ((64 : Int) < (l0.length : Int))) then some 3 else some 0
def zkv (x_l : List zLK) : Option Int := zfq x_l x_l (x_l.length : Int) fuel 0
def zev (x_b : UInt8) : Option Bool := (zcF x_b).bind fun r1 => if r1 then some true else (zaI x_b).bind fun r2 => if r2 then some true else if (x_b == 43) then some true else if (x_b == 45) then some true else some (x_b == 46)
def zkw (x_s : Str) : Option Bool := if (!(x_s == [])) then (sAt x_s 0).bind fun r1 => (zcF r1).bind fun r2 => if r2 then (zbF zev [x_s]).bind fun r3 => some r3 else some false else some false
def strings_HasPrefix (x_s : Str) (x_prefix : Str) : Option Bool := (stringslite_HasPrefix x_s x_prefix).bind fun r1 => some r1
def zg0 (x_s : Str) (x_l : Str) : Option (Str × Str) := (strings_IndexAny x_s x_l).bind fun r1 => if (decide ((0 : Int) ≤ r1)) then (sTo x_s r1).bind fun r2 => (zY x_s r1).bind fun r3 => some (r2,r3) else some (x_s,[])
def zij (v3 : zMr) : Option zMr := some v3
def zik (s0 : Str) (v3 : zMr) : Option zMr := if (!(s0 == [])) then (zY s0 1).bind fun r1 => zij (⟨v3.Scheme,v3.Auth,v3.Path,v3.Query,r1,v3.HasAuth,v3.HasQuery,true⟩ : zMr) else zij v3
def zil (s0 : Str) (v3 : zMr) : Option zMr := (zg0 s0 [63,35]).bind fun r1 => (strings_HasPrefix r1.2 [63]).bind fun r2 => if r2 then (zY r1.2 1).bind fun r3 => (zg0 r3 [35]).bind fun r4 => zik r4.2 (⟨v3.Scheme,v3.Auth,r1.1,r4.1,v3.Frag,v3.HasAuth,true,v3.HasFrag⟩ : zMr) else zik r1.2 (⟨v3.Scheme,v3.Auth,r1.1,v3.Query,v3.Frag,v3.HasAuth,v3.HasQuery,v3.HasFrag⟩ : zMr)
def zim (s0 : Str) (v3 : zMr) : Option zMr := (strings_HasPrefix s0 [47,47]).bind fun r1 => if r1 then (zY s0 2).bind fun r2 => (zg0 r2 [47,63,35]).bind fun r3 => zil r3.2 (⟨v3.Scheme,r3.1,v3.Path,v3.Query,v3.Frag,true,v3.HasQuery,v3.HasFrag⟩ : zMr) else zil s0 v3
def zin (s0 : Str) (v3 : zMr) (i4 : Int) (t14 : Bool) : Option zMr := if t14 then (sTo s0 i4).bind fun r1 => (zj i4 1).bind fun r2 => (zY s0 r2).bind fun r3 => zim r3 (⟨r1,v3.Auth,v3.Path,v3.Query,v3.Frag,v3.HasAuth,v3.HasQuery,v3.HasFrag⟩ : zMr) else zim s0 v3
def zlX (x_s : Str) : Option zMr := (strings_IndexByte x_s 58).bind fun r1 => if (decide ((0 : Int) < r1)) then (sTo x_s r1).bind fun r2 => (zkw r2).bind fun r3 => zin x_s (⟨[],[],[],[],[],false,false,false⟩ : zMr) r1 r3 else zin x_s (⟨[],[],[],[],[],false,false,false⟩ : zMr) r1 false
def zfP (x_b : UInt8) : Option Bool := (zbv x_b).bind fun r1 => if r1 then some true else (zgZ x_b).bind fun r2 => if r2 then some true else (zki x_b [58,64]).bind fun r3 => some r3
def zio (k0 : Int → Option Bool) (i5 : Int) (t35 : Bool) : Option Bool := if t35 then some false else (zj i5 1).bind fun r1 => k0 r1
def zcb (s0 : Str) (s1 : Str) : Nat → Int → Option Bool
 | 0,_ => none
 | n + 1,i5 => if (decide (i5 < (s0.length : Int))) then (sAt s0 i5).bind fun r1 => if (r1 == 37) then (zj i5 2).bind fun r2 => if (decide ((s0.length : Int) ≤ r2)) then some false else (zj i5 1).bind fun r3 => (zj i5 3).bind fun r4 => (zuJ s0 r3 r4).bind fun r5 => (zbF zcT [r5]).bind fun r6 => if (!r6) then some false else (zj i5 2).bind fun r7 => (zj r7 1).bind fun r8 => zcb s0 s1 n r8 else (sAt s0 i5).bind fun r9 => (zfP r9).bind fun r10 => if (!r10) then (sAt s0 i5).bind fun r11 => (strings_IndexByte s1 r11).bind fun r12 => zio (zcb s0 s1 n) i5 (decide (r12 < 0)) else zio (zcb s0 s1 n) i5 false else some true
def zfQ (x_s : Str) (x_more : Str) : Option Bool := zcb x_s x_more fuel 0
def zmX (x_r : zMr) : Option Bool := (zg0 x_r.Path [47]).bind fun r1 => (zfQ x_r.Auth [91,93]).bind fun r2 => if (!r2) then some false else (strings_Contains x_r.Auth [64]).bind fun r3 => if r3 then some false else (zfQ x_r.Path [47]).bind fun r4 => if (!r4) then some false else (zfQ x_r.Query [47,63]).bind fun r5 => if (!r5) then some false else (zfQ x_r.Frag [47,63]).bind fun r6 => if (!r6) then some false else if x_r.HasAuth then if (x_r.Path == []) then some true else (sAt x_r.Path 0).bind fun r7 => some (r7 == 47) else (strings_HasPrefix x_r.Path [47,47]).bind fun r8 => if r8 then some false else if (!(x_r.Scheme == [])) then some true else (strings_Contains r1.1 [58]).bind fun r9 => some (!r9)
def zlY (x_s : Str) : Option (zMr × Int) := (zlX x_s).bind fun r1 => (zmX r1).bind fun r2 => if (!r2) then some ((⟨[],[],[],[],[],false,false,false⟩ : zMr),2) else some (r1,0)
def zg1 (x_s : Str) : Option Bool := (zlY x_s).bind fun r1 => some (r1.2 == 0)
def zeA (l0 : List zLK) (l5 : List zLK) (i6 : Int) : Nat → Int → Option Int
 | 0,_ => none
 | n + 1,i7 => if (decide (i7 < i6)) then (lAt l5 i7).bind fun r1 => if (r1.From == []) then some 2 else (zg1 r1.From).bind fun r2 => if (!r2) then some 2 else (zg1 r1.To).bind fun r3 => if (!r3) then some 2 else (zj i7 1).bind fun r4 => zeA l0 l5 i6 n r4 else if (decide ((64 : Int) < (l0.length : Int))) then some 3 else some 0
def zjp (x_l : List zLK) : Option Int := zeA x_l x_l (x_l.length : Int) fuel 0
def zg2 (v1 : zLm) (t44 : Bool) : Option Int := if t44 then some 2 else (zkv v1.Domains).bind fun r1 => if (!(r1 == 0)) then some r1 else (zjp v1.Locations).bind fun r2 => some r2
def zjq (v1 : zLm) (i6 : Int) (t30 : Bool) : Option Int := if t30 then some i6 else if (!(v1.Scheme == [])) then if (!(v1.Scheme == [104,116,116,112])) then zg2 v1 (!(v1.Scheme == [104,116,116,112,115])) else zg2 v1 false else zg2 v1 false
def zmY (x_env : zLm) : Option Int := (zqD (⟨[],[49,46,49],x_env.By,[]⟩ : zL5)).bind fun r1 => if (!(r1.2 == 0)) then some r1.2 else (zbN x_env.Host).bind fun r2 => if (!(r2.2 == 0)) then zjq x_env r2.2 (!(x_env.Host == [])) else zjq x_env r2.2 false
def ziR (x_size : Int) : Option (Option zLA × Int) := if (decide (x_size < 1)) then some (none,1) else if (decide ((65536 : Int) < x_size)) then some (none,1) else some (some (⟨x_size,[],false⟩ : zLA),0)
def zmZ (x_most : Int) : Option (Option zLX × Int) := if (decide (x_most < 1)) then some (none,1) else if (decide ((64 : Int) < x_most)) then some (none,1) else some (some (⟨(⟨[],x_most⟩ : zMl),false⟩ : zLX),0)
def zmj (x_side : Int) : Option (Option (List Str)) := if (x_side == 1) then some (some ([[99,108,105,101,110,116],[104,111,115,116],[109,101,116,104,111,100],[112,97,116,104],[115,99,104,101,109,101]])) else if (x_side == 2) then some (some ([[99,108,105,101,110,116],[104,111,115,116],[115,99,104,101,109,101],[115,116,97,116,117,115]])) else some none
def zew (x_f : zLo) : Option Int := (zdK x_f.Name).bind fun r1 => if (!r1) then some 21 else (zbF zan [x_f.Value]).bind fun r2 => if (!r2) then some 25 else (zbu x_f.Value [32,9]).bind fun r3 => if (!(r3 == x_f.Value)) then some 25 else some 0
def zkx (v1 : zMc) (i4 : Int) (t15 : Bool) : Option Bool := if t15 then (zdK v1.Name).bind fun r1 => if r1 then some (v1.Value == []) else some false else if (i4 == 3) then (zew (⟨v1.Name,v1.Value⟩ : zLo)).bind fun r2 => some (r2 == 0) else some false
def zoD (x_g : zMc) : Option Bool := if (x_g.Kind == 0) then if (x_g.Name == []) then some (x_g.Value == []) else some false else if (x_g.Kind == 1) then zkx x_g x_g.Kind true else zkx x_g x_g.Kind (x_g.Kind == 2)
def zrG : Option (List Str) := some ([[99,111,110,110,101,99,116,105,111,110],[99,111,110,116,101,110,116,45,108,101,110,103,116,104],[107,101,101,112,45,97,108,105,118,101],[112,114,111,120,121,45,99,111,110,110,101,99,116,105,111,110],[116,101],[116,114,97,105,108,101,114],[116,114,97,110,115,102,101,114,45,101,110,99,111,100,105,110,103],[117,112,103,114,97,100,101]])
def zaU (s : Str) : Option Str := if s.length < 4294967281 then s.mapM zbD else none
def zah (l0 : List Str) (s1 : Str) (i7 : Int) : Nat → Int → Option Int
 | 0,_ => none
 | n + 1,i8 => if (decide (i8 < i7)) then (lAt l0 i8).bind fun r1 => if (s1 == r1) then some i8 else (zj i8 1).bind fun r2 => zah l0 s1 i7 n r2 else some (-1)
def zbr (x_s : List Str) (x_v : Str) : Option Int := zah x_s x_v (x_s.length : Int) fuel 0
def zB (x_s : List Str) (x_v : Str) : Option Bool := (zbr x_s x_v).bind fun r1 => some (decide ((0 : Int) ≤ r1))
def zrH (x_name : Str) : Option Bool := zrG.bind fun r1 => (zaU x_name).bind fun r2 => (zB r1 r2).bind fun r3 => some r3
def zrI (x_name : Str) : Option Bool := (zrH x_name).bind fun r1 => if r1 then some true else (zaU x_name).bind fun r2 => (zB ([[104,111,115,116],[118,105,97],[102,111,114,119,97,114,100,101,100],[120,45,102,111,114,119,97,114,100,101,100,45,102,111,114]]) r2).bind fun r3 => some r3
def znU (x_name : Str) : Option Bool := (zdK x_name).bind fun r1 => if r1 then (zrI x_name).bind fun r2 => some (!r2) else some false
def zky (k0 : List Str → Int → Option (List Str)) (l3 : List Str) (v5 : zLD) (i8 : Int) (t21 : Bool) : Option (List Str) := if t21 then if zl l3.length ([v5.Text] : List Str).length 16 then (zj i8 1).bind fun r1 => k0 (l3 ++ [v5.Text]) r1 else none else (zj i8 1).bind fun r2 => k0 l3 r2
def zeZ (l6 : List zLD) (i7 : Int) : Nat → List Str → Int → Option (List Str)
 | 0,_,_ => none
 | n + 1,l3,i8 => if (decide (i8 < i7)) then (lAt l6 i8).bind fun r1 => if (r1.Kind == 2) then (zB l3 r1.Text).bind fun r2 => zky (zeZ l6 i7 n) l3 r1 i8 (!r2) else zky (zeZ l6 i7 n) l3 r1 i8 false else some l3
def zoE (x_l : List zLD) : Option (List Str) := zeZ x_l (x_l.length : Int) fuel [] 0
def zkj (x_b : UInt8) : Option Bool := if (decide (97 ≤ x_b)) then some (decide (x_b ≤ 122)) else some false
def zkk (x_b : UInt8) : Option Bool := (zan x_b).bind fun r1 => if r1 then some (!(x_b == 36)) else some false
def zb3 (x_c : zLs) (x_t : Str) : Option (Bool × zLs) := (zal x_c).bind fun r1 => (strings_HasPrefix r1 x_t).bind fun r2 => if (!r2) then some (false,x_c) else (zj x_c.zL8 (x_t.length : Int)).bind fun r3 => some (true,(⟨x_c.zMz,r3⟩ : zLs))
def zee (vp0 : zL0) (s1 : Str) (i4 : Int) (t23 : Bool) : Option zL0 := if t23 then (zey i4 1).bind fun r1 => (lAt vp0.zLI r1).bind fun r2 => (zhP r2.Text s1).bind fun r3 => (lAt vp0.zLI r1).bind fun r4 => (zv1 vp0.zLI r1 (⟨r4.Kind,r3⟩ : zLD)).bind fun r5 => some (⟨vp0.Scanner,r5⟩ : zL0) else if zl vp0.zLI.length ([(⟨1,s1⟩ : zLD)] : List zLD).length 24 then some (⟨vp0.Scanner,vp0.zLI ++ [(⟨1,s1⟩ : zLD)]⟩ : zL0) else none
def zdZ (x_r : zL0) (x_s : Str) : Option zL0 := if (decide ((0 : Int) < (x_r.zLI.length : Int))) then (zey (x_r.zLI.length : Int) 1).bind fun r1 => (lAt x_r.zLI r1).bind fun r2 => zee x_r x_s (x_r.zLI.length : Int) (r2.Kind == 1) else zee x_r x_s (x_r.zLI.length : Int) false
def zdv (vp0 : zL0) (t2 : Bool) : Option (Bool × zL0) := some (t2,vp0)
def zdw (vp0 : zL0) (v3 : zLD) : Option (Bool × zL0) := if zl vp0.zLI.length ([v3] : List zLD).length 24 then if (!(v3.Text == [])) then (zk vp0.Scanner 125).bind fun r1 => zdv (⟨r1.2,vp0.zLI ++ [v3]⟩ : zL0) r1.1 else zdv (⟨vp0.Scanner,vp0.zLI ++ [v3]⟩ : zL0) false else none
def ze9 (x_r : zL0) : Option (Bool × zL0) := (zk x_r.Scanner 64).bind fun r1 => if r1.1 then (zM r1.2).bind fun r2 => zdw (⟨r2.2.2,x_r.zLI⟩ : zL0) (⟨3,r2.1⟩ : zLD) else (zH r1.2 zkj).bind fun r3 => zdw (⟨r3.2,x_r.zLI⟩ : zL0) (⟨2,r3.1⟩ : zLD)
def zfR (x_r : zL0) : Option (Bool × zL0) := (zb3 x_r.Scanner [36,36]).bind fun r1 => if r1.1 then (zdZ (⟨r1.2,x_r.zLI⟩ : zL0) [36]).bind fun r2 => some (true,r2) else (zb3 r1.2 [36,123]).bind fun r3 => if r3.1 then (ze9 (⟨r3.2,x_r.zLI⟩ : zL0)).bind fun r4 => some (r4.1,r4.2) else (zH r3.2 zkk).bind fun r5 => (zdZ (⟨r5.2,x_r.zLI⟩ : zL0) r5.1).bind fun r6 => some (!(r5.1 == []),r6)
def zh1 : Nat → zL0 → Option (List zLD × Int)
 | 0,_ => none
 | n + 1,v4 => (zai v4.Scanner).bind fun r1 => if (!r1) then (zfR v4).bind fun r2 => if (!r2.1) then some ([],2) else zh1 n r2.2 else if (decide ((32 : Int) < (v4.zLI.length : Int))) then some ([],3) else some (v4.zLI,0)
def zoF (x_s : Str) : Option (List zLD × Int) := (zgm x_s).bind fun r1 => zh1 fuel (⟨r1,[]⟩ : zL0)
def zT (l0 : List zLD) (l1 : List zLD) (i12 : Int) : Nat → Int → Option Bool
 | 0,_ => none
 | n + 1,i13 => if (decide (i13 < i12)) then (lAt l0 i13).bind fun r1 => (lAt l1 i13).bind fun r2 => if (!(r1 == r2)) then some false else (zj i13 1).bind fun r3 => zT l0 l1 i12 n r3 else some true
def zaN (x_s1 : List zLD) (x_s2 : List zLD) : Option Bool := if (!((x_s1.length : Int) == (x_s2.length : Int))) then some false else zT x_s1 x_s2 (x_s1.length : Int) fuel 0
def zht (k0 : List Str → Int → Option (Str × Int)) (l4 : List Str) (i12 : Int) : Option (Str × Int) := (zj i12 1).bind fun r1 => k0 l4 r1
def zdx (l0 : List zLD) (l10 : List zLD) (i11 : Int) : Nat → List Str → Int → Option (Str × Int)
 | 0,_,_ => none
 | n + 1,l4,i12 => if (decide (i12 < i11)) then (lAt l10 i12).bind fun r1 => if (r1.Kind == 1) then (strings_ReplaceAll r1.Text [36] [36,36]).bind fun r2 => if zl l4.length ([r2] : List Str).length 16 then zht (zdx l0 l10 i11 n) (l4 ++ [r2]) i12 else none else if (r1.Kind == 2) then if zl l4.length ([[36,123],r1.Text,[125]] : List Str).length 16 then zht (zdx l0 l10 i11 n) (l4 ++ ([[36,123],r1.Text,[125]])) i12 else none else if (r1.Kind == 3) then if zl l4.length ([[36,123,64],r1.Text,[125]] : List Str).length 16 then zht (zdx l0 l10 i11 n) (l4 ++ ([[36,123,64],r1.Text,[125]])) i12 else none else zht (zdx l0 l10 i11 n) l4 i12 else (zbf [] l4).bind fun r3 => (zoF r3).bind fun r4 => if (!(r4.2 == 0)) then some ([],2) else (zaN r4.1 l0).bind fun r5 => if (!r5) then some ([],2) else some (r3,0)
def zrJ (x_l : List zLD) : Option (Str × Int) := zdx x_l x_l (x_l.length : Int) fuel [] 0
def zh2 (l1 : List zLD) (l5 : List Str) (l13 : List Str) (i14 : Int) : Nat → Int → Option Bool
 | 0,_ => none
 | n + 1,i15 => if (decide (i15 < i14)) then (lAt l13 i15).bind fun r1 => (zB l5 r1).bind fun r2 => if (!r2) then some false else (zj i15 1).bind fun r3 => zh2 l1 l5 l13 i14 n r3 else (zrJ l1).bind fun r4 => some (r4.2 == 0)
def zkz (l1 : List zLD) (l5 : List Str) : Option Bool := (zoE l1).bind fun r1 => zh2 l1 l5 r1 (r1.length : Int) fuel 0
def zoG (x_side : Int) (x_l : List zLD) : Option Bool := (zmj x_side).bind fun r1 => optK r1 (zkz x_l []) fun r2 => zkz x_l r2
def zm0 (v1 : zLr) : Option Bool := if (v1.To == []) then (zoG v1.Side v1.Parts).bind fun r1 => some r1 else some false
def ztI (x_r : zLr) : Option Bool := if (x_r.Kind == 1) then zm0 x_r else if (x_r.Kind == 2) then zm0 x_r else if (x_r.Kind == 3) then if (x_r.To == []) then some ((x_r.Parts.length : Int) == 0) else some false else if (x_r.Kind == 4) then (znU x_r.To).bind fun r1 => if r1 then some ((x_r.Parts.length : Int) == 0) else some false else some false
def zoH (x_r : zLr) : Option Int := (zmj x_r.Side).bind fun r1 => optK r1 (some 9) fun r2 => (nnl r2).bind fun _ => (zoD x_r.Guard).bind fun r3 => if (!r3) then some 9 else (znU x_r.Name).bind fun r4 => if (!r4) then some 9 else (ztI x_r).bind fun r5 => if (!r5) then some 9 else some 0
def zg3 (l0 : List zLr) (l7 : List zLr) (i8 : Int) : Nat → Int → Option (Int × Int)
 | 0,_ => none
 | n + 1,i9 => if (decide (i9 < i8)) then (lAt l7 i9).bind fun r1 => (zoH r1).bind fun r2 => if (!(r2 == 0)) then some (i9,r2) else (zj i9 1).bind fun r3 => zg3 l0 l7 i8 n r3 else if (decide ((64 : Int) < (l0.length : Int))) then some (0,3) else some (0,0)
def zk1 (x_l : List zLr) : Option (Int × Int) := zg3 x_l x_l (x_l.length : Int) fuel 0
def zg4 (l : List zLK) : Option (List zLK) := if zl 0 l.length 32 then some l else none
def zfr (l : List zLD) : Option (List zLD) := if zl 0 l.length 24 then some l else none
def zfS (i0 : Int) (i1 : Int) (t19 : Bool) : Option (Option zLC × Int) := if t19 then some (none,1) else some (some (⟨i0,i1,[],0,false,0,false,(⟨0,[],[],0,[],0,[]⟩ : zLq)⟩ : zLC),0)
def zrK (x_kind : Int) (x_limit : Int) : Option (Option zLC × Int) := if (!(x_kind == 1)) then if (!(x_kind == 2)) then zfS x_kind x_limit true else if (decide (x_limit < 0)) then zfS x_kind x_limit true else zfS x_kind x_limit (decide ((65536 : Int) < x_limit)) else if (decide (x_limit < 0)) then zfS x_kind x_limit true else zfS x_kind x_limit (decide ((65536 : Int) < x_limit))
def zdL (x_kind : Int) (x_limit : Int) : Option zLu := (zrK x_kind x_limit).bind fun r1 => optK r1.1 (some (⟨none,none,none⟩ : zLu)) fun r2 => some (⟨some r2,none,none⟩ : zLu)
def zg5 (v4 : zMC) (l72 : List zLr) (i73 : Int) : Nat → zLk → Int → Option (Option zLk × Int)
 | 0,_,_ => none
 | n + 1,v15,i74 => if (decide (i74 < i73)) then (lAt l72 i74).bind fun r1 => (zfr r1.Parts).bind fun r2 => if zl v15.zLF.length ([(⟨r1.Side,r1.Guard,r1.Kind,r1.Name,r1.To,r2⟩ : zLr)] : List zLr).length 112 then (zj i74 1).bind fun r3 => zg5 v4 l72 i73 n (⟨v15.Queue,v15.zL2,v15.zLO,v15.zLF ++ [(⟨r1.Side,r1.Guard,r1.Kind,r1.Name,r1.To,r2⟩ : zLr)],v15.zLn,v15.zLl,v15.zLw,v15.zLU,v15.zLR,v15.zLt,v15.zLS,v15.zL3,v15.zLJ,v15.zLQ,v15.zLB,v15.zLv⟩ : zLk) r3 else none else (zdL 1 v4.Head).bind fun r4 => (zdL 2 v4.Head).bind fun r5 => some (some (⟨v15.Queue,v15.zL2,v15.zLO,v15.zLF,r4,r5,v15.zLw,v15.zLU,v15.zLR,v15.zLt,v15.zLS,v15.zL3,v15.zLJ,v15.zLQ,v15.zLB,v15.zLv⟩ : zLk),0)
def zjr (l2 : List zLr) (v3 : zLm) (v4 : zMC) (i10 : Int) (o11 : Option zLX) (i12 : Int) : Option (Option zLk × Int) := if (!(i10 == 0)) then some (none,1) else if (!(i12 == 0)) then some (none,1) else if (decide (v4.Head < 1)) then some (none,1) else if (decide ((65536 : Int) < v4.Head)) then some (none,1) else (zk1 l2).bind fun r1 => if (!(r1.2 == 0)) then some (none,r1.2) else (zg4 v3.Domains).bind fun r2 => (zg4 v3.Locations).bind fun r3 => zg5 v4 l2 (l2.length : Int) fuel (⟨o11,(⟨v3.Client,v3.Host,v3.Scheme,v3.By,r2,r3⟩ : zLm),v4,[],(⟨none,none,none⟩ : zLu),(⟨none,none,none⟩ : zLu),[],[],0,false,false,false,false,false,false,false⟩ : zLk) 0
def zjs (l2 : List zLr) (v3 : zLm) (v4 : zMC) (i10 : Int) : Option (Option zLk × Int) := (zmZ v4.Queue).bind fun r1 => optK r1.1 (zjr l2 v3 v4 i10 none r1.2) fun r2 => zjr l2 v3 v4 i10 (some r2) r1.2
def zk2 (x_a0 : zLm) (x_a1 : zMC) (x_a2 : List zLr) : Option (Option zLk × Int) := (zmY x_a0).bind fun r1 => if (!(r1 == 0)) then some (none,r1) else (ziR x_a1.Chunk).bind fun r2 => optK r2.1 (zjs x_a2 x_a0 x_a1 r2.2) fun r3 => zjs x_a2 x_a0 x_a1 r2.2
def znV (x_s : zMn) : Option (Option zLx × Int) := (zk2 x_s.Env x_s.Caps x_s.Rules).bind fun r1 => optK r1.1 (if (!(r1.2 == 0)) then some (none,r1.2) else if (decide ((1048576 : Int) < (x_s.Client.length : Int))) then some (none,3) else if (decide ((1048576 : Int) < (x_s.Upstream.length : Int))) then some (none,3) else none) fun r2 => if (!(r1.2 == 0)) then some (none,r1.2) else if (decide ((1048576 : Int) < (x_s.Client.length : Int))) then some (none,3) else if (decide ((1048576 : Int) < (x_s.Upstream.length : Int))) then some (none,3) else some (some (⟨r2,(⟨x_s.Client,0,x_s.ClientEnds,false,[],(),()⟩ : zLP),(⟨x_s.Upstream,0,x_s.UpstreamEnds,false,[],(),()⟩ : zLP),(⟨0,0⟩ : zME)⟩ : zLx),0)
def zp (x_g : zLk) : Option Bool := some x_g.zLv
def zgI : Option Bool := some true
def zfa (x_a : zLC) : Option Bool := some (!x_a.zMP)
def zgJ (x_s : zLu) : Option Bool := optK x_s.zMI (optK x_s.Accum (zgI.bind fun r3 => some r3) fun r2 => (zfa r2).bind fun r4 => some r4) fun r1 => some false
def zfT : Option Bool := some false
def zhu (x_r : zMl) : Option Int := (zey x_r.zLN (x_r.zMv.length : Int)).bind fun r1 => some r1
def zeB (x_q : zLX) : Option Bool := (zhu x_q.zML).bind fun r1 => some (r1 == 0)
def zef (x_g : zLk) : Option Bool := if (!x_g.zLv) then if (!x_g.zLt) then (zgJ x_g.zLn).bind fun r1 => if (!r1) then some true else optK x_g.Queue (zfT.bind fun r3 => some (!r3)) fun r2 => (zeB r2).bind fun r4 => some (!r4) else some false else some false
def zfs (x_a1 : Str) : Option (Int × Bool × Int) := some (0,false,5)
def zoI (x_e : Int) : Option Int := if (x_e == 0) then some 0 else if (x_e == 3) then some 431 else some 400
def zdO : Option (zLq × Bool) := some ((⟨0,[],[],0,[],0,[]⟩ : zLq),false)
def zgo (l : List zLo) : Option (List zLo) := if zl 0 l.length 32 then some l else none
def zfb (x_l : List zLo) : Option zLY := (zgo x_l).bind fun r1 => some (⟨r1⟩ : zLY)
def zbs (x_b : zLY) : Option (List zLo) := (zgo x_b.zMv).bind fun r1 => some r1
def zbg (x_a : Str) (x_b : Str) : Option Bool := (zaU x_a).bind fun r1 => (zaU x_b).bind fun r2 => some (r1 == r2)
def zc5 (s1 : Str) (l9 : List zLo) (i10 : Int) : Nat → List Str → Int → Option (List Str)
 | 0,_,_ => none
 | n + 1,l5,i11 => if (decide (i11 < i10)) then (lAt l9 i11).bind fun r1 => (zbg r1.Name s1).bind fun r2 => if r2 then if zl l5.length ([r1.Value] : List Str).length 16 then (zj i11 1).bind fun r3 => zc5 s1 l9 i10 n (l5 ++ [r1.Value]) r3 else none else (zj i11 1).bind fun r4 => zc5 s1 l9 i10 n l5 r4 else some l5
def zbO (x_b : zLY) (x_name : Str) : Option (List Str) := (zbs x_b).bind fun r1 => zc5 x_name r1 (r1.length : Int) fuel [] 0
def zfc (x_c : zLs) (x_at : Int) : Option (Bool × zLs) := if (decide (x_at < 0)) then some (false,x_c) else (zca x_c).bind fun r1 => if (decide (r1 < x_at)) then some (false,x_c) else some (true,(⟨x_c.zMz,x_at⟩ : zLs))
def zcJ (vp0 : zLG) : Option zLG := (zca vp0.Scanner).bind fun r1 => some (⟨vp0.Scanner,vp0.zLI,r1,vp0.zMz⟩ : zLG)
def zcn (x_p : zLG) (x_at : Int) : Option zLG := (zuJ x_p.zMz x_p.zMk x_at).bind fun r1 => (zbu r1 [32,9]).bind fun r2 => if (!(r2 == [])) then if zl x_p.zLI.length ([r2] : List Str).length 16 then zcJ (⟨x_p.Scanner,x_p.zLI ++ [r2],x_p.zMk,x_p.zMz⟩ : zLG) else none else zcJ x_p
def zE : Nat → zLG → Int → Option (Bool × zLG)
 | 0,_,_ => none
 | n + 1,vp0,i3 => if (decide ((0 : Int) < i3)) then (zam vp0.Scanner).bind fun r1 => if (!r1.2) then some (false,vp0) else (zk vp0.Scanner r1.1).bind fun r2 => if (r1.1 == 40) then (zj i3 1).bind fun r3 => zE n (⟨r2.2,vp0.zLI,vp0.zMk,vp0.zMz⟩ : zLG) r3 else if (r1.1 == 41) then (zey i3 1).bind fun r4 => zE n (⟨r2.2,vp0.zLI,vp0.zMk,vp0.zMz⟩ : zLG) r4 else if (r1.1 == 92) then (zam r2.2).bind fun r5 => if r5.2 then (zk r2.2 r5.1).bind fun r6 => zE n (⟨r6.2,vp0.zLI,vp0.zMk,vp0.zMz⟩ : zLG) i3 else zE n (⟨r2.2,vp0.zLI,vp0.zMk,vp0.zMz⟩ : zLG) i3 else zE n (⟨r2.2,vp0.zLI,vp0.zMk,vp0.zMz⟩ : zLG) i3 else some (true,vp0)
def zcd (x_p : zLG) : Option (Bool × zLG) := zE fuel x_p 1
def zhv (k0 : zMp → Bool → Option (Str × Bool × zLs)) (i4 : Int) (v5 : zMp) (t6 : Bool) (t25 : Bool) : Option (Str × Bool × zLs) := if t25 then (zk v5.Scanner 92).bind fun r1 => (zam r1.2).bind fun r2 => if (!r2.2) then k0 (⟨r1.2,v5.zLI⟩ : zMp) false else (zan r2.1).bind fun r3 => if (!r3) then k0 (⟨r1.2,v5.zLI⟩ : zMp) false else if zl v5.zLI.length ([r2.1] : List UInt8).length 1 then (zk r1.2 r2.1).bind fun r4 => k0 (⟨r4.2,v5.zLI ++ [r2.1]⟩ : zMp) r4.1 else none else if (!t6) then (zfc v5.Scanner i4).bind fun r5 => some ([],false,r5.2) else some (v5.zLI,true,v5.Scanner)
def zcv (i4 : Int) : Nat → zMp → Bool → Option (Str × Bool × zLs)
 | 0,_,_ => none
 | n + 1,v5,t6 => if t6 then (zk v5.Scanner 34).bind fun r1 => zhv (zcv i4 n) i4 (⟨r1.2,v5.zLI⟩ : zMp) t6 (!r1.1) else zhv (zcv i4 n) i4 v5 t6 false
def zh3 (x_c : zLs) : Option (Str × Bool × zLs) := (zca x_c).bind fun r1 => (zk x_c 34).bind fun r2 => zcv r1 fuel (⟨r2.2,[]⟩ : zMp) r2.1
def zdy (x_p : zLG) : Option (Bool × zLG) := (zca x_p.Scanner).bind fun r1 => (zk x_p.Scanner 44).bind fun r2 => if r2.1 then (zcn (⟨r2.2,x_p.zLI,x_p.zMk,x_p.zMz⟩ : zLG) r1).bind fun r3 => some (true,r3) else (zk r2.2 40).bind fun r4 => if r4.1 then (zcd (⟨r4.2,x_p.zLI,x_p.zMk,x_p.zMz⟩ : zLG)).bind fun r5 => some (r5.1,r5.2) else (zam r4.2).bind fun r6 => if (r6.1 == 34) then (zh3 r4.2).bind fun r7 => some (r7.2.1,(⟨r7.2.2,x_p.zLI,x_p.zMk,x_p.zMz⟩ : zLG)) else (zk r4.2 r6.1).bind fun r8 => some (true,(⟨r8.2,x_p.zLI,x_p.zMk,x_p.zMz⟩ : zLG))
def zgp (s0 : Str) : Nat → zLG → Option (List Str × Int)
 | 0,_ => none
 | n + 1,v4 => (zai v4.Scanner).bind fun r1 => if (!r1) then (zdy v4).bind fun r2 => if (!r2.1) then some ([],2) else zgp s0 n r2.2 else (zcn v4 (s0.length : Int)).bind fun r3 => some (r3.zLI,0)
def zjt (x_s : Str) : Option (List Str × Int) := (zgm x_s).bind fun r1 => zgp x_s fuel (⟨r1,[],0,x_s⟩ : zLG)
def zft (k0 : List Str → Int → Option (List Str × Int)) (l4 : List Str) (l7 : List Str) (i13 : Int) (i26 : Int) : Nat → Int → Option (List Str × Int)
 | 0,_ => none
 | n + 1,i27 => if (decide (i27 < i26)) then (lAt l7 i27).bind fun r1 => (zdK r1).bind fun r2 => if (!r2) then some ([],2) else (zj i27 1).bind fun r3 => zft k0 l4 l7 i13 i26 n r3 else if zl l4.length l7.length 16 then (zj i13 1).bind fun r4 => k0 (l4 ++ l7) r4 else none
def zdP (l11 : List Str) (i12 : Int) : Nat → List Str → Int → Option (List Str × Int)
 | 0,_,_ => none
 | n + 1,l4,i13 => if (decide (i13 < i12)) then (lAt l11 i13).bind fun r1 => (zjt r1).bind fun r2 => if (!(r2.2 == 0)) then some ([],r2.2) else zft (zdP l11 i12 n) l4 r2.1 i13 (r2.1.length : Int) fuel 0 else some (l4,0)
def zgA (x_l : List Str) : Option (List Str × Int) := zdP x_l (x_l.length : Int) fuel [] 0
def zeC (x_r : zMw) (x_l : List Str) : Option (zLy × Int × zLY) := (zgA x_l).bind fun r1 => if (!(r1.2 == 0)) then some ((⟨0,0⟩ : zLy),30,x_r.Bag) else if (x_r.zMT == 0) then some ((⟨0,0⟩ : zLy),30,x_r.Bag) else if (!((r1.1.length : Int) == 1)) then some ((⟨0,0⟩ : zLy),30,x_r.Bag) else (lAt r1.1 0).bind fun r2 => (zbg r2 [99,104,117,110,107,101,100]).bind fun r3 => if (!r3) then some ((⟨0,0⟩ : zLy),30,x_r.Bag) else some ((⟨3,0⟩ : zLy),0,x_r.Bag)
def zbm (k1 : Int → Int → Option (zLy × Int × zLY)) (vp32 : zLY) (i13 : Int) (i31 : Int) (t50 : Bool) : Option (zLy × Int × zLY) := if t50 then some ((⟨0,0⟩ : zLy),28,vp32) else (zj i31 1).bind fun r1 => k1 i13 r1
def zU (k0 : Int → Int → Option (zLy × Int × zLY)) (vp32 : zLY) (i17 : Int) (l29 : List Str) (i30 : Int) : Nat → Int → Int → Option (zLy × Int × zLY)
 | 0,_,_ => none
 | n + 1,i6,i31 => if (decide (i31 < i30)) then (lAt l29 i31).bind fun r1 => (zdl r1 1099511627776).bind fun r2 => if (!(r2.2 == 0)) then zbm (zU k0 vp32 i17 l29 i30 n) vp32 r2.1 i31 true else if (decide ((0 : Int) ≤ i6)) then zbm (zU k0 vp32 i17 l29 i30 n) vp32 r2.1 i31 (!(r2.1 == i6)) else zbm (zU k0 vp32 i17 l29 i30 n) vp32 r2.1 i31 false else (zj i17 1).bind fun r3 => k0 i6 r3
def zae (vp32 : zLY) (l15 : List Str) (i16 : Int) : Nat → Int → Int → Option (zLy × Int × zLY)
 | 0,_,_ => none
 | n + 1,i6,i17 => if (decide (i17 < i16)) then (lAt l15 i17).bind fun r1 => (zjt r1).bind fun r2 => if (!(r2.2 == 0)) then some ((⟨0,0⟩ : zLy),28,vp32) else zU (zae vp32 l15 i16 n) vp32 i17 r2.1 (r2.1.length : Int) fuel i6 0 else if (decide (i6 < 0)) then some ((⟨0,0⟩ : zLy),28,vp32) else some ((⟨2,i6⟩ : zLy),0,vp32)
def zeg (x_r : zMw) (x_l : List Str) : Option (zLy × Int × zLY) := zae x_r.Bag x_l (x_l.length : Int) fuel (-1) 0
def zlZ (i1 : Int) (v6 : zMw) (l7 : List Str) (l8 : List Str) (t21 : Bool) : Option (zLy × Int) := if t21 then some ((⟨0,0⟩ : zLy),29) else if (decide ((0 : Int) < (l7.length : Int))) then (zeC v6 l7).bind fun r1 => some (r1.1,r1.2.1) else if (decide ((0 : Int) < (l8.length : Int))) then (zeg v6 l8).bind fun r2 => some (r2.1,r2.2.1) else some ((⟨i1,0⟩ : zLy),0)
def znW (x_h : zLq) (x_none : Int) : Option (zLy × Int) := (zfb x_h.Fields).bind fun r1 => (zbO r1 [84,114,97,110,115,102,101,114,45,69,110,99,111,100,105,110,103]).bind fun r2 => (zbO r1 [67,111,110,116,101,110,116,45,76,101,110,103,116,104]).bind fun r3 => if (decide ((0 : Int) < (r2.length : Int))) then zlZ x_none (⟨r1,x_h.Minor⟩ : zMw) r2 r3 (decide ((0 : Int) < (r3.length : Int))) else zlZ x_none (⟨r1,x_h.Minor⟩ : zMw) r2 r3 false
def zg6 (x_h : zLq) : Option (zLy × Int) := (znW x_h 1).bind fun r1 => some (r1.1,r1.2)
def zhw (k1 : List Str → Int → Option (List Str)) (l3 : List Str) (s9 : Str) (i26 : Int) (t39 : Bool) : Option (List Str) := if t39 then if zl l3.length ([s9] : List Str).length 16 then (zj i26 1).bind fun r1 => k1 (l3 ++ [s9]) r1 else none else (zj i26 1).bind fun r2 => k1 l3 r2
def zcw (k0 : List Str → Int → Option (List Str)) (i14 : Int) (l24 : List Str) (i25 : Int) : Nat → List Str → Int → Option (List Str)
 | 0,_,_ => none
 | n + 1,l3,i26 => if (decide (i26 < i25)) then (lAt l24 i26).bind fun r1 => (zaU r1).bind fun r2 => if (!(r2 == [104,111,115,116])) then (zB l3 r2).bind fun r3 => zhw (zcw k0 i14 l24 i25 n) l3 r2 i26 (!r3) else zhw (zcw k0 i14 l24 i25 n) l3 r2 i26 false else (zj i14 1).bind fun r4 => k0 l3 r4
def zcx (l12 : List Str) (i13 : Int) : Nat → List Str → Int → Option (List Str)
 | 0,_,_ => none
 | n + 1,l3,i14 => if (decide (i14 < i13)) then (lAt l12 i14).bind fun r1 => (zgA [r1]).bind fun r2 => zcw (zcx l12 i13 n) i14 r2.1 (r2.1.length : Int) fuel l3 0 else some l3
def zkA (x_l : List zLo) : Option (List Str) := (zfb x_l).bind fun r1 => (zbO r1 [67,111,110,110,101,99,116,105,111,110]).bind fun r2 => zcx r2 (r2.length : Int) fuel [] 0
def zl9 (x_s : Str) (x_a1 : Str) : Option Bool := (zbg x_s x_a1).bind fun r1 => some r1
def zD (l0 : List Str) (u1 : Str) (i7 : Int) : Nat → Int → Option Int
 | 0,_ => none
 | n + 1,i8 => if (decide (i8 < i7)) then (lAt l0 i8).bind fun r1 => (zl9 r1 u1).bind fun r2 => if r2 then some i8 else (zj i8 1).bind fun r3 => zD l0 u1 i7 n r3 else some (-1)
def zaa (x_s : List Str) (x_f : Str) : Option Int := zD x_s x_f (x_s.length : Int) fuel 0
def zV (x_s : List Str) (x_f : Str) : Option Bool := (zaa x_s x_f).bind fun r1 => some (decide ((0 : Int) ≤ r1))
def ztJ (x_name : Str) (x_names : List Str) : Option Bool := (zV x_names x_name).bind fun r1 => some r1
def zcy (x_f : zLo) (x_a1 : List Str) : Option Bool := (ztJ x_f.Name x_a1).bind fun r1 => some r1
def zw (l0 : List zLo) (u1 : List Str) (i7 : Int) : Nat → Int → Option Int
 | 0,_ => none
 | n + 1,i8 => if (decide (i8 < i7)) then (lAt l0 i8).bind fun r1 => (zcy r1 u1).bind fun r2 => if r2 then some i8 else (zj i8 1).bind fun r3 => zw l0 u1 i7 n r3 else some (-1)
def zN (x_s : List zLo) (x_f : List Str) : Option Int := zw x_s x_f (x_s.length : Int) fuel 0
def zq (u1 : List Str) : Nat → List zLo → Int → Int → Option (List zLo)
 | 0,_,_,_ => none
 | n + 1,l0,i5,i6 => if (decide (i6 < (l0.length : Int))) then (lAt l0 i6).bind fun r1 => (zcy r1 u1).bind fun r2 => if (!r2) then (lAt l0 i5).bind fun r3 => (zv1 l0 i5 r1).bind fun r4 => (zj i5 1).bind fun r5 => (zj i6 1).bind fun r6 => zq u1 n r4 r5 r6 else (zj i6 1).bind fun r7 => zq u1 n l0 i5 r7 else (znM l0 i5).bind fun r8 => (lTo (l0.take i5.toNat ++ (List.replicate r8.length (⟨[],[]⟩ : zLo) ++ l0.drop (i5.toNat + r8.length))) i5).bind fun r9 => some r9
def zC (x_s : List zLo) (x_del : List Str) : Option (List zLo) := (zN x_s x_del).bind fun r1 => if (r1 == (-1)) then some x_s else (zj r1 1).bind fun r2 => zq x_del fuel x_s r1 r2
def zcz (x_b : zLY) (x_names : List Str) : Option (Int × zLY) := (zC x_b.zMv x_names).bind fun r1 => (zey (x_b.zMv.length : Int) (r1.length : Int)).bind fun r2 => some (r2,(⟨r1⟩ : zLY))
def zrL (x_l : List zLo) : Option (List zLo) := (zfb x_l).bind fun r1 => (zkA x_l).bind fun r2 => zrG.bind fun r3 => if zl r2.length r3.length 16 then (zcz r1 (r2 ++ r3)).bind fun r4 => (zbs r4.2).bind fun r5 => some r5 else none
def zk3 (k0 : Int → Option Bool) (i5 : Int) (t25 : Bool) : Option Bool := if t25 then (zj i5 2).bind fun r1 => (zj r1 1).bind fun r2 => k0 r2 else some false
def zdM (s0 : Str) (s1 : Str) : Nat → Int → Option Bool
 | 0,_ => none
 | n + 1,i5 => if (decide (i5 < (s0.length : Int))) then (sAt s0 i5).bind fun r1 => (zfP r1).bind fun r2 => if r2 then (zj i5 1).bind fun r3 => zdM s0 s1 n r3 else (sAt s0 i5).bind fun r4 => (strings_IndexByte s1 r4).bind fun r5 => if (decide ((0 : Int) ≤ r5)) then (zj i5 1).bind fun r6 => zdM s0 s1 n r6 else (sAt s0 i5).bind fun r7 => if (r7 == 37) then (zj i5 2).bind fun r8 => if (decide (r8 < (s0.length : Int))) then (zj i5 1).bind fun r9 => (zj i5 3).bind fun r10 => (zuJ s0 r9 r10).bind fun r11 => (zbF zcT [r11]).bind fun r12 => zk3 (zdM s0 s1 n) i5 r12 else zk3 (zdM s0 s1 n) i5 false else zk3 (zdM s0 s1 n) i5 false else some true
def zqE (x_s : Str) (x_more : Str) : Option Bool := zdM x_s x_more fuel 0
def zoJ (x_s : Str) : Option Bool := (strings_HasPrefix x_s [47]).bind fun r1 => if r1 then (zqE x_s [47]).bind fun r2 => some r2 else some false
def zm1 (x_s : Str) : Option Bool := (zqE x_s [47,63]).bind fun r1 => some r1
def znX (x_s : Str) : Option (Str × Str × Bool × Int) := (strings_Cut x_s [63]).bind fun r1 => (zoJ r1.1).bind fun r2 => if (!r2) then some ([],[],false,2) else (zm1 r1.2.1).bind fun r3 => if (!r3) then some ([],[],false,2) else some (r1.1,r1.2.1,r1.2.2,0)
def zju (v2 : zLZ) (i6 : Int) : Option (zLZ × Bool) := some (v2,i6 == 0)
def zjv (s1 : Str) (v2 : zLZ) (t7 : Bool) : Option (zLZ × Bool) := (znX s1).bind fun r1 => if t7 then zju (⟨v2.Kind,v2.Scheme,v2.Host,[],r1.2.1,r1.2.2.1⟩ : zLZ) r1.2.2.2 else zju (⟨v2.Kind,v2.Scheme,v2.Host,r1.1,r1.2.1,r1.2.2.1⟩ : zLZ) r1.2.2.2
def zk4 (x_t : zLZ) (x_s : Str) : Option (zLZ × Bool) := if (x_s == []) then some (x_t,true) else (sAt x_s 0).bind fun r1 => if (r1 == 63) then (zhP [47] x_s).bind fun r2 => zjv r2 x_t (r1 == 63) else zjv x_s x_t (r1 == 63)
def zfU (s5 : Str) (v7 : zLZ) (i8 : Int) : Option (zLZ × Bool) := (sTo s5 i8).bind fun r1 => (zbN r1).bind fun r2 => if (!(r2.2 == 0)) then some (v7,false) else (zY s5 i8).bind fun r3 => (zk4 (⟨v7.Kind,v7.Scheme,r2.1,v7.Path,v7.Query,v7.HasQuery⟩ : zLZ) r3).bind fun r4 => some (r4.1,r4.2)
def zd0 (s5 : Str) (v7 : zLZ) (t31 : Bool) : Option (zLZ × Bool) := if t31 then some (v7,false) else (strings_IndexAny s5 [47,63]).bind fun r1 => if (decide (r1 < 0)) then zfU s5 v7 (s5.length : Int) else zfU s5 v7 r1
def ziq (x_s : Str) : Option (zLZ × Bool) := (strings_Cut x_s [58,47,47]).bind fun r1 => (zaU r1.1).bind fun r2 => if (!r1.2.2) then zd0 r1.2.1 (⟨2,r2,(⟨0,[],0⟩ : zL9),[],[],false⟩ : zLZ) true else if (!(r2 == [104,116,116,112])) then zd0 r1.2.1 (⟨2,r2,(⟨0,[],0⟩ : zL9),[],[],false⟩ : zLZ) (!(r2 == [104,116,116,112,115])) else zd0 r1.2.1 (⟨2,r2,(⟨0,[],0⟩ : zL9),[],[],false⟩ : zLZ) false
def zrM (x_method : Str) (x_s : Str) : Option (zLZ × Bool) := if (x_s == [42]) then some ((⟨4,[],(⟨0,[],0⟩ : zL9),[],[],false⟩ : zLZ),x_method == [79,80,84,73,79,78,83]) else (strings_HasPrefix x_s [47]).bind fun r1 => if (!r1) then (ziq x_s).bind fun r2 => some (r2.1,r2.2) else (zk4 (⟨1,[],(⟨0,[],0⟩ : zL9),[],[],false⟩ : zLZ) x_s).bind fun r3 => some (r3.1,r3.2)
def zir (v6 : zL9) (t23 : Bool) : Option (zLZ × Int) := if t23 then some ((⟨0,[],(⟨0,[],0⟩ : zL9),[],[],false⟩ : zLZ),20) else some ((⟨3,[],v6,[],[],false⟩ : zLZ),0)
def zjw (x_method : Str) (x_s : Str) : Option (zLZ × Int) := if (x_method == [67,79,78,78,69,67,84]) then (zbN x_s).bind fun r1 => if (!(r1.2 == 0)) then zir r1.1 true else zir r1.1 (decide (r1.1.Port < 0)) else (zrM x_method x_s).bind fun r2 => if (!r2.2) then some ((⟨0,[],(⟨0,[],0⟩ : zL9),[],[],false⟩ : zLZ),20) else some (r2.1,0)
def zoK (x_path : Str) (x_query : Str) (x_has : Bool) : Option Str := if (!x_has) then some x_path else (zhP x_path [63]).bind fun r1 => (zhP r1 x_query).bind fun r2 => some r2
def zhx (v1 : zLZ) (s3 : Str) : Option Str := (zoK s3 v1.Query v1.HasQuery).bind fun r1 => some r1
def zkB (x_t : zLZ) : Option Str := if (x_t.Kind == 4) then some [42] else if (x_t.Kind == 3) then some [] else if (x_t.Path == []) then zhx x_t [47] else zhx x_t x_t.Path
def zhy (v1 : zL9) (l4 : List Str) : Option (Str × Int) := (zbf [] l4).bind fun r1 => (zbN r1).bind fun r2 => if (!(r2.2 == 0)) then some ([],27) else if (!(r2.1 == v1)) then some ([],27) else some (r1,0)
def zhz (v1 : zL9) (l4 : List Str) : Option (Str × Int) := if (!(v1.Port == (-1))) then (zcI v1.Port).bind fun r1 => if zl l4.length ([[58],r1] : List Str).length 16 then zhy v1 (l4 ++ ([[58],r1])) else none else zhy v1 l4
def zkC (x_h : zL9) : Option (Str × Int) := if (x_h.Kind == 3) then zhz x_h ([[91],x_h.Name,[93]]) else zhz x_h [x_h.Name]
def zgB (x_x : zLo) (x_a1 : Str) : Option Bool := (zbg x_x.Name x_a1).bind fun r1 => some r1
def zu (l0 : List zLo) (u1 : Str) (i7 : Int) : Nat → Int → Option Int
 | 0,_ => none
 | n + 1,i8 => if (decide (i8 < i7)) then (lAt l0 i8).bind fun r1 => (zgB r1 u1).bind fun r2 => if r2 then some i8 else (zj i8 1).bind fun r3 => zu l0 u1 i7 n r3 else some (-1)
def zJ (x_s : List zLo) (x_f : Str) : Option Int := zu x_s x_f (x_s.length : Int) fuel 0
def ziS (x_b : zLY) (x_name : Str) : Option (Str × Bool) := (zbO x_b x_name).bind fun r1 => if ((r1.length : Int) == 0) then some ([],false) else (lAt r1 0).bind fun r2 => some (r2,true)
def ze0 (x_b : zLY) (x_l : List zLo) : Option zLY := if zl x_b.zMv.length x_l.length 32 then some (⟨x_b.zMv ++ x_l⟩ : zLY) else none
def zh4 (x_b : zLY) (x_name : Str) (x_value : Str) : Option zLY := (zJ x_b.zMv x_name).bind fun r1 => if (decide (r1 < 0)) then (ze0 x_b [(⟨x_name,x_value⟩ : zLo)]).bind fun r2 => some r2 else (zcz x_b [x_name]).bind fun r3 => (zb1 r3.2.zMv r1 [(⟨x_name,x_value⟩ : zLo)]).bind fun r4 => some (⟨r4⟩ : zLY)
def zdz (vp0 : zMi) (v4 : zLm) : Option zMi := (ziS vp0.Bag [72,111,115,116]).bind fun r1 => if (!r1.2) then (ze0 vp0.Bag ([(⟨[72,111,115,116],v4.Host⟩ : zLo)])).bind fun r2 => some (⟨r2,vp0.zMQ⟩ : zMi) else some vp0
def zfd (x_w : zMi) (x_env : zLm) (x_t : zLZ) : Option zMi := if (x_t.Kind == 2) then (zkC x_t.Host).bind fun r1 => (zh4 x_w.Bag [72,111,115,116] r1.1).bind fun r2 => zdz (⟨r2,x_w.zMQ⟩ : zMi) x_env else zdz x_w x_env
def zb4 (x_w : zMi) : Option (zLq × Int) := (zbs x_w.Bag).bind fun r1 => some ((⟨x_w.zMQ.Kind,x_w.zMQ.Method,x_w.zMQ.Target,x_w.zMQ.Code,x_w.zMQ.Reason,x_w.zMQ.Minor,r1⟩ : zLq),0)
def strings_HasSuffix (x_s : Str) (x_suffix : Str) : Option Bool := (stringslite_HasSuffix x_s x_suffix).bind fun r1 => some r1
def zd1 (s0 : Str) (l10 : List zLK) (i11 : Int) : Nat → Int → Option (Str × Bool)
 | 0,_ => none
 | n + 1,i12 => if (decide (i12 < i11)) then (lAt l10 i12).bind fun r1 => (strings_CutPrefix s0 r1.From).bind fun r2 => if (!r2.2) then (zj i12 1).bind fun r3 => zd1 s0 l10 i11 n r3 else if (r1.From == []) then (zj i12 1).bind fun r4 => zd1 s0 l10 i11 n r4 else if (r2.1 == []) then (zhP r1.To r2.1).bind fun r5 => some (r5,true) else (strings_HasSuffix r1.From [47]).bind fun r6 => if r6 then (zhP r1.To r2.1).bind fun r7 => some (r7,true) else (sAt r2.1 0).bind fun r8 => (strings_IndexByte [47,63,35] r8).bind fun r9 => if (decide ((0 : Int) ≤ r9)) then (zhP r1.To r2.1).bind fun r10 => some (r10,true) else (zj i12 1).bind fun r11 => zd1 s0 l10 i11 n r11 else some (s0,false)
def zm2 (x_s : Str) (x_l : List zLK) : Option (Str × Bool) := zd1 x_s x_l (x_l.length : Int) fuel 0
def zhA (x_s : Str) (x_l : List zLK) : Option Str := (zm2 x_s x_l).bind fun r1 => if (!r1.2) then some x_s else (zg1 x_s).bind fun r2 => if (!r2) then some x_s else (zg1 r1.1).bind fun r3 => if (!r3) then some x_s else some r1.1
def zgC (x_a0 : UInt8) : Option Bool := some true
def zjx (v4 : zLs) (t6 : Bool) (v7 : zL4) : Option (zL4 × Bool) := if t6 then (zai v4).bind fun r1 => if r1 then (zbF zan [v7.Value]).bind fun r2 => if r2 then (zbu v7.Value [32,9]).bind fun r3 => some (v7,r3 == v7.Value) else some (v7,false) else some (v7,false) else some (v7,false)
def zk5 (x_s : Str) : Option (zL4 × Bool) := (zbu x_s [32,9]).bind fun r1 => (zgm r1).bind fun r2 => (zM r2).bind fun r3 => (zk r3.2.2 61).bind fun r4 => if r4.1 then (zH r4.2 zgC).bind fun r5 => zjx r5.2 r3.2.1 (⟨r3.1,r5.1,r4.1⟩ : zL4) else zjx r4.2 r3.2.1 (⟨r3.1,[],r4.1⟩ : zL4)
def zhB (x_b : UInt8) : Option Bool := (zdm x_b).bind fun r1 => if r1 then (strings_IndexByte [34,44,59,92] x_b).bind fun r2 => some (decide (r2 < 0)) else some false
def zl0 (x_s : Str) : Option Bool := (strings_CutPrefix x_s [34]).bind fun r1 => (strings_CutSuffix r1.1 [34]).bind fun r2 => if (r1.2 == r2.2) then (zbF zhB [r2.1]).bind fun r3 => some r3 else some false
def zgq (l41 : List Str) (i42 : Int) : Nat → zLH → Int → Option (zLH × Int)
 | 0,_,_ => none
 | n + 1,v7,i43 => if (decide (i43 < i42)) then (lAt l41 i43).bind fun r1 => (zk5 r1).bind fun r2 => if (!r2.2) then some ((⟨[],[],[]⟩ : zLH),2) else if zl v7.Attrs.length ([r2.1] : List zL4).length 40 then (zj i43 1).bind fun r3 => zgq l41 i42 n (⟨v7.Name,v7.Value,v7.Attrs ++ [r2.1]⟩ : zLH) r3 else none else some (v7,0)
def zjy (x_s : Str) : Option (zLH × Int) := (strings_Split x_s [59]).bind fun r1 => (lAt r1 0).bind fun r2 => (zk5 r2).bind fun r3 => if (!r3.2) then some ((⟨[],[],[]⟩ : zLH),2) else if (!r3.1.Has) then some ((⟨[],[],[]⟩ : zLH),2) else (zl0 r3.1.Value).bind fun r4 => if (!r4) then some ((⟨[],[],[]⟩ : zLH),2) else (znM r1 1).bind fun r5 => zgq r5 (r5.length : Int) fuel (⟨r3.1.Name,r3.1.Value,[]⟩ : zLH) 0
def zg7 (s1 : Str) (v2 : zLH) : Nat → Int → Option Int
 | 0,_ => none
 | n + 1,i5 => if (decide ((0 : Int) ≤ i5)) then (lAt v2.Attrs i5).bind fun r1 => (zbg r1.Name s1).bind fun r2 => if r2 then some i5 else (zey i5 1).bind fun r3 => zg7 s1 v2 n r3 else some (-1)
def zk6 (x_c : zLH) (x_name : Str) : Option Int := (zey (x_c.Attrs.length : Int) 1).bind fun r1 => zg7 x_name x_c fuel r1
def zoL (x_c : zLH) (x_name : Str) : Option (Str × Bool) := (zk6 x_c x_name).bind fun r1 => if (decide (r1 < 0)) then some ([],false) else (lAt x_c.Attrs r1).bind fun r2 => some (r2.Value,true)
def stringslite_TrimPrefix (x_s : Str) (x_prefix : Str) : Option Str := (stringslite_HasPrefix x_s x_prefix).bind fun r1 => if r1 then (zY x_s (x_prefix.length : Int)).bind fun r2 => some r2 else some x_s
def strings_TrimPrefix (x_s : Str) (x_prefix : Str) : Option Str := (stringslite_TrimPrefix x_s x_prefix).bind fun r1 => some r1
def zjz (x_name : Str) (x_domain : Str) : Option Bool := (zeX x_name).bind fun r1 => if (!r1) then some false else (zeX x_domain).bind fun r2 => if (!r2) then some false else (za9 x_name).bind fun r3 => if r3 then some false else (za9 x_domain).bind fun r4 => if r4 then some false else (zaU x_name).bind fun r5 => (zaU x_domain).bind fun r6 => if (r5 == r6) then some true else (zhP [46] r6).bind fun r7 => (strings_HasSuffix r5 r7).bind fun r8 => some r8
def zg8 (s0 : Str) (s6 : Str) (l11 : List zLK) (i12 : Int) : Nat → Int → Option (Str × Bool)
 | 0,_ => none
 | n + 1,i13 => if (decide (i13 < i12)) then (lAt l11 i13).bind fun r1 => (zjz s6 r1.From).bind fun r2 => if r2 then (zey (s6.length : Int) (r1.From.length : Int)).bind fun r3 => (sTo s6 r3).bind fun r4 => (zhP r4 r1.To).bind fun r5 => some (r5,true) else (zj i13 1).bind fun r6 => zg8 s0 s6 l11 i12 n r6 else some (s0,false)
def zm3 (x_name : Str) (x_l : List zLK) : Option (Str × Bool) := (strings_TrimPrefix x_name [46]).bind fun r1 => zg8 x_name r1 x_l (x_l.length : Int) fuel 0
def zkD (k0 : zLH → Int → Option zLH) (v8 : zLH) (i22 : Int) : Option zLH := (zj i22 1).bind fun r1 => k0 v8 r1
def zkE (k0 : zLH → Int → Option zLH) (v8 : zLH) (v10 : zL4) (i22 : Int) : Option zLH := if zl v8.Attrs.length ([v10] : List zL4).length 40 then zkD k0 (⟨v8.Name,v8.Value,v8.Attrs ++ [v10]⟩ : zLH) i22 else none
def zkF (v8 : zLH) : Option zLH := some v8
def zcK (s1 : Str) (s2 : Str) (i7 : Int) (l20 : List zL4) (i21 : Int) : Nat → zLH → Int → Option zLH
 | 0,_,_ => none
 | n + 1,v8,i22 => if (decide (i22 < i21)) then (lAt l20 i22).bind fun r1 => if (i22 == i7) then zkE (zcK s1 s2 i7 l20 i21 n) v8 (⟨r1.Name,s2,true⟩ : zL4) i22 else (zbg r1.Name s1).bind fun r2 => if r2 then zkD (zcK s1 s2 i7 l20 i21 n) v8 i22 else zkE (zcK s1 s2 i7 l20 i21 n) v8 r1 i22 else if (decide (i7 < 0)) then if zl v8.Attrs.length ([(⟨s1,s2,true⟩ : zL4)] : List zL4).length 40 then zkF (⟨v8.Name,v8.Value,v8.Attrs ++ [(⟨s1,s2,true⟩ : zL4)]⟩ : zLH) else none else zkF v8
def zoM (x_c : zLH) (x_name : Str) (x_value : Str) : Option zLH := (zk6 x_c x_name).bind fun r1 => zcK x_name x_value r1 x_c.Attrs (x_c.Attrs.length : Int) fuel (⟨x_c.Name,x_c.Value,[]⟩ : zLH) 0
def zW (l0 : List zL4) (l1 : List zL4) (i12 : Int) : Nat → Int → Option Bool
 | 0,_ => none
 | n + 1,i13 => if (decide (i13 < i12)) then (lAt l0 i13).bind fun r1 => (lAt l1 i13).bind fun r2 => if (!(r1 == r2)) then some false else (zj i13 1).bind fun r3 => zW l0 l1 i12 n r3 else some true
def zaO (x_s1 : List zL4) (x_s2 : List zL4) : Option Bool := if (!((x_s1.length : Int) == (x_s2.length : Int))) then some false else zW x_s1 x_s2 (x_s1.length : Int) fuel 0
def zm4 (x_a : zLH) (x_b : zLH) : Option Bool := if (x_a.Name == x_b.Name) then if (x_a.Value == x_b.Value) then (zaO x_a.Attrs x_b.Attrs).bind fun r1 => some r1 else some false else some false
def zfu (v1 : zLH) (l18 : List zL4) (i19 : Int) : Nat → List Str → Int → Option (Str × Int)
 | 0,_,_ => none
 | n + 1,l4,i20 => if (decide (i20 < i19)) then (lAt l18 i20).bind fun r1 => if r1.Has then (zhP r1.Name [61]).bind fun r2 => (zhP r2 r1.Value).bind fun r3 => if zl l4.length ([r3] : List Str).length 16 then (zj i20 1).bind fun r4 => zfu v1 l18 i19 n (l4 ++ [r3]) r4 else none else if zl l4.length ([r1.Name] : List Str).length 16 then (zj i20 1).bind fun r5 => zfu v1 l18 i19 n (l4 ++ [r1.Name]) r5 else none else (zbf [59,32] l4).bind fun r6 => (zjy r6).bind fun r7 => if (!(r7.2 == 0)) then some ([],2) else (zm4 r7.1 v1).bind fun r8 => if (!r8) then some ([],2) else some (r6,0)
def zm5 (x_c : zLH) : Option (Str × Int) := (zhP x_c.Name [61]).bind fun r1 => (zhP r1 x_c.Value).bind fun r2 => zfu x_c x_c.Attrs (x_c.Attrs.length : Int) fuel [r2] 0
def zis (x_s : Str) (x_l : List zLK) : Option Str := (zjy x_s).bind fun r1 => if (!(r1.2 == 0)) then some x_s else (zoL r1.1 [68,111,109,97,105,110]).bind fun r2 => (zm3 r2.1 x_l).bind fun r3 => if (!r3.2) then some x_s else (zoM r1.1 [68,111,109,97,105,110] r3.1).bind fun r4 => (zm5 r4).bind fun r5 => if (!(r5.2 == 0)) then some x_s else some r5.1
def zfV (k0 : zLm → List zLo → Int → Option (List zLo)) (v2 : zLm) (l5 : List zLo) (i6 : Int) (v7 : zLo) (i13 : Int) (s20 : Str) (t21 : Bool) : Option (List zLo) := if t21 then (zhA v7.Value v2.Locations).bind fun r1 => (lAt l5 i6).bind fun r2 => (zv1 l5 i6 (⟨r2.Name,r1⟩ : zLo)).bind fun r3 => (zj i13 1).bind fun r4 => k0 v2 r3 r4 else if (s20 == [115,101,116,45,99,111,111,107,105,101]) then (zis v7.Value v2.Domains).bind fun r5 => (lAt l5 i6).bind fun r6 => (zv1 l5 i6 (⟨r6.Name,r5⟩ : zLo)).bind fun r7 => (zj i13 1).bind fun r8 => k0 v2 r7 r8 else (zj i13 1).bind fun r9 => k0 v2 l5 r9
def zbw (i12 : Int) : Nat → zLm → List zLo → Int → Option (List zLo)
 | 0,_,_,_ => none
 | n + 1,v2,l5,i13 => if (decide (i13 < i12)) then (lAt l5 i13).bind fun r1 => (zaU r1.Name).bind fun r2 => if (r2 == [108,111,99,97,116,105,111,110]) then zfV (zbw i12 n) v2 l5 i13 r1 i13 r2 true else zfV (zbw i12 n) v2 l5 i13 r1 i13 r2 (r2 == [99,111,110,116,101,110,116,45,108,111,99,97,116,105,111,110]) else some l5
def zit (x_env : zLm) (x_l : List zLo) : Option (List zLo) := if zl ([] : List zLo).length x_l.length 32 then zbw ((([] : List zLo) ++ x_l).length : Int) fuel x_env (([] : List zLo) ++ x_l) 0 else none
def zm6 (x_a0 : zLm) (x_a1 : zLq) : Option (zLq × Int) := (zrL x_a1.Fields).bind fun r1 => (zfb r1).bind fun r2 => if (x_a1.Kind == 1) then (zjw x_a1.Method x_a1.Target).bind fun r3 => if (!(r3.2 == 0)) then some ((⟨0,[],[],0,[],0,[]⟩ : zLq),20) else if (r3.1.Kind == 3) then some ((⟨0,[],[],0,[],0,[]⟩ : zLq),20) else (zkB r3.1).bind fun r4 => (zfd (⟨r2,(⟨x_a1.Kind,x_a1.Method,r4,x_a1.Code,x_a1.Reason,1,x_a1.Fields⟩ : zLq)⟩ : zMi) x_a0 r3.1).bind fun r5 => (zb4 r5).bind fun r6 => some (r6.1,r6.2) else if (x_a1.Kind == 2) then (zbs r2).bind fun r7 => (zit x_a0 r7).bind fun r8 => (zfb r8).bind fun r9 => (zb4 (⟨r9,(⟨x_a1.Kind,x_a1.Method,x_a1.Target,x_a1.Code,x_a1.Reason,1,x_a1.Fields⟩ : zLq)⟩ : zMi)).bind fun r10 => some (r10.1,r10.2) else some ((⟨0,[],[],0,[],0,[]⟩ : zLq),1)
def zcL (x_name : Str) (x_value : Str) : Option zLV := some (⟨x_name,x_value⟩ : zLV)
def zm7 (x_env : zLm) (x_h : zLq) : Option (List zLV) := (zcL [99,108,105,101,110,116] x_env.Client).bind fun r1 => (zcL [104,111,115,116] x_env.Host).bind fun r2 => (zcL [115,99,104,101,109,101] x_env.Scheme).bind fun r3 => if (x_h.Kind == 1) then (znX x_h.Target).bind fun r4 => (zcL [109,101,116,104,111,100] x_h.Method).bind fun r5 => (zcL [112,97,116,104] r4.1).bind fun r6 => some [r1,r2,r5,r6,r3] else if (x_h.Kind == 2) then (zcI x_h.Code).bind fun r7 => (zcL [115,116,97,116,117,115] r7).bind fun r8 => some [r1,r2,r3,r8] else some []
def zm8 (x_r : zLr) : Option (List Str) := (zaU x_r.Name).bind fun r1 => if (x_r.Kind == 4) then (zaU x_r.To).bind fun r2 => if zl ([r1] : List Str).length ([r2] : List Str).length 16 then some (([r1] : List Str) ++ [r2]) else none else some [r1]
def zg9 (k0 : Int → Option Int) (i4 : Int) (t34 : Bool) : Option Int := if t34 then (zj i4 1).bind fun r1 => k0 r1 else some i4
def zcU (l0 : List zLr) (v3 : zMc) : Nat → Int → Option Int
 | 0,_ => none
 | n + 1,i4 => if (decide (i4 < (l0.length : Int))) then (lAt l0 i4).bind fun r1 => if (r1.Guard == v3) then (zey i4 1).bind fun r2 => (lAt l0 r2).bind fun r3 => (zm8 r3).bind fun r4 => (zaU v3.Name).bind fun r5 => (zB r4 r5).bind fun r6 => zg9 (zcU l0 v3 n) i4 (!r6) else zg9 (zcU l0 v3 n) i4 false else zg9 (zcU l0 v3 n) i4 false
def zm9 (x_l : List zLr) : Option Int := (lAt x_l 0).bind fun r1 => zcU x_l r1.Guard fuel 1
def zkG (x_g : zMc) (x_n : Int) : Option zMo := if (x_g.Kind == 1) then some (⟨1,x_g.Name,[],[],x_n⟩ : zMo) else if (x_g.Kind == 2) then some (⟨2,x_g.Name,[],[],x_n⟩ : zMo) else if (x_g.Kind == 3) then some (⟨3,x_g.Name,x_g.Value,[],x_n⟩ : zMo) else some (⟨0,x_g.Name,[],[],x_n⟩ : zMo)
def zna (x_r : zLr) : Option zMo := if (x_r.Kind == 1) then (zfr x_r.Parts).bind fun r1 => some (⟨6,x_r.Name,[],r1,0⟩ : zMo) else if (x_r.Kind == 2) then (zfr x_r.Parts).bind fun r2 => some (⟨5,x_r.Name,[],r2,0⟩ : zMo) else if (x_r.Kind == 3) then some (⟨4,x_r.Name,[],[],0⟩ : zMo) else if (x_r.Kind == 4) then some (⟨7,x_r.Name,x_r.To,[],0⟩ : zMo) else some (⟨0,[],[],[],0⟩ : zMo)
def zbc (l6 : List zLr) (i7 : Int) : Nat → zLT → Int → Option zLT
 | 0,_,_ => none
 | n + 1,vp0,i8 => if (decide (i8 < i7)) then (lAt l6 i8).bind fun r1 => (zna r1).bind fun r2 => if zl vp0.zLI.length ([r2] : List zMo).length 72 then (zj i8 1).bind fun r3 => zbc l6 i7 n (⟨vp0.zLI ++ [r2]⟩ : zLT) r3 else none else some vp0
def zdA (x_c : zLT) (x_l : List zLr) : Option zLT := zbc x_l (x_l.length : Int) fuel x_c 0
def zce (k0 : zLT → List zLr → Option zLT) (vp0 : zLT) (l1 : List zLr) (i4 : Int) : Option zLT := (lTo l1 i4).bind fun r1 => (zdA vp0 r1).bind fun r2 => (znM l1 i4).bind fun r3 => k0 r2 r3
def z6 : Nat → zLT → List zLr → Option zLT
 | 0,_,_ => none
 | n + 1,vp0,l1 => if (decide ((0 : Int) < (l1.length : Int))) then (lAt l1 0).bind fun r1 => if (!(r1.Guard.Kind == 0)) then (zm9 l1).bind fun r2 => (zkG r1.Guard r2).bind fun r3 => if zl vp0.zLI.length ([r3] : List zMo).length 72 then zce (z6 n) (⟨vp0.zLI ++ [r3]⟩ : zLT) l1 r2 else none else zce (z6 n) vp0 l1 1 else some vp0
def zdB (x_c : zLT) (x_l : List zLr) : Option zLT := z6 fuel x_c x_l
def zcA (i0 : Int) (l26 : List zLr) (i27 : Int) : Nat → List zLr → Int → Option (List zMo × Int)
 | 0,_,_ => none
 | n + 1,l8,i28 => if (decide (i28 < i27)) then (lAt l26 i28).bind fun r1 => if (r1.Side == i0) then if zl l8.length ([r1] : List zLr).length 112 then (zj i28 1).bind fun r2 => zcA i0 l26 i27 n (l8 ++ [r1]) r2 else none else (zj i28 1).bind fun r3 => zcA i0 l26 i27 n l8 r3 else (zdB (⟨[]⟩ : zLT) l8).bind fun r4 => some (r4.zLI,0)
def zfW (i0 : Int) (l1 : List zLr) (t17 : Bool) : Option (List zMo × Int) := if t17 then some ([],1) else (zk1 l1).bind fun r1 => if (!(r1.2 == 0)) then some ([],r1.2) else zcA i0 l1 (l1.length : Int) fuel [] 0
def ziu (x_side : Int) (x_l : List zLr) : Option (List zMo × Int) := if (!(x_side == 1)) then zfW x_side x_l (!(x_side == 2)) else zfW x_side x_l false
def zeh (x_m : zLM) (x_op : zMo) : Option Bool := (ziS x_m.Bag x_op.Name).bind fun r1 => if (x_op.Kind == 1) then some (!r1.2) else if (x_op.Kind == 2) then some r1.2 else if (x_op.Kind == 3) then if (!r1.2) then some true else some (!(r1.1 == x_op.Text)) else some false
def zjA (s1 : Str) (l7 : List zLV) (i8 : Int) : Nat → Int → Option Str
 | 0,_ => none
 | n + 1,i9 => if (decide (i9 < i8)) then (lAt l7 i9).bind fun r1 => if (r1.Name == s1) then some r1.Value else (zj i9 1).bind fun r2 => zjA s1 l7 i8 n r2 else some []
def zrN (x_known : List zLV) (x_name : Str) : Option Str := zjA x_name x_known (x_known.length : Int) fuel 0
def zkH (k0 : List UInt8 → Int → Option Str) (s0 : Str) (l3 : List UInt8) (i4 : Int) (t13 : Bool) : Option Str := if t13 then (sAt s0 i4).bind fun r1 => (zan r1).bind fun r2 => if r2 then (sAt s0 i4).bind fun r3 => if zl l3.length ([r3] : List UInt8).length 1 then (zj i4 1).bind fun r4 => k0 (l3 ++ [r3]) r4 else none else (zj i4 1).bind fun r5 => k0 l3 r5 else (zbu l3 [32,9]).bind fun r6 => some r6
def ze1 (s0 : Str) : Nat → List UInt8 → Int → Option Str
 | 0,_,_ => none
 | n + 1,l3,i4 => if (decide (i4 < (s0.length : Int))) then zkH (ze1 s0 n) s0 l3 i4 (decide ((l3.length : Int) < 65536)) else zkH (ze1 s0 n) s0 l3 i4 false
def zoN (x_s : Str) : Option Str := ze1 x_s fuel [] 0
def zeD (l0 : List zLV) (v7 : zLY) (l15 : List zLD) (i16 : Int) : Nat → List Str → Int → Option Str
 | 0,_,_ => none
 | n + 1,l8,i17 => if (decide (i17 < i16)) then (lAt l15 i17).bind fun r1 => if (r1.Kind == 1) then if zl l8.length ([r1.Text] : List Str).length 16 then (zj i17 1).bind fun r2 => zeD l0 v7 l15 i16 n (l8 ++ [r1.Text]) r2 else none else if (r1.Kind == 2) then (zrN l0 r1.Text).bind fun r3 => if zl l8.length ([r3] : List Str).length 16 then (zj i17 1).bind fun r4 => zeD l0 v7 l15 i16 n (l8 ++ [r3]) r4 else none else if (r1.Kind == 3) then (ziS v7 r1.Text).bind fun r5 => if zl l8.length ([r5.1] : List Str).length 16 then (zj i17 1).bind fun r6 => zeD l0 v7 l15 i16 n (l8 ++ [r5.1]) r6 else none else (zj i17 1).bind fun r7 => zeD l0 v7 l15 i16 n l8 r7 else (zbf [] l8).bind fun r8 => (zoN r8).bind fun r9 => some r9
def zrO (x_known : List zLV) (x_fields : List zLo) (x_l : List zLD) : Option Str := (zfb x_fields).bind fun r1 => zeD x_known (⟨r1.zMv⟩ : zLY) x_l (x_l.length : Int) fuel [] 0
def zco (x_m : zLM) (x_l : List zLD) : Option Str := (zbs x_m.Bag).bind fun r1 => (zrO x_m.zMF r1 x_l).bind fun r2 => some r2
def zb5 (s1 : Str) (s2 : Str) (i15 : Int) : Nat → zLY → Int → Int → Option (Int × zLY)
 | 0,_,_,_ => none
 | n + 1,vp0,i7,i16 => if (decide (i16 < i15)) then (lAt vp0.zMv i16).bind fun r1 => (zbg r1.Name s1).bind fun r2 => if r2 then (lAt vp0.zMv i16).bind fun r3 => (zv1 vp0.zMv i16 (⟨s2,r3.Value⟩ : zLo)).bind fun r4 => (zj i7 1).bind fun r5 => (zj i16 1).bind fun r6 => zb5 s1 s2 i15 n (⟨r4⟩ : zLY) r5 r6 else (zj i16 1).bind fun r7 => zb5 s1 s2 i15 n vp0 i7 r7 else some (i7,vp0)
def zhC (x_b : zLY) (x_from : Str) (x_to : Str) : Option (Int × zLY) := zb5 x_from x_to (x_b.zMv.length : Int) fuel x_b 0 0
def zeE (x_m : zLM) (x_op : zMo) : Option zLM := if (x_op.Kind == 4) then (zcz x_m.Bag [x_op.Name]).bind fun r1 => some (⟨r1.2,x_m.zMF,x_m.zMM⟩ : zLM) else if (x_op.Kind == 5) then (zco x_m x_op.Parts).bind fun r2 => (ze0 x_m.Bag [(⟨x_op.Name,r2⟩ : zLo)]).bind fun r3 => some (⟨r3,x_m.zMF,x_m.zMM⟩ : zLM) else if (x_op.Kind == 6) then (zco x_m x_op.Parts).bind fun r4 => (zh4 x_m.Bag x_op.Name r4).bind fun r5 => some (⟨r5,x_m.zMF,x_m.zMM⟩ : zLM) else if (x_op.Kind == 7) then (zhC x_m.Bag x_op.Name x_op.Text).bind fun r6 => some (⟨r6.2,x_m.zMF,x_m.zMM⟩ : zLM) else some x_m
def zcM (k0 : zLM → Int → Option zLM) (vp0 : zLM) (i4 : Int) : Option zLM := (zj i4 1).bind fun r1 => k0 vp0 r1
def zaf (l1 : List zMo) : Nat → zLM → Int → Option zLM
 | 0,_,_ => none
 | n + 1,vp0,i4 => if (decide (i4 < (l1.length : Int))) then (zj vp0.zMM 1).bind fun r1 => (lAt l1 i4).bind fun r2 => (zeh (⟨vp0.Bag,vp0.zMF,r1⟩ : zLM) r2).bind fun r3 => if r3 then (lAt l1 i4).bind fun r4 => (zj i4 (min (max r4.N 0) (l1.length : Int))).bind fun r5 => zcM (zaf l1 n) (⟨vp0.Bag,vp0.zMF,r1⟩ : zLM) r5 else (lAt l1 i4).bind fun r6 => (zeE (⟨vp0.Bag,vp0.zMF,r1⟩ : zLM) r6).bind fun r7 => zcM (zaf l1 n) r7 i4 else some vp0
def zei (x_m : zLM) (x_l : List zMo) : Option zLM := zaf x_l fuel x_m 0
def znb (x_known : List zLV) (x_fields : List zLo) (x_l : List zMo) : Option (List zLo) := (zfb x_fields).bind fun r1 => (zei (⟨r1,x_known,0⟩ : zLM) x_l).bind fun r2 => (zbs r2.Bag).bind fun r3 => some r3
def zkI (x_known : List zLV) (x_fields : List zLo) (x_side : Int) (x_l : List zLr) : Option (List zLo × Int) := (ziu x_side x_l).bind fun r1 => if (!(r1.2 == 0)) then some ([],r1.2) else (znb x_known x_fields r1.1).bind fun r2 => some (r2,0)
def zk7 (x_l : List Str) : Option Str := (zbf [44,32] x_l).bind fun r1 => some r1
def zkJ (x_s : Str) (x_l : List Str) : Option Str := if ((x_l.length : Int) == 0) then some x_s else (zbu x_s [32,9,44]).bind fun r1 => if (r1 == []) then (zk7 x_l).bind fun r2 => some r2 else (zde x_s [32,9]).bind fun r3 => if zl ([r3] : List Str).length x_l.length 16 then (zk7 (([r3] : List Str) ++ x_l)).bind fun r4 => some r4 else none
def zdr (vp0 : zLY) (s1 : Str) (s2 : Str) : Nat → Int → Option zLY
 | 0,_ => none
 | n + 1,i6 => if (decide ((0 : Int) ≤ i6)) then (lAt vp0.zMv i6).bind fun r1 => (zbg r1.Name s1).bind fun r2 => if r2 then (lAt vp0.zMv i6).bind fun r3 => (zkJ r3.Value [s2]).bind fun r4 => (lAt vp0.zMv i6).bind fun r5 => (zv1 vp0.zMv i6 (⟨r5.Name,r4⟩ : zLo)).bind fun r6 => some (⟨r6⟩ : zLY) else (zey i6 1).bind fun r7 => zdr vp0 s1 s2 n r7 else (ze0 vp0 [(⟨s1,s2⟩ : zLo)]).bind fun r8 => some r8
def zdQ (x_b : zLY) (x_name : Str) (x_element : Str) : Option zLY := (zey (x_b.zMv.length : Int) 1).bind fun r1 => zdr x_b x_name x_element fuel r1
def zoO (x_v : zL5) (x_l : List zLo) : Option (List zLo × Int) := (zqD x_v).bind fun r1 => if (!(r1.2 == 0)) then some ([],r1.2) else (zfb x_l).bind fun r2 => (zdQ r2 [86,105,97] r1.1).bind fun r3 => (zbs r3).bind fun r4 => some (r4,0)
def zjB (x_client : Str) : Option Str := (za9 x_client).bind fun r1 => if r1 then some x_client else (zhr x_client).bind fun r2 => if r2 then (zhP [91] x_client).bind fun r3 => (zhP r3 [93]).bind fun r4 => some r4 else some [117,110,107,110,111,119,110]
def zgK (l3 : List zLV) : Option (List zLV) := some l3
def zgL (v1 : zLm) (l3 : List zLV) : Option (List zLV) := if (!(v1.Scheme == [])) then if zl l3.length ([(⟨[112,114,111,116,111],v1.Scheme⟩ : zLV)] : List zLV).length 32 then zgK (l3 ++ ([(⟨[112,114,111,116,111],v1.Scheme⟩ : zLV)])) else none else zgK l3
def zjC (x_env : zLm) : Option (List zLV) := (zjB x_env.Client).bind fun r1 => if (!(x_env.Host == [])) then if zl ([(⟨[102,111,114],r1⟩ : zLV)] : List zLV).length ([(⟨[104,111,115,116],x_env.Host⟩ : zLV)] : List zLV).length 32 then zgL x_env (([(⟨[102,111,114],r1⟩ : zLV)] : List zLV) ++ ([(⟨[104,111,115,116],x_env.Host⟩ : zLV)])) else none else zgL x_env ([(⟨[102,111,114],r1⟩ : zLV)])
def ziv (k0 : List UInt8 → Int → Option (Str × Int)) (s0 : Str) (l4 : List UInt8) (i5 : Int) (i13 : Int) : Option (Str × Int) := (sAt s0 i5).bind fun r1 => if zl l4.length ([r1] : List UInt8).length 1 then (zj i13 1).bind fun r2 => k0 (l4 ++ [r1]) r2 else none
def ziw (k0 : List UInt8 → Int → Option (Str × Int)) (s0 : Str) (l4 : List UInt8) (i5 : Int) (i13 : Int) (t25 : Bool) : Option (Str × Int) := if t25 then if zl l4.length ([92] : List UInt8).length 1 then ziv k0 s0 (l4 ++ [92]) i5 i13 else none else ziv k0 s0 l4 i5 i13
def zcc (s0 : Str) (i12 : Int) : Nat → List UInt8 → Int → Option (Str × Int)
 | 0,_,_ => none
 | n + 1,l4,i13 => if (decide (i13 < i12)) then (sAt s0 i13).bind fun r1 => if (r1 == 34) then ziw (zcc s0 i12 n) s0 l4 i13 i13 true else (sAt s0 i13).bind fun r2 => ziw (zcc s0 i12 n) s0 l4 i13 i13 (r2 == 92) else if zl l4.length ([34] : List UInt8).length 1 then some (l4 ++ [34],0) else none
def zl1 (x_s : Str) : Option (Str × Int) := (zbF zan [x_s]).bind fun r1 => if (!r1) then some ([],2) else zcc x_s (x_s.length : Int) fuel [34] 0
def zkK (x_s : Str) : Option (Str × Int) := (zdK x_s).bind fun r1 => if r1 then some (x_s,0) else (zl1 x_s).bind fun r2 => some (r2.1,r2.2)
def zha (l9 : List zLV) (i10 : Int) : Nat → List Str → Int → Option (Str × Int)
 | 0,_,_ => none
 | n + 1,l4,i11 => if (decide (i11 < i10)) then (lAt l9 i11).bind fun r1 => (zkK r1.Value).bind fun r2 => if (!(r2.2 == 0)) then some ([],2) else (zdK r1.Name).bind fun r3 => if (!r3) then some ([],2) else (zhP r1.Name [61]).bind fun r4 => (zhP r4 r2.1).bind fun r5 => if zl l4.length ([r5] : List Str).length 16 then (zj i11 1).bind fun r6 => zha l9 i10 n (l4 ++ [r5]) r6 else none else if ((l4.length : Int) == 0) then some ([],2) else (zbf [59] l4).bind fun r7 => some (r7,0)
def znc (x_l : List zLV) : Option (Str × Int) := zha x_l (x_l.length : Int) fuel [] 0
def zhD (x_env : zLm) (x_l : List zLo) : Option (List zLo × Int) := (zjC x_env).bind fun r1 => (znc r1).bind fun r2 => if (!(r2.2 == 0)) then some ([],r2.2) else (zfb x_l).bind fun r3 => (zdQ r3 [70,111,114,119,97,114,100,101,100] r2.1).bind fun r4 => (zbs r4).bind fun r5 => some (r5,0)
def ztK (x_s : Str) : Option Bool := (za9 x_s).bind fun r1 => if r1 then some true else (zhr x_s).bind fun r2 => some r2
def zkL (s0 : Str) (l1 : List zLo) : Option (List zLo) := (zfb l1).bind fun r1 => (zdQ r1 [88,45,70,111,114,119,97,114,100,101,100,45,70,111,114] s0).bind fun r2 => (zbs r2).bind fun r3 => some r3
def zoP (x_client : Str) (x_l : List zLo) : Option (List zLo) := (ztK x_client).bind fun r1 => if (!r1) then zkL [117,110,107,110,111,119,110] x_l else zkL x_client x_l
def zkM (v5 : zLq) (l8 : List zLo) (i9 : Int) : Option (zLq × Int) := if (!(i9 == 0)) then some ((⟨0,[],[],0,[],0,[]⟩ : zLq),i9) else (zfb l8).bind fun r1 => (zb4 (⟨r1,v5⟩ : zMi)).bind fun r2 => some (r2.1,r2.2)
def zkN (v3 : zLm) (v5 : zLq) (l8 : List zLo) (i9 : Int) (t46 : Bool) : Option (zLq × Int) := if t46 then (zhD v3 l8).bind fun r1 => (zoP v3.Client r1.1).bind fun r2 => zkM v5 r2 r1.2 else zkM v5 l8 i9
def ze2 (i1 : Int) (v3 : zLm) (v5 : zLq) (t26 : Bool) : Option (zLq × Int) := if t26 then some ((⟨0,[],[],0,[],0,[]⟩ : zLq),1) else (zcI i1).bind fun r1 => (zhP [49,46] r1).bind fun r2 => (zoO (⟨[],r2,v3.By,[]⟩ : zL5) v5.Fields).bind fun r3 => if (r3.2 == 0) then zkN v3 v5 r3.1 r3.2 (v5.Kind == 1) else zkN v3 v5 r3.1 r3.2 false
def zoQ (x_a0 : zLm) (x_a1 : Int) (x_a2 : zLq) : Option (zLq × Int) := if (!(x_a2.Kind == 1)) then if (!(x_a2.Kind == 2)) then ze2 x_a1 x_a0 x_a2 true else if (!(x_a1 == 0)) then ze2 x_a1 x_a0 x_a2 (!(x_a1 == 1)) else ze2 x_a1 x_a0 x_a2 false else if (!(x_a1 == 0)) then ze2 x_a1 x_a0 x_a2 (!(x_a1 == 1)) else ze2 x_a1 x_a0 x_a2 false
def zkO (x_f : zLy) : Option (List zLo) := if (x_f.Kind == 2) then (zcI x_f.N).bind fun r1 => some ([(⟨[67,111,110,116,101,110,116,45,76,101,110,103,116,104],r1⟩ : zLo)]) else if (x_f.Kind == 3) then some ([(⟨[84,114,97,110,115,102,101,114,45,69,110,99,111,100,105,110,103],[99,104,117,110,107,101,100]⟩ : zLo)]) else some []
def zhE (x_env : zLm) (x_f : zLy) (x_h : zLq) (x_l : List zLr) : Option (zLq × Int) := (zm6 x_env x_h).bind fun r1 => if (!(r1.2 == 0)) then some ((⟨0,[],[],0,[],0,[]⟩ : zLq),r1.2) else (zm7 x_env r1.1).bind fun r2 => (zkI r2 r1.1.Fields r1.1.Kind x_l).bind fun r3 => if (!(r3.2 == 0)) then some ((⟨0,[],[],0,[],0,[]⟩ : zLq),r3.2) else (zoQ x_env x_h.Minor (⟨r1.1.Kind,r1.1.Method,r1.1.Target,r1.1.Code,r1.1.Reason,r1.1.Minor,r3.1⟩ : zLq)).bind fun r4 => if (!(r4.2 == 0)) then some ((⟨0,[],[],0,[],0,[]⟩ : zLq),r4.2) else (zkO x_f).bind fun r5 => if zl r4.1.Fields.length r5.length 32 then some ((⟨r4.1.Kind,r4.1.Method,r4.1.Target,r4.1.Code,r4.1.Reason,r4.1.Minor,r4.1.Fields ++ r5⟩ : zLq),0) else none
def zcV (x_p : zMf) : Option (Int × Bool × zLs) := (zam x_p.Scanner).bind fun r1 => if (!r1.2) then some (0,false,x_p.Scanner) else (zaI r1.1).bind fun r2 => if (!r2) then some (0,false,x_p.Scanner) else (zk x_p.Scanner r1.1).bind fun r3 => some (((r1.1 - 48).toNat : Int),true,r3.2)
def zbP (x_p : zMf) : Option (Int × Int × Bool × zLs) := (zb3 x_p.Scanner [72,84,84,80,47]).bind fun r1 => if (!r1.1) then some (0,0,false,r1.2) else (zcV (⟨r1.2⟩ : zMf)).bind fun r2 => (zk r2.2.2 46).bind fun r3 => (zcV (⟨r3.2⟩ : zMf)).bind fun r4 => if r2.2.1 then if r3.1 then some (r2.1,r4.1,r4.2.1,r4.2.2) else some (r2.1,r4.1,false,r4.2.2) else some (r2.1,r4.1,false,r4.2.2)
def zgr (x_s : Str) : Option Bool := (zgm x_s).bind fun r1 => (zbP (⟨r1⟩ : zMf)).bind fun r2 => if r2.2.2.1 then (zai r2.2.2.2).bind fun r3 => if r3 then if (!(r2.1 == 1)) then some true else some (decide ((1 : Int) < r2.2.1)) else some false else some false
def zb6 (x_b : UInt8) : Option Bool := some (!(x_b == 32))
def zcW (x_p : zMf) : Option (Int × Bool × zLs) := (zbP x_p).bind fun r1 => if r1.2.2.1 then if (r1.1 == 1) then some (r1.2.1,decide (r1.2.1 ≤ 1),r1.2.2.2) else some (r1.2.1,false,r1.2.2.2) else some (r1.2.1,false,r1.2.2.2)
def zgM (x_a0 : Str) : Option (zLq × Int) := (zcm x_a0 32).bind fun r1 => (zj r1 1).bind fun r2 => (zY x_a0 r2).bind fun r3 => (zgr r3).bind fun r4 => if r4 then some ((⟨0,[],[],0,[],0,[]⟩ : zLq),26) else (zgm x_a0).bind fun r5 => (zM r5).bind fun r6 => (zk r6.2.2 32).bind fun r7 => (zH r7.2 zb6).bind fun r8 => (zk r8.2 32).bind fun r9 => (zcW (⟨r9.2⟩ : zMf)).bind fun r10 => (zjw r6.1 r8.1).bind fun r11 => if (!r6.2.1) then some ((⟨0,[],[],0,[],0,[]⟩ : zLq),20) else if (!r7.1) then some ((⟨0,[],[],0,[],0,[]⟩ : zLq),20) else if (!r9.1) then some ((⟨0,[],[],0,[],0,[]⟩ : zLq),20) else if (!r10.2.1) then some ((⟨0,[],[],0,[],0,[]⟩ : zLq),20) else (zai r10.2.2).bind fun r12 => if (!r12) then some ((⟨0,[],[],0,[],0,[]⟩ : zLq),20) else if (!(r11.2 == 0)) then some ((⟨0,[],[],0,[],0,[]⟩ : zLq),20) else some ((⟨1,r6.1,r8.1,0,[],r10.1,[]⟩ : zLq),0)
def zhF (x_a0 : Str) : Option (zLq × Int) := (strings_Cut x_a0 [32]).bind fun r1 => (zgr r1.1).bind fun r2 => if r2 then some ((⟨0,[],[],0,[],0,[]⟩ : zLq),26) else (zgm x_a0).bind fun r3 => (zcW (⟨r3⟩ : zMf)).bind fun r4 => (zk r4.2.2 32).bind fun r5 => (zH r5.2 zaI).bind fun r6 => (zk r6.2 32).bind fun r7 => (zdl r6.1 599).bind fun r8 => if (!r4.2.1) then some ((⟨0,[],[],0,[],0,[]⟩ : zLq),20) else if (!r5.1) then some ((⟨0,[],[],0,[],0,[]⟩ : zLq),20) else if (!r7.1) then some ((⟨0,[],[],0,[],0,[]⟩ : zLq),20) else if (!((r6.1.length : Int) == 3)) then some ((⟨0,[],[],0,[],0,[]⟩ : zLq),20) else if (!(r8.2 == 0)) then some ((⟨0,[],[],0,[],0,[]⟩ : zLq),20) else if (decide (r8.1 < 100)) then some ((⟨0,[],[],0,[],0,[]⟩ : zLq),20) else (zal r7.2).bind fun r9 => (zbF zan [r9]).bind fun r10 => if (!r10) then some ((⟨0,[],[],0,[],0,[]⟩ : zLq),20) else (zal r7.2).bind fun r11 => some ((⟨2,[],[],r8.1,r11,r4.1,[]⟩ : zLq),0)
def zfX (i0 : Int) (s1 : Str) (t6 : Bool) : Option (zLq × Int) := if t6 then some ((⟨0,[],[],0,[],0,[]⟩ : zLq),1) else (strings_ContainsAny s1 [13,10]).bind fun r1 => if r1 then some ((⟨0,[],[],0,[],0,[]⟩ : zLq),24) else if (i0 == 1) then (zgM s1).bind fun r2 => some (r2.1,r2.2) else (zhF s1).bind fun r3 => some (r3.1,r3.2)
def zdn (x_kind : Int) (x_s : Str) : Option (zLq × Int) := if (!(x_kind == 1)) then zfX x_kind x_s (!(x_kind == 2)) else zfX x_kind x_s false
def zbQ (s5 : Str) (i7 : Int) (t8 : Bool) : Option (Str × Int) := if (!(i7 == 0)) then some ([],20) else if (!t8) then some ([],20) else some (s5,0)
def zgN (v1 : zLq) (s5 : Str) : Option (Str × Int) := (zdn v1.Kind s5).bind fun r1 => if (r1.2 == 1) then some ([],r1.2) else if (r1.1.Method == v1.Method) then if (r1.1.Target == v1.Target) then if (r1.1.Minor == v1.Minor) then if (r1.1.Code == v1.Code) then zbQ s5 r1.2 (r1.1.Reason == v1.Reason) else zbQ s5 r1.2 false else zbQ s5 r1.2 false else zbQ s5 r1.2 false else zbQ s5 r1.2 false
def zhb (x_a0 : zLq) : Option (Str × Int) := (zcI x_a0.Minor).bind fun r1 => (zhP [72,84,84,80,47,49,46] r1).bind fun r2 => (zbf [32] [x_a0.Method,x_a0.Target,r2]).bind fun r3 => if (x_a0.Kind == 2) then (zcI x_a0.Code).bind fun r4 => (zbf [32] [r2,r4,x_a0.Reason]).bind fun r5 => zgN x_a0 r5 else zgN x_a0 r3
def zkP (k0 : Int → Option Bool) (i27 : Int) (t41 : Bool) : Option Bool := if t41 then some false else (zj i27 1).bind fun r1 => k0 r1
def ze3 (l25 : List Str) (i26 : Int) : Nat → Int → Option Bool
 | 0,_ => none
 | n + 1,i27 => if (decide (i27 < i26)) then (lAt l25 i27).bind fun r1 => (zbN r1).bind fun r2 => if (!(r2.2 == 0)) then zkP (ze3 l25 i26 n) i27 (!(r1 == [])) else zkP (ze3 l25 i26 n) i27 false else some true
def zoR (x_h : zLq) : Option Bool := if (!(x_h.Kind == 1)) then some true else (zfb x_h.Fields).bind fun r1 => (zbO r1 [72,111,115,116]).bind fun r2 => if (decide ((1 : Int) < (r2.length : Int))) then some false else if (decide ((r2.length : Int) < x_h.Minor)) then some false else ze3 r2 (r2.length : Int) fuel 0
def zmk (x_h : zLq) : Option Int := if (decide ((100 : Int) < (x_h.Fields.length : Int))) then some 3 else (zoR x_h).bind fun r1 => if (!r1) then some 27 else some 0
def zh5 (v1 : zLq) (l17 : List zLo) (i18 : Int) : Nat → Int → Option Int
 | 0,_ => none
 | n + 1,i19 => if (decide (i19 < i18)) then (lAt l17 i19).bind fun r1 => (zew r1).bind fun r2 => if (!(r2 == 0)) then some r2 else (zj i19 1).bind fun r3 => zh5 v1 l17 i18 n r3 else (zmk v1).bind fun r4 => some r4
def zml (x_h : zLq) : Option Int := (zhb x_h).bind fun r1 => if (!(r1.2 == 0)) then some r1.2 else zh5 x_h x_h.Fields (x_h.Fields.length : Int) fuel 0
def zrP (x_most : Int) : Option zMa := some (⟨[],max x_most 0⟩ : zMa)
def zhG (x_q : zMa) : Option Int := (zey x_q.zLN (x_q.zMR.length : Int)).bind fun r1 => some r1
def zcX (l29 : List Str) (i30 : Int) : Nat → zMa → Int → Option (Int × zMa)
 | 0,_,_ => none
 | n + 1,vp0,i31 => if (decide (i31 < i30)) then (lAt l29 i31).bind fun r1 => if zl vp0.zMR.length r1.length 1 then (zj i31 1).bind fun r2 => zcX l29 i30 n (⟨vp0.zMR ++ r1,vp0.zLN⟩ : zMa) r2 else none else some (0,vp0)
def zcY (vp0 : zMa) (l1 : List Str) (l14 : List Str) (i15 : Int) : Nat → Int → Int → Option (Int × zMa)
 | 0,_,_ => none
 | n + 1,i5,i16 => if (decide (i16 < i15)) then (lAt l14 i16).bind fun r1 => if (decide (i5 < (r1.length : Int))) then some (10,vp0) else (zey i5 (r1.length : Int)).bind fun r2 => (zj i16 1).bind fun r3 => zcY vp0 l1 l14 i15 n r2 r3 else zcX l1 (l1.length : Int) fuel vp0 0
def zgO (x_q : zMa) (x_l : List Str) : Option (Int × zMa) := (zhG x_q).bind fun r1 => zcY x_q x_l x_l (x_l.length : Int) fuel r1 0
def zfY (x_q : zMa) (x_l : List Str) : Option (Int × zMa) := if zl ([] : List Str).length x_l.length 16 then if zl (([] : List Str) ++ x_l).length ([[13,10]] : List Str).length 16 then (zgO x_q ((([] : List Str) ++ x_l) ++ ([[13,10]]))).bind fun r1 => some (r1.1,r1.2) else none else none
def zb7 (x_p : zMx) (x_s : Str) : Option zMx := (zfY x_p.Quill [x_s]).bind fun r1 => if (!(r1.1 == 0)) then some (⟨r1.2,true⟩ : zMx) else some (⟨r1.2,x_p.zMS⟩ : zMx)
def zhc (x_f : zLo) : Option (Str × Int) := (zew x_f).bind fun r1 => if (!(r1 == 0)) then some ([],r1) else if (x_f.Value == []) then (zhP x_f.Name [58]).bind fun r2 => some (r2,0) else (zhP x_f.Name [58,32]).bind fun r3 => (zhP r3 x_f.Value).bind fun r4 => some (r4,0)
def zhH (x_q : zMa) : Option Str := some x_q.zMR
def zh6 (l32 : List zLo) (i33 : Int) : Nat → zMx → Int → Option (Str × Int)
 | 0,_,_ => none
 | n + 1,v7,i34 => if (decide (i34 < i33)) then (lAt l32 i34).bind fun r1 => (zhc r1).bind fun r2 => (zb7 v7 r2.1).bind fun r3 => (zj i34 1).bind fun r4 => zh6 l32 i33 n r3 r4 else (zb7 v7 []).bind fun r5 => if r5.zMS then some ([],3) else (zhH r5.Quill).bind fun r6 => some (r6,0)
def ziK (x_h : zLq) (x_limit : Int) : Option (Str × Int) := (zml x_h).bind fun r1 => if (!(r1 == 0)) then some ([],r1) else (zrP x_limit).bind fun r2 => (zhb x_h).bind fun r3 => (zb7 (⟨r2,false⟩ : zMx) r3.1).bind fun r4 => zh6 x_h.Fields (x_h.Fields.length : Int) fuel r4 0
def zdC (x_g : zLk) (x_h : zLq) : Option (Str × zLy × Int) := if (x_h.Method == [67,79,78,78,69,67,84]) then some ([],(⟨0,0⟩ : zLy),20) else (zg6 x_h).bind fun r1 => if (!(r1.2 == 0)) then some ([],r1.1,r1.2) else (zhE x_g.zL2 r1.1 x_h x_g.zLF).bind fun r2 => if (!(r2.2 == 0)) then some ([],r1.1,r2.2) else (ziK r2.1 x_g.zLO.Head).bind fun r3 => some (r3.1,r1.1,r3.2)
def znd (x_limit : Int) : Option (Option zLp × Int) := if (decide (x_limit < 0)) then some (none,1) else if (decide ((65536 : Int) < x_limit)) then some (none,1) else some (some (⟨x_limit,0,[],0,0,0,[]⟩ : zLp),0)
def zk8 (v8 : zL1) : Option (Option zL1 × Int) := some (some v8,0)
def zne (v2 : zLy) (v8 : zL1) : Option (Option zL1 × Int) := if (v2.Kind == 1) then zk8 (⟨v8.Decoder,v8.zMq,v8.zMd,true,v8.zMK⟩ : zL1) else if (v2.Kind == 2) then zk8 (⟨v8.Decoder,v8.zMq,v8.zMd,v2.N == 0,v8.zMK⟩ : zL1) else zk8 (⟨v8.Decoder,v8.zMq,v8.zMd,false,v8.zMK⟩ : zL1)
def znf (v2 : zLy) (o6 : Option zLp) (i7 : Int) : Option (Option zL1 × Int) := if (!(i7 == 0)) then some (none,1) else if (decide (v2.Kind < 1)) then some (none,1) else if (decide ((4 : Int) < v2.Kind)) then some (none,1) else if (decide (v2.N < 0)) then some (none,1) else if (decide ((1099511627776 : Int) < v2.N)) then some (none,1) else if (v2.Kind == 3) then zne v2 (⟨o6,v2,v2.N,false,false⟩ : zL1) else zne v2 (⟨none,v2,v2.N,false,false⟩ : zL1)
def zqF (x_a0 : zLy) (x_a1 : Int) : Option (Option zL1 × Int) := (znd x_a1).bind fun r1 => optK r1.1 (znf x_a0 none r1.2) fun r2 => znf x_a0 (some r2) r1.2
def zcB (x_a : zLC) : Option (zLq × Bool) := if (!x_a.f_whole) then some ((⟨0,[],[],0,[],0,[]⟩ : zLq),false) else if zl ([] : List zLo).length x_a.zMD.Fields.length 32 then some ((⟨x_a.zMD.Kind,x_a.zMD.Method,x_a.zMD.Target,x_a.zMD.Code,x_a.zMD.Reason,x_a.zMD.Minor,([] : List zLo) ++ x_a.zMD.Fields⟩ : zLq),true) else none
def zhd (x_a1 : Str) : Option (Int × Str × Bool × Int) := some (0,[],false,5)
def zcZ : Option Int := some 5
def zd2 (x_s : Str) : Option (Str × Int) := zcZ.bind fun r1 => if (!(r1 == 0)) then some ([],r1) else none
def zbx : Option (List zLo) := some []
def zby (x_trailers : List zLo) : Option (Str × Int) := zcZ.bind fun r1 => if (!(r1 == 0)) then some ([],r1) else none
def zh7 (k0 : Int → Option Bool) (s0 : Str) (i13 : Int) (l23 : List Str) (i24 : Int) : Nat → Int → Option Bool
 | 0,_ => none
 | n + 1,i25 => if (decide (i25 < i24)) then (lAt l23 i25).bind fun r1 => (zbg r1 s0).bind fun r2 => if r2 then some true else (zj i25 1).bind fun r3 => zh7 k0 s0 i13 l23 i24 n r3 else (zj i13 1).bind fun r4 => k0 r4
def zgD (s0 : Str) (l11 : List Str) (i12 : Int) : Nat → Int → Option Bool
 | 0,_ => none
 | n + 1,i13 => if (decide (i13 < i12)) then (lAt l11 i13).bind fun r1 => (zgA [r1]).bind fun r2 => zh7 (zgD s0 l11 i12 n) s0 i13 r2.1 (r2.1.length : Int) fuel 0 else some false
def zmm (x_token : Str) (x_l : List Str) : Option Bool := zgD x_token x_l (x_l.length : Int) fuel 0
def znY (x_h : zLq) : Option Bool := (zfb x_h.Fields).bind fun r1 => (zbO r1 [67,111,110,110,101,99,116,105,111,110]).bind fun r2 => if (x_h.Minor == 1) then (zmm [99,108,111,115,101] r2).bind fun r3 => some r3 else (zmm [107,101,101,112,45,97,108,105,118,101] r2).bind fun r4 => some (!r4)
def zoS (x_h : zLq) : Option zLz := (znY x_h).bind fun r1 => some (⟨x_h.Method,x_h.Minor,r1⟩ : zLz)
def zfZ (x_l : List zLz) : Option Int := some 5
def zix (x_t : zLz) : Option Bool := some x_t.Close
def zA (l0 : List zLz) (i7 : Int) : Nat → Int → Option Int
 | 0,_ => none
 | n + 1,i8 => if (decide (i8 < i7)) then (lAt l0 i8).bind fun r1 => (zix r1).bind fun r2 => if r2 then some i8 else (zj i8 1).bind fun r3 => zA l0 i7 n r3 else some (-1)
def zI (x_s : List zLz) : Option Int := zA x_s (x_s.length : Int) fuel 0
def zkQ (x_l : List zLz) : Option Bool := (zI x_l).bind fun r1 => if (decide ((0 : Int) ≤ r1)) then (zey (x_l.length : Int) 1).bind fun r2 => some (decide (r1 < r2)) else some false
def zcN : Option (List zLo) := some []
def zbR (x_d : zLp) : Option (List zLo) := if zl ([] : List zLo).length x_d.zMj.length 32 then some (([] : List zLo) ++ x_d.zMj) else none
def zaV (x_b : zL1) : Option (List zLo) := optK x_b.Decoder (zcN.bind fun r2 => some r2) fun r1 => (zbR r1).bind fun r3 => some r3
def zbS (x_w : zLE) : Option Int := if x_w.zMB then some 8 else some 0
def zcp : Option Int := some 5
def zeF (l0 : List zLo) (l10 : List zLo) (i11 : Int) : Nat → List Str → Int → Option (Str × Int)
 | 0,_,_ => none
 | n + 1,l4,i12 => if (decide (i12 < i11)) then (lAt l10 i12).bind fun r1 => (zhc r1).bind fun r2 => if (!(r2.2 == 0)) then some ([],r2.2) else if zl l4.length ([r2.1] : List Str).length 16 then (zj i12 1).bind fun r3 => zeF l0 l10 i11 n (l4 ++ [r2.1]) r3 else none else if (decide ((100 : Int) < (l0.length : Int))) then some ([],3) else if zl l4.length ([[],[]] : List Str).length 16 then (zbf [13,10] (l4 ++ ([[],[]]))).bind fun r4 => some (r4,0) else none
def zd3 (x_trailers : List zLo) : Option (Str × Int) := zeF x_trailers x_trailers (x_trailers.length : Int) fuel ([[48]]) 0
def zfe (x_trailers : List zLo) : Option (Str × Int) := zcp.bind fun r1 => if (!(r1 == 0)) then some ([],r1) else (zd3 x_trailers).bind fun r2 => if (!(r2.2 == 0)) then some ([],r2.2) else none
def zbG (x_c : zLA) : Option Int := if x_c.zMB then some 8 else some 0
def ziy (x_n : Int) : Option Str := (zjn x_n 16).bind fun r1 => some r1
def zjD (x_n : Int) : Option Str := (ziy x_n).bind fun r1 => some r1
def zdo (x_data : Str) : Option Str := if (x_data == []) then some [] else (zjD (x_data.length : Int)).bind fun r1 => (zbf [13,10] ([r1,x_data,[]])).bind fun r2 => some r2
def zff (x_s : Str) : Option (Str × Int) := zcp.bind fun r1 => if (!(r1 == 0)) then some ([],r1) else none
def zeG (x_s : Str) : Option (Int × Str × Bool × Int) := some (0,[],false,5)
def zeH : Option Int := some 0
def zoT (x_code : Int) : Option (zMy × Bool) := if (!((zlo [(400,[66,97,100,32,82,101,113,117,101,115,116]),(431,[82,101,113,117,101,115,116,32,72,101,97,100,101,114,32,70,105,101,108,100,115,32,84,111,111,32,76,97,114,103,101]),(502,[66,97,100,32,71,97,116,101,119,97,121])] x_code).2)) then some ((⟨(⟨0,[],[],0,[],0,[]⟩ : zLq),(⟨0,0⟩ : zLy),[],[]⟩ : zMy),false) else some ((⟨(⟨2,[],[],x_code,(zlo [(400,[66,97,100,32,82,101,113,117,101,115,116]),(431,[82,101,113,117,101,115,116,32,72,101,97,100,101,114,32,70,105,101,108,100,115,32,84,111,111,32,76,97,114,103,101]),(502,[66,97,100,32,71,97,116,101,119,97,121])] x_code).1,1,[(⟨[67,111,110,116,101,110,116,45,76,101,110,103,116,104],[48]⟩ : zLo),(⟨[67,111,110,110,101,99,116,105,111,110],[99,108,111,115,101]⟩ : zLo)]⟩ : zLq),(⟨2,0⟩ : zLy),[],[]⟩ : zMy),true)
def ziz (x_method : Str) (x_code : Int) : Option Bool := if (x_method == [72,69,65,68]) then some true else if (decide (x_code < 200)) then some true else if (x_code == 204) then some true else if (x_code == 304) then some true else if (x_method == [67,79,78,78,69,67,84]) then some (decide (x_code < 300)) else some false
def zgs (x_method : Str) (x_h : zLq) : Option (zLy × Int) := (ziz x_method x_h.Code).bind fun r1 => if r1 then some ((⟨1,0⟩ : zLy),0) else (znW x_h 4).bind fun r2 => some (r2.1,r2.2)
def zsm (x_method : Str) (x_h : zLq) : Option (zLy × Int) := if (x_h.Kind == 1) then (zg6 x_h).bind fun r1 => some (r1.1,r1.2) else (zgs x_method x_h).bind fun r2 => some (r2.1,r2.2)
def ztL (x_m : zMy) : Option Bool := if (x_m.Frame.Kind == 1) then if (x_m.Body == []) then some ((x_m.Trailers.length : Int) == 0) else some false else if (x_m.Frame.Kind == 2) then if ((x_m.Body.length : Int) == x_m.Frame.N) then some ((x_m.Trailers.length : Int) == 0) else some false else if (x_m.Frame.Kind == 4) then some ((x_m.Trailers.length : Int) == 0) else some true
def zsn (x_method : Str) (x_m : zMy) : Option Int := (zml x_m.Head).bind fun r1 => if (!(r1 == 0)) then some r1 else (zsm x_method x_m.Head).bind fun r2 => if (!(r2.2 == 0)) then some r2.2 else if (!(r2.1 == x_m.Frame)) then some 1 else (ztL x_m).bind fun r3 => if (!r3) then some 1 else (zd3 x_m.Trailers).bind fun r4 => some r4.2
def zfv (x_c : Option zLA) : Option (Int × Option zLA) := optK x_c (some (5,none)) fun r1 => if r1.zMB then some (8,some r1) else some (0,some r1)
def ze4 : Nat → zLA → List Str → Option (Str × Int × Option zLA)
 | 0,_,_ => none
 | n + 1,vp0,l7 => if (decide (vp0.zMJ ≤ (vp0.zMb.length : Int))) then (sTo vp0.zMb vp0.zMJ).bind fun r1 => (zdo r1).bind fun r2 => if zl l7.length ([r2] : List Str).length 16 then (zY vp0.zMb vp0.zMJ).bind fun r3 => ze4 n (⟨vp0.zMJ,r3,vp0.zMB⟩ : zLA) (l7 ++ [r2]) else none else (zbf [] l7).bind fun r4 => some (r4,0,some vp0)
def zj4 (x_c : Option zLA) (x_s : Str) : Option (Str × Int × Option zLA) := (zfv x_c).bind fun r1 => if (!(r1.1 == 0)) then some ([],r1.1,r1.2) else r1.2.bind fun r2 => (zhP r2.zMb x_s).bind fun r3 => ze4 fuel (⟨r2.zMJ,r3,r2.zMB⟩ : zLA) []
def zj5 (x_c : Option zLA) (x_trailers : List zLo) : Option (Str × Int × Option zLA) := (zfv x_c).bind fun r1 => if (!(r1.1 == 0)) then some ([],r1.1,r1.2) else (zd3 x_trailers).bind fun r2 => if (!(r2.2 == 0)) then some ([],r2.2,r1.2) else r1.2.bind fun r3 => (zdo r3.zMb).bind fun r4 => (zhP r4 r2.1).bind fun r5 => some (r5,0,some (⟨r3.zMJ,[],true⟩ : zLA))
def zmn (s1 : Str) (l2 : List zLo) (o8 : Option zLA) (i9 : Int) : Option (Str × Int) := if (!(i9 == 0)) then some ([],i9) else (zj4 o8 s1).bind fun r1 => (zj5 r1.2.2 l2).bind fun r2 => if (!(r2.2.1 == 0)) then some ([],r2.2.1) else (zhP r1.1 r2.1).bind fun r3 => some (r3,0)
def zvE (x_size : Int) (x_body : Str) (x_trailers : List zLo) : Option (Str × Int) := (ziR x_size).bind fun r1 => optK r1.1 (zmn x_body x_trailers none r1.2) fun r2 => zmn x_body x_trailers (some r2) r1.2
def zkl (s11 : Str) (i12 : Int) (s13 : Str) : Option (Str × Int) := if (!(i12 == 0)) then some ([],i12) else (zhP s11 s13).bind fun r1 => some (r1,0)
def zso (x_method : Str) (x_m : zMy) (x_limit : Int) (x_size : Int) : Option (Str × Int) := (zsn x_method x_m).bind fun r1 => if (!(r1 == 0)) then some ([],r1) else (ziK x_m.Head x_limit).bind fun r2 => if (!(r2.2 == 0)) then some ([],r2.2) else if (x_m.Frame.Kind == 3) then (zvE x_size x_m.Body x_m.Trailers).bind fun r3 => zkl r2.1 r3.2 r3.1 else zkl r2.1 r2.2 x_m.Body
def zs1 (x_code : Int) : Option Str := (zoT x_code).bind fun r1 => if (!r1.2) then some [] else (zso [71,69,84] r1.1 65536 1).bind fun r2 => some r2.1
def zds (x_q : zLX) : Option Int := some (x_q.zML.zMv.length : Int)
def zaJ (x_g : zLk) (x_e : Int) : Option zLk := (zoI x_e).bind fun r1 => some (⟨x_g.Queue,x_g.zL2,x_g.zLO,x_g.zLF,(⟨none,none,none⟩ : zLu),x_g.zLl,x_g.zLw,x_g.zLU,r1,true,x_g.zLS,x_g.zL3,x_g.zLJ,x_g.zLQ,x_g.zLB,x_g.zLv⟩ : zLk)
def zay (l6 : List Str) (i7 : Int) : Nat → zLk → Int → Option zLk
 | 0,_,_ => none
 | n + 1,vp0,i8 => if (decide (i8 < i7)) then (lAt l6 i8).bind fun r1 => if zl vp0.zLU.length r1.length 1 then (zj i8 1).bind fun r2 => zay l6 i7 n (⟨vp0.Queue,vp0.zL2,vp0.zLO,vp0.zLF,vp0.zLn,vp0.zLl,vp0.zLw,vp0.zLU ++ r1,vp0.zLR,vp0.zLt,vp0.zLS,vp0.zL3,vp0.zLJ,vp0.zLQ,vp0.zLB,vp0.zLv⟩ : zLk) r2 else none else some vp0
def zau (x_g : zLk) (x_l : List Str) : Option zLk := zay x_l (x_l.length : Int) fuel x_g 0
def zjE (v2 : zLy) (o6 : Option zLA) (i7 : Int) : Option (Option zLE × Int) := if (!(i7 == 0)) then some (none,1) else if (decide (v2.Kind < 1)) then some (none,1) else if (decide ((4 : Int) < v2.Kind)) then some (none,1) else if (decide (v2.N < 0)) then some (none,1) else if (v2.Kind == 3) then some (some (⟨o6,v2,0,false⟩ : zLE),0) else if (v2.Kind == 2) then some (some (⟨none,v2,v2.N,false⟩ : zLE),0) else some (some (⟨none,v2,0,false⟩ : zLE),0)
def zk9 (x_f : zLy) (x_size : Int) : Option (Option zLE × Int) := (ziR x_size).bind fun r1 => optK r1.1 (zjE x_f none r1.2) fun r2 => zjE x_f (some r2) r1.2
def zhe : Option Bool := some false
def zc6 (vp0 : zLX) : Option (Int × zLX) := some (0,vp0)
def zeI (x_q : zLX) (x_l : List zLz) : Option (Int × zLX) := if x_q.zLQ then some (8,x_q) else (zey x_q.zML.zLN (x_q.zML.zMv.length : Int)).bind fun r1 => if (decide (r1 < (x_l.length : Int))) then some (10,x_q) else (zkQ x_l).bind fun r2 => if r2 then some (8,x_q) else if zl x_q.zML.zMv.length x_l.length 32 then if (decide ((0 : Int) < (x_l.length : Int))) then (zey (x_l.length : Int) 1).bind fun r3 => (lAt x_l r3).bind fun r4 => zc6 (⟨(⟨x_q.zML.zMv ++ x_l,x_q.zML.zLN⟩ : zMl),r4.Close⟩ : zLX) else zc6 (⟨(⟨x_q.zML.zMv ++ x_l,x_q.zML.zLN⟩ : zMl),false⟩ : zLX) else none
def zej (x_c : zLA) (x_trailers : List zLo) : Option (Str × Int × zLA) := (zbG x_c).bind fun r1 => if (!(r1 == 0)) then some ([],r1,x_c) else (zd3 x_trailers).bind fun r2 => if (!(r2.2 == 0)) then some ([],r2.2,x_c) else (zdo x_c.zMb).bind fun r3 => (zhP r3 r2.1).bind fun r4 => some (r4,0,(⟨x_c.zMJ,[],true⟩ : zLA))
def zaT (vp0 : zLE) (i6 : Int) (s7 : Str) : Option (Str × Int × zLE) := some (s7,i6,(⟨vp0.Encoder,vp0.zMq,vp0.zMd,i6 == 0⟩ : zLE))
def zaW (x_w : zLE) (x_trailers : List zLo) : Option (Str × Int × zLE) := (zbS x_w).bind fun r1 => if (!(r1 == 0)) then some ([],r1,x_w) else if (x_w.zMq.Kind == 3) then optK x_w.Encoder ((zfe x_trailers).bind fun r3 => zaT (⟨none,x_w.zMq,x_w.zMd,x_w.zMB⟩ : zLE) r3.2 r3.1) fun r2 => (zej r2 x_trailers).bind fun r4 => zaT (⟨some r4.2.2,x_w.zMq,x_w.zMd,x_w.zMB⟩ : zLE) r4.2.1 r4.1 else if (decide ((0 : Int) < x_w.zMd)) then zaT x_w 6 [] else zaT x_w r1 []
def zaX (vp0 : zLk) (v6 : zLz) : Option zLk := (zdL 1 vp0.zLO.Head).bind fun r1 => some (⟨vp0.Queue,vp0.zL2,vp0.zLO,vp0.zLF,r1,vp0.zLl,vp0.zLw,vp0.zLU,vp0.zLR,v6.Close,vp0.zLS,vp0.zL3,vp0.zLJ,vp0.zLQ,vp0.zLB,vp0.zLv⟩ : zLk)
def zaY (vp0 : zLk) (v4 : zLq) : Option zLk := (zoS v4).bind fun r1 => optK vp0.Queue ((zfZ [r1]).bind fun r3 => zaX (⟨none,vp0.zL2,vp0.zLO,vp0.zLF,vp0.zLn,vp0.zLl,vp0.zLw,vp0.zLU,vp0.zLR,vp0.zLt,vp0.zLS,vp0.zL3,vp0.zLJ,vp0.zLQ,vp0.zLB,vp0.zLv⟩ : zLk) (⟨r1.Method,r1.Minor,r1.Close⟩ : zLz)) fun r2 => (zeI r2 [(⟨r1.Method,r1.Minor,r1.Close⟩ : zLz)]).bind fun r4 => zaX (⟨some r4.2,vp0.zL2,vp0.zLO,vp0.zLF,vp0.zLn,vp0.zLl,vp0.zLw,vp0.zLU,vp0.zLR,vp0.zLt,vp0.zLS,vp0.zL3,vp0.zLJ,vp0.zLQ,vp0.zLB,vp0.zLv⟩ : zLk) (⟨r1.Method,r1.Minor,r1.Close⟩ : zLz)
def zX (vp0 : zLk) (s2 : Str) : Option zLk := (zau vp0 [s2]).bind fun r1 => optK r1.zLn.Accum (zdO.bind fun r3 => zaY (⟨r1.Queue,r1.zL2,r1.zLO,r1.zLF,(⟨none,r1.zLn.zMI,r1.zLn.zLI⟩ : zLu),r1.zLl,r1.zLw,r1.zLU,r1.zLR,r1.zLt,r1.zLS,r1.zL3,r1.zLJ,r1.zLQ,r1.zLB,r1.zLv⟩ : zLk) r3.1) fun r2 => (zcB r2).bind fun r4 => zaY (⟨r1.Queue,r1.zL2,r1.zLO,r1.zLF,(⟨some r2,r1.zLn.zMI,r1.zLn.zLI⟩ : zLu),r1.zLl,r1.zLw,r1.zLU,r1.zLR,r1.zLt,r1.zLS,r1.zL3,r1.zLJ,r1.zLQ,r1.zLB,r1.zLv⟩ : zLk) r4.1
def zbH (x_g : zLk) : Option zLk := optK x_g.zLn.zLI (optK x_g.zLn.zMI (zbx.bind fun r3 => (zby r3).bind fun r4 => zX (⟨x_g.Queue,x_g.zL2,x_g.zLO,x_g.zLF,(⟨x_g.zLn.Accum,none,none⟩ : zLu),x_g.zLl,x_g.zLw,x_g.zLU,x_g.zLR,x_g.zLt,x_g.zLS,x_g.zL3,x_g.zLJ,x_g.zLQ,x_g.zLB,x_g.zLv⟩ : zLk) r4.1) fun r2 => (zaV r2).bind fun r5 => (zby r5).bind fun r6 => zX (⟨x_g.Queue,x_g.zL2,x_g.zLO,x_g.zLF,(⟨x_g.zLn.Accum,some r2,none⟩ : zLu),x_g.zLl,x_g.zLw,x_g.zLU,x_g.zLR,x_g.zLt,x_g.zLS,x_g.zL3,x_g.zLJ,x_g.zLQ,x_g.zLB,x_g.zLv⟩ : zLk) r6.1) fun r1 => optK x_g.zLn.zMI (zbx.bind fun r8 => (zaW r1 r8).bind fun r9 => zX (⟨x_g.Queue,x_g.zL2,x_g.zLO,x_g.zLF,(⟨x_g.zLn.Accum,none,some r9.2.2⟩ : zLu),x_g.zLl,x_g.zLw,x_g.zLU,x_g.zLR,x_g.zLt,x_g.zLS,x_g.zL3,x_g.zLJ,x_g.zLQ,x_g.zLB,x_g.zLv⟩ : zLk) r9.1) fun r7 => (zaV r7).bind fun r10 => (zaW r1 r10).bind fun r11 => zX (⟨x_g.Queue,x_g.zL2,x_g.zLO,x_g.zLF,(⟨x_g.zLn.Accum,some r7,some r11.2.2⟩ : zLu),x_g.zLl,x_g.zLw,x_g.zLU,x_g.zLR,x_g.zLt,x_g.zLS,x_g.zL3,x_g.zLJ,x_g.zLQ,x_g.zLB,x_g.zLv⟩ : zLk) r11.1
def zfw (x_b : zL1) : Option Bool := some x_b.zMB
def zaZ (vp0 : zLk) (t65 : Bool) : Option zLk := if t65 then (zbH vp0).bind fun r1 => some r1 else some vp0
def za0 (vp0 : zLk) : Option zLk := optK vp0.zLn.zMI (zhe.bind fun r2 => zaZ (⟨vp0.Queue,vp0.zL2,vp0.zLO,vp0.zLF,(⟨vp0.zLn.Accum,none,vp0.zLn.zLI⟩ : zLu),vp0.zLl,vp0.zLw,vp0.zLU,vp0.zLR,vp0.zLt,vp0.zLS,vp0.zL3,vp0.zLJ,vp0.zLQ,vp0.zLB,vp0.zLv⟩ : zLk) r2) fun r1 => (zfw r1).bind fun r3 => zaZ (⟨vp0.Queue,vp0.zL2,vp0.zLO,vp0.zLF,(⟨vp0.zLn.Accum,some r1,vp0.zLn.zLI⟩ : zLu),vp0.zLl,vp0.zLw,vp0.zLU,vp0.zLR,vp0.zLt,vp0.zLS,vp0.zL3,vp0.zLJ,vp0.zLQ,vp0.zLB,vp0.zLv⟩ : zLk) r3
def za1 (vp0 : zLk) (v5 : zLy) : Option zLk := (zk9 v5 vp0.zLO.Chunk).bind fun r1 => optK r1.1 (za0 (⟨vp0.Queue,vp0.zL2,vp0.zLO,vp0.zLF,(⟨vp0.zLn.Accum,vp0.zLn.zMI,none⟩ : zLu),vp0.zLl,vp0.zLw,vp0.zLU,vp0.zLR,vp0.zLt,vp0.zLS,vp0.zL3,vp0.zLJ,vp0.zLQ,vp0.zLB,vp0.zLv⟩ : zLk)) fun r2 => za0 (⟨vp0.Queue,vp0.zL2,vp0.zLO,vp0.zLF,(⟨vp0.zLn.Accum,vp0.zLn.zMI,some r2⟩ : zLu),vp0.zLl,vp0.zLw,vp0.zLU,vp0.zLR,vp0.zLt,vp0.zLS,vp0.zL3,vp0.zLJ,vp0.zLQ,vp0.zLB,vp0.zLv⟩ : zLk)
def za2 (vp0 : zLk) (v2 : zLq) : Option zLk := (zdC vp0 v2).bind fun r1 => if (!(r1.2.2 == 0)) then (zaJ vp0 r1.2.2).bind fun r2 => some r2 else (zau vp0 [r1.1]).bind fun r3 => (zqF r1.2.1 r3.zLO.Head).bind fun r4 => optK r4.1 (za1 (⟨r3.Queue,r3.zL2,r3.zLO,r3.zLF,(⟨r3.zLn.Accum,none,r3.zLn.zLI⟩ : zLu),r3.zLl,r3.zLw,r3.zLU,r3.zLR,r3.zLt,r3.zLS,r3.zL3,r3.zLJ,r3.zLQ,r3.zLB,r3.zLv⟩ : zLk) r1.2.1) fun r5 => za1 (⟨r3.Queue,r3.zL2,r3.zLO,r3.zLF,(⟨r3.zLn.Accum,some r5,r3.zLn.zLI⟩ : zLu),r3.zLl,r3.zLw,r3.zLU,r3.zLR,r3.zLt,r3.zLS,r3.zL3,r3.zLJ,r3.zLQ,r3.zLB,r3.zLv⟩ : zLk) r1.2.1
def zc7 (x_a0 : zLk) : Option zLk := optK x_a0.zLn.Accum (zdO.bind fun r2 => za2 (⟨x_a0.Queue,x_a0.zL2,x_a0.zLO,x_a0.zLF,(⟨none,x_a0.zLn.zMI,x_a0.zLn.zLI⟩ : zLu),x_a0.zLl,x_a0.zLw,x_a0.zLU,x_a0.zLR,x_a0.zLt,x_a0.zLS,x_a0.zL3,x_a0.zLJ,x_a0.zLQ,x_a0.zLB,x_a0.zLv⟩ : zLk) r2.1) fun r1 => (zcB r1).bind fun r3 => za2 (⟨x_a0.Queue,x_a0.zL2,x_a0.zLO,x_a0.zLF,(⟨some r1,x_a0.zLn.zMI,x_a0.zLn.zLI⟩ : zLu),x_a0.zLl,x_a0.zLw,x_a0.zLU,x_a0.zLR,x_a0.zLt,x_a0.zLS,x_a0.zL3,x_a0.zLJ,x_a0.zLQ,x_a0.zLB,x_a0.zLv⟩ : zLk) r3.1
def zfg (v0 : zLC) (i3 : Int) (t4 : Bool) : Option Bool := (zey i3 1).bind fun r1 => (lAt v0.zMb r1).bind fun r2 => some (!((r2 == 10) == t4))
def zhI (x_a : zLC) : Option Bool := if (decide ((1 : Int) < (x_a.zMb.length : Int))) then (zey (x_a.zMb.length : Int) 2).bind fun r1 => (lAt x_a.zMb r1).bind fun r2 => zfg x_a (x_a.zMb.length : Int) (r2 == 13) else zfg x_a (x_a.zMb.length : Int) false
def zcq (x_c : zLs) : Option (Str × zLs) := (zH x_c zeY).bind fun r1 => some (r1.1,r1.2)
def zex (x_s : Str) : Option (zLo × Int) := (strings_ContainsAny x_s [13,10]).bind fun r1 => if r1 then some ((⟨[],[]⟩ : zLo),24) else (zgm x_s).bind fun r2 => (zcq r2).bind fun r3 => if (!(r3.1 == [])) then some ((⟨[],[]⟩ : zLo),23) else (zM r3.2).bind fun r4 => (zcq r4.2.2).bind fun r5 => if (!r4.2.1) then some ((⟨[],[]⟩ : zLo),21) else (zk r5.2 58).bind fun r6 => if (!r6.1) then some ((⟨[],[]⟩ : zLo),21) else if (!(r5.1 == [])) then some ((⟨[],[]⟩ : zLo),22) else (zal r6.2).bind fun r7 => (zbF zan [r7]).bind fun r8 => if (!r8) then some ((⟨[],[]⟩ : zLo),25) else (zal r6.2).bind fun r9 => (zbu r9 [32,9]).bind fun r10 => some ((⟨r4.1,r10⟩ : zLo),0)
def zh8 (l64 : List Str) (i65 : Int) : Nat → zLq → Int → Option (zLq × Int)
 | 0,_,_ => none
 | n + 1,v12,i66 => if (decide (i66 < i65)) then (lAt l64 i66).bind fun r1 => (zex r1).bind fun r2 => if (!(r2.2 == 0)) then some ((⟨0,[],[],0,[],0,[]⟩ : zLq),r2.2) else if zl v12.Fields.length ([r2.1] : List zLo).length 32 then (zj i66 1).bind fun r3 => zh8 l64 i65 n (⟨v12.Kind,v12.Method,v12.Target,v12.Code,v12.Reason,v12.Minor,v12.Fields ++ [r2.1]⟩ : zLq) r3 else none else (zmk v12).bind fun r4 => if (!(r4 == 0)) then some ((⟨0,[],[],0,[],0,[]⟩ : zLq),r4) else some (v12,0)
def zoU (x_a0 : Int) (x_a1 : Str) (x_a2 : Int) : Option (zLq × Int) := (zdn x_a0 []).bind fun r1 => if (r1.2 == 1) then some ((⟨0,[],[],0,[],0,[]⟩ : zLq),r1.2) else (strings_Index x_a1 [13,10,13,10]).bind fun r2 => if (decide (x_a2 < (x_a1.length : Int))) then some ((⟨0,[],[],0,[],0,[]⟩ : zLq),3) else if (decide (r2 < 0)) then some ((⟨0,[],[],0,[],0,[]⟩ : zLq),6) else (zj r2 4).bind fun r3 => if (!(r3 == (x_a1.length : Int))) then some ((⟨0,[],[],0,[],0,[]⟩ : zLq),6) else (sTo x_a1 r2).bind fun r4 => (strings_Split r4 [13,10]).bind fun r5 => (lAt r5 0).bind fun r6 => (zdn x_a0 r6).bind fun r7 => if (!(r7.2 == 0)) then some ((⟨0,[],[],0,[],0,[]⟩ : zLq),r7.2) else (znM r5 1).bind fun r8 => zh8 r8 (r8.length : Int) fuel r7.1 0
def zek (vp0 : zLC) (i6 : Int) : Option (Bool × Int × zLC) := some (false,i6,(⟨vp0.zMN,vp0.zMh,vp0.zMb,(vp0.zMb.length : Int),vp0.zMP,vp0.zMK,vp0.f_whole,vp0.zMD⟩ : zLC))
def zf0 (x_a : zLC) (x_s : Str) : Option (Bool × Int × zLC) := if (x_a.zMk == 0) then (zdn x_a.zMN x_s).bind fun r1 => zek x_a r1.2 else if (!(x_s == [])) then (zex x_s).bind fun r2 => zek x_a r2.2 else (zoU x_a.zMN x_a.zMb x_a.zMh).bind fun r3 => some (r3.2 == 0,r3.2,(⟨x_a.zMN,x_a.zMh,x_a.zMb,x_a.zMk,x_a.zMP,x_a.zMK,x_a.f_whole,r3.1⟩ : zLC))
def zf1 (x_a : zLC) (x_b : UInt8) : Option (Bool × Int × zLC) := if (decide (x_a.zMh ≤ (x_a.zMb.length : Int))) then some (false,3,x_a) else if zl x_a.zMb.length ([x_b] : List UInt8).length 1 then (zhI (⟨x_a.zMN,x_a.zMh,x_a.zMb ++ [x_b],x_a.zMk,x_a.zMP,x_a.zMK,x_a.f_whole,x_a.zMD⟩ : zLC)).bind fun r1 => if r1 then some (false,24,(⟨x_a.zMN,x_a.zMh,x_a.zMb ++ [x_b],x_a.zMk,x_a.zMP,x_a.zMK,x_a.f_whole,x_a.zMD⟩ : zLC)) else if (!(x_b == 10)) then some (false,0,(⟨x_a.zMN,x_a.zMh,x_a.zMb ++ [x_b],x_a.zMk,x_a.zMP,x_a.zMK,x_a.f_whole,x_a.zMD⟩ : zLC)) else (zey ((x_a.zMb ++ [x_b]).length : Int) 2).bind fun r2 => (zzx (x_a.zMb ++ [x_b]) x_a.zMk r2).bind fun r3 => (zf0 (⟨x_a.zMN,x_a.zMh,x_a.zMb ++ [x_b],x_a.zMk,x_a.zMP,x_a.zMK,x_a.f_whole,x_a.zMD⟩ : zLC) r3).bind fun r4 => some (r4.1,r4.2.1,r4.2.2) else none
def zel (k0 : zLC → Int → Option (Int × Bool × Int × zLC)) (vp0 : zLC) (i7 : Int) (i25 : Int) (t55 : Bool) : Option (Int × Bool × Int × zLC) := if t55 then (zj i7 1).bind fun r1 => some (r1,vp0.f_whole,vp0.zMK,(⟨vp0.zMN,vp0.zMh,[],vp0.zMk,vp0.zMP,vp0.zMK,vp0.f_whole,vp0.zMD⟩ : zLC)) else (zj i25 1).bind fun r2 => k0 vp0 r2
def zaK (s1 : Str) (i24 : Int) : Nat → zLC → Int → Option (Int × Bool × Int × zLC)
 | 0,_,_ => none
 | n + 1,vp0,i25 => if (decide (i25 < i24)) then (sAt s1 i25).bind fun r1 => (zf1 (⟨vp0.zMN,vp0.zMh,vp0.zMb,vp0.zMk,true,vp0.zMK,vp0.f_whole,vp0.zMD⟩ : zLC) r1).bind fun r2 => if r2.1 then zel (zaK s1 i24 n) (⟨r2.2.2.zMN,r2.2.2.zMh,r2.2.2.zMb,r2.2.2.zMk,r2.2.2.zMP,r2.2.1,r2.1,r2.2.2.zMD⟩ : zLC) i25 i25 true else zel (zaK s1 i24 n) (⟨r2.2.2.zMN,r2.2.2.zMh,r2.2.2.zMb,r2.2.2.zMk,r2.2.2.zMP,r2.2.1,r2.1,r2.2.2.zMD⟩ : zLC) i25 i25 (!(r2.2.1 == 0)) else some ((s1.length : Int),false,0,vp0)
def zd4 (x_a0 : zLC) (x_a1 : Str) : Option (Int × Bool × Int × zLC) := if (!(x_a0.zMK == 0)) then some (0,false,8,x_a0) else if x_a0.f_whole then some (0,false,8,x_a0) else zaK x_a1 (x_a1.length : Int) fuel x_a0 0
def zbn : Nat → zLA → List Str → Option (Str × Int × zLA)
 | 0,_,_ => none
 | n + 1,vp0,l7 => if (decide (vp0.zMJ ≤ (vp0.zMb.length : Int))) then (sTo vp0.zMb vp0.zMJ).bind fun r1 => (zdo r1).bind fun r2 => if zl l7.length ([r2] : List Str).length 16 then (zY vp0.zMb vp0.zMJ).bind fun r3 => zbn n (⟨vp0.zMJ,r3,vp0.zMB⟩ : zLA) (l7 ++ [r2]) else none else (zbf [] l7).bind fun r4 => some (r4,0,vp0)
def zem (x_c : zLA) (x_s : Str) : Option (Str × Int × zLA) := (zbG x_c).bind fun r1 => if (!(r1 == 0)) then some ([],r1,x_c) else (zhP x_c.zMb x_s).bind fun r2 => zbn fuel (⟨x_c.zMJ,r2,x_c.zMB⟩ : zLA) []
def zc8 (vp0 : zLE) (s4 : Str) (i5 : Int) : Option (Str × Int × zLE) := some (s4,i5,vp0)
def zc9 (vp0 : zLE) (s1 : Str) : Option (Str × Int × zLE) := some (s1,0,vp0)
def zda (vp0 : zLE) (s1 : Str) (t27 : Bool) : Option (Str × Int × zLE) := if t27 then if (decide (vp0.zMd < (s1.length : Int))) then some ([],3,vp0) else (zey vp0.zMd (s1.length : Int)).bind fun r1 => zc9 (⟨vp0.Encoder,vp0.zMq,r1,vp0.zMB⟩ : zLE) s1 else zc9 vp0 s1
def zc0 (x_w : zLE) (x_s : Str) : Option (Str × Int × zLE) := (zbS x_w).bind fun r1 => if (!(r1 == 0)) then some ([],r1,x_w) else if (x_w.zMq.Kind == 3) then optK x_w.Encoder ((zff x_s).bind fun r3 => zc8 (⟨none,x_w.zMq,x_w.zMd,x_w.zMB⟩ : zLE) r3.1 r3.2) fun r2 => (zem r2 x_s).bind fun r4 => zc8 (⟨some r4.2.2,x_w.zMq,x_w.zMd,x_w.zMB⟩ : zLE) r4.1 r4.2.1 else if (x_w.zMq.Kind == 1) then zda x_w x_s true else zda x_w x_s (x_w.zMq.Kind == 2)
def zcf (vp0 : zLp) (s1 : Str) (i5 : Int) : Option (Str × zLp) := (sTo s1 i5).bind fun r1 => some (r1,vp0)
def zdD (x_d : zLp) (x_s : Str) : Option (Str × zLp) := (zey x_d.zMd (min x_d.zMd (x_s.length : Int))).bind fun r1 => if (r1 == 0) then zcf (⟨x_d.zMh,2,x_d.zMG,2,x_d.zMO,x_d.zMA,x_d.zMj⟩ : zLp) x_s (min x_d.zMd (x_s.length : Int)) else zcf (⟨x_d.zMh,x_d.zL8,x_d.zMG,r1,x_d.zMO,x_d.zMA,x_d.zMj⟩ : zLp) x_s (min x_d.zMd (x_s.length : Int))
def zbT (vp0 : zLp) : Option (Int × zLp) := some (0,vp0)
def zbU (vp0 : zLp) (b1 : UInt8) (b5 : UInt8) : Option (Int × zLp) := if (!(b1 == b5)) then some (31,vp0) else (zey vp0.zMd 1).bind fun r1 => if (r1 == 0) then zbT (⟨vp0.zMh,0,vp0.zMG,r1,vp0.zMO,vp0.zMA,vp0.zMj⟩ : zLp) else zbT (⟨vp0.zMh,vp0.zL8,vp0.zMG,r1,vp0.zMO,vp0.zMA,vp0.zMj⟩ : zLp)
def zdb (x_d : zLp) (x_b : UInt8) : Option (Int × zLp) := if (x_d.zMd == 1) then zbU x_d x_b 10 else zbU x_d x_b 13
def zng (x_s : Str) (x_most : Int) : Option (Int × Int) := (zjm x_s 16 x_most zcT).bind fun r1 => some (r1.1,r1.2)
def zkR (x_c : zLs) : Option (Str × Bool × zLs) := (zM x_c).bind fun r1 => if r1.2.1 then some (r1.1,true,r1.2.2) else (zh3 r1.2.2).bind fun r2 => some (r2.1,r2.2.1,r2.2.2)
def zeJ (x_r : zMm) : Option (zL4 × Bool × zLs) := (zM x_r.Scanner).bind fun r1 => if (!r1.2.1) then some ((⟨r1.1,[],false⟩ : zL4),r1.2.1,r1.2.2) else (zk r1.2.2 61).bind fun r2 => if (!r2.1) then some ((⟨r1.1,[],false⟩ : zL4),r1.2.1,r2.2) else (zkR r2.2).bind fun r3 => some ((⟨r1.1,r3.1,true⟩ : zL4),r3.2.1,r3.2.2)
def zd5 (i7 : Int) (i8 : Int) : Nat → zMm → List zL4 → Option (Int × List zL4 × Int)
 | 0,_,_ => none
 | n + 1,v5,l9 => (zk v5.Scanner 59).bind fun r1 => if r1.1 then (zeJ (⟨r1.2⟩ : zMm)).bind fun r2 => if (!r2.2.1) then some (0,[],31) else if zl l9.length ([r2.1] : List zL4).length 40 then zd5 i7 i8 n (⟨r2.2.2⟩ : zMm) (l9 ++ [r2.1]) else none else (zai r1.2).bind fun r3 => if (!r3) then some (0,[],31) else if (i8 == 2) then some (0,[],31) else if (!(i8 == 0)) then some (0,[],i8) else some (i7,l9,0)
def ziA (x_s : Str) : Option (Int × List zL4 × Int) := (zgm x_s).bind fun r1 => (zH r1 zcT).bind fun r2 => (zng r2.1 1099511627776).bind fun r3 => zd5 r3.1 r3.2 fuel (⟨r2.2⟩ : zMm) []
def zdE (x_d : zLp) (x_s : Str) : Option (Int × zLp) := (ziA x_s).bind fun r1 => if (!(r1.2.2 == 0)) then some (r1.2.2,x_d) else (zey 1099511627776 x_d.zMO).bind fun r2 => if (decide (r2 < r1.1)) then some (7,x_d) else if (r1.1 == 0) then some (0,(⟨x_d.zMh,3,x_d.zMG,x_d.zMd,x_d.zMO,x_d.zMA,x_d.zMj⟩ : zLp)) else (zj x_d.zMO r1.1).bind fun r3 => some (0,(⟨x_d.zMh,1,x_d.zMG,r1.1,r3,x_d.zMA,x_d.zMj⟩ : zLp))
def zcg (x_d : zLp) (x_s : Str) : Option (Bool × Int × zLp) := if (x_s == []) then some (true,0,x_d) else (zex x_s).bind fun r1 => if (!(r1.2 == 0)) then some (false,r1.2,x_d) else if (decide ((100 : Int) ≤ (x_d.zMj.length : Int))) then some (false,3,x_d) else if zl x_d.zMj.length ([r1.1] : List zLo).length 32 then some (false,0,(⟨x_d.zMh,x_d.zL8,x_d.zMG,x_d.zMd,x_d.zMO,x_d.zMA,x_d.zMj ++ [r1.1]⟩ : zLp)) else none
def zbV (vp0 : zLp) (b1 : UInt8) (i6 : Int) (t7 : Bool) (t39 : Bool) : Option (Bool × Int × zLp) := if t39 then some (false,3,vp0) else if (!((b1 == 10) == t7)) then some (false,24,vp0) else if (!(b1 == 10)) then if zl vp0.zMG.length ([b1] : List UInt8).length 1 then some (false,0,(⟨vp0.zMh,vp0.zL8,vp0.zMG ++ [b1],vp0.zMd,vp0.zMO,vp0.zMA,vp0.zMj⟩ : zLp)) else none else (zey i6 1).bind fun r1 => (lTo vp0.zMG r1).bind fun r2 => if (vp0.zL8 == 0) then (zdE (⟨vp0.zMh,vp0.zL8,[],vp0.zMd,vp0.zMO,vp0.zMA,vp0.zMj⟩ : zLp) r2).bind fun r3 => some (false,r3.1,r3.2) else (zcg (⟨vp0.zMh,vp0.zL8,[],vp0.zMd,vp0.zMO,vp0.zMA,vp0.zMj⟩ : zLp) r2).bind fun r4 => some (r4.1,r4.2.1,r4.2.2)
def zbW (vp0 : zLp) (b1 : UInt8) (i6 : Int) (t7 : Bool) : Option (Bool × Int × zLp) := if (decide ((4098 : Int) ≤ i6)) then zbV vp0 b1 i6 t7 true else zbV vp0 b1 i6 t7 (decide (vp0.zMh < vp0.zMA))
def zbX (vp0 : zLp) (b1 : UInt8) : Option (Bool × Int × zLp) := if (decide ((0 : Int) < (vp0.zMG.length : Int))) then (zey (vp0.zMG.length : Int) 1).bind fun r1 => (lAt vp0.zMG r1).bind fun r2 => zbW vp0 b1 (vp0.zMG.length : Int) (r2 == 13) else zbW vp0 b1 (vp0.zMG.length : Int) false
def zdc (x_a0 : zLp) (x_a1 : UInt8) : Option (Bool × Int × zLp) := if (x_a0.zL8 == 3) then (zj x_a0.zMA 1).bind fun r1 => zbX (⟨x_a0.zMh,x_a0.zL8,x_a0.zMG,x_a0.zMd,x_a0.zMO,r1,x_a0.zMj⟩ : zLp) x_a1 else zbX x_a0 x_a1
def zdF (x_d : zLp) (x_s : Str) : Option (Int × Str × Bool × Int × zLp) := if (x_d.zL8 == 1) then (zdD x_d x_s).bind fun r1 => some ((r1.1.length : Int),r1.1,false,0,r1.2) else if (x_d.zL8 == 2) then (sAt x_s 0).bind fun r2 => (zdb x_d r2).bind fun r3 => some (1,[],false,r3.1,r3.2) else (sAt x_s 0).bind fun r4 => (zdc x_d r4).bind fun r5 => some (1,[],r5.1,r5.2.1,r5.2.2)
def zch (vp0 : zLp) (i4 : Int) (t6 : Bool) (i7 : Int) (l8 : List UInt8) : Option (Int × Str × Bool × Int × zLp) := some (i4,l8,t6,i7,vp0)
def zci (vp0 : zLp) (i4 : Int) (t6 : Bool) (i7 : Int) (l8 : List UInt8) (t51 : Bool) : Option (Int × Str × Bool × Int × zLp) := if t51 then zch (⟨vp0.zMh,4,[],vp0.zMd,vp0.zMO,vp0.zMA,vp0.zMj⟩ : zLp) i4 t6 i7 l8 else zch vp0 i4 t6 i7 l8
def zbd (k0 : zLp → Int → Bool → Int → List UInt8 → Option (Int × Str × Bool × Int × zLp)) (vp0 : zLp) (s1 : Str) (i4 : Int) (t6 : Bool) (i7 : Int) (l8 : List UInt8) (t30 : Bool) : Option (Int × Str × Bool × Int × zLp) := if t30 then (zY s1 i4).bind fun r1 => (zdF vp0 r1).bind fun r2 => if zl l8.length r2.2.1.length 1 then (zj i4 r2.1).bind fun r3 => k0 r2.2.2.2.2 r3 r2.2.2.1 r2.2.2.2.1 (l8 ++ r2.2.1) else none else if t6 then zci vp0 i4 t6 i7 l8 true else zci vp0 i4 t6 i7 l8 (!(i7 == 0))
def zQ (s1 : Str) : Nat → zLp → Int → Bool → Int → List UInt8 → Option (Int × Str × Bool × Int × zLp)
 | 0,_,_,_,_,_ => none
 | n + 1,vp0,i4,t6,i7,l8 => if (decide (i4 < (s1.length : Int))) then if (!t6) then zbd (zQ s1 n) vp0 s1 i4 t6 i7 l8 (i7 == 0) else zbd (zQ s1 n) vp0 s1 i4 t6 i7 l8 false else zbd (zQ s1 n) vp0 s1 i4 t6 i7 l8 false
def zdG (x_d : zLp) (x_s : Str) : Option (Int × Str × Bool × Int × zLp) := if (x_d.zL8 == 4) then some (0,[],false,8,x_d) else zQ x_s fuel x_d 0 false 0 []
def zfh (vp0 : zL1) (i4 : Int) (s5 : Str) (t6 : Bool) (i7 : Int) : Option (Int × Str × Bool × Int × zL1) := some (i4,s5,t6,i7,(⟨vp0.Decoder,vp0.zMq,vp0.zMd,t6, !(i7 == 0)⟩ : zL1))
def zfi (vp0 : zL1) (s1 : Str) (i4 : Int) : Option (Int × Str × Bool × Int × zL1) := (sTo s1 i4).bind fun r1 => some (i4,r1,vp0.zMB,0,vp0)
def zfx (x_a0 : zL1) (x_a1 : Str) : Option (Int × Str × Bool × Int × zL1) := if x_a0.zMB then some (0,[],false,8,x_a0) else if x_a0.zMK then some (0,[],false,8,x_a0) else if (x_a0.zMq.Kind == 3) then optK x_a0.Decoder ((zeG x_a1).bind fun r2 => zfh (⟨none,x_a0.zMq,x_a0.zMd,x_a0.zMB,x_a0.zMK⟩ : zL1) r2.1 r2.2.1 r2.2.2.1 r2.2.2.2) fun r1 => (zdG r1 x_a1).bind fun r3 => zfh (⟨some r3.2.2.2.2,x_a0.zMq,x_a0.zMd,x_a0.zMB,x_a0.zMK⟩ : zL1) r3.1 r3.2.1 r3.2.2.1 r3.2.2.2.1 else if (x_a0.zMq.Kind == 2) then (zey x_a0.zMd (min (x_a1.length : Int) x_a0.zMd)).bind fun r4 => zfi (⟨x_a0.Decoder,x_a0.zMq,r4,r4 == 0,x_a0.zMK⟩ : zL1) x_a1 (min (x_a1.length : Int) x_a0.zMd) else zfi x_a0 x_a1 (x_a1.length : Int)
def zaz (vp0 : zLk) (i5 : Int) (t6 : Bool) (i7 : Int) : Option (Int × zLk) := if (!(i7 == 0)) then (zaJ vp0 i7).bind fun r1 => some (i5,r1) else if t6 then (zc7 vp0).bind fun r2 => some (i5,r2) else some (i5,vp0)
def zaA (vp0 : zLk) (i8 : Int) (t10 : Bool) (i11 : Int) (s12 : Str) : Option (Int × zLk) := (zau vp0 [s12]).bind fun r1 => if (!(i11 == 0)) then (zaJ r1 i11).bind fun r2 => some (i8,r2) else if t10 then (zbH r1).bind fun r3 => some (i8,r3) else some (i8,r1)
def zaB (vp0 : zLk) (i8 : Int) (s9 : Str) (t10 : Bool) (i11 : Int) : Option (Int × zLk) := optK vp0.zLn.zLI ((zd2 s9).bind fun r2 => zaA (⟨vp0.Queue,vp0.zL2,vp0.zLO,vp0.zLF,(⟨vp0.zLn.Accum,vp0.zLn.zMI,none⟩ : zLu),vp0.zLl,vp0.zLw,vp0.zLU,vp0.zLR,vp0.zLt,vp0.zLS,vp0.zL3,vp0.zLJ,vp0.zLQ,vp0.zLB,vp0.zLv⟩ : zLk) i8 t10 i11 r2.1) fun r1 => (zc0 r1 s9).bind fun r3 => zaA (⟨vp0.Queue,vp0.zL2,vp0.zLO,vp0.zLF,(⟨vp0.zLn.Accum,vp0.zLn.zMI,some r3.2.2⟩ : zLu),vp0.zLl,vp0.zLw,vp0.zLU,vp0.zLR,vp0.zLt,vp0.zLS,vp0.zL3,vp0.zLJ,vp0.zLQ,vp0.zLB,vp0.zLv⟩ : zLk) i8 t10 i11 r3.1
def zaC (vp0 : zLk) (s1 : Str) (t19 : Bool) : Option (Int × zLk) := if t19 then optK vp0.zLn.Accum ((zfs s1).bind fun r2 => zaz (⟨vp0.Queue,vp0.zL2,vp0.zLO,vp0.zLF,(⟨none,vp0.zLn.zMI,vp0.zLn.zLI⟩ : zLu),vp0.zLl,vp0.zLw,vp0.zLU,vp0.zLR,vp0.zLt,vp0.zLS,vp0.zL3,vp0.zLJ,vp0.zLQ,vp0.zLB,vp0.zLv⟩ : zLk) r2.1 r2.2.1 r2.2.2) fun r1 => (zd4 r1 s1).bind fun r3 => zaz (⟨vp0.Queue,vp0.zL2,vp0.zLO,vp0.zLF,(⟨some r3.2.2.2,vp0.zLn.zMI,vp0.zLn.zLI⟩ : zLu),vp0.zLl,vp0.zLw,vp0.zLU,vp0.zLR,vp0.zLt,vp0.zLS,vp0.zL3,vp0.zLJ,vp0.zLQ,vp0.zLB,vp0.zLv⟩ : zLk) r3.1 r3.2.1 r3.2.2.1 else optK vp0.zLn.zMI ((zhd s1).bind fun r5 => zaB (⟨vp0.Queue,vp0.zL2,vp0.zLO,vp0.zLF,(⟨vp0.zLn.Accum,none,vp0.zLn.zLI⟩ : zLu),vp0.zLl,vp0.zLw,vp0.zLU,vp0.zLR,vp0.zLt,vp0.zLS,vp0.zL3,vp0.zLJ,vp0.zLQ,vp0.zLB,vp0.zLv⟩ : zLk) r5.1 r5.2.1 r5.2.2.1 r5.2.2.2) fun r4 => (zfx r4 s1).bind fun r6 => zaB (⟨vp0.Queue,vp0.zL2,vp0.zLO,vp0.zLF,(⟨vp0.zLn.Accum,some r6.2.2.2.2,vp0.zLn.zLI⟩ : zLu),vp0.zLl,vp0.zLw,vp0.zLU,vp0.zLR,vp0.zLt,vp0.zLS,vp0.zL3,vp0.zLJ,vp0.zLQ,vp0.zLB,vp0.zLv⟩ : zLk) r6.1 r6.2.1 r6.2.2.1 r6.2.2.2.1
def zcj (x_a0 : zLk) (x_a1 : Str) : Option (Int × zLk) := optK x_a0.zLn.zMI (zaC (⟨x_a0.Queue,x_a0.zL2,x_a0.zLO,x_a0.zLF,(⟨x_a0.zLn.Accum,none,x_a0.zLn.zLI⟩ : zLu),x_a0.zLl,x_a0.zLw,x_a0.zLU,x_a0.zLR,x_a0.zLt,x_a0.zLS,x_a0.zL3,x_a0.zLJ,x_a0.zLQ,x_a0.zLB,x_a0.zLv⟩ : zLk) x_a1 true) fun r1 => zaC (⟨x_a0.Queue,x_a0.zL2,x_a0.zLO,x_a0.zLF,(⟨x_a0.zLn.Accum,some r1,x_a0.zLn.zLI⟩ : zLu),x_a0.zLl,x_a0.zLw,x_a0.zLU,x_a0.zLR,x_a0.zLt,x_a0.zLS,x_a0.zL3,x_a0.zLJ,x_a0.zLQ,x_a0.zLB,x_a0.zLv⟩ : zLk) x_a1 false
def zbe (l6 : List Str) (i7 : Int) : Nat → zLk → Int → Option zLk
 | 0,_,_ => none
 | n + 1,vp0,i8 => if (decide (i8 < i7)) then (lAt l6 i8).bind fun r1 => if zl vp0.zLw.length r1.length 1 then (zj i8 1).bind fun r2 => zbe l6 i7 n (⟨vp0.Queue,vp0.zL2,vp0.zLO,vp0.zLF,vp0.zLn,vp0.zLl,vp0.zLw ++ r1,vp0.zLU,vp0.zLR,vp0.zLt,vp0.zLS,vp0.zL3,vp0.zLJ,vp0.zLQ,vp0.zLB,vp0.zLv⟩ : zLk) r2 else none else some vp0
def zab (x_g : zLk) (x_l : List Str) : Option zLk := zbe x_l (x_l.length : Int) fuel x_g 0
def zZ (x_g : zLk) : Option zLk := some (⟨x_g.Queue,x_g.zL2,x_g.zLO,x_g.zLF,(⟨none,none,none⟩ : zLu),(⟨none,none,none⟩ : zLu),x_g.zLw,x_g.zLU,x_g.zLR,x_g.zLt,x_g.zLS,x_g.zL3,x_g.zLJ,x_g.zLQ,x_g.zLB,true⟩ : zLk)
def zaw (x_g : zLk) (x_code : Int) : Option zLk := (zs1 x_code).bind fun r1 => (zab x_g [r1]).bind fun r2 => (zZ r2).bind fun r3 => some r3
def zag (vp0 : zLk) (i2 : Int) (t13 : Bool) : Option zLk := if t13 then (zaw vp0 502).bind fun r1 => some r1 else if (decide ((0 : Int) < i2)) then some vp0 else if (!(vp0.zLR == 0)) then (zaw vp0 vp0.zLR).bind fun r2 => some r2 else if vp0.zLS then (zZ vp0).bind fun r3 => some r3 else some vp0
def zaP (vp0 : zLk) (i2 : Int) : Option zLk := if vp0.zLv then some vp0 else if (decide ((0 : Int) < i2)) then if vp0.zL3 then zag vp0 i2 (!vp0.zLJ) else zag vp0 i2 false else zag vp0 i2 false
def zK (x_g : zLk) : Option zLk := optK x_g.Queue (zeH.bind fun r2 => zaP (⟨none,x_g.zL2,x_g.zLO,x_g.zLF,x_g.zLn,x_g.zLl,x_g.zLw,x_g.zLU,x_g.zLR,x_g.zLt,x_g.zLS,x_g.zL3,x_g.zLJ,x_g.zLQ,x_g.zLB,x_g.zLv⟩ : zLk) r2) fun r1 => (zds r1).bind fun r3 => zaP (⟨some r1,x_g.zL2,x_g.zLO,x_g.zLF,x_g.zLn,x_g.zLl,x_g.zLw,x_g.zLU,x_g.zLR,x_g.zLt,x_g.zLS,x_g.zL3,x_g.zLJ,x_g.zLQ,x_g.zLB,x_g.zLv⟩ : zLk) r3
def zbJ (k0 : zLk → Int → Option (Int × Int × zLk)) (vp0 : zLk) (s1 : Str) (i6 : Int) (t28 : Bool) : Option (Int × Int × zLk) := if t28 then (zY s1 i6).bind fun r1 => (zcj vp0 r1).bind fun r2 => (zj i6 r2.1).bind fun r3 => (zK r2.2).bind fun r4 => k0 r4 r3 else some (i6,0,vp0)
def zR (s1 : Str) : Nat → zLk → Int → Option (Int × Int × zLk)
 | 0,_,_ => none
 | n + 1,vp0,i6 => if (decide (i6 < (s1.length : Int))) then (zef vp0).bind fun r1 => zbJ (zR s1 n) vp0 s1 i6 r1 else zbJ (zR s1 n) vp0 s1 i6 false
def zbo (x_g : zLk) (x_s : Str) : Option (Int × Int × zLk) := if x_g.zLv then some (0,8,x_g) else if x_g.zLS then some (0,8,x_g) else zR x_s fuel x_g 0
def zbY (x_g : zLk) : Option (Str × zLk) := some (x_g.zLw,(⟨x_g.Queue,x_g.zL2,x_g.zLO,x_g.zLF,x_g.zLn,x_g.zLl,[],x_g.zLU,x_g.zLR,x_g.zLt,x_g.zLS,x_g.zL3,x_g.zLJ,x_g.zLQ,x_g.zLB,x_g.zLv⟩ : zLk))
def zbt (x_g : zLk) : Option (Str × zLk) := some (x_g.zLU,(⟨x_g.Queue,x_g.zL2,x_g.zLO,x_g.zLF,x_g.zLn,x_g.zLl,x_g.zLw,[],x_g.zLR,x_g.zLt,x_g.zLS,x_g.zL3,x_g.zLJ,x_g.zLQ,x_g.zLB,x_g.zLv⟩ : zLk))
def zhJ : Option Int := some 0
def zhf : Option Int := some 0
def zbh : Option Int := some 0
def zeK : Option Int := some 0
def zdH (x_c : zLA) : Option Int := some (x_c.zMb.length : Int)
def zaL (x_w : zLE) : Option Int := optK x_w.Encoder (zeK.bind fun r2 => some r2) fun r1 => (zdH r1).bind fun r3 => some r3
def zeL : Option Int := some 0
def zdI (x_d : zLp) : Option Int := some (x_d.zMG.length : Int)
def zfy (x_b : zL1) : Option Int := optK x_b.Decoder (zeL.bind fun r2 => some r2) fun r1 => (zdI r1).bind fun r3 => some r3
def zf2 (x_a : zLC) : Option Int := some (x_a.zMb.length : Int)
def zeM (x_s : zLu) : Option Int := optK x_s.Accum (zhJ.bind fun r2 => optK x_s.zMI (zhf.bind fun r4 => (zj r2 r4).bind fun r5 => optK x_s.zLI (zbh.bind fun r7 => (zj r5 r7).bind fun r8 => some r8) fun r6 => (zaL r6).bind fun r9 => (zj r5 r9).bind fun r10 => some r10) fun r3 => (zfy r3).bind fun r11 => (zj r2 r11).bind fun r12 => optK x_s.zLI (zbh.bind fun r14 => (zj r12 r14).bind fun r15 => some r15) fun r13 => (zaL r13).bind fun r16 => (zj r12 r16).bind fun r17 => some r17) fun r1 => (zf2 r1).bind fun r18 => optK x_s.zMI (zhf.bind fun r20 => (zj r18 r20).bind fun r21 => optK x_s.zLI (zbh.bind fun r23 => (zj r21 r23).bind fun r24 => some r24) fun r22 => (zaL r22).bind fun r25 => (zj r21 r25).bind fun r26 => some r26) fun r19 => (zfy r19).bind fun r27 => (zj r18 r27).bind fun r28 => optK x_s.zLI (zbh.bind fun r30 => (zj r28 r30).bind fun r31 => some r31) fun r29 => (zaL r29).bind fun r32 => (zj r28 r32).bind fun r33 => some r33
def zfj (x_g : zLk) : Option zME := (zeM x_g.zLn).bind fun r1 => (zeM x_g.zLl).bind fun r2 => some (⟨r1,r2⟩ : zME)
def zm (x_w : zLx) : Option zLx := (zbY x_w.Gateway).bind fun r1 => if zl x_w.zLn.zL7.length r1.1.length 1 then (zbt r1.2).bind fun r2 => if zl x_w.zLl.zL7.length r2.1.length 1 then (zfj r2.2).bind fun r3 => some (⟨r2.2,(⟨x_w.zLn.zLW,x_w.zLn.zLL,x_w.zLn.zL6,x_w.zLn.zMe,x_w.zLn.zL7 ++ r1.1,x_w.zLn.zMg,x_w.zLn.zMs⟩ : zLP),(⟨x_w.zLl.zLW,x_w.zLl.zLL,x_w.zLl.zL6,x_w.zLl.zMe,x_w.zLl.zL7 ++ r2.1,x_w.zLl.zMg,x_w.zLl.zMs⟩ : zLP),(⟨max x_w.zLN.Client r3.Client,max x_w.zLN.Upstream r3.Upstream⟩ : zME)⟩ : zLx) else none else none
def zfk : Option (zLz × Bool) := some ((⟨[],0,false⟩ : zLz),false)
def znh (x_f : zLy) (x_minor : Int) : Option zLy := if (x_f.Kind == 1) then some x_f else if (x_f.Kind == 2) then some x_f else if (x_minor == 1) then some (⟨3,0⟩ : zLy) else some (⟨4,0⟩ : zLy)
def zgP (x_r : zMl) : Option (zLz × Bool) := if ((x_r.zMv.length : Int) == 0) then some ((⟨[],0,false⟩ : zLz),false) else (lAt x_r.zMv 0).bind fun r1 => some (r1,true)
def zen (x_q : zLX) : Option (zLz × Bool) := (zgP x_q.zML).bind fun r1 => some (r1.1,r1.2)
def zgQ : Option Bool := some false
def zaD (vp0 : zLk) (i8 : Int) : Option (Int × zLk) := (zdL 2 vp0.zLO.Head).bind fun r1 => some (i8,(⟨vp0.Queue,vp0.zL2,vp0.zLO,vp0.zLF,vp0.zLn,r1,vp0.zLw,vp0.zLU,vp0.zLR,vp0.zLt,vp0.zLS,vp0.zL3,vp0.zLJ,vp0.zLQ,vp0.zLB,vp0.zLv⟩ : zLk))
def zaE (vp0 : zLk) (i8 : Int) (s9 : Str) (t43 : Bool) : Option (Int × zLk) := if t43 then (zab vp0 [s9]).bind fun r1 => zaD (⟨r1.Queue,r1.zL2,r1.zLO,r1.zLF,r1.zLn,r1.zLl,r1.zLw,r1.zLU,r1.zLR,r1.zLt,r1.zLS,r1.zL3,r1.zLJ,r1.zLQ,r1.zLB,r1.zLv⟩ : zLk) i8 else zaD vp0 i8
def zck (x_g : zLk) (x_h : zLq) (x_t : zLz) : Option (Int × zLk) := (zhE x_g.zL2 (⟨1,0⟩ : zLy) x_h x_g.zLF).bind fun r1 => if (!(r1.2 == 0)) then some (r1.2,x_g) else (ziK r1.1 x_g.zLO.Head).bind fun r2 => if (r2.2 == 0) then zaE x_g r2.2 r2.1 (x_t.Minor == 1) else zaE x_g r2.2 r2.1 false
def zfz (v3 : zLq) : Option zLq := some v3
def zkS (x_h : zLq) (x_close : Bool) (x_minor : Int) : Option zLq := if zl ([] : List zLo).length x_h.Fields.length 32 then if x_close then if zl (([] : List zLo) ++ x_h.Fields).length ([(⟨[67,111,110,110,101,99,116,105,111,110],[99,108,111,115,101]⟩ : zLo)] : List zLo).length 32 then zfz (⟨x_h.Kind,x_h.Method,x_h.Target,x_h.Code,x_h.Reason,x_h.Minor,(([] : List zLo) ++ x_h.Fields) ++ ([(⟨[67,111,110,110,101,99,116,105,111,110],[99,108,111,115,101]⟩ : zLo)])⟩ : zLq) else none else if (x_minor == 0) then if zl (([] : List zLo) ++ x_h.Fields).length ([(⟨[67,111,110,110,101,99,116,105,111,110],[107,101,101,112,45,97,108,105,118,101]⟩ : zLo)] : List zLo).length 32 then zfz (⟨x_h.Kind,x_h.Method,x_h.Target,x_h.Code,x_h.Reason,x_h.Minor,(([] : List zLo) ++ x_h.Fields) ++ ([(⟨[67,111,110,110,101,99,116,105,111,110],[107,101,101,112,45,97,108,105,118,101]⟩ : zLo)])⟩ : zLq) else none else zfz (⟨x_h.Kind,x_h.Method,x_h.Target,x_h.Code,x_h.Reason,x_h.Minor,([] : List zLo) ++ x_h.Fields⟩ : zLq) else none
def zfl (x_q : zLX) : Option (Bool × zLX) := if ((x_q.zML.zMv.length : Int) == 0) then some (false,x_q) else (lAt x_q.zML.zMv 0).bind fun r1 => (znM x_q.zML.zMv 1).bind fun r2 => some (true,(⟨(⟨r2,x_q.zML.zLN⟩ : zMl),x_q.zLQ⟩ : zLX))
def zao (vp0 : zLk) : Option zLk := (zdL 2 vp0.zLO.Head).bind fun r1 => if vp0.zLQ then (zZ (⟨vp0.Queue,vp0.zL2,vp0.zLO,vp0.zLF,vp0.zLn,r1,vp0.zLw,vp0.zLU,vp0.zLR,vp0.zLt,vp0.zLS,vp0.zL3,vp0.zLJ,vp0.zLQ,vp0.zLB,vp0.zLv⟩ : zLk)).bind fun r2 => some r2 else some (⟨vp0.Queue,vp0.zL2,vp0.zLO,vp0.zLF,vp0.zLn,r1,vp0.zLw,vp0.zLU,vp0.zLR,vp0.zLt,vp0.zLS,vp0.zL3,vp0.zLJ,vp0.zLQ,vp0.zLB,vp0.zLv⟩ : zLk)
def zap (vp0 : zLk) : Option zLk := if vp0.zL3 then zao (⟨vp0.Queue,vp0.zL2,vp0.zLO,vp0.zLF,vp0.zLn,vp0.zLl,vp0.zLw,vp0.zLU,vp0.zLR,vp0.zLt,vp0.zLS,true,false,vp0.zLQ,vp0.zLB,vp0.zLv⟩ : zLk) else zao (⟨vp0.Queue,vp0.zL2,vp0.zLO,vp0.zLF,vp0.zLn,vp0.zLl,vp0.zLw,vp0.zLU,vp0.zLR,vp0.zLt,vp0.zLS,vp0.zLB,false,vp0.zLQ,vp0.zLB,vp0.zLv⟩ : zLk)
def zO (vp0 : zLk) (s2 : Str) : Option zLk := (zab vp0 [s2]).bind fun r1 => optK r1.Queue (zgQ.bind fun r3 => zap (⟨none,r1.zL2,r1.zLO,r1.zLF,r1.zLn,r1.zLl,r1.zLw,r1.zLU,r1.zLR,r1.zLt,r1.zLS,r1.zL3,r1.zLJ,r1.zLQ,r1.zLB,r1.zLv⟩ : zLk)) fun r2 => (zfl r2).bind fun r4 => zap (⟨some r4.2,r1.zL2,r1.zLO,r1.zLF,r1.zLn,r1.zLl,r1.zLw,r1.zLU,r1.zLR,r1.zLt,r1.zLS,r1.zL3,r1.zLJ,r1.zLQ,r1.zLB,r1.zLv⟩ : zLk)
def zak (x_g : zLk) : Option zLk := optK x_g.zLl.zLI (optK x_g.zLl.zMI (zbx.bind fun r3 => (zby r3).bind fun r4 => zO (⟨x_g.Queue,x_g.zL2,x_g.zLO,x_g.zLF,x_g.zLn,(⟨x_g.zLl.Accum,none,none⟩ : zLu),x_g.zLw,x_g.zLU,x_g.zLR,x_g.zLt,x_g.zLS,x_g.zL3,x_g.zLJ,x_g.zLQ,x_g.zLB,x_g.zLv⟩ : zLk) r4.1) fun r2 => (zaV r2).bind fun r5 => (zby r5).bind fun r6 => zO (⟨x_g.Queue,x_g.zL2,x_g.zLO,x_g.zLF,x_g.zLn,(⟨x_g.zLl.Accum,some r2,none⟩ : zLu),x_g.zLw,x_g.zLU,x_g.zLR,x_g.zLt,x_g.zLS,x_g.zL3,x_g.zLJ,x_g.zLQ,x_g.zLB,x_g.zLv⟩ : zLk) r6.1) fun r1 => optK x_g.zLl.zMI (zbx.bind fun r8 => (zaW r1 r8).bind fun r9 => zO (⟨x_g.Queue,x_g.zL2,x_g.zLO,x_g.zLF,x_g.zLn,(⟨x_g.zLl.Accum,none,some r9.2.2⟩ : zLu),x_g.zLw,x_g.zLU,x_g.zLR,x_g.zLt,x_g.zLS,x_g.zL3,x_g.zLJ,x_g.zLQ,x_g.zLB,x_g.zLv⟩ : zLk) r9.1) fun r7 => (zaV r7).bind fun r10 => (zaW r1 r10).bind fun r11 => zO (⟨x_g.Queue,x_g.zL2,x_g.zLO,x_g.zLF,x_g.zLn,(⟨x_g.zLl.Accum,some r7,some r11.2.2⟩ : zLu),x_g.zLw,x_g.zLU,x_g.zLR,x_g.zLt,x_g.zLS,x_g.zL3,x_g.zLJ,x_g.zLQ,x_g.zLB,x_g.zLv⟩ : zLk) r11.1
def za3 (vp0 : zLk) (t123 : Bool) : Option (Int × zLk) := if t123 then (zak vp0).bind fun r1 => some (0,r1) else some (0,vp0)
def za4 (vp0 : zLk) : Option (Int × zLk) := optK vp0.zLl.zMI (zhe.bind fun r2 => za3 (⟨vp0.Queue,vp0.zL2,vp0.zLO,vp0.zLF,vp0.zLn,(⟨vp0.zLl.Accum,none,vp0.zLl.zLI⟩ : zLu),vp0.zLw,vp0.zLU,vp0.zLR,vp0.zLt,vp0.zLS,vp0.zL3,vp0.zLJ,vp0.zLQ,vp0.zLB,vp0.zLv⟩ : zLk) r2) fun r1 => (zfw r1).bind fun r3 => za3 (⟨vp0.Queue,vp0.zL2,vp0.zLO,vp0.zLF,vp0.zLn,(⟨vp0.zLl.Accum,some r1,vp0.zLl.zLI⟩ : zLu),vp0.zLw,vp0.zLU,vp0.zLR,vp0.zLt,vp0.zLS,vp0.zL3,vp0.zLJ,vp0.zLQ,vp0.zLB,vp0.zLv⟩ : zLk) r3
def za5 (vp0 : zLk) (v9 : zLy) : Option (Int × zLk) := (zk9 v9 vp0.zLO.Chunk).bind fun r1 => optK r1.1 (za4 (⟨vp0.Queue,vp0.zL2,vp0.zLO,vp0.zLF,vp0.zLn,(⟨vp0.zLl.Accum,vp0.zLl.zMI,none⟩ : zLu),vp0.zLw,vp0.zLU,vp0.zLR,vp0.zLt,vp0.zLS,vp0.zL3,vp0.zLJ,vp0.zLQ,vp0.zLB,vp0.zLv⟩ : zLk)) fun r2 => za4 (⟨vp0.Queue,vp0.zL2,vp0.zLO,vp0.zLF,vp0.zLn,(⟨vp0.zLl.Accum,vp0.zLl.zMI,some r2⟩ : zLu),vp0.zLw,vp0.zLU,vp0.zLR,vp0.zLt,vp0.zLS,vp0.zL3,vp0.zLJ,vp0.zLQ,vp0.zLB,vp0.zLv⟩ : zLk)
def za6 (vp0 : zLk) (v5 : zLz) (v7 : zLy) (v9 : zLy) (v10 : zLq) : Option (Int × zLk) := (zkS v10 vp0.zLQ v5.Minor).bind fun r1 => (ziK r1 vp0.zLO.Head).bind fun r2 => if (!(r2.2 == 0)) then some (r2.2,vp0) else (zab vp0 [r2.1]).bind fun r3 => (zqF v7 r3.zLO.Head).bind fun r4 => optK r4.1 (za5 (⟨r3.Queue,r3.zL2,r3.zLO,r3.zLF,r3.zLn,(⟨r3.zLl.Accum,none,r3.zLl.zLI⟩ : zLu),r3.zLw,r3.zLU,r3.zLR,r3.zLt,r3.zLS,r3.zL3,true,r3.zLQ,r3.zLB,r3.zLv⟩ : zLk) v9) fun r5 => za5 (⟨r3.Queue,r3.zL2,r3.zLO,r3.zLF,r3.zLn,(⟨r3.zLl.Accum,some r5,r3.zLl.zLI⟩ : zLu),r3.zLw,r3.zLU,r3.zLR,r3.zLt,r3.zLS,r3.zL3,true,r3.zLQ,r3.zLB,r3.zLv⟩ : zLk) v9
def za7 (vp0 : zLk) (v4 : zLq) (v5 : zLz) (v7 : zLy) (v9 : zLy) (v10 : zLq) : Option (Int × zLk) := (znY v4).bind fun r1 => if r1 then za6 (⟨vp0.Queue,vp0.zL2,vp0.zLO,vp0.zLF,vp0.zLn,vp0.zLl,vp0.zLw,vp0.zLU,vp0.zLR,vp0.zLt,vp0.zLS,vp0.zL3,vp0.zLJ,vp0.zLQ,true,vp0.zLv⟩ : zLk) v5 v7 v9 v10 else za6 (⟨vp0.Queue,vp0.zL2,vp0.zLO,vp0.zLF,vp0.zLn,vp0.zLl,vp0.zLw,vp0.zLU,vp0.zLR,vp0.zLt,vp0.zLS,vp0.zL3,vp0.zLJ,vp0.zLQ,v7.Kind == 4,vp0.zLv⟩ : zLk) v5 v7 v9 v10
def zdd (x_a0 : zLk) (x_a1 : zLq) (x_a2 : zLz) : Option (Int × zLk) := (zgs x_a2.Method x_a1).bind fun r1 => if (!(r1.2 == 0)) then some (r1.2,x_a0) else (znh r1.1 x_a2.Minor).bind fun r2 => (zhE x_a0.zL2 r2 x_a1 x_a0.zLF).bind fun r3 => if (!(r3.2 == 0)) then some (r3.2,x_a0) else if x_a2.Close then za7 (⟨x_a0.Queue,x_a0.zL2,x_a0.zLO,x_a0.zLF,x_a0.zLn,x_a0.zLl,x_a0.zLw,x_a0.zLU,x_a0.zLR,x_a0.zLt,x_a0.zLS,x_a0.zL3,x_a0.zLJ,true,x_a0.zLB,x_a0.zLv⟩ : zLk) x_a1 x_a2 r1.1 (⟨r2.Kind,r2.N⟩ : zLy) r3.1 else za7 (⟨x_a0.Queue,x_a0.zL2,x_a0.zLO,x_a0.zLF,x_a0.zLn,x_a0.zLl,x_a0.zLw,x_a0.zLU,x_a0.zLR,x_a0.zLt,x_a0.zLS,x_a0.zL3,x_a0.zLJ,r2.Kind == 4,x_a0.zLB,x_a0.zLv⟩ : zLk) x_a1 x_a2 r1.1 (⟨r2.Kind,r2.N⟩ : zLy) r3.1
def z8 (vp0 : zLk) (i6 : Int) : Option zLk := if (!(i6 == 0)) then (zaw vp0 502).bind fun r1 => some r1 else some vp0
def zaF (vp0 : zLk) (v2 : zLq) (v4 : zLz) : Option zLk := if (v2.Code == 101) then z8 vp0 20 else if (decide (v2.Code < 200)) then (zck vp0 v2 v4).bind fun r1 => z8 r1.2 r1.1 else (zdd vp0 v2 v4).bind fun r2 => z8 r2.2 r2.1
def zaG (vp0 : zLk) (v2 : zLq) : Option zLk := optK vp0.Queue (zfk.bind fun r2 => zaF (⟨none,vp0.zL2,vp0.zLO,vp0.zLF,vp0.zLn,vp0.zLl,vp0.zLw,vp0.zLU,vp0.zLR,vp0.zLt,vp0.zLS,vp0.zL3,vp0.zLJ,vp0.zLQ,vp0.zLB,vp0.zLv⟩ : zLk) v2 r2.1) fun r1 => (zen r1).bind fun r3 => zaF (⟨some r1,vp0.zL2,vp0.zLO,vp0.zLF,vp0.zLn,vp0.zLl,vp0.zLw,vp0.zLU,vp0.zLR,vp0.zLt,vp0.zLS,vp0.zL3,vp0.zLJ,vp0.zLQ,vp0.zLB,vp0.zLv⟩ : zLk) v2 r3.1
def zcl (x_g : zLk) : Option zLk := optK x_g.zLl.Accum (zdO.bind fun r2 => zaG (⟨x_g.Queue,x_g.zL2,x_g.zLO,x_g.zLF,x_g.zLn,(⟨none,x_g.zLl.zMI,x_g.zLl.zLI⟩ : zLu),x_g.zLw,x_g.zLU,x_g.zLR,x_g.zLt,x_g.zLS,x_g.zL3,x_g.zLJ,x_g.zLQ,x_g.zLB,x_g.zLv⟩ : zLk) (⟨r2.1.Kind,r2.1.Method,r2.1.Target,r2.1.Code,r2.1.Reason,r2.1.Minor,r2.1.Fields⟩ : zLq)) fun r1 => (zcB r1).bind fun r3 => zaG (⟨x_g.Queue,x_g.zL2,x_g.zLO,x_g.zLF,x_g.zLn,(⟨some r1,x_g.zLl.zMI,x_g.zLl.zLI⟩ : zLu),x_g.zLw,x_g.zLU,x_g.zLR,x_g.zLt,x_g.zLS,x_g.zL3,x_g.zLJ,x_g.zLQ,x_g.zLB,x_g.zLv⟩ : zLk) r3.1
def zaq (vp0 : zLk) (i5 : Int) (t6 : Bool) (i7 : Int) : Option (Int × zLk) := if (!(i7 == 0)) then (zaw vp0 502).bind fun r1 => some (i5,r1) else if t6 then (zcl vp0).bind fun r2 => some (i5,r2) else some (i5,vp0)
def zar (vp0 : zLk) (i8 : Int) (t10 : Bool) (i11 : Int) (s12 : Str) : Option (Int × zLk) := (zab vp0 [s12]).bind fun r1 => if (!(i11 == 0)) then (zZ r1).bind fun r2 => some (i8,r2) else if t10 then (zak r1).bind fun r3 => some (i8,r3) else some (i8,r1)
def zas (vp0 : zLk) (i8 : Int) (s9 : Str) (t10 : Bool) (i11 : Int) : Option (Int × zLk) := optK vp0.zLl.zLI ((zd2 s9).bind fun r2 => zar (⟨vp0.Queue,vp0.zL2,vp0.zLO,vp0.zLF,vp0.zLn,(⟨vp0.zLl.Accum,vp0.zLl.zMI,none⟩ : zLu),vp0.zLw,vp0.zLU,vp0.zLR,vp0.zLt,vp0.zLS,vp0.zL3,vp0.zLJ,vp0.zLQ,vp0.zLB,vp0.zLv⟩ : zLk) i8 t10 i11 r2.1) fun r1 => (zc0 r1 s9).bind fun r3 => zar (⟨vp0.Queue,vp0.zL2,vp0.zLO,vp0.zLF,vp0.zLn,(⟨vp0.zLl.Accum,vp0.zLl.zMI,some r3.2.2⟩ : zLu),vp0.zLw,vp0.zLU,vp0.zLR,vp0.zLt,vp0.zLS,vp0.zL3,vp0.zLJ,vp0.zLQ,vp0.zLB,vp0.zLv⟩ : zLk) i8 t10 i11 r3.1
def zat (vp0 : zLk) (s1 : Str) (t19 : Bool) : Option (Int × zLk) := if t19 then optK vp0.zLl.Accum ((zfs s1).bind fun r2 => zaq (⟨vp0.Queue,vp0.zL2,vp0.zLO,vp0.zLF,vp0.zLn,(⟨none,vp0.zLl.zMI,vp0.zLl.zLI⟩ : zLu),vp0.zLw,vp0.zLU,vp0.zLR,vp0.zLt,vp0.zLS,vp0.zL3,vp0.zLJ,vp0.zLQ,vp0.zLB,vp0.zLv⟩ : zLk) r2.1 r2.2.1 r2.2.2) fun r1 => (zd4 r1 s1).bind fun r3 => zaq (⟨vp0.Queue,vp0.zL2,vp0.zLO,vp0.zLF,vp0.zLn,(⟨some r3.2.2.2,vp0.zLl.zMI,vp0.zLl.zLI⟩ : zLu),vp0.zLw,vp0.zLU,vp0.zLR,vp0.zLt,vp0.zLS,vp0.zL3,vp0.zLJ,vp0.zLQ,vp0.zLB,vp0.zLv⟩ : zLk) r3.1 r3.2.1 r3.2.2.1 else optK vp0.zLl.zMI ((zhd s1).bind fun r5 => zas (⟨vp0.Queue,vp0.zL2,vp0.zLO,vp0.zLF,vp0.zLn,(⟨vp0.zLl.Accum,none,vp0.zLl.zLI⟩ : zLu),vp0.zLw,vp0.zLU,vp0.zLR,vp0.zLt,vp0.zLS,vp0.zL3,vp0.zLJ,vp0.zLQ,vp0.zLB,vp0.zLv⟩ : zLk) r5.1 r5.2.1 r5.2.2.1 r5.2.2.2) fun r4 => (zfx r4 s1).bind fun r6 => zas (⟨vp0.Queue,vp0.zL2,vp0.zLO,vp0.zLF,vp0.zLn,(⟨vp0.zLl.Accum,some r6.2.2.2.2,vp0.zLl.zLI⟩ : zLu),vp0.zLw,vp0.zLU,vp0.zLR,vp0.zLt,vp0.zLS,vp0.zL3,vp0.zLJ,vp0.zLQ,vp0.zLB,vp0.zLv⟩ : zLk) r6.1 r6.2.1 r6.2.2.1 r6.2.2.2.1
def zbZ (x_a0 : zLk) (x_a1 : Str) : Option (Int × zLk) := optK x_a0.zLl.zMI (zat (⟨x_a0.Queue,x_a0.zL2,x_a0.zLO,x_a0.zLF,x_a0.zLn,(⟨x_a0.zLl.Accum,none,x_a0.zLl.zLI⟩ : zLu),x_a0.zLw,x_a0.zLU,x_a0.zLR,x_a0.zLt,x_a0.zLS,x_a0.zL3,x_a0.zLJ,x_a0.zLQ,x_a0.zLB,x_a0.zLv⟩ : zLk) x_a1 true) fun r1 => zat (⟨x_a0.Queue,x_a0.zL2,x_a0.zLO,x_a0.zLF,x_a0.zLn,(⟨x_a0.zLl.Accum,some r1,x_a0.zLl.zLI⟩ : zLu),x_a0.zLw,x_a0.zLU,x_a0.zLR,x_a0.zLt,x_a0.zLS,x_a0.zL3,x_a0.zLJ,x_a0.zLQ,x_a0.zLB,x_a0.zLv⟩ : zLk) x_a1 false
def zP (k0 : zLk → Int → Option (Int × Int × zLk)) (vp0 : zLk) (s1 : Str) (i6 : Int) (t46 : Bool) : Option (Int × Int × zLk) := if t46 then (zY s1 i6).bind fun r1 => (zbZ vp0 r1).bind fun r2 => (zj i6 r2.1).bind fun r3 => (zK r2.2).bind fun r4 => k0 r4 r3 else some (i6,0,vp0)
def zy (s1 : Str) : Nat → zLk → Int → Option (Int × Int × zLk)
 | 0,_,_ => none
 | n + 1,vp0,i6 => if (decide (i6 < (s1.length : Int))) then if (!vp0.zLv) then if (!vp0.zL3) then optK vp0.Queue (zeH.bind fun r2 => zP (zy s1 n) (⟨none,vp0.zL2,vp0.zLO,vp0.zLF,vp0.zLn,vp0.zLl,vp0.zLw,vp0.zLU,vp0.zLR,vp0.zLt,vp0.zLS,vp0.zL3,vp0.zLJ,vp0.zLQ,vp0.zLB,vp0.zLv⟩ : zLk) s1 i6 (decide ((0 : Int) < r2))) fun r1 => (zds r1).bind fun r3 => zP (zy s1 n) (⟨some r1,vp0.zL2,vp0.zLO,vp0.zLF,vp0.zLn,vp0.zLl,vp0.zLw,vp0.zLU,vp0.zLR,vp0.zLt,vp0.zLS,vp0.zL3,vp0.zLJ,vp0.zLQ,vp0.zLB,vp0.zLv⟩ : zLk) s1 i6 (decide ((0 : Int) < r3)) else zP (zy s1 n) vp0 s1 i6 false else zP (zy s1 n) vp0 s1 i6 false else zP (zy s1 n) vp0 s1 i6 false
def zr (x_g : zLk) (x_s : Str) : Option (Int × Int × zLk) := if x_g.zLv then some (0,8,x_g) else if x_g.zL3 then some (0,8,x_g) else zy x_s fuel x_g 0
def zkT : Option (Bool × Int) := some (false,5)
def zf3 (vp0 : zL1) : Option (Bool × Int × zL1) := some (true,0,vp0)
def ziB (x_b : zL1) : Option (Bool × Int × zL1) := if (x_b.zMq.Kind == 4) then zf3 (⟨x_b.Decoder,x_b.zMq,x_b.zMd,true,x_b.zMK⟩ : zL1) else if (!x_b.zMB) then some (false,6,x_b) else zf3 x_b
def zac (vp0 : zLk) (t3 : Bool) : Option (Int × zLk) := if t3 then (zak vp0).bind fun r1 => (zK r1).bind fun r2 => some (0,r2) else (zZ vp0).bind fun r3 => (zK r3).bind fun r4 => some (0,r4)
def zn (x_g : zLk) : Option (Int × zLk) := if x_g.zLv then some (8,x_g) else if x_g.zL3 then some (8,x_g) else if x_g.zLJ then optK x_g.zLl.zMI (zkT.bind fun r2 => zac (⟨x_g.Queue,x_g.zL2,x_g.zLO,x_g.zLF,x_g.zLn,(⟨x_g.zLl.Accum,none,x_g.zLl.zLI⟩ : zLu),x_g.zLw,x_g.zLU,x_g.zLR,x_g.zLt,x_g.zLS,true,x_g.zLJ,x_g.zLQ,x_g.zLB,x_g.zLv⟩ : zLk) r2.1) fun r1 => (ziB r1).bind fun r3 => zac (⟨x_g.Queue,x_g.zL2,x_g.zLO,x_g.zLF,x_g.zLn,(⟨x_g.zLl.Accum,some r3.2.2,x_g.zLl.zLI⟩ : zLu),x_g.zLw,x_g.zLU,x_g.zLR,x_g.zLt,x_g.zLS,true,x_g.zLJ,x_g.zLQ,x_g.zLB,x_g.zLv⟩ : zLk) r3.1 else (zK (⟨x_g.Queue,x_g.zL2,x_g.zLO,x_g.zLF,x_g.zLn,x_g.zLl,x_g.zLw,x_g.zLU,x_g.zLR,x_g.zLt,x_g.zLS,true,x_g.zLJ,x_g.zLQ,x_g.zLB,x_g.zLv⟩ : zLk)).bind fun r4 => some (0,r4)
def zaQ (x_g : zLk) : Option (Int × zLk) := if x_g.zLv then some (8,x_g) else if x_g.zLS then some (8,x_g) else (zK (⟨x_g.Queue,x_g.zL2,x_g.zLO,x_g.zLF,(⟨none,none,none⟩ : zLu),x_g.zLl,x_g.zLw,x_g.zLU,x_g.zLR,true,true,x_g.zL3,x_g.zLJ,x_g.zLQ,x_g.zLB,x_g.zLv⟩ : zLk)).bind fun r1 => some (0,r1)
def zd : Nat → zLx → Int → Int → Option (Int × Option zLx)
 | 0,_,_,_ => none
 | n + 1,vp0,i3,i4 => if (decide (i4 < 2)) then (zp vp0.Gateway).bind fun r2 => if r2 then some (i3,some vp0) else (zY vp0.zLn.zLW vp0.zLn.zLL).bind fun r3 => (sTo r3 (min (vp0.zLn.zLW.length : Int) (r3.length : Int))).bind fun r4 => (zbo vp0.Gateway r4).bind fun r5 => (zj vp0.zLn.zLL r5.1).bind fun r6 => (zm (⟨r5.2.2,(⟨vp0.zLn.zLW,r6,vp0.zLn.zL6,vp0.zLn.zMe,vp0.zLn.zL7,vp0.zLn.zMg,vp0.zLn.zMs⟩ : zLP),vp0.zLl,vp0.zLN⟩ : zLx)).bind fun r7 => if r7.zLn.zL6 then if (!r7.zLn.zMe) then (zY r7.zLn.zLW r7.zLn.zLL).bind fun r8 => if (r8 == []) then (zY r7.zLn.zLW r7.zLn.zLL).bind fun r9 => if (!(r9 == [])) then (zj i3 r5.1).bind fun r10 => (zj i4 1).bind fun r11 => (zp r7.Gateway).bind fun r13 => if r13 then some (r10,some (⟨r7.Gateway,(⟨r7.zLn.zLW,r7.zLn.zLL,r7.zLn.zL6,true,r7.zLn.zL7,r7.zLn.zMg,r7.zLn.zMs⟩ : zLP),r7.zLl,r7.zLN⟩ : zLx)) else (zY r7.zLl.zLW r7.zLl.zLL).bind fun r14 => (sTo r14 (min (r7.zLl.zLW.length : Int) (r14.length : Int))).bind fun r15 => (zr r7.Gateway r15).bind fun r16 => (zj r7.zLl.zLL r16.1).bind fun r17 => (zm (⟨r16.2.2,(⟨r7.zLn.zLW,r7.zLn.zLL,r7.zLn.zL6,true,r7.zLn.zL7,r7.zLn.zMg,r7.zLn.zMs⟩ : zLP),(⟨r7.zLl.zLW,r17,r7.zLl.zL6,r7.zLl.zMe,r7.zLl.zL7,r7.zLl.zMg,r7.zLl.zMs⟩ : zLP),r7.zLN⟩ : zLx)).bind fun r18 => if r18.zLl.zL6 then if (!r18.zLl.zMe) then (zY r18.zLl.zLW r18.zLl.zLL).bind fun r19 => if (r19 == []) then (zY r18.zLl.zLW r18.zLl.zLL).bind fun r20 => if (!(r20 == [])) then (zj r10 r16.1).bind fun r21 => zd n (⟨r18.Gateway,r18.zLn,(⟨r18.zLl.zLW,r18.zLl.zLL,r18.zLl.zL6,true,r18.zLl.zL7,r18.zLl.zMg,r18.zLl.zMs⟩ : zLP),r18.zLN⟩ : zLx) r21 0 else (zn r18.Gateway).bind fun r22 => (zm (⟨r22.2,r18.zLn,(⟨r18.zLl.zLW,r18.zLl.zLL,r18.zLl.zL6,true,r18.zLl.zL7,r18.zLl.zMg,r18.zLl.zMs⟩ : zLP),r18.zLN⟩ : zLx)).bind fun r23 => (zj r10 r16.1).bind fun r24 => zd n r23 r24 0 else (zj r10 r16.1).bind fun r25 => if (decide ((0 : Int) < r16.1)) then zd n r18 r25 0 else zd n r18 r25 1 else (zj r10 r16.1).bind fun r26 => if (decide ((0 : Int) < r16.1)) then zd n r18 r26 0 else zd n r18 r26 1 else (zj r10 r16.1).bind fun r27 => if (decide ((0 : Int) < r16.1)) then zd n r18 r27 0 else zd n r18 r27 1 else (zaQ r7.Gateway).bind fun r28 => (zm (⟨r28.2,(⟨r7.zLn.zLW,r7.zLn.zLL,r7.zLn.zL6,true,r7.zLn.zL7,r7.zLn.zMg,r7.zLn.zMs⟩ : zLP),r7.zLl,r7.zLN⟩ : zLx)).bind fun r29 => (zj i3 r5.1).bind fun r30 => (zj i4 1).bind fun r31 => (zp r29.Gateway).bind fun r33 => if r33 then some (r30,some r29) else (zY r29.zLl.zLW r29.zLl.zLL).bind fun r34 => (sTo r34 (min (r29.zLl.zLW.length : Int) (r34.length : Int))).bind fun r35 => (zr r29.Gateway r35).bind fun r36 => (zj r29.zLl.zLL r36.1).bind fun r37 => (zm (⟨r36.2.2,r29.zLn,(⟨r29.zLl.zLW,r37,r29.zLl.zL6,r29.zLl.zMe,r29.zLl.zL7,r29.zLl.zMg,r29.zLl.zMs⟩ : zLP),r29.zLN⟩ : zLx)).bind fun r38 => if r38.zLl.zL6 then if (!r38.zLl.zMe) then (zY r38.zLl.zLW r38.zLl.zLL).bind fun r39 => if (r39 == []) then (zY r38.zLl.zLW r38.zLl.zLL).bind fun r40 => if (!(r40 == [])) then (zj r30 r36.1).bind fun r41 => zd n (⟨r38.Gateway,r38.zLn,(⟨r38.zLl.zLW,r38.zLl.zLL,r38.zLl.zL6,true,r38.zLl.zL7,r38.zLl.zMg,r38.zLl.zMs⟩ : zLP),r38.zLN⟩ : zLx) r41 0 else (zn r38.Gateway).bind fun r42 => (zm (⟨r42.2,r38.zLn,(⟨r38.zLl.zLW,r38.zLl.zLL,r38.zLl.zL6,true,r38.zLl.zL7,r38.zLl.zMg,r38.zLl.zMs⟩ : zLP),r38.zLN⟩ : zLx)).bind fun r43 => (zj r30 r36.1).bind fun r44 => zd n r43 r44 0 else (zj r30 r36.1).bind fun r45 => if (decide ((0 : Int) < r36.1)) then zd n r38 r45 0 else zd n r38 r45 1 else (zj r30 r36.1).bind fun r46 => if (decide ((0 : Int) < r36.1)) then zd n r38 r46 0 else zd n r38 r46 1 else (zj r30 r36.1).bind fun r47 => if (decide ((0 : Int) < r36.1)) then zd n r38 r47 0 else zd n r38 r47 1 else (zj i3 r5.1).bind fun r48 => (zj i4 1).bind fun r49 => if (decide ((0 : Int) < r5.1)) then (zp r7.Gateway).bind fun r51 => if r51 then some (r48,some r7) else (zY r7.zLl.zLW r7.zLl.zLL).bind fun r52 => (sTo r52 (min (r7.zLl.zLW.length : Int) (r52.length : Int))).bind fun r53 => (zr r7.Gateway r53).bind fun r54 => (zj r7.zLl.zLL r54.1).bind fun r55 => (zm (⟨r54.2.2,r7.zLn,(⟨r7.zLl.zLW,r55,r7.zLl.zL6,r7.zLl.zMe,r7.zLl.zL7,r7.zLl.zMg,r7.zLl.zMs⟩ : zLP),r7.zLN⟩ : zLx)).bind fun r56 => if r56.zLl.zL6 then if (!r56.zLl.zMe) then (zY r56.zLl.zLW r56.zLl.zLL).bind fun r57 => if (r57 == []) then (zY r56.zLl.zLW r56.zLl.zLL).bind fun r58 => if (!(r58 == [])) then (zj r48 r54.1).bind fun r59 => zd n (⟨r56.Gateway,r56.zLn,(⟨r56.zLl.zLW,r56.zLl.zLL,r56.zLl.zL6,true,r56.zLl.zL7,r56.zLl.zMg,r56.zLl.zMs⟩ : zLP),r56.zLN⟩ : zLx) r59 0 else (zn r56.Gateway).bind fun r60 => (zm (⟨r60.2,r56.zLn,(⟨r56.zLl.zLW,r56.zLl.zLL,r56.zLl.zL6,true,r56.zLl.zL7,r56.zLl.zMg,r56.zLl.zMs⟩ : zLP),r56.zLN⟩ : zLx)).bind fun r61 => (zj r48 r54.1).bind fun r62 => zd n r61 r62 0 else (zj r48 r54.1).bind fun r63 => if (decide ((0 : Int) < r54.1)) then zd n r56 r63 0 else zd n r56 r63 1 else (zj r48 r54.1).bind fun r64 => if (decide ((0 : Int) < r54.1)) then zd n r56 r64 0 else zd n r56 r64 1 else (zj r48 r54.1).bind fun r65 => if (decide ((0 : Int) < r54.1)) then zd n r56 r65 0 else zd n r56 r65 1 else (zp r7.Gateway).bind fun r67 => if r67 then some (r48,some r7) else (zY r7.zLl.zLW r7.zLl.zLL).bind fun r68 => (sTo r68 (min (r7.zLl.zLW.length : Int) (r68.length : Int))).bind fun r69 => (zr r7.Gateway r69).bind fun r70 => (zj r7.zLl.zLL r70.1).bind fun r71 => (zm (⟨r70.2.2,r7.zLn,(⟨r7.zLl.zLW,r71,r7.zLl.zL6,r7.zLl.zMe,r7.zLl.zL7,r7.zLl.zMg,r7.zLl.zMs⟩ : zLP),r7.zLN⟩ : zLx)).bind fun r72 => if r72.zLl.zL6 then if (!r72.zLl.zMe) then (zY r72.zLl.zLW r72.zLl.zLL).bind fun r73 => if (r73 == []) then (zY r72.zLl.zLW r72.zLl.zLL).bind fun r74 => if (!(r74 == [])) then (zj r48 r70.1).bind fun r75 => (zj r49 1).bind fun r76 => zd n (⟨r72.Gateway,r72.zLn,(⟨r72.zLl.zLW,r72.zLl.zLL,r72.zLl.zL6,true,r72.zLl.zL7,r72.zLl.zMg,r72.zLl.zMs⟩ : zLP),r72.zLN⟩ : zLx) r75 0 else (zn r72.Gateway).bind fun r77 => (zm (⟨r77.2,r72.zLn,(⟨r72.zLl.zLW,r72.zLl.zLL,r72.zLl.zL6,true,r72.zLl.zL7,r72.zLl.zMg,r72.zLl.zMs⟩ : zLP),r72.zLN⟩ : zLx)).bind fun r78 => (zj r48 r70.1).bind fun r79 => (zj r49 1).bind fun r80 => zd n r78 r79 0 else (zj r48 r70.1).bind fun r81 => (zj r49 1).bind fun r82 => if (decide ((0 : Int) < r70.1)) then zd n r72 r81 0 else zd n r72 r81 r82 else (zj r48 r70.1).bind fun r83 => (zj r49 1).bind fun r84 => if (decide ((0 : Int) < r70.1)) then zd n r72 r83 0 else zd n r72 r83 r84 else (zj r48 r70.1).bind fun r85 => (zj r49 1).bind fun r86 => if (decide ((0 : Int) < r70.1)) then zd n r72 r85 0 else zd n r72 r85 r86 else (zj i3 r5.1).bind fun r87 => (zj i4 1).bind fun r88 => if (decide ((0 : Int) < r5.1)) then (zp r7.Gateway).bind fun r90 => if r90 then some (r87,some r7) else (zY r7.zLl.zLW r7.zLl.zLL).bind fun r91 => (sTo r91 (min (r7.zLl.zLW.length : Int) (r91.length : Int))).bind fun r92 => (zr r7.Gateway r92).bind fun r93 => (zj r7.zLl.zLL r93.1).bind fun r94 => (zm (⟨r93.2.2,r7.zLn,(⟨r7.zLl.zLW,r94,r7.zLl.zL6,r7.zLl.zMe,r7.zLl.zL7,r7.zLl.zMg,r7.zLl.zMs⟩ : zLP),r7.zLN⟩ : zLx)).bind fun r95 => if r95.zLl.zL6 then if (!r95.zLl.zMe) then (zY r95.zLl.zLW r95.zLl.zLL).bind fun r96 => if (r96 == []) then (zY r95.zLl.zLW r95.zLl.zLL).bind fun r97 => if (!(r97 == [])) then (zj r87 r93.1).bind fun r98 => zd n (⟨r95.Gateway,r95.zLn,(⟨r95.zLl.zLW,r95.zLl.zLL,r95.zLl.zL6,true,r95.zLl.zL7,r95.zLl.zMg,r95.zLl.zMs⟩ : zLP),r95.zLN⟩ : zLx) r98 0 else (zn r95.Gateway).bind fun r99 => (zm (⟨r99.2,r95.zLn,(⟨r95.zLl.zLW,r95.zLl.zLL,r95.zLl.zL6,true,r95.zLl.zL7,r95.zLl.zMg,r95.zLl.zMs⟩ : zLP),r95.zLN⟩ : zLx)).bind fun r100 => (zj r87 r93.1).bind fun r101 => zd n r100 r101 0 else (zj r87 r93.1).bind fun r102 => if (decide ((0 : Int) < r93.1)) then zd n r95 r102 0 else zd n r95 r102 1 else (zj r87 r93.1).bind fun r103 => if (decide ((0 : Int) < r93.1)) then zd n r95 r103 0 else zd n r95 r103 1 else (zj r87 r93.1).bind fun r104 => if (decide ((0 : Int) < r93.1)) then zd n r95 r104 0 else zd n r95 r104 1 else (zp r7.Gateway).bind fun r106 => if r106 then some (r87,some r7) else (zY r7.zLl.zLW r7.zLl.zLL).bind fun r107 => (sTo r107 (min (r7.zLl.zLW.length : Int) (r107.length : Int))).bind fun r108 => (zr r7.Gateway r108).bind fun r109 => (zj r7.zLl.zLL r109.1).bind fun r110 => (zm (⟨r109.2.2,r7.zLn,(⟨r7.zLl.zLW,r110,r7.zLl.zL6,r7.zLl.zMe,r7.zLl.zL7,r7.zLl.zMg,r7.zLl.zMs⟩ : zLP),r7.zLN⟩ : zLx)).bind fun r111 => if r111.zLl.zL6 then if (!r111.zLl.zMe) then (zY r111.zLl.zLW r111.zLl.zLL).bind fun r112 => if (r112 == []) then (zY r111.zLl.zLW r111.zLl.zLL).bind fun r113 => if (!(r113 == [])) then (zj r87 r109.1).bind fun r114 => (zj r88 1).bind fun r115 => zd n (⟨r111.Gateway,r111.zLn,(⟨r111.zLl.zLW,r111.zLl.zLL,r111.zLl.zL6,true,r111.zLl.zL7,r111.zLl.zMg,r111.zLl.zMs⟩ : zLP),r111.zLN⟩ : zLx) r114 0 else (zn r111.Gateway).bind fun r116 => (zm (⟨r116.2,r111.zLn,(⟨r111.zLl.zLW,r111.zLl.zLL,r111.zLl.zL6,true,r111.zLl.zL7,r111.zLl.zMg,r111.zLl.zMs⟩ : zLP),r111.zLN⟩ : zLx)).bind fun r117 => (zj r87 r109.1).bind fun r118 => (zj r88 1).bind fun r119 => zd n r117 r118 0 else (zj r87 r109.1).bind fun r120 => (zj r88 1).bind fun r121 => if (decide ((0 : Int) < r109.1)) then zd n r111 r120 0 else zd n r111 r120 r121 else (zj r87 r109.1).bind fun r122 => (zj r88 1).bind fun r123 => if (decide ((0 : Int) < r109.1)) then zd n r111 r122 0 else zd n r111 r122 r123 else (zj r87 r109.1).bind fun r124 => (zj r88 1).bind fun r125 => if (decide ((0 : Int) < r109.1)) then zd n r111 r124 0 else zd n r111 r124 r125 else (zj i3 r5.1).bind fun r126 => (zj i4 1).bind fun r127 => if (decide ((0 : Int) < r5.1)) then (zp r7.Gateway).bind fun r129 => if r129 then some (r126,some r7) else (zY r7.zLl.zLW r7.zLl.zLL).bind fun r130 => (sTo r130 (min (r7.zLl.zLW.length : Int) (r130.length : Int))).bind fun r131 => (zr r7.Gateway r131).bind fun r132 => (zj r7.zLl.zLL r132.1).bind fun r133 => (zm (⟨r132.2.2,r7.zLn,(⟨r7.zLl.zLW,r133,r7.zLl.zL6,r7.zLl.zMe,r7.zLl.zL7,r7.zLl.zMg,r7.zLl.zMs⟩ : zLP),r7.zLN⟩ : zLx)).bind fun r134 => if r134.zLl.zL6 then if (!r134.zLl.zMe) then (zY r134.zLl.zLW r134.zLl.zLL).bind fun r135 => if (r135 == []) then (zY r134.zLl.zLW r134.zLl.zLL).bind fun r136 => if (!(r136 == [])) then (zj r126 r132.1).bind fun r137 => zd n (⟨r134.Gateway,r134.zLn,(⟨r134.zLl.zLW,r134.zLl.zLL,r134.zLl.zL6,true,r134.zLl.zL7,r134.zLl.zMg,r134.zLl.zMs⟩ : zLP),r134.zLN⟩ : zLx) r137 0 else (zn r134.Gateway).bind fun r138 => (zm (⟨r138.2,r134.zLn,(⟨r134.zLl.zLW,r134.zLl.zLL,r134.zLl.zL6,true,r134.zLl.zL7,r134.zLl.zMg,r134.zLl.zMs⟩ : zLP),r134.zLN⟩ : zLx)).bind fun r139 => (zj r126 r132.1).bind fun r140 => zd n r139 r140 0 else (zj r126 r132.1).bind fun r141 => if (decide ((0 : Int) < r132.1)) then zd n r134 r141 0 else zd n r134 r141 1 else (zj r126 r132.1).bind fun r142 => if (decide ((0 : Int) < r132.1)) then zd n r134 r142 0 else zd n r134 r142 1 else (zj r126 r132.1).bind fun r143 => if (decide ((0 : Int) < r132.1)) then zd n r134 r143 0 else zd n r134 r143 1 else (zp r7.Gateway).bind fun r145 => if r145 then some (r126,some r7) else (zY r7.zLl.zLW r7.zLl.zLL).bind fun r146 => (sTo r146 (min (r7.zLl.zLW.length : Int) (r146.length : Int))).bind fun r147 => (zr r7.Gateway r147).bind fun r148 => (zj r7.zLl.zLL r148.1).bind fun r149 => (zm (⟨r148.2.2,r7.zLn,(⟨r7.zLl.zLW,r149,r7.zLl.zL6,r7.zLl.zMe,r7.zLl.zL7,r7.zLl.zMg,r7.zLl.zMs⟩ : zLP),r7.zLN⟩ : zLx)).bind fun r150 => if r150.zLl.zL6 then if (!r150.zLl.zMe) then (zY r150.zLl.zLW r150.zLl.zLL).bind fun r151 => if (r151 == []) then (zY r150.zLl.zLW r150.zLl.zLL).bind fun r152 => if (!(r152 == [])) then (zj r126 r148.1).bind fun r153 => (zj r127 1).bind fun r154 => zd n (⟨r150.Gateway,r150.zLn,(⟨r150.zLl.zLW,r150.zLl.zLL,r150.zLl.zL6,true,r150.zLl.zL7,r150.zLl.zMg,r150.zLl.zMs⟩ : zLP),r150.zLN⟩ : zLx) r153 0 else (zn r150.Gateway).bind fun r155 => (zm (⟨r155.2,r150.zLn,(⟨r150.zLl.zLW,r150.zLl.zLL,r150.zLl.zL6,true,r150.zLl.zL7,r150.zLl.zMg,r150.zLl.zMs⟩ : zLP),r150.zLN⟩ : zLx)).bind fun r156 => (zj r126 r148.1).bind fun r157 => (zj r127 1).bind fun r158 => zd n r156 r157 0 else (zj r126 r148.1).bind fun r159 => (zj r127 1).bind fun r160 => if (decide ((0 : Int) < r148.1)) then zd n r150 r159 0 else zd n r150 r159 r160 else (zj r126 r148.1).bind fun r161 => (zj r127 1).bind fun r162 => if (decide ((0 : Int) < r148.1)) then zd n r150 r161 0 else zd n r150 r161 r162 else (zj r126 r148.1).bind fun r163 => (zj r127 1).bind fun r164 => if (decide ((0 : Int) < r148.1)) then zd n r150 r163 0 else zd n r150 r163 r164 else some (i3,some vp0)
def zf4 (x_w : Option zLx) : Option (Int × Option zLx) := optK x_w (some (0,none)) fun r1 => zd fuel r1 0 0
def zbz (x_w : Option zLx) : Option (zMu × Option zLx) := optK x_w (some ((⟨[],[],0,0,(⟨0,0⟩ : zME),false⟩ : zMu),none)) fun r1 => (zp r1.Gateway).bind fun r2 => some ((⟨r1.zLn.zL7,r1.zLl.zL7,r1.zLn.zLL,r1.zLl.zLL,r1.zLN,r2⟩ : zMu),some r1)
def zeN (o10 : Option zLx) (i11 : Int) (o12 : Option zLx) (i13 : Int) : Option Bool := if (!(i11 == 0)) then some (i11 == i13) else if (!(i13 == 0)) then some (i11 == i13) else (zf4 o10).bind fun r1 => (zbz r1.2).bind fun r2 => (zbz o12).bind fun r3 => if (!(r3.1 == (⟨[],[],0,0,(⟨0,0⟩ : zME),false⟩ : zMu))) then some false else (zf4 r3.2).bind fun r4 => (zbz r4.2).bind fun r5 => if (r5.1 == r2.1) then (zbz r2.2).bind fun r6 => some (r6.1 == r2.1) else some false
def zeO (v2 : zMn) (o10 : Option zLx) (i11 : Int) : Option Bool := (znV v2).bind fun r1 => optK r1.1 (zeN o10 i11 none r1.2) fun r2 => zeN o10 i11 (some r2) r1.2
def zjF (x_a0 : zMn) (x_a1 : zMH) : Option Bool := zzO.bind fun r1 => if (!r1) then some false else (znT x_a0).bind fun r2 => (zoC x_a1).bind fun r3 => zmi.bind fun r4 => (zj r3.1 r4.1).bind fun r5 => (zj r5 r4.2).bind fun r6 => zkg.bind fun r7 => (zj r6 r7).bind fun r8 => if (!(r8 == 0)) then some false else if (!(r3.2 == 5)) then some false else zkh.bind fun r9 => if (!(r9 == (⟨[],[],0,0,(⟨0,0⟩ : zME),false⟩ : zMu))) then some false else (znV r2).bind fun r10 => optK r10.1 (zeO (⟨r2.Env,r2.Caps,r2.Rules,r2.Client,r2.Upstream,r2.ClientEnds,r2.UpstreamEnds,r2.Events⟩ : zMn) none r10.2) fun r11 => zeO (⟨r2.Env,r2.Caps,r2.Rules,r2.Client,r2.Upstream,r2.ClientEnds,r2.UpstreamEnds,r2.Events⟩ : zMn) (some r11) r10.2
end
end Go.Dm
