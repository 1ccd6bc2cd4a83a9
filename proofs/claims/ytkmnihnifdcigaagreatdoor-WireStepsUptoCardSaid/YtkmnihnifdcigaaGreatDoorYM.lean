/-
 The models of the functions: written by a program (wip/gen) off the translation. No program in sight.
-/
import Derived.Test.YtkmnihnifdcigaaGreatDoorTSplit
import Derived.Test.YtkmnihnifdcigaaGreatDoorYRun
set_option linter.unusedVariables false
set_option linter.unusedSimpArgs false
set_option linter.unusedVariables false
set_option maxRecDepth 100000
namespace Go.Dm
noncomputable section
open Go.Rk
def ld4 {α β:Type} (i:Int) (v:α × α × α × α) (k:α→Option β):Option β:=if isN i 0 then k v.1 else if isN i 1 then k v.2.1 else if isN i 2 then k v.2.2.1 else if isN i 3 then k v.2.2.2 else none
def st4 {α β:Type} (i:Int) (v:α × α × α × α) (r:α) (k:α × α × α × α→Option β):Option β:=if isN i 0 then k (r,v.2.1,v.2.2.1,v.2.2.2) else if isN i 1 then k (v.1,r,v.2.2.1,v.2.2.2) else if isN i 2 then k (v.1,v.2.1,r,v.2.2.2) else if isN i 3 then k (v.1,v.2.1,v.2.2.1,r) else none
structure zW2 where
 Client:Str
 Host:Str
 Scheme:Str
 By:Str
 Domains:List zW3
 Locations:List zW3
deriving DecidableEq
structure zXH where
 Head:Int
 Chunk:Int
 Queue:Int
deriving DecidableEq
structure zXx where
 Kind:Int
 Name:Str
 Value:Str
deriving DecidableEq
structure zWU where
 Side:Int
 Guard:zXx
 Kind:Int
 Name:Str
 To:Str
 Parts:List zWR
deriving DecidableEq
structure zXA where
 Kind:Int
 N:Int
deriving DecidableEq
structure zXo where
 Env:zW2
 Caps:zXH
 Rules:List zWU
 Client:Str
 Upstream:Str
 ClientEnds:Bool
 UpstreamEnds:Bool
 Events:List zXA
deriving DecidableEq
structure zW9 where
 Proto:Str
 Version:Str
 By:Str
 Comment:Str
deriving DecidableEq
structure zWW where
 zXI:Str
 zXj:Int
deriving DecidableEq
structure zXG where
 Scanner:zWW
deriving DecidableEq
structure zXk where
 Kind:Int
 Name:Str
 Port:Int
deriving DecidableEq
structure zXc where
 Scheme:Str
 Auth:Str
 Path:Str
 Query:Str
 Frag:Str
 HasAuth:Bool
 HasQuery:Bool
 HasFrag:Bool
deriving DecidableEq
structure zW0 where
 Method:Str
 Minor:Int
 Close:Bool
deriving DecidableEq
structure zXB where
 zXJ:List zW0
 zXa:Int
deriving DecidableEq
structure zXg where
 zX0:zXB
 zX7:Bool
deriving DecidableEq
structure zWT where
 Kind:Int
 Method:Str
 Target:Str
 Code:Int
 Reason:Str
 Minor:Int
 Fields:List zWQ
deriving DecidableEq
structure zW4 where
 zYg:Int
 zX1:Int
 zXs:List UInt8
 zXO:Int
 zYh:Bool
 zYf:Int
 f_whole:Bool
 zXX:zWT
deriving DecidableEq
structure zWS where
 zX1:Int
 zXj:Int
 zX2:List UInt8
 zXF:Int
 zYk:Int
 zX8:Int
 zXU:List zWQ
deriving DecidableEq
structure zWY where
 Kind:Int
 N:Int
deriving DecidableEq
structure zXn where
 Decoder:Option zWS
 zXY:zWY
 zXF:Int
 zXR:Bool
 zYf:Bool
deriving DecidableEq
structure zW1 where
 zX4:Int
 zXs:Str
 zXR:Bool
deriving DecidableEq
structure zW5 where
 Encoder:Option zW1
 zXY:zWY
 zXF:Int
 zXR:Bool
deriving DecidableEq
structure zWX where
 Accum:Option zW4
 zXW:Option zXn
 zW8:Option zW5
deriving DecidableEq
structure zWN where
 Queue:Option zXg
 zYb:zW2
 zXV:zXH
 zXZ:List zWU
 zWP:zWX
 zWO:zWX
 zXQ:List UInt8
 zYd:List UInt8
 zYe:Int
 zXr:Bool
 zYa:Bool
 zXT:Bool
 zX6:Bool
 zX7:Bool
 zX9:Bool
 zWZ:Bool
deriving DecidableEq
structure zXl where
 Scanner:zWW
 zW8:List zWR
deriving DecidableEq
structure zXu where
 zXq:Str
 zXh:Int
 zXC:Bool
 zXw:Bool
 zXe:List UInt8
 zXS:Unit
 zX3:Unit
structure zXP where
 Client:Int
 Upstream:Int
deriving DecidableEq
structure zWV where
 Gateway:zWN
 zWP:zXu
 zWO:zXu
 zXa:zXP
structure ref44_Setup where
 Env:zW2
 Caps:zXH
 Rules:List zWU
deriving DecidableEq
structure zXN where
 Client:Str
 Upstream:Str
 ReadClient:Int
 ReadUpstream:Int
 Most:zXP
 Closed:Bool
deriving DecidableEq
structure zXi where
 zXJ:List zWQ
deriving DecidableEq
structure zXK where
 Bag:zXi
 zYm:Int
deriving DecidableEq
structure zW6 where
 Scanner:zWW
 zW8:List Str
 zXO:Int
 zXI:Str
deriving DecidableEq
structure zXE where
 Scanner:zWW
 zW8:List UInt8
deriving DecidableEq
structure zXm where
 Kind:Int
 Scheme:Str
 Host:zXk
 Path:Str
 Query:Str
 HasQuery:Bool
deriving DecidableEq
structure zXy where
 Bag:zXi
 zYi:zWT
deriving DecidableEq
structure zXp where
 Name:Str
 Value:Str
 Has:Bool
deriving DecidableEq
structure zW7 where
 Name:Str
 Value:Str
 Attrs:List zXp
deriving DecidableEq
structure zXf where
 Name:Str
 Value:Str
deriving DecidableEq
structure zXD where
 Kind:Int
 Name:Str
 Text:Str
 Parts:List zWR
 N:Int
deriving DecidableEq
structure zXd where
 zW8:List zXD
deriving DecidableEq
structure zXb where
 Bag:zXi
 zYc:List zXf
 zX5:Int
deriving DecidableEq
structure zXv where
 Scanner:zWW
deriving DecidableEq
structure zXt where
 zYj:List UInt8
 zXa:Int
deriving DecidableEq
structure zXL where
 Quill:zXt
 zYl:Bool
deriving DecidableEq
structure zXM where
 Head:zWT
 Frame:zWY
 Body:Str
 Trailers:List zWQ
deriving DecidableEq
structure zXz where
 Scanner:zWW
deriving DecidableEq
def zDo:Option Bool:=some true
def znh (x_x:zW3):Option zW3:=(sTo x_x.From (min (x_x.From.length:Int) 60)).bind fun r1=>(sTo x_x.To (min (x_x.To.length:Int) 60)).bind fun r2=>some (⟨r1,r2⟩:zW3)
def zvo (k0:(Str × Str × Str × Str)→Int→Option zW2) (v3:Str × Str × Str × Str) (i4:Int):Option zW2:=(zd i4 1).bind fun r1=>k0 v3 r1
def zmH (k2:zW2→Int→Option zW2) (v1:zW2) (v5:zW2) (i7:Int) (t71:Bool):Option zW2:=if t71 then (lAt v1.Locations i7).bind fun r1=>(znh r1).bind fun r2=>if ze v5.Locations.length ([r2]:List zW3).length 32 then (zd i7 1).bind fun r3=>k2 ({v5 with Locations:=v5.Locations++[r2]}:zW2) r3 else none else some v5
def zgc (v1:zW2):Nat→zW2→Int→Option zW2
 | 0,_,_=>none
 | n+1,v5,i7=>if (decide (i7<(v1.Locations.length:Int))) then zmH (zgc v1 n) v1 v5 i7 (decide (i7<6)) else zmH (zgc v1 n) v1 v5 i7 false
def zmI (k1:zW2→Int→Option zW2) (v1:zW2) (v5:zW2) (i6:Int) (t49:Bool):Option zW2:=if t49 then (lAt v1.Domains i6).bind fun r1=>(znh r1).bind fun r2=>if ze v5.Domains.length ([r2]:List zW3).length 32 then (zd i6 1).bind fun r3=>k1 ({v5 with Domains:=v5.Domains++[r2]}:zW2) r3 else none else zgc v1 fuel v5 0
def zdE (v1:zW2):Nat→zW2→Int→Option zW2
 | 0,_,_=>none
 | n+1,v5,i6=>if (decide (i6<(v1.Domains.length:Int))) then zmI (zdE v1 n) v1 v5 i6 (decide (i6<6)) else zmI (zdE v1 n) v1 v5 i6 false
def zvp (v1:zW2) (v5:zW2):Option zW2:=zdE v1 fuel v5 0
def z7 (v1:zW2):Nat→(Str × Str × Str × Str)→Int→Option zW2
 | 0,_,_=>none
 | n+1,v3,i4=>if (decide (i4<4)) then ld4 i4 v3 fun w2=>ld4 i4 v3 fun w1=>(sTo w2 (min (w1.length:Int) 60)).bind fun q0_0=>st4 i4 v3 q0_0 fun w0=>zvo (z7 v1 n) w0 i4 else ld4 0 v3 fun w3=>ld4 1 v3 fun w2=>ld4 2 v3 fun w1=>ld4 3 v3 fun w0=>zvp v1 (⟨w3,w2,w1,w0,[],[]⟩:zW2)
def ztc (x_a0:zW2):Option zW2:=z7 x_a0 fuel (x_a0.Client,x_a0.Host,x_a0.Scheme,x_a0.By) 0
def zmJ (k0:List zW3→Int→Option (List zW3)) (l0:List zW3) (l3:List zW3) (i4:Int) (t12:Bool):Option (List zW3):=if t12 then (lAt l0 i4).bind fun r1=>(lAt l0 i4).bind fun r2=>(sTo r1.From (min (r2.From.length:Int) 60)).bind fun r3=>(lAt l0 i4).bind fun r4=>(lAt l0 i4).bind fun r5=>(sTo r4.To (min (r5.To.length:Int) 60)).bind fun r6=>if ze l3.length ([(⟨r3,r6⟩:zW3)]:List zW3).length 32 then (zd i4 1).bind fun r7=>k0 (l3++[(⟨r3,r6⟩:zW3)]) r7 else none else some l3
def zgd (l0:List zW3):Nat→List zW3→Int→Option (List zW3)
 | 0,_,_=>none
 | n+1,l3,i4=>if (decide (i4<(l0.length:Int))) then zmJ (zgd l0 n) l0 l3 i4 (decide (i4<70)) else zmJ (zgd l0 n) l0 l3 i4 false
def zpf (x_l:List zW3):Option (List zW3):=zgd x_l fuel [] 0
def ztd (x_env:zW2):Option zW2:=(ztc x_env).bind fun r1=>(zpf x_env.Domains).bind fun r2=>(zpf x_env.Locations).bind fun r3=>some ({r1 with Domains:=r2,Locations:=r3}:zW2)
def zmK (k0:List zWR→Int→Option (List zWR)) (l0:List zWR) (l3:List zWR) (i4:Int) (t12:Bool):Option (List zWR):=if t12 then (lAt l0 i4).bind fun r1=>(lAt l0 i4).bind fun r2=>(lAt l0 i4).bind fun r3=>(sTo r2.Text (min (r3.Text.length:Int) 60)).bind fun r4=>if ze l3.length ([(⟨r1.Kind,r4⟩:zWR)]:List zWR).length 24 then (zd i4 1).bind fun r5=>k0 (l3++[(⟨r1.Kind,r4⟩:zWR)]) r5 else none else some l3
def zge (l0:List zWR):Nat→List zWR→Int→Option (List zWR)
 | 0,_,_=>none
 | n+1,l3,i4=>if (decide (i4<(l0.length:Int))) then zmK (zge l0 n) l0 l3 i4 (decide (i4<40)) else zmK (zge l0 n) l0 l3 i4 false
def zpg (x_l:List zWR):Option (List zWR):=zge x_l fuel [] 0
def zvq (k0:(Str × Str × Str × Str)→Int→Option zWU) (v3:Str × Str × Str × Str) (i4:Int):Option zWU:=(zd i4 1).bind fun r1=>k0 v3 r1
def zmL (v1:zWU):Option zWU:=(zpg v1.Parts).bind fun r1=>some ({v1 with Parts:=r1}:zWU)
def zvr (v1:zWU) (v3:Str × Str × Str × Str):Option zWU:=ld4 3 v3 fun w0=>zmL ({v1 with Guard:=(⟨v1.Guard.Kind,v1.Guard.Name,w0⟩:zXx)}:zWU)
def zvs (v1:zWU) (v3:Str × Str × Str × Str):Option zWU:=ld4 2 v3 fun w0=>zvr ({v1 with Guard:=(⟨v1.Guard.Kind,w0,v1.Guard.Value⟩:zXx)}:zWU) v3
def zvt (v1:zWU) (v3:Str × Str × Str × Str):Option zWU:=ld4 1 v3 fun w0=>zvs ({v1 with To:=w0}:zWU) v3
def zad (v1:zWU):Nat→(Str × Str × Str × Str)→Int→Option zWU
 | 0,_,_=>none
 | n+1,v3,i4=>if (decide (i4<4)) then ld4 i4 v3 fun w2=>ld4 i4 v3 fun w1=>(sTo w2 (min (w1.length:Int) 60)).bind fun q0_0=>st4 i4 v3 q0_0 fun w0=>zvq (zad v1 n) w0 i4 else ld4 0 v3 fun w0=>zvt ({v1 with Name:=w0}:zWU) v3
def zte (x_r:zWU):Option zWU:=zad x_r fuel (x_r.Name,x_r.To,x_r.Guard.Name,x_r.Guard.Value) 0
def zmM (k0:List zWU→Int→Option (List zWU)) (l0:List zWU) (l3:List zWU) (i4:Int) (t12:Bool):Option (List zWU):=if t12 then (lAt l0 i4).bind fun r1=>(zte r1).bind fun r2=>if ze l3.length ([r2]:List zWU).length 112 then (zd i4 1).bind fun r3=>k0 (l3++[r2]) r3 else none else some l3
def zgf (l0:List zWU):Nat→List zWU→Int→Option (List zWU)
 | 0,_,_=>none
 | n+1,l3,i4=>if (decide (i4<(l0.length:Int))) then zmM (zgf l0 n) l0 l3 i4 (decide (i4<70)) else zmM (zgf l0 n) l0 l3 i4 false
def ztf (x_l:List zWU):Option (List zWU):=zgf x_l fuel [] 0
def zjV:Nat→List zWU→Int→Option (List zWU)
 | 0,_,_=>none
 | n+1,l3,i4=>if (decide (i4<(l3.length:Int))) then (lAt l3 i4).bind fun r1=>(lAt l3 i4).bind fun r2=>(lTo r1.Parts (min (r2.Parts.length:Int) 4)).bind fun r3=>(lAt l3 i4).bind fun r4=>(zw3 l3 i4 ({r4 with Parts:=r3}:zWU)).bind fun r5=>(zd i4 1).bind fun r6=>zjV n r5 r6 else some l3
def ztg (x_l:List zWU):Option (List zWU):=(ztf x_l).bind fun r1=>zjV fuel r1 0
def znd (x_s:zXo):Option zXo:=(ztd x_s.Env).bind fun r1=>(ztg x_s.Rules).bind fun r2=>(sTo x_s.Client (min (x_s.Client.length:Int) 3000)).bind fun r3=>(sTo x_s.Upstream (min (x_s.Upstream.length:Int) 3000)).bind fun r4=>(lTo x_s.Events (min (x_s.Events.length:Int) 150)).bind fun r5=>some (⟨r1,x_s.Caps,r2,r3,r4,x_s.ClientEnds,x_s.UpstreamEnds,r5⟩:zXo)
def zbt (x_sep:Str) (x_l:List Str):Option Str:=(strings_Join x_l x_sep).bind fun r1=>some r1
def zgG (x_s:Str):Option zWW:=some (⟨x_s,0⟩:zWW)
def zbS (x_b:UInt8):Option UInt8:=if (decide (65≤x_b)) then if (decide (x_b≤90)) then some (x_b+32) else some x_b else some x_b
def zdW (x_b:UInt8):Option Bool:=(zbS x_b).bind fun r1=>if (decide (97≤r1)) then (zbS x_b).bind fun r2=>some (decide (r2≤122)) else some false
def zbm (x_b:UInt8):Option Bool:=if (decide (48≤x_b)) then some (decide (x_b≤57)) else some false
def zkX (x_b:UInt8) (x_l:Str):Option Bool:=(strings_IndexByte x_l x_b).bind fun r1=>some (decide ((0:Int)≤r1))
def zg2 (x_b:UInt8):Option Bool:=(zdW x_b).bind fun r1=>if r1 then some true else (zbm x_b).bind fun r2=>if r2 then some true else (zkX x_b [33,35,36,37,38,39,42,43,45,46,94,95,96,124,126]).bind fun r3=>some r3
def zcq (x_c:zWW):Option Int:=some x_c.zXj
def zas (x_c:zWW):Option Str:=(zZ x_c.zXI x_c.zXj).bind fun r1=>some r1
def zao (x_c:zWW):Option Bool:=(zas x_c).bind fun r1=>some (r1==[])
def zat (x_c:zWW):Option (UInt8 × Bool):=(zao x_c).bind fun r1=>if r1 then some (0,false) else (sAt x_c.zXI x_c.zXj).bind fun r2=>some (r2,true)
def zbT (f1:(UInt8→Option Bool)) (i5:Int):Nat→zWW→Option (Str × zWW)
 | 0,_=>none
 | n+1,vp0=>(zat vp0).bind fun r1=>if (!r1.2) then (zk5 vp0.zXI i5 vp0.zXj).bind fun r2=>some (r2,vp0) else (f1 r1.1).bind fun r3=>if (!r3) then (zk5 vp0.zXI i5 vp0.zXj).bind fun r4=>some (r4,vp0) else (zd vp0.zXj 1).bind fun r5=>zbT f1 i5 n (⟨vp0.zXI,r5⟩:zWW)
def zK (x_c:zWW) (x_is:(UInt8→Option Bool)):Option (Str × zWW):=(zcq x_c).bind fun r1=>zbT x_is r1 fuel x_c
def zP (x_c:zWW):Option (Str × Bool × zWW):=(zK x_c zg2).bind fun r1=>some (r1.1, !(r1.1==[]),r1.2)
def zf (x_c:zWW) (x_b:UInt8):Option (Bool × zWW):=(zat x_c).bind fun r1=>if (!r1.2) then some (false,x_c) else if (!(r1.1==x_b)) then some (false,x_c) else (zd x_c.zXj 1).bind fun r2=>some (true,(⟨x_c.zXI,r2⟩:zWW))
def zcW (vp1:zW9) (vp32:zWW) (t6:Bool):Option (Bool × zW9 × zWW):=some (t6,vp1,vp32)
def zcX (vp1:zW9) (v2:zXG) (s5:Str) (t6:Bool) (t22:Bool):Option (Bool × zW9 × zWW):=if t22 then (zP v2.Scanner).bind fun r1=>zcW (⟨s5,r1.1,vp1.By,vp1.Comment⟩:zW9) r1.2.2 r1.2.1 else zcW vp1 v2.Scanner t6
def zeu (x_r:zXG) (x_v:zW9):Option (Bool × zW9 × zWW):=(zP x_r.Scanner).bind fun r1=>if r1.2.1 then (zf r1.2.2 47).bind fun r2=>zcX ({x_v with Version:=r1.1}:zW9) (⟨r2.2⟩:zXG) r1.1 r1.2.1 r2.1 else zcX ({x_v with Version:=r1.1}:zW9) (⟨r1.2.2⟩:zXG) r1.1 r1.2.1 false
def zgH (x_b:UInt8):Option Bool:=some (!(x_b==32))
def zjW (k0:Int→Option Bool) (f0:(UInt8→Option Bool)) (s6:Str) (i10:Int) (i15:Int):Nat→Int→Option Bool
 | 0,_=>none
 | n+1,i16=>if (decide (i16<i15)) then (sAt s6 i16).bind fun r1=>(f0 r1).bind fun r2=>if (!r2) then some false else (zd i16 1).bind fun r3=>zjW k0 f0 s6 i10 i15 n r3 else (zd i10 1).bind fun r4=>k0 r4
def zh6 (f0:(UInt8→Option Bool)) (l8:List Str) (i9:Int):Nat→Int→Option Bool
 | 0,_=>none
 | n+1,i10=>if (decide (i10<i9)) then (lAt l8 i10).bind fun r1=>zjW (zh6 f0 l8 i9 n) f0 r1 i10 (r1.length:Int) fuel 0 else some true
def zbU (x_is:(UInt8→Option Bool)) (x_l:List Str):Option Bool:=zh6 x_is x_l (x_l.length:Int) fuel 0
def zlh (x_b:UInt8):Option Int:=(zbm x_b).bind fun r1=>if r1 then some ((x_b-48).toNat:Int) else (zbS x_b).bind fun r2=>(zd ((r2-97).toNat:Int) 10).bind fun r3=>some r3
def zgI (s0:Str) (i1:Int) (i2:Int) (i23:Int):Nat→Int→Int→Option (Int × Int)
 | 0,_,_=>none
 | n+1,i10,i24=>if (decide (i24<i23)) then (sAt s0 i24).bind fun r1=>(zlh r1).bind fun r2=>if (decide (i2<r2)) then some (0,7) else (za3 i2 r2).bind fun r3=>(zDI r3 i1).bind fun r4=>if (decide (r4<i10)) then some (0,7) else (zIj i10 i1).bind fun r5=>(zd r5 r2).bind fun r6=>(zd i24 1).bind fun r7=>zgI s0 i1 i2 i23 n r6 r7 else some (i10,0)
def zjX (x_s:Str) (x_base:Int) (x_most:Int) (x_is:(UInt8→Option Bool)):Option (Int × Int):=if (x_s==[]) then some (0,2) else (zbU x_is [x_s]).bind fun r1=>if (!r1) then some (0,2) else zgI x_s x_base x_most (x_s.length:Int) fuel 0 0
def zdr (x_s:Str) (x_most:Int):Option (Int × Int):=(zjX x_s 10 x_most zbm).bind fun r1=>some (r1.1,r1.2)
def zjY (x_n:Int) (x_base:Int):Option Str:=if (decide (x_n<0)) then some [] else (zcg x_n x_base).bind fun r1=>some r1
def zcY (x_n:Int):Option Str:=(zjY x_n 10).bind fun r1=>some r1
def zbz (x_s:Str) (x_most:Int):Option Bool:=(zdr x_s x_most).bind fun r1=>if (r1.2==0) then (zcY r1.1).bind fun r2=>some (r2==x_s) else some false
def zbn (s:Str):Option Bool:=if s.length<1000000000 then ((zi 46 s).mapM (fun x=>zbz x 255)).bind fun bs=>some (bs.all id&&decide ((bs.length:Int)=4)) else none
def zdX (x_b:UInt8):Option Bool:=(zbm x_b).bind fun r1=>if r1 then some true else (zbS x_b).bind fun r2=>if (decide (97≤r2)) then (zbS x_b).bind fun r3=>some (decide (r3≤102)) else some false
def zec (k0:Int→Int→Option Int) (i6:Int) (i15:Int) (t35:Bool):Option Int:=if t35 then (zd i6 1).bind fun r1=>(zd i15 1).bind fun r2=>k0 r1 r2 else some (-1)
def zed (k0:Int→Int→Option Int) (i6:Int) (s8:Str) (i15:Int) (t20:Bool):Option Int:=if t20 then (zd i6 2).bind fun r1=>(zd i15 1).bind fun r2=>k0 r1 r2 else if (decide ((1:Int)≤(s8.length:Int))) then if (decide ((s8.length:Int)≤4)) then (zbU zdX [s8]).bind fun r3=>zec k0 i6 i15 r3 else zec k0 i6 i15 false else zec k0 i6 i15 false
def zaD (t1:Bool) (l5:List Str) (i14:Int):Nat→Int→Int→Option Int
 | 0,_,_=>none
 | n+1,i6,i15=>if (decide (i15<i14)) then (lAt l5 i15).bind fun r1=>if t1 then (za3 (l5.length:Int) 1).bind fun r2=>if (i15==r2) then (zbn r1).bind fun r3=>zed (zaD t1 l5 i14 n) i6 r1 i15 r3 else zed (zaD t1 l5 i14 n) i6 r1 i15 false else zed (zaD t1 l5 i14 n) i6 r1 i15 false else some i6
def zeI (x_s:Str) (x_last:Bool):Option Int:=if (x_s==[]) then some 0 else (strings_Split x_s [58]).bind fun r1=>zaD x_last r1 (r1.length:Int) fuel 0 0
def zh7 (x_s:Str):Option Bool:=(strings_Cut x_s [58,58]).bind fun r1=>if (!r1.2.2) then (zeI x_s true).bind fun r2=>some (r2==8) else (zeI r1.1 false).bind fun r3=>(zeI r1.2.1 true).bind fun r4=>if (decide ((0:Int)≤r3)) then if (decide ((0:Int)≤r4)) then (zd r3 r4).bind fun r5=>some (decide (r5≤7)) else some false else some false
def zh8 (x_s:Str):Option Bool:=if (decide ((3:Int)≤(x_s.length:Int))) then (sAt x_s 0).bind fun r1=>if (r1==37) then (zk5 x_s 1 3).bind fun r2=>(zbU zdX [r2]).bind fun r3=>some r3 else some false else some false
def zcJ (x_b:UInt8):Option Bool:=(zdW x_b).bind fun r1=>if r1 then some true else (zbm x_b).bind fun r2=>if r2 then some true else (zkX x_b [45,46,95,126]).bind fun r3=>some r3
def zjE (x_b:UInt8):Option Bool:=(zkX x_b [33,36,38,39,40,41,42,43,44,59,61]).bind fun r1=>some r1
def zcK:Nat→Str→Option Bool
 | 0,_=>none
 | n+1,s0=>if (!(s0==[])) then (zh8 s0).bind fun r1=>if r1 then (zZ s0 3).bind fun r2=>zcK n r2 else (sAt s0 0).bind fun r3=>(zcJ r3).bind fun r4=>if r4 then (zZ s0 1).bind fun r5=>zcK n r5 else (sAt s0 0).bind fun r6=>(zjE r6).bind fun r7=>if r7 then (zZ s0 1).bind fun r8=>zcK n r8 else some false else some true
def ze8 (x_s:Str):Option Bool:=if (x_s==[]) then some false else zcK fuel x_s
def zfD (s0:Str) (v4:zXk) (t7:Bool):Option (zXk × Bool):=if t7 then (za3 (s0.length:Int) 1).bind fun r1=>(zk5 s0 1 r1).bind fun r2=>some ((⟨3,r2,v4.Port⟩:zXk), !((3:Int)==0)) else (zbn s0).bind fun r3=>if r3 then some (({v4 with Kind:=2}:zXk), !((2:Int)==0)) else (ze8 s0).bind fun r4=>if r4 then some (({v4 with Kind:=1}:zXk), !((1:Int)==0)) else some (v4, !(v4.Kind==0))
def zlQ (x_s:Str):Option (zXk × Bool):=if (decide ((2:Int)<(x_s.length:Int))) then (sAt x_s 0).bind fun r1=>if (r1==91) then (za3 (x_s.length:Int) 1).bind fun r2=>(sAt x_s r2).bind fun r3=>if (r3==93) then (za3 (x_s.length:Int) 1).bind fun r4=>(zk5 x_s 1 r4).bind fun r5=>(zh7 r5).bind fun r6=>zfD x_s (⟨0,x_s,(-1)⟩:zXk) r6 else zfD x_s (⟨0,x_s,(-1)⟩:zXk) false else zfD x_s (⟨0,x_s,(-1)⟩:zXk) false else zfD x_s (⟨0,x_s,(-1)⟩:zXk) false
def zap (s0:Str) (b1:UInt8):Nat→Int→Option Int
 | 0,_=>none
 | n+1,i5=>if (decide ((0:Int)≤i5)) then (sAt s0 i5).bind fun r1=>if (r1==b1) then some i5 else (za3 i5 1).bind fun r2=>zap s0 b1 n r2 else some (-1)
def zaX (x_s:Str) (x_c:UInt8):Option Int:=(za3 (x_s.length:Int) 1).bind fun r1=>zap x_s x_c fuel r1
def zcE (x_s:Str) (x_c:UInt8):Option Int:=(zaX x_s x_c).bind fun r1=>some r1
def zb3 (x_s:Str):Option (zXk × Int):=(zlQ x_s).bind fun r1=>if r1.2 then some (r1.1,0) else (zcE x_s 58).bind fun r2=>if (decide (r2<0)) then some ((⟨0,[],0⟩:zXk),27) else (sTo x_s r2).bind fun r3=>(zlQ r3).bind fun r4=>if (!r4.2) then some ((⟨0,[],0⟩:zXk),27) else (zd r2 1).bind fun r5=>(zZ x_s r5).bind fun r6=>(zbz r6 65535).bind fun r7=>if (!r7) then some ((⟨0,[],0⟩:zXk),27) else (zd r2 1).bind fun r8=>(zZ x_s r8).bind fun r9=>(zdr r9 65535).bind fun r10=>some ((⟨r4.1.Kind,r4.1.Name,r10.1⟩:zXk),0)
def zdY (x_s:Str):Option Bool:=if (!(x_s==[])) then (zbU zg2 [x_s]).bind fun r1=>some r1 else some false
def strings_ContainsAny (x_s:Str) (x_chars:Str):Option Bool:=(strings_IndexAny x_s x_chars).bind fun r1=>some (decide ((0:Int)≤r1))
def zee (vp1:zW9) (vp32:zWW) (t4:Bool):Option (Bool × zW9 × zWW):=some (t4,vp1,vp32)
def zi4 (x_r:zXG) (x_v:zW9):Option (Bool × zW9 × zWW):=(zK x_r.Scanner zgH).bind fun r1=>(zb3 r1.1).bind fun r2=>(zdY r1.1).bind fun r3=>if r3 then zee ({x_v with By:=r1.1}:zW9) r1.2 true else if (r2.2==0) then (strings_ContainsAny r1.1 [44,40,41]).bind fun r4=>zee ({x_v with By:=r1.1}:zW9) r1.2 (!r4) else zee ({x_v with By:=r1.1}:zW9) r1.2 false
def stringslite_HasPrefix (x_s:Str) (x_prefix:Str):Option Bool:=if (decide ((x_prefix.length:Int)≤(x_s.length:Int))) then (sTo x_s (x_prefix.length:Int)).bind fun r1=>some (r1==x_prefix) else some false
def stringslite_CutPrefix (x_s:Str) (x_prefix:Str):Option (Str × Bool):=(stringslite_HasPrefix x_s x_prefix).bind fun r1=>if (!r1) then some (x_s,false) else (zZ x_s (x_prefix.length:Int)).bind fun r2=>some (r2,true)
def strings_CutPrefix (x_s:Str) (x_prefix:Str):Option (Str × Bool):=(stringslite_CutPrefix x_s x_prefix).bind fun r1=>some (r1.1,r1.2)
def stringslite_HasSuffix (x_s:Str) (x_suffix:Str):Option Bool:=if (decide ((x_suffix.length:Int)≤(x_s.length:Int))) then (za3 (x_s.length:Int) (x_suffix.length:Int)).bind fun r1=>(zZ x_s r1).bind fun r2=>some (r2==x_suffix) else some false
def stringslite_CutSuffix (x_s:Str) (x_suffix:Str):Option (Str × Bool):=(stringslite_HasSuffix x_s x_suffix).bind fun r1=>if (!r1) then some (x_s,false) else (za3 (x_s.length:Int) (x_suffix.length:Int)).bind fun r2=>(sTo x_s r2).bind fun r3=>some (r3,true)
def strings_CutSuffix (x_s:Str) (x_suffix:Str):Option (Str × Bool):=(stringslite_CutSuffix x_s x_suffix).bind fun r1=>some (r1.1,r1.2)
def zds (x_b:UInt8):Option Bool:=if (decide (32<x_b)) then some (decide (x_b<127)) else some false
def zg3 (x_b:UInt8):Option Bool:=if (x_b==32) then some true else some (x_b==9)
def zaS (x_b:UInt8):Option Bool:=(zds x_b).bind fun r1=>if r1 then some true else (zg3 x_b).bind fun r2=>if r2 then some true else some (decide (127<x_b))
def zeJ (k0:Int→Int→Option Bool) (s0:Str) (i3:Int) (i4:Int):Option Bool:=if (decide (i3<0)) then some false else if (decide ((s0.length:Int)≤i4)) then some false else (zd i4 1).bind fun r1=>k0 i3 r1
def zbF (s0:Str):Nat→Int→Int→Option Bool
 | 0,_,_=>none
 | n+1,i3,i4=>if (decide (i4<(s0.length:Int))) then (sAt s0 i4).bind fun r1=>if (r1==40) then (zd i3 1).bind fun r2=>zeJ (zbF s0 n) s0 r2 i4 else if (r1==41) then (za3 i3 1).bind fun r3=>zeJ (zbF s0 n) s0 r3 i4 else if (r1==92) then (zd i4 1).bind fun r4=>zeJ (zbF s0 n) s0 i3 r4 else zeJ (zbF s0 n) s0 i3 i4 else if (i3==0) then (zbU zaS [s0]).bind fun r5=>some r5 else some false
def zmN (x_s:Str):Option Bool:=zbF x_s fuel 0 0
def za4 (vp1:zW9) (vp32:zWW) (t4:Bool):Option (Bool × zW9 × zWW):=some (t4,vp1,vp32)
def zeP (x_r:zXG) (x_v:zW9):Option (Bool × zW9 × zWW):=(zao x_r.Scanner).bind fun r1=>if r1 then some (true,x_v,x_r.Scanner) else (zas x_r.Scanner).bind fun r2=>(strings_CutPrefix r2 [32,40]).bind fun r3=>(strings_CutSuffix r3.1 [41]).bind fun r4=>if r3.2 then if r4.2 then if (!(r4.1==[])) then (zmN r4.1).bind fun r5=>za4 ({x_v with Comment:=r4.1}:zW9) x_r.Scanner r5 else za4 ({x_v with Comment:=r4.1}:zW9) x_r.Scanner false else za4 ({x_v with Comment:=r4.1}:zW9) x_r.Scanner false else za4 ({x_v with Comment:=r4.1}:zW9) x_r.Scanner false
def zth (x_s:Str):Option (zW9 × Int):=(zgG x_s).bind fun r1=>(zeu (⟨r1⟩:zXG) (⟨[],[],[],[]⟩:zW9)).bind fun r2=>if (!r2.1) then some ((⟨[],[],[],[]⟩:zW9),2) else (zf r2.2.2 32).bind fun r3=>if (!r3.1) then some ((⟨[],[],[],[]⟩:zW9),2) else (zi4 (⟨r3.2⟩:zXG) r2.2.1).bind fun r4=>if (!r4.1) then some ((⟨[],[],[],[]⟩:zW9),2) else (zeP (⟨r4.2.2⟩:zXG) r4.2.1).bind fun r5=>if (!r5.1) then some ((⟨[],[],[],[]⟩:zW9),2) else some (r5.2.1,0)
def zlR (v1:zW9) (l4:List Str):Option (Str × Int):=(zbt [] l4).bind fun r1=>(zth r1).bind fun r2=>if (!(r2.2==0)) then some ([],2) else if (!(r2.1==v1)) then some ([],2) else some (r1,0)
def zlS (v1:zW9) (l4:List Str):Option (Str × Int):=if (!(v1.Comment==[])) then if ze l4.length ([[32,40],v1.Comment,[41]]:List Str).length 16 then zlR v1 (l4++([[32,40],v1.Comment,[41]])) else none else zlR v1 l4
def zni (x_v:zW9):Option (Str × Int):=if (!(x_v.Proto==[])) then if ze ([x_v.Proto,[47]]:List Str).length ([x_v.Version,[32],x_v.By]:List Str).length 16 then zlS x_v (([x_v.Proto,[47]]:List Str)++([x_v.Version,[32],x_v.By])) else none else zlS x_v ([x_v.Version,[32],x_v.By])
def zjZ (x_s:Str):Option Bool:=(ze8 x_s).bind fun r1=>if r1 then (zbn x_s).bind fun r2=>some (!r2) else some false
def zfE (l0:List zW3) (l5:List zW3) (i6:Int):Nat→Int→Option Int
 | 0,_=>none
 | n+1,i7=>if (decide (i7<i6)) then (lAt l5 i7).bind fun r1=>(zjZ r1.From).bind fun r2=>if (!r2) then some 27 else (zjZ r1.To).bind fun r3=>if (!r3) then some 27 else (strings_ContainsAny r1.To [44,59]).bind fun r4=>if r4 then some 27 else (zd i7 1).bind fun r5=>zfE l0 l5 i6 n r5 else if (decide ((64:Int)<(l0.length:Int))) then some 3 else some 0
def zli (x_l:List zW3):Option Int:=zfE x_l x_l (x_l.length:Int) fuel 0
def zgJ (x_b:UInt8):Option Bool:=(zdW x_b).bind fun r1=>if r1 then some true else (zbm x_b).bind fun r2=>if r2 then some true else if (x_b==43) then some true else if (x_b==45) then some true else some (x_b==46)
def zlj (x_s:Str):Option Bool:=if (!(x_s==[])) then (sAt x_s 0).bind fun r1=>(zdW r1).bind fun r2=>if r2 then (zbU zgJ [x_s]).bind fun r3=>some r3 else some false else some false
def strings_HasPrefix (x_s:Str) (x_prefix:Str):Option Bool:=(stringslite_HasPrefix x_s x_prefix).bind fun r1=>some r1
def zhq (x_s:Str) (x_l:Str):Option (Str × Str):=(strings_IndexAny x_s x_l).bind fun r1=>if (decide ((0:Int)≤r1)) then (sTo x_s r1).bind fun r2=>(zZ x_s r1).bind fun r3=>some (r2,r3) else some (x_s,[])
def zi5 (v3:zXc):Option zXc:=some v3
def zgK (s0:Str) (v3:zXc):Option zXc:=if (!(s0==[])) then (zZ s0 1).bind fun r1=>zi5 ({v3 with Frag:=r1,HasFrag:=true}:zXc) else zi5 v3
def zgL (s0:Str) (v3:zXc):Option zXc:=(zhq s0 [63,35]).bind fun r1=>(strings_HasPrefix r1.2 [63]).bind fun r2=>if r2 then (zZ r1.2 1).bind fun r3=>(zhq r3 [35]).bind fun r4=>zgK r4.2 ({v3 with Path:=r1.1,Query:=r4.1,HasQuery:=true}:zXc) else zgK r1.2 ({v3 with Path:=r1.1}:zXc)
def zgM (s0:Str) (v3:zXc):Option zXc:=(strings_HasPrefix s0 [47,47]).bind fun r1=>if r1 then (zZ s0 2).bind fun r2=>(zhq r2 [47,63,35]).bind fun r3=>zgL r3.2 ({v3 with Auth:=r3.1,HasAuth:=true}:zXc) else zgL s0 v3
def zi6 (s0:Str) (v3:zXc) (i4:Int) (t14:Bool):Option zXc:=if t14 then (sTo s0 i4).bind fun r1=>(zd i4 1).bind fun r2=>(zZ s0 r2).bind fun r3=>zgM r3 ({v3 with Scheme:=r1}:zXc) else zgM s0 v3
def zmO (x_s:Str):Option zXc:=(strings_IndexByte x_s 58).bind fun r1=>if (decide ((0:Int)<r1)) then (sTo x_s r1).bind fun r2=>(zlj r2).bind fun r3=>zi6 x_s (⟨[],[],[],[],[],false,false,false⟩:zXc) r1 r3 else zi6 x_s (⟨[],[],[],[],[],false,false,false⟩:zXc) r1 false
def zh9 (x_b:UInt8):Option Bool:=(zcJ x_b).bind fun r1=>if r1 then some true else (zjE x_b).bind fun r2=>if r2 then some true else (zkX x_b [58,64]).bind fun r3=>some r3
def zi7 (k0:Int→Option Bool) (i5:Int) (t35:Bool):Option Bool:=if t35 then some false else (zd i5 1).bind fun r1=>k0 r1
def zcr (s0:Str) (s1:Str):Nat→Int→Option Bool
 | 0,_=>none
 | n+1,i5=>if (decide (i5<(s0.length:Int))) then (sAt s0 i5).bind fun r1=>if (r1==37) then (zd i5 2).bind fun r2=>if (decide ((s0.length:Int)≤r2)) then some false else (zd i5 1).bind fun r3=>(zd i5 3).bind fun r4=>(zk5 s0 r3 r4).bind fun r5=>(zbU zdX [r5]).bind fun r6=>if (!r6) then some false else (zd i5 2).bind fun r7=>(zd r7 1).bind fun r8=>zcr s0 s1 n r8 else (sAt s0 i5).bind fun r9=>(zh9 r9).bind fun r10=>if (!r10) then (sAt s0 i5).bind fun r11=>(strings_IndexByte s1 r11).bind fun r12=>zi7 (zcr s0 s1 n) i5 (decide (r12<0)) else zi7 (zcr s0 s1 n) i5 false else some true
def zgg (x_s:Str) (x_more:Str):Option Bool:=zcr x_s x_more fuel 0
def znY (x_r:zXc):Option Bool:=(zhq x_r.Path [47]).bind fun r1=>(zgg x_r.Auth [91,93]).bind fun r2=>if (!r2) then some false else (strings_Contains x_r.Auth [64]).bind fun r3=>if r3 then some false else (zgg x_r.Path [47]).bind fun r4=>if (!r4) then some false else (zgg x_r.Query [47,63]).bind fun r5=>if (!r5) then some false else (zgg x_r.Frag [47,63]).bind fun r6=>if (!r6) then some false else if x_r.HasAuth then if (x_r.Path==[]) then some true else (sAt x_r.Path 0).bind fun r7=>some (r7==47) else (strings_HasPrefix x_r.Path [47,47]).bind fun r8=>if r8 then some false else if (!(x_r.Scheme==[])) then some true else (strings_Contains r1.1 [58]).bind fun r9=>some (!r9)
def zmP (x_s:Str):Option (zXc × Int):=(zmO x_s).bind fun r1=>(znY r1).bind fun r2=>if (!r2) then some ((⟨[],[],[],[],[],false,false,false⟩:zXc),2) else some (r1,0)
def zhr (x_s:Str):Option Bool:=(zmP x_s).bind fun r1=>some (r1.2==0)
def zeQ (l0:List zW3) (l5:List zW3) (i6:Int):Nat→Int→Option Int
 | 0,_=>none
 | n+1,i7=>if (decide (i7<i6)) then (lAt l5 i7).bind fun r1=>if (r1.From==[]) then some 2 else (zhr r1.From).bind fun r2=>if (!r2) then some 2 else (zhr r1.To).bind fun r3=>if (!r3) then some 2 else (zd i7 1).bind fun r4=>zeQ l0 l5 i6 n r4 else if (decide ((64:Int)<(l0.length:Int))) then some 3 else some 0
def zj0 (x_l:List zW3):Option Int:=zeQ x_l x_l (x_l.length:Int) fuel 0
def zhs (v1:zW2) (t44:Bool):Option Int:=if t44 then some 2 else (zli v1.Domains).bind fun r1=>if (!(r1==0)) then some r1 else (zj0 v1.Locations).bind fun r2=>some r2
def zj1 (v1:zW2) (i6:Int) (t30:Bool):Option Int:=if t30 then some i6 else if (!(v1.Scheme==[])) then if (!(v1.Scheme==[104,116,116,112])) then zhs v1 (!(v1.Scheme==[104,116,116,112,115])) else zhs v1 false else zhs v1 false
def zlT (x_env:zW2):Option Int:=(zni (⟨[],[49,46,49],x_env.By,[]⟩:zW9)).bind fun r1=>if (!(r1.2==0)) then some r1.2 else (zb3 x_env.Host).bind fun r2=>if (!(r2.2==0)) then zj1 x_env r2.2 (!(x_env.Host==[])) else zj1 x_env r2.2 false
def zht (x_size:Int):Option (Option zW1 × Int):=if (decide (x_size<1)) then some (none,1) else if (decide ((65536:Int)<x_size)) then some (none,1) else some (some (⟨x_size,[],false⟩:zW1),0)
def zlU (x_most:Int):Option (Option zXg × Int):=if (decide (x_most<1)) then some (none,1) else if (decide ((64:Int)<x_most)) then some (none,1) else some (some (⟨(⟨[],x_most⟩:zXB),false⟩:zXg),0)
def znj (x_side:Int):Option (Option (List Str)):=if (x_side==1) then some (some ([[99,108,105,101,110,116],[104,111,115,116],[109,101,116,104,111,100],[112,97,116,104],[115,99,104,101,109,101]])) else if (x_side==2) then some (some ([[99,108,105,101,110,116],[104,111,115,116],[115,99,104,101,109,101],[115,116,97,116,117,115]])) else some none
def zeK (x_f:zWQ):Option Int:=(zdY x_f.Name).bind fun r1=>if (!r1) then some 21 else (zbU zaS [x_f.Value]).bind fun r2=>if (!r2) then some 25 else (zbJ x_f.Value [32,9]).bind fun r3=>if (!(r3==x_f.Value)) then some 25 else some 0
def zlk (v1:zXx) (i4:Int) (t15:Bool):Option Bool:=if t15 then (zdY v1.Name).bind fun r1=>if r1 then some (v1.Value==[]) else some false else if (i4==3) then (zeK (⟨v1.Name,v1.Value⟩:zWQ)).bind fun r2=>some (r2==0) else some false
def zqc (x_g:zXx):Option Bool:=if (x_g.Kind==0) then if (x_g.Name==[]) then some (x_g.Value==[]) else some false else if (x_g.Kind==1) then zlk x_g x_g.Kind true else zlk x_g x_g.Kind (x_g.Kind==2)
def zti:Option (List Str):=some ([[99,111,110,110,101,99,116,105,111,110],[99,111,110,116,101,110,116,45,108,101,110,103,116,104],[107,101,101,112,45,97,108,105,118,101],[112,114,111,120,121,45,99,111,110,110,101,99,116,105,111,110],[116,101],[116,114,97,105,108,101,114],[116,114,97,110,115,102,101,114,45,101,110,99,111,100,105,110,103],[117,112,103,114,97,100,101]])
def za6 (s:Str):Option Str:=if s.length<4294967281 then s.mapM zbS else none
def zal (l0:List Str) (s1:Str) (i7:Int):Nat→Int→Option Int
 | 0,_=>none
 | n+1,i8=>if (decide (i8<i7)) then (lAt l0 i8).bind fun r1=>if (s1==r1) then some i8 else (zd i8 1).bind fun r2=>zal l0 s1 i7 n r2 else some (-1)
def zbG (x_s:List Str) (x_v:Str):Option Int:=zal x_s x_v (x_s.length:Int) fuel 0
def zw (x_s:List Str) (x_v:Str):Option Bool:=(zbG x_s x_v).bind fun r1=>some (decide ((0:Int)≤r1))
def ztj (x_name:Str):Option Bool:=zti.bind fun r1=>(za6 x_name).bind fun r2=>(zw r1 r2).bind fun r3=>some r3
def ztk (x_name:Str):Option Bool:=(ztj x_name).bind fun r1=>if r1 then some true else (za6 x_name).bind fun r2=>(zw ([[104,111,115,116],[118,105,97],[102,111,114,119,97,114,100,101,100],[120,45,102,111,114,119,97,114,100,101,100,45,102,111,114]]) r2).bind fun r3=>some r3
def zph (x_name:Str):Option Bool:=(zdY x_name).bind fun r1=>if r1 then (ztk x_name).bind fun r2=>some (!r2) else some false
def zll (k0:List Str→Int→Option (List Str)) (l3:List Str) (v5:zWR) (i8:Int) (t21:Bool):Option (List Str):=if t21 then if ze l3.length ([v5.Text]:List Str).length 16 then (zd i8 1).bind fun r1=>k0 (l3++[v5.Text]) r1 else none else (zd i8 1).bind fun r2=>k0 l3 r2
def ze9 (l6:List zWR) (i7:Int):Nat→List Str→Int→Option (List Str)
 | 0,_,_=>none
 | n+1,l3,i8=>if (decide (i8<i7)) then (lAt l6 i8).bind fun r1=>if (r1.Kind==2) then (zw l3 r1.Text).bind fun r2=>zll (ze9 l6 i7 n) l3 r1 i8 (!r2) else zll (ze9 l6 i7 n) l3 r1 i8 false else some l3
def zqd (x_l:List zWR):Option (List Str):=ze9 x_l (x_l.length:Int) fuel [] 0
def znk (x_b:UInt8):Option Bool:=if (decide (97≤x_b)) then some (decide (x_b≤122)) else some false
def znl (x_b:UInt8):Option Bool:=(zaS x_b).bind fun r1=>if r1 then some (!(x_b==36)) else some false
def zck (x_c:zWW) (x_t:Str):Option (Bool × zWW):=(zas x_c).bind fun r1=>(strings_HasPrefix r1 x_t).bind fun r2=>if (!r2) then some (false,x_c) else (zd x_c.zXj (x_t.length:Int)).bind fun r3=>some (true,(⟨x_c.zXI,r3⟩:zWW))
def zev (vp0:zXl) (s1:Str) (i4:Int) (t23:Bool):Option zXl:=if t23 then (za3 i4 1).bind fun r1=>(lAt vp0.zW8 r1).bind fun r2=>(zb1 r2.Text s1).bind fun r3=>(lAt vp0.zW8 r1).bind fun r4=>(zw3 vp0.zW8 r1 (⟨r4.Kind,r3⟩:zWR)).bind fun r5=>some (⟨vp0.Scanner,r5⟩:zXl) else if ze vp0.zW8.length ([(⟨1,s1⟩:zWR)]:List zWR).length 24 then some (⟨vp0.Scanner,vp0.zW8++[(⟨1,s1⟩:zWR)]⟩:zXl) else none
def zef (x_r:zXl) (x_s:Str):Option zXl:=if (decide ((0:Int)<(x_r.zW8.length:Int))) then (za3 (x_r.zW8.length:Int) 1).bind fun r1=>(lAt x_r.zW8 r1).bind fun r2=>zev x_r x_s (x_r.zW8.length:Int) (r2.Kind==1) else zev x_r x_s (x_r.zW8.length:Int) false
def zdF (vp0:zXl) (t2:Bool):Option (Bool × zXl):=some (t2,vp0)
def zdG (vp0:zXl) (v3:zWR):Option (Bool × zXl):=if ze vp0.zW8.length ([v3]:List zWR).length 24 then if (!(v3.Text==[])) then (zf vp0.Scanner 125).bind fun r1=>zdF (⟨r1.2,vp0.zW8++[v3]⟩:zXl) r1.1 else zdF (⟨vp0.Scanner,vp0.zW8++[v3]⟩:zXl) false else none
def zfp (x_r:zXl):Option (Bool × zXl):=(zf x_r.Scanner 64).bind fun r1=>if r1.1 then (zP r1.2).bind fun r2=>zdG (⟨r2.2.2,x_r.zW8⟩:zXl) (⟨3,r2.1⟩:zWR) else (zK r1.2 znk).bind fun r3=>zdG (⟨r3.2,x_r.zW8⟩:zXl) (⟨2,r3.1⟩:zWR)
def zgh (x_r:zXl):Option (Bool × zXl):=(zck x_r.Scanner [36,36]).bind fun r1=>if r1.1 then (zef (⟨r1.2,x_r.zW8⟩:zXl) [36]).bind fun r2=>some (true,r2) else (zck r1.2 [36,123]).bind fun r3=>if r3.1 then (zfp (⟨r3.2,x_r.zW8⟩:zXl)).bind fun r4=>some (r4.1,r4.2) else (zK r3.2 znl).bind fun r5=>(zef (⟨r5.2,x_r.zW8⟩:zXl) r5.1).bind fun r6=>some (!(r5.1==[]),r6)
def ziJ:Nat→zXl→Option (List zWR × Int)
 | 0,_=>none
 | n+1,v4=>(zao v4.Scanner).bind fun r1=>if (!r1) then (zgh v4).bind fun r2=>if (!r2.1) then some ([],2) else ziJ n r2.2 else if (decide ((32:Int)<(v4.zW8.length:Int))) then some ([],3) else some (v4.zW8,0)
def zqe (x_s:Str):Option (List zWR × Int):=(zgG x_s).bind fun r1=>ziJ fuel (⟨r1,[]⟩:zXl)
def zV (l0:List zWR) (l1:List zWR) (i12:Int):Nat→Int→Option Bool
 | 0,_=>none
 | n+1,i13=>if (decide (i13<i12)) then (lAt l0 i13).bind fun r1=>(lAt l1 i13).bind fun r2=>if (!(r1==r2)) then some false else (zd i13 1).bind fun r3=>zV l0 l1 i12 n r3 else some true
def zaY (x_s1:List zWR) (x_s2:List zWR):Option Bool:=if (!((x_s1.length:Int)==(x_s2.length:Int))) then some false else zV x_s1 x_s2 (x_s1.length:Int) fuel 0
def zia (k0:List Str→Int→Option (Str × Int)) (l4:List Str) (i12:Int):Option (Str × Int):=(zd i12 1).bind fun r1=>k0 l4 r1
def zdH (l0:List zWR) (l10:List zWR) (i11:Int):Nat→List Str→Int→Option (Str × Int)
 | 0,_,_=>none
 | n+1,l4,i12=>if (decide (i12<i11)) then (lAt l10 i12).bind fun r1=>if (r1.Kind==1) then (strings_ReplaceAll r1.Text [36] [36,36]).bind fun r2=>if ze l4.length ([r2]:List Str).length 16 then zia (zdH l0 l10 i11 n) (l4++[r2]) i12 else none else if (r1.Kind==2) then if ze l4.length ([[36,123],r1.Text,[125]]:List Str).length 16 then zia (zdH l0 l10 i11 n) (l4++([[36,123],r1.Text,[125]])) i12 else none else if (r1.Kind==3) then if ze l4.length ([[36,123,64],r1.Text,[125]]:List Str).length 16 then zia (zdH l0 l10 i11 n) (l4++([[36,123,64],r1.Text,[125]])) i12 else none else zia (zdH l0 l10 i11 n) l4 i12 else (zbt [] l4).bind fun r3=>(zqe r3).bind fun r4=>if (!(r4.2==0)) then some ([],2) else (zaY r4.1 l0).bind fun r5=>if (!r5) then some ([],2) else some (r3,0)
def ztl (x_l:List zWR):Option (Str × Int):=zdH x_l x_l (x_l.length:Int) fuel [] 0
def ziK (l1:List zWR) (l5:List Str) (l13:List Str) (i14:Int):Nat→Int→Option Bool
 | 0,_=>none
 | n+1,i15=>if (decide (i15<i14)) then (lAt l13 i15).bind fun r1=>(zw l5 r1).bind fun r2=>if (!r2) then some false else (zd i15 1).bind fun r3=>ziK l1 l5 l13 i14 n r3 else (ztl l1).bind fun r4=>some (r4.2==0)
def zlm (l1:List zWR) (l5:List Str):Option Bool:=(zqd l1).bind fun r1=>ziK l1 l5 r1 (r1.length:Int) fuel 0
def zqf (x_side:Int) (x_l:List zWR):Option Bool:=(znj x_side).bind fun r1=>optK r1 (zlm x_l []) fun r2=>zlm x_l r2
def znZ (v1:zWU):Option Bool:=if (v1.To==[]) then (zqf v1.Side v1.Parts).bind fun r1=>some r1 else some false
def zvu (x_r:zWU):Option Bool:=if (x_r.Kind==1) then znZ x_r else if (x_r.Kind==2) then znZ x_r else if (x_r.Kind==3) then if (x_r.To==[]) then some ((x_r.Parts.length:Int)==0) else some false else if (x_r.Kind==4) then (zph x_r.To).bind fun r1=>if r1 then some ((x_r.Parts.length:Int)==0) else some false else some false
def zqg (x_r:zWU):Option Int:=(znj x_r.Side).bind fun r1=>optK r1 (some 9) fun r2=>(nnl r2).bind fun _=>(zqc x_r.Guard).bind fun r3=>if (!r3) then some 9 else (zph x_r.Name).bind fun r4=>if (!r4) then some 9 else (zvu x_r).bind fun r5=>if (!r5) then some 9 else some 0
def zhu (l0:List zWU) (l7:List zWU) (i8:Int):Nat→Int→Option (Int × Int)
 | 0,_=>none
 | n+1,i9=>if (decide (i9<i8)) then (lAt l7 i9).bind fun r1=>(zqg r1).bind fun r2=>if (!(r2==0)) then some (i9,r2) else (zd i9 1).bind fun r3=>zhu l0 l7 i8 n r3 else if (decide ((64:Int)<(l0.length:Int))) then some (0,3) else some (0,0)
def zjF (x_l:List zWU):Option (Int × Int):=zhu x_l x_l (x_l.length:Int) fuel 0
def zhv (l:List zW3):Option (List zW3):=if ze 0 l.length 32 then some l else none
def zfF (l:List zWR):Option (List zWR):=if ze 0 l.length 24 then some l else none
def zgi (i0:Int) (i1:Int) (t19:Bool):Option (Option zW4 × Int):=if t19 then some (none,1) else some (some (⟨i0,i1,[],0,false,0,false,(⟨0,[],[],0,[],0,[]⟩:zWT)⟩:zW4),0)
def ztm (x_kind:Int) (x_limit:Int):Option (Option zW4 × Int):=if (!(x_kind==1)) then if (!(x_kind==2)) then zgi x_kind x_limit true else if (decide (x_limit<0)) then zgi x_kind x_limit true else zgi x_kind x_limit (decide ((65536:Int)<x_limit)) else if (decide (x_limit<0)) then zgi x_kind x_limit true else zgi x_kind x_limit (decide ((65536:Int)<x_limit))
def zdZ (x_kind:Int) (x_limit:Int):Option zWX:=(ztm x_kind x_limit).bind fun r1=>optK r1.1 (some (⟨none,none,none⟩:zWX)) fun r2=>some (⟨some r2,none,none⟩:zWX)
def zeg (v4:zXH) (l72:List zWU) (i73:Int):Nat→zWN→Int→Option (Option zWN × Int)
 | 0,_,_=>none
 | n+1,v15,i74=>if (decide (i74<i73)) then (lAt l72 i74).bind fun r1=>(zfF r1.Parts).bind fun r2=>if ze v15.zXZ.length ([({r1 with Parts:=r2}:zWU)]:List zWU).length 112 then (zd i74 1).bind fun r3=>zeg v4 l72 i73 n ({v15 with zXZ:=v15.zXZ++[({r1 with Parts:=r2}:zWU)]}:zWN) r3 else none else (zdZ 1 v4.Head).bind fun r4=>(zdZ 2 v4.Head).bind fun r5=>some (some ({v15 with zWP:=r4,zWO:=r5}:zWN),0)
def zfG (l2:List zWU) (v3:zW2) (v4:zXH) (i10:Int) (o11:Option zXg) (i12:Int):Option (Option zWN × Int):=if (!(i10==0)) then some (none,1) else if (!(i12==0)) then some (none,1) else if (decide (v4.Head<1)) then some (none,1) else if (decide ((65536:Int)<v4.Head)) then some (none,1) else (zjF l2).bind fun r1=>if (!(r1.2==0)) then some (none,r1.2) else (zhv v3.Domains).bind fun r2=>(zhv v3.Locations).bind fun r3=>zeg v4 l2 (l2.length:Int) fuel (⟨o11,({v3 with Domains:=r2,Locations:=r3}:zW2),v4,[],(⟨none,none,none⟩:zWX),(⟨none,none,none⟩:zWX),[],[],0,false,false,false,false,false,false,false⟩:zWN) 0
def zfH (l2:List zWU) (v3:zW2) (v4:zXH) (i10:Int):Option (Option zWN × Int):=(zlU v4.Queue).bind fun r1=>optK r1.1 (zfG l2 v3 v4 i10 none r1.2) fun r2=>zfG l2 v3 v4 i10 (some r2) r1.2
def zf7 (x_a0:zW2) (x_a1:zXH) (x_a2:List zWU):Option (Option zWN × Int):=(zlT x_a0).bind fun r1=>if (!(r1==0)) then some (none,r1) else (zht x_a1.Chunk).bind fun r2=>optK r2.1 (zfH x_a2 x_a0 x_a1 r2.2) fun r3=>zfH x_a2 x_a0 x_a1 r2.2
def znm (x_s:zXo):Option (Option zWV × Int):=(zf7 x_s.Env x_s.Caps x_s.Rules).bind fun r1=>optK r1.1 (if (!(r1.2==0)) then some (none,r1.2) else if (decide ((1048576:Int)<(x_s.Client.length:Int))) then some (none,3) else if (decide ((1048576:Int)<(x_s.Upstream.length:Int))) then some (none,3) else none) fun r2=>if (!(r1.2==0)) then some (none,r1.2) else if (decide ((1048576:Int)<(x_s.Client.length:Int))) then some (none,3) else if (decide ((1048576:Int)<(x_s.Upstream.length:Int))) then some (none,3) else some (some (⟨r2,(⟨x_s.Client,0,x_s.ClientEnds,false,[],(),()⟩:zXu),(⟨x_s.Upstream,0,x_s.UpstreamEnds,false,[],(),()⟩:zXu),(⟨0,0⟩:zXP)⟩:zWV),0)
def zn0 (x_s:zXo):Option ref44_Setup:=some (⟨x_s.Env,x_s.Caps,x_s.Rules⟩:ref44_Setup)
def zfI (s0:Str) (b1:UInt8):Nat→List Str→Int→Int→Option (List Str)
 | 0,_,_,_=>none
 | n+1,l5,i6,i7=>if (decide (i7<(s0.length:Int))) then (sAt s0 i7).bind fun r1=>if (r1==b1) then (zk5 s0 i6 i7).bind fun r2=>if ze l5.length ([r2]:List Str).length 16 then (zd i7 1).bind fun r3=>(zd i7 1).bind fun r4=>zfI s0 b1 n (l5++[r2]) r3 r4 else none else (zd i7 1).bind fun r5=>zfI s0 b1 n l5 i6 r5 else (zZ s0 i6).bind fun r6=>if ze l5.length ([r6]:List Str).length 16 then some (l5++[r6]) else none
def zjG (x_s:Str) (x_c:UInt8):Option (List Str):=zfI x_s x_c fuel [] 0 0
def znn (b0:UInt8) (i1:Int) (s5:Str) (s6:Str):Nat→Int→Option Int
 | 0,_=>none
 | n+1,i7=>if (decide (i7<i1)) then (sAt s5 i7).bind fun r1=>if (r1==b0) then some i7 else (sAt s6 i7).bind fun r2=>if (r2==b0) then some i7 else (zd i7 1).bind fun r3=>znn b0 i1 s5 s6 n r3 else some (-1)
def zlV (x_b:UInt8) (x_base:Int):Option Int:=znn x_b x_base [48,49,50,51,52,53,54,55,56,57,97,98,99,100,101,102] [48,49,50,51,52,53,54,55,56,57,65,66,67,68,69,70] fuel 0
def zeh:Nat→Int→Int→Option Str
 | 0,_,_=>none
 | n+1,x_n,x_base=>if (decide (x_n<x_base)) then (zd x_n 1).bind fun r1=>(zk5 [48,49,50,51,52,53,54,55,56,57,97,98,99,100,101,102] x_n r1).bind fun r2=>some r2 else (zDI x_n x_base).bind fun r3=>(zeh n r3 x_base).bind fun r4=>(zBj x_n x_base).bind fun r5=>(zBj x_n x_base).bind fun r6=>(zd r6 1).bind fun r7=>(zk5 [48,49,50,51,52,53,54,55,56,57,97,98,99,100,101,102] r5 r7).bind fun r8=>(zb1 r4 r8).bind fun r9=>some r9
def zib (x_n:Int) (x_base:Int):Option Str:=zeh fuel x_n x_base
def zj2 (k0:Str→Int→Option (Str × Bool)) (i1:Int) (s6:Str) (i7:Int) (i8:Int) (t27:Bool):Option (Str × Bool):=if t27 then (zib i8 i1).bind fun r1=>(zb1 s6 r1).bind fun r2=>(zd i7 1).bind fun r3=>k0 r2 r3 else (zd i7 1).bind fun r4=>k0 s6 r4
def zei (s0:Str) (i1:Int):Nat→Str→Int→Option (Str × Bool)
 | 0,_,_=>none
 | n+1,s6,i7=>if (decide (i7<(s0.length:Int))) then (sAt s0 i7).bind fun r1=>(zlV r1 i1).bind fun r2=>if (decide (r2<0)) then some ([],false) else if (!(s6==[])) then zj2 (zei s0 i1 n) i1 s6 i7 r2 true else zj2 (zei s0 i1 n) i1 s6 i7 r2 (decide ((0:Int)<r2)) else if (s6==[]) then some ([48], !(s0==[])) else some (s6, !(s0==[]))
def zn1 (x_s:Str) (x_base:Int):Option (Str × Bool):=zei x_s x_base fuel [] 0
def zqh (x_a:Str) (x_b:Str):Option Bool:=if (decide ((x_a.length:Int)<(x_b.length:Int))) then some true else if ((x_a.length:Int)==(x_b.length:Int)) then some (ziW x_a x_b) else some false
def ziL (i1:Int) (s8:Str):Nat→Int→Int→Option (Int × Int)
 | 0,_,_=>none
 | n+1,i10,i11=>if (decide (i11<(s8.length:Int))) then (zIj i10 i1).bind fun r1=>(sAt s8 i11).bind fun r2=>(zlV r2 i1).bind fun r3=>(zd r1 r3).bind fun r4=>(zd i11 1).bind fun r5=>ziL i1 s8 n r4 r5 else some (i10,0)
def zqi (x_s:Str) (x_base:Int) (x_most:Int):Option (Int × Int):=(zn1 x_s x_base).bind fun r1=>if (!r1.2) then some (0,2) else if (decide (x_most<0)) then some (0,7) else (zib x_most x_base).bind fun r2=>(zqh r2 r1.1).bind fun r3=>if r3 then some (0,7) else ziL x_base r1.1 fuel 0 0
def zqj (x_n:Int) (x_base:Int):Option Str:=if (decide (x_n<0)) then some [] else (zib x_n x_base).bind fun r1=>some r1
def zlW (x_s:Str) (x_most:Int):Option Int:=if (decide ((5:Int)<(x_s.length:Int))) then some (-1) else (zqi x_s 10 x_most).bind fun r1=>if (!(r1.2==0)) then some (-1) else (zqj r1.1 10).bind fun r2=>if (!(r2==x_s)) then some (-1) else some r1.1
def ziM (l3:List Str):Nat→Int→Option Bool
 | 0,_=>none
 | n+1,i4=>if (decide (i4<(l3.length:Int))) then (lAt l3 i4).bind fun r1=>(zlW r1 255).bind fun r2=>if (decide (r2<0)) then some false else (zd i4 1).bind fun r3=>ziM l3 n r3 else some ((l3.length:Int)==4)
def zjr (x_s:Str):Option Bool:=(zjG x_s 46).bind fun r1=>ziM r1 fuel 0
def zjH (b0:UInt8) (s1:Str):Nat→Int→Option Bool
 | 0,_=>none
 | n+1,i5=>if (decide (i5<(s1.length:Int))) then (sAt s1 i5).bind fun r1=>if (r1==b0) then some true else (zd i5 1).bind fun r2=>zjH b0 s1 n r2 else some false
def zfJ (x_b:UInt8) (x_l:Str):Option Bool:=zjH x_b x_l fuel 0
def zic (x_b:UInt8):Option Bool:=(zfJ x_b [48,49,50,51,52,53,54,55,56,57,97,98,99,100,101,102,65,66,67,68,69,70]).bind fun r1=>some r1
def zhw (k0:Int→Int→Option Bool) (l3:List Str) (i4:Int) (i5:Int):Nat→Int→Option Bool
 | 0,_=>none
 | n+1,i6=>(lAt l3 i5).bind fun r1=>if (decide (i6<(r1.length:Int))) then (lAt l3 i5).bind fun r2=>(sAt r2 i6).bind fun r3=>(zic r3).bind fun r4=>if (!r4) then some false else (zd i6 1).bind fun r5=>zhw k0 l3 i4 i5 n r5 else (lAt l3 i5).bind fun r6=>if (decide ((r6.length:Int)<1)) then some false else (lAt l3 i5).bind fun r7=>if (decide ((4:Int)<(r7.length:Int))) then some false else (zd i4 1).bind fun r8=>(zd i5 1).bind fun r9=>k0 r8 r9
def zj3 (k0:Int→Int→Option Bool) (l3:List Str) (i4:Int) (i5:Int) (t26:Bool):Option Bool:=if t26 then (zd i4 2).bind fun r1=>(zd i5 1).bind fun r2=>k0 r1 r2 else zhw k0 l3 i4 i5 fuel 0
def zc4 (l3:List Str):Nat→Int→Int→Option Bool
 | 0,_,_=>none
 | n+1,i4,i5=>if (decide (i5<(l3.length:Int))) then (za3 (l3.length:Int) 1).bind fun r1=>if (i5==r1) then (lAt l3 i5).bind fun r2=>(zjr r2).bind fun r3=>zj3 (zc4 l3 n) l3 i4 i5 r3 else zj3 (zc4 l3 n) l3 i4 i5 false else some (i4==8)
def zlX (x_s:Str):Option Bool:=(zjG x_s 58).bind fun r1=>zc4 r1 fuel 0 0
def zmQ (k2:Str→Int→Option Bool) (s5:Str) (i6:Int):Option Bool:=(zb1 s5 [48]).bind fun r1=>(zd i6 1).bind fun r2=>k2 r1 r2
def zmR (k1:Int→Option Bool) (i4:Int) (s5:Str):Option Bool:=(zlX s5).bind fun r1=>if r1 then some true else (zd i4 1).bind fun r2=>k1 r2
def zgj (k1:Int→Option Bool) (s0:Str) (i3:Int) (i4:Int):Nat→Str→Int→Option Bool
 | 0,_,_=>none
 | n+1,s5,i6=>if (decide (i6<i4)) then if (!(s5==[])) then (zb1 s5 [58]).bind fun r1=>zmQ (zgj k1 s0 i3 i4 n) r1 i6 else zmQ (zgj k1 s0 i3 i4 n) s5 i6 else (zd i3 2).bind fun r2=>(zZ s0 r2).bind fun r3=>if (!(r3==[])) then (zb1 s5 [58]).bind fun r4=>(zd i3 2).bind fun r5=>(zZ s0 r5).bind fun r6=>(zb1 r4 r6).bind fun r7=>zmR k1 i4 r7 else zmR k1 i4 s5
def zeR (s0:Str) (i3:Int):Nat→Int→Option Bool
 | 0,_=>none
 | n+1,i4=>if (decide (i4≤8)) then (sTo s0 i3).bind fun r1=>zgj (zeR s0 i3 n) s0 i3 i4 fuel r1 0 else some false
def zid (s0:Str):Nat→Int→Option Bool
 | 0,_=>none
 | n+1,i3=>(zd i3 1).bind fun r1=>if (decide (r1<(s0.length:Int))) then (sAt s0 i3).bind fun r2=>if (!(r2==58)) then (zd i3 1).bind fun r3=>zid s0 n r3 else (zd i3 1).bind fun r4=>(sAt s0 r4).bind fun r5=>if (!(r5==58)) then (zd i3 1).bind fun r6=>zid s0 n r6 else zeR s0 i3 fuel 1 else (zlX s0).bind fun r7=>some r7
def ztn (x_s:Str):Option Bool:=zid x_s fuel 0
def zd3 (x_b:UInt8):Option Bool:=(zfJ x_b [97,98,99,100,101,102,103,104,105,106,107,108,109,110,111,112,113,114,115,116,117,118,119,120,121,122,65,66,67,68,69,70,71,72,73,74,75,76,77,78,79,80,81,82,83,84,85,86,87,88,89,90,48,49,50,51,52,53,54,55,56,57,45,46,95,126]).bind fun r1=>some r1
def zne (x_b:UInt8):Option Bool:=(zfJ x_b [33,36,38,39,40,41,42,43,44,59,61]).bind fun r1=>some r1
def zln (k0:Int→Option Bool) (i3:Int) (t48:Bool):Option Bool:=if t48 then some false else (zd i3 1).bind fun r1=>k0 r1
def zd0 (s0:Str):Nat→Int→Option Bool
 | 0,_=>none
 | n+1,i3=>if (decide (i3<(s0.length:Int))) then (sAt s0 i3).bind fun r1=>if (r1==37) then (zd i3 2).bind fun r2=>if (decide ((s0.length:Int)≤r2)) then some false else (zd i3 1).bind fun r3=>(sAt s0 r3).bind fun r4=>(zic r4).bind fun r5=>if (!r5) then some false else (zd i3 2).bind fun r6=>(sAt s0 r6).bind fun r7=>(zic r7).bind fun r8=>if (!r8) then some false else (zd i3 2).bind fun r9=>(zd r9 1).bind fun r10=>zd0 s0 n r10 else (sAt s0 i3).bind fun r11=>(zd3 r11).bind fun r12=>if (!r12) then (sAt s0 i3).bind fun r13=>(zne r13).bind fun r14=>zln (zd0 s0 n) i3 (!r14) else zln (zd0 s0 n) i3 false else some (decide ((0:Int)<(s0.length:Int)))
def zkY (x_s:Str):Option Bool:=zd0 x_s fuel 0
def zjI (s0:Str) (t26:Bool):Option zXk:=if t26 then (za3 (s0.length:Int) 1).bind fun r1=>(zk5 s0 1 r1).bind fun r2=>some (⟨3,r2,(-1)⟩:zXk) else (zjr s0).bind fun r3=>if r3 then some (⟨2,s0,(-1)⟩:zXk) else (zkY s0).bind fun r4=>if r4 then some (⟨1,s0,(-1)⟩:zXk) else some (⟨0,[],0⟩:zXk)
def zr2 (x_s:Str):Option zXk:=if (decide ((2:Int)<(x_s.length:Int))) then (sAt x_s 0).bind fun r1=>if (r1==91) then (za3 (x_s.length:Int) 1).bind fun r2=>(sAt x_s r2).bind fun r3=>if (r3==93) then (za3 (x_s.length:Int) 1).bind fun r4=>(zk5 x_s 1 r4).bind fun r5=>(ztn r5).bind fun r6=>zjI x_s r6 else zjI x_s false else zjI x_s false else zjI x_s false
def zhx (s0:Str):Nat→Int→Option (zXk × Int)
 | 0,_=>none
 | n+1,i5=>if (decide ((0:Int)≤i5)) then (sAt s0 i5).bind fun r1=>if (!(r1==58)) then (za3 i5 1).bind fun r2=>zhx s0 n r2 else (sTo s0 i5).bind fun r3=>(zr2 r3).bind fun r4=>(zd i5 1).bind fun r5=>(zZ s0 r5).bind fun r6=>(zlW r6 65535).bind fun r7=>if (r4.Kind==0) then some ((⟨0,[],0⟩:zXk),27) else if (decide (r7<0)) then some ((⟨0,[],0⟩:zXk),27) else some (({r4 with Port:=r7}:zXk),0) else some ((⟨0,[],0⟩:zXk),27)
def zlY (x_s:Str):Option (zXk × Int):=(zr2 x_s).bind fun r1=>if (!(r1.Kind==0)) then some (r1,0) else (za3 (x_s.length:Int) 1).bind fun r2=>zhx x_s fuel r2
def zpi (x_b:UInt8):Option Bool:=(zfJ x_b [97,98,99,100,101,102,103,104,105,106,107,108,109,110,111,112,113,114,115,116,117,118,119,120,121,122,65,66,67,68,69,70,71,72,73,74,75,76,77,78,79,80,81,82,83,84,85,86,87,88,89,90,48,49,50,51,52,53,54,55,56,57,33,35,36,37,38,39,42,43,45,46,94,95,96,124,126]).bind fun r1=>some r1
def zhy (s0:Str):Nat→Int→Option Bool
 | 0,_=>none
 | n+1,i3=>if (decide (i3<(s0.length:Int))) then (sAt s0 i3).bind fun r1=>(zpi r1).bind fun r2=>if (!r2) then some false else (zd i3 1).bind fun r3=>zhy s0 n r3 else some (decide ((0:Int)<(s0.length:Int)))
def zav (x_s:Str):Option Bool:=zhy x_s fuel 0
def zf8 (x_b:UInt8):Option Bool:=if (decide (32≤x_b)) then if (!(x_b==127)) then some true else some (x_b==9) else some (x_b==9)
def zie (k0:Int→Int→Option Bool) (i3:Int) (i4:Int):Option Bool:=if (decide (i3<0)) then some false else (zd i4 1).bind fun r1=>k0 i3 r1
def zif (k0:Int→Int→Option Bool) (s0:Str) (i3:Int) (i4:Int):Option Bool:=(sAt s0 i4).bind fun r1=>if (r1==41) then (za3 i3 1).bind fun r2=>zie k0 r2 i4 else zie k0 i3 i4
def zbo (s0:Str):Nat→Int→Int→Option Bool
 | 0,_,_=>none
 | n+1,i3,i4=>if (decide (i4<(s0.length:Int))) then (sAt s0 i4).bind fun r1=>(zf8 r1).bind fun r2=>if (!r2) then some false else (sAt s0 i4).bind fun r3=>if (r3==92) then (zd i4 1).bind fun r4=>if (r4==(s0.length:Int)) then some false else (sAt s0 r4).bind fun r5=>(zf8 r5).bind fun r6=>if (!r6) then some false else (zd r4 1).bind fun r7=>zbo s0 n i3 r7 else (sAt s0 i4).bind fun r8=>if (r8==40) then (zd i3 1).bind fun r9=>zif (zbo s0 n) s0 r9 i4 else zif (zbo s0 n) s0 i3 i4 else some (i3==0)
def zlo (x_s:Str):Option Bool:=zbo x_s fuel 0 0
def zhz (s0:Str):Nat→Int→Option Bool
 | 0,_=>none
 | n+1,i3=>if (decide (i3<(s0.length:Int))) then (sAt s0 i3).bind fun r1=>if (r1==44) then some true else (sAt s0 i3).bind fun r2=>if (r2==40) then some true else (sAt s0 i3).bind fun r3=>if (r3==41) then some true else (zd i3 1).bind fun r4=>zhz s0 n r4 else some false
def zlZ (x_s:Str):Option Bool:=zhz x_s fuel 0
def zaq (s0:Str) (i5:Int) (v6:zW9) (t107:Bool):Option (zW9 × Int):=if t107 then some ((⟨[],[],[],[]⟩:zW9),2) else if (i5==(s0.length:Int)) then some (v6,0) else (zd i5 1).bind fun r1=>(zZ s0 r1).bind fun r2=>if (decide ((r2.length:Int)<3)) then some ((⟨[],[],[],[]⟩:zW9),2) else (sAt r2 0).bind fun r3=>if (!(r3==40)) then some ((⟨[],[],[],[]⟩:zW9),2) else (za3 (r2.length:Int) 1).bind fun r4=>(sAt r2 r4).bind fun r5=>if (!(r5==41)) then some ((⟨[],[],[],[]⟩:zW9),2) else (za3 (r2.length:Int) 1).bind fun r6=>(zk5 r2 1 r6).bind fun r7=>(zlo r7).bind fun r8=>if (!r8) then some ((⟨[],[],[],[]⟩:zW9),2) else (za3 (r2.length:Int) 1).bind fun r9=>(zk5 r2 1 r9).bind fun r10=>some (({v6 with Comment:=r10}:zW9),0)
def zhA (s0:Str) (i5:Int) (v6:zW9) (l7:List Str):Option (zW9 × Int):=(zlY v6.By).bind fun r1=>if (decide ((2:Int)<(l7.length:Int))) then zaq s0 i5 v6 true else if ((l7.length:Int)==2) then (zav v6.Proto).bind fun r2=>if (!r2) then zaq s0 i5 v6 true else (zav v6.Version).bind fun r3=>if (!r3) then zaq s0 i5 v6 true else if (!(r1.2==0)) then (zav v6.By).bind fun r4=>zaq s0 i5 v6 (!r4) else (zlZ v6.By).bind fun r5=>if r5 then (zav v6.By).bind fun r6=>zaq s0 i5 v6 (!r6) else zaq s0 i5 v6 false else (zav v6.Version).bind fun r7=>if (!r7) then zaq s0 i5 v6 true else if (!(r1.2==0)) then (zav v6.By).bind fun r8=>zaq s0 i5 v6 (!r8) else (zlZ v6.By).bind fun r9=>if r9 then (zav v6.By).bind fun r10=>zaq s0 i5 v6 (!r10) else zaq s0 i5 v6 false
def zj4 (k1:Int→Option (zW9 × Int)) (s0:Str) (i4:Int) (i5:Int) (t40:Bool):Option (zW9 × Int):=if t40 then (zd i5 1).bind fun r1=>k1 r1 else (sTo s0 i4).bind fun r2=>(zd i4 1).bind fun r3=>(zk5 s0 r3 i5).bind fun r4=>(sTo s0 i4).bind fun r5=>(zjG r5 47).bind fun r6=>if ((r6.length:Int)==2) then (lAt r6 0).bind fun r7=>(lAt r6 1).bind fun r8=>zhA s0 i5 (⟨r7,r8,r4,[]⟩:zW9) r6 else zhA s0 i5 (⟨[],r2,r4,[]⟩:zW9) r6
def zej (s0:Str) (i4:Int):Nat→Int→Option (zW9 × Int)
 | 0,_=>none
 | n+1,i5=>if (decide (i5<(s0.length:Int))) then (sAt s0 i5).bind fun r1=>zj4 (zej s0 i4 n) s0 i4 i5 (!(r1==32)) else zj4 (zej s0 i4 n) s0 i4 i5 false
def zj5 (k0:Int→Option (zW9 × Int)) (s0:Str) (i4:Int) (t21:Bool):Option (zW9 × Int):=if t21 then (zd i4 1).bind fun r1=>k0 r1 else if (i4==(s0.length:Int)) then some ((⟨[],[],[],[]⟩:zW9),2) else (zd i4 1).bind fun r2=>zej s0 i4 fuel r2
def zek (s0:Str):Nat→Int→Option (zW9 × Int)
 | 0,_=>none
 | n+1,i4=>if (decide (i4<(s0.length:Int))) then (sAt s0 i4).bind fun r1=>zj5 (zek s0 n) s0 i4 (!(r1==32)) else zj5 (zek s0 n) s0 i4 false
def zn2 (x_a0:Str):Option (zW9 × Int):=zek x_a0 fuel 0
def ziN (v1:zW9) (s4:Str):Option (Str × Int):=(zn2 s4).bind fun r1=>if (!(r1.2==0)) then some ([],2) else if (!(r1.1==v1)) then some ([],2) else some (s4,0)
def zlp (v1:zW9) (s4:Str):Option (Str × Int):=if (!(v1.Comment==[])) then (zb1 s4 [32,40]).bind fun r1=>(zb1 r1 v1.Comment).bind fun r2=>(zb1 r2 [41]).bind fun r3=>ziN v1 r3 else ziN v1 s4
def zqk (x_v:zW9):Option (Str × Int):=(zb1 x_v.Version [32]).bind fun r1=>(zb1 r1 x_v.By).bind fun r2=>if (!(x_v.Proto==[])) then (zb1 x_v.Proto [47]).bind fun r3=>(zb1 r3 r2).bind fun r4=>zlp x_v r4 else zlp x_v r2
def zhB (k0:Int→Option Int) (i3:Int) (s5:Str):Nat→Int→Option Int
 | 0,_=>none
 | n+1,i6=>if (decide (i6<(s5.length:Int))) then (sAt s5 i6).bind fun r1=>if (r1==44) then some 27 else (sAt s5 i6).bind fun r2=>if (r2==59) then some 27 else (zd i6 1).bind fun r3=>zhB k0 i3 s5 n r3 else (zd i3 1).bind fun r4=>k0 r4
def zfK (l0:List zW3):Nat→Int→Option Int
 | 0,_=>none
 | n+1,i3=>if (decide (i3<(l0.length:Int))) then (lAt l0 i3).bind fun r1=>(lAt l0 i3).bind fun r2=>(zkY r1.From).bind fun r3=>if (!r3) then some 27 else (zjr r1.From).bind fun r4=>if r4 then some 27 else (zkY r2.To).bind fun r5=>if (!r5) then some 27 else (zjr r2.To).bind fun r6=>if r6 then some 27 else zhB (zfK l0 n) i3 r2.To fuel 0 else if (decide ((64:Int)<(l0.length:Int))) then some 3 else some 0
def zn3 (x_l:List zW3):Option Int:=zfK x_l fuel 0
def zj6 (k0:Int→Option Int) (i5:Int) (t17:Bool):Option Int:=if t17 then (zd i5 1).bind fun r1=>k0 r1 else some i5
def zel (s0:Str) (s1:Str):Nat→Int→Option Int
 | 0,_=>none
 | n+1,i5=>if (decide (i5<(s0.length:Int))) then (sAt s0 i5).bind fun r1=>(zfJ r1 s1).bind fun r2=>zj6 (zel s0 s1 n) i5 (!r2) else zj6 (zel s0 s1 n) i5 false
def zeS (x_s:Str) (x_l:Str):Option Int:=zel x_s x_l fuel 0
def zl0 (x_b:UInt8):Option Bool:=(zfJ x_b [97,98,99,100,101,102,103,104,105,106,107,108,109,110,111,112,113,114,115,116,117,118,119,120,121,122,65,66,67,68,69,70,71,72,73,74,75,76,77,78,79,80,81,82,83,84,85,86,87,88,89,90]).bind fun r1=>some r1
def zl1 (x_b:UInt8):Option Bool:=(zfJ x_b [48,49,50,51,52,53,54,55,56,57]).bind fun r1=>some r1
def zeL (k0:Int→Option Bool) (i3:Int) (t32:Bool):Option Bool:=if t32 then some false else (zd i3 1).bind fun r1=>k0 r1
def zbH (s0:Str):Nat→Int→Option Bool
 | 0,_=>none
 | n+1,i3=>if (decide (i3<(s0.length:Int))) then (sAt s0 i3).bind fun r1=>(zl0 r1).bind fun r2=>if (!r2) then if (i3==0) then zeL (zbH s0 n) i3 true else (sAt s0 i3).bind fun r3=>(zl1 r3).bind fun r4=>if (!r4) then (sAt s0 i3).bind fun r5=>(zfJ r5 [43,45,46]).bind fun r6=>zeL (zbH s0 n) i3 (!r6) else zeL (zbH s0 n) i3 false else zeL (zbH s0 n) i3 false else some (decide ((0:Int)<(s0.length:Int)))
def zmS (x_s:Str):Option Bool:=zbH x_s fuel 0
def zno (x_b:UInt8):Option Bool:=(zd3 x_b).bind fun r1=>if r1 then some true else (zne x_b).bind fun r2=>if r2 then some true else if (x_b==58) then some true else some (x_b==64)
def zjs:Nat→Str→Str→Option Bool
 | 0,_,_=>none
 | n+1,x_s,x_more=>if (x_s==[]) then some true else (sAt x_s 0).bind fun r1=>if (r1==37) then if (decide ((2:Int)<(x_s.length:Int))) then (sAt x_s 1).bind fun r2=>(zic r2).bind fun r3=>if r3 then (sAt x_s 2).bind fun r4=>(zic r4).bind fun r5=>if r5 then (zZ x_s 3).bind fun r6=>(zjs n r6 x_more).bind fun r7=>some r7 else some false else some false else some false else (sAt x_s 0).bind fun r8=>(zno r8).bind fun r9=>if r9 then (zZ x_s 1).bind fun r10=>(zjs n r10 x_more).bind fun r11=>some r11 else (sAt x_s 0).bind fun r12=>(zfJ r12 x_more).bind fun r13=>if r13 then (zZ x_s 1).bind fun r14=>(zjs n r14 x_more).bind fun r15=>some r15 else some false
def znp (x_s:Str) (x_more:Str):Option Bool:=zjs fuel x_s x_more
def zj7 (v1:zXc) (t55:Bool):Option Bool:=if t55 then some false else (zeS v1.Path [58,47]).bind fun r1=>if (!(v1.Scheme==[])) then some true else if (r1==(v1.Path.length:Int)) then some true else (sAt v1.Path r1).bind fun r2=>some (r2==47)
def zn4 (x_a0:zXc):Option Bool:=(znp x_a0.Auth [91,93]).bind fun r1=>if (!r1) then some false else (zeS x_a0.Auth [64]).bind fun r2=>if (decide (r2<(x_a0.Auth.length:Int))) then some false else (znp x_a0.Path [47]).bind fun r3=>if (!r3) then some false else (znp x_a0.Query [47,63]).bind fun r4=>if (!r4) then some false else (znp x_a0.Frag [47,63]).bind fun r5=>if (!r5) then some false else if x_a0.HasAuth then if (x_a0.Path==[]) then some true else (sAt x_a0.Path 0).bind fun r6=>some (r6==47) else if (decide ((1:Int)<(x_a0.Path.length:Int))) then (sTo x_a0.Path 2).bind fun r7=>zj7 x_a0 (r7==[47,47]) else zj7 x_a0 false
def zhC (s0:Str) (v4:zXc):Option (zXc × Int):=(zn4 ({v4 with Path:=s0}:zXc)).bind fun r1=>if (!r1) then some ((⟨[],[],[],[],[],false,false,false⟩:zXc),2) else some (({v4 with Path:=s0}:zXc),0)
def zj8 (s0:Str) (v4:zXc) (t73:Bool):Option (zXc × Int):=if t73 then (zZ s0 2).bind fun r1=>(zeS r1 [47]).bind fun r2=>(zd 2 r2).bind fun r3=>(zk5 s0 2 r3).bind fun r4=>(zd 2 r2).bind fun r5=>(zZ s0 r5).bind fun r6=>zhC r6 ({v4 with Auth:=r4,HasAuth:=true}:zXc) else zhC s0 v4
def zhD (s0:Str) (v4:zXc):Option (zXc × Int):=if (decide ((1:Int)<(s0.length:Int))) then (sTo s0 2).bind fun r1=>zj8 s0 v4 (r1==[47,47]) else zj8 s0 v4 false
def zhE (s0:Str) (v4:zXc) (i7:Int) (t57:Bool):Option (zXc × Int):=if t57 then (sTo s0 i7).bind fun r1=>(zd i7 1).bind fun r2=>(zZ s0 r2).bind fun r3=>zhD r3 ({v4 with Scheme:=r1}:zXc) else zhD s0 v4
def zhF (s0:Str) (v4:zXc):Option (zXc × Int):=(zeS s0 [58,47]).bind fun r1=>if (decide (r1<(s0.length:Int))) then (sAt s0 r1).bind fun r2=>if (r2==58) then (sTo s0 r1).bind fun r3=>(zmS r3).bind fun r4=>zhE s0 v4 r1 r4 else zhE s0 v4 r1 false else zhE s0 v4 r1 false
def zhG (s0:Str) (v4:zXc):Option (zXc × Int):=(zeS s0 [63]).bind fun r1=>if (decide (r1<(s0.length:Int))) then (zd r1 1).bind fun r2=>(zZ s0 r2).bind fun r3=>(sTo s0 r1).bind fun r4=>zhF r4 ({v4 with Query:=r3,HasQuery:=true}:zXc) else zhF s0 v4
def zl2 (x_a0:Str):Option (zXc × Int):=(zeS x_a0 [35]).bind fun r1=>if (decide (r1<(x_a0.length:Int))) then (zd r1 1).bind fun r2=>(zZ x_a0 r2).bind fun r3=>(sTo x_a0 r1).bind fun r4=>zhG r4 (⟨[],[],[],[],r3,false,false,true⟩:zXc) else zhG x_a0 (⟨[],[],[],[],[],false,false,false⟩:zXc)
def zhH (l0:List zW3):Nat→Int→Option Int
 | 0,_=>none
 | n+1,i3=>if (decide (i3<(l0.length:Int))) then (lAt l0 i3).bind fun r1=>(zl2 r1.From).bind fun r2=>(lAt l0 i3).bind fun r3=>(zl2 r3.To).bind fun r4=>(lAt l0 i3).bind fun r5=>if (r5.From==[]) then some 2 else if (!(r2.2==0)) then some 2 else if (!(r4.2==0)) then some 2 else (zd i3 1).bind fun r6=>zhH l0 n r6 else if (decide ((64:Int)<(l0.length:Int))) then some 3 else some 0
def zn5 (x_l:List zW3):Option Int:=zhH x_l fuel 0
def zhI (v1:zW2) (t41:Bool):Option Int:=if t41 then some 2 else (zn3 v1.Domains).bind fun r1=>if (!(r1==0)) then some r1 else (zn5 v1.Locations).bind fun r2=>some r2
def zj9 (v1:zW2) (i4:Int) (t27:Bool):Option Int:=if t27 then some i4 else if (!(v1.Scheme==[])) then if (!(v1.Scheme==[104,116,116,112])) then zhI v1 (!(v1.Scheme==[104,116,116,112,115])) else zhI v1 false else zhI v1 false
def zn6 (x_env:zW2):Option Int:=(zqk (⟨[],[49,46,49],x_env.By,[]⟩:zW9)).bind fun r1=>if (!(r1.2==0)) then some r1.2 else (zlY x_env.Host).bind fun r2=>if (!(r2.2==0)) then zj9 x_env r2.2 (!(x_env.Host==[])) else zj9 x_env r2.2 false
def zgN (s0:Str):Nat→Int→Option Bool
 | 0,_=>none
 | n+1,i3=>if (decide (i3<(s0.length:Int))) then (sAt s0 i3).bind fun r1=>(zf8 r1).bind fun r2=>if (!r2) then some false else (zd i3 1).bind fun r3=>zgN s0 n r3 else some true
def zmT (x_s:Str):Option Bool:=zgN x_s fuel 0
def zjJ (x_b:UInt8):Option Bool:=if (x_b==32) then some true else some (x_b==9)
def zlq (k1:Str→Option Str) (s0:Str) (t23:Bool):Option Str:=if t23 then (za3 (s0.length:Int) 1).bind fun r1=>(sTo s0 r1).bind fun r2=>k1 r2 else some s0
def zfa:Nat→Str→Option Str
 | 0,_=>none
 | n+1,s0=>if (decide ((0:Int)<(s0.length:Int))) then (za3 (s0.length:Int) 1).bind fun r1=>(sAt s0 r1).bind fun r2=>(zjJ r2).bind fun r3=>zlq (zfa n) s0 r3 else zlq (zfa n) s0 false
def zlr (k0:Str→Option Str) (s0:Str) (t10:Bool):Option Str:=if t10 then (zZ s0 1).bind fun r1=>k0 r1 else zfa fuel s0
def zfb:Nat→Str→Option Str
 | 0,_=>none
 | n+1,s0=>if (decide ((0:Int)<(s0.length:Int))) then (sAt s0 0).bind fun r1=>(zjJ r1).bind fun r2=>zlr (zfb n) s0 r2 else zlr (zfb n) s0 false
def zql (x_s:Str):Option Str:=zfb fuel x_s
def zn7 (x_f:zWQ):Option Int:=(zav x_f.Name).bind fun r1=>if (!r1) then some 21 else (zmT x_f.Value).bind fun r2=>if (!r2) then some 25 else (zql x_f.Value).bind fun r3=>if (!(r3==x_f.Value)) then some 25 else some 0
def zl3 (x_g:zXx):Option Bool:=if (x_g.Kind==0) then if (x_g.Name==[]) then some (x_g.Value==[]) else some false else if (x_g.Kind==3) then (zn7 (⟨x_g.Name,x_g.Value⟩:zWQ)).bind fun r1=>some (r1==0) else if (x_g.Kind==1) then (zav x_g.Name).bind fun r2=>if r2 then some (x_g.Value==[]) else some false else if (x_g.Kind==2) then (zav x_g.Name).bind fun r3=>if r3 then some (x_g.Value==[]) else some false else some false
def zfc (k0:Str→Int→Option Str) (s0:Str) (s3:Str) (i4:Int):Nat→Str→Int→Option Str
 | 0,_,_=>none
 | n+1,s5,i6=>if (decide (i6<26)) then (sAt [65,66,67,68,69,70,71,72,73,74,75,76,77,78,79,80,81,82,83,84,85,86,87,88,89,90] i6).bind fun r1=>(sAt s0 i4).bind fun r2=>if (r1==r2) then (zd i6 1).bind fun r3=>(zk5 [97,98,99,100,101,102,103,104,105,106,107,108,109,110,111,112,113,114,115,116,117,118,119,120,121,122] i6 r3).bind fun r4=>(zd i6 1).bind fun r5=>zfc k0 s0 s3 i4 n r4 r5 else (zd i6 1).bind fun r6=>zfc k0 s0 s3 i4 n s5 r6 else (zb1 s3 s5).bind fun r7=>(zd i4 1).bind fun r8=>k0 r7 r8
def zg4 (s0:Str):Nat→Str→Int→Option Str
 | 0,_,_=>none
 | n+1,s3,i4=>if (decide (i4<(s0.length:Int))) then (zd i4 1).bind fun r1=>(zk5 s0 i4 r1).bind fun r2=>zfc (zg4 s0 n) s0 s3 i4 fuel r2 0 else some s3
def znq (x_s:Str):Option Str:=zg4 x_s fuel [] 0
def zn8 (x_name:Str):Option Bool:=(znq x_name).bind fun r1=>if (r1==[99,111,110,110,101,99,116,105,111,110]) then some true else if (r1==[99,111,110,116,101,110,116,45,108,101,110,103,116,104]) then some true else if (r1==[107,101,101,112,45,97,108,105,118,101]) then some true else if (r1==[112,114,111,120,121,45,99,111,110,110,101,99,116,105,111,110]) then some true else if (r1==[116,101]) then some true else if (r1==[116,114,97,105,108,101,114]) then some true else if (r1==[116,114,97,110,115,102,101,114,45,101,110,99,111,100,105,110,103]) then some true else if (r1==[117,112,103,114,97,100,101]) then some true else some false
def zkZ (x_name:Str):Option Bool:=(znq x_name).bind fun r1=>if (r1==[104,111,115,116]) then some true else if (r1==[118,105,97]) then some true else if (r1==[102,111,114,119,97,114,100,101,100]) then some true else if (r1==[120,45,102,111,114,119,97,114,100,101,100,45,102,111,114]) then some true else (zn8 x_name).bind fun r2=>some r2
def zn9 (x_side:Int):Option (List Str):=if (x_side==1) then some ([[99,108,105,101,110,116],[104,111,115,116],[109,101,116,104,111,100],[112,97,116,104],[115,99,104,101,109,101]]) else if (x_side==2) then some ([[99,108,105,101,110,116],[104,111,115,116],[115,99,104,101,109,101],[115,116,97,116,117,115]]) else some []
def zfL (k0:List Str→Int→Option (List Str)) (l0:List zWR) (l3:List Str) (i4:Int):Nat→Bool→Int→Option (List Str)
 | 0,_,_=>none
 | n+1,t5,i6=>if (decide (i6<(l3.length:Int))) then if t5 then (zd i6 1).bind fun r1=>zfL k0 l0 l3 i4 n true r1 else (lAt l3 i6).bind fun r2=>(lAt l0 i4).bind fun r3=>(zd i6 1).bind fun r4=>zfL k0 l0 l3 i4 n (r2==r3.Text) r4 else if (!t5) then (lAt l0 i4).bind fun r5=>if ze l3.length ([r5.Text]:List Str).length 16 then (zd i4 1).bind fun r6=>k0 (l3++[r5.Text]) r6 else none else (zd i4 1).bind fun r7=>k0 l3 r7
def zfM (l0:List zWR):Nat→List Str→Int→Option (List Str)
 | 0,_,_=>none
 | n+1,l3,i4=>if (decide (i4<(l0.length:Int))) then (lAt l0 i4).bind fun r1=>zfL (zfM l0 n) l0 l3 i4 fuel (!(r1.Kind==2)) 0 else some l3
def zoa (x_l:List zWR):Option (List Str):=zfM x_l fuel [] 0
def zka (i4:Int) (s5:Str):Nat→Int→Option (zWR × Int)
 | 0,_=>none
 | n+1,i6=>if (decide (i6<(s5.length:Int))) then (sAt s5 i6).bind fun r1=>(zfJ r1 [97,98,99,100,101,102,103,104,105,106,107,108,109,110,111,112,113,114,115,116,117,118,119,120,121,122]).bind fun r2=>if (!r2) then some ((⟨0,[]⟩:zWR),0) else (zd i6 1).bind fun r3=>zka i4 s5 n r3 else (zd i4 1).bind fun r4=>some ((⟨2,s5⟩:zWR),r4)
def zmU (k0:Int→Option (zWR × Int)) (s0:Str) (i4:Int) (t36:Bool):Option (zWR × Int):=if t36 then (zd i4 1).bind fun r1=>k0 r1 else if (i4==(s0.length:Int)) then some ((⟨0,[]⟩:zWR),0) else if (decide (i4<3)) then some ((⟨0,[]⟩:zWR),0) else (sAt s0 1).bind fun r2=>if (!(r2==123)) then some ((⟨0,[]⟩:zWR),0) else (zk5 s0 2 i4).bind fun r3=>(sAt r3 0).bind fun r4=>if (r4==64) then (zZ r3 1).bind fun r5=>(zav r5).bind fun r6=>if (!r6) then some ((⟨0,[]⟩:zWR),0) else (zZ r3 1).bind fun r7=>(zd i4 1).bind fun r8=>some ((⟨3,r7⟩:zWR),r8) else zka i4 r3 fuel 0
def zgk (s0:Str):Nat→Int→Option (zWR × Int)
 | 0,_=>none
 | n+1,i4=>if (decide (i4<(s0.length:Int))) then (sAt s0 i4).bind fun r1=>zmU (zgk s0 n) s0 i4 (!(r1==125)) else zmU (zgk s0 n) s0 i4 false
def zmV (s0:Str) (t25:Bool):Option (zWR × Int):=if t25 then some ((⟨1,[36]⟩:zWR),2) else zgk s0 fuel 0
def zto (x_a0:Str):Option (zWR × Int):=(sAt x_a0 0).bind fun r1=>if (!(r1==36)) then (sAt x_a0 0).bind fun r2=>(zf8 r2).bind fun r3=>if (!r3) then some ((⟨0,[]⟩:zWR),0) else (sTo x_a0 1).bind fun r4=>some ((⟨1,r4⟩:zWR),1) else if (decide ((1:Int)<(x_a0.length:Int))) then (sAt x_a0 1).bind fun r5=>zmV x_a0 (r5==36) else zmV x_a0 false
def zhJ (k0:Str→List zWR→Option (List zWR × Int)) (s0:Str) (l4:List zWR) (v5:zWR) (i7:Int) (t37:Bool):Option (List zWR × Int):=if t37 then (lAt l4 i7).bind fun r1=>(zb1 r1.Text v5.Text).bind fun r2=>(lAt l4 i7).bind fun r3=>(zw3 l4 i7 (⟨r3.Kind,r2⟩:zWR)).bind fun r4=>k0 s0 r4 else if ze l4.length ([v5]:List zWR).length 24 then k0 s0 (l4++[v5]) else none
def zc5:Nat→Str→List zWR→Option (List zWR × Int)
 | 0,_,_=>none
 | n+1,s0,l4=>if (!(s0==[])) then (zto s0).bind fun r1=>if (r1.2==0) then some ([],2) else (zZ s0 r1.2).bind fun r2=>(za3 (l4.length:Int) 1).bind fun r3=>if (r1.1.Kind==1) then if (decide ((0:Int)≤r3)) then (lAt l4 r3).bind fun r4=>zhJ (zc5 n) r2 l4 r1.1 r3 (r4.Kind==1) else zhJ (zc5 n) r2 l4 r1.1 r3 false else zhJ (zc5 n) r2 l4 r1.1 r3 false else if (decide ((32:Int)<(l4.length:Int))) then some ([],3) else some (l4,0)
def zob (x_s:Str):Option (List zWR × Int):=zc5 fuel x_s []
def ziO (l0:List zWR) (l1:List zWR):Nat→Int→Option Bool
 | 0,_=>none
 | n+1,i5=>if (decide (i5<(l0.length:Int))) then (lAt l0 i5).bind fun r1=>(lAt l1 i5).bind fun r2=>if (!(r1==r2)) then some false else (zd i5 1).bind fun r3=>ziO l0 l1 n r3 else some true
def zqm (x_a:List zWR) (x_b:List zWR):Option Bool:=if (!((x_a.length:Int)==(x_b.length:Int))) then some false else ziO x_a x_b fuel 0
def zls (k1:Str→Int→Option (Str × Int)) (l0:List zWR) (s4:Str) (i5:Int) (i6:Int):Option (Str × Int):=(lAt l0 i5).bind fun r1=>(zd i6 1).bind fun r2=>(zk5 r1.Text i6 r2).bind fun r3=>(zb1 s4 r3).bind fun r4=>(zd i6 1).bind fun r5=>k1 r4 r5
def zfd (k0:Str→Int→Option (Str × Int)) (l0:List zWR) (i5:Int):Nat→Str→Int→Option (Str × Int)
 | 0,_,_=>none
 | n+1,s4,i6=>(lAt l0 i5).bind fun r1=>if (decide (i6<(r1.Text.length:Int))) then (lAt l0 i5).bind fun r2=>(sAt r2.Text i6).bind fun r3=>if (r3==36) then (zb1 s4 [36]).bind fun r4=>zls (zfd k0 l0 i5 n) l0 r4 i5 i6 else zls (zfd k0 l0 i5 n) l0 s4 i5 i6 else (zd i5 1).bind fun r5=>k0 s4 r5
def zb2 (l0:List zWR):Nat→Str→Int→Option (Str × Int)
 | 0,_,_=>none
 | n+1,s4,i5=>if (decide (i5<(l0.length:Int))) then (lAt l0 i5).bind fun r1=>if (r1.Kind==1) then zfd (zb2 l0 n) l0 i5 fuel s4 0 else if (r1.Kind==2) then (zb1 s4 [36,123]).bind fun r2=>(lAt l0 i5).bind fun r3=>(zb1 r2 r3.Text).bind fun r4=>(zb1 r4 [125]).bind fun r5=>(zd i5 1).bind fun r6=>zb2 l0 n r5 r6 else if (r1.Kind==3) then (zb1 s4 [36,123,64]).bind fun r7=>(lAt l0 i5).bind fun r8=>(zb1 r7 r8.Text).bind fun r9=>(zb1 r9 [125]).bind fun r10=>(zd i5 1).bind fun r11=>zb2 l0 n r10 r11 else (zd i5 1).bind fun r12=>zb2 l0 n s4 r12 else (zob s4).bind fun r13=>if (!(r13.2==0)) then some ([],2) else (zqm r13.1 l0).bind fun r14=>if (!r14) then some ([],2) else some (s4,0)
def zqn (x_a0:List zWR):Option (Str × Int):=zb2 x_a0 fuel [] 0
def zfN (k0:Bool→Int→Option Int) (t3:Bool) (l4:List Str) (l5:List Str) (i6:Int):Nat→Bool→Int→Option Int
 | 0,_,_=>none
 | n+1,t7,i8=>if (decide (i8<(l4.length:Int))) then if t7 then (zd i8 1).bind fun r1=>zfN k0 t3 l4 l5 i6 n true r1 else (lAt l4 i8).bind fun r2=>(lAt l5 i6).bind fun r3=>(zd i8 1).bind fun r4=>zfN k0 t3 l4 l5 i6 n (r2==r3) r4 else if t3 then (zd i6 1).bind fun r5=>k0 t7 r5 else (zd i6 1).bind fun r6=>k0 false r6
def zkb (v1:zWU) (t3:Bool) (i10:Int) (i76:Int) (t77:Bool):Option Int:=if t77 then if t3 then if (v1.To==[]) then if (!(i10==0)) then some 9 else some 0 else some 9 else some 9 else if (i76==3) then if t3 then if (v1.To==[]) then if (!((v1.Parts.length:Int)==0)) then some 9 else some 0 else some 9 else some 9 else if (i76==4) then if t3 then (zav v1.To).bind fun r1=>if r1 then (zkZ v1.To).bind fun r2=>if (!r2) then if (!((v1.Parts.length:Int)==0)) then some 9 else some 0 else some 9 else some 9 else some 9 else some 9
def zfO (v1:zWU) (l4:List Str) (l5:List Str):Nat→Bool→Int→Option Int
 | 0,_,_=>none
 | n+1,t3,i6=>if (decide (i6<(l5.length:Int))) then zfN (zfO v1 l4 l5 n) t3 l4 l5 i6 fuel false 0 else (zqn v1.Parts).bind fun r1=>if (v1.Kind==1) then zkb v1 t3 r1.2 v1.Kind true else zkb v1 t3 r1.2 v1.Kind (v1.Kind==2)
def zbA (v1:zWU) (t3:Bool):Option Int:=(zn9 v1.Side).bind fun r1=>(zoa v1.Parts).bind fun r2=>zfO v1 r1 r2 fuel t3 0
def zoc (x_a0:zWU):Option Int:=if (x_a0.Side==1) then (zl3 x_a0.Guard).bind fun r1=>if r1 then (zav x_a0.Name).bind fun r2=>if r2 then (zkZ x_a0.Name).bind fun r3=>zbA x_a0 (!r3) else zbA x_a0 false else zbA x_a0 false else if (x_a0.Side==2) then (zl3 x_a0.Guard).bind fun r4=>if r4 then (zav x_a0.Name).bind fun r5=>if r5 then (zkZ x_a0.Name).bind fun r6=>zbA x_a0 (!r6) else zbA x_a0 false else zbA x_a0 false else zbA x_a0 false
def zhK (l0:List zWU):Nat→Int→Option (Int × Int)
 | 0,_=>none
 | n+1,i4=>if (decide (i4<(l0.length:Int))) then (lAt l0 i4).bind fun r1=>(zoc r1).bind fun r2=>if (!(r2==0)) then some (i4,9) else (zd i4 1).bind fun r3=>zhK l0 n r3 else if (decide ((64:Int)<(l0.length:Int))) then some (0,3) else some (0,0)
def zod (x_l:List zWU):Option (Int × Int):=zhK x_l fuel 0
def zoe (x_s:ref44_Setup):Option Int:=(zn6 x_s.Env).bind fun r1=>if (!(r1==0)) then some r1 else if (decide (x_s.Caps.Head<1)) then some 1 else if (decide ((65536:Int)<x_s.Caps.Head)) then some 1 else if (decide (x_s.Caps.Chunk<1)) then some 1 else if (decide ((65536:Int)<x_s.Caps.Chunk)) then some 1 else if (decide (x_s.Caps.Queue<1)) then some 1 else if (decide ((64:Int)<x_s.Caps.Queue)) then some 1 else (zod x_s.Rules).bind fun r2=>some r2.2
def zhL (i3:Int) (t20:Bool):Option Int:=if t20 then some 3 else some i3
def zhM (x_s:zXo):Option Int:=(zn0 x_s).bind fun r1=>(zoe r1).bind fun r2=>if (r2==0) then if (decide ((1048576:Int)<(x_s.Client.length:Int))) then zhL r2 true else zhL r2 (decide ((1048576:Int)<(x_s.Upstream.length:Int))) else zhL r2 false
def zaE (x_g:zWN):Option Bool:=some x_g.zWZ
def zd4 (x_w:Option zWV):Option (zXN × Option zWV):=optK x_w (some ((⟨[],[],0,0,(⟨0,0⟩:zXP),false⟩:zXN),none)) fun r1=>(zaE r1.Gateway).bind fun r2=>some ((⟨r1.zWP.zXe,r1.zWO.zXe,r1.zWP.zXh,r1.zWO.zXh,r1.zXa,r2⟩:zXN),some r1)
def zfP (x_w:Option zWV):Option (Int × Int × Option zWV):=optK x_w (some (0,0,none)) fun r1=>(zZ r1.zWP.zXq r1.zWP.zXh).bind fun r2=>(zZ r1.zWO.zXq r1.zWO.zXh).bind fun r3=>some ((r2.length:Int),(r3.length:Int),some r1)
def zgO (v1:zXA) (i4:Int) (t5:Bool):Option Int:=if t5 then if (decide ((0:Int)≤v1.N)) then if (decide (v1.N≤1048576)) then some 0 else some 1 else some 1 else if (i4==2) then if (v1.N==0) then some 0 else some 1 else if (i4==4) then if (v1.N==0) then some 0 else some 1 else some 1
def zae (x_e:zXA):Option Int:=if (x_e.Kind==1) then zgO x_e x_e.Kind true else zgO x_e x_e.Kind (x_e.Kind==3)
def zhc:Option Bool:=some true
def zfq (x_a:zW4):Option Bool:=some (!x_a.zYh)
def zhd (x_s:zWX):Option Bool:=optK x_s.zXW (optK x_s.Accum (zhc.bind fun r3=>some r3) fun r2=>(zfq r2).bind fun r4=>some r4) fun r1=>some false
def zgl:Option Bool:=some false
def zig (x_r:zXB):Option Int:=(za3 x_r.zXa (x_r.zXJ.length:Int)).bind fun r1=>some r1
def zeT (x_q:zXg):Option Bool:=(zig x_q.zX0).bind fun r1=>some (r1==0)
def zan (x_g:zWN):Option Bool:=if (!x_g.zWZ) then if (!x_g.zXr) then (zhd x_g.zWP).bind fun r1=>if (!r1) then some true else optK x_g.Queue (zgl.bind fun r3=>some (!r3)) fun r2=>(zeT r2).bind fun r4=>some (!r4) else some false else some false
def zfQ (x_a1:Str):Option (Int × Bool × Int):=some (0,false,5)
def zqo (x_e:Int):Option Int:=if (x_e==0) then some 0 else if (x_e==3) then some 431 else some 400
def zd5:Option (zWT × Bool):=some ((⟨0,[],[],0,[],0,[]⟩:zWT),false)
def zgP (l:List zWQ):Option (List zWQ):=if ze 0 l.length 32 then some l else none
def zfr (x_l:List zWQ):Option zXi:=(zgP x_l).bind fun r1=>some (⟨r1⟩:zXi)
def zbI (x_b:zXi):Option (List zWQ):=(zgP x_b.zXJ).bind fun r1=>some r1
def zbu (x_a:Str) (x_b:Str):Option Bool:=(za6 x_a).bind fun r1=>(za6 x_b).bind fun r2=>some (r1==r2)
def zdf (s1:Str) (l9:List zWQ) (i10:Int):Nat→List Str→Int→Option (List Str)
 | 0,_,_=>none
 | n+1,l5,i11=>if (decide (i11<i10)) then (lAt l9 i11).bind fun r1=>(zbu r1.Name s1).bind fun r2=>if r2 then if ze l5.length ([r1.Value]:List Str).length 16 then (zd i11 1).bind fun r3=>zdf s1 l9 i10 n (l5++[r1.Value]) r3 else none else (zd i11 1).bind fun r4=>zdf s1 l9 i10 n l5 r4 else some l5
def zb4 (x_b:zXi) (x_name:Str):Option (List Str):=(zbI x_b).bind fun r1=>zdf x_name r1 (r1.length:Int) fuel [] 0
def zfs (x_c:zWW) (x_at:Int):Option (Bool × zWW):=if (decide (x_at<0)) then some (false,x_c) else (zcq x_c).bind fun r1=>if (decide (r1<x_at)) then some (false,x_c) else some (true,(⟨x_c.zXI,x_at⟩:zWW))
def zcZ (vp0:zW6):Option zW6:=(zcq vp0.Scanner).bind fun r1=>some ({vp0 with zXO:=r1}:zW6)
def zcF (x_p:zW6) (x_at:Int):Option zW6:=(zk5 x_p.zXI x_p.zXO x_at).bind fun r1=>(zbJ r1 [32,9]).bind fun r2=>if (!(r2==[])) then if ze x_p.zW8.length ([r2]:List Str).length 16 then zcZ ({x_p with zW8:=x_p.zW8++[r2]}:zW6) else none else zcZ x_p
def zD:Nat→zW6→Int→Option (Bool × zW6)
 | 0,_,_=>none
 | n+1,vp0,i3=>if (decide ((0:Int)<i3)) then (zat vp0.Scanner).bind fun r1=>if (!r1.2) then some (false,vp0) else (zf vp0.Scanner r1.1).bind fun r2=>if (r1.1==40) then (zd i3 1).bind fun r3=>zD n ({vp0 with Scanner:=r2.2}:zW6) r3 else if (r1.1==41) then (za3 i3 1).bind fun r4=>zD n ({vp0 with Scanner:=r2.2}:zW6) r4 else if (r1.1==92) then (zat r2.2).bind fun r5=>if r5.2 then (zf r2.2 r5.1).bind fun r6=>zD n ({vp0 with Scanner:=r6.2}:zW6) i3 else zD n ({vp0 with Scanner:=r2.2}:zW6) i3 else zD n ({vp0 with Scanner:=r2.2}:zW6) i3 else some (true,vp0)
def zcu (x_p:zW6):Option (Bool × zW6):=zD fuel x_p 1
def zih (k0:zXE→Bool→Option (Str × Bool × zWW)) (i4:Int) (v5:zXE) (t6:Bool) (t25:Bool):Option (Str × Bool × zWW):=if t25 then (zf v5.Scanner 92).bind fun r1=>(zat r1.2).bind fun r2=>if (!r2.2) then k0 (⟨r1.2,v5.zW8⟩:zXE) false else (zaS r2.1).bind fun r3=>if (!r3) then k0 (⟨r1.2,v5.zW8⟩:zXE) false else if ze v5.zW8.length ([r2.1]:List UInt8).length 1 then (zf r1.2 r2.1).bind fun r4=>k0 (⟨r4.2,v5.zW8++[r2.1]⟩:zXE) r4.1 else none else if (!t6) then (zfs v5.Scanner i4).bind fun r5=>some ([],false,r5.2) else some (v5.zW8,true,v5.Scanner)
def zcL (i4:Int):Nat→zXE→Bool→Option (Str × Bool × zWW)
 | 0,_,_=>none
 | n+1,v5,t6=>if t6 then (zf v5.Scanner 34).bind fun r1=>zih (zcL i4 n) i4 (⟨r1.2,v5.zW8⟩:zXE) t6 (!r1.1) else zih (zcL i4 n) i4 v5 t6 false
def ziP (x_c:zWW):Option (Str × Bool × zWW):=(zcq x_c).bind fun r1=>(zf x_c 34).bind fun r2=>zcL r1 fuel (⟨r2.2,[]⟩:zXE) r2.1
def zdI (x_p:zW6):Option (Bool × zW6):=(zcq x_p.Scanner).bind fun r1=>(zf x_p.Scanner 44).bind fun r2=>if r2.1 then (zcF ({x_p with Scanner:=r2.2}:zW6) r1).bind fun r3=>some (true,r3) else (zf r2.2 40).bind fun r4=>if r4.1 then (zcu ({x_p with Scanner:=r4.2}:zW6)).bind fun r5=>some (r5.1,r5.2) else (zat r4.2).bind fun r6=>if (r6.1==34) then (ziP r4.2).bind fun r7=>some (r7.2.1,({x_p with Scanner:=r7.2.2}:zW6)) else (zf r4.2 r6.1).bind fun r8=>some (true,({x_p with Scanner:=r8.2}:zW6))
def zgQ (s0:Str):Nat→zW6→Option (List Str × Int)
 | 0,_=>none
 | n+1,v4=>(zao v4.Scanner).bind fun r1=>if (!r1) then (zdI v4).bind fun r2=>if (!r2.1) then some ([],2) else zgQ s0 n r2.2 else (zcF v4 (s0.length:Int)).bind fun r3=>some (r3.zW8,0)
def zkc (x_s:Str):Option (List Str × Int):=(zgG x_s).bind fun r1=>zgQ x_s fuel (⟨r1,[],0,x_s⟩:zW6)
def zfR (k0:List Str→Int→Option (List Str × Int)) (l4:List Str) (l7:List Str) (i13:Int) (i26:Int):Nat→Int→Option (List Str × Int)
 | 0,_=>none
 | n+1,i27=>if (decide (i27<i26)) then (lAt l7 i27).bind fun r1=>(zdY r1).bind fun r2=>if (!r2) then some ([],2) else (zd i27 1).bind fun r3=>zfR k0 l4 l7 i13 i26 n r3 else if ze l4.length l7.length 16 then (zd i13 1).bind fun r4=>k0 (l4++l7) r4 else none
def zd6 (l11:List Str) (i12:Int):Nat→List Str→Int→Option (List Str × Int)
 | 0,_,_=>none
 | n+1,l4,i13=>if (decide (i13<i12)) then (lAt l11 i13).bind fun r1=>(zkc r1).bind fun r2=>if (!(r2.2==0)) then some ([],r2.2) else zfR (zd6 l11 i12 n) l4 r2.1 i13 (r2.1.length:Int) fuel 0 else some (l4,0)
def zg5 (x_l:List Str):Option (List Str × Int):=zd6 x_l (x_l.length:Int) fuel [] 0
def zeU (x_r:zXK) (x_l:List Str):Option (zWY × Int × zXi):=(zg5 x_l).bind fun r1=>if (!(r1.2==0)) then some ((⟨0,0⟩:zWY),30,x_r.Bag) else if (x_r.zYm==0) then some ((⟨0,0⟩:zWY),30,x_r.Bag) else if (!((r1.1.length:Int)==1)) then some ((⟨0,0⟩:zWY),30,x_r.Bag) else (lAt r1.1 0).bind fun r2=>(zbu r2 [99,104,117,110,107,101,100]).bind fun r3=>if (!r3) then some ((⟨0,0⟩:zWY),30,x_r.Bag) else some ((⟨3,0⟩:zWY),0,x_r.Bag)
def zbB (k1:Int→Int→Option (zWY × Int × zXi)) (vp32:zXi) (i13:Int) (i31:Int) (t50:Bool):Option (zWY × Int × zXi):=if t50 then some ((⟨0,0⟩:zWY),28,vp32) else (zd i31 1).bind fun r1=>k1 i13 r1
def zW (k0:Int→Int→Option (zWY × Int × zXi)) (vp32:zXi) (i17:Int) (l29:List Str) (i30:Int):Nat→Int→Int→Option (zWY × Int × zXi)
 | 0,_,_=>none
 | n+1,i6,i31=>if (decide (i31<i30)) then (lAt l29 i31).bind fun r1=>(zdr r1 1099511627776).bind fun r2=>if (!(r2.2==0)) then zbB (zW k0 vp32 i17 l29 i30 n) vp32 r2.1 i31 true else if (decide ((0:Int)≤i6)) then zbB (zW k0 vp32 i17 l29 i30 n) vp32 r2.1 i31 (!(r2.1==i6)) else zbB (zW k0 vp32 i17 l29 i30 n) vp32 r2.1 i31 false else (zd i17 1).bind fun r3=>k0 i6 r3
def zah (vp32:zXi) (l15:List Str) (i16:Int):Nat→Int→Int→Option (zWY × Int × zXi)
 | 0,_,_=>none
 | n+1,i6,i17=>if (decide (i17<i16)) then (lAt l15 i17).bind fun r1=>(zkc r1).bind fun r2=>if (!(r2.2==0)) then some ((⟨0,0⟩:zWY),28,vp32) else zW (zah vp32 l15 i16 n) vp32 i17 r2.1 (r2.1.length:Int) fuel i6 0 else if (decide (i6<0)) then some ((⟨0,0⟩:zWY),28,vp32) else some ((⟨2,i6⟩:zWY),0,vp32)
def zew (x_r:zXK) (x_l:List Str):Option (zWY × Int × zXi):=zah x_r.Bag x_l (x_l.length:Int) fuel (-1) 0
def zmW (i1:Int) (v6:zXK) (l7:List Str) (l8:List Str) (t21:Bool):Option (zWY × Int):=if t21 then some ((⟨0,0⟩:zWY),29) else if (decide ((0:Int)<(l7.length:Int))) then (zeU v6 l7).bind fun r1=>some (r1.1,r1.2.1) else if (decide ((0:Int)<(l8.length:Int))) then (zew v6 l8).bind fun r2=>some (r2.1,r2.2.1) else some ((⟨i1,0⟩:zWY),0)
def zpj (x_h:zWT) (x_none:Int):Option (zWY × Int):=(zfr x_h.Fields).bind fun r1=>(zb4 r1 [84,114,97,110,115,102,101,114,45,69,110,99,111,100,105,110,103]).bind fun r2=>(zb4 r1 [67,111,110,116,101,110,116,45,76,101,110,103,116,104]).bind fun r3=>if (decide ((0:Int)<(r2.length:Int))) then zmW x_none (⟨r1,x_h.Minor⟩:zXK) r2 r3 (decide ((0:Int)<(r3.length:Int))) else zmW x_none (⟨r1,x_h.Minor⟩:zXK) r2 r3 false
def zhN (x_h:zWT):Option (zWY × Int):=(zpj x_h 1).bind fun r1=>some (r1.1,r1.2)
def zii (k1:List Str→Int→Option (List Str)) (l3:List Str) (s9:Str) (i26:Int) (t39:Bool):Option (List Str):=if t39 then if ze l3.length ([s9]:List Str).length 16 then (zd i26 1).bind fun r1=>k1 (l3++[s9]) r1 else none else (zd i26 1).bind fun r2=>k1 l3 r2
def zcM (k0:List Str→Int→Option (List Str)) (i14:Int) (l24:List Str) (i25:Int):Nat→List Str→Int→Option (List Str)
 | 0,_,_=>none
 | n+1,l3,i26=>if (decide (i26<i25)) then (lAt l24 i26).bind fun r1=>(za6 r1).bind fun r2=>if (!(r2==[104,111,115,116])) then (zw l3 r2).bind fun r3=>zii (zcM k0 i14 l24 i25 n) l3 r2 i26 (!r3) else zii (zcM k0 i14 l24 i25 n) l3 r2 i26 false else (zd i14 1).bind fun r4=>k0 l3 r4
def zcN (l12:List Str) (i13:Int):Nat→List Str→Int→Option (List Str)
 | 0,_,_=>none
 | n+1,l3,i14=>if (decide (i14<i13)) then (lAt l12 i14).bind fun r1=>(zg5 [r1]).bind fun r2=>zcM (zcN l12 i13 n) i14 r2.1 (r2.1.length:Int) fuel l3 0 else some l3
def zlt (x_l:List zWQ):Option (List Str):=(zfr x_l).bind fun r1=>(zb4 r1 [67,111,110,110,101,99,116,105,111,110]).bind fun r2=>zcN r2 (r2.length:Int) fuel [] 0
def znf (x_s:Str) (x_a1:Str):Option Bool:=(zbu x_s x_a1).bind fun r1=>some r1
def zC (l0:List Str) (u1:Str) (i7:Int):Nat→Int→Option Int
 | 0,_=>none
 | n+1,i8=>if (decide (i8<i7)) then (lAt l0 i8).bind fun r1=>(znf r1 u1).bind fun r2=>if r2 then some i8 else (zd i8 1).bind fun r3=>zC l0 u1 i7 n r3 else some (-1)
def zaf (x_s:List Str) (x_f:Str):Option Int:=zC x_s x_f (x_s.length:Int) fuel 0
def zX (x_s:List Str) (x_f:Str):Option Bool:=(zaf x_s x_f).bind fun r1=>some (decide ((0:Int)≤r1))
def zvv (x_name:Str) (x_names:List Str):Option Bool:=(zX x_names x_name).bind fun r1=>some r1
def zcO (x_f:zWQ) (x_a1:List Str):Option Bool:=(zvv x_f.Name x_a1).bind fun r1=>some r1
def zn (l0:List zWQ) (u1:List Str) (i7:Int):Nat→Int→Option Int
 | 0,_=>none
 | n+1,i8=>if (decide (i8<i7)) then (lAt l0 i8).bind fun r1=>(zcO r1 u1).bind fun r2=>if r2 then some i8 else (zd i8 1).bind fun r3=>zn l0 u1 i7 n r3 else some (-1)
def zQ (x_s:List zWQ) (x_f:List Str):Option Int:=zn x_s x_f (x_s.length:Int) fuel 0
def zk (u1:List Str):Nat→List zWQ→Int→Int→Option (List zWQ)
 | 0,_,_,_=>none
 | n+1,l0,i5,i6=>if (decide (i6<(l0.length:Int))) then (lAt l0 i6).bind fun r1=>(zcO r1 u1).bind fun r2=>if (!r2) then (lAt l0 i5).bind fun r3=>(zw3 l0 i5 r1).bind fun r4=>(zd i5 1).bind fun r5=>(zd i6 1).bind fun r6=>zk u1 n r4 r5 r6 else (zd i6 1).bind fun r7=>zk u1 n l0 i5 r7 else (zpo l0 i5).bind fun r8=>(lTo (l0.take i5.toNat++(List.replicate r8.length (⟨[],[]⟩:zWQ)++l0.drop (i5.toNat+r8.length))) i5).bind fun r9=>some r9
def zB (x_s:List zWQ) (x_del:List Str):Option (List zWQ):=(zQ x_s x_del).bind fun r1=>if (r1==(-1)) then some x_s else (zd r1 1).bind fun r2=>zk x_del fuel x_s r1 r2
def zcP (x_b:zXi) (x_names:List Str):Option (Int × zXi):=(zB x_b.zXJ x_names).bind fun r1=>(za3 (x_b.zXJ.length:Int) (r1.length:Int)).bind fun r2=>some (r2,(⟨r1⟩:zXi))
def ztp (x_l:List zWQ):Option (List zWQ):=(zfr x_l).bind fun r1=>(zlt x_l).bind fun r2=>zti.bind fun r3=>if ze r2.length r3.length 16 then (zcP r1 (r2++r3)).bind fun r4=>(zbI r4.2).bind fun r5=>some r5 else none
def zl4 (k0:Int→Option Bool) (i5:Int) (t25:Bool):Option Bool:=if t25 then (zd i5 2).bind fun r1=>(zd r1 1).bind fun r2=>k0 r2 else some false
def zd1 (s0:Str) (s1:Str):Nat→Int→Option Bool
 | 0,_=>none
 | n+1,i5=>if (decide (i5<(s0.length:Int))) then (sAt s0 i5).bind fun r1=>(zh9 r1).bind fun r2=>if r2 then (zd i5 1).bind fun r3=>zd1 s0 s1 n r3 else (sAt s0 i5).bind fun r4=>(strings_IndexByte s1 r4).bind fun r5=>if (decide ((0:Int)≤r5)) then (zd i5 1).bind fun r6=>zd1 s0 s1 n r6 else (sAt s0 i5).bind fun r7=>if (r7==37) then (zd i5 2).bind fun r8=>if (decide (r8<(s0.length:Int))) then (zd i5 1).bind fun r9=>(zd i5 3).bind fun r10=>(zk5 s0 r9 r10).bind fun r11=>(zbU zdX [r11]).bind fun r12=>zl4 (zd1 s0 s1 n) i5 r12 else zl4 (zd1 s0 s1 n) i5 false else zl4 (zd1 s0 s1 n) i5 false else some true
def zr3 (x_s:Str) (x_more:Str):Option Bool:=zd1 x_s x_more fuel 0
def zqp (x_s:Str):Option Bool:=(strings_HasPrefix x_s [47]).bind fun r1=>if r1 then (zr3 x_s [47]).bind fun r2=>some r2 else some false
def zof (x_s:Str):Option Bool:=(zr3 x_s [47,63]).bind fun r1=>some r1
def zpk (x_s:Str):Option (Str × Str × Bool × Int):=(strings_Cut x_s [63]).bind fun r1=>(zqp r1.1).bind fun r2=>if (!r2) then some ([],[],false,2) else (zof r1.2.1).bind fun r3=>if (!r3) then some ([],[],false,2) else some (r1.1,r1.2.1,r1.2.2,0)
def zkd (v2:zXm) (i6:Int):Option (zXm × Bool):=some (v2,i6==0)
def zke (s1:Str) (v2:zXm) (t7:Bool):Option (zXm × Bool):=(zpk s1).bind fun r1=>if t7 then zkd (⟨v2.Kind,v2.Scheme,v2.Host,[],r1.2.1,r1.2.2.1⟩:zXm) r1.2.2.2 else zkd (⟨v2.Kind,v2.Scheme,v2.Host,r1.1,r1.2.1,r1.2.2.1⟩:zXm) r1.2.2.2
def zl5 (x_t:zXm) (x_s:Str):Option (zXm × Bool):=if (x_s==[]) then some (x_t,true) else (sAt x_s 0).bind fun r1=>if (r1==63) then (zb1 [47] x_s).bind fun r2=>zke r2 x_t (r1==63) else zke x_s x_t (r1==63)
def zgm (s5:Str) (v7:zXm) (i8:Int):Option (zXm × Bool):=(sTo s5 i8).bind fun r1=>(zb3 r1).bind fun r2=>if (!(r2.2==0)) then some (v7,false) else (zZ s5 i8).bind fun r3=>(zl5 ({v7 with Host:=r2.1}:zXm) r3).bind fun r4=>some (r4.1,r4.2)
def zem (s5:Str) (v7:zXm) (t31:Bool):Option (zXm × Bool):=if t31 then some (v7,false) else (strings_IndexAny s5 [47,63]).bind fun r1=>if (decide (r1<0)) then zgm s5 v7 (s5.length:Int) else zgm s5 v7 r1
def zi8 (x_s:Str):Option (zXm × Bool):=(strings_Cut x_s [58,47,47]).bind fun r1=>(za6 r1.1).bind fun r2=>if (!r1.2.2) then zem r1.2.1 (⟨2,r2,(⟨0,[],0⟩:zXk),[],[],false⟩:zXm) true else if (!(r2==[104,116,116,112])) then zem r1.2.1 (⟨2,r2,(⟨0,[],0⟩:zXk),[],[],false⟩:zXm) (!(r2==[104,116,116,112,115])) else zem r1.2.1 (⟨2,r2,(⟨0,[],0⟩:zXk),[],[],false⟩:zXm) false
def ztq (x_method:Str) (x_s:Str):Option (zXm × Bool):=if (x_s==[42]) then some ((⟨4,[],(⟨0,[],0⟩:zXk),[],[],false⟩:zXm),x_method==[79,80,84,73,79,78,83]) else (strings_HasPrefix x_s [47]).bind fun r1=>if (!r1) then (zi8 x_s).bind fun r2=>some (r2.1,r2.2) else (zl5 (⟨1,[],(⟨0,[],0⟩:zXk),[],[],false⟩:zXm) x_s).bind fun r3=>some (r3.1,r3.2)
def zi9 (v6:zXk) (t23:Bool):Option (zXm × Int):=if t23 then some ((⟨0,[],(⟨0,[],0⟩:zXk),[],[],false⟩:zXm),20) else some ((⟨3,[],v6,[],[],false⟩:zXm),0)
def zkf (x_method:Str) (x_s:Str):Option (zXm × Int):=if (x_method==[67,79,78,78,69,67,84]) then (zb3 x_s).bind fun r1=>if (!(r1.2==0)) then zi9 r1.1 true else zi9 r1.1 (decide (r1.1.Port<0)) else (ztq x_method x_s).bind fun r2=>if (!r2.2) then some ((⟨0,[],(⟨0,[],0⟩:zXk),[],[],false⟩:zXm),20) else some (r2.1,0)
def zqq (x_path:Str) (x_query:Str) (x_has:Bool):Option Str:=if (!x_has) then some x_path else (zb1 x_path [63]).bind fun r1=>(zb1 r1 x_query).bind fun r2=>some r2
def zij (v1:zXm) (s3:Str):Option Str:=(zqq s3 v1.Query v1.HasQuery).bind fun r1=>some r1
def zlu (x_t:zXm):Option Str:=if (x_t.Kind==4) then some [42] else if (x_t.Kind==3) then some [] else if (x_t.Path==[]) then zij x_t [47] else zij x_t x_t.Path
def zik (v1:zXk) (l4:List Str):Option (Str × Int):=(zbt [] l4).bind fun r1=>(zb3 r1).bind fun r2=>if (!(r2.2==0)) then some ([],27) else if (!(r2.1==v1)) then some ([],27) else some (r1,0)
def zil (v1:zXk) (l4:List Str):Option (Str × Int):=if (!(v1.Port==(-1))) then (zcY v1.Port).bind fun r1=>if ze l4.length ([[58],r1]:List Str).length 16 then zik v1 (l4++([[58],r1])) else none else zik v1 l4
def zlv (x_h:zXk):Option (Str × Int):=if (x_h.Kind==3) then zil x_h ([[91],x_h.Name,[93]]) else zil x_h [x_h.Name]
def zg6 (x_x:zWQ) (x_a1:Str):Option Bool:=(zbu x_x.Name x_a1).bind fun r1=>some r1
def zm (l0:List zWQ) (u1:Str) (i7:Int):Nat→Int→Option Int
 | 0,_=>none
 | n+1,i8=>if (decide (i8<i7)) then (lAt l0 i8).bind fun r1=>(zg6 r1 u1).bind fun r2=>if r2 then some i8 else (zd i8 1).bind fun r3=>zm l0 u1 i7 n r3 else some (-1)
def zM (x_s:List zWQ) (x_f:Str):Option Int:=zm x_s x_f (x_s.length:Int) fuel 0
def zjK (x_b:zXi) (x_name:Str):Option (Str × Bool):=(zb4 x_b x_name).bind fun r1=>if ((r1.length:Int)==0) then some ([],false) else (lAt r1 0).bind fun r2=>some (r2,true)
def zfe (x_b:zXi) (x_l:List zWQ):Option zXi:=if ze x_b.zXJ.length x_l.length 32 then some (⟨x_b.zXJ++x_l⟩:zXi) else none
def ziQ (x_b:zXi) (x_name:Str) (x_value:Str):Option zXi:=(zM x_b.zXJ x_name).bind fun r1=>if (decide (r1<0)) then (zfe x_b [(⟨x_name,x_value⟩:zWQ)]).bind fun r2=>some r2 else (zcP x_b [x_name]).bind fun r3=>(zch r3.2.zXJ r1 [(⟨x_name,x_value⟩:zWQ)]).bind fun r4=>some (⟨r4⟩:zXi)
def zdJ (vp0:zXy) (v4:zW2):Option zXy:=(zjK vp0.Bag [72,111,115,116]).bind fun r1=>if (!r1.2) then (zfe vp0.Bag ([(⟨[72,111,115,116],v4.Host⟩:zWQ)])).bind fun r2=>some (⟨r2,vp0.zYi⟩:zXy) else some vp0
def zft (x_w:zXy) (x_env:zW2) (x_t:zXm):Option zXy:=if (x_t.Kind==2) then (zlv x_t.Host).bind fun r1=>(ziQ x_w.Bag [72,111,115,116] r1.1).bind fun r2=>zdJ (⟨r2,x_w.zYi⟩:zXy) x_env else zdJ x_w x_env
def zcl (x_w:zXy):Option (zWT × Int):=(zbI x_w.Bag).bind fun r1=>some ((⟨x_w.zYi.Kind,x_w.zYi.Method,x_w.zYi.Target,x_w.zYi.Code,x_w.zYi.Reason,x_w.zYi.Minor,r1⟩:zWT),0)
def strings_HasSuffix (x_s:Str) (x_suffix:Str):Option Bool:=(stringslite_HasSuffix x_s x_suffix).bind fun r1=>some r1
def zen (s0:Str) (l10:List zW3) (i11:Int):Nat→Int→Option (Str × Bool)
 | 0,_=>none
 | n+1,i12=>if (decide (i12<i11)) then (lAt l10 i12).bind fun r1=>(strings_CutPrefix s0 r1.From).bind fun r2=>if (!r2.2) then (zd i12 1).bind fun r3=>zen s0 l10 i11 n r3 else if (r1.From==[]) then (zd i12 1).bind fun r4=>zen s0 l10 i11 n r4 else if (r2.1==[]) then (zb1 r1.To r2.1).bind fun r5=>some (r5,true) else (strings_HasSuffix r1.From [47]).bind fun r6=>if r6 then (zb1 r1.To r2.1).bind fun r7=>some (r7,true) else (sAt r2.1 0).bind fun r8=>(strings_IndexByte [47,63,35] r8).bind fun r9=>if (decide ((0:Int)≤r9)) then (zb1 r1.To r2.1).bind fun r10=>some (r10,true) else (zd i12 1).bind fun r11=>zen s0 l10 i11 n r11 else some (s0,false)
def zog (x_s:Str) (x_l:List zW3):Option (Str × Bool):=zen x_s x_l (x_l.length:Int) fuel 0
def zim (x_s:Str) (x_l:List zW3):Option Str:=(zog x_s x_l).bind fun r1=>if (!r1.2) then some x_s else (zhr x_s).bind fun r2=>if (!r2) then some x_s else (zhr r1.1).bind fun r3=>if (!r3) then some x_s else some r1.1
def zg7 (x_a0:UInt8):Option Bool:=some true
def zkg (v4:zWW) (t6:Bool) (v7:zXp):Option (zXp × Bool):=if t6 then (zao v4).bind fun r1=>if r1 then (zbU zaS [v7.Value]).bind fun r2=>if r2 then (zbJ v7.Value [32,9]).bind fun r3=>some (v7,r3==v7.Value) else some (v7,false) else some (v7,false) else some (v7,false)
def zl6 (x_s:Str):Option (zXp × Bool):=(zbJ x_s [32,9]).bind fun r1=>(zgG r1).bind fun r2=>(zP r2).bind fun r3=>(zf r3.2.2 61).bind fun r4=>if r4.1 then (zK r4.2 zg7).bind fun r5=>zkg r5.2 r3.2.1 (⟨r3.1,r5.1,r4.1⟩:zXp) else zkg r4.2 r3.2.1 (⟨r3.1,[],r4.1⟩:zXp)
def zin (x_b:UInt8):Option Bool:=(zds x_b).bind fun r1=>if r1 then (strings_IndexByte [34,44,59,92] x_b).bind fun r2=>some (decide (r2<0)) else some false
def zmX (x_s:Str):Option Bool:=(strings_CutPrefix x_s [34]).bind fun r1=>(strings_CutSuffix r1.1 [34]).bind fun r2=>if (r1.2==r2.2) then (zbU zin [r2.1]).bind fun r3=>some r3 else some false
def zgR (l41:List Str) (i42:Int):Nat→zW7→Int→Option (zW7 × Int)
 | 0,_,_=>none
 | n+1,v7,i43=>if (decide (i43<i42)) then (lAt l41 i43).bind fun r1=>(zl6 r1).bind fun r2=>if (!r2.2) then some ((⟨[],[],[]⟩:zW7),2) else if ze v7.Attrs.length ([r2.1]:List zXp).length 40 then (zd i43 1).bind fun r3=>zgR l41 i42 n ({v7 with Attrs:=v7.Attrs++[r2.1]}:zW7) r3 else none else some (v7,0)
def zkh (x_s:Str):Option (zW7 × Int):=(strings_Split x_s [59]).bind fun r1=>(lAt r1 0).bind fun r2=>(zl6 r2).bind fun r3=>if (!r3.2) then some ((⟨[],[],[]⟩:zW7),2) else if (!r3.1.Has) then some ((⟨[],[],[]⟩:zW7),2) else (zmX r3.1.Value).bind fun r4=>if (!r4) then some ((⟨[],[],[]⟩:zW7),2) else (zpo r1 1).bind fun r5=>zgR r5 (r5.length:Int) fuel (⟨r3.1.Name,r3.1.Value,[]⟩:zW7) 0
def zhO (s1:Str) (v2:zW7):Nat→Int→Option Int
 | 0,_=>none
 | n+1,i5=>if (decide ((0:Int)≤i5)) then (lAt v2.Attrs i5).bind fun r1=>(zbu r1.Name s1).bind fun r2=>if r2 then some i5 else (za3 i5 1).bind fun r3=>zhO s1 v2 n r3 else some (-1)
def zl7 (x_c:zW7) (x_name:Str):Option Int:=(za3 (x_c.Attrs.length:Int) 1).bind fun r1=>zhO x_name x_c fuel r1
def zqr (x_c:zW7) (x_name:Str):Option (Str × Bool):=(zl7 x_c x_name).bind fun r1=>if (decide (r1<0)) then some ([],false) else (lAt x_c.Attrs r1).bind fun r2=>some (r2.Value,true)
def stringslite_TrimPrefix (x_s:Str) (x_prefix:Str):Option Str:=(stringslite_HasPrefix x_s x_prefix).bind fun r1=>if r1 then (zZ x_s (x_prefix.length:Int)).bind fun r2=>some r2 else some x_s
def strings_TrimPrefix (x_s:Str) (x_prefix:Str):Option Str:=(stringslite_TrimPrefix x_s x_prefix).bind fun r1=>some r1
def zki (x_name:Str) (x_domain:Str):Option Bool:=(ze8 x_name).bind fun r1=>if (!r1) then some false else (ze8 x_domain).bind fun r2=>if (!r2) then some false else (zbn x_name).bind fun r3=>if r3 then some false else (zbn x_domain).bind fun r4=>if r4 then some false else (za6 x_name).bind fun r5=>(za6 x_domain).bind fun r6=>if (r5==r6) then some true else (zb1 [46] r6).bind fun r7=>(strings_HasSuffix r5 r7).bind fun r8=>some r8
def zhP (s0:Str) (s6:Str) (l11:List zW3) (i12:Int):Nat→Int→Option (Str × Bool)
 | 0,_=>none
 | n+1,i13=>if (decide (i13<i12)) then (lAt l11 i13).bind fun r1=>(zki s6 r1.From).bind fun r2=>if r2 then (za3 (s6.length:Int) (r1.From.length:Int)).bind fun r3=>(sTo s6 r3).bind fun r4=>(zb1 r4 r1.To).bind fun r5=>some (r5,true) else (zd i13 1).bind fun r6=>zhP s0 s6 l11 i12 n r6 else some (s0,false)
def zoh (x_name:Str) (x_l:List zW3):Option (Str × Bool):=(strings_TrimPrefix x_name [46]).bind fun r1=>zhP x_name r1 x_l (x_l.length:Int) fuel 0
def zlw (k0:zW7→Int→Option zW7) (v8:zW7) (i22:Int):Option zW7:=(zd i22 1).bind fun r1=>k0 v8 r1
def zlx (k0:zW7→Int→Option zW7) (v8:zW7) (v10:zXp) (i22:Int):Option zW7:=if ze v8.Attrs.length ([v10]:List zXp).length 40 then zlw k0 ({v8 with Attrs:=v8.Attrs++[v10]}:zW7) i22 else none
def zly (v8:zW7):Option zW7:=some v8
def zc0 (s1:Str) (s2:Str) (i7:Int) (l20:List zXp) (i21:Int):Nat→zW7→Int→Option zW7
 | 0,_,_=>none
 | n+1,v8,i22=>if (decide (i22<i21)) then (lAt l20 i22).bind fun r1=>if (i22==i7) then zlx (zc0 s1 s2 i7 l20 i21 n) v8 (⟨r1.Name,s2,true⟩:zXp) i22 else (zbu r1.Name s1).bind fun r2=>if r2 then zlw (zc0 s1 s2 i7 l20 i21 n) v8 i22 else zlx (zc0 s1 s2 i7 l20 i21 n) v8 r1 i22 else if (decide (i7<0)) then if ze v8.Attrs.length ([(⟨s1,s2,true⟩:zXp)]:List zXp).length 40 then zly ({v8 with Attrs:=v8.Attrs++[(⟨s1,s2,true⟩:zXp)]}:zW7) else none else zly v8
def zqs (x_c:zW7) (x_name:Str) (x_value:Str):Option zW7:=(zl7 x_c x_name).bind fun r1=>zc0 x_name x_value r1 x_c.Attrs (x_c.Attrs.length:Int) fuel ({x_c with Attrs:=[]}:zW7) 0
def zY (l0:List zXp) (l1:List zXp) (i12:Int):Nat→Int→Option Bool
 | 0,_=>none
 | n+1,i13=>if (decide (i13<i12)) then (lAt l0 i13).bind fun r1=>(lAt l1 i13).bind fun r2=>if (!(r1==r2)) then some false else (zd i13 1).bind fun r3=>zY l0 l1 i12 n r3 else some true
def zaZ (x_s1:List zXp) (x_s2:List zXp):Option Bool:=if (!((x_s1.length:Int)==(x_s2.length:Int))) then some false else zY x_s1 x_s2 (x_s1.length:Int) fuel 0
def zoi (x_a:zW7) (x_b:zW7):Option Bool:=if (x_a.Name==x_b.Name) then if (x_a.Value==x_b.Value) then (zaZ x_a.Attrs x_b.Attrs).bind fun r1=>some r1 else some false else some false
def zfS (v1:zW7) (l18:List zXp) (i19:Int):Nat→List Str→Int→Option (Str × Int)
 | 0,_,_=>none
 | n+1,l4,i20=>if (decide (i20<i19)) then (lAt l18 i20).bind fun r1=>if r1.Has then (zb1 r1.Name [61]).bind fun r2=>(zb1 r2 r1.Value).bind fun r3=>if ze l4.length ([r3]:List Str).length 16 then (zd i20 1).bind fun r4=>zfS v1 l18 i19 n (l4++[r3]) r4 else none else if ze l4.length ([r1.Name]:List Str).length 16 then (zd i20 1).bind fun r5=>zfS v1 l18 i19 n (l4++[r1.Name]) r5 else none else (zbt [59,32] l4).bind fun r6=>(zkh r6).bind fun r7=>if (!(r7.2==0)) then some ([],2) else (zoi r7.1 v1).bind fun r8=>if (!r8) then some ([],2) else some (r6,0)
def zoj (x_c:zW7):Option (Str × Int):=(zb1 x_c.Name [61]).bind fun r1=>(zb1 r1 x_c.Value).bind fun r2=>zfS x_c x_c.Attrs (x_c.Attrs.length:Int) fuel [r2] 0
def zja (x_s:Str) (x_l:List zW3):Option Str:=(zkh x_s).bind fun r1=>if (!(r1.2==0)) then some x_s else (zqr r1.1 [68,111,109,97,105,110]).bind fun r2=>(zoh r2.1 x_l).bind fun r3=>if (!r3.2) then some x_s else (zqs r1.1 [68,111,109,97,105,110] r3.1).bind fun r4=>(zoj r4).bind fun r5=>if (!(r5.2==0)) then some x_s else some r5.1
def zgn (k0:zW2→List zWQ→Int→Option (List zWQ)) (v2:zW2) (l5:List zWQ) (i6:Int) (v7:zWQ) (i13:Int) (s20:Str) (t21:Bool):Option (List zWQ):=if t21 then (zim v7.Value v2.Locations).bind fun r1=>(lAt l5 i6).bind fun r2=>(zw3 l5 i6 (⟨r2.Name,r1⟩:zWQ)).bind fun r3=>(zd i13 1).bind fun r4=>k0 v2 r3 r4 else if (s20==[115,101,116,45,99,111,111,107,105,101]) then (zja v7.Value v2.Domains).bind fun r5=>(lAt l5 i6).bind fun r6=>(zw3 l5 i6 (⟨r6.Name,r5⟩:zWQ)).bind fun r7=>(zd i13 1).bind fun r8=>k0 v2 r7 r8 else (zd i13 1).bind fun r9=>k0 v2 l5 r9
def zbM (i12:Int):Nat→zW2→List zWQ→Int→Option (List zWQ)
 | 0,_,_,_=>none
 | n+1,v2,l5,i13=>if (decide (i13<i12)) then (lAt l5 i13).bind fun r1=>(za6 r1.Name).bind fun r2=>if (r2==[108,111,99,97,116,105,111,110]) then zgn (zbM i12 n) v2 l5 i13 r1 i13 r2 true else zgn (zbM i12 n) v2 l5 i13 r1 i13 r2 (r2==[99,111,110,116,101,110,116,45,108,111,99,97,116,105,111,110]) else some l5
def zjb (x_env:zW2) (x_l:List zWQ):Option (List zWQ):=if ze ([]:List zWQ).length x_l.length 32 then zbM ((([]:List zWQ)++x_l).length:Int) fuel x_env (([]:List zWQ)++x_l) 0 else none
def zok (x_a0:zW2) (x_a1:zWT):Option (zWT × Int):=(ztp x_a1.Fields).bind fun r1=>(zfr r1).bind fun r2=>if (x_a1.Kind==1) then (zkf x_a1.Method x_a1.Target).bind fun r3=>if (!(r3.2==0)) then some ((⟨0,[],[],0,[],0,[]⟩:zWT),20) else if (r3.1.Kind==3) then some ((⟨0,[],[],0,[],0,[]⟩:zWT),20) else (zlu r3.1).bind fun r4=>(zft (⟨r2,({x_a1 with Target:=r4,Minor:=1}:zWT)⟩:zXy) x_a0 r3.1).bind fun r5=>(zcl r5).bind fun r6=>some (r6.1,r6.2) else if (x_a1.Kind==2) then (zbI r2).bind fun r7=>(zjb x_a0 r7).bind fun r8=>(zfr r8).bind fun r9=>(zcl (⟨r9,({x_a1 with Minor:=1}:zWT)⟩:zXy)).bind fun r10=>some (r10.1,r10.2) else some ((⟨0,[],[],0,[],0,[]⟩:zWT),1)
def zc1 (x_name:Str) (x_value:Str):Option zXf:=some (⟨x_name,x_value⟩:zXf)
def zol (x_env:zW2) (x_h:zWT):Option (List zXf):=(zc1 [99,108,105,101,110,116] x_env.Client).bind fun r1=>(zc1 [104,111,115,116] x_env.Host).bind fun r2=>(zc1 [115,99,104,101,109,101] x_env.Scheme).bind fun r3=>if (x_h.Kind==1) then (zpk x_h.Target).bind fun r4=>(zc1 [109,101,116,104,111,100] x_h.Method).bind fun r5=>(zc1 [112,97,116,104] r4.1).bind fun r6=>some [r1,r2,r5,r6,r3] else if (x_h.Kind==2) then (zcY x_h.Code).bind fun r7=>(zc1 [115,116,97,116,117,115] r7).bind fun r8=>some [r1,r2,r3,r8] else some []
def zom (x_r:zWU):Option (List Str):=(za6 x_r.Name).bind fun r1=>if (x_r.Kind==4) then (za6 x_r.To).bind fun r2=>if ze ([r1]:List Str).length ([r2]:List Str).length 16 then some (([r1]:List Str)++[r2]) else none else some [r1]
def zhQ (k0:Int→Option Int) (i4:Int) (t34:Bool):Option Int:=if t34 then (zd i4 1).bind fun r1=>k0 r1 else some i4
def zc6 (l0:List zWU) (v3:zXx):Nat→Int→Option Int
 | 0,_=>none
 | n+1,i4=>if (decide (i4<(l0.length:Int))) then (lAt l0 i4).bind fun r1=>if (r1.Guard==v3) then (za3 i4 1).bind fun r2=>(lAt l0 r2).bind fun r3=>(zom r3).bind fun r4=>(za6 v3.Name).bind fun r5=>(zw r4 r5).bind fun r6=>zhQ (zc6 l0 v3 n) i4 (!r6) else zhQ (zc6 l0 v3 n) i4 false else zhQ (zc6 l0 v3 n) i4 false
def zon (x_l:List zWU):Option Int:=(lAt x_l 0).bind fun r1=>zc6 x_l r1.Guard fuel 1
def zlz (x_g:zXx) (x_n:Int):Option zXD:=if (x_g.Kind==1) then some (⟨1,x_g.Name,[],[],x_n⟩:zXD) else if (x_g.Kind==2) then some (⟨2,x_g.Name,[],[],x_n⟩:zXD) else if (x_g.Kind==3) then some (⟨3,x_g.Name,x_g.Value,[],x_n⟩:zXD) else some (⟨0,x_g.Name,[],[],x_n⟩:zXD)
def zoo (x_r:zWU):Option zXD:=if (x_r.Kind==1) then (zfF x_r.Parts).bind fun r1=>some (⟨6,x_r.Name,[],r1,0⟩:zXD) else if (x_r.Kind==2) then (zfF x_r.Parts).bind fun r2=>some (⟨5,x_r.Name,[],r2,0⟩:zXD) else if (x_r.Kind==3) then some (⟨4,x_r.Name,[],[],0⟩:zXD) else if (x_r.Kind==4) then some (⟨7,x_r.Name,x_r.To,[],0⟩:zXD) else some (⟨0,[],[],[],0⟩:zXD)
def zbp (l6:List zWU) (i7:Int):Nat→zXd→Int→Option zXd
 | 0,_,_=>none
 | n+1,vp0,i8=>if (decide (i8<i7)) then (lAt l6 i8).bind fun r1=>(zoo r1).bind fun r2=>if ze vp0.zW8.length ([r2]:List zXD).length 72 then (zd i8 1).bind fun r3=>zbp l6 i7 n (⟨vp0.zW8++[r2]⟩:zXd) r3 else none else some vp0
def zdK (x_c:zXd) (x_l:List zWU):Option zXd:=zbp x_l (x_l.length:Int) fuel x_c 0
def zcv (k0:zXd→List zWU→Option zXd) (vp0:zXd) (l1:List zWU) (i4:Int):Option zXd:=(lTo l1 i4).bind fun r1=>(zdK vp0 r1).bind fun r2=>(zpo l1 i4).bind fun r3=>k0 r2 r3
def zaa:Nat→zXd→List zWU→Option zXd
 | 0,_,_=>none
 | n+1,vp0,l1=>if (decide ((0:Int)<(l1.length:Int))) then (lAt l1 0).bind fun r1=>if (!(r1.Guard.Kind==0)) then (zon l1).bind fun r2=>(zlz r1.Guard r2).bind fun r3=>if ze vp0.zW8.length ([r3]:List zXD).length 72 then zcv (zaa n) (⟨vp0.zW8++[r3]⟩:zXd) l1 r2 else none else zcv (zaa n) vp0 l1 1 else some vp0
def zdL (x_c:zXd) (x_l:List zWU):Option zXd:=zaa fuel x_c x_l
def zcQ (i0:Int) (l26:List zWU) (i27:Int):Nat→List zWU→Int→Option (List zXD × Int)
 | 0,_,_=>none
 | n+1,l8,i28=>if (decide (i28<i27)) then (lAt l26 i28).bind fun r1=>if (r1.Side==i0) then if ze l8.length ([r1]:List zWU).length 112 then (zd i28 1).bind fun r2=>zcQ i0 l26 i27 n (l8++[r1]) r2 else none else (zd i28 1).bind fun r3=>zcQ i0 l26 i27 n l8 r3 else (zdL (⟨[]⟩:zXd) l8).bind fun r4=>some (r4.zW8,0)
def zgo (i0:Int) (l1:List zWU) (t17:Bool):Option (List zXD × Int):=if t17 then some ([],1) else (zjF l1).bind fun r1=>if (!(r1.2==0)) then some ([],r1.2) else zcQ i0 l1 (l1.length:Int) fuel [] 0
def zjc (x_side:Int) (x_l:List zWU):Option (List zXD × Int):=if (!(x_side==1)) then zgo x_side x_l (!(x_side==2)) else zgo x_side x_l false
def zex (x_m:zXb) (x_op:zXD):Option Bool:=(zjK x_m.Bag x_op.Name).bind fun r1=>if (x_op.Kind==1) then some (!r1.2) else if (x_op.Kind==2) then some r1.2 else if (x_op.Kind==3) then if (!r1.2) then some true else some (!(r1.1==x_op.Text)) else some false
def zkj (s1:Str) (l7:List zXf) (i8:Int):Nat→Int→Option Str
 | 0,_=>none
 | n+1,i9=>if (decide (i9<i8)) then (lAt l7 i9).bind fun r1=>if (r1.Name==s1) then some r1.Value else (zd i9 1).bind fun r2=>zkj s1 l7 i8 n r2 else some []
def ztr (x_known:List zXf) (x_name:Str):Option Str:=zkj x_name x_known (x_known.length:Int) fuel 0
def zlA (k0:List UInt8→Int→Option Str) (s0:Str) (l3:List UInt8) (i4:Int) (t13:Bool):Option Str:=if t13 then (sAt s0 i4).bind fun r1=>(zaS r1).bind fun r2=>if r2 then (sAt s0 i4).bind fun r3=>if ze l3.length ([r3]:List UInt8).length 1 then (zd i4 1).bind fun r4=>k0 (l3++[r3]) r4 else none else (zd i4 1).bind fun r5=>k0 l3 r5 else (zbJ l3 [32,9]).bind fun r6=>some r6
def zff (s0:Str):Nat→List UInt8→Int→Option Str
 | 0,_,_=>none
 | n+1,l3,i4=>if (decide (i4<(s0.length:Int))) then zlA (zff s0 n) s0 l3 i4 (decide ((l3.length:Int)<65536)) else zlA (zff s0 n) s0 l3 i4 false
def zqt (x_s:Str):Option Str:=zff x_s fuel [] 0
def zeV (l0:List zXf) (v7:zXi) (l15:List zWR) (i16:Int):Nat→List Str→Int→Option Str
 | 0,_,_=>none
 | n+1,l8,i17=>if (decide (i17<i16)) then (lAt l15 i17).bind fun r1=>if (r1.Kind==1) then if ze l8.length ([r1.Text]:List Str).length 16 then (zd i17 1).bind fun r2=>zeV l0 v7 l15 i16 n (l8++[r1.Text]) r2 else none else if (r1.Kind==2) then (ztr l0 r1.Text).bind fun r3=>if ze l8.length ([r3]:List Str).length 16 then (zd i17 1).bind fun r4=>zeV l0 v7 l15 i16 n (l8++[r3]) r4 else none else if (r1.Kind==3) then (zjK v7 r1.Text).bind fun r5=>if ze l8.length ([r5.1]:List Str).length 16 then (zd i17 1).bind fun r6=>zeV l0 v7 l15 i16 n (l8++[r5.1]) r6 else none else (zd i17 1).bind fun r7=>zeV l0 v7 l15 i16 n l8 r7 else (zbt [] l8).bind fun r8=>(zqt r8).bind fun r9=>some r9
def zts (x_known:List zXf) (x_fields:List zWQ) (x_l:List zWR):Option Str:=(zfr x_fields).bind fun r1=>zeV x_known (⟨r1.zXJ⟩:zXi) x_l (x_l.length:Int) fuel [] 0
def zcG (x_m:zXb) (x_l:List zWR):Option Str:=(zbI x_m.Bag).bind fun r1=>(zts x_m.zYc r1 x_l).bind fun r2=>some r2
def zcm (s1:Str) (s2:Str) (i15:Int):Nat→zXi→Int→Int→Option (Int × zXi)
 | 0,_,_,_=>none
 | n+1,vp0,i7,i16=>if (decide (i16<i15)) then (lAt vp0.zXJ i16).bind fun r1=>(zbu r1.Name s1).bind fun r2=>if r2 then (lAt vp0.zXJ i16).bind fun r3=>(zw3 vp0.zXJ i16 (⟨s2,r3.Value⟩:zWQ)).bind fun r4=>(zd i7 1).bind fun r5=>(zd i16 1).bind fun r6=>zcm s1 s2 i15 n (⟨r4⟩:zXi) r5 r6 else (zd i16 1).bind fun r7=>zcm s1 s2 i15 n vp0 i7 r7 else some (i7,vp0)
def zio (x_b:zXi) (x_from:Str) (x_to:Str):Option (Int × zXi):=zcm x_from x_to (x_b.zXJ.length:Int) fuel x_b 0 0
def zeW (x_m:zXb) (x_op:zXD):Option zXb:=if (x_op.Kind==4) then (zcP x_m.Bag [x_op.Name]).bind fun r1=>some ({x_m with Bag:=r1.2}:zXb) else if (x_op.Kind==5) then (zcG x_m x_op.Parts).bind fun r2=>(zfe x_m.Bag [(⟨x_op.Name,r2⟩:zWQ)]).bind fun r3=>some ({x_m with Bag:=r3}:zXb) else if (x_op.Kind==6) then (zcG x_m x_op.Parts).bind fun r4=>(ziQ x_m.Bag x_op.Name r4).bind fun r5=>some ({x_m with Bag:=r5}:zXb) else if (x_op.Kind==7) then (zio x_m.Bag x_op.Name x_op.Text).bind fun r6=>some ({x_m with Bag:=r6.2}:zXb) else some x_m
def zc2 (k0:zXb→Int→Option zXb) (vp0:zXb) (i4:Int):Option zXb:=(zd i4 1).bind fun r1=>k0 vp0 r1
def zai (l1:List zXD):Nat→zXb→Int→Option zXb
 | 0,_,_=>none
 | n+1,vp0,i4=>if (decide (i4<(l1.length:Int))) then (zd vp0.zX5 1).bind fun r1=>(lAt l1 i4).bind fun r2=>(zex ({vp0 with zX5:=r1}:zXb) r2).bind fun r3=>if r3 then (lAt l1 i4).bind fun r4=>(zd i4 (min (max r4.N 0) (l1.length:Int))).bind fun r5=>zc2 (zai l1 n) ({vp0 with zX5:=r1}:zXb) r5 else (lAt l1 i4).bind fun r6=>(zeW ({vp0 with zX5:=r1}:zXb) r6).bind fun r7=>zc2 (zai l1 n) r7 i4 else some vp0
def zey (x_m:zXb) (x_l:List zXD):Option zXb:=zai x_l fuel x_m 0
def zop (x_known:List zXf) (x_fields:List zWQ) (x_l:List zXD):Option (List zWQ):=(zfr x_fields).bind fun r1=>(zey (⟨r1,x_known,0⟩:zXb) x_l).bind fun r2=>(zbI r2.Bag).bind fun r3=>some r3
def zlB (x_known:List zXf) (x_fields:List zWQ) (x_side:Int) (x_l:List zWU):Option (List zWQ × Int):=(zjc x_side x_l).bind fun r1=>if (!(r1.2==0)) then some ([],r1.2) else (zop x_known x_fields r1.1).bind fun r2=>some (r2,0)
def zl8 (x_l:List Str):Option Str:=(zbt [44,32] x_l).bind fun r1=>some r1
def zlC (x_s:Str) (x_l:List Str):Option Str:=if ((x_l.length:Int)==0) then some x_s else (zbJ x_s [32,9,44]).bind fun r1=>if (r1==[]) then (zl8 x_l).bind fun r2=>some r2 else (zdp x_s [32,9]).bind fun r3=>if ze ([r3]:List Str).length x_l.length 16 then (zl8 (([r3]:List Str)++x_l)).bind fun r4=>some r4 else none
def zdx (vp0:zXi) (s1:Str) (s2:Str):Nat→Int→Option zXi
 | 0,_=>none
 | n+1,i6=>if (decide ((0:Int)≤i6)) then (lAt vp0.zXJ i6).bind fun r1=>(zbu r1.Name s1).bind fun r2=>if r2 then (lAt vp0.zXJ i6).bind fun r3=>(zlC r3.Value [s2]).bind fun r4=>(lAt vp0.zXJ i6).bind fun r5=>(zw3 vp0.zXJ i6 (⟨r5.Name,r4⟩:zWQ)).bind fun r6=>some (⟨r6⟩:zXi) else (za3 i6 1).bind fun r7=>zdx vp0 s1 s2 n r7 else (zfe vp0 [(⟨s1,s2⟩:zWQ)]).bind fun r8=>some r8
def zd7 (x_b:zXi) (x_name:Str) (x_element:Str):Option zXi:=(za3 (x_b.zXJ.length:Int) 1).bind fun r1=>zdx x_b x_name x_element fuel r1
def zqu (x_v:zW9) (x_l:List zWQ):Option (List zWQ × Int):=(zni x_v).bind fun r1=>if (!(r1.2==0)) then some ([],r1.2) else (zfr x_l).bind fun r2=>(zd7 r2 [86,105,97] r1.1).bind fun r3=>(zbI r3).bind fun r4=>some (r4,0)
def zkk (x_client:Str):Option Str:=(zbn x_client).bind fun r1=>if r1 then some x_client else (zh7 x_client).bind fun r2=>if r2 then (zb1 [91] x_client).bind fun r3=>(zb1 r3 [93]).bind fun r4=>some r4 else some [117,110,107,110,111,119,110]
def zhe (l3:List zXf):Option (List zXf):=some l3
def zhf (v1:zW2) (l3:List zXf):Option (List zXf):=if (!(v1.Scheme==[])) then if ze l3.length ([(⟨[112,114,111,116,111],v1.Scheme⟩:zXf)]:List zXf).length 32 then zhe (l3++([(⟨[112,114,111,116,111],v1.Scheme⟩:zXf)])) else none else zhe l3
def zkl (x_env:zW2):Option (List zXf):=(zkk x_env.Client).bind fun r1=>if (!(x_env.Host==[])) then if ze ([(⟨[102,111,114],r1⟩:zXf)]:List zXf).length ([(⟨[104,111,115,116],x_env.Host⟩:zXf)]:List zXf).length 32 then zhf x_env (([(⟨[102,111,114],r1⟩:zXf)]:List zXf)++([(⟨[104,111,115,116],x_env.Host⟩:zXf)])) else none else zhf x_env ([(⟨[102,111,114],r1⟩:zXf)])
def zjd (k0:List UInt8→Int→Option (Str × Int)) (s0:Str) (l4:List UInt8) (i5:Int) (i13:Int):Option (Str × Int):=(sAt s0 i5).bind fun r1=>if ze l4.length ([r1]:List UInt8).length 1 then (zd i13 1).bind fun r2=>k0 (l4++[r1]) r2 else none
def zje (k0:List UInt8→Int→Option (Str × Int)) (s0:Str) (l4:List UInt8) (i5:Int) (i13:Int) (t25:Bool):Option (Str × Int):=if t25 then if ze l4.length ([92]:List UInt8).length 1 then zjd k0 s0 (l4++[92]) i5 i13 else none else zjd k0 s0 l4 i5 i13
def zcs (s0:Str) (i12:Int):Nat→List UInt8→Int→Option (Str × Int)
 | 0,_,_=>none
 | n+1,l4,i13=>if (decide (i13<i12)) then (sAt s0 i13).bind fun r1=>if (r1==34) then zje (zcs s0 i12 n) s0 l4 i13 i13 true else (sAt s0 i13).bind fun r2=>zje (zcs s0 i12 n) s0 l4 i13 i13 (r2==92) else if ze l4.length ([34]:List UInt8).length 1 then some (l4++[34],0) else none
def zmY (x_s:Str):Option (Str × Int):=(zbU zaS [x_s]).bind fun r1=>if (!r1) then some ([],2) else zcs x_s (x_s.length:Int) fuel [34] 0
def zlD (x_s:Str):Option (Str × Int):=(zdY x_s).bind fun r1=>if r1 then some (x_s,0) else (zmY x_s).bind fun r2=>some (r2.1,r2.2)
def zhR (l9:List zXf) (i10:Int):Nat→List Str→Int→Option (Str × Int)
 | 0,_,_=>none
 | n+1,l4,i11=>if (decide (i11<i10)) then (lAt l9 i11).bind fun r1=>(zlD r1.Value).bind fun r2=>if (!(r2.2==0)) then some ([],2) else (zdY r1.Name).bind fun r3=>if (!r3) then some ([],2) else (zb1 r1.Name [61]).bind fun r4=>(zb1 r4 r2.1).bind fun r5=>if ze l4.length ([r5]:List Str).length 16 then (zd i11 1).bind fun r6=>zhR l9 i10 n (l4++[r5]) r6 else none else if ((l4.length:Int)==0) then some ([],2) else (zbt [59] l4).bind fun r7=>some (r7,0)
def zoq (x_l:List zXf):Option (Str × Int):=zhR x_l (x_l.length:Int) fuel [] 0
def ziq (x_env:zW2) (x_l:List zWQ):Option (List zWQ × Int):=(zkl x_env).bind fun r1=>(zoq r1).bind fun r2=>if (!(r2.2==0)) then some ([],r2.2) else (zfr x_l).bind fun r3=>(zd7 r3 [70,111,114,119,97,114,100,101,100] r2.1).bind fun r4=>(zbI r4).bind fun r5=>some (r5,0)
def zvw (x_s:Str):Option Bool:=(zbn x_s).bind fun r1=>if r1 then some true else (zh7 x_s).bind fun r2=>some r2
def zlE (s0:Str) (l1:List zWQ):Option (List zWQ):=(zfr l1).bind fun r1=>(zd7 r1 [88,45,70,111,114,119,97,114,100,101,100,45,70,111,114] s0).bind fun r2=>(zbI r2).bind fun r3=>some r3
def zqv (x_client:Str) (x_l:List zWQ):Option (List zWQ):=(zvw x_client).bind fun r1=>if (!r1) then zlE [117,110,107,110,111,119,110] x_l else zlE x_client x_l
def zlF (v5:zWT) (l8:List zWQ) (i9:Int):Option (zWT × Int):=if (!(i9==0)) then some ((⟨0,[],[],0,[],0,[]⟩:zWT),i9) else (zfr l8).bind fun r1=>(zcl (⟨r1,v5⟩:zXy)).bind fun r2=>some (r2.1,r2.2)
def zlG (v3:zW2) (v5:zWT) (l8:List zWQ) (i9:Int) (t46:Bool):Option (zWT × Int):=if t46 then (ziq v3 l8).bind fun r1=>(zqv v3.Client r1.1).bind fun r2=>zlF v5 r2 r1.2 else zlF v5 l8 i9
def zfg (i1:Int) (v3:zW2) (v5:zWT) (t26:Bool):Option (zWT × Int):=if t26 then some ((⟨0,[],[],0,[],0,[]⟩:zWT),1) else (zcY i1).bind fun r1=>(zb1 [49,46] r1).bind fun r2=>(zqu (⟨[],r2,v3.By,[]⟩:zW9) v5.Fields).bind fun r3=>if (r3.2==0) then zlG v3 v5 r3.1 r3.2 (v5.Kind==1) else zlG v3 v5 r3.1 r3.2 false
def zqw (x_a0:zW2) (x_a1:Int) (x_a2:zWT):Option (zWT × Int):=if (!(x_a2.Kind==1)) then if (!(x_a2.Kind==2)) then zfg x_a1 x_a0 x_a2 true else if (!(x_a1==0)) then zfg x_a1 x_a0 x_a2 (!(x_a1==1)) else zfg x_a1 x_a0 x_a2 false else if (!(x_a1==0)) then zfg x_a1 x_a0 x_a2 (!(x_a1==1)) else zfg x_a1 x_a0 x_a2 false
def zlH (x_f:zWY):Option (List zWQ):=if (x_f.Kind==2) then (zcY x_f.N).bind fun r1=>some ([(⟨[67,111,110,116,101,110,116,45,76,101,110,103,116,104],r1⟩:zWQ)]) else if (x_f.Kind==3) then some ([(⟨[84,114,97,110,115,102,101,114,45,69,110,99,111,100,105,110,103],[99,104,117,110,107,101,100]⟩:zWQ)]) else some []
def zir (x_env:zW2) (x_f:zWY) (x_h:zWT) (x_l:List zWU):Option (zWT × Int):=(zok x_env x_h).bind fun r1=>if (!(r1.2==0)) then some ((⟨0,[],[],0,[],0,[]⟩:zWT),r1.2) else (zol x_env r1.1).bind fun r2=>(zlB r2 r1.1.Fields r1.1.Kind x_l).bind fun r3=>if (!(r3.2==0)) then some ((⟨0,[],[],0,[],0,[]⟩:zWT),r3.2) else (zqw x_env x_h.Minor (⟨r1.1.Kind,r1.1.Method,r1.1.Target,r1.1.Code,r1.1.Reason,r1.1.Minor,r3.1⟩:zWT)).bind fun r4=>if (!(r4.2==0)) then some ((⟨0,[],[],0,[],0,[]⟩:zWT),r4.2) else (zlH x_f).bind fun r5=>if ze r4.1.Fields.length r5.length 32 then some ((⟨r4.1.Kind,r4.1.Method,r4.1.Target,r4.1.Code,r4.1.Reason,r4.1.Minor,r4.1.Fields++r5⟩:zWT),0) else none
def zc7 (x_p:zXv):Option (Int × Bool × zWW):=(zat x_p.Scanner).bind fun r1=>if (!r1.2) then some (0,false,x_p.Scanner) else (zbm r1.1).bind fun r2=>if (!r2) then some (0,false,x_p.Scanner) else (zf x_p.Scanner r1.1).bind fun r3=>some (((r1.1-48).toNat:Int),true,r3.2)
def zb5 (x_p:zXv):Option (Int × Int × Bool × zWW):=(zck x_p.Scanner [72,84,84,80,47]).bind fun r1=>if (!r1.1) then some (0,0,false,r1.2) else (zc7 (⟨r1.2⟩:zXv)).bind fun r2=>(zf r2.2.2 46).bind fun r3=>(zc7 (⟨r3.2⟩:zXv)).bind fun r4=>if r2.2.1 then if r3.1 then some (r2.1,r4.1,r4.2.1,r4.2.2) else some (r2.1,r4.1,false,r4.2.2) else some (r2.1,r4.1,false,r4.2.2)
def zgS (x_s:Str):Option Bool:=(zgG x_s).bind fun r1=>(zb5 (⟨r1⟩:zXv)).bind fun r2=>if r2.2.2.1 then (zao r2.2.2.2).bind fun r3=>if r3 then if (!(r2.1==1)) then some true else some (decide ((1:Int)<r2.2.1)) else some false else some false
def zdy (x_b:UInt8):Option Bool:=some (!(x_b==32))
def zc8 (x_p:zXv):Option (Int × Bool × zWW):=(zb5 x_p).bind fun r1=>if r1.2.2.1 then if (r1.1==1) then some (r1.2.1,decide (r1.2.1≤1),r1.2.2.2) else some (r1.2.1,false,r1.2.2.2) else some (r1.2.1,false,r1.2.2.2)
def zhg (x_a0:Str):Option (zWT × Int):=(zcE x_a0 32).bind fun r1=>(zd r1 1).bind fun r2=>(zZ x_a0 r2).bind fun r3=>(zgS r3).bind fun r4=>if r4 then some ((⟨0,[],[],0,[],0,[]⟩:zWT),26) else (zgG x_a0).bind fun r5=>(zP r5).bind fun r6=>(zf r6.2.2 32).bind fun r7=>(zK r7.2 zdy).bind fun r8=>(zf r8.2 32).bind fun r9=>(zc8 (⟨r9.2⟩:zXv)).bind fun r10=>(zkf r6.1 r8.1).bind fun r11=>if (!r6.2.1) then some ((⟨0,[],[],0,[],0,[]⟩:zWT),20) else if (!r7.1) then some ((⟨0,[],[],0,[],0,[]⟩:zWT),20) else if (!r9.1) then some ((⟨0,[],[],0,[],0,[]⟩:zWT),20) else if (!r10.2.1) then some ((⟨0,[],[],0,[],0,[]⟩:zWT),20) else (zao r10.2.2).bind fun r12=>if (!r12) then some ((⟨0,[],[],0,[],0,[]⟩:zWT),20) else if (!(r11.2==0)) then some ((⟨0,[],[],0,[],0,[]⟩:zWT),20) else some ((⟨1,r6.1,r8.1,0,[],r10.1,[]⟩:zWT),0)
def zis (x_a0:Str):Option (zWT × Int):=(strings_Cut x_a0 [32]).bind fun r1=>(zgS r1.1).bind fun r2=>if r2 then some ((⟨0,[],[],0,[],0,[]⟩:zWT),26) else (zgG x_a0).bind fun r3=>(zc8 (⟨r3⟩:zXv)).bind fun r4=>(zf r4.2.2 32).bind fun r5=>(zK r5.2 zbm).bind fun r6=>(zf r6.2 32).bind fun r7=>(zdr r6.1 599).bind fun r8=>if (!r4.2.1) then some ((⟨0,[],[],0,[],0,[]⟩:zWT),20) else if (!r5.1) then some ((⟨0,[],[],0,[],0,[]⟩:zWT),20) else if (!r7.1) then some ((⟨0,[],[],0,[],0,[]⟩:zWT),20) else if (!((r6.1.length:Int)==3)) then some ((⟨0,[],[],0,[],0,[]⟩:zWT),20) else if (!(r8.2==0)) then some ((⟨0,[],[],0,[],0,[]⟩:zWT),20) else if (decide (r8.1<100)) then some ((⟨0,[],[],0,[],0,[]⟩:zWT),20) else (zas r7.2).bind fun r9=>(zbU zaS [r9]).bind fun r10=>if (!r10) then some ((⟨0,[],[],0,[],0,[]⟩:zWT),20) else (zas r7.2).bind fun r11=>some ((⟨2,[],[],r8.1,r11,r4.1,[]⟩:zWT),0)
def zgp (i0:Int) (s1:Str) (t6:Bool):Option (zWT × Int):=if t6 then some ((⟨0,[],[],0,[],0,[]⟩:zWT),1) else (strings_ContainsAny s1 [13,10]).bind fun r1=>if r1 then some ((⟨0,[],[],0,[],0,[]⟩:zWT),24) else if (i0==1) then (zhg s1).bind fun r2=>some (r2.1,r2.2) else (zis s1).bind fun r3=>some (r3.1,r3.2)
def zdt (x_kind:Int) (x_s:Str):Option (zWT × Int):=if (!(x_kind==1)) then zgp x_kind x_s (!(x_kind==2)) else zgp x_kind x_s false
def zb6 (s5:Str) (i7:Int) (t8:Bool):Option (Str × Int):=if (!(i7==0)) then some ([],20) else if (!t8) then some ([],20) else some (s5,0)
def zhh (v1:zWT) (s5:Str):Option (Str × Int):=(zdt v1.Kind s5).bind fun r1=>if (r1.2==1) then some ([],r1.2) else if (r1.1.Method==v1.Method) then if (r1.1.Target==v1.Target) then if (r1.1.Minor==v1.Minor) then if (r1.1.Code==v1.Code) then zb6 s5 r1.2 (r1.1.Reason==v1.Reason) else zb6 s5 r1.2 false else zb6 s5 r1.2 false else zb6 s5 r1.2 false else zb6 s5 r1.2 false
def zhS (x_a0:zWT):Option (Str × Int):=(zcY x_a0.Minor).bind fun r1=>(zb1 [72,84,84,80,47,49,46] r1).bind fun r2=>(zbt [32] [x_a0.Method,x_a0.Target,r2]).bind fun r3=>if (x_a0.Kind==2) then (zcY x_a0.Code).bind fun r4=>(zbt [32] [r2,r4,x_a0.Reason]).bind fun r5=>zhh x_a0 r5 else zhh x_a0 r3
def zlI (k0:Int→Option Bool) (i27:Int) (t41:Bool):Option Bool:=if t41 then some false else (zd i27 1).bind fun r1=>k0 r1
def zfh (l25:List Str) (i26:Int):Nat→Int→Option Bool
 | 0,_=>none
 | n+1,i27=>if (decide (i27<i26)) then (lAt l25 i27).bind fun r1=>(zb3 r1).bind fun r2=>if (!(r2.2==0)) then zlI (zfh l25 i26 n) i27 (!(r1==[])) else zlI (zfh l25 i26 n) i27 false else some true
def zqx (x_h:zWT):Option Bool:=if (!(x_h.Kind==1)) then some true else (zfr x_h.Fields).bind fun r1=>(zb4 r1 [72,111,115,116]).bind fun r2=>if (decide ((1:Int)<(r2.length:Int))) then some false else if (decide ((r2.length:Int)<x_h.Minor)) then some false else zfh r2 (r2.length:Int) fuel 0
def znr (x_h:zWT):Option Int:=if (decide ((100:Int)<(x_h.Fields.length:Int))) then some 3 else (zqx x_h).bind fun r1=>if (!r1) then some 27 else some 0
def ziR (v1:zWT) (l17:List zWQ) (i18:Int):Nat→Int→Option Int
 | 0,_=>none
 | n+1,i19=>if (decide (i19<i18)) then (lAt l17 i19).bind fun r1=>(zeK r1).bind fun r2=>if (!(r2==0)) then some r2 else (zd i19 1).bind fun r3=>ziR v1 l17 i18 n r3 else (znr v1).bind fun r4=>some r4
def zns (x_h:zWT):Option Int:=(zhS x_h).bind fun r1=>if (!(r1.2==0)) then some r1.2 else ziR x_h x_h.Fields (x_h.Fields.length:Int) fuel 0
def ztt (x_most:Int):Option zXt:=some (⟨[],max x_most 0⟩:zXt)
def zit (x_q:zXt):Option Int:=(za3 x_q.zXa (x_q.zYj.length:Int)).bind fun r1=>some r1
def zc9 (l29:List Str) (i30:Int):Nat→zXt→Int→Option (Int × zXt)
 | 0,_,_=>none
 | n+1,vp0,i31=>if (decide (i31<i30)) then (lAt l29 i31).bind fun r1=>if ze vp0.zYj.length r1.length 1 then (zd i31 1).bind fun r2=>zc9 l29 i30 n (⟨vp0.zYj++r1,vp0.zXa⟩:zXt) r2 else none else some (0,vp0)
def zda (vp0:zXt) (l1:List Str) (l14:List Str) (i15:Int):Nat→Int→Int→Option (Int × zXt)
 | 0,_,_=>none
 | n+1,i5,i16=>if (decide (i16<i15)) then (lAt l14 i16).bind fun r1=>if (decide (i5<(r1.length:Int))) then some (10,vp0) else (za3 i5 (r1.length:Int)).bind fun r2=>(zd i16 1).bind fun r3=>zda vp0 l1 l14 i15 n r2 r3 else zc9 l1 (l1.length:Int) fuel vp0 0
def zhi (x_q:zXt) (x_l:List Str):Option (Int × zXt):=(zit x_q).bind fun r1=>zda x_q x_l x_l (x_l.length:Int) fuel r1 0
def zgq (x_q:zXt) (x_l:List Str):Option (Int × zXt):=if ze ([]:List Str).length x_l.length 16 then if ze (([]:List Str)++x_l).length ([[13,10]]:List Str).length 16 then (zhi x_q ((([]:List Str)++x_l)++([[13,10]]))).bind fun r1=>some (r1.1,r1.2) else none else none
def zcn (x_p:zXL) (x_s:Str):Option zXL:=(zgq x_p.Quill [x_s]).bind fun r1=>if (!(r1.1==0)) then some (⟨r1.2,true⟩:zXL) else some (⟨r1.2,x_p.zYl⟩:zXL)
def zhT (x_f:zWQ):Option (Str × Int):=(zeK x_f).bind fun r1=>if (!(r1==0)) then some ([],r1) else if (x_f.Value==[]) then (zb1 x_f.Name [58]).bind fun r2=>some (r2,0) else (zb1 x_f.Name [58,32]).bind fun r3=>(zb1 r3 x_f.Value).bind fun r4=>some (r4,0)
def ziu (x_q:zXt):Option Str:=some x_q.zYj
def ziS (l32:List zWQ) (i33:Int):Nat→zXL→Int→Option (Str × Int)
 | 0,_,_=>none
 | n+1,v7,i34=>if (decide (i34<i33)) then (lAt l32 i34).bind fun r1=>(zhT r1).bind fun r2=>(zcn v7 r2.1).bind fun r3=>(zd i34 1).bind fun r4=>ziS l32 i33 n r3 r4 else (zcn v7 []).bind fun r5=>if r5.zYl then some ([],3) else (ziu r5.Quill).bind fun r6=>some (r6,0)
def zjt (x_h:zWT) (x_limit:Int):Option (Str × Int):=(zns x_h).bind fun r1=>if (!(r1==0)) then some ([],r1) else (ztt x_limit).bind fun r2=>(zhS x_h).bind fun r3=>(zcn (⟨r2,false⟩:zXL) r3.1).bind fun r4=>ziS x_h.Fields (x_h.Fields.length:Int) fuel r4 0
def zdM (x_g:zWN) (x_h:zWT):Option (Str × zWY × Int):=if (x_h.Method==[67,79,78,78,69,67,84]) then some ([],(⟨0,0⟩:zWY),20) else (zhN x_h).bind fun r1=>if (!(r1.2==0)) then some ([],r1.1,r1.2) else (zir x_g.zYb r1.1 x_h x_g.zXZ).bind fun r2=>if (!(r2.2==0)) then some ([],r1.1,r2.2) else (zjt r2.1 x_g.zXV.Head).bind fun r3=>some (r3.1,r1.1,r3.2)
def zor (x_limit:Int):Option (Option zWS × Int):=if (decide (x_limit<0)) then some (none,1) else if (decide ((65536:Int)<x_limit)) then some (none,1) else some (some (⟨x_limit,0,[],0,0,0,[]⟩:zWS),0)
def zl9 (v8:zXn):Option (Option zXn × Int):=some (some v8,0)
def zos (v2:zWY) (v8:zXn):Option (Option zXn × Int):=if (v2.Kind==1) then zl9 ({v8 with zXR:=true}:zXn) else if (v2.Kind==2) then zl9 ({v8 with zXR:=v2.N==0}:zXn) else zl9 ({v8 with zXR:=false}:zXn)
def zot (v2:zWY) (o6:Option zWS) (i7:Int):Option (Option zXn × Int):=if (!(i7==0)) then some (none,1) else if (decide (v2.Kind<1)) then some (none,1) else if (decide ((4:Int)<v2.Kind)) then some (none,1) else if (decide (v2.N<0)) then some (none,1) else if (decide ((1099511627776:Int)<v2.N)) then some (none,1) else if (v2.Kind==3) then zos v2 (⟨o6,v2,v2.N,false,false⟩:zXn) else zos v2 (⟨none,v2,v2.N,false,false⟩:zXn)
def zr4 (x_a0:zWY) (x_a1:Int):Option (Option zXn × Int):=(zor x_a1).bind fun r1=>optK r1.1 (zot x_a0 none r1.2) fun r2=>zot x_a0 (some r2) r1.2
def zcR (x_a:zW4):Option (zWT × Bool):=if (!x_a.f_whole) then some ((⟨0,[],[],0,[],0,[]⟩:zWT),false) else if ze ([]:List zWQ).length x_a.zXX.Fields.length 32 then some ((⟨x_a.zXX.Kind,x_a.zXX.Method,x_a.zXX.Target,x_a.zXX.Code,x_a.zXX.Reason,x_a.zXX.Minor,([]:List zWQ)++x_a.zXX.Fields⟩:zWT),true) else none
def zhU (x_a1:Str):Option (Int × Str × Bool × Int):=some (0,[],false,5)
def zdb:Option Int:=some 5
def zeo (x_s:Str):Option (Str × Int):=zdb.bind fun r1=>if (!(r1==0)) then some ([],r1) else none
def zbN:Option (List zWQ):=some []
def zbO (x_trailers:List zWQ):Option (Str × Int):=zdb.bind fun r1=>if (!(r1==0)) then some ([],r1) else none
def ziT (k0:Int→Option Bool) (s0:Str) (i13:Int) (l23:List Str) (i24:Int):Nat→Int→Option Bool
 | 0,_=>none
 | n+1,i25=>if (decide (i25<i24)) then (lAt l23 i25).bind fun r1=>(zbu r1 s0).bind fun r2=>if r2 then some true else (zd i25 1).bind fun r3=>ziT k0 s0 i13 l23 i24 n r3 else (zd i13 1).bind fun r4=>k0 r4
def zg8 (s0:Str) (l11:List Str) (i12:Int):Nat→Int→Option Bool
 | 0,_=>none
 | n+1,i13=>if (decide (i13<i12)) then (lAt l11 i13).bind fun r1=>(zg5 [r1]).bind fun r2=>ziT (zg8 s0 l11 i12 n) s0 i13 r2.1 (r2.1.length:Int) fuel 0 else some false
def znt (x_token:Str) (x_l:List Str):Option Bool:=zg8 x_token x_l (x_l.length:Int) fuel 0
def zpl (x_h:zWT):Option Bool:=(zfr x_h.Fields).bind fun r1=>(zb4 r1 [67,111,110,110,101,99,116,105,111,110]).bind fun r2=>if (x_h.Minor==1) then (znt [99,108,111,115,101] r2).bind fun r3=>some r3 else (znt [107,101,101,112,45,97,108,105,118,101] r2).bind fun r4=>some (!r4)
def zqy (x_h:zWT):Option zW0:=(zpl x_h).bind fun r1=>some ({x_h with Close:=r1}:zW0)
def zgr (x_l:List zW0):Option Int:=some 5
def zjf (x_t:zW0):Option Bool:=some x_t.Close
def zt (l0:List zW0) (i7:Int):Nat→Int→Option Int
 | 0,_=>none
 | n+1,i8=>if (decide (i8<i7)) then (lAt l0 i8).bind fun r1=>(zjf r1).bind fun r2=>if r2 then some i8 else (zd i8 1).bind fun r3=>zt l0 i7 n r3 else some (-1)
def zL (x_s:List zW0):Option Int:=zt x_s (x_s.length:Int) fuel 0
def zlJ (x_l:List zW0):Option Bool:=(zL x_l).bind fun r1=>if (decide ((0:Int)≤r1)) then (za3 (x_l.length:Int) 1).bind fun r2=>some (decide (r1<r2)) else some false
def zc3:Option (List zWQ):=some []
def zb7 (x_d:zWS):Option (List zWQ):=if ze ([]:List zWQ).length x_d.zXU.length 32 then some (([]:List zWQ)++x_d.zXU) else none
def za7 (x_b:zXn):Option (List zWQ):=optK x_b.Decoder (zc3.bind fun r2=>some r2) fun r1=>(zb7 r1).bind fun r3=>some r3
def zb8 (x_w:zW5):Option Int:=if x_w.zXR then some 8 else some 0
def zcH:Option Int:=some 5
def zeX (l0:List zWQ) (l10:List zWQ) (i11:Int):Nat→List Str→Int→Option (Str × Int)
 | 0,_,_=>none
 | n+1,l4,i12=>if (decide (i12<i11)) then (lAt l10 i12).bind fun r1=>(zhT r1).bind fun r2=>if (!(r2.2==0)) then some ([],r2.2) else if ze l4.length ([r2.1]:List Str).length 16 then (zd i12 1).bind fun r3=>zeX l0 l10 i11 n (l4++[r2.1]) r3 else none else if (decide ((100:Int)<(l0.length:Int))) then some ([],3) else if ze l4.length ([[],[]]:List Str).length 16 then (zbt [13,10] (l4++([[],[]]))).bind fun r4=>some (r4,0) else none
def zep (x_trailers:List zWQ):Option (Str × Int):=zeX x_trailers x_trailers (x_trailers.length:Int) fuel ([[48]]) 0
def zfu (x_trailers:List zWQ):Option (Str × Int):=zcH.bind fun r1=>if (!(r1==0)) then some ([],r1) else (zep x_trailers).bind fun r2=>if (!(r2.2==0)) then some ([],r2.2) else none
def zbV (x_c:zW1):Option Int:=if x_c.zXR then some 8 else some 0
def zjg (x_n:Int):Option Str:=(zjY x_n 16).bind fun r1=>some r1
def zkm (x_n:Int):Option Str:=(zjg x_n).bind fun r1=>some r1
def zdu (x_data:Str):Option Str:=if (x_data==[]) then some [] else (zkm (x_data.length:Int)).bind fun r1=>(zbt [13,10] ([r1,x_data,[]])).bind fun r2=>some r2
def zfv (x_s:Str):Option (Str × Int):=zcH.bind fun r1=>if (!(r1==0)) then some ([],r1) else none
def zeY (x_s:Str):Option (Int × Str × Bool × Int):=some (0,[],false,5)
def zeZ:Option Int:=some 0
def zzu (x_code:Int):Option (zXM × Bool):=if (!((zqF [(400,[66,97,100,32,82,101,113,117,101,115,116]),(431,[82,101,113,117,101,115,116,32,72,101,97,100,101,114,32,70,105,101,108,100,115,32,84,111,111,32,76,97,114,103,101]),(502,[66,97,100,32,71,97,116,101,119,97,121])] x_code).2)) then some ((⟨(⟨0,[],[],0,[],0,[]⟩:zWT),(⟨0,0⟩:zWY),[],[]⟩:zXM),false) else some ((⟨(⟨2,[],[],x_code,(zqF [(400,[66,97,100,32,82,101,113,117,101,115,116]),(431,[82,101,113,117,101,115,116,32,72,101,97,100,101,114,32,70,105,101,108,100,115,32,84,111,111,32,76,97,114,103,101]),(502,[66,97,100,32,71,97,116,101,119,97,121])] x_code).1,1,[(⟨[67,111,110,116,101,110,116,45,76,101,110,103,116,104],[48]⟩:zWQ),(⟨[67,111,110,110,101,99,116,105,111,110],[99,108,111,115,101]⟩:zWQ)]⟩:zWT),(⟨2,0⟩:zWY),[],[]⟩:zXM),true)
def zjh (x_method:Str) (x_code:Int):Option Bool:=if (x_method==[72,69,65,68]) then some true else if (decide (x_code<200)) then some true else if (x_code==204) then some true else if (x_code==304) then some true else if (x_method==[67,79,78,78,69,67,84]) then some (decide (x_code<300)) else some false
def zgT (x_method:Str) (x_h:zWT):Option (zWY × Int):=(zjh x_method x_h.Code).bind fun r1=>if r1 then some ((⟨1,0⟩:zWY),0) else (zpj x_h 4).bind fun r2=>some (r2.1,r2.2)
def zt4 (x_method:Str) (x_h:zWT):Option (zWY × Int):=if (x_h.Kind==1) then (zhN x_h).bind fun r1=>some (r1.1,r1.2) else (zgT x_method x_h).bind fun r2=>some (r2.1,r2.2)
def zvx (x_m:zXM):Option Bool:=if (x_m.Frame.Kind==1) then if (x_m.Body==[]) then some ((x_m.Trailers.length:Int)==0) else some false else if (x_m.Frame.Kind==2) then if ((x_m.Body.length:Int)==x_m.Frame.N) then some ((x_m.Trailers.length:Int)==0) else some false else if (x_m.Frame.Kind==4) then some ((x_m.Trailers.length:Int)==0) else some true
def zt5 (x_method:Str) (x_m:zXM):Option Int:=(zns x_m.Head).bind fun r1=>if (!(r1==0)) then some r1 else (zt4 x_method x_m.Head).bind fun r2=>if (!(r2.2==0)) then some r2.2 else if (!(r2.1==x_m.Frame)) then some 1 else (zvx x_m).bind fun r3=>if (!r3) then some 1 else (zep x_m.Trailers).bind fun r4=>some r4.2
def zfT (x_c:Option zW1):Option (Int × Option zW1):=optK x_c (some (5,none)) fun r1=>if r1.zXR then some (8,some r1) else some (0,some r1)
def zfi:Nat→zW1→List Str→Option (Str × Int × Option zW1)
 | 0,_,_=>none
 | n+1,vp0,l7=>if (decide (vp0.zX4≤(vp0.zXs.length:Int))) then (sTo vp0.zXs vp0.zX4).bind fun r1=>(zdu r1).bind fun r2=>if ze l7.length ([r2]:List Str).length 16 then (zZ vp0.zXs vp0.zX4).bind fun r3=>zfi n ({vp0 with zXs:=r3}:zW1) (l7++[r2]) else none else (zbt [] l7).bind fun r4=>some (r4,0,some vp0)
def zkL (x_c:Option zW1) (x_s:Str):Option (Str × Int × Option zW1):=(zfT x_c).bind fun r1=>if (!(r1.1==0)) then some ([],r1.1,r1.2) else r1.2.bind fun r2=>(zb1 r2.zXs x_s).bind fun r3=>zfi fuel ({r2 with zXs:=r3}:zW1) []
def zkM (x_c:Option zW1) (x_trailers:List zWQ):Option (Str × Int × Option zW1):=(zfT x_c).bind fun r1=>if (!(r1.1==0)) then some ([],r1.1,r1.2) else (zep x_trailers).bind fun r2=>if (!(r2.2==0)) then some ([],r2.2,r1.2) else r1.2.bind fun r3=>(zdu r3.zXs).bind fun r4=>(zb1 r4 r2.1).bind fun r5=>some (r5,0,some (⟨r3.zX4,[],true⟩:zW1))
def znu (s1:Str) (l2:List zWQ) (o8:Option zW1) (i9:Int):Option (Str × Int):=if (!(i9==0)) then some ([],i9) else (zkL o8 s1).bind fun r1=>(zkM r1.2.2 l2).bind fun r2=>if (!(r2.2.1==0)) then some ([],r2.2.1) else (zb1 r1.1 r2.1).bind fun r3=>some (r3,0)
def zxC (x_size:Int) (x_body:Str) (x_trailers:List zWQ):Option (Str × Int):=(zht x_size).bind fun r1=>optK r1.1 (znu x_body x_trailers none r1.2) fun r2=>znu x_body x_trailers (some r2) r1.2
def zk0 (s11:Str) (i12:Int) (s13:Str):Option (Str × Int):=if (!(i12==0)) then some ([],i12) else (zb1 s11 s13).bind fun r1=>some (r1,0)
def zt6 (x_method:Str) (x_m:zXM) (x_limit:Int) (x_size:Int):Option (Str × Int):=(zt5 x_method x_m).bind fun r1=>if (!(r1==0)) then some ([],r1) else (zjt x_m.Head x_limit).bind fun r2=>if (!(r2.2==0)) then some ([],r2.2) else if (x_m.Frame.Kind==3) then (zxC x_size x_m.Body x_m.Trailers).bind fun r3=>zk0 r2.1 r3.2 r3.1 else zk0 r2.1 r2.2 x_m.Body
def zus (x_code:Int):Option Str:=(zzu x_code).bind fun r1=>if (!r1.2) then some [] else (zt6 [71,69,84] r1.1 65536 1).bind fun r2=>some r2.1
def zdz (x_q:zXg):Option Int:=some (x_q.zX0.zXJ.length:Int)
def zaT (x_g:zWN) (x_e:Int):Option zWN:=(zqo x_e).bind fun r1=>some ({x_g with zWP:=(⟨none,none,none⟩:zWX),zYe:=r1,zXr:=true}:zWN)
def zaH (l6:List Str) (i7:Int):Nat→zWN→Int→Option zWN
 | 0,_,_=>none
 | n+1,vp0,i8=>if (decide (i8<i7)) then (lAt l6 i8).bind fun r1=>if ze vp0.zYd.length r1.length 1 then (zd i8 1).bind fun r2=>zaH l6 i7 n ({vp0 with zYd:=vp0.zYd++r1}:zWN) r2 else none else some vp0
def zaC (x_g:zWN) (x_l:List Str):Option zWN:=zaH x_l (x_l.length:Int) fuel x_g 0
def zkn (v2:zWY) (o6:Option zW1) (i7:Int):Option (Option zW5 × Int):=if (!(i7==0)) then some (none,1) else if (decide (v2.Kind<1)) then some (none,1) else if (decide ((4:Int)<v2.Kind)) then some (none,1) else if (decide (v2.N<0)) then some (none,1) else if (v2.Kind==3) then some (some (⟨o6,v2,0,false⟩:zW5),0) else if (v2.Kind==2) then some (some (⟨none,v2,v2.N,false⟩:zW5),0) else some (some (⟨none,v2,0,false⟩:zW5),0)
def zma (x_f:zWY) (x_size:Int):Option (Option zW5 × Int):=(zht x_size).bind fun r1=>optK r1.1 (zkn x_f none r1.2) fun r2=>zkn x_f (some r2) r1.2
def zhV:Option Bool:=some false
def zdg (vp0:zXg):Option (Int × zXg):=some (0,vp0)
def ze0 (x_q:zXg) (x_l:List zW0):Option (Int × zXg):=if x_q.zX7 then some (8,x_q) else (za3 x_q.zX0.zXa (x_q.zX0.zXJ.length:Int)).bind fun r1=>if (decide (r1<(x_l.length:Int))) then some (10,x_q) else (zlJ x_l).bind fun r2=>if r2 then some (8,x_q) else if ze x_q.zX0.zXJ.length x_l.length 32 then if (decide ((0:Int)<(x_l.length:Int))) then (za3 (x_l.length:Int) 1).bind fun r3=>(lAt x_l r3).bind fun r4=>zdg (⟨(⟨x_q.zX0.zXJ++x_l,x_q.zX0.zXa⟩:zXB),r4.Close⟩:zXg) else zdg (⟨(⟨x_q.zX0.zXJ++x_l,x_q.zX0.zXa⟩:zXB),false⟩:zXg) else none
def zez (x_c:zW1) (x_trailers:List zWQ):Option (Str × Int × zW1):=(zbV x_c).bind fun r1=>if (!(r1==0)) then some ([],r1,x_c) else (zep x_trailers).bind fun r2=>if (!(r2.2==0)) then some ([],r2.2,x_c) else (zdu x_c.zXs).bind fun r3=>(zb1 r3 r2.1).bind fun r4=>some (r4,0,(⟨x_c.zX4,[],true⟩:zW1))
def za5 (vp0:zW5) (i6:Int) (s7:Str):Option (Str × Int × zW5):=some (s7,i6,({vp0 with zXR:=i6==0}:zW5))
def za8 (x_w:zW5) (x_trailers:List zWQ):Option (Str × Int × zW5):=(zb8 x_w).bind fun r1=>if (!(r1==0)) then some ([],r1,x_w) else if (x_w.zXY.Kind==3) then optK x_w.Encoder ((zfu x_trailers).bind fun r3=>za5 ({x_w with Encoder:=none}:zW5) r3.2 r3.1) fun r2=>(zez r2 x_trailers).bind fun r4=>za5 ({x_w with Encoder:=some r4.2.2}:zW5) r4.2.1 r4.1 else if (decide ((0:Int)<x_w.zXF)) then za5 x_w 6 [] else za5 x_w r1 []
def za9 (vp0:zWN) (v6:zW0):Option zWN:=(zdZ 1 vp0.zXV.Head).bind fun r1=>some ({vp0 with zWP:=r1,zXr:=v6.Close}:zWN)
def zba (vp0:zWN) (v4:zWT):Option zWN:=(zqy v4).bind fun r1=>optK vp0.Queue ((zgr [r1]).bind fun r3=>za9 ({vp0 with Queue:=none}:zWN) (⟨r1.Method,r1.Minor,r1.Close⟩:zW0)) fun r2=>(ze0 r2 [(⟨r1.Method,r1.Minor,r1.Close⟩:zW0)]).bind fun r4=>za9 ({vp0 with Queue:=some r4.2}:zWN) (⟨r1.Method,r1.Minor,r1.Close⟩:zW0)
def z6 (vp0:zWN) (s2:Str):Option zWN:=(zaC vp0 [s2]).bind fun r1=>optK r1.zWP.Accum (zd5.bind fun r3=>zba ({r1 with zWP:=(⟨none,r1.zWP.zXW,r1.zWP.zW8⟩:zWX)}:zWN) r3.1) fun r2=>(zcR r2).bind fun r4=>zba ({r1 with zWP:=(⟨some r2,r1.zWP.zXW,r1.zWP.zW8⟩:zWX)}:zWN) r4.1
def zbW (x_g:zWN):Option zWN:=optK x_g.zWP.zW8 (optK x_g.zWP.zXW (zbN.bind fun r3=>(zbO r3).bind fun r4=>z6 ({x_g with zWP:=(⟨x_g.zWP.Accum,none,none⟩:zWX)}:zWN) r4.1) fun r2=>(za7 r2).bind fun r5=>(zbO r5).bind fun r6=>z6 ({x_g with zWP:=(⟨x_g.zWP.Accum,some r2,none⟩:zWX)}:zWN) r6.1) fun r1=>optK x_g.zWP.zXW (zbN.bind fun r8=>(za8 r1 r8).bind fun r9=>z6 ({x_g with zWP:=(⟨x_g.zWP.Accum,none,some r9.2.2⟩:zWX)}:zWN) r9.1) fun r7=>(za7 r7).bind fun r10=>(za8 r1 r10).bind fun r11=>z6 ({x_g with zWP:=(⟨x_g.zWP.Accum,some r7,some r11.2.2⟩:zWX)}:zWN) r11.1
def zfU (x_b:zXn):Option Bool:=some x_b.zXR
def zbb (vp0:zWN) (t65:Bool):Option zWN:=if t65 then (zbW vp0).bind fun r1=>some r1 else some vp0
def zbc (vp0:zWN):Option zWN:=optK vp0.zWP.zXW (zhV.bind fun r2=>zbb ({vp0 with zWP:=(⟨vp0.zWP.Accum,none,vp0.zWP.zW8⟩:zWX)}:zWN) r2) fun r1=>(zfU r1).bind fun r3=>zbb ({vp0 with zWP:=(⟨vp0.zWP.Accum,some r1,vp0.zWP.zW8⟩:zWX)}:zWN) r3
def zbd (vp0:zWN) (v5:zWY):Option zWN:=(zma v5 vp0.zXV.Chunk).bind fun r1=>optK r1.1 (zbc ({vp0 with zWP:=(⟨vp0.zWP.Accum,vp0.zWP.zXW,none⟩:zWX)}:zWN)) fun r2=>zbc ({vp0 with zWP:=(⟨vp0.zWP.Accum,vp0.zWP.zXW,some r2⟩:zWX)}:zWN)
def zbe (vp0:zWN) (v2:zWT):Option zWN:=(zdM vp0 v2).bind fun r1=>if (!(r1.2.2==0)) then (zaT vp0 r1.2.2).bind fun r2=>some r2 else (zaC vp0 [r1.1]).bind fun r3=>(zr4 r1.2.1 r3.zXV.Head).bind fun r4=>optK r4.1 (zbd ({r3 with zWP:=(⟨r3.zWP.Accum,none,r3.zWP.zW8⟩:zWX)}:zWN) r1.2.1) fun r5=>zbd ({r3 with zWP:=(⟨r3.zWP.Accum,some r5,r3.zWP.zW8⟩:zWX)}:zWN) r1.2.1
def zdh (x_a0:zWN):Option zWN:=optK x_a0.zWP.Accum (zd5.bind fun r2=>zbe ({x_a0 with zWP:=(⟨none,x_a0.zWP.zXW,x_a0.zWP.zW8⟩:zWX)}:zWN) r2.1) fun r1=>(zcR r1).bind fun r3=>zbe ({x_a0 with zWP:=(⟨some r1,x_a0.zWP.zXW,x_a0.zWP.zW8⟩:zWX)}:zWN) r3.1
def zfw (v0:zW4) (i3:Int) (t4:Bool):Option Bool:=(za3 i3 1).bind fun r1=>(lAt v0.zXs r1).bind fun r2=>some (!((r2==10)==t4))
def ziv (x_a:zW4):Option Bool:=if (decide ((1:Int)<(x_a.zXs.length:Int))) then (za3 (x_a.zXs.length:Int) 2).bind fun r1=>(lAt x_a.zXs r1).bind fun r2=>zfw x_a (x_a.zXs.length:Int) (r2==13) else zfw x_a (x_a.zXs.length:Int) false
def zcI (x_c:zWW):Option (Str × zWW):=(zK x_c zg3).bind fun r1=>some (r1.1,r1.2)
def zeM (x_s:Str):Option (zWQ × Int):=(strings_ContainsAny x_s [13,10]).bind fun r1=>if r1 then some ((⟨[],[]⟩:zWQ),24) else (zgG x_s).bind fun r2=>(zcI r2).bind fun r3=>if (!(r3.1==[])) then some ((⟨[],[]⟩:zWQ),23) else (zP r3.2).bind fun r4=>(zcI r4.2.2).bind fun r5=>if (!r4.2.1) then some ((⟨[],[]⟩:zWQ),21) else (zf r5.2 58).bind fun r6=>if (!r6.1) then some ((⟨[],[]⟩:zWQ),21) else if (!(r5.1==[])) then some ((⟨[],[]⟩:zWQ),22) else (zas r6.2).bind fun r7=>(zbU zaS [r7]).bind fun r8=>if (!r8) then some ((⟨[],[]⟩:zWQ),25) else (zas r6.2).bind fun r9=>(zbJ r9 [32,9]).bind fun r10=>some ((⟨r4.1,r10⟩:zWQ),0)
def ziU (l64:List Str) (i65:Int):Nat→zWT→Int→Option (zWT × Int)
 | 0,_,_=>none
 | n+1,v12,i66=>if (decide (i66<i65)) then (lAt l64 i66).bind fun r1=>(zeM r1).bind fun r2=>if (!(r2.2==0)) then some ((⟨0,[],[],0,[],0,[]⟩:zWT),r2.2) else if ze v12.Fields.length ([r2.1]:List zWQ).length 32 then (zd i66 1).bind fun r3=>ziU l64 i65 n ({v12 with Fields:=v12.Fields++[r2.1]}:zWT) r3 else none else (znr v12).bind fun r4=>if (!(r4==0)) then some ((⟨0,[],[],0,[],0,[]⟩:zWT),r4) else some (v12,0)
def zqz (x_a0:Int) (x_a1:Str) (x_a2:Int):Option (zWT × Int):=(zdt x_a0 []).bind fun r1=>if (r1.2==1) then some ((⟨0,[],[],0,[],0,[]⟩:zWT),r1.2) else (strings_Index x_a1 [13,10,13,10]).bind fun r2=>if (decide (x_a2<(x_a1.length:Int))) then some ((⟨0,[],[],0,[],0,[]⟩:zWT),3) else if (decide (r2<0)) then some ((⟨0,[],[],0,[],0,[]⟩:zWT),6) else (zd r2 4).bind fun r3=>if (!(r3==(x_a1.length:Int))) then some ((⟨0,[],[],0,[],0,[]⟩:zWT),6) else (sTo x_a1 r2).bind fun r4=>(strings_Split r4 [13,10]).bind fun r5=>(lAt r5 0).bind fun r6=>(zdt x_a0 r6).bind fun r7=>if (!(r7.2==0)) then some ((⟨0,[],[],0,[],0,[]⟩:zWT),r7.2) else (zpo r5 1).bind fun r8=>ziU r8 (r8.length:Int) fuel r7.1 0
def zeA (vp0:zW4) (i6:Int):Option (Bool × Int × zW4):=some (false,i6,({vp0 with zXO:=(vp0.zXs.length:Int)}:zW4))
def zgs (x_a:zW4) (x_s:Str):Option (Bool × Int × zW4):=if (x_a.zXO==0) then (zdt x_a.zYg x_s).bind fun r1=>zeA x_a r1.2 else if (!(x_s==[])) then (zeM x_s).bind fun r2=>zeA x_a r2.2 else (zqz x_a.zYg x_a.zXs x_a.zX1).bind fun r3=>some (r3.2==0,r3.2,({x_a with zXX:=r3.1}:zW4))
def zgt (x_a:zW4) (x_b:UInt8):Option (Bool × Int × zW4):=if (decide (x_a.zX1≤(x_a.zXs.length:Int))) then some (false,3,x_a) else if ze x_a.zXs.length ([x_b]:List UInt8).length 1 then (ziv ({x_a with zXs:=x_a.zXs++[x_b]}:zW4)).bind fun r1=>if r1 then some (false,24,({x_a with zXs:=x_a.zXs++[x_b]}:zW4)) else if (!(x_b==10)) then some (false,0,({x_a with zXs:=x_a.zXs++[x_b]}:zW4)) else (za3 ((x_a.zXs++[x_b]).length:Int) 2).bind fun r2=>(zDJ (x_a.zXs++[x_b]) x_a.zXO r2).bind fun r3=>(zgs ({x_a with zXs:=x_a.zXs++[x_b]}:zW4) r3).bind fun r4=>some (r4.1,r4.2.1,r4.2.2) else none
def zeB (k0:zW4→Int→Option (Int × Bool × Int × zW4)) (vp0:zW4) (i7:Int) (i25:Int) (t55:Bool):Option (Int × Bool × Int × zW4):=if t55 then (zd i7 1).bind fun r1=>some (r1,vp0.f_whole,vp0.zYf,({vp0 with zXs:=[]}:zW4)) else (zd i25 1).bind fun r2=>k0 vp0 r2
def zaV (s1:Str) (i24:Int):Nat→zW4→Int→Option (Int × Bool × Int × zW4)
 | 0,_,_=>none
 | n+1,vp0,i25=>if (decide (i25<i24)) then (sAt s1 i25).bind fun r1=>(zgt ({vp0 with zYh:=true}:zW4) r1).bind fun r2=>if r2.1 then zeB (zaV s1 i24 n) (⟨r2.2.2.zYg,r2.2.2.zX1,r2.2.2.zXs,r2.2.2.zXO,r2.2.2.zYh,r2.2.1,r2.1,r2.2.2.zXX⟩:zW4) i25 i25 true else zeB (zaV s1 i24 n) (⟨r2.2.2.zYg,r2.2.2.zX1,r2.2.2.zXs,r2.2.2.zXO,r2.2.2.zYh,r2.2.1,r2.1,r2.2.2.zXX⟩:zW4) i25 i25 (!(r2.2.1==0)) else some ((s1.length:Int),false,0,vp0)
def zeq (x_a0:zW4) (x_a1:Str):Option (Int × Bool × Int × zW4):=if (!(x_a0.zYf==0)) then some (0,false,8,x_a0) else if x_a0.f_whole then some (0,false,8,x_a0) else zaV x_a1 (x_a1.length:Int) fuel x_a0 0
def zbC:Nat→zW1→List Str→Option (Str × Int × zW1)
 | 0,_,_=>none
 | n+1,vp0,l7=>if (decide (vp0.zX4≤(vp0.zXs.length:Int))) then (sTo vp0.zXs vp0.zX4).bind fun r1=>(zdu r1).bind fun r2=>if ze l7.length ([r2]:List Str).length 16 then (zZ vp0.zXs vp0.zX4).bind fun r3=>zbC n ({vp0 with zXs:=r3}:zW1) (l7++[r2]) else none else (zbt [] l7).bind fun r4=>some (r4,0,vp0)
def zeC (x_c:zW1) (x_s:Str):Option (Str × Int × zW1):=(zbV x_c).bind fun r1=>if (!(r1==0)) then some ([],r1,x_c) else (zb1 x_c.zXs x_s).bind fun r2=>zbC fuel ({x_c with zXs:=r2}:zW1) []
def zdi (vp0:zW5) (s4:Str) (i5:Int):Option (Str × Int × zW5):=some (s4,i5,vp0)
def zdj (vp0:zW5) (s1:Str):Option (Str × Int × zW5):=some (s1,0,vp0)
def zdk (vp0:zW5) (s1:Str) (t27:Bool):Option (Str × Int × zW5):=if t27 then if (decide (vp0.zXF<(s1.length:Int))) then some ([],3,vp0) else (za3 vp0.zXF (s1.length:Int)).bind fun r1=>zdj ({vp0 with zXF:=r1}:zW5) s1 else zdj vp0 s1
def zdc (x_w:zW5) (x_s:Str):Option (Str × Int × zW5):=(zb8 x_w).bind fun r1=>if (!(r1==0)) then some ([],r1,x_w) else if (x_w.zXY.Kind==3) then optK x_w.Encoder ((zfv x_s).bind fun r3=>zdi ({x_w with Encoder:=none}:zW5) r3.1 r3.2) fun r2=>(zeC r2 x_s).bind fun r4=>zdi ({x_w with Encoder:=some r4.2.2}:zW5) r4.1 r4.2.1 else if (x_w.zXY.Kind==1) then zdk x_w x_s true else zdk x_w x_s (x_w.zXY.Kind==2)
def zcw (vp0:zWS) (s1:Str) (i5:Int):Option (Str × zWS):=(sTo s1 i5).bind fun r1=>some (r1,vp0)
def zdN (x_d:zWS) (x_s:Str):Option (Str × zWS):=(za3 x_d.zXF (min x_d.zXF (x_s.length:Int))).bind fun r1=>if (r1==0) then zcw ({x_d with zXj:=2,zXF:=2}:zWS) x_s (min x_d.zXF (x_s.length:Int)) else zcw ({x_d with zXF:=r1}:zWS) x_s (min x_d.zXF (x_s.length:Int))
def zb9 (vp0:zWS):Option (Int × zWS):=some (0,vp0)
def zca (vp0:zWS) (b1:UInt8) (b5:UInt8):Option (Int × zWS):=if (!(b1==b5)) then some (31,vp0) else (za3 vp0.zXF 1).bind fun r1=>if (r1==0) then zb9 ({vp0 with zXj:=0,zXF:=r1}:zWS) else zb9 ({vp0 with zXF:=r1}:zWS)
def zdl (x_d:zWS) (x_b:UInt8):Option (Int × zWS):=if (x_d.zXF==1) then zca x_d x_b 10 else zca x_d x_b 13
def zou (x_s:Str) (x_most:Int):Option (Int × Int):=(zjX x_s 16 x_most zdX).bind fun r1=>some (r1.1,r1.2)
def zlK (x_c:zWW):Option (Str × Bool × zWW):=(zP x_c).bind fun r1=>if r1.2.1 then some (r1.1,true,r1.2.2) else (ziP r1.2.2).bind fun r2=>some (r2.1,r2.2.1,r2.2.2)
def ze1 (x_r:zXz):Option (zXp × Bool × zWW):=(zP x_r.Scanner).bind fun r1=>if (!r1.2.1) then some ((⟨r1.1,[],false⟩:zXp),r1.2.1,r1.2.2) else (zf r1.2.2 61).bind fun r2=>if (!r2.1) then some ((⟨r1.1,[],false⟩:zXp),r1.2.1,r2.2) else (zlK r2.2).bind fun r3=>some ((⟨r1.1,r3.1,true⟩:zXp),r3.2.1,r3.2.2)
def zer (i7:Int) (i8:Int):Nat→zXz→List zXp→Option (Int × List zXp × Int)
 | 0,_,_=>none
 | n+1,v5,l9=>(zf v5.Scanner 59).bind fun r1=>if r1.1 then (ze1 (⟨r1.2⟩:zXz)).bind fun r2=>if (!r2.2.1) then some (0,[],31) else if ze l9.length ([r2.1]:List zXp).length 40 then zer i7 i8 n (⟨r2.2.2⟩:zXz) (l9++[r2.1]) else none else (zao r1.2).bind fun r3=>if (!r3) then some (0,[],31) else if (i8==2) then some (0,[],31) else if (!(i8==0)) then some (0,[],i8) else some (i7,l9,0)
def zji (x_s:Str):Option (Int × List zXp × Int):=(zgG x_s).bind fun r1=>(zK r1 zdX).bind fun r2=>(zou r2.1 1099511627776).bind fun r3=>zer r3.1 r3.2 fuel (⟨r2.2⟩:zXz) []
def zdO (x_d:zWS) (x_s:Str):Option (Int × zWS):=(zji x_s).bind fun r1=>if (!(r1.2.2==0)) then some (r1.2.2,x_d) else (za3 1099511627776 x_d.zYk).bind fun r2=>if (decide (r2<r1.1)) then some (7,x_d) else if (r1.1==0) then some (0,({x_d with zXj:=3}:zWS)) else (zd x_d.zYk r1.1).bind fun r3=>some (0,({x_d with zXj:=1,zXF:=r1.1,zYk:=r3}:zWS))
def zcx (x_d:zWS) (x_s:Str):Option (Bool × Int × zWS):=if (x_s==[]) then some (true,0,x_d) else (zeM x_s).bind fun r1=>if (!(r1.2==0)) then some (false,r1.2,x_d) else if (decide ((100:Int)≤(x_d.zXU.length:Int))) then some (false,3,x_d) else if ze x_d.zXU.length ([r1.1]:List zWQ).length 32 then some (false,0,({x_d with zXU:=x_d.zXU++[r1.1]}:zWS)) else none
def zcb (vp0:zWS) (b1:UInt8) (i6:Int) (t7:Bool) (t39:Bool):Option (Bool × Int × zWS):=if t39 then some (false,3,vp0) else if (!((b1==10)==t7)) then some (false,24,vp0) else if (!(b1==10)) then if ze vp0.zX2.length ([b1]:List UInt8).length 1 then some (false,0,({vp0 with zX2:=vp0.zX2++[b1]}:zWS)) else none else (za3 i6 1).bind fun r1=>(lTo vp0.zX2 r1).bind fun r2=>if (vp0.zXj==0) then (zdO ({vp0 with zX2:=[]}:zWS) r2).bind fun r3=>some (false,r3.1,r3.2) else (zcx ({vp0 with zX2:=[]}:zWS) r2).bind fun r4=>some (r4.1,r4.2.1,r4.2.2)
def zcc (vp0:zWS) (b1:UInt8) (i6:Int) (t7:Bool):Option (Bool × Int × zWS):=if (decide ((4098:Int)≤i6)) then zcb vp0 b1 i6 t7 true else zcb vp0 b1 i6 t7 (decide (vp0.zX1<vp0.zX8))
def zcd (vp0:zWS) (b1:UInt8):Option (Bool × Int × zWS):=if (decide ((0:Int)<(vp0.zX2.length:Int))) then (za3 (vp0.zX2.length:Int) 1).bind fun r1=>(lAt vp0.zX2 r1).bind fun r2=>zcc vp0 b1 (vp0.zX2.length:Int) (r2==13) else zcc vp0 b1 (vp0.zX2.length:Int) false
def zdm (x_a0:zWS) (x_a1:UInt8):Option (Bool × Int × zWS):=if (x_a0.zXj==3) then (zd x_a0.zX8 1).bind fun r1=>zcd ({x_a0 with zX8:=r1}:zWS) x_a1 else zcd x_a0 x_a1
def zdP (x_d:zWS) (x_s:Str):Option (Int × Str × Bool × Int × zWS):=if (x_d.zXj==1) then (zdN x_d x_s).bind fun r1=>some ((r1.1.length:Int),r1.1,false,0,r1.2) else if (x_d.zXj==2) then (sAt x_s 0).bind fun r2=>(zdl x_d r2).bind fun r3=>some (1,[],false,r3.1,r3.2) else (sAt x_s 0).bind fun r4=>(zdm x_d r4).bind fun r5=>some (1,[],r5.1,r5.2.1,r5.2.2)
def zcy (vp0:zWS) (i4:Int) (t6:Bool) (i7:Int) (l8:List UInt8):Option (Int × Str × Bool × Int × zWS):=some (i4,l8,t6,i7,vp0)
def zcz (vp0:zWS) (i4:Int) (t6:Bool) (i7:Int) (l8:List UInt8) (t51:Bool):Option (Int × Str × Bool × Int × zWS):=if t51 then zcy ({vp0 with zXj:=4,zX2:=[]}:zWS) i4 t6 i7 l8 else zcy vp0 i4 t6 i7 l8
def zbq (k0:zWS→Int→Bool→Int→List UInt8→Option (Int × Str × Bool × Int × zWS)) (vp0:zWS) (s1:Str) (i4:Int) (t6:Bool) (i7:Int) (l8:List UInt8) (t30:Bool):Option (Int × Str × Bool × Int × zWS):=if t30 then (zZ s1 i4).bind fun r1=>(zdP vp0 r1).bind fun r2=>if ze l8.length r2.2.1.length 1 then (zd i4 r2.1).bind fun r3=>k0 r2.2.2.2.2 r3 r2.2.2.1 r2.2.2.2.1 (l8++r2.2.1) else none else if t6 then zcz vp0 i4 t6 i7 l8 true else zcz vp0 i4 t6 i7 l8 (!(i7==0))
def zT (s1:Str):Nat→zWS→Int→Bool→Int→List UInt8→Option (Int × Str × Bool × Int × zWS)
 | 0,_,_,_,_,_=>none
 | n+1,vp0,i4,t6,i7,l8=>if (decide (i4<(s1.length:Int))) then if (!t6) then zbq (zT s1 n) vp0 s1 i4 t6 i7 l8 (i7==0) else zbq (zT s1 n) vp0 s1 i4 t6 i7 l8 false else zbq (zT s1 n) vp0 s1 i4 t6 i7 l8 false
def zdQ (x_d:zWS) (x_s:Str):Option (Int × Str × Bool × Int × zWS):=if (x_d.zXj==4) then some (0,[],false,8,x_d) else zT x_s fuel x_d 0 false 0 []
def zfx (vp0:zXn) (i4:Int) (s5:Str) (t6:Bool) (i7:Int):Option (Int × Str × Bool × Int × zXn):=some (i4,s5,t6,i7,({vp0 with zXR:=t6,zYf := !(i7==0)}:zXn))
def zfy (vp0:zXn) (s1:Str) (i4:Int):Option (Int × Str × Bool × Int × zXn):=(sTo s1 i4).bind fun r1=>some (i4,r1,vp0.zXR,0,vp0)
def zfV (x_a0:zXn) (x_a1:Str):Option (Int × Str × Bool × Int × zXn):=if x_a0.zXR then some (0,[],false,8,x_a0) else if x_a0.zYf then some (0,[],false,8,x_a0) else if (x_a0.zXY.Kind==3) then optK x_a0.Decoder ((zeY x_a1).bind fun r2=>zfx ({x_a0 with Decoder:=none}:zXn) r2.1 r2.2.1 r2.2.2.1 r2.2.2.2) fun r1=>(zdQ r1 x_a1).bind fun r3=>zfx ({x_a0 with Decoder:=some r3.2.2.2.2}:zXn) r3.1 r3.2.1 r3.2.2.1 r3.2.2.2.1 else if (x_a0.zXY.Kind==2) then (za3 x_a0.zXF (min (x_a1.length:Int) x_a0.zXF)).bind fun r4=>zfy ({x_a0 with zXF:=r4,zXR:=r4==0}:zXn) x_a1 (min (x_a1.length:Int) x_a0.zXF) else zfy x_a0 x_a1 (x_a1.length:Int)
def zaI (vp0:zWN) (i5:Int) (t6:Bool) (i7:Int):Option (Int × zWN):=if (!(i7==0)) then (zaT vp0 i7).bind fun r1=>some (i5,r1) else if t6 then (zdh vp0).bind fun r2=>some (i5,r2) else some (i5,vp0)
def zaJ (vp0:zWN) (i8:Int) (t10:Bool) (i11:Int) (s12:Str):Option (Int × zWN):=(zaC vp0 [s12]).bind fun r1=>if (!(i11==0)) then (zaT r1 i11).bind fun r2=>some (i8,r2) else if t10 then (zbW r1).bind fun r3=>some (i8,r3) else some (i8,r1)
def zaK (vp0:zWN) (i8:Int) (s9:Str) (t10:Bool) (i11:Int):Option (Int × zWN):=optK vp0.zWP.zW8 ((zeo s9).bind fun r2=>zaJ ({vp0 with zWP:=(⟨vp0.zWP.Accum,vp0.zWP.zXW,none⟩:zWX)}:zWN) i8 t10 i11 r2.1) fun r1=>(zdc r1 s9).bind fun r3=>zaJ ({vp0 with zWP:=(⟨vp0.zWP.Accum,vp0.zWP.zXW,some r3.2.2⟩:zWX)}:zWN) i8 t10 i11 r3.1
def zaL (vp0:zWN) (s1:Str) (t19:Bool):Option (Int × zWN):=if t19 then optK vp0.zWP.Accum ((zfQ s1).bind fun r2=>zaI ({vp0 with zWP:=(⟨none,vp0.zWP.zXW,vp0.zWP.zW8⟩:zWX)}:zWN) r2.1 r2.2.1 r2.2.2) fun r1=>(zeq r1 s1).bind fun r3=>zaI ({vp0 with zWP:=(⟨some r3.2.2.2,vp0.zWP.zXW,vp0.zWP.zW8⟩:zWX)}:zWN) r3.1 r3.2.1 r3.2.2.1 else optK vp0.zWP.zXW ((zhU s1).bind fun r5=>zaK ({vp0 with zWP:=(⟨vp0.zWP.Accum,none,vp0.zWP.zW8⟩:zWX)}:zWN) r5.1 r5.2.1 r5.2.2.1 r5.2.2.2) fun r4=>(zfV r4 s1).bind fun r6=>zaK ({vp0 with zWP:=(⟨vp0.zWP.Accum,some r6.2.2.2.2,vp0.zWP.zW8⟩:zWX)}:zWN) r6.1 r6.2.1 r6.2.2.1 r6.2.2.2.1
def zcA (x_a0:zWN) (x_a1:Str):Option (Int × zWN):=optK x_a0.zWP.zXW (zaL ({x_a0 with zWP:=(⟨x_a0.zWP.Accum,none,x_a0.zWP.zW8⟩:zWX)}:zWN) x_a1 true) fun r1=>zaL ({x_a0 with zWP:=(⟨x_a0.zWP.Accum,some r1,x_a0.zWP.zW8⟩:zWX)}:zWN) x_a1 false
def zbr (l6:List Str) (i7:Int):Nat→zWN→Int→Option zWN
 | 0,_,_=>none
 | n+1,vp0,i8=>if (decide (i8<i7)) then (lAt l6 i8).bind fun r1=>if ze vp0.zXQ.length r1.length 1 then (zd i8 1).bind fun r2=>zbr l6 i7 n ({vp0 with zXQ:=vp0.zXQ++r1}:zWN) r2 else none else some vp0
def zag (x_g:zWN) (x_l:List Str):Option zWN:=zbr x_l (x_l.length:Int) fuel x_g 0
def z8 (x_g:zWN):Option zWN:=some ({x_g with zWP:=(⟨none,none,none⟩:zWX),zWO:=(⟨none,none,none⟩:zWX),zWZ:=true}:zWN)
def zaF (x_g:zWN) (x_code:Int):Option zWN:=(zus x_code).bind fun r1=>(zag x_g [r1]).bind fun r2=>(z8 r2).bind fun r3=>some r3
def zaj (vp0:zWN) (i2:Int) (t13:Bool):Option zWN:=if t13 then (zaF vp0 502).bind fun r1=>some r1 else if (decide ((0:Int)<i2)) then some vp0 else if (!(vp0.zYe==0)) then (zaF vp0 vp0.zYe).bind fun r2=>some r2 else if vp0.zYa then (z8 vp0).bind fun r3=>some r3 else some vp0
def za0 (vp0:zWN) (i2:Int):Option zWN:=if vp0.zWZ then some vp0 else if (decide ((0:Int)<i2)) then if vp0.zXT then zaj vp0 i2 (!vp0.zX6) else zaj vp0 i2 false else zaj vp0 i2 false
def zN (x_g:zWN):Option zWN:=optK x_g.Queue (zeZ.bind fun r2=>za0 ({x_g with Queue:=none}:zWN) r2) fun r1=>(zdz r1).bind fun r3=>za0 ({x_g with Queue:=some r1}:zWN) r3
def zak (k0:zWN→Int→Option (Int × Int × zWN)) (vp0:zWN) (s1:Str) (i6:Int) (t28:Bool):Option (Int × Int × zWN):=if t28 then (zZ s1 i6).bind fun r1=>(zcA vp0 r1).bind fun r2=>(zd i6 r2.1).bind fun r3=>(zN r2.2).bind fun r4=>k0 r4 r3 else some (i6,0,vp0)
def zA (s1:Str):Nat→zWN→Int→Option (Int × Int × zWN)
 | 0,_,_=>none
 | n+1,vp0,i6=>if (decide (i6<(s1.length:Int))) then (zan vp0).bind fun r1=>zak (zA s1 n) vp0 s1 i6 r1 else zak (zA s1 n) vp0 s1 i6 false
def zG (x_g:zWN) (x_s:Str):Option (Int × Int × zWN):=if x_g.zWZ then some (0,8,x_g) else if x_g.zYa then some (0,8,x_g) else zA x_s fuel x_g 0
def zbf (x_g:zWN):Option (Str × zWN):=some (x_g.zXQ,({x_g with zXQ:=[]}:zWN))
def zaM (x_g:zWN):Option (Str × zWN):=some (x_g.zYd,({x_g with zYd:=[]}:zWN))
def ziw:Option Int:=some 0
def zhW:Option Int:=some 0
def zbv:Option Int:=some 0
def ze2:Option Int:=some 0
def zdR (x_c:zW1):Option Int:=some (x_c.zXs.length:Int)
def zaW (x_w:zW5):Option Int:=optK x_w.Encoder (ze2.bind fun r2=>some r2) fun r1=>(zdR r1).bind fun r3=>some r3
def ze3:Option Int:=some 0
def zdS (x_d:zWS):Option Int:=some (x_d.zX2.length:Int)
def zfW (x_b:zXn):Option Int:=optK x_b.Decoder (ze3.bind fun r2=>some r2) fun r1=>(zdS r1).bind fun r3=>some r3
def zgu (x_a:zW4):Option Int:=some (x_a.zXs.length:Int)
def ze4 (x_s:zWX):Option Int:=optK x_s.Accum (ziw.bind fun r2=>optK x_s.zXW (zhW.bind fun r4=>(zd r2 r4).bind fun r5=>optK x_s.zW8 (zbv.bind fun r7=>(zd r5 r7).bind fun r8=>some r8) fun r6=>(zaW r6).bind fun r9=>(zd r5 r9).bind fun r10=>some r10) fun r3=>(zfW r3).bind fun r11=>(zd r2 r11).bind fun r12=>optK x_s.zW8 (zbv.bind fun r14=>(zd r12 r14).bind fun r15=>some r15) fun r13=>(zaW r13).bind fun r16=>(zd r12 r16).bind fun r17=>some r17) fun r1=>(zgu r1).bind fun r18=>optK x_s.zXW (zhW.bind fun r20=>(zd r18 r20).bind fun r21=>optK x_s.zW8 (zbv.bind fun r23=>(zd r21 r23).bind fun r24=>some r24) fun r22=>(zaW r22).bind fun r25=>(zd r21 r25).bind fun r26=>some r26) fun r19=>(zfW r19).bind fun r27=>(zd r18 r27).bind fun r28=>optK x_s.zW8 (zbv.bind fun r30=>(zd r28 r30).bind fun r31=>some r31) fun r29=>(zaW r29).bind fun r32=>(zd r28 r32).bind fun r33=>some r33
def zco (x_g:zWN):Option zXP:=(ze4 x_g.zWP).bind fun r1=>(ze4 x_g.zWO).bind fun r2=>some (⟨r1,r2⟩:zXP)
def zu (x_w:zWV):Option zWV:=(zbf x_w.Gateway).bind fun r1=>if ze x_w.zWP.zXe.length r1.1.length 1 then (zaM r1.2).bind fun r2=>if ze x_w.zWO.zXe.length r2.1.length 1 then (zco r2.2).bind fun r3=>some (⟨r2.2,(⟨x_w.zWP.zXq,x_w.zWP.zXh,x_w.zWP.zXC,x_w.zWP.zXw,x_w.zWP.zXe++r1.1,x_w.zWP.zXS,x_w.zWP.zX3⟩:zXu),(⟨x_w.zWO.zXq,x_w.zWO.zXh,x_w.zWO.zXC,x_w.zWO.zXw,x_w.zWO.zXe++r2.1,x_w.zWO.zXS,x_w.zWO.zX3⟩:zXu),(⟨max x_w.zXa.Client r3.Client,max x_w.zXa.Upstream r3.Upstream⟩:zXP)⟩:zWV) else none else none
def zfz:Option (zW0 × Bool):=some ((⟨[],0,false⟩:zW0),false)
def zov (x_f:zWY) (x_minor:Int):Option zWY:=if (x_f.Kind==1) then some x_f else if (x_f.Kind==2) then some x_f else if (x_minor==1) then some (⟨3,0⟩:zWY) else some (⟨4,0⟩:zWY)
def zhj (x_r:zXB):Option (zW0 × Bool):=if ((x_r.zXJ.length:Int)==0) then some ((⟨[],0,false⟩:zW0),false) else (lAt x_r.zXJ 0).bind fun r1=>some (r1,true)
def zeD (x_q:zXg):Option (zW0 × Bool):=(zhj x_q.zX0).bind fun r1=>some (r1.1,r1.2)
def zhk:Option Bool:=some false
def zaN (vp0:zWN) (i8:Int):Option (Int × zWN):=(zdZ 2 vp0.zXV.Head).bind fun r1=>some (i8,({vp0 with zWO:=r1}:zWN))
def zaO (vp0:zWN) (i8:Int) (s9:Str) (t43:Bool):Option (Int × zWN):=if t43 then (zag vp0 [s9]).bind fun r1=>zaN (⟨r1.Queue,r1.zYb,r1.zXV,r1.zXZ,r1.zWP,r1.zWO,r1.zXQ,r1.zYd,r1.zYe,r1.zXr,r1.zYa,r1.zXT,r1.zX6,r1.zX7,r1.zX9,r1.zWZ⟩:zWN) i8 else zaN vp0 i8
def zcB (x_g:zWN) (x_h:zWT) (x_t:zW0):Option (Int × zWN):=(zir x_g.zYb (⟨1,0⟩:zWY) x_h x_g.zXZ).bind fun r1=>if (!(r1.2==0)) then some (r1.2,x_g) else (zjt r1.1 x_g.zXV.Head).bind fun r2=>if (r2.2==0) then zaO x_g r2.2 r2.1 (x_t.Minor==1) else zaO x_g r2.2 r2.1 false
def zfX (v3:zWT):Option zWT:=some v3
def zlL (x_h:zWT) (x_close:Bool) (x_minor:Int):Option zWT:=if ze ([]:List zWQ).length x_h.Fields.length 32 then if x_close then if ze (([]:List zWQ)++x_h.Fields).length ([(⟨[67,111,110,110,101,99,116,105,111,110],[99,108,111,115,101]⟩:zWQ)]:List zWQ).length 32 then zfX ({x_h with Fields:=(([]:List zWQ)++x_h.Fields)++([(⟨[67,111,110,110,101,99,116,105,111,110],[99,108,111,115,101]⟩:zWQ)])}:zWT) else none else if (x_minor==0) then if ze (([]:List zWQ)++x_h.Fields).length ([(⟨[67,111,110,110,101,99,116,105,111,110],[107,101,101,112,45,97,108,105,118,101]⟩:zWQ)]:List zWQ).length 32 then zfX ({x_h with Fields:=(([]:List zWQ)++x_h.Fields)++([(⟨[67,111,110,110,101,99,116,105,111,110],[107,101,101,112,45,97,108,105,118,101]⟩:zWQ)])}:zWT) else none else zfX ({x_h with Fields:=([]:List zWQ)++x_h.Fields}:zWT) else none
def zfA (x_q:zXg):Option (Bool × zXg):=if ((x_q.zX0.zXJ.length:Int)==0) then some (false,x_q) else (lAt x_q.zX0.zXJ 0).bind fun r1=>(zpo x_q.zX0.zXJ 1).bind fun r2=>some (true,(⟨(⟨r2,x_q.zX0.zXa⟩:zXB),x_q.zX7⟩:zXg))
def zaw (vp0:zWN):Option zWN:=(zdZ 2 vp0.zXV.Head).bind fun r1=>if vp0.zX7 then (z8 ({vp0 with zWO:=r1}:zWN)).bind fun r2=>some r2 else some ({vp0 with zWO:=r1}:zWN)
def zax (vp0:zWN):Option zWN:=if vp0.zXT then zaw ({vp0 with zXT:=true,zX6:=false}:zWN) else zaw ({vp0 with zXT:=vp0.zX9,zX6:=false}:zWN)
def zR (vp0:zWN) (s2:Str):Option zWN:=(zag vp0 [s2]).bind fun r1=>optK r1.Queue (zhk.bind fun r3=>zax ({r1 with Queue:=none}:zWN)) fun r2=>(zfA r2).bind fun r4=>zax ({r1 with Queue:=some r4.2}:zWN)
def zar (x_g:zWN):Option zWN:=optK x_g.zWO.zW8 (optK x_g.zWO.zXW (zbN.bind fun r3=>(zbO r3).bind fun r4=>zR ({x_g with zWO:=(⟨x_g.zWO.Accum,none,none⟩:zWX)}:zWN) r4.1) fun r2=>(za7 r2).bind fun r5=>(zbO r5).bind fun r6=>zR ({x_g with zWO:=(⟨x_g.zWO.Accum,some r2,none⟩:zWX)}:zWN) r6.1) fun r1=>optK x_g.zWO.zXW (zbN.bind fun r8=>(za8 r1 r8).bind fun r9=>zR ({x_g with zWO:=(⟨x_g.zWO.Accum,none,some r9.2.2⟩:zWX)}:zWN) r9.1) fun r7=>(za7 r7).bind fun r10=>(za8 r1 r10).bind fun r11=>zR ({x_g with zWO:=(⟨x_g.zWO.Accum,some r7,some r11.2.2⟩:zWX)}:zWN) r11.1
def zbg (vp0:zWN) (t123:Bool):Option (Int × zWN):=if t123 then (zar vp0).bind fun r1=>some (0,r1) else some (0,vp0)
def zbh (vp0:zWN):Option (Int × zWN):=optK vp0.zWO.zXW (zhV.bind fun r2=>zbg ({vp0 with zWO:=(⟨vp0.zWO.Accum,none,vp0.zWO.zW8⟩:zWX)}:zWN) r2) fun r1=>(zfU r1).bind fun r3=>zbg ({vp0 with zWO:=(⟨vp0.zWO.Accum,some r1,vp0.zWO.zW8⟩:zWX)}:zWN) r3
def zbi (vp0:zWN) (v9:zWY):Option (Int × zWN):=(zma v9 vp0.zXV.Chunk).bind fun r1=>optK r1.1 (zbh ({vp0 with zWO:=(⟨vp0.zWO.Accum,vp0.zWO.zXW,none⟩:zWX)}:zWN)) fun r2=>zbh ({vp0 with zWO:=(⟨vp0.zWO.Accum,vp0.zWO.zXW,some r2⟩:zWX)}:zWN)
def zbj (vp0:zWN) (v5:zW0) (v7:zWY) (v9:zWY) (v10:zWT):Option (Int × zWN):=(zlL v10 vp0.zX7 v5.Minor).bind fun r1=>(zjt r1 vp0.zXV.Head).bind fun r2=>if (!(r2.2==0)) then some (r2.2,vp0) else (zag vp0 [r2.1]).bind fun r3=>(zr4 v7 r3.zXV.Head).bind fun r4=>optK r4.1 (zbi ({r3 with zWO:=(⟨r3.zWO.Accum,none,r3.zWO.zW8⟩:zWX),zX6:=true}:zWN) v9) fun r5=>zbi ({r3 with zWO:=(⟨r3.zWO.Accum,some r5,r3.zWO.zW8⟩:zWX),zX6:=true}:zWN) v9
def zbk (vp0:zWN) (v4:zWT) (v5:zW0) (v7:zWY) (v9:zWY) (v10:zWT):Option (Int × zWN):=(zpl v4).bind fun r1=>if r1 then zbj ({vp0 with zX9:=true}:zWN) v5 v7 v9 v10 else zbj ({vp0 with zX9:=v7.Kind==4}:zWN) v5 v7 v9 v10
def zdn (x_a0:zWN) (x_a1:zWT) (x_a2:zW0):Option (Int × zWN):=(zgT x_a2.Method x_a1).bind fun r1=>if (!(r1.2==0)) then some (r1.2,x_a0) else (zov r1.1 x_a2.Minor).bind fun r2=>(zir x_a0.zYb r2 x_a1 x_a0.zXZ).bind fun r3=>if (!(r3.2==0)) then some (r3.2,x_a0) else if x_a2.Close then zbk ({x_a0 with zX7:=true}:zWN) x_a1 x_a2 r1.1 (⟨r2.Kind,r2.N⟩:zWY) r3.1 else zbk ({x_a0 with zX7:=r2.Kind==4}:zWN) x_a1 x_a2 r1.1 (⟨r2.Kind,r2.N⟩:zWY) r3.1
def zac (vp0:zWN) (i6:Int):Option zWN:=if (!(i6==0)) then (zaF vp0 502).bind fun r1=>some r1 else some vp0
def zaP (vp0:zWN) (v2:zWT) (v4:zW0):Option zWN:=if (v2.Code==101) then zac vp0 20 else if (decide (v2.Code<200)) then (zcB vp0 v2 v4).bind fun r1=>zac r1.2 r1.1 else (zdn vp0 v2 v4).bind fun r2=>zac r2.2 r2.1
def zaQ (vp0:zWN) (v2:zWT):Option zWN:=optK vp0.Queue (zfz.bind fun r2=>zaP ({vp0 with Queue:=none}:zWN) v2 r2.1) fun r1=>(zeD r1).bind fun r3=>zaP ({vp0 with Queue:=some r1}:zWN) v2 r3.1
def zcC (x_g:zWN):Option zWN:=optK x_g.zWO.Accum (zd5.bind fun r2=>zaQ ({x_g with zWO:=(⟨none,x_g.zWO.zXW,x_g.zWO.zW8⟩:zWX)}:zWN) (⟨r2.1.Kind,r2.1.Method,r2.1.Target,r2.1.Code,r2.1.Reason,r2.1.Minor,r2.1.Fields⟩:zWT)) fun r1=>(zcR r1).bind fun r3=>zaQ ({x_g with zWO:=(⟨some r1,x_g.zWO.zXW,x_g.zWO.zW8⟩:zWX)}:zWN) r3.1
def zay (vp0:zWN) (i5:Int) (t6:Bool) (i7:Int):Option (Int × zWN):=if (!(i7==0)) then (zaF vp0 502).bind fun r1=>some (i5,r1) else if t6 then (zcC vp0).bind fun r2=>some (i5,r2) else some (i5,vp0)
def zaz (vp0:zWN) (i8:Int) (t10:Bool) (i11:Int) (s12:Str):Option (Int × zWN):=(zag vp0 [s12]).bind fun r1=>if (!(i11==0)) then (z8 r1).bind fun r2=>some (i8,r2) else if t10 then (zar r1).bind fun r3=>some (i8,r3) else some (i8,r1)
def zaA (vp0:zWN) (i8:Int) (s9:Str) (t10:Bool) (i11:Int):Option (Int × zWN):=optK vp0.zWO.zW8 ((zeo s9).bind fun r2=>zaz ({vp0 with zWO:=(⟨vp0.zWO.Accum,vp0.zWO.zXW,none⟩:zWX)}:zWN) i8 t10 i11 r2.1) fun r1=>(zdc r1 s9).bind fun r3=>zaz ({vp0 with zWO:=(⟨vp0.zWO.Accum,vp0.zWO.zXW,some r3.2.2⟩:zWX)}:zWN) i8 t10 i11 r3.1
def zaB (vp0:zWN) (s1:Str) (t19:Bool):Option (Int × zWN):=if t19 then optK vp0.zWO.Accum ((zfQ s1).bind fun r2=>zay ({vp0 with zWO:=(⟨none,vp0.zWO.zXW,vp0.zWO.zW8⟩:zWX)}:zWN) r2.1 r2.2.1 r2.2.2) fun r1=>(zeq r1 s1).bind fun r3=>zay ({vp0 with zWO:=(⟨some r3.2.2.2,vp0.zWO.zXW,vp0.zWO.zW8⟩:zWX)}:zWN) r3.1 r3.2.1 r3.2.2.1 else optK vp0.zWO.zXW ((zhU s1).bind fun r5=>zaA ({vp0 with zWO:=(⟨vp0.zWO.Accum,none,vp0.zWO.zW8⟩:zWX)}:zWN) r5.1 r5.2.1 r5.2.2.1 r5.2.2.2) fun r4=>(zfV r4 s1).bind fun r6=>zaA ({vp0 with zWO:=(⟨vp0.zWO.Accum,some r6.2.2.2.2,vp0.zWO.zW8⟩:zWX)}:zWN) r6.1 r6.2.1 r6.2.2.1 r6.2.2.2.1
def zce (x_a0:zWN) (x_a1:Str):Option (Int × zWN):=optK x_a0.zWO.zXW (zaB ({x_a0 with zWO:=(⟨x_a0.zWO.Accum,none,x_a0.zWO.zW8⟩:zWX)}:zWN) x_a1 true) fun r1=>zaB ({x_a0 with zWO:=(⟨x_a0.zWO.Accum,some r1,x_a0.zWO.zW8⟩:zWX)}:zWN) x_a1 false
def zq (k0:zWN→Int→Option (Int × Int × zWN)) (vp0:zWN) (s1:Str) (i6:Int) (t46:Bool):Option (Int × Int × zWN):=if t46 then (zZ s1 i6).bind fun r1=>(zce vp0 r1).bind fun r2=>(zd i6 r2.1).bind fun r3=>(zN r2.2).bind fun r4=>k0 r4 r3 else some (i6,0,vp0)
def zh (s1:Str):Nat→zWN→Int→Option (Int × Int × zWN)
 | 0,_,_=>none
 | n+1,vp0,i6=>if (decide (i6<(s1.length:Int))) then if (!vp0.zWZ) then if (!vp0.zXT) then optK vp0.Queue (zeZ.bind fun r2=>zq (zh s1 n) ({vp0 with Queue:=none}:zWN) s1 i6 (decide ((0:Int)<r2))) fun r1=>(zdz r1).bind fun r3=>zq (zh s1 n) ({vp0 with Queue:=some r1}:zWN) s1 i6 (decide ((0:Int)<r3)) else zq (zh s1 n) vp0 s1 i6 false else zq (zh s1 n) vp0 s1 i6 false else zq (zh s1 n) vp0 s1 i6 false
def zl (x_g:zWN) (x_s:Str):Option (Int × Int × zWN):=if x_g.zWZ then some (0,8,x_g) else if x_g.zXT then some (0,8,x_g) else zh x_s fuel x_g 0
def zF (x_g:zWN):Option (Int × zWN):=if x_g.zWZ then some (8,x_g) else if x_g.zYa then some (8,x_g) else (zN ({x_g with zWP:=(⟨none,none,none⟩:zWX),zXr:=true,zYa:=true}:zWN)).bind fun r1=>some (0,r1)
def zlM:Option (Bool × Int):=some (false,5)
def zgv (vp0:zXn):Option (Bool × Int × zXn):=some (true,0,vp0)
def zjj (x_b:zXn):Option (Bool × Int × zXn):=if (x_b.zXY.Kind==4) then zgv ({x_b with zXR:=true}:zXn) else if (!x_b.zXR) then some (false,6,x_b) else zgv x_b
def zH (vp0:zWN) (t3:Bool):Option (Int × zWN):=if t3 then (zar vp0).bind fun r1=>(zN r1).bind fun r2=>some (0,r2) else (z8 vp0).bind fun r3=>(zN r3).bind fun r4=>some (0,r4)
def zr (x_g:zWN):Option (Int × zWN):=if x_g.zWZ then some (8,x_g) else if x_g.zXT then some (8,x_g) else if x_g.zX6 then optK x_g.zWO.zXW (zlM.bind fun r2=>zH ({x_g with zWO:=(⟨x_g.zWO.Accum,none,x_g.zWO.zW8⟩:zWX),zXT:=true}:zWN) r2.1) fun r1=>(zjj r1).bind fun r3=>zH ({x_g with zWO:=(⟨x_g.zWO.Accum,some r3.2.2,x_g.zWO.zW8⟩:zWX),zXT:=true}:zWN) r3.1 else (zN ({x_g with zXT:=true}:zWN)).bind fun r4=>some (0,r4)
def zgU (vp0:zWV) (i4:Int) (i5:Int):Option (Int × Int × Option zWV):=some (i4,i5,some vp0)
def zmZ (x_w:Option zWV) (x_e:zXA):Option (Int × Int × Option zWV):=optK x_w (some (0,5,none)) fun r1=>(zae x_e).bind fun r2=>if (!(r2==0)) then some (0,r2,some r1) else if (x_e.Kind==1) then (zZ r1.zWP.zXq r1.zWP.zXh).bind fun r3=>(sTo r3 (min x_e.N (r3.length:Int))).bind fun r4=>(zG r1.Gateway r4).bind fun r5=>(zd r1.zWP.zXh r5.1).bind fun r6=>(zu (⟨r5.2.2,(⟨r1.zWP.zXq,r6,r1.zWP.zXC,r1.zWP.zXw,r1.zWP.zXe,r1.zWP.zXS,r1.zWP.zX3⟩:zXu),r1.zWO,r1.zXa⟩:zWV)).bind fun r7=>some (r5.1,r5.2.1,some r7) else if (x_e.Kind==3) then (zZ r1.zWO.zXq r1.zWO.zXh).bind fun r8=>(sTo r8 (min x_e.N (r8.length:Int))).bind fun r9=>(zl r1.Gateway r9).bind fun r10=>(zd r1.zWO.zXh r10.1).bind fun r11=>(zu (⟨r10.2.2,r1.zWP,(⟨r1.zWO.zXq,r11,r1.zWO.zXC,r1.zWO.zXw,r1.zWO.zXe,r1.zWO.zXS,r1.zWO.zX3⟩:zXu),r1.zXa⟩:zWV)).bind fun r12=>some (r10.1,r10.2.1,some r12) else if (x_e.Kind==2) then (zZ r1.zWP.zXq r1.zWP.zXh).bind fun r13=>if (!(r13==[])) then zgU r1 0 8 else (zF r1.Gateway).bind fun r14=>if r1.zWP.zXw then (zu (⟨r14.2,(⟨r1.zWP.zXq,r1.zWP.zXh,r1.zWP.zXC,true,r1.zWP.zXe,r1.zWP.zXS,r1.zWP.zX3⟩:zXu),r1.zWO,r1.zXa⟩:zWV)).bind fun r15=>zgU r15 0 r14.1 else (zu (⟨r14.2,(⟨r1.zWP.zXq,r1.zWP.zXh,r1.zWP.zXC,r14.1==0,r1.zWP.zXe,r1.zWP.zXS,r1.zWP.zX3⟩:zXu),r1.zWO,r1.zXa⟩:zWV)).bind fun r16=>zgU r16 0 r14.1 else (zZ r1.zWO.zXq r1.zWO.zXh).bind fun r17=>if (!(r17==[])) then some (0,8,some r1) else (zr r1.Gateway).bind fun r18=>if r1.zWO.zXw then (zu (⟨r18.2,r1.zWP,(⟨r1.zWO.zXq,r1.zWO.zXh,r1.zWO.zXC,true,r1.zWO.zXe,r1.zWO.zXS,r1.zWO.zX3⟩:zXu),r1.zXa⟩:zWV)).bind fun r19=>some (0,r18.1,some r19) else (zu (⟨r18.2,r1.zWP,(⟨r1.zWO.zXq,r1.zWO.zXh,r1.zWO.zXC,r18.1==0,r1.zWO.zXe,r1.zWO.zXS,r1.zWO.zX3⟩:zXu),r1.zXa⟩:zWV)).bind fun r20=>some (0,r18.1,some r20)
def zcf (x_s:Str) (x_t:Str):Option Bool:=if (decide ((x_t.length:Int)≤(x_s.length:Int))) then (sTo x_s (x_t.length:Int)).bind fun r1=>some (r1==x_t) else some false
def zow (x_e:zXA):Option Int:=if (decide (x_e.Kind<1)) then some 1 else if (decide ((4:Int)<x_e.Kind)) then some 1 else if (decide (x_e.N<0)) then some 1 else if (decide ((1048576:Int)<x_e.N)) then some 1 else if (x_e.Kind==2) then if (!(x_e.N==0)) then some 1 else some 0 else if (x_e.Kind==4) then if (!(x_e.N==0)) then some 1 else some 0 else some 0
def zqA (F:zWV→Int→Int→Option (Int × Option zWV)) (w:zWV) (i3:Int):Option (Int × Option zWV):=(zaE w.Gateway).bind fun r33=>if r33 then some (i3,some w) else (zZ w.zWO.zXq w.zWO.zXh).bind fun r34=>(sTo r34 (min (w.zWO.zXq.length:Int) (r34.length:Int))).bind fun r35=>(zl w.Gateway r35).bind fun r36=>(zd w.zWO.zXh r36.1).bind fun r37=>(zu (⟨r36.2.2,w.zWP,(⟨w.zWO.zXq,r37,w.zWO.zXC,w.zWO.zXw,w.zWO.zXe,w.zWO.zXS,w.zWO.zX3⟩:zXu),w.zXa⟩:zWV)).bind fun r38=>if r38.zWO.zXC then if (!r38.zWO.zXw) then (zZ r38.zWO.zXq r38.zWO.zXh).bind fun r39=>if (r39==[]) then (zZ r38.zWO.zXq r38.zWO.zXh).bind fun r40=>if (!(r40==[])) then (zd i3 r36.1).bind fun r41=>F ({r38 with zWO:=(⟨r38.zWO.zXq,r38.zWO.zXh,r38.zWO.zXC,true,r38.zWO.zXe,r38.zWO.zXS,r38.zWO.zX3⟩:zXu)}:zWV) r41 0 else (zr r38.Gateway).bind fun r42=>(zu (⟨r42.2,r38.zWP,(⟨r38.zWO.zXq,r38.zWO.zXh,r38.zWO.zXC,true,r38.zWO.zXe,r38.zWO.zXS,r38.zWO.zX3⟩:zXu),r38.zXa⟩:zWV)).bind fun r43=>(zd i3 r36.1).bind fun r44=>F r43 r44 0 else (zd i3 r36.1).bind fun r45=>if (decide ((0:Int)<r36.1)) then F r38 r45 0 else F r38 r45 1 else (zd i3 r36.1).bind fun r46=>if (decide ((0:Int)<r36.1)) then F r38 r46 0 else F r38 r46 1 else (zd i3 r36.1).bind fun r47=>if (decide ((0:Int)<r36.1)) then F r38 r47 0 else F r38 r47 1
def zqB (F:zWV→Int→Int→Option (Int × Option zWV)) (w:zWV) (i3 i4:Int):Option (Int × Option zWV):=(zaE w.Gateway).bind fun r67=>if r67 then some (i3,some w) else (zZ w.zWO.zXq w.zWO.zXh).bind fun r68=>(sTo r68 (min (w.zWO.zXq.length:Int) (r68.length:Int))).bind fun r69=>(zl w.Gateway r69).bind fun r70=>(zd w.zWO.zXh r70.1).bind fun r71=>(zu (⟨r70.2.2,w.zWP,(⟨w.zWO.zXq,r71,w.zWO.zXC,w.zWO.zXw,w.zWO.zXe,w.zWO.zXS,w.zWO.zX3⟩:zXu),w.zXa⟩:zWV)).bind fun r72=>if r72.zWO.zXC then if (!r72.zWO.zXw) then (zZ r72.zWO.zXq r72.zWO.zXh).bind fun r73=>if (r73==[]) then (zZ r72.zWO.zXq r72.zWO.zXh).bind fun r74=>if (!(r74==[])) then (zd i3 r70.1).bind fun r75=>(zd i4 1).bind fun r76=>F ({r72 with zWO:=(⟨r72.zWO.zXq,r72.zWO.zXh,r72.zWO.zXC,true,r72.zWO.zXe,r72.zWO.zXS,r72.zWO.zX3⟩:zXu)}:zWV) r75 0 else (zr r72.Gateway).bind fun r77=>(zu (⟨r77.2,r72.zWP,(⟨r72.zWO.zXq,r72.zWO.zXh,r72.zWO.zXC,true,r72.zWO.zXe,r72.zWO.zXS,r72.zWO.zX3⟩:zXu),r72.zXa⟩:zWV)).bind fun r78=>(zd i3 r70.1).bind fun r79=>(zd i4 1).bind fun r80=>F r78 r79 0 else (zd i3 r70.1).bind fun r81=>(zd i4 1).bind fun r82=>if (decide ((0:Int)<r70.1)) then F r72 r81 0 else F r72 r81 r82 else (zd i3 r70.1).bind fun r83=>(zd i4 1).bind fun r84=>if (decide ((0:Int)<r70.1)) then F r72 r83 0 else F r72 r83 r84 else (zd i3 r70.1).bind fun r85=>(zd i4 1).bind fun r86=>if (decide ((0:Int)<r70.1)) then F r72 r85 0 else F r72 r85 r86
def zr5 (F:zWV→Int→Int→Option (Int × Option zWV)) (vp0:zWV) (i3 i4:Int):Option (Int × Option zWV):=(zaE vp0.Gateway).bind fun r2=>if r2 then some (i3,some vp0) else (zZ vp0.zWP.zXq vp0.zWP.zXh).bind fun r3=>(sTo r3 (min (vp0.zWP.zXq.length:Int) (r3.length:Int))).bind fun r4=>(zG vp0.Gateway r4).bind fun r5=>(zd vp0.zWP.zXh r5.1).bind fun r6=>(zu (⟨r5.2.2,(⟨vp0.zWP.zXq,r6,vp0.zWP.zXC,vp0.zWP.zXw,vp0.zWP.zXe,vp0.zWP.zXS,vp0.zWP.zX3⟩:zXu),vp0.zWO,vp0.zXa⟩:zWV)).bind fun r7=>if r7.zWP.zXC then if (!r7.zWP.zXw) then (zZ r7.zWP.zXq r7.zWP.zXh).bind fun r8=>if (r8==[]) then (zZ r7.zWP.zXq r7.zWP.zXh).bind fun r9=>if (!(r9==[])) then (zd i3 r5.1).bind fun r10=>(zd i4 1).bind fun r11=>zqA F ({r7 with zWP:=(⟨r7.zWP.zXq,r7.zWP.zXh,r7.zWP.zXC,true,r7.zWP.zXe,r7.zWP.zXS,r7.zWP.zX3⟩:zXu)}:zWV) r10 else (zF r7.Gateway).bind fun r28=>(zu (⟨r28.2,(⟨r7.zWP.zXq,r7.zWP.zXh,r7.zWP.zXC,true,r7.zWP.zXe,r7.zWP.zXS,r7.zWP.zX3⟩:zXu),r7.zWO,r7.zXa⟩:zWV)).bind fun r29=>(zd i3 r5.1).bind fun r30=>(zd i4 1).bind fun r31=>zqA F r29 r30 else (zd i3 r5.1).bind fun r48=>(zd i4 1).bind fun r49=>if (decide ((0:Int)<r5.1)) then zqA F r7 r48 else zqB F r7 r48 r49 else (zd i3 r5.1).bind fun r87=>(zd i4 1).bind fun r88=>if (decide ((0:Int)<r5.1)) then zqA F r7 r87 else zqB F r7 r87 r88 else (zd i3 r5.1).bind fun r126=>(zd i4 1).bind fun r127=>if (decide ((0:Int)<r5.1)) then zqA F r7 r126 else zqB F r7 r126 r127
def zJ:Nat→zWV→Int→Int→Option (Int × Option zWV)
 | 0,_,_,_=>none
 | n+1,vp0,i3,i4=>if (decide (i4<2)) then zr5 (zJ n) vp0 i3 i4 else some (i3,some vp0)
def zd8 (x_w:Option zWV):Option (Int × Option zWV):=optK x_w (some (0,none)) fun r1=>zJ fuel r1 0 0
def zg (k0:zXo→Option zWV→Int→Option Bool) (v1:zXo) (o3:Option zWV) (i5:Int) (t188:Bool):Option Bool:=if t188 then some false else (zd i5 1).bind fun r1=>k0 v1 o3 r1
def zx (k0:zXo→Option zWV→Int→Option Bool) (v1:zXo) (o3:Option zWV) (i5:Int) (v6:zXA) (i11:Int) (i13:Int) (i14:Int) (t155:Bool):Option Bool:=if t155 then some false else if (v6.Kind==2) then if (i11==0) then if (!(i13==0)) then zg k0 v1 o3 i5 true else if (v6.Kind==4) then if (i11==0) then if (!(i14==0)) then zg k0 v1 o3 i5 true else (zae v6).bind fun r1=>if (r1==0) then zg k0 v1 o3 i5 (i11==1) else zg k0 v1 o3 i5 false else (zae v6).bind fun r2=>if (r2==0) then zg k0 v1 o3 i5 (i11==1) else zg k0 v1 o3 i5 false else (zae v6).bind fun r3=>if (r3==0) then zg k0 v1 o3 i5 (i11==1) else zg k0 v1 o3 i5 false else if (v6.Kind==4) then if (i11==0) then if (!(i14==0)) then zg k0 v1 o3 i5 true else (zae v6).bind fun r4=>if (r4==0) then zg k0 v1 o3 i5 (i11==1) else zg k0 v1 o3 i5 false else (zae v6).bind fun r5=>if (r5==0) then zg k0 v1 o3 i5 (i11==1) else zg k0 v1 o3 i5 false else (zae v6).bind fun r6=>if (r6==0) then zg k0 v1 o3 i5 (i11==1) else zg k0 v1 o3 i5 false else if (v6.Kind==4) then if (i11==0) then if (!(i14==0)) then zg k0 v1 o3 i5 true else (zae v6).bind fun r7=>if (r7==0) then zg k0 v1 o3 i5 (i11==1) else zg k0 v1 o3 i5 false else (zae v6).bind fun r8=>if (r8==0) then zg k0 v1 o3 i5 (i11==1) else zg k0 v1 o3 i5 false else (zae v6).bind fun r9=>if (r9==0) then zg k0 v1 o3 i5 (i11==1) else zg k0 v1 o3 i5 false
def zI (k0:zXo→Option zWV→Int→Option Bool) (v1:zXo) (o3:Option zWV) (i5:Int) (v6:zXA) (v7:zXN) (i11:Int) (v12:zXN) (i13:Int) (i14:Int) (t114:Bool):Option Bool:=if t114 then some false else (zow v6).bind fun r1=>if (!(r1==0)) then if (!(i11==1)) then zx k0 v1 o3 i5 v6 i11 i13 i14 true else if (!(v12==v7)) then zx k0 v1 o3 i5 v6 i11 i13 i14 true else (zd v12.ReadClient i13).bind fun r2=>if (!(r2==(v1.Client.length:Int))) then zx k0 v1 o3 i5 v6 i11 i13 i14 true else (zd v12.ReadUpstream i14).bind fun r3=>if (!(r3==(v1.Upstream.length:Int))) then zx k0 v1 o3 i5 v6 i11 i13 i14 true else if v7.Closed then zx k0 v1 o3 i5 v6 i11 i13 i14 (!(v12==v7)) else zx k0 v1 o3 i5 v6 i11 i13 i14 false else (zd v12.ReadClient i13).bind fun r4=>if (!(r4==(v1.Client.length:Int))) then zx k0 v1 o3 i5 v6 i11 i13 i14 true else (zd v12.ReadUpstream i14).bind fun r5=>if (!(r5==(v1.Upstream.length:Int))) then zx k0 v1 o3 i5 v6 i11 i13 i14 true else if v7.Closed then zx k0 v1 o3 i5 v6 i11 i13 i14 (!(v12==v7)) else zx k0 v1 o3 i5 v6 i11 i13 i14 false
def zp:Nat→zXo→Option zWV→Int→Option Bool
 | 0,_,_,_=>none
 | n+1,v1,o3,i5=>if (decide (i5<(v1.Events.length:Int))) then (lAt v1.Events i5).bind fun r1=>(zd4 o3).bind fun r2=>(zfP r2.2).bind fun r3=>(zmZ r3.2.2 r1).bind fun r4=>(zd4 r4.2.2).bind fun r5=>(zfP r5.2).bind fun r6=>if (decide (r4.1<0)) then zI (zp n) v1 r6.2.2 i5 r1 r2.1 r4.2.1 r5.1 r6.1 r6.2.1 true else if (decide ((max r1.N 0)<r4.1)) then zI (zp n) v1 r6.2.2 i5 r1 r2.1 r4.2.1 r5.1 r6.1 r6.2.1 true else (za3 r3.1 r6.1).bind fun r7=>(zd r7 r3.2.1).bind fun r8=>(za3 r8 r6.2.1).bind fun r9=>if (!(r9==r4.1)) then zI (zp n) v1 r6.2.2 i5 r1 r2.1 r4.2.1 r5.1 r6.1 r6.2.1 true else if (!(r4.2.1==0)) then if (!(r4.1==0)) then zI (zp n) v1 r6.2.2 i5 r1 r2.1 r4.2.1 r5.1 r6.1 r6.2.1 true else (zcf r5.1.Client r2.1.Client).bind fun r10=>if (!r10) then zI (zp n) v1 r6.2.2 i5 r1 r2.1 r4.2.1 r5.1 r6.1 r6.2.1 true else (zcf r5.1.Upstream r2.1.Upstream).bind fun r11=>zI (zp n) v1 r6.2.2 i5 r1 r2.1 r4.2.1 r5.1 r6.1 r6.2.1 (!r11) else (zcf r5.1.Client r2.1.Client).bind fun r12=>if (!r12) then zI (zp n) v1 r6.2.2 i5 r1 r2.1 r4.2.1 r5.1 r6.1 r6.2.1 true else (zcf r5.1.Upstream r2.1.Upstream).bind fun r13=>zI (zp n) v1 r6.2.2 i5 r1 r2.1 r4.2.1 r5.1 r6.1 r6.2.1 (!r13) else (zfP o3).bind fun r14=>(zd8 r14.2.2).bind fun r15=>(zfP r15.2).bind fun r16=>(za3 r14.1 r16.1).bind fun r17=>(zd r17 r14.2.1).bind fun r18=>(za3 r18 r16.2.1).bind fun r19=>if (r15.1==r19) then (zd8 r16.2.2).bind fun r20=>some (r20.1==0) else some false
def zbP (v1:zXo) (o3:Option zWV) (i4:Int):Option Bool:=if (!(i4==0)) then optK o3 ((zhM v1).bind fun r2=>some (i4==r2)) fun r1=>some false else zp fuel v1 o3 0
def zjk (x_a0:zXo):Option Bool:=zDo.bind fun r1=>if (!r1) then some false else (znd x_a0).bind fun r2=>(znm r2).bind fun r3=>optK r3.1 (zbP r2 none r3.2) fun r4=>zbP r2 (some r4) r3.2
end
end Go.Dm
