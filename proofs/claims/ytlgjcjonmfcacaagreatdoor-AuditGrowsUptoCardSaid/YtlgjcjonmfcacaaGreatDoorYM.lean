/-
 The models of the functions: written by a program (wip/gen) off the translation. No program in sight.
-/
import Derived.Test.YtlgjcjonmfcacaaGreatDoorTSplit
import Derived.Test.YtlgjcjonmfcacaaGreatDoorYRun
set_option linter.unusedVariables false
set_option linter.unusedSimpArgs false
set_option linter.unusedVariables false
set_option linter.unusedSimpArgs false
set_option linter.unusedVariables false
set_option maxRecDepth 100000
namespace Go.Dm
noncomputable section
open Go.Rk
def ld4 {α β:Type} (i:Int) (v:α × α × α × α) (k:α→Option β):Option β:=if isN i 0 then k v.1 else if isN i 1 then k v.2.1 else if isN i 2 then k v.2.2.1 else if isN i 3 then k v.2.2.2 else none
def st4 {α β:Type} (i:Int) (v:α × α × α × α) (r:α) (k:α × α × α × α→Option β):Option β:=if isN i 0 then k (r,v.2.1,v.2.2.1,v.2.2.2) else if isN i 1 then k (v.1,r,v.2.2.1,v.2.2.2) else if isN i 2 then k (v.1,v.2.1,r,v.2.2.2) else if isN i 3 then k (v.1,v.2.1,v.2.2.1,r) else none
structure zWJ where
 Client:Str
 Host:Str
 Scheme:Str
 By:Str
 Domains:List zWK
 Locations:List zWK
deriving DecidableEq
structure zXr where
 Head:Int
 Chunk:Int
 Queue:Int
deriving DecidableEq
structure zXe where
 Kind:Int
 Name:Str
 Value:Str
deriving DecidableEq
structure zWC where
 Side:Int
 Guard:zXe
 Kind:Int
 Name:Str
 To:Str
 Parts:List zWz
deriving DecidableEq
structure zXh where
 Kind:Int
 N:Int
deriving DecidableEq
structure zW5 where
 Env:zWJ
 Caps:zXr
 Rules:List zWC
 Client:Str
 Upstream:Str
 ClientEnds:Bool
 UpstreamEnds:Bool
 Events:List zXh
deriving DecidableEq
structure zWP where
 Proto:Str
 Version:Str
 By:Str
 Comment:Str
deriving DecidableEq
structure zWD where
 zXp:Str
 zWY:Int
deriving DecidableEq
structure zXk where
 Scanner:zWD
deriving DecidableEq
structure zW0 where
 Kind:Int
 Name:Str
 Port:Int
deriving DecidableEq
structure zWS where
 Scheme:Str
 Auth:Str
 Path:Str
 Query:Str
 Frag:Str
 HasAuth:Bool
 HasQuery:Bool
 HasFrag:Bool
deriving DecidableEq
structure zWH where
 Method:Str
 Minor:Int
 Close:Bool
deriving DecidableEq
structure zXi where
 zXs:List zWH
 zWT:Int
deriving DecidableEq
structure zWV where
 zXL:zXi
 zXQ:Bool
deriving DecidableEq
structure zWB where
 Kind:Int
 Method:Str
 Target:Str
 Code:Int
 Reason:Str
 Minor:Int
 Fields:List zWx
deriving DecidableEq
structure zWL where
 zXZ:Int
 zXI:Int
 zW7:List UInt8
 zXw:Int
 zX1:Bool
 zXY:Int
 f_whole:Bool
 zXE:zWB
deriving DecidableEq
structure zWA where
 zXI:Int
 zWY:Int
 zXJ:List UInt8
 zXo:Int
 zX3:Int
 zXR:Int
 zXA:List zWx
deriving DecidableEq
structure zWG where
 Kind:Int
 N:Int
deriving DecidableEq
structure zW2 where
 Decoder:Option zWA
 zXH:zWG
 zXo:Int
 zXy:Bool
 zXY:Bool
deriving DecidableEq
structure zWI where
 zXN:Int
 zW7:Str
 zXy:Bool
deriving DecidableEq
structure zWM where
 Encoder:Option zWI
 zXH:zWG
 zXo:Int
 zXy:Bool
deriving DecidableEq
structure zWE where
 Accum:Option zWL
 zXF:Option zW2
 zWQ:Option zWM
deriving DecidableEq
structure zWv where
 Queue:Option zWV
 zXT:zWJ
 zXC:zXr
 zXG:List zWC
 zWy:zWE
 zWw:zWE
 zXB:List UInt8
 zXW:List UInt8
 zXV:Int
 zW8:Bool
 zXX:Bool
 zXD:Bool
 zXP:Bool
 zXQ:Bool
 zXS:Bool
 zW3:Bool
deriving DecidableEq
structure zWZ where
 Scanner:zWD
 zWQ:List zWz
deriving DecidableEq
structure zXb where
 zXj:Str
 zXa:Int
 zXq:Bool
 zXl:Bool
 zW6:List UInt8
 zXz:Unit
 zXK:Unit
structure zXx where
 Client:Int
 Upstream:Int
deriving DecidableEq
structure zWF where
 Gateway:zWv
 zWy:zXb
 zWw:zXb
 zWT:zXx
structure ref44_Setup where
 Env:zWJ
 Caps:zXr
 Rules:List zWC
deriving DecidableEq
structure zXd where
 Client:Str
 Upstream:Str
 ReadClient:Int
 ReadUpstream:Int
 Most:zXx
 Closed:Bool
deriving DecidableEq
structure zWX where
 zXs:List zWx
deriving DecidableEq
structure zXt where
 Bag:zWX
 zX5:Int
deriving DecidableEq
structure zWN where
 Scanner:zWD
 zWQ:List Str
 zXw:Int
 zXp:Str
deriving DecidableEq
structure zXn where
 Scanner:zWD
 zWQ:List UInt8
deriving DecidableEq
structure zW1 where
 Kind:Int
 Scheme:Str
 Host:zW0
 Path:Str
 Query:Str
 HasQuery:Bool
deriving DecidableEq
structure zXf where
 Bag:zWX
 zX0:zWB
deriving DecidableEq
structure zW4 where
 Name:Str
 Value:Str
 Has:Bool
deriving DecidableEq
structure zWO where
 Name:Str
 Value:Str
 Attrs:List zW4
deriving DecidableEq
structure zWW where
 Name:Str
 Value:Str
deriving DecidableEq
structure zXm where
 Kind:Int
 Name:Str
 Text:Str
 Parts:List zWz
 N:Int
deriving DecidableEq
structure zWU where
 zWQ:List zXm
deriving DecidableEq
structure zWR where
 Bag:zWX
 zXU:List zWW
 zXO:Int
deriving DecidableEq
structure zXc where
 Scanner:zWD
deriving DecidableEq
structure zW9 where
 zX2:List UInt8
 zWT:Int
deriving DecidableEq
structure zXu where
 Quill:zW9
 zX4:Bool
deriving DecidableEq
structure zXv where
 Head:zWB
 Frame:zWG
 Body:Str
 Trailers:List zWx
deriving DecidableEq
structure zXg where
 Scanner:zWD
deriving DecidableEq
structure zXM where
 Requests:Int
 Responses:Int
 Interims:Int
 Torn:Bool
deriving DecidableEq
def zEF:Option Bool:=some true
def znx (x_x:zWK):Option zWK:=(sTo x_x.From (min (x_x.From.length:Int) 60)).bind fun r1=>(sTo x_x.To (min (x_x.To.length:Int) 60)).bind fun r2=>some (⟨r1,r2⟩:zWK)
def zv6 (k0:(Str × Str × Str × Str)→Int→Option zWJ) (v3:Str × Str × Str × Str) (i4:Int):Option zWJ:=(zd i4 1).bind fun r1=>k0 v3 r1
def zmV (k2:zWJ→Int→Option zWJ) (v1:zWJ) (v5:zWJ) (i7:Int) (t71:Bool):Option zWJ:=if t71 then (lAt v1.Locations i7).bind fun r1=>(znx r1).bind fun r2=>if ze v5.Locations.length ([r2]:List zWK).length 32 then (zd i7 1).bind fun r3=>k2 ({v5 with Locations:=v5.Locations++[r2]}:zWJ) r3 else none else some v5
def zge (v1:zWJ):Nat→zWJ→Int→Option zWJ
 | 0,_,_=>none
 | n+1,v5,i7=>if (decide (i7<(v1.Locations.length:Int))) then zmV (zge v1 n) v1 v5 i7 (decide (i7<6)) else zmV (zge v1 n) v1 v5 i7 false
def zmW (k1:zWJ→Int→Option zWJ) (v1:zWJ) (v5:zWJ) (i6:Int) (t49:Bool):Option zWJ:=if t49 then (lAt v1.Domains i6).bind fun r1=>(znx r1).bind fun r2=>if ze v5.Domains.length ([r2]:List zWK).length 32 then (zd i6 1).bind fun r3=>k1 ({v5 with Domains:=v5.Domains++[r2]}:zWJ) r3 else none else zge v1 fuel v5 0
def zdD (v1:zWJ):Nat→zWJ→Int→Option zWJ
 | 0,_,_=>none
 | n+1,v5,i6=>if (decide (i6<(v1.Domains.length:Int))) then zmW (zdD v1 n) v1 v5 i6 (decide (i6<6)) else zmW (zdD v1 n) v1 v5 i6 false
def zv7 (v1:zWJ) (v5:zWJ):Option zWJ:=zdD v1 fuel v5 0
def zR (v1:zWJ):Nat→(Str × Str × Str × Str)→Int→Option zWJ
 | 0,_,_=>none
 | n+1,v3,i4=>if (decide (i4<4)) then ld4 i4 v3 fun w2=>ld4 i4 v3 fun w1=>(sTo w2 (min (w1.length:Int) 60)).bind fun q0_0=>st4 i4 v3 q0_0 fun w0=>zv6 (zR v1 n) w0 i4 else ld4 0 v3 fun w3=>ld4 1 v3 fun w2=>ld4 2 v3 fun w1=>ld4 3 v3 fun w0=>zv7 v1 (⟨w3,w2,w1,w0,[],[]⟩:zWJ)
def ztg (x_a0:zWJ):Option zWJ:=zR x_a0 fuel (x_a0.Client,x_a0.Host,x_a0.Scheme,x_a0.By) 0
def zmX (k0:List zWK→Int→Option (List zWK)) (l0:List zWK) (l3:List zWK) (i4:Int) (t12:Bool):Option (List zWK):=if t12 then (lAt l0 i4).bind fun r1=>(lAt l0 i4).bind fun r2=>(sTo r1.From (min (r2.From.length:Int) 60)).bind fun r3=>(lAt l0 i4).bind fun r4=>(lAt l0 i4).bind fun r5=>(sTo r4.To (min (r5.To.length:Int) 60)).bind fun r6=>if ze l3.length ([(⟨r3,r6⟩:zWK)]:List zWK).length 32 then (zd i4 1).bind fun r7=>k0 (l3++[(⟨r3,r6⟩:zWK)]) r7 else none else some l3
def zgf (l0:List zWK):Nat→List zWK→Int→Option (List zWK)
 | 0,_,_=>none
 | n+1,l3,i4=>if (decide (i4<(l0.length:Int))) then zmX (zgf l0 n) l0 l3 i4 (decide (i4<70)) else zmX (zgf l0 n) l0 l3 i4 false
def zpG (x_l:List zWK):Option (List zWK):=zgf x_l fuel [] 0
def zth (x_env:zWJ):Option zWJ:=(ztg x_env).bind fun r1=>(zpG x_env.Domains).bind fun r2=>(zpG x_env.Locations).bind fun r3=>some ({r1 with Domains:=r2,Locations:=r3}:zWJ)
def zmY (k0:List zWz→Int→Option (List zWz)) (l0:List zWz) (l3:List zWz) (i4:Int) (t12:Bool):Option (List zWz):=if t12 then (lAt l0 i4).bind fun r1=>(lAt l0 i4).bind fun r2=>(lAt l0 i4).bind fun r3=>(sTo r2.Text (min (r3.Text.length:Int) 60)).bind fun r4=>if ze l3.length ([(⟨r1.Kind,r4⟩:zWz)]:List zWz).length 24 then (zd i4 1).bind fun r5=>k0 (l3++[(⟨r1.Kind,r4⟩:zWz)]) r5 else none else some l3
def zgg (l0:List zWz):Nat→List zWz→Int→Option (List zWz)
 | 0,_,_=>none
 | n+1,l3,i4=>if (decide (i4<(l0.length:Int))) then zmY (zgg l0 n) l0 l3 i4 (decide (i4<40)) else zmY (zgg l0 n) l0 l3 i4 false
def zpH (x_l:List zWz):Option (List zWz):=zgg x_l fuel [] 0
def zv8 (k0:(Str × Str × Str × Str)→Int→Option zWC) (v3:Str × Str × Str × Str) (i4:Int):Option zWC:=(zd i4 1).bind fun r1=>k0 v3 r1
def zmZ (v1:zWC):Option zWC:=(zpH v1.Parts).bind fun r1=>some ({v1 with Parts:=r1}:zWC)
def zv9 (v1:zWC) (v3:Str × Str × Str × Str):Option zWC:=ld4 3 v3 fun w0=>zmZ ({v1 with Guard:=(⟨v1.Guard.Kind,v1.Guard.Name,w0⟩:zXe)}:zWC)
def zwa (v1:zWC) (v3:Str × Str × Str × Str):Option zWC:=ld4 2 v3 fun w0=>zv9 ({v1 with Guard:=(⟨v1.Guard.Kind,w0,v1.Guard.Value⟩:zXe)}:zWC) v3
def zwb (v1:zWC) (v3:Str × Str × Str × Str):Option zWC:=ld4 1 v3 fun w0=>zwa ({v1 with To:=w0}:zWC) v3
def zX (v1:zWC):Nat→(Str × Str × Str × Str)→Int→Option zWC
 | 0,_,_=>none
 | n+1,v3,i4=>if (decide (i4<4)) then ld4 i4 v3 fun w2=>ld4 i4 v3 fun w1=>(sTo w2 (min (w1.length:Int) 60)).bind fun q0_0=>st4 i4 v3 q0_0 fun w0=>zv8 (zX v1 n) w0 i4 else ld4 0 v3 fun w0=>zwb ({v1 with Name:=w0}:zWC) v3
def zti (x_r:zWC):Option zWC:=zX x_r fuel (x_r.Name,x_r.To,x_r.Guard.Name,x_r.Guard.Value) 0
def zm0 (k0:List zWC→Int→Option (List zWC)) (l0:List zWC) (l3:List zWC) (i4:Int) (t12:Bool):Option (List zWC):=if t12 then (lAt l0 i4).bind fun r1=>(zti r1).bind fun r2=>if ze l3.length ([r2]:List zWC).length 112 then (zd i4 1).bind fun r3=>k0 (l3++[r2]) r3 else none else some l3
def zgh (l0:List zWC):Nat→List zWC→Int→Option (List zWC)
 | 0,_,_=>none
 | n+1,l3,i4=>if (decide (i4<(l0.length:Int))) then zm0 (zgh l0 n) l0 l3 i4 (decide (i4<70)) else zm0 (zgh l0 n) l0 l3 i4 false
def ztj (x_l:List zWC):Option (List zWC):=zgh x_l fuel [] 0
def zj3:Nat→List zWC→Int→Option (List zWC)
 | 0,_,_=>none
 | n+1,l3,i4=>if (decide (i4<(l3.length:Int))) then (lAt l3 i4).bind fun r1=>(lAt l3 i4).bind fun r2=>(lTo r1.Parts (min (r2.Parts.length:Int) 4)).bind fun r3=>(lAt l3 i4).bind fun r4=>(zwR l3 i4 ({r4 with Parts:=r3}:zWC)).bind fun r5=>(zd i4 1).bind fun r6=>zj3 n r5 r6 else some l3
def ztk (x_l:List zWC):Option (List zWC):=(ztj x_l).bind fun r1=>zj3 fuel r1 0
def znf (x_s:zW5):Option zW5:=(zth x_s.Env).bind fun r1=>(ztk x_s.Rules).bind fun r2=>(sTo x_s.Client (min (x_s.Client.length:Int) 3000)).bind fun r3=>(sTo x_s.Upstream (min (x_s.Upstream.length:Int) 3000)).bind fun r4=>(lTo x_s.Events (min (x_s.Events.length:Int) 150)).bind fun r5=>some (⟨r1,x_s.Caps,r2,r3,r4,x_s.ClientEnds,x_s.UpstreamEnds,r5⟩:zW5)
def zbk (x_sep:Str) (x_l:List Str):Option Str:=(strings_Join x_l x_sep).bind fun r1=>some r1
def zgH (x_s:Str):Option zWD:=some (⟨x_s,0⟩:zWD)
def zbQ (x_b:UInt8):Option UInt8:=if (decide (65≤x_b)) then if (decide (x_b≤90)) then some (x_b+32) else some x_b else some x_b
def zdU (x_b:UInt8):Option Bool:=(zbQ x_b).bind fun r1=>if (decide (97≤r1)) then (zbQ x_b).bind fun r2=>some (decide (r2≤122)) else some false
def zbc (x_b:UInt8):Option Bool:=if (decide (48≤x_b)) then some (decide (x_b≤57)) else some false
def zk3 (x_b:UInt8) (x_l:Str):Option Bool:=(strings_IndexByte x_l x_b).bind fun r1=>some (decide ((0:Int)≤r1))
def zgY (x_b:UInt8):Option Bool:=(zdU x_b).bind fun r1=>if r1 then some true else (zbc x_b).bind fun r2=>if r2 then some true else (zk3 x_b [33,35,36,37,38,39,42,43,45,46,94,95,96,124,126]).bind fun r3=>some r3
def zcq (x_c:zWD):Option Int:=some x_c.zWY
def zal (x_c:zWD):Option Str:=(zad x_c.zXp x_c.zWY).bind fun r1=>some r1
def zaf (x_c:zWD):Option Bool:=(zal x_c).bind fun r1=>some (r1==[])
def zam (x_c:zWD):Option (UInt8 × Bool):=(zaf x_c).bind fun r1=>if r1 then some (0,false) else (sAt x_c.zXp x_c.zWY).bind fun r2=>some (r2,true)
def zbR (f1:(UInt8→Option Bool)) (i5:Int):Nat→zWD→Option (Str × zWD)
 | 0,_=>none
 | n+1,vp0=>(zam vp0).bind fun r1=>if (!r1.2) then (zk0 vp0.zXp i5 vp0.zWY).bind fun r2=>some (r2,vp0) else (f1 r1.1).bind fun r3=>if (!r3) then (zk0 vp0.zXp i5 vp0.zWY).bind fun r4=>some (r4,vp0) else (zd vp0.zWY 1).bind fun r5=>zbR f1 i5 n (⟨vp0.zXp,r5⟩:zWD)
def zx (x_c:zWD) (x_is:(UInt8→Option Bool)):Option (Str × zWD):=(zcq x_c).bind fun r1=>zbR x_is r1 fuel x_c
def zD (x_c:zWD):Option (Str × Bool × zWD):=(zx x_c zgY).bind fun r1=>some (r1.1, !(r1.1==[]),r1.2)
def zf (x_c:zWD) (x_b:UInt8):Option (Bool × zWD):=(zam x_c).bind fun r1=>if (!r1.2) then some (false,x_c) else if (!(r1.1==x_b)) then some (false,x_c) else (zd x_c.zWY 1).bind fun r2=>some (true,(⟨x_c.zXp,r2⟩:zWD))
def zbu (vp1:zWP) (vp32:zWD) (t6:Bool):Option (Bool × zWP × zWD):=some (t6,vp1,vp32)
def zbv (vp1:zWP) (v2:zXk) (s5:Str) (t6:Bool) (t22:Bool):Option (Bool × zWP × zWD):=if t22 then (zD v2.Scanner).bind fun r1=>zbu (⟨s5,r1.1,vp1.By,vp1.Comment⟩:zWP) r1.2.2 r1.2.1 else zbu vp1 v2.Scanner t6
def zbs (x_r:zXk) (x_v:zWP):Option (Bool × zWP × zWD):=(zD x_r.Scanner).bind fun r1=>if r1.2.1 then (zf r1.2.2 47).bind fun r2=>zbv ({x_v with Version:=r1.1}:zWP) (⟨r2.2⟩:zXk) r1.1 r1.2.1 r2.1 else zbv ({x_v with Version:=r1.1}:zWP) (⟨r1.2.2⟩:zXk) r1.1 r1.2.1 false
def zgI (x_b:UInt8):Option Bool:=some (!(x_b==32))
def zj4 (k0:Int→Option Bool) (f0:(UInt8→Option Bool)) (s6:Str) (i10:Int) (i15:Int):Nat→Int→Option Bool
 | 0,_=>none
 | n+1,i16=>if (decide (i16<i15)) then (sAt s6 i16).bind fun r1=>(f0 r1).bind fun r2=>if (!r2) then some false else (zd i16 1).bind fun r3=>zj4 k0 f0 s6 i10 i15 n r3 else (zd i10 1).bind fun r4=>k0 r4
def zh3 (f0:(UInt8→Option Bool)) (l8:List Str) (i9:Int):Nat→Int→Option Bool
 | 0,_=>none
 | n+1,i10=>if (decide (i10<i9)) then (lAt l8 i10).bind fun r1=>zj4 (zh3 f0 l8 i9 n) f0 r1 i10 (r1.length:Int) fuel 0 else some true
def zbS (x_is:(UInt8→Option Bool)) (x_l:List Str):Option Bool:=zh3 x_is x_l (x_l.length:Int) fuel 0
def zlj (x_b:UInt8):Option Int:=(zbc x_b).bind fun r1=>if r1 then some ((x_b-48).toNat:Int) else (zbQ x_b).bind fun r2=>(zd ((r2-97).toNat:Int) 10).bind fun r3=>some r3
def zgJ (s0:Str) (i1:Int) (i2:Int) (i23:Int):Nat→Int→Int→Option (Int × Int)
 | 0,_,_=>none
 | n+1,i10,i24=>if (decide (i24<i23)) then (sAt s0 i24).bind fun r1=>(zlj r1).bind fun r2=>if (decide (i2<r2)) then some (0,7) else (zbY i2 r2).bind fun r3=>(zDu r3 i1).bind fun r4=>if (decide (r4<i10)) then some (0,7) else (zHX i10 i1).bind fun r5=>(zd r5 r2).bind fun r6=>(zd i24 1).bind fun r7=>zgJ s0 i1 i2 i23 n r6 r7 else some (i10,0)
def zj5 (x_s:Str) (x_base:Int) (x_most:Int) (x_is:(UInt8→Option Bool)):Option (Int × Int):=if (x_s==[]) then some (0,2) else (zbS x_is [x_s]).bind fun r1=>if (!r1) then some (0,2) else zgJ x_s x_base x_most (x_s.length:Int) fuel 0 0
def zds (x_s:Str) (x_most:Int):Option (Int × Int):=(zj5 x_s 10 x_most zbc).bind fun r1=>some (r1.1,r1.2)
def zj6 (x_n:Int) (x_base:Int):Option Str:=if (decide (x_n<0)) then some [] else (zci x_n x_base).bind fun r1=>some r1
def zcX (x_n:Int):Option Str:=(zj6 x_n 10).bind fun r1=>some r1
def zbw (x_s:Str) (x_most:Int):Option Bool:=(zds x_s x_most).bind fun r1=>if (r1.2==0) then (zcX r1.1).bind fun r2=>some (r2==x_s) else some false
def zbd (s:Str):Option Bool:=if s.length<1000000000 then ((zg 46 s).mapM (fun x=>zbw x 255)).bind fun bs=>some (bs.all id&&decide ((bs.length:Int)=4)) else none
def zdV (x_b:UInt8):Option Bool:=(zbc x_b).bind fun r1=>if r1 then some true else (zbQ x_b).bind fun r2=>if (decide (97≤r2)) then (zbQ x_b).bind fun r3=>some (decide (r3≤102)) else some false
def zea (k0:Int→Int→Option Int) (i6:Int) (i15:Int) (t35:Bool):Option Int:=if t35 then (zd i6 1).bind fun r1=>(zd i15 1).bind fun r2=>k0 r1 r2 else some (-1)
def zeb (k0:Int→Int→Option Int) (i6:Int) (s8:Str) (i15:Int) (t20:Bool):Option Int:=if t20 then (zd i6 2).bind fun r1=>(zd i15 1).bind fun r2=>k0 r1 r2 else if (decide ((1:Int)≤(s8.length:Int))) then if (decide ((s8.length:Int)≤4)) then (zbS zdV [s8]).bind fun r3=>zea k0 i6 i15 r3 else zea k0 i6 i15 false else zea k0 i6 i15 false
def zav (t1:Bool) (l5:List Str) (i14:Int):Nat→Int→Int→Option Int
 | 0,_,_=>none
 | n+1,i6,i15=>if (decide (i15<i14)) then (lAt l5 i15).bind fun r1=>if t1 then (zbY (l5.length:Int) 1).bind fun r2=>if (i15==r2) then (zbd r1).bind fun r3=>zeb (zav t1 l5 i14 n) i6 r1 i15 r3 else zeb (zav t1 l5 i14 n) i6 r1 i15 false else zeb (zav t1 l5 i14 n) i6 r1 i15 false else some i6
def zeD (x_s:Str) (x_last:Bool):Option Int:=if (x_s==[]) then some 0 else (strings_Split x_s [58]).bind fun r1=>zav x_last r1 (r1.length:Int) fuel 0 0
def zh4 (x_s:Str):Option Bool:=(strings_Cut x_s [58,58]).bind fun r1=>if (!r1.2.2) then (zeD x_s true).bind fun r2=>some (r2==8) else (zeD r1.1 false).bind fun r3=>(zeD r1.2.1 true).bind fun r4=>if (decide ((0:Int)≤r3)) then if (decide ((0:Int)≤r4)) then (zd r3 r4).bind fun r5=>some (decide (r5≤7)) else some false else some false
def zh5 (x_s:Str):Option Bool:=if (decide ((3:Int)≤(x_s.length:Int))) then (sAt x_s 0).bind fun r1=>if (r1==37) then (zk0 x_s 1 3).bind fun r2=>(zbS zdV [r2]).bind fun r3=>some r3 else some false else some false
def zcK (x_b:UInt8):Option Bool:=(zdU x_b).bind fun r1=>if r1 then some true else (zbc x_b).bind fun r2=>if r2 then some true else (zk3 x_b [45,46,95,126]).bind fun r3=>some r3
def zjC (x_b:UInt8):Option Bool:=(zk3 x_b [33,36,38,39,40,41,42,43,44,59,61]).bind fun r1=>some r1
def zcL:Nat→Str→Option Bool
 | 0,_=>none
 | n+1,s0=>if (!(s0==[])) then (zh5 s0).bind fun r1=>if r1 then (zad s0 3).bind fun r2=>zcL n r2 else (sAt s0 0).bind fun r3=>(zcK r3).bind fun r4=>if r4 then (zad s0 1).bind fun r5=>zcL n r5 else (sAt s0 0).bind fun r6=>(zjC r6).bind fun r7=>if r7 then (zad s0 1).bind fun r8=>zcL n r8 else some false else some true
def ze5 (x_s:Str):Option Bool:=if (x_s==[]) then some false else zcL fuel x_s
def zfB (s0:Str) (v4:zW0) (t7:Bool):Option (zW0 × Bool):=if t7 then (zbY (s0.length:Int) 1).bind fun r1=>(zk0 s0 1 r1).bind fun r2=>some ((⟨3,r2,v4.Port⟩:zW0), !((3:Int)==0)) else (zbd s0).bind fun r3=>if r3 then some (({v4 with Kind:=2}:zW0), !((2:Int)==0)) else (ze5 s0).bind fun r4=>if r4 then some (({v4 with Kind:=1}:zW0), !((1:Int)==0)) else some (v4, !(v4.Kind==0))
def zlX (x_s:Str):Option (zW0 × Bool):=if (decide ((2:Int)<(x_s.length:Int))) then (sAt x_s 0).bind fun r1=>if (r1==91) then (zbY (x_s.length:Int) 1).bind fun r2=>(sAt x_s r2).bind fun r3=>if (r3==93) then (zbY (x_s.length:Int) 1).bind fun r4=>(zk0 x_s 1 r4).bind fun r5=>(zh4 r5).bind fun r6=>zfB x_s (⟨0,x_s,(-1)⟩:zW0) r6 else zfB x_s (⟨0,x_s,(-1)⟩:zW0) false else zfB x_s (⟨0,x_s,(-1)⟩:zW0) false else zfB x_s (⟨0,x_s,(-1)⟩:zW0) false
def zag (s0:Str) (b1:UInt8):Nat→Int→Option Int
 | 0,_=>none
 | n+1,i5=>if (decide ((0:Int)≤i5)) then (sAt s0 i5).bind fun r1=>if (r1==b1) then some i5 else (zbY i5 1).bind fun r2=>zag s0 b1 n r2 else some (-1)
def zaQ (x_s:Str) (x_c:UInt8):Option Int:=(zbY (x_s.length:Int) 1).bind fun r1=>zag x_s x_c fuel r1
def zcD (x_s:Str) (x_c:UInt8):Option Int:=(zaQ x_s x_c).bind fun r1=>some r1
def zb4 (x_s:Str):Option (zW0 × Int):=(zlX x_s).bind fun r1=>if r1.2 then some (r1.1,0) else (zcD x_s 58).bind fun r2=>if (decide (r2<0)) then some ((⟨0,[],0⟩:zW0),27) else (sTo x_s r2).bind fun r3=>(zlX r3).bind fun r4=>if (!r4.2) then some ((⟨0,[],0⟩:zW0),27) else (zd r2 1).bind fun r5=>(zad x_s r5).bind fun r6=>(zbw r6 65535).bind fun r7=>if (!r7) then some ((⟨0,[],0⟩:zW0),27) else (zd r2 1).bind fun r8=>(zad x_s r8).bind fun r9=>(zds r9 65535).bind fun r10=>some ((⟨r4.1.Kind,r4.1.Name,r10.1⟩:zW0),0)
def zdW (x_s:Str):Option Bool:=if (!(x_s==[])) then (zbS zgY [x_s]).bind fun r1=>some r1 else some false
def strings_ContainsAny (x_s:Str) (x_chars:Str):Option Bool:=(strings_IndexAny x_s x_chars).bind fun r1=>some (decide ((0:Int)≤r1))
def zcM (vp1:zWP) (vp32:zWD) (t4:Bool):Option (Bool × zWP × zWD):=some (t4,vp1,vp32)
def zeE (x_r:zXk) (x_v:zWP):Option (Bool × zWP × zWD):=(zx x_r.Scanner zgI).bind fun r1=>(zb4 r1.1).bind fun r2=>(zdW r1.1).bind fun r3=>if r3 then zcM ({x_v with By:=r1.1}:zWP) r1.2 true else if (r2.2==0) then (strings_ContainsAny r1.1 [44,40,41]).bind fun r4=>zcM ({x_v with By:=r1.1}:zWP) r1.2 (!r4) else zcM ({x_v with By:=r1.1}:zWP) r1.2 false
def stringslite_HasPrefix (x_s:Str) (x_prefix:Str):Option Bool:=if (decide ((x_prefix.length:Int)≤(x_s.length:Int))) then (sTo x_s (x_prefix.length:Int)).bind fun r1=>some (r1==x_prefix) else some false
def stringslite_CutPrefix (x_s:Str) (x_prefix:Str):Option (Str × Bool):=(stringslite_HasPrefix x_s x_prefix).bind fun r1=>if (!r1) then some (x_s,false) else (zad x_s (x_prefix.length:Int)).bind fun r2=>some (r2,true)
def strings_CutPrefix (x_s:Str) (x_prefix:Str):Option (Str × Bool):=(stringslite_CutPrefix x_s x_prefix).bind fun r1=>some (r1.1,r1.2)
def stringslite_HasSuffix (x_s:Str) (x_suffix:Str):Option Bool:=if (decide ((x_suffix.length:Int)≤(x_s.length:Int))) then (zbY (x_s.length:Int) (x_suffix.length:Int)).bind fun r1=>(zad x_s r1).bind fun r2=>some (r2==x_suffix) else some false
def stringslite_CutSuffix (x_s:Str) (x_suffix:Str):Option (Str × Bool):=(stringslite_HasSuffix x_s x_suffix).bind fun r1=>if (!r1) then some (x_s,false) else (zbY (x_s.length:Int) (x_suffix.length:Int)).bind fun r2=>(sTo x_s r2).bind fun r3=>some (r3,true)
def strings_CutSuffix (x_s:Str) (x_suffix:Str):Option (Str × Bool):=(stringslite_CutSuffix x_s x_suffix).bind fun r1=>some (r1.1,r1.2)
def zdt (x_b:UInt8):Option Bool:=if (decide (32<x_b)) then some (decide (x_b<127)) else some false
def zgZ (x_b:UInt8):Option Bool:=if (x_b==32) then some true else some (x_b==9)
def zaL (x_b:UInt8):Option Bool:=(zdt x_b).bind fun r1=>if r1 then some true else (zgZ x_b).bind fun r2=>if r2 then some true else some (decide (127<x_b))
def zeF (k0:Int→Int→Option Bool) (s0:Str) (i3:Int) (i4:Int):Option Bool:=if (decide (i3<0)) then some false else if (decide ((s0.length:Int)≤i4)) then some false else (zd i4 1).bind fun r1=>k0 i3 r1
def zbC (s0:Str):Nat→Int→Int→Option Bool
 | 0,_,_=>none
 | n+1,i3,i4=>if (decide (i4<(s0.length:Int))) then (sAt s0 i4).bind fun r1=>if (r1==40) then (zd i3 1).bind fun r2=>zeF (zbC s0 n) s0 r2 i4 else if (r1==41) then (zbY i3 1).bind fun r3=>zeF (zbC s0 n) s0 r3 i4 else if (r1==92) then (zd i4 1).bind fun r4=>zeF (zbC s0 n) s0 i3 r4 else zeF (zbC s0 n) s0 i3 i4 else if (i3==0) then (zbS zaL [s0]).bind fun r5=>some r5 else some false
def zm1 (x_s:Str):Option Bool:=zbC x_s fuel 0 0
def zah (vp1:zWP) (vp32:zWD) (t4:Bool):Option (Bool × zWP × zWD):=some (t4,vp1,vp32)
def zbT (x_r:zXk) (x_v:zWP):Option (Bool × zWP × zWD):=(zaf x_r.Scanner).bind fun r1=>if r1 then some (true,x_v,x_r.Scanner) else (zal x_r.Scanner).bind fun r2=>(strings_CutPrefix r2 [32,40]).bind fun r3=>(strings_CutSuffix r3.1 [41]).bind fun r4=>if r3.2 then if r4.2 then if (!(r4.1==[])) then (zm1 r4.1).bind fun r5=>zah ({x_v with Comment:=r4.1}:zWP) x_r.Scanner r5 else zah ({x_v with Comment:=r4.1}:zWP) x_r.Scanner false else zah ({x_v with Comment:=r4.1}:zWP) x_r.Scanner false else zah ({x_v with Comment:=r4.1}:zWP) x_r.Scanner false
def zng (x_s:Str):Option (zWP × Int):=(zgH x_s).bind fun r1=>(zbs (⟨r1⟩:zXk) (⟨[],[],[],[]⟩:zWP)).bind fun r2=>if (!r2.1) then some ((⟨[],[],[],[]⟩:zWP),2) else (zf r2.2.2 32).bind fun r3=>if (!r3.1) then some ((⟨[],[],[],[]⟩:zWP),2) else (zeE (⟨r3.2⟩:zXk) r2.2.1).bind fun r4=>if (!r4.1) then some ((⟨[],[],[],[]⟩:zWP),2) else (zbT (⟨r4.2.2⟩:zXk) r4.2.1).bind fun r5=>if (!r5.1) then some ((⟨[],[],[],[]⟩:zWP),2) else some (r5.2.1,0)
def zjD (v1:zWP) (l4:List Str):Option (Str × Int):=(zbk [] l4).bind fun r1=>(zng r1).bind fun r2=>if (!(r2.2==0)) then some ([],2) else if (!(r2.1==v1)) then some ([],2) else some (r1,0)
def zjE (v1:zWP) (l4:List Str):Option (Str × Int):=if (!(v1.Comment==[])) then if ze l4.length ([[32,40],v1.Comment,[41]]:List Str).length 16 then zjD v1 (l4++([[32,40],v1.Comment,[41]])) else none else zjD v1 l4
def zj7 (x_v:zWP):Option (Str × Int):=if (!(x_v.Proto==[])) then if ze ([x_v.Proto,[47]]:List Str).length ([x_v.Version,[32],x_v.By]:List Str).length 16 then zjE x_v (([x_v.Proto,[47]]:List Str)++([x_v.Version,[32],x_v.By])) else none else zjE x_v ([x_v.Version,[32],x_v.By])
def zj8 (x_s:Str):Option Bool:=(ze5 x_s).bind fun r1=>if r1 then (zbd x_s).bind fun r2=>some (!r2) else some false
def zfC (l0:List zWK) (l5:List zWK) (i6:Int):Nat→Int→Option Int
 | 0,_=>none
 | n+1,i7=>if (decide (i7<i6)) then (lAt l5 i7).bind fun r1=>(zj8 r1.From).bind fun r2=>if (!r2) then some 27 else (zj8 r1.To).bind fun r3=>if (!r3) then some 27 else (strings_ContainsAny r1.To [44,59]).bind fun r4=>if r4 then some 27 else (zd i7 1).bind fun r5=>zfC l0 l5 i6 n r5 else if (decide ((64:Int)<(l0.length:Int))) then some 3 else some 0
def zlk (x_l:List zWK):Option Int:=zfC x_l x_l (x_l.length:Int) fuel 0
def zgK (x_b:UInt8):Option Bool:=(zdU x_b).bind fun r1=>if r1 then some true else (zbc x_b).bind fun r2=>if r2 then some true else if (x_b==43) then some true else if (x_b==45) then some true else some (x_b==46)
def zll (x_s:Str):Option Bool:=if (!(x_s==[])) then (sAt x_s 0).bind fun r1=>(zdU r1).bind fun r2=>if r2 then (zbS zgK [x_s]).bind fun r3=>some r3 else some false else some false
def strings_HasPrefix (x_s:Str) (x_prefix:Str):Option Bool:=(stringslite_HasPrefix x_s x_prefix).bind fun r1=>some r1
def zht (x_s:Str) (x_l:Str):Option (Str × Str):=(strings_IndexAny x_s x_l).bind fun r1=>if (decide ((0:Int)≤r1)) then (sTo x_s r1).bind fun r2=>(zad x_s r1).bind fun r3=>some (r2,r3) else some (x_s,[])
def zi1 (v3:zWS):Option zWS:=some v3
def zgL (s0:Str) (v3:zWS):Option zWS:=if (!(s0==[])) then (zad s0 1).bind fun r1=>zi1 ({v3 with Frag:=r1,HasFrag:=true}:zWS) else zi1 v3
def zgM (s0:Str) (v3:zWS):Option zWS:=(zht s0 [63,35]).bind fun r1=>(strings_HasPrefix r1.2 [63]).bind fun r2=>if r2 then (zad r1.2 1).bind fun r3=>(zht r3 [35]).bind fun r4=>zgL r4.2 ({v3 with Path:=r1.1,Query:=r4.1,HasQuery:=true}:zWS) else zgL r1.2 ({v3 with Path:=r1.1}:zWS)
def zgN (s0:Str) (v3:zWS):Option zWS:=(strings_HasPrefix s0 [47,47]).bind fun r1=>if r1 then (zad s0 2).bind fun r2=>(zht r2 [47,63,35]).bind fun r3=>zgM r3.2 ({v3 with Auth:=r3.1,HasAuth:=true}:zWS) else zgM s0 v3
def zi2 (s0:Str) (v3:zWS) (i4:Int) (t14:Bool):Option zWS:=if t14 then (sTo s0 i4).bind fun r1=>(zd i4 1).bind fun r2=>(zad s0 r2).bind fun r3=>zgN r3 ({v3 with Scheme:=r1}:zWS) else zgN s0 v3
def zm2 (x_s:Str):Option zWS:=(strings_IndexByte x_s 58).bind fun r1=>if (decide ((0:Int)<r1)) then (sTo x_s r1).bind fun r2=>(zll r2).bind fun r3=>zi2 x_s (⟨[],[],[],[],[],false,false,false⟩:zWS) r1 r3 else zi2 x_s (⟨[],[],[],[],[],false,false,false⟩:zWS) r1 false
def zh6 (x_b:UInt8):Option Bool:=(zcK x_b).bind fun r1=>if r1 then some true else (zjC x_b).bind fun r2=>if r2 then some true else (zk3 x_b [58,64]).bind fun r3=>some r3
def zi3 (k0:Int→Option Bool) (i5:Int) (t35:Bool):Option Bool:=if t35 then some false else (zd i5 1).bind fun r1=>k0 r1
def zcr (s0:Str) (s1:Str):Nat→Int→Option Bool
 | 0,_=>none
 | n+1,i5=>if (decide (i5<(s0.length:Int))) then (sAt s0 i5).bind fun r1=>if (r1==37) then (zd i5 2).bind fun r2=>if (decide ((s0.length:Int)≤r2)) then some false else (zd i5 1).bind fun r3=>(zd i5 3).bind fun r4=>(zk0 s0 r3 r4).bind fun r5=>(zbS zdV [r5]).bind fun r6=>if (!r6) then some false else (zd i5 2).bind fun r7=>(zd r7 1).bind fun r8=>zcr s0 s1 n r8 else (sAt s0 i5).bind fun r9=>(zh6 r9).bind fun r10=>if (!r10) then (sAt s0 i5).bind fun r11=>(strings_IndexByte s1 r11).bind fun r12=>zi3 (zcr s0 s1 n) i5 (decide (r12<0)) else zi3 (zcr s0 s1 n) i5 false else some true
def zgi (x_s:Str) (x_more:Str):Option Bool:=zcr x_s x_more fuel 0
def zn4 (x_r:zWS):Option Bool:=(zht x_r.Path [47]).bind fun r1=>(zgi x_r.Auth [91,93]).bind fun r2=>if (!r2) then some false else (strings_Contains x_r.Auth [64]).bind fun r3=>if r3 then some false else (zgi x_r.Path [47]).bind fun r4=>if (!r4) then some false else (zgi x_r.Query [47,63]).bind fun r5=>if (!r5) then some false else (zgi x_r.Frag [47,63]).bind fun r6=>if (!r6) then some false else if x_r.HasAuth then if (x_r.Path==[]) then some true else (sAt x_r.Path 0).bind fun r7=>some (r7==47) else (strings_HasPrefix x_r.Path [47,47]).bind fun r8=>if r8 then some false else if (!(x_r.Scheme==[])) then some true else (strings_Contains r1.1 [58]).bind fun r9=>some (!r9)
def zm3 (x_s:Str):Option (zWS × Int):=(zm2 x_s).bind fun r1=>(zn4 r1).bind fun r2=>if (!r2) then some ((⟨[],[],[],[],[],false,false,false⟩:zWS),2) else some (r1,0)
def zhu (x_s:Str):Option Bool:=(zm3 x_s).bind fun r1=>some (r1.2==0)
def zeM (l0:List zWK) (l5:List zWK) (i6:Int):Nat→Int→Option Int
 | 0,_=>none
 | n+1,i7=>if (decide (i7<i6)) then (lAt l5 i7).bind fun r1=>if (r1.From==[]) then some 2 else (zhu r1.From).bind fun r2=>if (!r2) then some 2 else (zhu r1.To).bind fun r3=>if (!r3) then some 2 else (zd i7 1).bind fun r4=>zeM l0 l5 i6 n r4 else if (decide ((64:Int)<(l0.length:Int))) then some 3 else some 0
def zj9 (x_l:List zWK):Option Int:=zeM x_l x_l (x_l.length:Int) fuel 0
def zhv (v1:zWJ) (t44:Bool):Option Int:=if t44 then some 2 else (zlk v1.Domains).bind fun r1=>if (!(r1==0)) then some r1 else (zj9 v1.Locations).bind fun r2=>some r2
def zka (v1:zWJ) (i6:Int) (t30:Bool):Option Int:=if t30 then some i6 else if (!(v1.Scheme==[])) then if (!(v1.Scheme==[104,116,116,112])) then zhv v1 (!(v1.Scheme==[104,116,116,112,115])) else zhv v1 false else zhv v1 false
def zlY (x_env:zWJ):Option Int:=(zj7 (⟨[],[49,46,49],x_env.By,[]⟩:zWP)).bind fun r1=>if (!(r1.2==0)) then some r1.2 else (zb4 x_env.Host).bind fun r2=>if (!(r2.2==0)) then zka x_env r2.2 (!(x_env.Host==[])) else zka x_env r2.2 false
def zhw (x_size:Int):Option (Option zWI × Int):=if (decide (x_size<1)) then some (none,1) else if (decide ((65536:Int)<x_size)) then some (none,1) else some (some (⟨x_size,[],false⟩:zWI),0)
def zlZ (x_most:Int):Option (Option zWV × Int):=if (decide (x_most<1)) then some (none,1) else if (decide ((64:Int)<x_most)) then some (none,1) else some (some (⟨(⟨[],x_most⟩:zXi),false⟩:zWV),0)
def zny (x_side:Int):Option (Option (List Str)):=if (x_side==1) then some (some ([[99,108,105,101,110,116],[104,111,115,116],[109,101,116,104,111,100],[112,97,116,104],[115,99,104,101,109,101]])) else if (x_side==2) then some (some ([[99,108,105,101,110,116],[104,111,115,116],[115,99,104,101,109,101],[115,116,97,116,117,115]])) else some none
def zeG (x_f:zWx):Option Int:=(zdW x_f.Name).bind fun r1=>if (!r1) then some 21 else (zbS zaL [x_f.Value]).bind fun r2=>if (!r2) then some 25 else (zbI x_f.Value [32,9]).bind fun r3=>if (!(r3==x_f.Value)) then some 25 else some 0
def zlm (v1:zXe) (i4:Int) (t15:Bool):Option Bool:=if t15 then (zdW v1.Name).bind fun r1=>if r1 then some (v1.Value==[]) else some false else if (i4==3) then (zeG (⟨v1.Name,v1.Value⟩:zWx)).bind fun r2=>some (r2==0) else some false
def zqD (x_g:zXe):Option Bool:=if (x_g.Kind==0) then if (x_g.Name==[]) then some (x_g.Value==[]) else some false else if (x_g.Kind==1) then zlm x_g x_g.Kind true else zlm x_g x_g.Kind (x_g.Kind==2)
def ztl:Option (List Str):=some ([[99,111,110,110,101,99,116,105,111,110],[99,111,110,116,101,110,116,45,108,101,110,103,116,104],[107,101,101,112,45,97,108,105,118,101],[112,114,111,120,121,45,99,111,110,110,101,99,116,105,111,110],[116,101],[116,114,97,105,108,101,114],[116,114,97,110,115,102,101,114,45,101,110,99,111,100,105,110,103],[117,112,103,114,97,100,101]])
def zaX (s:Str):Option Str:=if s.length<4294967281 then s.mapM zbQ else none
def zab (l0:List Str) (s1:Str) (i7:Int):Nat→Int→Option Int
 | 0,_=>none
 | n+1,i8=>if (decide (i8<i7)) then (lAt l0 i8).bind fun r1=>if (s1==r1) then some i8 else (zd i8 1).bind fun r2=>zab l0 s1 i7 n r2 else some (-1)
def zbD (x_s:List Str) (x_v:Str):Option Int:=zab x_s x_v (x_s.length:Int) fuel 0
def zo (x_s:List Str) (x_v:Str):Option Bool:=(zbD x_s x_v).bind fun r1=>some (decide ((0:Int)≤r1))
def ztm (x_name:Str):Option Bool:=ztl.bind fun r1=>(zaX x_name).bind fun r2=>(zo r1 r2).bind fun r3=>some r3
def ztn (x_name:Str):Option Bool:=(ztm x_name).bind fun r1=>if r1 then some true else (zaX x_name).bind fun r2=>(zo ([[104,111,115,116],[118,105,97],[102,111,114,119,97,114,100,101,100],[120,45,102,111,114,119,97,114,100,101,100,45,102,111,114]]) r2).bind fun r3=>some r3
def zpI (x_name:Str):Option Bool:=(zdW x_name).bind fun r1=>if r1 then (ztn x_name).bind fun r2=>some (!r2) else some false
def zln (k0:List Str→Int→Option (List Str)) (l3:List Str) (v5:zWz) (i8:Int) (t21:Bool):Option (List Str):=if t21 then if ze l3.length ([v5.Text]:List Str).length 16 then (zd i8 1).bind fun r1=>k0 (l3++[v5.Text]) r1 else none else (zd i8 1).bind fun r2=>k0 l3 r2
def ze6 (l6:List zWz) (i7:Int):Nat→List Str→Int→Option (List Str)
 | 0,_,_=>none
 | n+1,l3,i8=>if (decide (i8<i7)) then (lAt l6 i8).bind fun r1=>if (r1.Kind==2) then (zo l3 r1.Text).bind fun r2=>zln (ze6 l6 i7 n) l3 r1 i8 (!r2) else zln (ze6 l6 i7 n) l3 r1 i8 false else some l3
def zqE (x_l:List zWz):Option (List Str):=ze6 x_l (x_l.length:Int) fuel [] 0
def znz (x_b:UInt8):Option Bool:=if (decide (97≤x_b)) then some (decide (x_b≤122)) else some false
def znA (x_b:UInt8):Option Bool:=(zaL x_b).bind fun r1=>if r1 then some (!(x_b==36)) else some false
def zck (x_c:zWD) (x_t:Str):Option (Bool × zWD):=(zal x_c).bind fun r1=>(strings_HasPrefix r1 x_t).bind fun r2=>if (!r2) then some (false,x_c) else (zd x_c.zWY (x_t.length:Int)).bind fun r3=>some (true,(⟨x_c.zXp,r3⟩:zWD))
def zeq (vp0:zWZ) (s1:Str) (i4:Int) (t23:Bool):Option zWZ:=if t23 then (zbY i4 1).bind fun r1=>(lAt vp0.zWQ r1).bind fun r2=>(zb1 r2.Text s1).bind fun r3=>(lAt vp0.zWQ r1).bind fun r4=>(zwR vp0.zWQ r1 (⟨r4.Kind,r3⟩:zWz)).bind fun r5=>some (⟨vp0.Scanner,r5⟩:zWZ) else if ze vp0.zWQ.length ([(⟨1,s1⟩:zWz)]:List zWz).length 24 then some (⟨vp0.Scanner,vp0.zWQ++[(⟨1,s1⟩:zWz)]⟩:zWZ) else none
def zec (x_r:zWZ) (x_s:Str):Option zWZ:=if (decide ((0:Int)<(x_r.zWQ.length:Int))) then (zbY (x_r.zWQ.length:Int) 1).bind fun r1=>(lAt x_r.zWQ r1).bind fun r2=>zeq x_r x_s (x_r.zWQ.length:Int) (r2.Kind==1) else zeq x_r x_s (x_r.zWQ.length:Int) false
def zdE (vp0:zWZ) (t2:Bool):Option (Bool × zWZ):=some (t2,vp0)
def zdF (vp0:zWZ) (v3:zWz):Option (Bool × zWZ):=if ze vp0.zWQ.length ([v3]:List zWz).length 24 then if (!(v3.Text==[])) then (zf vp0.Scanner 125).bind fun r1=>zdE (⟨r1.2,vp0.zWQ++[v3]⟩:zWZ) r1.1 else zdE (⟨vp0.Scanner,vp0.zWQ++[v3]⟩:zWZ) false else none
def zfl (x_r:zWZ):Option (Bool × zWZ):=(zf x_r.Scanner 64).bind fun r1=>if r1.1 then (zD r1.2).bind fun r2=>zdF (⟨r2.2.2,x_r.zWQ⟩:zWZ) (⟨3,r2.1⟩:zWz) else (zx r1.2 znz).bind fun r3=>zdF (⟨r3.2,x_r.zWQ⟩:zWZ) (⟨2,r3.1⟩:zWz)
def zgj (x_r:zWZ):Option (Bool × zWZ):=(zck x_r.Scanner [36,36]).bind fun r1=>if r1.1 then (zec (⟨r1.2,x_r.zWQ⟩:zWZ) [36]).bind fun r2=>some (true,r2) else (zck r1.2 [36,123]).bind fun r3=>if r3.1 then (zfl (⟨r3.2,x_r.zWQ⟩:zWZ)).bind fun r4=>some (r4.1,r4.2) else (zx r3.2 znA).bind fun r5=>(zec (⟨r5.2,x_r.zWQ⟩:zWZ) r5.1).bind fun r6=>some (!(r5.1==[]),r6)
def ziL:Nat→zWZ→Option (List zWz × Int)
 | 0,_=>none
 | n+1,v4=>(zaf v4.Scanner).bind fun r1=>if (!r1) then (zgj v4).bind fun r2=>if (!r2.1) then some ([],2) else ziL n r2.2 else if (decide ((32:Int)<(v4.zWQ.length:Int))) then some ([],3) else some (v4.zWQ,0)
def zqF (x_s:Str):Option (List zWz × Int):=(zgH x_s).bind fun r1=>ziL fuel (⟨r1,[]⟩:zWZ)
def zM (l0:List zWz) (l1:List zWz) (i12:Int):Nat→Int→Option Bool
 | 0,_=>none
 | n+1,i13=>if (decide (i13<i12)) then (lAt l0 i13).bind fun r1=>(lAt l1 i13).bind fun r2=>if (!(r1==r2)) then some false else (zd i13 1).bind fun r3=>zM l0 l1 i12 n r3 else some true
def zaR (x_s1:List zWz) (x_s2:List zWz):Option Bool:=if (!((x_s1.length:Int)==(x_s2.length:Int))) then some false else zM x_s1 x_s2 (x_s1.length:Int) fuel 0
def zh7 (k0:List Str→Int→Option (Str × Int)) (l4:List Str) (i12:Int):Option (Str × Int):=(zd i12 1).bind fun r1=>k0 l4 r1
def zdG (l0:List zWz) (l10:List zWz) (i11:Int):Nat→List Str→Int→Option (Str × Int)
 | 0,_,_=>none
 | n+1,l4,i12=>if (decide (i12<i11)) then (lAt l10 i12).bind fun r1=>if (r1.Kind==1) then (strings_ReplaceAll r1.Text [36] [36,36]).bind fun r2=>if ze l4.length ([r2]:List Str).length 16 then zh7 (zdG l0 l10 i11 n) (l4++[r2]) i12 else none else if (r1.Kind==2) then if ze l4.length ([[36,123],r1.Text,[125]]:List Str).length 16 then zh7 (zdG l0 l10 i11 n) (l4++([[36,123],r1.Text,[125]])) i12 else none else if (r1.Kind==3) then if ze l4.length ([[36,123,64],r1.Text,[125]]:List Str).length 16 then zh7 (zdG l0 l10 i11 n) (l4++([[36,123,64],r1.Text,[125]])) i12 else none else zh7 (zdG l0 l10 i11 n) l4 i12 else (zbk [] l4).bind fun r3=>(zqF r3).bind fun r4=>if (!(r4.2==0)) then some ([],2) else (zaR r4.1 l0).bind fun r5=>if (!r5) then some ([],2) else some (r3,0)
def zto (x_l:List zWz):Option (Str × Int):=zdG x_l x_l (x_l.length:Int) fuel [] 0
def ziM (l1:List zWz) (l5:List Str) (l13:List Str) (i14:Int):Nat→Int→Option Bool
 | 0,_=>none
 | n+1,i15=>if (decide (i15<i14)) then (lAt l13 i15).bind fun r1=>(zo l5 r1).bind fun r2=>if (!r2) then some false else (zd i15 1).bind fun r3=>ziM l1 l5 l13 i14 n r3 else (zto l1).bind fun r4=>some (r4.2==0)
def zlo (l1:List zWz) (l5:List Str):Option Bool:=(zqE l1).bind fun r1=>ziM l1 l5 r1 (r1.length:Int) fuel 0
def zqG (x_side:Int) (x_l:List zWz):Option Bool:=(zny x_side).bind fun r1=>optK r1 (zlo x_l []) fun r2=>zlo x_l r2
def zn5 (v1:zWC):Option Bool:=if (v1.To==[]) then (zqG v1.Side v1.Parts).bind fun r1=>some r1 else some false
def zwc (x_r:zWC):Option Bool:=if (x_r.Kind==1) then zn5 x_r else if (x_r.Kind==2) then zn5 x_r else if (x_r.Kind==3) then if (x_r.To==[]) then some ((x_r.Parts.length:Int)==0) else some false else if (x_r.Kind==4) then (zpI x_r.To).bind fun r1=>if r1 then some ((x_r.Parts.length:Int)==0) else some false else some false
def zqH (x_r:zWC):Option Int:=(zny x_r.Side).bind fun r1=>optK r1 (some 9) fun r2=>(nnl r2).bind fun _=>(zqD x_r.Guard).bind fun r3=>if (!r3) then some 9 else (zpI x_r.Name).bind fun r4=>if (!r4) then some 9 else (zwc x_r).bind fun r5=>if (!r5) then some 9 else some 0
def zhx (l0:List zWC) (l7:List zWC) (i8:Int):Nat→Int→Option (Int × Int)
 | 0,_=>none
 | n+1,i9=>if (decide (i9<i8)) then (lAt l7 i9).bind fun r1=>(zqH r1).bind fun r2=>if (!(r2==0)) then some (i9,r2) else (zd i9 1).bind fun r3=>zhx l0 l7 i8 n r3 else if (decide ((64:Int)<(l0.length:Int))) then some (0,3) else some (0,0)
def zjF (x_l:List zWC):Option (Int × Int):=zhx x_l x_l (x_l.length:Int) fuel 0
def zhy (l:List zWK):Option (List zWK):=if ze 0 l.length 32 then some l else none
def zfD (l:List zWz):Option (List zWz):=if ze 0 l.length 24 then some l else none
def zgk (i0:Int) (i1:Int) (t19:Bool):Option (Option zWL × Int):=if t19 then some (none,1) else some (some (⟨i0,i1,[],0,false,0,false,(⟨0,[],[],0,[],0,[]⟩:zWB)⟩:zWL),0)
def ztp (x_kind:Int) (x_limit:Int):Option (Option zWL × Int):=if (!(x_kind==1)) then if (!(x_kind==2)) then zgk x_kind x_limit true else if (decide (x_limit<0)) then zgk x_kind x_limit true else zgk x_kind x_limit (decide ((65536:Int)<x_limit)) else if (decide (x_limit<0)) then zgk x_kind x_limit true else zgk x_kind x_limit (decide ((65536:Int)<x_limit))
def zdX (x_kind:Int) (x_limit:Int):Option zWE:=(ztp x_kind x_limit).bind fun r1=>optK r1.1 (some (⟨none,none,none⟩:zWE)) fun r2=>some (⟨some r2,none,none⟩:zWE)
def zed (v4:zXr) (l72:List zWC) (i73:Int):Nat→zWv→Int→Option (Option zWv × Int)
 | 0,_,_=>none
 | n+1,v15,i74=>if (decide (i74<i73)) then (lAt l72 i74).bind fun r1=>(zfD r1.Parts).bind fun r2=>if ze v15.zXG.length ([({r1 with Parts:=r2}:zWC)]:List zWC).length 112 then (zd i74 1).bind fun r3=>zed v4 l72 i73 n ({v15 with zXG:=v15.zXG++[({r1 with Parts:=r2}:zWC)]}:zWv) r3 else none else (zdX 1 v4.Head).bind fun r4=>(zdX 2 v4.Head).bind fun r5=>some (some ({v15 with zWy:=r4,zWw:=r5}:zWv),0)
def zfE (l2:List zWC) (v3:zWJ) (v4:zXr) (i10:Int) (o11:Option zWV) (i12:Int):Option (Option zWv × Int):=if (!(i10==0)) then some (none,1) else if (!(i12==0)) then some (none,1) else if (decide (v4.Head<1)) then some (none,1) else if (decide ((65536:Int)<v4.Head)) then some (none,1) else (zjF l2).bind fun r1=>if (!(r1.2==0)) then some (none,r1.2) else (zhy v3.Domains).bind fun r2=>(zhy v3.Locations).bind fun r3=>zed v4 l2 (l2.length:Int) fuel (⟨o11,({v3 with Domains:=r2,Locations:=r3}:zWJ),v4,[],(⟨none,none,none⟩:zWE),(⟨none,none,none⟩:zWE),[],[],0,false,false,false,false,false,false,false⟩:zWv) 0
def zfF (l2:List zWC) (v3:zWJ) (v4:zXr) (i10:Int):Option (Option zWv × Int):=(zlZ v4.Queue).bind fun r1=>optK r1.1 (zfE l2 v3 v4 i10 none r1.2) fun r2=>zfE l2 v3 v4 i10 (some r2) r1.2
def zf4 (x_a0:zWJ) (x_a1:zXr) (x_a2:List zWC):Option (Option zWv × Int):=(zlY x_a0).bind fun r1=>if (!(r1==0)) then some (none,r1) else (zhw x_a1.Chunk).bind fun r2=>optK r2.1 (zfF x_a2 x_a0 x_a1 r2.2) fun r3=>zfF x_a2 x_a0 x_a1 r2.2
def zl0 (x_s:zW5):Option (Option zWF × Int):=(zf4 x_s.Env x_s.Caps x_s.Rules).bind fun r1=>optK r1.1 (if (!(r1.2==0)) then some (none,r1.2) else if (decide ((1048576:Int)<(x_s.Client.length:Int))) then some (none,3) else if (decide ((1048576:Int)<(x_s.Upstream.length:Int))) then some (none,3) else none) fun r2=>if (!(r1.2==0)) then some (none,r1.2) else if (decide ((1048576:Int)<(x_s.Client.length:Int))) then some (none,3) else if (decide ((1048576:Int)<(x_s.Upstream.length:Int))) then some (none,3) else some (some (⟨r2,(⟨x_s.Client,0,x_s.ClientEnds,false,[],(),()⟩:zXb),(⟨x_s.Upstream,0,x_s.UpstreamEnds,false,[],(),()⟩:zXb),(⟨0,0⟩:zXx)⟩:zWF),0)
def zn6 (x_s:zW5):Option ref44_Setup:=some (⟨x_s.Env,x_s.Caps,x_s.Rules⟩:ref44_Setup)
def zfG (s0:Str) (b1:UInt8):Nat→List Str→Int→Int→Option (List Str)
 | 0,_,_,_=>none
 | n+1,l5,i6,i7=>if (decide (i7<(s0.length:Int))) then (sAt s0 i7).bind fun r1=>if (r1==b1) then (zk0 s0 i6 i7).bind fun r2=>if ze l5.length ([r2]:List Str).length 16 then (zd i7 1).bind fun r3=>(zd i7 1).bind fun r4=>zfG s0 b1 n (l5++[r2]) r3 r4 else none else (zd i7 1).bind fun r5=>zfG s0 b1 n l5 i6 r5 else (zad s0 i6).bind fun r6=>if ze l5.length ([r6]:List Str).length 16 then some (l5++[r6]) else none
def zjG (x_s:Str) (x_c:UInt8):Option (List Str):=zfG x_s x_c fuel [] 0 0
def znB (b0:UInt8) (i1:Int) (s5:Str) (s6:Str):Nat→Int→Option Int
 | 0,_=>none
 | n+1,i7=>if (decide (i7<i1)) then (sAt s5 i7).bind fun r1=>if (r1==b0) then some i7 else (sAt s6 i7).bind fun r2=>if (r2==b0) then some i7 else (zd i7 1).bind fun r3=>znB b0 i1 s5 s6 n r3 else some (-1)
def zl1 (x_b:UInt8) (x_base:Int):Option Int:=znB x_b x_base [48,49,50,51,52,53,54,55,56,57,97,98,99,100,101,102] [48,49,50,51,52,53,54,55,56,57,65,66,67,68,69,70] fuel 0
def zee:Nat→Int→Int→Option Str
 | 0,_,_=>none
 | n+1,x_n,x_base=>if (decide (x_n<x_base)) then (zd x_n 1).bind fun r1=>(zk0 [48,49,50,51,52,53,54,55,56,57,97,98,99,100,101,102] x_n r1).bind fun r2=>some r2 else (zDu x_n x_base).bind fun r3=>(zee n r3 x_base).bind fun r4=>(zBd x_n x_base).bind fun r5=>(zBd x_n x_base).bind fun r6=>(zd r6 1).bind fun r7=>(zk0 [48,49,50,51,52,53,54,55,56,57,97,98,99,100,101,102] r5 r7).bind fun r8=>(zb1 r4 r8).bind fun r9=>some r9
def zh8 (x_n:Int) (x_base:Int):Option Str:=zee fuel x_n x_base
def zkb (k0:Str→Int→Option (Str × Bool)) (i1:Int) (s6:Str) (i7:Int) (i8:Int) (t27:Bool):Option (Str × Bool):=if t27 then (zh8 i8 i1).bind fun r1=>(zb1 s6 r1).bind fun r2=>(zd i7 1).bind fun r3=>k0 r2 r3 else (zd i7 1).bind fun r4=>k0 s6 r4
def zef (s0:Str) (i1:Int):Nat→Str→Int→Option (Str × Bool)
 | 0,_,_=>none
 | n+1,s6,i7=>if (decide (i7<(s0.length:Int))) then (sAt s0 i7).bind fun r1=>(zl1 r1 i1).bind fun r2=>if (decide (r2<0)) then some ([],false) else if (!(s6==[])) then zkb (zef s0 i1 n) i1 s6 i7 r2 true else zkb (zef s0 i1 n) i1 s6 i7 r2 (decide ((0:Int)<r2)) else if (s6==[]) then some ([48], !(s0==[])) else some (s6, !(s0==[]))
def zn7 (x_s:Str) (x_base:Int):Option (Str × Bool):=zef x_s x_base fuel [] 0
def zqI (x_a:Str) (x_b:Str):Option Bool:=if (decide ((x_a.length:Int)<(x_b.length:Int))) then some true else if ((x_a.length:Int)==(x_b.length:Int)) then some (ziJ x_a x_b) else some false
def ziN (i1:Int) (s8:Str):Nat→Int→Int→Option (Int × Int)
 | 0,_,_=>none
 | n+1,i10,i11=>if (decide (i11<(s8.length:Int))) then (zHX i10 i1).bind fun r1=>(sAt s8 i11).bind fun r2=>(zl1 r2 i1).bind fun r3=>(zd r1 r3).bind fun r4=>(zd i11 1).bind fun r5=>ziN i1 s8 n r4 r5 else some (i10,0)
def zqJ (x_s:Str) (x_base:Int) (x_most:Int):Option (Int × Int):=(zn7 x_s x_base).bind fun r1=>if (!r1.2) then some (0,2) else if (decide (x_most<0)) then some (0,7) else (zh8 x_most x_base).bind fun r2=>(zqI r2 r1.1).bind fun r3=>if r3 then some (0,7) else ziN x_base r1.1 fuel 0 0
def zqK (x_n:Int) (x_base:Int):Option Str:=if (decide (x_n<0)) then some [] else (zh8 x_n x_base).bind fun r1=>some r1
def zl2 (x_s:Str) (x_most:Int):Option Int:=if (decide ((5:Int)<(x_s.length:Int))) then some (-1) else (zqJ x_s 10 x_most).bind fun r1=>if (!(r1.2==0)) then some (-1) else (zqK r1.1 10).bind fun r2=>if (!(r2==x_s)) then some (-1) else some r1.1
def ziO (l3:List Str):Nat→Int→Option Bool
 | 0,_=>none
 | n+1,i4=>if (decide (i4<(l3.length:Int))) then (lAt l3 i4).bind fun r1=>(zl2 r1 255).bind fun r2=>if (decide (r2<0)) then some false else (zd i4 1).bind fun r3=>ziO l3 n r3 else some ((l3.length:Int)==4)
def zjp (x_s:Str):Option Bool:=(zjG x_s 46).bind fun r1=>ziO r1 fuel 0
def zjH (b0:UInt8) (s1:Str):Nat→Int→Option Bool
 | 0,_=>none
 | n+1,i5=>if (decide (i5<(s1.length:Int))) then (sAt s1 i5).bind fun r1=>if (r1==b0) then some true else (zd i5 1).bind fun r2=>zjH b0 s1 n r2 else some false
def zfH (x_b:UInt8) (x_l:Str):Option Bool:=zjH x_b x_l fuel 0
def zh9 (x_b:UInt8):Option Bool:=(zfH x_b [48,49,50,51,52,53,54,55,56,57,97,98,99,100,101,102,65,66,67,68,69,70]).bind fun r1=>some r1
def zhz (k0:Int→Int→Option Bool) (l3:List Str) (i4:Int) (i5:Int):Nat→Int→Option Bool
 | 0,_=>none
 | n+1,i6=>(lAt l3 i5).bind fun r1=>if (decide (i6<(r1.length:Int))) then (lAt l3 i5).bind fun r2=>(sAt r2 i6).bind fun r3=>(zh9 r3).bind fun r4=>if (!r4) then some false else (zd i6 1).bind fun r5=>zhz k0 l3 i4 i5 n r5 else (lAt l3 i5).bind fun r6=>if (decide ((r6.length:Int)<1)) then some false else (lAt l3 i5).bind fun r7=>if (decide ((4:Int)<(r7.length:Int))) then some false else (zd i4 1).bind fun r8=>(zd i5 1).bind fun r9=>k0 r8 r9
def zkc (k0:Int→Int→Option Bool) (l3:List Str) (i4:Int) (i5:Int) (t26:Bool):Option Bool:=if t26 then (zd i4 2).bind fun r1=>(zd i5 1).bind fun r2=>k0 r1 r2 else zhz k0 l3 i4 i5 fuel 0
def zc5 (l3:List Str):Nat→Int→Int→Option Bool
 | 0,_,_=>none
 | n+1,i4,i5=>if (decide (i5<(l3.length:Int))) then (zbY (l3.length:Int) 1).bind fun r1=>if (i5==r1) then (lAt l3 i5).bind fun r2=>(zjp r2).bind fun r3=>zkc (zc5 l3 n) l3 i4 i5 r3 else zkc (zc5 l3 n) l3 i4 i5 false else some (i4==8)
def zl3 (x_s:Str):Option Bool:=(zjG x_s 58).bind fun r1=>zc5 r1 fuel 0 0
def zm4 (k2:Str→Int→Option Bool) (s5:Str) (i6:Int):Option Bool:=(zb1 s5 [48]).bind fun r1=>(zd i6 1).bind fun r2=>k2 r1 r2
def zm5 (k1:Int→Option Bool) (i4:Int) (s5:Str):Option Bool:=(zl3 s5).bind fun r1=>if r1 then some true else (zd i4 1).bind fun r2=>k1 r2
def zgl (k1:Int→Option Bool) (s0:Str) (i3:Int) (i4:Int):Nat→Str→Int→Option Bool
 | 0,_,_=>none
 | n+1,s5,i6=>if (decide (i6<i4)) then if (!(s5==[])) then (zb1 s5 [58]).bind fun r1=>zm4 (zgl k1 s0 i3 i4 n) r1 i6 else zm4 (zgl k1 s0 i3 i4 n) s5 i6 else (zd i3 2).bind fun r2=>(zad s0 r2).bind fun r3=>if (!(r3==[])) then (zb1 s5 [58]).bind fun r4=>(zd i3 2).bind fun r5=>(zad s0 r5).bind fun r6=>(zb1 r4 r6).bind fun r7=>zm5 k1 i4 r7 else zm5 k1 i4 s5
def zeN (s0:Str) (i3:Int):Nat→Int→Option Bool
 | 0,_=>none
 | n+1,i4=>if (decide (i4≤8)) then (sTo s0 i3).bind fun r1=>zgl (zeN s0 i3 n) s0 i3 i4 fuel r1 0 else some false
def zia (s0:Str):Nat→Int→Option Bool
 | 0,_=>none
 | n+1,i3=>(zd i3 1).bind fun r1=>if (decide (r1<(s0.length:Int))) then (sAt s0 i3).bind fun r2=>if (!(r2==58)) then (zd i3 1).bind fun r3=>zia s0 n r3 else (zd i3 1).bind fun r4=>(sAt s0 r4).bind fun r5=>if (!(r5==58)) then (zd i3 1).bind fun r6=>zia s0 n r6 else zeN s0 i3 fuel 1 else (zl3 s0).bind fun r7=>some r7
def ztq (x_s:Str):Option Bool:=zia x_s fuel 0
def zd0 (x_b:UInt8):Option Bool:=(zfH x_b [97,98,99,100,101,102,103,104,105,106,107,108,109,110,111,112,113,114,115,116,117,118,119,120,121,122,65,66,67,68,69,70,71,72,73,74,75,76,77,78,79,80,81,82,83,84,85,86,87,88,89,90,48,49,50,51,52,53,54,55,56,57,45,46,95,126]).bind fun r1=>some r1
def znh (x_b:UInt8):Option Bool:=(zfH x_b [33,36,38,39,40,41,42,43,44,59,61]).bind fun r1=>some r1
def zlp (k0:Int→Option Bool) (i3:Int) (t48:Bool):Option Bool:=if t48 then some false else (zd i3 1).bind fun r1=>k0 r1
def zdY (s0:Str):Nat→Int→Option Bool
 | 0,_=>none
 | n+1,i3=>if (decide (i3<(s0.length:Int))) then (sAt s0 i3).bind fun r1=>if (r1==37) then (zd i3 2).bind fun r2=>if (decide ((s0.length:Int)≤r2)) then some false else (zd i3 1).bind fun r3=>(sAt s0 r3).bind fun r4=>(zh9 r4).bind fun r5=>if (!r5) then some false else (zd i3 2).bind fun r6=>(sAt s0 r6).bind fun r7=>(zh9 r7).bind fun r8=>if (!r8) then some false else (zd i3 2).bind fun r9=>(zd r9 1).bind fun r10=>zdY s0 n r10 else (sAt s0 i3).bind fun r11=>(zd0 r11).bind fun r12=>if (!r12) then (sAt s0 i3).bind fun r13=>(znh r13).bind fun r14=>zlp (zdY s0 n) i3 (!r14) else zlp (zdY s0 n) i3 false else some (decide ((0:Int)<(s0.length:Int)))
def zk4 (x_s:Str):Option Bool:=zdY x_s fuel 0
def zjI (s0:Str) (t26:Bool):Option zW0:=if t26 then (zbY (s0.length:Int) 1).bind fun r1=>(zk0 s0 1 r1).bind fun r2=>some (⟨3,r2,(-1)⟩:zW0) else (zjp s0).bind fun r3=>if r3 then some (⟨2,s0,(-1)⟩:zW0) else (zk4 s0).bind fun r4=>if r4 then some (⟨1,s0,(-1)⟩:zW0) else some (⟨0,[],0⟩:zW0)
def zsI (x_s:Str):Option zW0:=if (decide ((2:Int)<(x_s.length:Int))) then (sAt x_s 0).bind fun r1=>if (r1==91) then (zbY (x_s.length:Int) 1).bind fun r2=>(sAt x_s r2).bind fun r3=>if (r3==93) then (zbY (x_s.length:Int) 1).bind fun r4=>(zk0 x_s 1 r4).bind fun r5=>(ztq r5).bind fun r6=>zjI x_s r6 else zjI x_s false else zjI x_s false else zjI x_s false
def zhA (s0:Str):Nat→Int→Option (zW0 × Int)
 | 0,_=>none
 | n+1,i5=>if (decide ((0:Int)≤i5)) then (sAt s0 i5).bind fun r1=>if (!(r1==58)) then (zbY i5 1).bind fun r2=>zhA s0 n r2 else (sTo s0 i5).bind fun r3=>(zsI r3).bind fun r4=>(zd i5 1).bind fun r5=>(zad s0 r5).bind fun r6=>(zl2 r6 65535).bind fun r7=>if (r4.Kind==0) then some ((⟨0,[],0⟩:zW0),27) else if (decide (r7<0)) then some ((⟨0,[],0⟩:zW0),27) else some (({r4 with Port:=r7}:zW0),0) else some ((⟨0,[],0⟩:zW0),27)
def zl4 (x_s:Str):Option (zW0 × Int):=(zsI x_s).bind fun r1=>if (!(r1.Kind==0)) then some (r1,0) else (zbY (x_s.length:Int) 1).bind fun r2=>zhA x_s fuel r2
def zpJ (x_b:UInt8):Option Bool:=(zfH x_b [97,98,99,100,101,102,103,104,105,106,107,108,109,110,111,112,113,114,115,116,117,118,119,120,121,122,65,66,67,68,69,70,71,72,73,74,75,76,77,78,79,80,81,82,83,84,85,86,87,88,89,90,48,49,50,51,52,53,54,55,56,57,33,35,36,37,38,39,42,43,45,46,94,95,96,124,126]).bind fun r1=>some r1
def zhB (s0:Str):Nat→Int→Option Bool
 | 0,_=>none
 | n+1,i3=>if (decide (i3<(s0.length:Int))) then (sAt s0 i3).bind fun r1=>(zpJ r1).bind fun r2=>if (!r2) then some false else (zd i3 1).bind fun r3=>zhB s0 n r3 else some (decide ((0:Int)<(s0.length:Int)))
def zan (x_s:Str):Option Bool:=zhB x_s fuel 0
def zf5 (x_b:UInt8):Option Bool:=if (decide (32≤x_b)) then if (!(x_b==127)) then some true else some (x_b==9) else some (x_b==9)
def zib (k0:Int→Int→Option Bool) (i3:Int) (i4:Int):Option Bool:=if (decide (i3<0)) then some false else (zd i4 1).bind fun r1=>k0 i3 r1
def zic (k0:Int→Int→Option Bool) (s0:Str) (i3:Int) (i4:Int):Option Bool:=(sAt s0 i4).bind fun r1=>if (r1==41) then (zbY i3 1).bind fun r2=>zib k0 r2 i4 else zib k0 i3 i4
def zbe (s0:Str):Nat→Int→Int→Option Bool
 | 0,_,_=>none
 | n+1,i3,i4=>if (decide (i4<(s0.length:Int))) then (sAt s0 i4).bind fun r1=>(zf5 r1).bind fun r2=>if (!r2) then some false else (sAt s0 i4).bind fun r3=>if (r3==92) then (zd i4 1).bind fun r4=>if (r4==(s0.length:Int)) then some false else (sAt s0 r4).bind fun r5=>(zf5 r5).bind fun r6=>if (!r6) then some false else (zd r4 1).bind fun r7=>zbe s0 n i3 r7 else (sAt s0 i4).bind fun r8=>if (r8==40) then (zd i3 1).bind fun r9=>zic (zbe s0 n) s0 r9 i4 else zic (zbe s0 n) s0 i3 i4 else some (i3==0)
def zlq (x_s:Str):Option Bool:=zbe x_s fuel 0 0
def zhC (s0:Str):Nat→Int→Option Bool
 | 0,_=>none
 | n+1,i3=>if (decide (i3<(s0.length:Int))) then (sAt s0 i3).bind fun r1=>if (r1==44) then some true else (sAt s0 i3).bind fun r2=>if (r2==40) then some true else (sAt s0 i3).bind fun r3=>if (r3==41) then some true else (zd i3 1).bind fun r4=>zhC s0 n r4 else some false
def zl5 (x_s:Str):Option Bool:=zhC x_s fuel 0
def zai (s0:Str) (i5:Int) (v6:zWP) (t107:Bool):Option (zWP × Int):=if t107 then some ((⟨[],[],[],[]⟩:zWP),2) else if (i5==(s0.length:Int)) then some (v6,0) else (zd i5 1).bind fun r1=>(zad s0 r1).bind fun r2=>if (decide ((r2.length:Int)<3)) then some ((⟨[],[],[],[]⟩:zWP),2) else (sAt r2 0).bind fun r3=>if (!(r3==40)) then some ((⟨[],[],[],[]⟩:zWP),2) else (zbY (r2.length:Int) 1).bind fun r4=>(sAt r2 r4).bind fun r5=>if (!(r5==41)) then some ((⟨[],[],[],[]⟩:zWP),2) else (zbY (r2.length:Int) 1).bind fun r6=>(zk0 r2 1 r6).bind fun r7=>(zlq r7).bind fun r8=>if (!r8) then some ((⟨[],[],[],[]⟩:zWP),2) else (zbY (r2.length:Int) 1).bind fun r9=>(zk0 r2 1 r9).bind fun r10=>some (({v6 with Comment:=r10}:zWP),0)
def zhD (s0:Str) (i5:Int) (v6:zWP) (l7:List Str):Option (zWP × Int):=(zl4 v6.By).bind fun r1=>if (decide ((2:Int)<(l7.length:Int))) then zai s0 i5 v6 true else if ((l7.length:Int)==2) then (zan v6.Proto).bind fun r2=>if (!r2) then zai s0 i5 v6 true else (zan v6.Version).bind fun r3=>if (!r3) then zai s0 i5 v6 true else if (!(r1.2==0)) then (zan v6.By).bind fun r4=>zai s0 i5 v6 (!r4) else (zl5 v6.By).bind fun r5=>if r5 then (zan v6.By).bind fun r6=>zai s0 i5 v6 (!r6) else zai s0 i5 v6 false else (zan v6.Version).bind fun r7=>if (!r7) then zai s0 i5 v6 true else if (!(r1.2==0)) then (zan v6.By).bind fun r8=>zai s0 i5 v6 (!r8) else (zl5 v6.By).bind fun r9=>if r9 then (zan v6.By).bind fun r10=>zai s0 i5 v6 (!r10) else zai s0 i5 v6 false
def zkd (k1:Int→Option (zWP × Int)) (s0:Str) (i4:Int) (i5:Int) (t40:Bool):Option (zWP × Int):=if t40 then (zd i5 1).bind fun r1=>k1 r1 else (sTo s0 i4).bind fun r2=>(zd i4 1).bind fun r3=>(zk0 s0 r3 i5).bind fun r4=>(sTo s0 i4).bind fun r5=>(zjG r5 47).bind fun r6=>if ((r6.length:Int)==2) then (lAt r6 0).bind fun r7=>(lAt r6 1).bind fun r8=>zhD s0 i5 (⟨r7,r8,r4,[]⟩:zWP) r6 else zhD s0 i5 (⟨[],r2,r4,[]⟩:zWP) r6
def zeg (s0:Str) (i4:Int):Nat→Int→Option (zWP × Int)
 | 0,_=>none
 | n+1,i5=>if (decide (i5<(s0.length:Int))) then (sAt s0 i5).bind fun r1=>zkd (zeg s0 i4 n) s0 i4 i5 (!(r1==32)) else zkd (zeg s0 i4 n) s0 i4 i5 false
def zke (k0:Int→Option (zWP × Int)) (s0:Str) (i4:Int) (t21:Bool):Option (zWP × Int):=if t21 then (zd i4 1).bind fun r1=>k0 r1 else if (i4==(s0.length:Int)) then some ((⟨[],[],[],[]⟩:zWP),2) else (zd i4 1).bind fun r2=>zeg s0 i4 fuel r2
def zeh (s0:Str):Nat→Int→Option (zWP × Int)
 | 0,_=>none
 | n+1,i4=>if (decide (i4<(s0.length:Int))) then (sAt s0 i4).bind fun r1=>zke (zeh s0 n) s0 i4 (!(r1==32)) else zke (zeh s0 n) s0 i4 false
def zn8 (x_a0:Str):Option (zWP × Int):=zeh x_a0 fuel 0
def ziP (v1:zWP) (s4:Str):Option (Str × Int):=(zn8 s4).bind fun r1=>if (!(r1.2==0)) then some ([],2) else if (!(r1.1==v1)) then some ([],2) else some (s4,0)
def zlr (v1:zWP) (s4:Str):Option (Str × Int):=if (!(v1.Comment==[])) then (zb1 s4 [32,40]).bind fun r1=>(zb1 r1 v1.Comment).bind fun r2=>(zb1 r2 [41]).bind fun r3=>ziP v1 r3 else ziP v1 s4
def zqL (x_v:zWP):Option (Str × Int):=(zb1 x_v.Version [32]).bind fun r1=>(zb1 r1 x_v.By).bind fun r2=>if (!(x_v.Proto==[])) then (zb1 x_v.Proto [47]).bind fun r3=>(zb1 r3 r2).bind fun r4=>zlr x_v r4 else zlr x_v r2
def zhE (k0:Int→Option Int) (i3:Int) (s5:Str):Nat→Int→Option Int
 | 0,_=>none
 | n+1,i6=>if (decide (i6<(s5.length:Int))) then (sAt s5 i6).bind fun r1=>if (r1==44) then some 27 else (sAt s5 i6).bind fun r2=>if (r2==59) then some 27 else (zd i6 1).bind fun r3=>zhE k0 i3 s5 n r3 else (zd i3 1).bind fun r4=>k0 r4
def zfI (l0:List zWK):Nat→Int→Option Int
 | 0,_=>none
 | n+1,i3=>if (decide (i3<(l0.length:Int))) then (lAt l0 i3).bind fun r1=>(lAt l0 i3).bind fun r2=>(zk4 r1.From).bind fun r3=>if (!r3) then some 27 else (zjp r1.From).bind fun r4=>if r4 then some 27 else (zk4 r2.To).bind fun r5=>if (!r5) then some 27 else (zjp r2.To).bind fun r6=>if r6 then some 27 else zhE (zfI l0 n) i3 r2.To fuel 0 else if (decide ((64:Int)<(l0.length:Int))) then some 3 else some 0
def zn9 (x_l:List zWK):Option Int:=zfI x_l fuel 0
def zkf (k0:Int→Option Int) (i5:Int) (t17:Bool):Option Int:=if t17 then (zd i5 1).bind fun r1=>k0 r1 else some i5
def zei (s0:Str) (s1:Str):Nat→Int→Option Int
 | 0,_=>none
 | n+1,i5=>if (decide (i5<(s0.length:Int))) then (sAt s0 i5).bind fun r1=>(zfH r1 s1).bind fun r2=>zkf (zei s0 s1 n) i5 (!r2) else zkf (zei s0 s1 n) i5 false
def zeO (x_s:Str) (x_l:Str):Option Int:=zei x_s x_l fuel 0
def zl6 (x_b:UInt8):Option Bool:=(zfH x_b [97,98,99,100,101,102,103,104,105,106,107,108,109,110,111,112,113,114,115,116,117,118,119,120,121,122,65,66,67,68,69,70,71,72,73,74,75,76,77,78,79,80,81,82,83,84,85,86,87,88,89,90]).bind fun r1=>some r1
def zl7 (x_b:UInt8):Option Bool:=(zfH x_b [48,49,50,51,52,53,54,55,56,57]).bind fun r1=>some r1
def zeH (k0:Int→Option Bool) (i3:Int) (t32:Bool):Option Bool:=if t32 then some false else (zd i3 1).bind fun r1=>k0 r1
def zbE (s0:Str):Nat→Int→Option Bool
 | 0,_=>none
 | n+1,i3=>if (decide (i3<(s0.length:Int))) then (sAt s0 i3).bind fun r1=>(zl6 r1).bind fun r2=>if (!r2) then if (i3==0) then zeH (zbE s0 n) i3 true else (sAt s0 i3).bind fun r3=>(zl7 r3).bind fun r4=>if (!r4) then (sAt s0 i3).bind fun r5=>(zfH r5 [43,45,46]).bind fun r6=>zeH (zbE s0 n) i3 (!r6) else zeH (zbE s0 n) i3 false else zeH (zbE s0 n) i3 false else some (decide ((0:Int)<(s0.length:Int)))
def zm6 (x_s:Str):Option Bool:=zbE x_s fuel 0
def znC (x_b:UInt8):Option Bool:=(zd0 x_b).bind fun r1=>if r1 then some true else (znh x_b).bind fun r2=>if r2 then some true else if (x_b==58) then some true else some (x_b==64)
def zjq:Nat→Str→Str→Option Bool
 | 0,_,_=>none
 | n+1,x_s,x_more=>if (x_s==[]) then some true else (sAt x_s 0).bind fun r1=>if (r1==37) then if (decide ((2:Int)<(x_s.length:Int))) then (sAt x_s 1).bind fun r2=>(zh9 r2).bind fun r3=>if r3 then (sAt x_s 2).bind fun r4=>(zh9 r4).bind fun r5=>if r5 then (zad x_s 3).bind fun r6=>(zjq n r6 x_more).bind fun r7=>some r7 else some false else some false else some false else (sAt x_s 0).bind fun r8=>(znC r8).bind fun r9=>if r9 then (zad x_s 1).bind fun r10=>(zjq n r10 x_more).bind fun r11=>some r11 else (sAt x_s 0).bind fun r12=>(zfH r12 x_more).bind fun r13=>if r13 then (zad x_s 1).bind fun r14=>(zjq n r14 x_more).bind fun r15=>some r15 else some false
def znD (x_s:Str) (x_more:Str):Option Bool:=zjq fuel x_s x_more
def zkg (v1:zWS) (t55:Bool):Option Bool:=if t55 then some false else (zeO v1.Path [58,47]).bind fun r1=>if (!(v1.Scheme==[])) then some true else if (r1==(v1.Path.length:Int)) then some true else (sAt v1.Path r1).bind fun r2=>some (r2==47)
def zoa (x_a0:zWS):Option Bool:=(znD x_a0.Auth [91,93]).bind fun r1=>if (!r1) then some false else (zeO x_a0.Auth [64]).bind fun r2=>if (decide (r2<(x_a0.Auth.length:Int))) then some false else (znD x_a0.Path [47]).bind fun r3=>if (!r3) then some false else (znD x_a0.Query [47,63]).bind fun r4=>if (!r4) then some false else (znD x_a0.Frag [47,63]).bind fun r5=>if (!r5) then some false else if x_a0.HasAuth then if (x_a0.Path==[]) then some true else (sAt x_a0.Path 0).bind fun r6=>some (r6==47) else if (decide ((1:Int)<(x_a0.Path.length:Int))) then (sTo x_a0.Path 2).bind fun r7=>zkg x_a0 (r7==[47,47]) else zkg x_a0 false
def zhF (s0:Str) (v4:zWS):Option (zWS × Int):=(zoa ({v4 with Path:=s0}:zWS)).bind fun r1=>if (!r1) then some ((⟨[],[],[],[],[],false,false,false⟩:zWS),2) else some (({v4 with Path:=s0}:zWS),0)
def zkh (s0:Str) (v4:zWS) (t73:Bool):Option (zWS × Int):=if t73 then (zad s0 2).bind fun r1=>(zeO r1 [47]).bind fun r2=>(zd 2 r2).bind fun r3=>(zk0 s0 2 r3).bind fun r4=>(zd 2 r2).bind fun r5=>(zad s0 r5).bind fun r6=>zhF r6 ({v4 with Auth:=r4,HasAuth:=true}:zWS) else zhF s0 v4
def zhG (s0:Str) (v4:zWS):Option (zWS × Int):=if (decide ((1:Int)<(s0.length:Int))) then (sTo s0 2).bind fun r1=>zkh s0 v4 (r1==[47,47]) else zkh s0 v4 false
def zhH (s0:Str) (v4:zWS) (i7:Int) (t57:Bool):Option (zWS × Int):=if t57 then (sTo s0 i7).bind fun r1=>(zd i7 1).bind fun r2=>(zad s0 r2).bind fun r3=>zhG r3 ({v4 with Scheme:=r1}:zWS) else zhG s0 v4
def zhI (s0:Str) (v4:zWS):Option (zWS × Int):=(zeO s0 [58,47]).bind fun r1=>if (decide (r1<(s0.length:Int))) then (sAt s0 r1).bind fun r2=>if (r2==58) then (sTo s0 r1).bind fun r3=>(zm6 r3).bind fun r4=>zhH s0 v4 r1 r4 else zhH s0 v4 r1 false else zhH s0 v4 r1 false
def zhJ (s0:Str) (v4:zWS):Option (zWS × Int):=(zeO s0 [63]).bind fun r1=>if (decide (r1<(s0.length:Int))) then (zd r1 1).bind fun r2=>(zad s0 r2).bind fun r3=>(sTo s0 r1).bind fun r4=>zhI r4 ({v4 with Query:=r3,HasQuery:=true}:zWS) else zhI s0 v4
def zl8 (x_a0:Str):Option (zWS × Int):=(zeO x_a0 [35]).bind fun r1=>if (decide (r1<(x_a0.length:Int))) then (zd r1 1).bind fun r2=>(zad x_a0 r2).bind fun r3=>(sTo x_a0 r1).bind fun r4=>zhJ r4 (⟨[],[],[],[],r3,false,false,true⟩:zWS) else zhJ x_a0 (⟨[],[],[],[],[],false,false,false⟩:zWS)
def zhK (l0:List zWK):Nat→Int→Option Int
 | 0,_=>none
 | n+1,i3=>if (decide (i3<(l0.length:Int))) then (lAt l0 i3).bind fun r1=>(zl8 r1.From).bind fun r2=>(lAt l0 i3).bind fun r3=>(zl8 r3.To).bind fun r4=>(lAt l0 i3).bind fun r5=>if (r5.From==[]) then some 2 else if (!(r2.2==0)) then some 2 else if (!(r4.2==0)) then some 2 else (zd i3 1).bind fun r6=>zhK l0 n r6 else if (decide ((64:Int)<(l0.length:Int))) then some 3 else some 0
def zob (x_l:List zWK):Option Int:=zhK x_l fuel 0
def zhL (v1:zWJ) (t41:Bool):Option Int:=if t41 then some 2 else (zn9 v1.Domains).bind fun r1=>if (!(r1==0)) then some r1 else (zob v1.Locations).bind fun r2=>some r2
def zki (v1:zWJ) (i4:Int) (t27:Bool):Option Int:=if t27 then some i4 else if (!(v1.Scheme==[])) then if (!(v1.Scheme==[104,116,116,112])) then zhL v1 (!(v1.Scheme==[104,116,116,112,115])) else zhL v1 false else zhL v1 false
def zoc (x_env:zWJ):Option Int:=(zqL (⟨[],[49,46,49],x_env.By,[]⟩:zWP)).bind fun r1=>if (!(r1.2==0)) then some r1.2 else (zl4 x_env.Host).bind fun r2=>if (!(r2.2==0)) then zki x_env r2.2 (!(x_env.Host==[])) else zki x_env r2.2 false
def zgO (s0:Str):Nat→Int→Option Bool
 | 0,_=>none
 | n+1,i3=>if (decide (i3<(s0.length:Int))) then (sAt s0 i3).bind fun r1=>(zf5 r1).bind fun r2=>if (!r2) then some false else (zd i3 1).bind fun r3=>zgO s0 n r3 else some true
def zm7 (x_s:Str):Option Bool:=zgO x_s fuel 0
def zjJ (x_b:UInt8):Option Bool:=if (x_b==32) then some true else some (x_b==9)
def zls (k1:Str→Option Str) (s0:Str) (t23:Bool):Option Str:=if t23 then (zbY (s0.length:Int) 1).bind fun r1=>(sTo s0 r1).bind fun r2=>k1 r2 else some s0
def ze7:Nat→Str→Option Str
 | 0,_=>none
 | n+1,s0=>if (decide ((0:Int)<(s0.length:Int))) then (zbY (s0.length:Int) 1).bind fun r1=>(sAt s0 r1).bind fun r2=>(zjJ r2).bind fun r3=>zls (ze7 n) s0 r3 else zls (ze7 n) s0 false
def zlt (k0:Str→Option Str) (s0:Str) (t10:Bool):Option Str:=if t10 then (zad s0 1).bind fun r1=>k0 r1 else ze7 fuel s0
def ze8:Nat→Str→Option Str
 | 0,_=>none
 | n+1,s0=>if (decide ((0:Int)<(s0.length:Int))) then (sAt s0 0).bind fun r1=>(zjJ r1).bind fun r2=>zlt (ze8 n) s0 r2 else zlt (ze8 n) s0 false
def zqM (x_s:Str):Option Str:=ze8 fuel x_s
def zod (x_f:zWx):Option Int:=(zan x_f.Name).bind fun r1=>if (!r1) then some 21 else (zm7 x_f.Value).bind fun r2=>if (!r2) then some 25 else (zqM x_f.Value).bind fun r3=>if (!(r3==x_f.Value)) then some 25 else some 0
def zl9 (x_g:zXe):Option Bool:=if (x_g.Kind==0) then if (x_g.Name==[]) then some (x_g.Value==[]) else some false else if (x_g.Kind==3) then (zod (⟨x_g.Name,x_g.Value⟩:zWx)).bind fun r1=>some (r1==0) else if (x_g.Kind==1) then (zan x_g.Name).bind fun r2=>if r2 then some (x_g.Value==[]) else some false else if (x_g.Kind==2) then (zan x_g.Name).bind fun r3=>if r3 then some (x_g.Value==[]) else some false else some false
def ze9 (k0:Str→Int→Option Str) (s0:Str) (s3:Str) (i4:Int):Nat→Str→Int→Option Str
 | 0,_,_=>none
 | n+1,s5,i6=>if (decide (i6<26)) then (sAt [65,66,67,68,69,70,71,72,73,74,75,76,77,78,79,80,81,82,83,84,85,86,87,88,89,90] i6).bind fun r1=>(sAt s0 i4).bind fun r2=>if (r1==r2) then (zd i6 1).bind fun r3=>(zk0 [97,98,99,100,101,102,103,104,105,106,107,108,109,110,111,112,113,114,115,116,117,118,119,120,121,122] i6 r3).bind fun r4=>(zd i6 1).bind fun r5=>ze9 k0 s0 s3 i4 n r4 r5 else (zd i6 1).bind fun r6=>ze9 k0 s0 s3 i4 n s5 r6 else (zb1 s3 s5).bind fun r7=>(zd i4 1).bind fun r8=>k0 r7 r8
def zg0 (s0:Str):Nat→Str→Int→Option Str
 | 0,_,_=>none
 | n+1,s3,i4=>if (decide (i4<(s0.length:Int))) then (zd i4 1).bind fun r1=>(zk0 s0 i4 r1).bind fun r2=>ze9 (zg0 s0 n) s0 s3 i4 fuel r2 0 else some s3
def znE (x_s:Str):Option Str:=zg0 x_s fuel [] 0
def zoe (x_name:Str):Option Bool:=(znE x_name).bind fun r1=>if (r1==[99,111,110,110,101,99,116,105,111,110]) then some true else if (r1==[99,111,110,116,101,110,116,45,108,101,110,103,116,104]) then some true else if (r1==[107,101,101,112,45,97,108,105,118,101]) then some true else if (r1==[112,114,111,120,121,45,99,111,110,110,101,99,116,105,111,110]) then some true else if (r1==[116,101]) then some true else if (r1==[116,114,97,105,108,101,114]) then some true else if (r1==[116,114,97,110,115,102,101,114,45,101,110,99,111,100,105,110,103]) then some true else if (r1==[117,112,103,114,97,100,101]) then some true else some false
def zk5 (x_name:Str):Option Bool:=(znE x_name).bind fun r1=>if (r1==[104,111,115,116]) then some true else if (r1==[118,105,97]) then some true else if (r1==[102,111,114,119,97,114,100,101,100]) then some true else if (r1==[120,45,102,111,114,119,97,114,100,101,100,45,102,111,114]) then some true else (zoe x_name).bind fun r2=>some r2
def zof (x_side:Int):Option (List Str):=if (x_side==1) then some ([[99,108,105,101,110,116],[104,111,115,116],[109,101,116,104,111,100],[112,97,116,104],[115,99,104,101,109,101]]) else if (x_side==2) then some ([[99,108,105,101,110,116],[104,111,115,116],[115,99,104,101,109,101],[115,116,97,116,117,115]]) else some []
def zfJ (k0:List Str→Int→Option (List Str)) (l0:List zWz) (l3:List Str) (i4:Int):Nat→Bool→Int→Option (List Str)
 | 0,_,_=>none
 | n+1,t5,i6=>if (decide (i6<(l3.length:Int))) then if t5 then (zd i6 1).bind fun r1=>zfJ k0 l0 l3 i4 n true r1 else (lAt l3 i6).bind fun r2=>(lAt l0 i4).bind fun r3=>(zd i6 1).bind fun r4=>zfJ k0 l0 l3 i4 n (r2==r3.Text) r4 else if (!t5) then (lAt l0 i4).bind fun r5=>if ze l3.length ([r5.Text]:List Str).length 16 then (zd i4 1).bind fun r6=>k0 (l3++[r5.Text]) r6 else none else (zd i4 1).bind fun r7=>k0 l3 r7
def zfK (l0:List zWz):Nat→List Str→Int→Option (List Str)
 | 0,_,_=>none
 | n+1,l3,i4=>if (decide (i4<(l0.length:Int))) then (lAt l0 i4).bind fun r1=>zfJ (zfK l0 n) l0 l3 i4 fuel (!(r1.Kind==2)) 0 else some l3
def zog (x_l:List zWz):Option (List Str):=zfK x_l fuel [] 0
def zkj (i4:Int) (s5:Str):Nat→Int→Option (zWz × Int)
 | 0,_=>none
 | n+1,i6=>if (decide (i6<(s5.length:Int))) then (sAt s5 i6).bind fun r1=>(zfH r1 [97,98,99,100,101,102,103,104,105,106,107,108,109,110,111,112,113,114,115,116,117,118,119,120,121,122]).bind fun r2=>if (!r2) then some ((⟨0,[]⟩:zWz),0) else (zd i6 1).bind fun r3=>zkj i4 s5 n r3 else (zd i4 1).bind fun r4=>some ((⟨2,s5⟩:zWz),r4)
def zm8 (k0:Int→Option (zWz × Int)) (s0:Str) (i4:Int) (t36:Bool):Option (zWz × Int):=if t36 then (zd i4 1).bind fun r1=>k0 r1 else if (i4==(s0.length:Int)) then some ((⟨0,[]⟩:zWz),0) else if (decide (i4<3)) then some ((⟨0,[]⟩:zWz),0) else (sAt s0 1).bind fun r2=>if (!(r2==123)) then some ((⟨0,[]⟩:zWz),0) else (zk0 s0 2 i4).bind fun r3=>(sAt r3 0).bind fun r4=>if (r4==64) then (zad r3 1).bind fun r5=>(zan r5).bind fun r6=>if (!r6) then some ((⟨0,[]⟩:zWz),0) else (zad r3 1).bind fun r7=>(zd i4 1).bind fun r8=>some ((⟨3,r7⟩:zWz),r8) else zkj i4 r3 fuel 0
def zgm (s0:Str):Nat→Int→Option (zWz × Int)
 | 0,_=>none
 | n+1,i4=>if (decide (i4<(s0.length:Int))) then (sAt s0 i4).bind fun r1=>zm8 (zgm s0 n) s0 i4 (!(r1==125)) else zm8 (zgm s0 n) s0 i4 false
def zm9 (s0:Str) (t25:Bool):Option (zWz × Int):=if t25 then some ((⟨1,[36]⟩:zWz),2) else zgm s0 fuel 0
def ztr (x_a0:Str):Option (zWz × Int):=(sAt x_a0 0).bind fun r1=>if (!(r1==36)) then (sAt x_a0 0).bind fun r2=>(zf5 r2).bind fun r3=>if (!r3) then some ((⟨0,[]⟩:zWz),0) else (sTo x_a0 1).bind fun r4=>some ((⟨1,r4⟩:zWz),1) else if (decide ((1:Int)<(x_a0.length:Int))) then (sAt x_a0 1).bind fun r5=>zm9 x_a0 (r5==36) else zm9 x_a0 false
def zhM (k0:Str→List zWz→Option (List zWz × Int)) (s0:Str) (l4:List zWz) (v5:zWz) (i7:Int) (t37:Bool):Option (List zWz × Int):=if t37 then (lAt l4 i7).bind fun r1=>(zb1 r1.Text v5.Text).bind fun r2=>(lAt l4 i7).bind fun r3=>(zwR l4 i7 (⟨r3.Kind,r2⟩:zWz)).bind fun r4=>k0 s0 r4 else if ze l4.length ([v5]:List zWz).length 24 then k0 s0 (l4++[v5]) else none
def zc6:Nat→Str→List zWz→Option (List zWz × Int)
 | 0,_,_=>none
 | n+1,s0,l4=>if (!(s0==[])) then (ztr s0).bind fun r1=>if (r1.2==0) then some ([],2) else (zad s0 r1.2).bind fun r2=>(zbY (l4.length:Int) 1).bind fun r3=>if (r1.1.Kind==1) then if (decide ((0:Int)≤r3)) then (lAt l4 r3).bind fun r4=>zhM (zc6 n) r2 l4 r1.1 r3 (r4.Kind==1) else zhM (zc6 n) r2 l4 r1.1 r3 false else zhM (zc6 n) r2 l4 r1.1 r3 false else if (decide ((32:Int)<(l4.length:Int))) then some ([],3) else some (l4,0)
def zoh (x_s:Str):Option (List zWz × Int):=zc6 fuel x_s []
def ziQ (l0:List zWz) (l1:List zWz):Nat→Int→Option Bool
 | 0,_=>none
 | n+1,i5=>if (decide (i5<(l0.length:Int))) then (lAt l0 i5).bind fun r1=>(lAt l1 i5).bind fun r2=>if (!(r1==r2)) then some false else (zd i5 1).bind fun r3=>ziQ l0 l1 n r3 else some true
def zqN (x_a:List zWz) (x_b:List zWz):Option Bool:=if (!((x_a.length:Int)==(x_b.length:Int))) then some false else ziQ x_a x_b fuel 0
def zlu (k1:Str→Int→Option (Str × Int)) (l0:List zWz) (s4:Str) (i5:Int) (i6:Int):Option (Str × Int):=(lAt l0 i5).bind fun r1=>(zd i6 1).bind fun r2=>(zk0 r1.Text i6 r2).bind fun r3=>(zb1 s4 r3).bind fun r4=>(zd i6 1).bind fun r5=>k1 r4 r5
def zfa (k0:Str→Int→Option (Str × Int)) (l0:List zWz) (i5:Int):Nat→Str→Int→Option (Str × Int)
 | 0,_,_=>none
 | n+1,s4,i6=>(lAt l0 i5).bind fun r1=>if (decide (i6<(r1.Text.length:Int))) then (lAt l0 i5).bind fun r2=>(sAt r2.Text i6).bind fun r3=>if (r3==36) then (zb1 s4 [36]).bind fun r4=>zlu (zfa k0 l0 i5 n) l0 r4 i5 i6 else zlu (zfa k0 l0 i5 n) l0 s4 i5 i6 else (zd i5 1).bind fun r5=>k0 s4 r5
def zb2 (l0:List zWz):Nat→Str→Int→Option (Str × Int)
 | 0,_,_=>none
 | n+1,s4,i5=>if (decide (i5<(l0.length:Int))) then (lAt l0 i5).bind fun r1=>if (r1.Kind==1) then zfa (zb2 l0 n) l0 i5 fuel s4 0 else if (r1.Kind==2) then (zb1 s4 [36,123]).bind fun r2=>(lAt l0 i5).bind fun r3=>(zb1 r2 r3.Text).bind fun r4=>(zb1 r4 [125]).bind fun r5=>(zd i5 1).bind fun r6=>zb2 l0 n r5 r6 else if (r1.Kind==3) then (zb1 s4 [36,123,64]).bind fun r7=>(lAt l0 i5).bind fun r8=>(zb1 r7 r8.Text).bind fun r9=>(zb1 r9 [125]).bind fun r10=>(zd i5 1).bind fun r11=>zb2 l0 n r10 r11 else (zd i5 1).bind fun r12=>zb2 l0 n s4 r12 else (zoh s4).bind fun r13=>if (!(r13.2==0)) then some ([],2) else (zqN r13.1 l0).bind fun r14=>if (!r14) then some ([],2) else some (s4,0)
def zqO (x_a0:List zWz):Option (Str × Int):=zb2 x_a0 fuel [] 0
def zfL (k0:Bool→Int→Option Int) (t3:Bool) (l4:List Str) (l5:List Str) (i6:Int):Nat→Bool→Int→Option Int
 | 0,_,_=>none
 | n+1,t7,i8=>if (decide (i8<(l4.length:Int))) then if t7 then (zd i8 1).bind fun r1=>zfL k0 t3 l4 l5 i6 n true r1 else (lAt l4 i8).bind fun r2=>(lAt l5 i6).bind fun r3=>(zd i8 1).bind fun r4=>zfL k0 t3 l4 l5 i6 n (r2==r3) r4 else if t3 then (zd i6 1).bind fun r5=>k0 t7 r5 else (zd i6 1).bind fun r6=>k0 false r6
def zkk (v1:zWC) (t3:Bool) (i10:Int) (i76:Int) (t77:Bool):Option Int:=if t77 then if t3 then if (v1.To==[]) then if (!(i10==0)) then some 9 else some 0 else some 9 else some 9 else if (i76==3) then if t3 then if (v1.To==[]) then if (!((v1.Parts.length:Int)==0)) then some 9 else some 0 else some 9 else some 9 else if (i76==4) then if t3 then (zan v1.To).bind fun r1=>if r1 then (zk5 v1.To).bind fun r2=>if (!r2) then if (!((v1.Parts.length:Int)==0)) then some 9 else some 0 else some 9 else some 9 else some 9 else some 9
def zfM (v1:zWC) (l4:List Str) (l5:List Str):Nat→Bool→Int→Option Int
 | 0,_,_=>none
 | n+1,t3,i6=>if (decide (i6<(l5.length:Int))) then zfL (zfM v1 l4 l5 n) t3 l4 l5 i6 fuel false 0 else (zqO v1.Parts).bind fun r1=>if (v1.Kind==1) then zkk v1 t3 r1.2 v1.Kind true else zkk v1 t3 r1.2 v1.Kind (v1.Kind==2)
def zbx (v1:zWC) (t3:Bool):Option Int:=(zof v1.Side).bind fun r1=>(zog v1.Parts).bind fun r2=>zfM v1 r1 r2 fuel t3 0
def zoi (x_a0:zWC):Option Int:=if (x_a0.Side==1) then (zl9 x_a0.Guard).bind fun r1=>if r1 then (zan x_a0.Name).bind fun r2=>if r2 then (zk5 x_a0.Name).bind fun r3=>zbx x_a0 (!r3) else zbx x_a0 false else zbx x_a0 false else if (x_a0.Side==2) then (zl9 x_a0.Guard).bind fun r4=>if r4 then (zan x_a0.Name).bind fun r5=>if r5 then (zk5 x_a0.Name).bind fun r6=>zbx x_a0 (!r6) else zbx x_a0 false else zbx x_a0 false else zbx x_a0 false
def zhN (l0:List zWC):Nat→Int→Option (Int × Int)
 | 0,_=>none
 | n+1,i4=>if (decide (i4<(l0.length:Int))) then (lAt l0 i4).bind fun r1=>(zoi r1).bind fun r2=>if (!(r2==0)) then some (i4,9) else (zd i4 1).bind fun r3=>zhN l0 n r3 else if (decide ((64:Int)<(l0.length:Int))) then some (0,3) else some (0,0)
def zoj (x_l:List zWC):Option (Int × Int):=zhN x_l fuel 0
def zok (x_s:ref44_Setup):Option Int:=(zoc x_s.Env).bind fun r1=>if (!(r1==0)) then some r1 else if (decide (x_s.Caps.Head<1)) then some 1 else if (decide ((65536:Int)<x_s.Caps.Head)) then some 1 else if (decide (x_s.Caps.Chunk<1)) then some 1 else if (decide ((65536:Int)<x_s.Caps.Chunk)) then some 1 else if (decide (x_s.Caps.Queue<1)) then some 1 else if (decide ((64:Int)<x_s.Caps.Queue)) then some 1 else (zoj x_s.Rules).bind fun r2=>some r2.2
def zhO (i3:Int) (t20:Bool):Option Int:=if t20 then some 3 else some i3
def zjK (x_s:zW5):Option Int:=(zn6 x_s).bind fun r1=>(zok r1).bind fun r2=>if (r2==0) then if (decide ((1048576:Int)<(x_s.Client.length:Int))) then zhO r2 true else zhO r2 (decide ((1048576:Int)<(x_s.Upstream.length:Int))) else zhO r2 false
def zk6:Option zXd:=some (⟨[],[],0,0,(⟨0,0⟩:zXx),false⟩:zXd)
def zi4 (v1:zXh) (i4:Int) (t5:Bool):Option Int:=if t5 then if (decide ((0:Int)≤v1.N)) then if (decide (v1.N≤1048576)) then some 0 else some 1 else some 1 else if (i4==2) then if (v1.N==0) then some 0 else some 1 else if (i4==4) then if (v1.N==0) then some 0 else some 1 else some 1
def zkl (x_e:zXh):Option Int:=if (x_e.Kind==1) then zi4 x_e x_e.Kind true else zi4 x_e x_e.Kind (x_e.Kind==3)
def zg9:Option Bool:=some true
def zfm (x_a:zWL):Option Bool:=some (!x_a.zX1)
def zha (x_s:zWE):Option Bool:=optK x_s.zXF (optK x_s.Accum (zg9.bind fun r3=>some r3) fun r2=>(zfm r2).bind fun r4=>some r4) fun r1=>some false
def zgn:Option Bool:=some false
def zid (x_r:zXi):Option Int:=(zbY x_r.zWT (x_r.zXs.length:Int)).bind fun r1=>some r1
def zeP (x_q:zWV):Option Bool:=(zid x_q.zXL).bind fun r1=>some (r1==0)
def zer (x_g:zWv):Option Bool:=if (!x_g.zW3) then if (!x_g.zW8) then (zha x_g.zWy).bind fun r1=>if (!r1) then some true else optK x_g.Queue (zgn.bind fun r3=>some (!r3)) fun r2=>(zeP r2).bind fun r4=>some (!r4) else some false else some false
def zfN (x_a1:Str):Option (Int × Bool × Int):=some (0,false,5)
def zqP (x_e:Int):Option Int:=if (x_e==0) then some 0 else if (x_e==3) then some 431 else some 400
def zd1:Option (zWB × Bool):=some ((⟨0,[],[],0,[],0,[]⟩:zWB),false)
def zgP (l:List zWx):Option (List zWx):=if ze 0 l.length 32 then some l else none
def zfn (x_l:List zWx):Option zWX:=(zgP x_l).bind fun r1=>some (⟨r1⟩:zWX)
def zbF (x_b:zWX):Option (List zWx):=(zgP x_b.zXs).bind fun r1=>some r1
def zbl (x_a:Str) (x_b:Str):Option Bool:=(zaX x_a).bind fun r1=>(zaX x_b).bind fun r2=>some (r1==r2)
def zdg (s1:Str) (l9:List zWx) (i10:Int):Nat→List Str→Int→Option (List Str)
 | 0,_,_=>none
 | n+1,l5,i11=>if (decide (i11<i10)) then (lAt l9 i11).bind fun r1=>(zbl r1.Name s1).bind fun r2=>if r2 then if ze l5.length ([r1.Value]:List Str).length 16 then (zd i11 1).bind fun r3=>zdg s1 l9 i10 n (l5++[r1.Value]) r3 else none else (zd i11 1).bind fun r4=>zdg s1 l9 i10 n l5 r4 else some l5
def zb5 (x_b:zWX) (x_name:Str):Option (List Str):=(zbF x_b).bind fun r1=>zdg x_name r1 (r1.length:Int) fuel [] 0
def zfo (x_c:zWD) (x_at:Int):Option (Bool × zWD):=if (decide (x_at<0)) then some (false,x_c) else (zcq x_c).bind fun r1=>if (decide (r1<x_at)) then some (false,x_c) else some (true,(⟨x_c.zXp,x_at⟩:zWD))
def zcY (vp0:zWN):Option zWN:=(zcq vp0.Scanner).bind fun r1=>some ({vp0 with zXw:=r1}:zWN)
def zcE (x_p:zWN) (x_at:Int):Option zWN:=(zk0 x_p.zXp x_p.zXw x_at).bind fun r1=>(zbI r1 [32,9]).bind fun r2=>if (!(r2==[])) then if ze x_p.zWQ.length ([r2]:List Str).length 16 then zcY ({x_p with zWQ:=x_p.zWQ++[r2]}:zWN) else none else zcY x_p
def zt:Nat→zWN→Int→Option (Bool × zWN)
 | 0,_,_=>none
 | n+1,vp0,i3=>if (decide ((0:Int)<i3)) then (zam vp0.Scanner).bind fun r1=>if (!r1.2) then some (false,vp0) else (zf vp0.Scanner r1.1).bind fun r2=>if (r1.1==40) then (zd i3 1).bind fun r3=>zt n ({vp0 with Scanner:=r2.2}:zWN) r3 else if (r1.1==41) then (zbY i3 1).bind fun r4=>zt n ({vp0 with Scanner:=r2.2}:zWN) r4 else if (r1.1==92) then (zam r2.2).bind fun r5=>if r5.2 then (zf r2.2 r5.1).bind fun r6=>zt n ({vp0 with Scanner:=r6.2}:zWN) i3 else zt n ({vp0 with Scanner:=r2.2}:zWN) i3 else zt n ({vp0 with Scanner:=r2.2}:zWN) i3 else some (true,vp0)
def zct (x_p:zWN):Option (Bool × zWN):=zt fuel x_p 1
def zie (k0:zXn→Bool→Option (Str × Bool × zWD)) (i4:Int) (v5:zXn) (t6:Bool) (t25:Bool):Option (Str × Bool × zWD):=if t25 then (zf v5.Scanner 92).bind fun r1=>(zam r1.2).bind fun r2=>if (!r2.2) then k0 (⟨r1.2,v5.zWQ⟩:zXn) false else (zaL r2.1).bind fun r3=>if (!r3) then k0 (⟨r1.2,v5.zWQ⟩:zXn) false else if ze v5.zWQ.length ([r2.1]:List UInt8).length 1 then (zf r1.2 r2.1).bind fun r4=>k0 (⟨r4.2,v5.zWQ++[r2.1]⟩:zXn) r4.1 else none else if (!t6) then (zfo v5.Scanner i4).bind fun r5=>some ([],false,r5.2) else some (v5.zWQ,true,v5.Scanner)
def zcN (i4:Int):Nat→zXn→Bool→Option (Str × Bool × zWD)
 | 0,_,_=>none
 | n+1,v5,t6=>if t6 then (zf v5.Scanner 34).bind fun r1=>zie (zcN i4 n) i4 (⟨r1.2,v5.zWQ⟩:zXn) t6 (!r1.1) else zie (zcN i4 n) i4 v5 t6 false
def ziR (x_c:zWD):Option (Str × Bool × zWD):=(zcq x_c).bind fun r1=>(zf x_c 34).bind fun r2=>zcN r1 fuel (⟨r2.2,[]⟩:zXn) r2.1
def zdH (x_p:zWN):Option (Bool × zWN):=(zcq x_p.Scanner).bind fun r1=>(zf x_p.Scanner 44).bind fun r2=>if r2.1 then (zcE ({x_p with Scanner:=r2.2}:zWN) r1).bind fun r3=>some (true,r3) else (zf r2.2 40).bind fun r4=>if r4.1 then (zct ({x_p with Scanner:=r4.2}:zWN)).bind fun r5=>some (r5.1,r5.2) else (zam r4.2).bind fun r6=>if (r6.1==34) then (ziR r4.2).bind fun r7=>some (r7.2.1,({x_p with Scanner:=r7.2.2}:zWN)) else (zf r4.2 r6.1).bind fun r8=>some (true,({x_p with Scanner:=r8.2}:zWN))
def zgQ (s0:Str):Nat→zWN→Option (List Str × Int)
 | 0,_=>none
 | n+1,v4=>(zaf v4.Scanner).bind fun r1=>if (!r1) then (zdH v4).bind fun r2=>if (!r2.1) then some ([],2) else zgQ s0 n r2.2 else (zcE v4 (s0.length:Int)).bind fun r3=>some (r3.zWQ,0)
def zkm (x_s:Str):Option (List Str × Int):=(zgH x_s).bind fun r1=>zgQ x_s fuel (⟨r1,[],0,x_s⟩:zWN)
def zfO (k0:List Str→Int→Option (List Str × Int)) (l4:List Str) (l7:List Str) (i13:Int) (i26:Int):Nat→Int→Option (List Str × Int)
 | 0,_=>none
 | n+1,i27=>if (decide (i27<i26)) then (lAt l7 i27).bind fun r1=>(zdW r1).bind fun r2=>if (!r2) then some ([],2) else (zd i27 1).bind fun r3=>zfO k0 l4 l7 i13 i26 n r3 else if ze l4.length l7.length 16 then (zd i13 1).bind fun r4=>k0 (l4++l7) r4 else none
def zd2 (l11:List Str) (i12:Int):Nat→List Str→Int→Option (List Str × Int)
 | 0,_,_=>none
 | n+1,l4,i13=>if (decide (i13<i12)) then (lAt l11 i13).bind fun r1=>(zkm r1).bind fun r2=>if (!(r2.2==0)) then some ([],r2.2) else zfO (zd2 l11 i12 n) l4 r2.1 i13 (r2.1.length:Int) fuel 0 else some (l4,0)
def zg1 (x_l:List Str):Option (List Str × Int):=zd2 x_l (x_l.length:Int) fuel [] 0
def zeQ (x_r:zXt) (x_l:List Str):Option (zWG × Int × zWX):=(zg1 x_l).bind fun r1=>if (!(r1.2==0)) then some ((⟨0,0⟩:zWG),30,x_r.Bag) else if (x_r.zX5==0) then some ((⟨0,0⟩:zWG),30,x_r.Bag) else if (!((r1.1.length:Int)==1)) then some ((⟨0,0⟩:zWG),30,x_r.Bag) else (lAt r1.1 0).bind fun r2=>(zbl r2 [99,104,117,110,107,101,100]).bind fun r3=>if (!r3) then some ((⟨0,0⟩:zWG),30,x_r.Bag) else some ((⟨3,0⟩:zWG),0,x_r.Bag)
def zby (k1:Int→Int→Option (zWG × Int × zWX)) (vp32:zWX) (i13:Int) (i31:Int) (t50:Bool):Option (zWG × Int × zWX):=if t50 then some ((⟨0,0⟩:zWG),28,vp32) else (zd i31 1).bind fun r1=>k1 i13 r1
def zN (k0:Int→Int→Option (zWG × Int × zWX)) (vp32:zWX) (i17:Int) (l29:List Str) (i30:Int):Nat→Int→Int→Option (zWG × Int × zWX)
 | 0,_,_=>none
 | n+1,i6,i31=>if (decide (i31<i30)) then (lAt l29 i31).bind fun r1=>(zds r1 1099511627776).bind fun r2=>if (!(r2.2==0)) then zby (zN k0 vp32 i17 l29 i30 n) vp32 r2.1 i31 true else if (decide ((0:Int)≤i6)) then zby (zN k0 vp32 i17 l29 i30 n) vp32 r2.1 i31 (!(r2.1==i6)) else zby (zN k0 vp32 i17 l29 i30 n) vp32 r2.1 i31 false else (zd i17 1).bind fun r3=>k0 i6 r3
def z7 (vp32:zWX) (l15:List Str) (i16:Int):Nat→Int→Int→Option (zWG × Int × zWX)
 | 0,_,_=>none
 | n+1,i6,i17=>if (decide (i17<i16)) then (lAt l15 i17).bind fun r1=>(zkm r1).bind fun r2=>if (!(r2.2==0)) then some ((⟨0,0⟩:zWG),28,vp32) else zN (z7 vp32 l15 i16 n) vp32 i17 r2.1 (r2.1.length:Int) fuel i6 0 else if (decide (i6<0)) then some ((⟨0,0⟩:zWG),28,vp32) else some ((⟨2,i6⟩:zWG),0,vp32)
def zes (x_r:zXt) (x_l:List Str):Option (zWG × Int × zWX):=z7 x_r.Bag x_l (x_l.length:Int) fuel (-1) 0
def zna (i1:Int) (v6:zXt) (l7:List Str) (l8:List Str) (t21:Bool):Option (zWG × Int):=if t21 then some ((⟨0,0⟩:zWG),29) else if (decide ((0:Int)<(l7.length:Int))) then (zeQ v6 l7).bind fun r1=>some (r1.1,r1.2.1) else if (decide ((0:Int)<(l8.length:Int))) then (zes v6 l8).bind fun r2=>some (r2.1,r2.2.1) else some ((⟨i1,0⟩:zWG),0)
def zpK (x_h:zWB) (x_none:Int):Option (zWG × Int):=(zfn x_h.Fields).bind fun r1=>(zb5 r1 [84,114,97,110,115,102,101,114,45,69,110,99,111,100,105,110,103]).bind fun r2=>(zb5 r1 [67,111,110,116,101,110,116,45,76,101,110,103,116,104]).bind fun r3=>if (decide ((0:Int)<(r2.length:Int))) then zna x_none (⟨r1,x_h.Minor⟩:zXt) r2 r3 (decide ((0:Int)<(r3.length:Int))) else zna x_none (⟨r1,x_h.Minor⟩:zXt) r2 r3 false
def zhP (x_h:zWB):Option (zWG × Int):=(zpK x_h 1).bind fun r1=>some (r1.1,r1.2)
def zif (k1:List Str→Int→Option (List Str)) (l3:List Str) (s9:Str) (i26:Int) (t39:Bool):Option (List Str):=if t39 then if ze l3.length ([s9]:List Str).length 16 then (zd i26 1).bind fun r1=>k1 (l3++[s9]) r1 else none else (zd i26 1).bind fun r2=>k1 l3 r2
def zcO (k0:List Str→Int→Option (List Str)) (i14:Int) (l24:List Str) (i25:Int):Nat→List Str→Int→Option (List Str)
 | 0,_,_=>none
 | n+1,l3,i26=>if (decide (i26<i25)) then (lAt l24 i26).bind fun r1=>(zaX r1).bind fun r2=>if (!(r2==[104,111,115,116])) then (zo l3 r2).bind fun r3=>zif (zcO k0 i14 l24 i25 n) l3 r2 i26 (!r3) else zif (zcO k0 i14 l24 i25 n) l3 r2 i26 false else (zd i14 1).bind fun r4=>k0 l3 r4
def zcP (l12:List Str) (i13:Int):Nat→List Str→Int→Option (List Str)
 | 0,_,_=>none
 | n+1,l3,i14=>if (decide (i14<i13)) then (lAt l12 i14).bind fun r1=>(zg1 [r1]).bind fun r2=>zcO (zcP l12 i13 n) i14 r2.1 (r2.1.length:Int) fuel l3 0 else some l3
def zlv (x_l:List zWx):Option (List Str):=(zfn x_l).bind fun r1=>(zb5 r1 [67,111,110,110,101,99,116,105,111,110]).bind fun r2=>zcP r2 (r2.length:Int) fuel [] 0
def zni (x_s:Str) (x_a1:Str):Option Bool:=(zbl x_s x_a1).bind fun r1=>some r1
def zr (l0:List Str) (u1:Str) (i7:Int):Nat→Int→Option Int
 | 0,_=>none
 | n+1,i8=>if (decide (i8<i7)) then (lAt l0 i8).bind fun r1=>(zni r1 u1).bind fun r2=>if r2 then some i8 else (zd i8 1).bind fun r3=>zr l0 u1 i7 n r3 else some (-1)
def zY (x_s:List Str) (x_f:Str):Option Int:=zr x_s x_f (x_s.length:Int) fuel 0
def zO (x_s:List Str) (x_f:Str):Option Bool:=(zY x_s x_f).bind fun r1=>some (decide ((0:Int)≤r1))
def zwd (x_name:Str) (x_names:List Str):Option Bool:=(zO x_names x_name).bind fun r1=>some r1
def zcQ (x_f:zWx) (x_a1:List Str):Option Bool:=(zwd x_f.Name x_a1).bind fun r1=>some r1
def zk (l0:List zWx) (u1:List Str) (i7:Int):Nat→Int→Option Int
 | 0,_=>none
 | n+1,i8=>if (decide (i8<i7)) then (lAt l0 i8).bind fun r1=>(zcQ r1 u1).bind fun r2=>if r2 then some i8 else (zd i8 1).bind fun r3=>zk l0 u1 i7 n r3 else some (-1)
def zE (x_s:List zWx) (x_f:List Str):Option Int:=zk x_s x_f (x_s.length:Int) fuel 0
def zi (u1:List Str):Nat→List zWx→Int→Int→Option (List zWx)
 | 0,_,_,_=>none
 | n+1,l0,i5,i6=>if (decide (i6<(l0.length:Int))) then (lAt l0 i6).bind fun r1=>(zcQ r1 u1).bind fun r2=>if (!r2) then (lAt l0 i5).bind fun r3=>(zwR l0 i5 r1).bind fun r4=>(zd i5 1).bind fun r5=>(zd i6 1).bind fun r6=>zi u1 n r4 r5 r6 else (zd i6 1).bind fun r7=>zi u1 n l0 i5 r7 else (zpn l0 i5).bind fun r8=>(lTo (l0.take i5.toNat++(List.replicate r8.length (⟨[],[]⟩:zWx)++l0.drop (i5.toNat+r8.length))) i5).bind fun r9=>some r9
def zq (x_s:List zWx) (x_del:List Str):Option (List zWx):=(zE x_s x_del).bind fun r1=>if (r1==(-1)) then some x_s else (zd r1 1).bind fun r2=>zi x_del fuel x_s r1 r2
def zcR (x_b:zWX) (x_names:List Str):Option (Int × zWX):=(zq x_b.zXs x_names).bind fun r1=>(zbY (x_b.zXs.length:Int) (r1.length:Int)).bind fun r2=>some (r2,(⟨r1⟩:zWX))
def zts (x_l:List zWx):Option (List zWx):=(zfn x_l).bind fun r1=>(zlv x_l).bind fun r2=>ztl.bind fun r3=>if ze r2.length r3.length 16 then (zcR r1 (r2++r3)).bind fun r4=>(zbF r4.2).bind fun r5=>some r5 else none
def zma (k0:Int→Option Bool) (i5:Int) (t25:Bool):Option Bool:=if t25 then (zd i5 2).bind fun r1=>(zd r1 1).bind fun r2=>k0 r2 else some false
def zdZ (s0:Str) (s1:Str):Nat→Int→Option Bool
 | 0,_=>none
 | n+1,i5=>if (decide (i5<(s0.length:Int))) then (sAt s0 i5).bind fun r1=>(zh6 r1).bind fun r2=>if r2 then (zd i5 1).bind fun r3=>zdZ s0 s1 n r3 else (sAt s0 i5).bind fun r4=>(strings_IndexByte s1 r4).bind fun r5=>if (decide ((0:Int)≤r5)) then (zd i5 1).bind fun r6=>zdZ s0 s1 n r6 else (sAt s0 i5).bind fun r7=>if (r7==37) then (zd i5 2).bind fun r8=>if (decide (r8<(s0.length:Int))) then (zd i5 1).bind fun r9=>(zd i5 3).bind fun r10=>(zk0 s0 r9 r10).bind fun r11=>(zbS zdV [r11]).bind fun r12=>zma (zdZ s0 s1 n) i5 r12 else zma (zdZ s0 s1 n) i5 false else zma (zdZ s0 s1 n) i5 false else some true
def zsJ (x_s:Str) (x_more:Str):Option Bool:=zdZ x_s x_more fuel 0
def zqQ (x_s:Str):Option Bool:=(strings_HasPrefix x_s [47]).bind fun r1=>if r1 then (zsJ x_s [47]).bind fun r2=>some r2 else some false
def zol (x_s:Str):Option Bool:=(zsJ x_s [47,63]).bind fun r1=>some r1
def zpL (x_s:Str):Option (Str × Str × Bool × Int):=(strings_Cut x_s [63]).bind fun r1=>(zqQ r1.1).bind fun r2=>if (!r2) then some ([],[],false,2) else (zol r1.2.1).bind fun r3=>if (!r3) then some ([],[],false,2) else some (r1.1,r1.2.1,r1.2.2,0)
def zkn (v2:zW1) (i6:Int):Option (zW1 × Bool):=some (v2,i6==0)
def zko (s1:Str) (v2:zW1) (t7:Bool):Option (zW1 × Bool):=(zpL s1).bind fun r1=>if t7 then zkn (⟨v2.Kind,v2.Scheme,v2.Host,[],r1.2.1,r1.2.2.1⟩:zW1) r1.2.2.2 else zkn (⟨v2.Kind,v2.Scheme,v2.Host,r1.1,r1.2.1,r1.2.2.1⟩:zW1) r1.2.2.2
def zmb (x_t:zW1) (x_s:Str):Option (zW1 × Bool):=if (x_s==[]) then some (x_t,true) else (sAt x_s 0).bind fun r1=>if (r1==63) then (zb1 [47] x_s).bind fun r2=>zko r2 x_t (r1==63) else zko x_s x_t (r1==63)
def zgo (s5:Str) (v7:zW1) (i8:Int):Option (zW1 × Bool):=(sTo s5 i8).bind fun r1=>(zb4 r1).bind fun r2=>if (!(r2.2==0)) then some (v7,false) else (zad s5 i8).bind fun r3=>(zmb ({v7 with Host:=r2.1}:zW1) r3).bind fun r4=>some (r4.1,r4.2)
def zej (s5:Str) (v7:zW1) (t31:Bool):Option (zW1 × Bool):=if t31 then some (v7,false) else (strings_IndexAny s5 [47,63]).bind fun r1=>if (decide (r1<0)) then zgo s5 v7 (s5.length:Int) else zgo s5 v7 r1
def zi5 (x_s:Str):Option (zW1 × Bool):=(strings_Cut x_s [58,47,47]).bind fun r1=>(zaX r1.1).bind fun r2=>if (!r1.2.2) then zej r1.2.1 (⟨2,r2,(⟨0,[],0⟩:zW0),[],[],false⟩:zW1) true else if (!(r2==[104,116,116,112])) then zej r1.2.1 (⟨2,r2,(⟨0,[],0⟩:zW0),[],[],false⟩:zW1) (!(r2==[104,116,116,112,115])) else zej r1.2.1 (⟨2,r2,(⟨0,[],0⟩:zW0),[],[],false⟩:zW1) false
def ztt (x_method:Str) (x_s:Str):Option (zW1 × Bool):=if (x_s==[42]) then some ((⟨4,[],(⟨0,[],0⟩:zW0),[],[],false⟩:zW1),x_method==[79,80,84,73,79,78,83]) else (strings_HasPrefix x_s [47]).bind fun r1=>if (!r1) then (zi5 x_s).bind fun r2=>some (r2.1,r2.2) else (zmb (⟨1,[],(⟨0,[],0⟩:zW0),[],[],false⟩:zW1) x_s).bind fun r3=>some (r3.1,r3.2)
def zi6 (v6:zW0) (t23:Bool):Option (zW1 × Int):=if t23 then some ((⟨0,[],(⟨0,[],0⟩:zW0),[],[],false⟩:zW1),20) else some ((⟨3,[],v6,[],[],false⟩:zW1),0)
def zkp (x_method:Str) (x_s:Str):Option (zW1 × Int):=if (x_method==[67,79,78,78,69,67,84]) then (zb4 x_s).bind fun r1=>if (!(r1.2==0)) then zi6 r1.1 true else zi6 r1.1 (decide (r1.1.Port<0)) else (ztt x_method x_s).bind fun r2=>if (!r2.2) then some ((⟨0,[],(⟨0,[],0⟩:zW0),[],[],false⟩:zW1),20) else some (r2.1,0)
def zqR (x_path:Str) (x_query:Str) (x_has:Bool):Option Str:=if (!x_has) then some x_path else (zb1 x_path [63]).bind fun r1=>(zb1 r1 x_query).bind fun r2=>some r2
def zig (v1:zW1) (s3:Str):Option Str:=(zqR s3 v1.Query v1.HasQuery).bind fun r1=>some r1
def zlw (x_t:zW1):Option Str:=if (x_t.Kind==4) then some [42] else if (x_t.Kind==3) then some [] else if (x_t.Path==[]) then zig x_t [47] else zig x_t x_t.Path
def zih (v1:zW0) (l4:List Str):Option (Str × Int):=(zbk [] l4).bind fun r1=>(zb4 r1).bind fun r2=>if (!(r2.2==0)) then some ([],27) else if (!(r2.1==v1)) then some ([],27) else some (r1,0)
def zii (v1:zW0) (l4:List Str):Option (Str × Int):=if (!(v1.Port==(-1))) then (zcX v1.Port).bind fun r1=>if ze l4.length ([[58],r1]:List Str).length 16 then zih v1 (l4++([[58],r1])) else none else zih v1 l4
def zlx (x_h:zW0):Option (Str × Int):=if (x_h.Kind==3) then zii x_h ([[91],x_h.Name,[93]]) else zii x_h [x_h.Name]
def zg2 (x_x:zWx) (x_a1:Str):Option Bool:=(zbl x_x.Name x_a1).bind fun r1=>some r1
def zj (l0:List zWx) (u1:Str) (i7:Int):Nat→Int→Option Int
 | 0,_=>none
 | n+1,i8=>if (decide (i8<i7)) then (lAt l0 i8).bind fun r1=>(zg2 r1 u1).bind fun r2=>if r2 then some i8 else (zd i8 1).bind fun r3=>zj l0 u1 i7 n r3 else some (-1)
def zA (x_s:List zWx) (x_f:Str):Option Int:=zj x_s x_f (x_s.length:Int) fuel 0
def zjL (x_b:zWX) (x_name:Str):Option (Str × Bool):=(zb5 x_b x_name).bind fun r1=>if ((r1.length:Int)==0) then some ([],false) else (lAt r1 0).bind fun r2=>some (r2,true)
def zfb (x_b:zWX) (x_l:List zWx):Option zWX:=if ze x_b.zXs.length x_l.length 32 then some (⟨x_b.zXs++x_l⟩:zWX) else none
def ziS (x_b:zWX) (x_name:Str) (x_value:Str):Option zWX:=(zA x_b.zXs x_name).bind fun r1=>if (decide (r1<0)) then (zfb x_b [(⟨x_name,x_value⟩:zWx)]).bind fun r2=>some r2 else (zcR x_b [x_name]).bind fun r3=>(zcj r3.2.zXs r1 [(⟨x_name,x_value⟩:zWx)]).bind fun r4=>some (⟨r4⟩:zWX)
def zdI (vp0:zXf) (v4:zWJ):Option zXf:=(zjL vp0.Bag [72,111,115,116]).bind fun r1=>if (!r1.2) then (zfb vp0.Bag ([(⟨[72,111,115,116],v4.Host⟩:zWx)])).bind fun r2=>some (⟨r2,vp0.zX0⟩:zXf) else some vp0
def zfp (x_w:zXf) (x_env:zWJ) (x_t:zW1):Option zXf:=if (x_t.Kind==2) then (zlx x_t.Host).bind fun r1=>(ziS x_w.Bag [72,111,115,116] r1.1).bind fun r2=>zdI (⟨r2,x_w.zX0⟩:zXf) x_env else zdI x_w x_env
def zcl (x_w:zXf):Option (zWB × Int):=(zbF x_w.Bag).bind fun r1=>some ((⟨x_w.zX0.Kind,x_w.zX0.Method,x_w.zX0.Target,x_w.zX0.Code,x_w.zX0.Reason,x_w.zX0.Minor,r1⟩:zWB),0)
def strings_HasSuffix (x_s:Str) (x_suffix:Str):Option Bool:=(stringslite_HasSuffix x_s x_suffix).bind fun r1=>some r1
def zek (s0:Str) (l10:List zWK) (i11:Int):Nat→Int→Option (Str × Bool)
 | 0,_=>none
 | n+1,i12=>if (decide (i12<i11)) then (lAt l10 i12).bind fun r1=>(strings_CutPrefix s0 r1.From).bind fun r2=>if (!r2.2) then (zd i12 1).bind fun r3=>zek s0 l10 i11 n r3 else if (r1.From==[]) then (zd i12 1).bind fun r4=>zek s0 l10 i11 n r4 else if (r2.1==[]) then (zb1 r1.To r2.1).bind fun r5=>some (r5,true) else (strings_HasSuffix r1.From [47]).bind fun r6=>if r6 then (zb1 r1.To r2.1).bind fun r7=>some (r7,true) else (sAt r2.1 0).bind fun r8=>(strings_IndexByte [47,63,35] r8).bind fun r9=>if (decide ((0:Int)≤r9)) then (zb1 r1.To r2.1).bind fun r10=>some (r10,true) else (zd i12 1).bind fun r11=>zek s0 l10 i11 n r11 else some (s0,false)
def zom (x_s:Str) (x_l:List zWK):Option (Str × Bool):=zek x_s x_l (x_l.length:Int) fuel 0
def zij (x_s:Str) (x_l:List zWK):Option Str:=(zom x_s x_l).bind fun r1=>if (!r1.2) then some x_s else (zhu x_s).bind fun r2=>if (!r2) then some x_s else (zhu r1.1).bind fun r3=>if (!r3) then some x_s else some r1.1
def zg3 (x_a0:UInt8):Option Bool:=some true
def zkq (v4:zWD) (t6:Bool) (v7:zW4):Option (zW4 × Bool):=if t6 then (zaf v4).bind fun r1=>if r1 then (zbS zaL [v7.Value]).bind fun r2=>if r2 then (zbI v7.Value [32,9]).bind fun r3=>some (v7,r3==v7.Value) else some (v7,false) else some (v7,false) else some (v7,false)
def zmc (x_s:Str):Option (zW4 × Bool):=(zbI x_s [32,9]).bind fun r1=>(zgH r1).bind fun r2=>(zD r2).bind fun r3=>(zf r3.2.2 61).bind fun r4=>if r4.1 then (zx r4.2 zg3).bind fun r5=>zkq r5.2 r3.2.1 (⟨r3.1,r5.1,r4.1⟩:zW4) else zkq r4.2 r3.2.1 (⟨r3.1,[],r4.1⟩:zW4)
def zik (x_b:UInt8):Option Bool:=(zdt x_b).bind fun r1=>if r1 then (strings_IndexByte [34,44,59,92] x_b).bind fun r2=>some (decide (r2<0)) else some false
def znb (x_s:Str):Option Bool:=(strings_CutPrefix x_s [34]).bind fun r1=>(strings_CutSuffix r1.1 [34]).bind fun r2=>if (r1.2==r2.2) then (zbS zik [r2.1]).bind fun r3=>some r3 else some false
def zgR (l41:List Str) (i42:Int):Nat→zWO→Int→Option (zWO × Int)
 | 0,_,_=>none
 | n+1,v7,i43=>if (decide (i43<i42)) then (lAt l41 i43).bind fun r1=>(zmc r1).bind fun r2=>if (!r2.2) then some ((⟨[],[],[]⟩:zWO),2) else if ze v7.Attrs.length ([r2.1]:List zW4).length 40 then (zd i43 1).bind fun r3=>zgR l41 i42 n ({v7 with Attrs:=v7.Attrs++[r2.1]}:zWO) r3 else none else some (v7,0)
def zkr (x_s:Str):Option (zWO × Int):=(strings_Split x_s [59]).bind fun r1=>(lAt r1 0).bind fun r2=>(zmc r2).bind fun r3=>if (!r3.2) then some ((⟨[],[],[]⟩:zWO),2) else if (!r3.1.Has) then some ((⟨[],[],[]⟩:zWO),2) else (znb r3.1.Value).bind fun r4=>if (!r4) then some ((⟨[],[],[]⟩:zWO),2) else (zpn r1 1).bind fun r5=>zgR r5 (r5.length:Int) fuel (⟨r3.1.Name,r3.1.Value,[]⟩:zWO) 0
def zhQ (s1:Str) (v2:zWO):Nat→Int→Option Int
 | 0,_=>none
 | n+1,i5=>if (decide ((0:Int)≤i5)) then (lAt v2.Attrs i5).bind fun r1=>(zbl r1.Name s1).bind fun r2=>if r2 then some i5 else (zbY i5 1).bind fun r3=>zhQ s1 v2 n r3 else some (-1)
def zmd (x_c:zWO) (x_name:Str):Option Int:=(zbY (x_c.Attrs.length:Int) 1).bind fun r1=>zhQ x_name x_c fuel r1
def zqS (x_c:zWO) (x_name:Str):Option (Str × Bool):=(zmd x_c x_name).bind fun r1=>if (decide (r1<0)) then some ([],false) else (lAt x_c.Attrs r1).bind fun r2=>some (r2.Value,true)
def stringslite_TrimPrefix (x_s:Str) (x_prefix:Str):Option Str:=(stringslite_HasPrefix x_s x_prefix).bind fun r1=>if r1 then (zad x_s (x_prefix.length:Int)).bind fun r2=>some r2 else some x_s
def strings_TrimPrefix (x_s:Str) (x_prefix:Str):Option Str:=(stringslite_TrimPrefix x_s x_prefix).bind fun r1=>some r1
def zks (x_name:Str) (x_domain:Str):Option Bool:=(ze5 x_name).bind fun r1=>if (!r1) then some false else (ze5 x_domain).bind fun r2=>if (!r2) then some false else (zbd x_name).bind fun r3=>if r3 then some false else (zbd x_domain).bind fun r4=>if r4 then some false else (zaX x_name).bind fun r5=>(zaX x_domain).bind fun r6=>if (r5==r6) then some true else (zb1 [46] r6).bind fun r7=>(strings_HasSuffix r5 r7).bind fun r8=>some r8
def zhR (s0:Str) (s6:Str) (l11:List zWK) (i12:Int):Nat→Int→Option (Str × Bool)
 | 0,_=>none
 | n+1,i13=>if (decide (i13<i12)) then (lAt l11 i13).bind fun r1=>(zks s6 r1.From).bind fun r2=>if r2 then (zbY (s6.length:Int) (r1.From.length:Int)).bind fun r3=>(sTo s6 r3).bind fun r4=>(zb1 r4 r1.To).bind fun r5=>some (r5,true) else (zd i13 1).bind fun r6=>zhR s0 s6 l11 i12 n r6 else some (s0,false)
def zon (x_name:Str) (x_l:List zWK):Option (Str × Bool):=(strings_TrimPrefix x_name [46]).bind fun r1=>zhR x_name r1 x_l (x_l.length:Int) fuel 0
def zly (k0:zWO→Int→Option zWO) (v8:zWO) (i22:Int):Option zWO:=(zd i22 1).bind fun r1=>k0 v8 r1
def zlz (k0:zWO→Int→Option zWO) (v8:zWO) (v10:zW4) (i22:Int):Option zWO:=if ze v8.Attrs.length ([v10]:List zW4).length 40 then zly k0 ({v8 with Attrs:=v8.Attrs++[v10]}:zWO) i22 else none
def zlA (v8:zWO):Option zWO:=some v8
def zcZ (s1:Str) (s2:Str) (i7:Int) (l20:List zW4) (i21:Int):Nat→zWO→Int→Option zWO
 | 0,_,_=>none
 | n+1,v8,i22=>if (decide (i22<i21)) then (lAt l20 i22).bind fun r1=>if (i22==i7) then zlz (zcZ s1 s2 i7 l20 i21 n) v8 (⟨r1.Name,s2,true⟩:zW4) i22 else (zbl r1.Name s1).bind fun r2=>if r2 then zly (zcZ s1 s2 i7 l20 i21 n) v8 i22 else zlz (zcZ s1 s2 i7 l20 i21 n) v8 r1 i22 else if (decide (i7<0)) then if ze v8.Attrs.length ([(⟨s1,s2,true⟩:zW4)]:List zW4).length 40 then zlA ({v8 with Attrs:=v8.Attrs++[(⟨s1,s2,true⟩:zW4)]}:zWO) else none else zlA v8
def zqT (x_c:zWO) (x_name:Str) (x_value:Str):Option zWO:=(zmd x_c x_name).bind fun r1=>zcZ x_name x_value r1 x_c.Attrs (x_c.Attrs.length:Int) fuel ({x_c with Attrs:=[]}:zWO) 0
def zP (l0:List zW4) (l1:List zW4) (i12:Int):Nat→Int→Option Bool
 | 0,_=>none
 | n+1,i13=>if (decide (i13<i12)) then (lAt l0 i13).bind fun r1=>(lAt l1 i13).bind fun r2=>if (!(r1==r2)) then some false else (zd i13 1).bind fun r3=>zP l0 l1 i12 n r3 else some true
def zaS (x_s1:List zW4) (x_s2:List zW4):Option Bool:=if (!((x_s1.length:Int)==(x_s2.length:Int))) then some false else zP x_s1 x_s2 (x_s1.length:Int) fuel 0
def zoo (x_a:zWO) (x_b:zWO):Option Bool:=if (x_a.Name==x_b.Name) then if (x_a.Value==x_b.Value) then (zaS x_a.Attrs x_b.Attrs).bind fun r1=>some r1 else some false else some false
def zfP (v1:zWO) (l18:List zW4) (i19:Int):Nat→List Str→Int→Option (Str × Int)
 | 0,_,_=>none
 | n+1,l4,i20=>if (decide (i20<i19)) then (lAt l18 i20).bind fun r1=>if r1.Has then (zb1 r1.Name [61]).bind fun r2=>(zb1 r2 r1.Value).bind fun r3=>if ze l4.length ([r3]:List Str).length 16 then (zd i20 1).bind fun r4=>zfP v1 l18 i19 n (l4++[r3]) r4 else none else if ze l4.length ([r1.Name]:List Str).length 16 then (zd i20 1).bind fun r5=>zfP v1 l18 i19 n (l4++[r1.Name]) r5 else none else (zbk [59,32] l4).bind fun r6=>(zkr r6).bind fun r7=>if (!(r7.2==0)) then some ([],2) else (zoo r7.1 v1).bind fun r8=>if (!r8) then some ([],2) else some (r6,0)
def zop (x_c:zWO):Option (Str × Int):=(zb1 x_c.Name [61]).bind fun r1=>(zb1 r1 x_c.Value).bind fun r2=>zfP x_c x_c.Attrs (x_c.Attrs.length:Int) fuel [r2] 0
def zi7 (x_s:Str) (x_l:List zWK):Option Str:=(zkr x_s).bind fun r1=>if (!(r1.2==0)) then some x_s else (zqS r1.1 [68,111,109,97,105,110]).bind fun r2=>(zon r2.1 x_l).bind fun r3=>if (!r3.2) then some x_s else (zqT r1.1 [68,111,109,97,105,110] r3.1).bind fun r4=>(zop r4).bind fun r5=>if (!(r5.2==0)) then some x_s else some r5.1
def zgp (k0:zWJ→List zWx→Int→Option (List zWx)) (v2:zWJ) (l5:List zWx) (i6:Int) (v7:zWx) (i13:Int) (s20:Str) (t21:Bool):Option (List zWx):=if t21 then (zij v7.Value v2.Locations).bind fun r1=>(lAt l5 i6).bind fun r2=>(zwR l5 i6 (⟨r2.Name,r1⟩:zWx)).bind fun r3=>(zd i13 1).bind fun r4=>k0 v2 r3 r4 else if (s20==[115,101,116,45,99,111,111,107,105,101]) then (zi7 v7.Value v2.Domains).bind fun r5=>(lAt l5 i6).bind fun r6=>(zwR l5 i6 (⟨r6.Name,r5⟩:zWx)).bind fun r7=>(zd i13 1).bind fun r8=>k0 v2 r7 r8 else (zd i13 1).bind fun r9=>k0 v2 l5 r9
def zbK (i12:Int):Nat→zWJ→List zWx→Int→Option (List zWx)
 | 0,_,_,_=>none
 | n+1,v2,l5,i13=>if (decide (i13<i12)) then (lAt l5 i13).bind fun r1=>(zaX r1.Name).bind fun r2=>if (r2==[108,111,99,97,116,105,111,110]) then zgp (zbK i12 n) v2 l5 i13 r1 i13 r2 true else zgp (zbK i12 n) v2 l5 i13 r1 i13 r2 (r2==[99,111,110,116,101,110,116,45,108,111,99,97,116,105,111,110]) else some l5
def zi8 (x_env:zWJ) (x_l:List zWx):Option (List zWx):=if ze ([]:List zWx).length x_l.length 32 then zbK ((([]:List zWx)++x_l).length:Int) fuel x_env (([]:List zWx)++x_l) 0 else none
def zoq (x_a0:zWJ) (x_a1:zWB):Option (zWB × Int):=(zts x_a1.Fields).bind fun r1=>(zfn r1).bind fun r2=>if (x_a1.Kind==1) then (zkp x_a1.Method x_a1.Target).bind fun r3=>if (!(r3.2==0)) then some ((⟨0,[],[],0,[],0,[]⟩:zWB),20) else if (r3.1.Kind==3) then some ((⟨0,[],[],0,[],0,[]⟩:zWB),20) else (zlw r3.1).bind fun r4=>(zfp (⟨r2,({x_a1 with Target:=r4,Minor:=1}:zWB)⟩:zXf) x_a0 r3.1).bind fun r5=>(zcl r5).bind fun r6=>some (r6.1,r6.2) else if (x_a1.Kind==2) then (zbF r2).bind fun r7=>(zi8 x_a0 r7).bind fun r8=>(zfn r8).bind fun r9=>(zcl (⟨r9,({x_a1 with Minor:=1}:zWB)⟩:zXf)).bind fun r10=>some (r10.1,r10.2) else some ((⟨0,[],[],0,[],0,[]⟩:zWB),1)
def zc0 (x_name:Str) (x_value:Str):Option zWW:=some (⟨x_name,x_value⟩:zWW)
def zor (x_env:zWJ) (x_h:zWB):Option (List zWW):=(zc0 [99,108,105,101,110,116] x_env.Client).bind fun r1=>(zc0 [104,111,115,116] x_env.Host).bind fun r2=>(zc0 [115,99,104,101,109,101] x_env.Scheme).bind fun r3=>if (x_h.Kind==1) then (zpL x_h.Target).bind fun r4=>(zc0 [109,101,116,104,111,100] x_h.Method).bind fun r5=>(zc0 [112,97,116,104] r4.1).bind fun r6=>some [r1,r2,r5,r6,r3] else if (x_h.Kind==2) then (zcX x_h.Code).bind fun r7=>(zc0 [115,116,97,116,117,115] r7).bind fun r8=>some [r1,r2,r3,r8] else some []
def zos (x_r:zWC):Option (List Str):=(zaX x_r.Name).bind fun r1=>if (x_r.Kind==4) then (zaX x_r.To).bind fun r2=>if ze ([r1]:List Str).length ([r2]:List Str).length 16 then some (([r1]:List Str)++[r2]) else none else some [r1]
def zhS (k0:Int→Option Int) (i4:Int) (t34:Bool):Option Int:=if t34 then (zd i4 1).bind fun r1=>k0 r1 else some i4
def zc7 (l0:List zWC) (v3:zXe):Nat→Int→Option Int
 | 0,_=>none
 | n+1,i4=>if (decide (i4<(l0.length:Int))) then (lAt l0 i4).bind fun r1=>if (r1.Guard==v3) then (zbY i4 1).bind fun r2=>(lAt l0 r2).bind fun r3=>(zos r3).bind fun r4=>(zaX v3.Name).bind fun r5=>(zo r4 r5).bind fun r6=>zhS (zc7 l0 v3 n) i4 (!r6) else zhS (zc7 l0 v3 n) i4 false else zhS (zc7 l0 v3 n) i4 false
def zot (x_l:List zWC):Option Int:=(lAt x_l 0).bind fun r1=>zc7 x_l r1.Guard fuel 1
def zlB (x_g:zXe) (x_n:Int):Option zXm:=if (x_g.Kind==1) then some (⟨1,x_g.Name,[],[],x_n⟩:zXm) else if (x_g.Kind==2) then some (⟨2,x_g.Name,[],[],x_n⟩:zXm) else if (x_g.Kind==3) then some (⟨3,x_g.Name,x_g.Value,[],x_n⟩:zXm) else some (⟨0,x_g.Name,[],[],x_n⟩:zXm)
def zou (x_r:zWC):Option zXm:=if (x_r.Kind==1) then (zfD x_r.Parts).bind fun r1=>some (⟨6,x_r.Name,[],r1,0⟩:zXm) else if (x_r.Kind==2) then (zfD x_r.Parts).bind fun r2=>some (⟨5,x_r.Name,[],r2,0⟩:zXm) else if (x_r.Kind==3) then some (⟨4,x_r.Name,[],[],0⟩:zXm) else if (x_r.Kind==4) then some (⟨7,x_r.Name,x_r.To,[],0⟩:zXm) else some (⟨0,[],[],[],0⟩:zXm)
def zbg (l6:List zWC) (i7:Int):Nat→zWU→Int→Option zWU
 | 0,_,_=>none
 | n+1,vp0,i8=>if (decide (i8<i7)) then (lAt l6 i8).bind fun r1=>(zou r1).bind fun r2=>if ze vp0.zWQ.length ([r2]:List zXm).length 72 then (zd i8 1).bind fun r3=>zbg l6 i7 n (⟨vp0.zWQ++[r2]⟩:zWU) r3 else none else some vp0
def zdJ (x_c:zWU) (x_l:List zWC):Option zWU:=zbg x_l (x_l.length:Int) fuel x_c 0
def zcu (k0:zWU→List zWC→Option zWU) (vp0:zWU) (l1:List zWC) (i4:Int):Option zWU:=(lTo l1 i4).bind fun r1=>(zdJ vp0 r1).bind fun r2=>(zpn l1 i4).bind fun r3=>k0 r2 r3
def zV:Nat→zWU→List zWC→Option zWU
 | 0,_,_=>none
 | n+1,vp0,l1=>if (decide ((0:Int)<(l1.length:Int))) then (lAt l1 0).bind fun r1=>if (!(r1.Guard.Kind==0)) then (zot l1).bind fun r2=>(zlB r1.Guard r2).bind fun r3=>if ze vp0.zWQ.length ([r3]:List zXm).length 72 then zcu (zV n) (⟨vp0.zWQ++[r3]⟩:zWU) l1 r2 else none else zcu (zV n) vp0 l1 1 else some vp0
def zdK (x_c:zWU) (x_l:List zWC):Option zWU:=zV fuel x_c x_l
def zcS (i0:Int) (l26:List zWC) (i27:Int):Nat→List zWC→Int→Option (List zXm × Int)
 | 0,_,_=>none
 | n+1,l8,i28=>if (decide (i28<i27)) then (lAt l26 i28).bind fun r1=>if (r1.Side==i0) then if ze l8.length ([r1]:List zWC).length 112 then (zd i28 1).bind fun r2=>zcS i0 l26 i27 n (l8++[r1]) r2 else none else (zd i28 1).bind fun r3=>zcS i0 l26 i27 n l8 r3 else (zdK (⟨[]⟩:zWU) l8).bind fun r4=>some (r4.zWQ,0)
def zgq (i0:Int) (l1:List zWC) (t17:Bool):Option (List zXm × Int):=if t17 then some ([],1) else (zjF l1).bind fun r1=>if (!(r1.2==0)) then some ([],r1.2) else zcS i0 l1 (l1.length:Int) fuel [] 0
def zi9 (x_side:Int) (x_l:List zWC):Option (List zXm × Int):=if (!(x_side==1)) then zgq x_side x_l (!(x_side==2)) else zgq x_side x_l false
def zet (x_m:zWR) (x_op:zXm):Option Bool:=(zjL x_m.Bag x_op.Name).bind fun r1=>if (x_op.Kind==1) then some (!r1.2) else if (x_op.Kind==2) then some r1.2 else if (x_op.Kind==3) then if (!r1.2) then some true else some (!(r1.1==x_op.Text)) else some false
def zkt (s1:Str) (l7:List zWW) (i8:Int):Nat→Int→Option Str
 | 0,_=>none
 | n+1,i9=>if (decide (i9<i8)) then (lAt l7 i9).bind fun r1=>if (r1.Name==s1) then some r1.Value else (zd i9 1).bind fun r2=>zkt s1 l7 i8 n r2 else some []
def ztu (x_known:List zWW) (x_name:Str):Option Str:=zkt x_name x_known (x_known.length:Int) fuel 0
def zlC (k0:List UInt8→Int→Option Str) (s0:Str) (l3:List UInt8) (i4:Int) (t13:Bool):Option Str:=if t13 then (sAt s0 i4).bind fun r1=>(zaL r1).bind fun r2=>if r2 then (sAt s0 i4).bind fun r3=>if ze l3.length ([r3]:List UInt8).length 1 then (zd i4 1).bind fun r4=>k0 (l3++[r3]) r4 else none else (zd i4 1).bind fun r5=>k0 l3 r5 else (zbI l3 [32,9]).bind fun r6=>some r6
def zfc (s0:Str):Nat→List UInt8→Int→Option Str
 | 0,_,_=>none
 | n+1,l3,i4=>if (decide (i4<(s0.length:Int))) then zlC (zfc s0 n) s0 l3 i4 (decide ((l3.length:Int)<65536)) else zlC (zfc s0 n) s0 l3 i4 false
def zqU (x_s:Str):Option Str:=zfc x_s fuel [] 0
def zeR (l0:List zWW) (v7:zWX) (l15:List zWz) (i16:Int):Nat→List Str→Int→Option Str
 | 0,_,_=>none
 | n+1,l8,i17=>if (decide (i17<i16)) then (lAt l15 i17).bind fun r1=>if (r1.Kind==1) then if ze l8.length ([r1.Text]:List Str).length 16 then (zd i17 1).bind fun r2=>zeR l0 v7 l15 i16 n (l8++[r1.Text]) r2 else none else if (r1.Kind==2) then (ztu l0 r1.Text).bind fun r3=>if ze l8.length ([r3]:List Str).length 16 then (zd i17 1).bind fun r4=>zeR l0 v7 l15 i16 n (l8++[r3]) r4 else none else if (r1.Kind==3) then (zjL v7 r1.Text).bind fun r5=>if ze l8.length ([r5.1]:List Str).length 16 then (zd i17 1).bind fun r6=>zeR l0 v7 l15 i16 n (l8++[r5.1]) r6 else none else (zd i17 1).bind fun r7=>zeR l0 v7 l15 i16 n l8 r7 else (zbk [] l8).bind fun r8=>(zqU r8).bind fun r9=>some r9
def ztv (x_known:List zWW) (x_fields:List zWx) (x_l:List zWz):Option Str:=(zfn x_fields).bind fun r1=>zeR x_known (⟨r1.zXs⟩:zWX) x_l (x_l.length:Int) fuel [] 0
def zcF (x_m:zWR) (x_l:List zWz):Option Str:=(zbF x_m.Bag).bind fun r1=>(ztv x_m.zXU r1 x_l).bind fun r2=>some r2
def zcm (s1:Str) (s2:Str) (i15:Int):Nat→zWX→Int→Int→Option (Int × zWX)
 | 0,_,_,_=>none
 | n+1,vp0,i7,i16=>if (decide (i16<i15)) then (lAt vp0.zXs i16).bind fun r1=>(zbl r1.Name s1).bind fun r2=>if r2 then (lAt vp0.zXs i16).bind fun r3=>(zwR vp0.zXs i16 (⟨s2,r3.Value⟩:zWx)).bind fun r4=>(zd i7 1).bind fun r5=>(zd i16 1).bind fun r6=>zcm s1 s2 i15 n (⟨r4⟩:zWX) r5 r6 else (zd i16 1).bind fun r7=>zcm s1 s2 i15 n vp0 i7 r7 else some (i7,vp0)
def zil (x_b:zWX) (x_from:Str) (x_to:Str):Option (Int × zWX):=zcm x_from x_to (x_b.zXs.length:Int) fuel x_b 0 0
def zeS (x_m:zWR) (x_op:zXm):Option zWR:=if (x_op.Kind==4) then (zcR x_m.Bag [x_op.Name]).bind fun r1=>some ({x_m with Bag:=r1.2}:zWR) else if (x_op.Kind==5) then (zcF x_m x_op.Parts).bind fun r2=>(zfb x_m.Bag [(⟨x_op.Name,r2⟩:zWx)]).bind fun r3=>some ({x_m with Bag:=r3}:zWR) else if (x_op.Kind==6) then (zcF x_m x_op.Parts).bind fun r4=>(ziS x_m.Bag x_op.Name r4).bind fun r5=>some ({x_m with Bag:=r5}:zWR) else if (x_op.Kind==7) then (zil x_m.Bag x_op.Name x_op.Text).bind fun r6=>some ({x_m with Bag:=r6.2}:zWR) else some x_m
def zc1 (k0:zWR→Int→Option zWR) (vp0:zWR) (i4:Int):Option zWR:=(zd i4 1).bind fun r1=>k0 vp0 r1
def z8 (l1:List zXm):Nat→zWR→Int→Option zWR
 | 0,_,_=>none
 | n+1,vp0,i4=>if (decide (i4<(l1.length:Int))) then (zd vp0.zXO 1).bind fun r1=>(lAt l1 i4).bind fun r2=>(zet ({vp0 with zXO:=r1}:zWR) r2).bind fun r3=>if r3 then (lAt l1 i4).bind fun r4=>(zd i4 (min (max r4.N 0) (l1.length:Int))).bind fun r5=>zc1 (z8 l1 n) ({vp0 with zXO:=r1}:zWR) r5 else (lAt l1 i4).bind fun r6=>(zeS ({vp0 with zXO:=r1}:zWR) r6).bind fun r7=>zc1 (z8 l1 n) r7 i4 else some vp0
def zeu (x_m:zWR) (x_l:List zXm):Option zWR:=z8 x_l fuel x_m 0
def zov (x_known:List zWW) (x_fields:List zWx) (x_l:List zXm):Option (List zWx):=(zfn x_fields).bind fun r1=>(zeu (⟨r1,x_known,0⟩:zWR) x_l).bind fun r2=>(zbF r2.Bag).bind fun r3=>some r3
def zlD (x_known:List zWW) (x_fields:List zWx) (x_side:Int) (x_l:List zWC):Option (List zWx × Int):=(zi9 x_side x_l).bind fun r1=>if (!(r1.2==0)) then some ([],r1.2) else (zov x_known x_fields r1.1).bind fun r2=>some (r2,0)
def zme (x_l:List Str):Option Str:=(zbk [44,32] x_l).bind fun r1=>some r1
def zlE (x_s:Str) (x_l:List Str):Option Str:=if ((x_l.length:Int)==0) then some x_s else (zbI x_s [32,9,44]).bind fun r1=>if (r1==[]) then (zme x_l).bind fun r2=>some r2 else (zdp x_s [32,9]).bind fun r3=>if ze ([r3]:List Str).length x_l.length 16 then (zme (([r3]:List Str)++x_l)).bind fun r4=>some r4 else none
def zdw (vp0:zWX) (s1:Str) (s2:Str):Nat→Int→Option zWX
 | 0,_=>none
 | n+1,i6=>if (decide ((0:Int)≤i6)) then (lAt vp0.zXs i6).bind fun r1=>(zbl r1.Name s1).bind fun r2=>if r2 then (lAt vp0.zXs i6).bind fun r3=>(zlE r3.Value [s2]).bind fun r4=>(lAt vp0.zXs i6).bind fun r5=>(zwR vp0.zXs i6 (⟨r5.Name,r4⟩:zWx)).bind fun r6=>some (⟨r6⟩:zWX) else (zbY i6 1).bind fun r7=>zdw vp0 s1 s2 n r7 else (zfb vp0 [(⟨s1,s2⟩:zWx)]).bind fun r8=>some r8
def zd3 (x_b:zWX) (x_name:Str) (x_element:Str):Option zWX:=(zbY (x_b.zXs.length:Int) 1).bind fun r1=>zdw x_b x_name x_element fuel r1
def zqV (x_v:zWP) (x_l:List zWx):Option (List zWx × Int):=(zj7 x_v).bind fun r1=>if (!(r1.2==0)) then some ([],r1.2) else (zfn x_l).bind fun r2=>(zd3 r2 [86,105,97] r1.1).bind fun r3=>(zbF r3).bind fun r4=>some (r4,0)
def zku (x_client:Str):Option Str:=(zbd x_client).bind fun r1=>if r1 then some x_client else (zh4 x_client).bind fun r2=>if r2 then (zb1 [91] x_client).bind fun r3=>(zb1 r3 [93]).bind fun r4=>some r4 else some [117,110,107,110,111,119,110]
def zhb (l3:List zWW):Option (List zWW):=some l3
def zhc (v1:zWJ) (l3:List zWW):Option (List zWW):=if (!(v1.Scheme==[])) then if ze l3.length ([(⟨[112,114,111,116,111],v1.Scheme⟩:zWW)]:List zWW).length 32 then zhb (l3++([(⟨[112,114,111,116,111],v1.Scheme⟩:zWW)])) else none else zhb l3
def zkv (x_env:zWJ):Option (List zWW):=(zku x_env.Client).bind fun r1=>if (!(x_env.Host==[])) then if ze ([(⟨[102,111,114],r1⟩:zWW)]:List zWW).length ([(⟨[104,111,115,116],x_env.Host⟩:zWW)]:List zWW).length 32 then zhc x_env (([(⟨[102,111,114],r1⟩:zWW)]:List zWW)++([(⟨[104,111,115,116],x_env.Host⟩:zWW)])) else none else zhc x_env ([(⟨[102,111,114],r1⟩:zWW)])
def zja (k0:List UInt8→Int→Option (Str × Int)) (s0:Str) (l4:List UInt8) (i5:Int) (i13:Int):Option (Str × Int):=(sAt s0 i5).bind fun r1=>if ze l4.length ([r1]:List UInt8).length 1 then (zd i13 1).bind fun r2=>k0 (l4++[r1]) r2 else none
def zjb (k0:List UInt8→Int→Option (Str × Int)) (s0:Str) (l4:List UInt8) (i5:Int) (i13:Int) (t25:Bool):Option (Str × Int):=if t25 then if ze l4.length ([92]:List UInt8).length 1 then zja k0 s0 (l4++[92]) i5 i13 else none else zja k0 s0 l4 i5 i13
def zcs (s0:Str) (i12:Int):Nat→List UInt8→Int→Option (Str × Int)
 | 0,_,_=>none
 | n+1,l4,i13=>if (decide (i13<i12)) then (sAt s0 i13).bind fun r1=>if (r1==34) then zjb (zcs s0 i12 n) s0 l4 i13 i13 true else (sAt s0 i13).bind fun r2=>zjb (zcs s0 i12 n) s0 l4 i13 i13 (r2==92) else if ze l4.length ([34]:List UInt8).length 1 then some (l4++[34],0) else none
def znc (x_s:Str):Option (Str × Int):=(zbS zaL [x_s]).bind fun r1=>if (!r1) then some ([],2) else zcs x_s (x_s.length:Int) fuel [34] 0
def zlF (x_s:Str):Option (Str × Int):=(zdW x_s).bind fun r1=>if r1 then some (x_s,0) else (znc x_s).bind fun r2=>some (r2.1,r2.2)
def zhT (l9:List zWW) (i10:Int):Nat→List Str→Int→Option (Str × Int)
 | 0,_,_=>none
 | n+1,l4,i11=>if (decide (i11<i10)) then (lAt l9 i11).bind fun r1=>(zlF r1.Value).bind fun r2=>if (!(r2.2==0)) then some ([],2) else (zdW r1.Name).bind fun r3=>if (!r3) then some ([],2) else (zb1 r1.Name [61]).bind fun r4=>(zb1 r4 r2.1).bind fun r5=>if ze l4.length ([r5]:List Str).length 16 then (zd i11 1).bind fun r6=>zhT l9 i10 n (l4++[r5]) r6 else none else if ((l4.length:Int)==0) then some ([],2) else (zbk [59] l4).bind fun r7=>some (r7,0)
def zow (x_l:List zWW):Option (Str × Int):=zhT x_l (x_l.length:Int) fuel [] 0
def zim (x_env:zWJ) (x_l:List zWx):Option (List zWx × Int):=(zkv x_env).bind fun r1=>(zow r1).bind fun r2=>if (!(r2.2==0)) then some ([],r2.2) else (zfn x_l).bind fun r3=>(zd3 r3 [70,111,114,119,97,114,100,101,100] r2.1).bind fun r4=>(zbF r4).bind fun r5=>some (r5,0)
def zwe (x_s:Str):Option Bool:=(zbd x_s).bind fun r1=>if r1 then some true else (zh4 x_s).bind fun r2=>some r2
def zlG (s0:Str) (l1:List zWx):Option (List zWx):=(zfn l1).bind fun r1=>(zd3 r1 [88,45,70,111,114,119,97,114,100,101,100,45,70,111,114] s0).bind fun r2=>(zbF r2).bind fun r3=>some r3
def zqW (x_client:Str) (x_l:List zWx):Option (List zWx):=(zwe x_client).bind fun r1=>if (!r1) then zlG [117,110,107,110,111,119,110] x_l else zlG x_client x_l
def zlH (v5:zWB) (l8:List zWx) (i9:Int):Option (zWB × Int):=if (!(i9==0)) then some ((⟨0,[],[],0,[],0,[]⟩:zWB),i9) else (zfn l8).bind fun r1=>(zcl (⟨r1,v5⟩:zXf)).bind fun r2=>some (r2.1,r2.2)
def zlI (v3:zWJ) (v5:zWB) (l8:List zWx) (i9:Int) (t46:Bool):Option (zWB × Int):=if t46 then (zim v3 l8).bind fun r1=>(zqW v3.Client r1.1).bind fun r2=>zlH v5 r2 r1.2 else zlH v5 l8 i9
def zfd (i1:Int) (v3:zWJ) (v5:zWB) (t26:Bool):Option (zWB × Int):=if t26 then some ((⟨0,[],[],0,[],0,[]⟩:zWB),1) else (zcX i1).bind fun r1=>(zb1 [49,46] r1).bind fun r2=>(zqV (⟨[],r2,v3.By,[]⟩:zWP) v5.Fields).bind fun r3=>if (r3.2==0) then zlI v3 v5 r3.1 r3.2 (v5.Kind==1) else zlI v3 v5 r3.1 r3.2 false
def zqX (x_a0:zWJ) (x_a1:Int) (x_a2:zWB):Option (zWB × Int):=if (!(x_a2.Kind==1)) then if (!(x_a2.Kind==2)) then zfd x_a1 x_a0 x_a2 true else if (!(x_a1==0)) then zfd x_a1 x_a0 x_a2 (!(x_a1==1)) else zfd x_a1 x_a0 x_a2 false else if (!(x_a1==0)) then zfd x_a1 x_a0 x_a2 (!(x_a1==1)) else zfd x_a1 x_a0 x_a2 false
def zlJ (x_f:zWG):Option (List zWx):=if (x_f.Kind==2) then (zcX x_f.N).bind fun r1=>some ([(⟨[67,111,110,116,101,110,116,45,76,101,110,103,116,104],r1⟩:zWx)]) else if (x_f.Kind==3) then some ([(⟨[84,114,97,110,115,102,101,114,45,69,110,99,111,100,105,110,103],[99,104,117,110,107,101,100]⟩:zWx)]) else some []
def zin (x_env:zWJ) (x_f:zWG) (x_h:zWB) (x_l:List zWC):Option (zWB × Int):=(zoq x_env x_h).bind fun r1=>if (!(r1.2==0)) then some ((⟨0,[],[],0,[],0,[]⟩:zWB),r1.2) else (zor x_env r1.1).bind fun r2=>(zlD r2 r1.1.Fields r1.1.Kind x_l).bind fun r3=>if (!(r3.2==0)) then some ((⟨0,[],[],0,[],0,[]⟩:zWB),r3.2) else (zqX x_env x_h.Minor (⟨r1.1.Kind,r1.1.Method,r1.1.Target,r1.1.Code,r1.1.Reason,r1.1.Minor,r3.1⟩:zWB)).bind fun r4=>if (!(r4.2==0)) then some ((⟨0,[],[],0,[],0,[]⟩:zWB),r4.2) else (zlJ x_f).bind fun r5=>if ze r4.1.Fields.length r5.length 32 then some ((⟨r4.1.Kind,r4.1.Method,r4.1.Target,r4.1.Code,r4.1.Reason,r4.1.Minor,r4.1.Fields++r5⟩:zWB),0) else none
def zc8 (x_p:zXc):Option (Int × Bool × zWD):=(zam x_p.Scanner).bind fun r1=>if (!r1.2) then some (0,false,x_p.Scanner) else (zbc r1.1).bind fun r2=>if (!r2) then some (0,false,x_p.Scanner) else (zf x_p.Scanner r1.1).bind fun r3=>some (((r1.1-48).toNat:Int),true,r3.2)
def zb6 (x_p:zXc):Option (Int × Int × Bool × zWD):=(zck x_p.Scanner [72,84,84,80,47]).bind fun r1=>if (!r1.1) then some (0,0,false,r1.2) else (zc8 (⟨r1.2⟩:zXc)).bind fun r2=>(zf r2.2.2 46).bind fun r3=>(zc8 (⟨r3.2⟩:zXc)).bind fun r4=>if r2.2.1 then if r3.1 then some (r2.1,r4.1,r4.2.1,r4.2.2) else some (r2.1,r4.1,false,r4.2.2) else some (r2.1,r4.1,false,r4.2.2)
def zgS (x_s:Str):Option Bool:=(zgH x_s).bind fun r1=>(zb6 (⟨r1⟩:zXc)).bind fun r2=>if r2.2.2.1 then (zaf r2.2.2.2).bind fun r3=>if r3 then if (!(r2.1==1)) then some true else some (decide ((1:Int)<r2.2.1)) else some false else some false
def zdx (x_b:UInt8):Option Bool:=some (!(x_b==32))
def zc9 (x_p:zXc):Option (Int × Bool × zWD):=(zb6 x_p).bind fun r1=>if r1.2.2.1 then if (r1.1==1) then some (r1.2.1,decide (r1.2.1≤1),r1.2.2.2) else some (r1.2.1,false,r1.2.2.2) else some (r1.2.1,false,r1.2.2.2)
def zhd (x_a0:Str):Option (zWB × Int):=(zcD x_a0 32).bind fun r1=>(zd r1 1).bind fun r2=>(zad x_a0 r2).bind fun r3=>(zgS r3).bind fun r4=>if r4 then some ((⟨0,[],[],0,[],0,[]⟩:zWB),26) else (zgH x_a0).bind fun r5=>(zD r5).bind fun r6=>(zf r6.2.2 32).bind fun r7=>(zx r7.2 zdx).bind fun r8=>(zf r8.2 32).bind fun r9=>(zc9 (⟨r9.2⟩:zXc)).bind fun r10=>(zkp r6.1 r8.1).bind fun r11=>if (!r6.2.1) then some ((⟨0,[],[],0,[],0,[]⟩:zWB),20) else if (!r7.1) then some ((⟨0,[],[],0,[],0,[]⟩:zWB),20) else if (!r9.1) then some ((⟨0,[],[],0,[],0,[]⟩:zWB),20) else if (!r10.2.1) then some ((⟨0,[],[],0,[],0,[]⟩:zWB),20) else (zaf r10.2.2).bind fun r12=>if (!r12) then some ((⟨0,[],[],0,[],0,[]⟩:zWB),20) else if (!(r11.2==0)) then some ((⟨0,[],[],0,[],0,[]⟩:zWB),20) else some ((⟨1,r6.1,r8.1,0,[],r10.1,[]⟩:zWB),0)
def zio (x_a0:Str):Option (zWB × Int):=(strings_Cut x_a0 [32]).bind fun r1=>(zgS r1.1).bind fun r2=>if r2 then some ((⟨0,[],[],0,[],0,[]⟩:zWB),26) else (zgH x_a0).bind fun r3=>(zc9 (⟨r3⟩:zXc)).bind fun r4=>(zf r4.2.2 32).bind fun r5=>(zx r5.2 zbc).bind fun r6=>(zf r6.2 32).bind fun r7=>(zds r6.1 599).bind fun r8=>if (!r4.2.1) then some ((⟨0,[],[],0,[],0,[]⟩:zWB),20) else if (!r5.1) then some ((⟨0,[],[],0,[],0,[]⟩:zWB),20) else if (!r7.1) then some ((⟨0,[],[],0,[],0,[]⟩:zWB),20) else if (!((r6.1.length:Int)==3)) then some ((⟨0,[],[],0,[],0,[]⟩:zWB),20) else if (!(r8.2==0)) then some ((⟨0,[],[],0,[],0,[]⟩:zWB),20) else if (decide (r8.1<100)) then some ((⟨0,[],[],0,[],0,[]⟩:zWB),20) else (zal r7.2).bind fun r9=>(zbS zaL [r9]).bind fun r10=>if (!r10) then some ((⟨0,[],[],0,[],0,[]⟩:zWB),20) else (zal r7.2).bind fun r11=>some ((⟨2,[],[],r8.1,r11,r4.1,[]⟩:zWB),0)
def zgr (i0:Int) (s1:Str) (t6:Bool):Option (zWB × Int):=if t6 then some ((⟨0,[],[],0,[],0,[]⟩:zWB),1) else (strings_ContainsAny s1 [13,10]).bind fun r1=>if r1 then some ((⟨0,[],[],0,[],0,[]⟩:zWB),24) else if (i0==1) then (zhd s1).bind fun r2=>some (r2.1,r2.2) else (zio s1).bind fun r3=>some (r3.1,r3.2)
def zdu (x_kind:Int) (x_s:Str):Option (zWB × Int):=if (!(x_kind==1)) then zgr x_kind x_s (!(x_kind==2)) else zgr x_kind x_s false
def zb7 (s5:Str) (i7:Int) (t8:Bool):Option (Str × Int):=if (!(i7==0)) then some ([],20) else if (!t8) then some ([],20) else some (s5,0)
def zhe (v1:zWB) (s5:Str):Option (Str × Int):=(zdu v1.Kind s5).bind fun r1=>if (r1.2==1) then some ([],r1.2) else if (r1.1.Method==v1.Method) then if (r1.1.Target==v1.Target) then if (r1.1.Minor==v1.Minor) then if (r1.1.Code==v1.Code) then zb7 s5 r1.2 (r1.1.Reason==v1.Reason) else zb7 s5 r1.2 false else zb7 s5 r1.2 false else zb7 s5 r1.2 false else zb7 s5 r1.2 false
def zhU (x_a0:zWB):Option (Str × Int):=(zcX x_a0.Minor).bind fun r1=>(zb1 [72,84,84,80,47,49,46] r1).bind fun r2=>(zbk [32] [x_a0.Method,x_a0.Target,r2]).bind fun r3=>if (x_a0.Kind==2) then (zcX x_a0.Code).bind fun r4=>(zbk [32] [r2,r4,x_a0.Reason]).bind fun r5=>zhe x_a0 r5 else zhe x_a0 r3
def zlK (k0:Int→Option Bool) (i27:Int) (t41:Bool):Option Bool:=if t41 then some false else (zd i27 1).bind fun r1=>k0 r1
def zfe (l25:List Str) (i26:Int):Nat→Int→Option Bool
 | 0,_=>none
 | n+1,i27=>if (decide (i27<i26)) then (lAt l25 i27).bind fun r1=>(zb4 r1).bind fun r2=>if (!(r2.2==0)) then zlK (zfe l25 i26 n) i27 (!(r1==[])) else zlK (zfe l25 i26 n) i27 false else some true
def zqY (x_h:zWB):Option Bool:=if (!(x_h.Kind==1)) then some true else (zfn x_h.Fields).bind fun r1=>(zb5 r1 [72,111,115,116]).bind fun r2=>if (decide ((1:Int)<(r2.length:Int))) then some false else if (decide ((r2.length:Int)<x_h.Minor)) then some false else zfe r2 (r2.length:Int) fuel 0
def znF (x_h:zWB):Option Int:=if (decide ((100:Int)<(x_h.Fields.length:Int))) then some 3 else (zqY x_h).bind fun r1=>if (!r1) then some 27 else some 0
def ziT (v1:zWB) (l17:List zWx) (i18:Int):Nat→Int→Option Int
 | 0,_=>none
 | n+1,i19=>if (decide (i19<i18)) then (lAt l17 i19).bind fun r1=>(zeG r1).bind fun r2=>if (!(r2==0)) then some r2 else (zd i19 1).bind fun r3=>ziT v1 l17 i18 n r3 else (znF v1).bind fun r4=>some r4
def znG (x_h:zWB):Option Int:=(zhU x_h).bind fun r1=>if (!(r1.2==0)) then some r1.2 else ziT x_h x_h.Fields (x_h.Fields.length:Int) fuel 0
def ztw (x_most:Int):Option zW9:=some (⟨[],max x_most 0⟩:zW9)
def ziq (x_q:zW9):Option Int:=(zbY x_q.zWT (x_q.zX2.length:Int)).bind fun r1=>some r1
def zda (l29:List Str) (i30:Int):Nat→zW9→Int→Option (Int × zW9)
 | 0,_,_=>none
 | n+1,vp0,i31=>if (decide (i31<i30)) then (lAt l29 i31).bind fun r1=>if ze vp0.zX2.length r1.length 1 then (zd i31 1).bind fun r2=>zda l29 i30 n (⟨vp0.zX2++r1,vp0.zWT⟩:zW9) r2 else none else some (0,vp0)
def zdb (vp0:zW9) (l1:List Str) (l14:List Str) (i15:Int):Nat→Int→Int→Option (Int × zW9)
 | 0,_,_=>none
 | n+1,i5,i16=>if (decide (i16<i15)) then (lAt l14 i16).bind fun r1=>if (decide (i5<(r1.length:Int))) then some (10,vp0) else (zbY i5 (r1.length:Int)).bind fun r2=>(zd i16 1).bind fun r3=>zdb vp0 l1 l14 i15 n r2 r3 else zda l1 (l1.length:Int) fuel vp0 0
def zhf (x_q:zW9) (x_l:List Str):Option (Int × zW9):=(ziq x_q).bind fun r1=>zdb x_q x_l x_l (x_l.length:Int) fuel r1 0
def zgs (x_q:zW9) (x_l:List Str):Option (Int × zW9):=if ze ([]:List Str).length x_l.length 16 then if ze (([]:List Str)++x_l).length ([[13,10]]:List Str).length 16 then (zhf x_q ((([]:List Str)++x_l)++([[13,10]]))).bind fun r1=>some (r1.1,r1.2) else none else none
def zcn (x_p:zXu) (x_s:Str):Option zXu:=(zgs x_p.Quill [x_s]).bind fun r1=>if (!(r1.1==0)) then some (⟨r1.2,true⟩:zXu) else some (⟨r1.2,x_p.zX4⟩:zXu)
def zhV (x_f:zWx):Option (Str × Int):=(zeG x_f).bind fun r1=>if (!(r1==0)) then some ([],r1) else if (x_f.Value==[]) then (zb1 x_f.Name [58]).bind fun r2=>some (r2,0) else (zb1 x_f.Name [58,32]).bind fun r3=>(zb1 r3 x_f.Value).bind fun r4=>some (r4,0)
def zir (x_q:zW9):Option Str:=some x_q.zX2
def ziU (l32:List zWx) (i33:Int):Nat→zXu→Int→Option (Str × Int)
 | 0,_,_=>none
 | n+1,v7,i34=>if (decide (i34<i33)) then (lAt l32 i34).bind fun r1=>(zhV r1).bind fun r2=>(zcn v7 r2.1).bind fun r3=>(zd i34 1).bind fun r4=>ziU l32 i33 n r3 r4 else (zcn v7 []).bind fun r5=>if r5.zX4 then some ([],3) else (zir r5.Quill).bind fun r6=>some (r6,0)
def zjr (x_h:zWB) (x_limit:Int):Option (Str × Int):=(znG x_h).bind fun r1=>if (!(r1==0)) then some ([],r1) else (ztw x_limit).bind fun r2=>(zhU x_h).bind fun r3=>(zcn (⟨r2,false⟩:zXu) r3.1).bind fun r4=>ziU x_h.Fields (x_h.Fields.length:Int) fuel r4 0
def zdL (x_g:zWv) (x_h:zWB):Option (Str × zWG × Int):=if (x_h.Method==[67,79,78,78,69,67,84]) then some ([],(⟨0,0⟩:zWG),20) else (zhP x_h).bind fun r1=>if (!(r1.2==0)) then some ([],r1.1,r1.2) else (zin x_g.zXT r1.1 x_h x_g.zXG).bind fun r2=>if (!(r2.2==0)) then some ([],r1.1,r2.2) else (zjr r2.1 x_g.zXC.Head).bind fun r3=>some (r3.1,r1.1,r3.2)
def zox (x_limit:Int):Option (Option zWA × Int):=if (decide (x_limit<0)) then some (none,1) else if (decide ((65536:Int)<x_limit)) then some (none,1) else some (some (⟨x_limit,0,[],0,0,0,[]⟩:zWA),0)
def zmf (v8:zW2):Option (Option zW2 × Int):=some (some v8,0)
def zoy (v2:zWG) (v8:zW2):Option (Option zW2 × Int):=if (v2.Kind==1) then zmf ({v8 with zXy:=true}:zW2) else if (v2.Kind==2) then zmf ({v8 with zXy:=v2.N==0}:zW2) else zmf ({v8 with zXy:=false}:zW2)
def zoz (v2:zWG) (o6:Option zWA) (i7:Int):Option (Option zW2 × Int):=if (!(i7==0)) then some (none,1) else if (decide (v2.Kind<1)) then some (none,1) else if (decide ((4:Int)<v2.Kind)) then some (none,1) else if (decide (v2.N<0)) then some (none,1) else if (decide ((1099511627776:Int)<v2.N)) then some (none,1) else if (v2.Kind==3) then zoy v2 (⟨o6,v2,v2.N,false,false⟩:zW2) else zoy v2 (⟨none,v2,v2.N,false,false⟩:zW2)
def zsK (x_a0:zWG) (x_a1:Int):Option (Option zW2 × Int):=(zox x_a1).bind fun r1=>optK r1.1 (zoz x_a0 none r1.2) fun r2=>zoz x_a0 (some r2) r1.2
def zcT (x_a:zWL):Option (zWB × Bool):=if (!x_a.f_whole) then some ((⟨0,[],[],0,[],0,[]⟩:zWB),false) else if ze ([]:List zWx).length x_a.zXE.Fields.length 32 then some ((⟨x_a.zXE.Kind,x_a.zXE.Method,x_a.zXE.Target,x_a.zXE.Code,x_a.zXE.Reason,x_a.zXE.Minor,([]:List zWx)++x_a.zXE.Fields⟩:zWB),true) else none
def zhW (x_a1:Str):Option (Int × Str × Bool × Int):=some (0,[],false,5)
def zdc:Option Int:=some 5
def zel (x_s:Str):Option (Str × Int):=zdc.bind fun r1=>if (!(r1==0)) then some ([],r1) else none
def zbL:Option (List zWx):=some []
def zbM (x_trailers:List zWx):Option (Str × Int):=zdc.bind fun r1=>if (!(r1==0)) then some ([],r1) else none
def ziV (k0:Int→Option Bool) (s0:Str) (i13:Int) (l23:List Str) (i24:Int):Nat→Int→Option Bool
 | 0,_=>none
 | n+1,i25=>if (decide (i25<i24)) then (lAt l23 i25).bind fun r1=>(zbl r1 s0).bind fun r2=>if r2 then some true else (zd i25 1).bind fun r3=>ziV k0 s0 i13 l23 i24 n r3 else (zd i13 1).bind fun r4=>k0 r4
def zg4 (s0:Str) (l11:List Str) (i12:Int):Nat→Int→Option Bool
 | 0,_=>none
 | n+1,i13=>if (decide (i13<i12)) then (lAt l11 i13).bind fun r1=>(zg1 [r1]).bind fun r2=>ziV (zg4 s0 l11 i12 n) s0 i13 r2.1 (r2.1.length:Int) fuel 0 else some false
def znH (x_token:Str) (x_l:List Str):Option Bool:=zg4 x_token x_l (x_l.length:Int) fuel 0
def zpM (x_h:zWB):Option Bool:=(zfn x_h.Fields).bind fun r1=>(zb5 r1 [67,111,110,110,101,99,116,105,111,110]).bind fun r2=>if (x_h.Minor==1) then (znH [99,108,111,115,101] r2).bind fun r3=>some r3 else (znH [107,101,101,112,45,97,108,105,118,101] r2).bind fun r4=>some (!r4)
def zqZ (x_h:zWB):Option zWH:=(zpM x_h).bind fun r1=>some ({x_h with Close:=r1}:zWH)
def zgt (x_l:List zWH):Option Int:=some 5
def zjc (x_t:zWH):Option Bool:=some x_t.Close
def zn (l0:List zWH) (i7:Int):Nat→Int→Option Int
 | 0,_=>none
 | n+1,i8=>if (decide (i8<i7)) then (lAt l0 i8).bind fun r1=>(zjc r1).bind fun r2=>if r2 then some i8 else (zd i8 1).bind fun r3=>zn l0 i7 n r3 else some (-1)
def zy (x_s:List zWH):Option Int:=zn x_s (x_s.length:Int) fuel 0
def zlL (x_l:List zWH):Option Bool:=(zy x_l).bind fun r1=>if (decide ((0:Int)≤r1)) then (zbY (x_l.length:Int) 1).bind fun r2=>some (decide (r1<r2)) else some false
def zc2:Option (List zWx):=some []
def zb8 (x_d:zWA):Option (List zWx):=if ze ([]:List zWx).length x_d.zXA.length 32 then some (([]:List zWx)++x_d.zXA) else none
def zaY (x_b:zW2):Option (List zWx):=optK x_b.Decoder (zc2.bind fun r2=>some r2) fun r1=>(zb8 r1).bind fun r3=>some r3
def zb9 (x_w:zWM):Option Int:=if x_w.zXy then some 8 else some 0
def zcG:Option Int:=some 5
def zeT (l0:List zWx) (l10:List zWx) (i11:Int):Nat→List Str→Int→Option (Str × Int)
 | 0,_,_=>none
 | n+1,l4,i12=>if (decide (i12<i11)) then (lAt l10 i12).bind fun r1=>(zhV r1).bind fun r2=>if (!(r2.2==0)) then some ([],r2.2) else if ze l4.length ([r2.1]:List Str).length 16 then (zd i12 1).bind fun r3=>zeT l0 l10 i11 n (l4++[r2.1]) r3 else none else if (decide ((100:Int)<(l0.length:Int))) then some ([],3) else if ze l4.length ([[],[]]:List Str).length 16 then (zbk [13,10] (l4++([[],[]]))).bind fun r4=>some (r4,0) else none
def zem (x_trailers:List zWx):Option (Str × Int):=zeT x_trailers x_trailers (x_trailers.length:Int) fuel ([[48]]) 0
def zfq (x_trailers:List zWx):Option (Str × Int):=zcG.bind fun r1=>if (!(r1==0)) then some ([],r1) else (zem x_trailers).bind fun r2=>if (!(r2.2==0)) then some ([],r2.2) else none
def zbU (x_c:zWI):Option Int:=if x_c.zXy then some 8 else some 0
def zjd (x_n:Int):Option Str:=(zj6 x_n 16).bind fun r1=>some r1
def zkw (x_n:Int):Option Str:=(zjd x_n).bind fun r1=>some r1
def zdv (x_data:Str):Option Str:=if (x_data==[]) then some [] else (zkw (x_data.length:Int)).bind fun r1=>(zbk [13,10] ([r1,x_data,[]])).bind fun r2=>some r2
def zfr (x_s:Str):Option (Str × Int):=zcG.bind fun r1=>if (!(r1==0)) then some ([],r1) else none
def zeU (x_s:Str):Option (Int × Str × Bool × Int):=some (0,[],false,5)
def zeV:Option Int:=some 0
def zAm (x_code:Int):Option (zXv × Bool):=if (!((zqh [(400,[66,97,100,32,82,101,113,117,101,115,116]),(431,[82,101,113,117,101,115,116,32,72,101,97,100,101,114,32,70,105,101,108,100,115,32,84,111,111,32,76,97,114,103,101]),(502,[66,97,100,32,71,97,116,101,119,97,121])] x_code).2)) then some ((⟨(⟨0,[],[],0,[],0,[]⟩:zWB),(⟨0,0⟩:zWG),[],[]⟩:zXv),false) else some ((⟨(⟨2,[],[],x_code,(zqh [(400,[66,97,100,32,82,101,113,117,101,115,116]),(431,[82,101,113,117,101,115,116,32,72,101,97,100,101,114,32,70,105,101,108,100,115,32,84,111,111,32,76,97,114,103,101]),(502,[66,97,100,32,71,97,116,101,119,97,121])] x_code).1,1,[(⟨[67,111,110,116,101,110,116,45,76,101,110,103,116,104],[48]⟩:zWx),(⟨[67,111,110,110,101,99,116,105,111,110],[99,108,111,115,101]⟩:zWx)]⟩:zWB),(⟨2,0⟩:zWG),[],[]⟩:zXv),true)
def zje (x_method:Str) (x_code:Int):Option Bool:=if (x_method==[72,69,65,68]) then some true else if (decide (x_code<200)) then some true else if (x_code==204) then some true else if (x_code==304) then some true else if (x_method==[67,79,78,78,69,67,84]) then some (decide (x_code<300)) else some false
def zgT (x_method:Str) (x_h:zWB):Option (zWG × Int):=(zje x_method x_h.Code).bind fun r1=>if r1 then some ((⟨1,0⟩:zWG),0) else (zpK x_h 4).bind fun r2=>some (r2.1,r2.2)
def zt7 (x_method:Str) (x_h:zWB):Option (zWG × Int):=if (x_h.Kind==1) then (zhP x_h).bind fun r1=>some (r1.1,r1.2) else (zgT x_method x_h).bind fun r2=>some (r2.1,r2.2)
def zwf (x_m:zXv):Option Bool:=if (x_m.Frame.Kind==1) then if (x_m.Body==[]) then some ((x_m.Trailers.length:Int)==0) else some false else if (x_m.Frame.Kind==2) then if ((x_m.Body.length:Int)==x_m.Frame.N) then some ((x_m.Trailers.length:Int)==0) else some false else if (x_m.Frame.Kind==4) then some ((x_m.Trailers.length:Int)==0) else some true
def zt8 (x_method:Str) (x_m:zXv):Option Int:=(znG x_m.Head).bind fun r1=>if (!(r1==0)) then some r1 else (zt7 x_method x_m.Head).bind fun r2=>if (!(r2.2==0)) then some r2.2 else if (!(r2.1==x_m.Frame)) then some 1 else (zwf x_m).bind fun r3=>if (!r3) then some 1 else (zem x_m.Trailers).bind fun r4=>some r4.2
def zfQ (x_c:Option zWI):Option (Int × Option zWI):=optK x_c (some (5,none)) fun r1=>if r1.zXy then some (8,some r1) else some (0,some r1)
def zff:Nat→zWI→List Str→Option (Str × Int × Option zWI)
 | 0,_,_=>none
 | n+1,vp0,l7=>if (decide (vp0.zXN≤(vp0.zW7.length:Int))) then (sTo vp0.zW7 vp0.zXN).bind fun r1=>(zdv r1).bind fun r2=>if ze l7.length ([r2]:List Str).length 16 then (zad vp0.zW7 vp0.zXN).bind fun r3=>zff n ({vp0 with zW7:=r3}:zWI) (l7++[r2]) else none else (zbk [] l7).bind fun r4=>some (r4,0,some vp0)
def zkQ (x_c:Option zWI) (x_s:Str):Option (Str × Int × Option zWI):=(zfQ x_c).bind fun r1=>if (!(r1.1==0)) then some ([],r1.1,r1.2) else r1.2.bind fun r2=>(zb1 r2.zW7 x_s).bind fun r3=>zff fuel ({r2 with zW7:=r3}:zWI) []
def zkR (x_c:Option zWI) (x_trailers:List zWx):Option (Str × Int × Option zWI):=(zfQ x_c).bind fun r1=>if (!(r1.1==0)) then some ([],r1.1,r1.2) else (zem x_trailers).bind fun r2=>if (!(r2.2==0)) then some ([],r2.2,r1.2) else r1.2.bind fun r3=>(zdv r3.zW7).bind fun r4=>(zb1 r4 r2.1).bind fun r5=>some (r5,0,some (⟨r3.zXN,[],true⟩:zWI))
def znI (s1:Str) (l2:List zWx) (o8:Option zWI) (i9:Int):Option (Str × Int):=if (!(i9==0)) then some ([],i9) else (zkQ o8 s1).bind fun r1=>(zkR r1.2.2 l2).bind fun r2=>if (!(r2.2.1==0)) then some ([],r2.2.1) else (zb1 r1.1 r2.1).bind fun r3=>some (r3,0)
def zxG (x_size:Int) (x_body:Str) (x_trailers:List zWx):Option (Str × Int):=(zhw x_size).bind fun r1=>optK r1.1 (znI x_body x_trailers none r1.2) fun r2=>znI x_body x_trailers (some r2) r1.2
def zk7 (s11:Str) (i12:Int) (s13:Str):Option (Str × Int):=if (!(i12==0)) then some ([],i12) else (zb1 s11 s13).bind fun r1=>some (r1,0)
def zt9 (x_method:Str) (x_m:zXv) (x_limit:Int) (x_size:Int):Option (Str × Int):=(zt8 x_method x_m).bind fun r1=>if (!(r1==0)) then some ([],r1) else (zjr x_m.Head x_limit).bind fun r2=>if (!(r2.2==0)) then some ([],r2.2) else if (x_m.Frame.Kind==3) then (zxG x_size x_m.Body x_m.Trailers).bind fun r3=>zk7 r2.1 r3.2 r3.1 else zk7 r2.1 r2.2 x_m.Body
def zuY (x_code:Int):Option Str:=(zAm x_code).bind fun r1=>if (!r1.2) then some [] else (zt9 [71,69,84] r1.1 65536 1).bind fun r2=>some r2.1
def zdy (x_q:zWV):Option Int:=some (x_q.zXL.zXs.length:Int)
def zaM (x_g:zWv) (x_e:Int):Option zWv:=(zqP x_e).bind fun r1=>some ({x_g with zWy:=(⟨none,none,none⟩:zWE),zXV:=r1,zW8:=true}:zWv)
def zaA (l6:List Str) (i7:Int):Nat→zWv→Int→Option zWv
 | 0,_,_=>none
 | n+1,vp0,i8=>if (decide (i8<i7)) then (lAt l6 i8).bind fun r1=>if ze vp0.zXW.length r1.length 1 then (zd i8 1).bind fun r2=>zaA l6 i7 n ({vp0 with zXW:=vp0.zXW++r1}:zWv) r2 else none else some vp0
def zau (x_g:zWv) (x_l:List Str):Option zWv:=zaA x_l (x_l.length:Int) fuel x_g 0
def zkx (v2:zWG) (o6:Option zWI) (i7:Int):Option (Option zWM × Int):=if (!(i7==0)) then some (none,1) else if (decide (v2.Kind<1)) then some (none,1) else if (decide ((4:Int)<v2.Kind)) then some (none,1) else if (decide (v2.N<0)) then some (none,1) else if (v2.Kind==3) then some (some (⟨o6,v2,0,false⟩:zWM),0) else if (v2.Kind==2) then some (some (⟨none,v2,v2.N,false⟩:zWM),0) else some (some (⟨none,v2,0,false⟩:zWM),0)
def zmg (x_f:zWG) (x_size:Int):Option (Option zWM × Int):=(zhw x_size).bind fun r1=>optK r1.1 (zkx x_f none r1.2) fun r2=>zkx x_f (some r2) r1.2
def zhX:Option Bool:=some false
def zdh (vp0:zWV):Option (Int × zWV):=some (0,vp0)
def zeW (x_q:zWV) (x_l:List zWH):Option (Int × zWV):=if x_q.zXQ then some (8,x_q) else (zbY x_q.zXL.zWT (x_q.zXL.zXs.length:Int)).bind fun r1=>if (decide (r1<(x_l.length:Int))) then some (10,x_q) else (zlL x_l).bind fun r2=>if r2 then some (8,x_q) else if ze x_q.zXL.zXs.length x_l.length 32 then if (decide ((0:Int)<(x_l.length:Int))) then (zbY (x_l.length:Int) 1).bind fun r3=>(lAt x_l r3).bind fun r4=>zdh (⟨(⟨x_q.zXL.zXs++x_l,x_q.zXL.zWT⟩:zXi),r4.Close⟩:zWV) else zdh (⟨(⟨x_q.zXL.zXs++x_l,x_q.zXL.zWT⟩:zXi),false⟩:zWV) else none
def zev (x_c:zWI) (x_trailers:List zWx):Option (Str × Int × zWI):=(zbU x_c).bind fun r1=>if (!(r1==0)) then some ([],r1,x_c) else (zem x_trailers).bind fun r2=>if (!(r2.2==0)) then some ([],r2.2,x_c) else (zdv x_c.zW7).bind fun r3=>(zb1 r3 r2.1).bind fun r4=>some (r4,0,(⟨x_c.zXN,[],true⟩:zWI))
def zaW (vp0:zWM) (i6:Int) (s7:Str):Option (Str × Int × zWM):=some (s7,i6,({vp0 with zXy:=i6==0}:zWM))
def zaZ (x_w:zWM) (x_trailers:List zWx):Option (Str × Int × zWM):=(zb9 x_w).bind fun r1=>if (!(r1==0)) then some ([],r1,x_w) else if (x_w.zXH.Kind==3) then optK x_w.Encoder ((zfq x_trailers).bind fun r3=>zaW ({x_w with Encoder:=none}:zWM) r3.2 r3.1) fun r2=>(zev r2 x_trailers).bind fun r4=>zaW ({x_w with Encoder:=some r4.2.2}:zWM) r4.2.1 r4.1 else if (decide ((0:Int)<x_w.zXo)) then zaW x_w 6 [] else zaW x_w r1 []
def za0 (vp0:zWv) (v6:zWH):Option zWv:=(zdX 1 vp0.zXC.Head).bind fun r1=>some ({vp0 with zWy:=r1,zW8:=v6.Close}:zWv)
def za1 (vp0:zWv) (v4:zWB):Option zWv:=(zqZ v4).bind fun r1=>optK vp0.Queue ((zgt [r1]).bind fun r3=>za0 ({vp0 with Queue:=none}:zWv) (⟨r1.Method,r1.Minor,r1.Close⟩:zWH)) fun r2=>(zeW r2 [(⟨r1.Method,r1.Minor,r1.Close⟩:zWH)]).bind fun r4=>za0 ({vp0 with Queue:=some r4.2}:zWv) (⟨r1.Method,r1.Minor,r1.Close⟩:zWH)
def zQ (vp0:zWv) (s2:Str):Option zWv:=(zau vp0 [s2]).bind fun r1=>optK r1.zWy.Accum (zd1.bind fun r3=>za1 ({r1 with zWy:=(⟨none,r1.zWy.zXF,r1.zWy.zWQ⟩:zWE)}:zWv) r3.1) fun r2=>(zcT r2).bind fun r4=>za1 ({r1 with zWy:=(⟨some r2,r1.zWy.zXF,r1.zWy.zWQ⟩:zWE)}:zWv) r4.1
def zbV (x_g:zWv):Option zWv:=optK x_g.zWy.zWQ (optK x_g.zWy.zXF (zbL.bind fun r3=>(zbM r3).bind fun r4=>zQ ({x_g with zWy:=(⟨x_g.zWy.Accum,none,none⟩:zWE)}:zWv) r4.1) fun r2=>(zaY r2).bind fun r5=>(zbM r5).bind fun r6=>zQ ({x_g with zWy:=(⟨x_g.zWy.Accum,some r2,none⟩:zWE)}:zWv) r6.1) fun r1=>optK x_g.zWy.zXF (zbL.bind fun r8=>(zaZ r1 r8).bind fun r9=>zQ ({x_g with zWy:=(⟨x_g.zWy.Accum,none,some r9.2.2⟩:zWE)}:zWv) r9.1) fun r7=>(zaY r7).bind fun r10=>(zaZ r1 r10).bind fun r11=>zQ ({x_g with zWy:=(⟨x_g.zWy.Accum,some r7,some r11.2.2⟩:zWE)}:zWv) r11.1
def zfR (x_b:zW2):Option Bool:=some x_b.zXy
def za2 (vp0:zWv) (t65:Bool):Option zWv:=if t65 then (zbV vp0).bind fun r1=>some r1 else some vp0
def za3 (vp0:zWv):Option zWv:=optK vp0.zWy.zXF (zhX.bind fun r2=>za2 ({vp0 with zWy:=(⟨vp0.zWy.Accum,none,vp0.zWy.zWQ⟩:zWE)}:zWv) r2) fun r1=>(zfR r1).bind fun r3=>za2 ({vp0 with zWy:=(⟨vp0.zWy.Accum,some r1,vp0.zWy.zWQ⟩:zWE)}:zWv) r3
def za4 (vp0:zWv) (v5:zWG):Option zWv:=(zmg v5 vp0.zXC.Chunk).bind fun r1=>optK r1.1 (za3 ({vp0 with zWy:=(⟨vp0.zWy.Accum,vp0.zWy.zXF,none⟩:zWE)}:zWv)) fun r2=>za3 ({vp0 with zWy:=(⟨vp0.zWy.Accum,vp0.zWy.zXF,some r2⟩:zWE)}:zWv)
def za5 (vp0:zWv) (v2:zWB):Option zWv:=(zdL vp0 v2).bind fun r1=>if (!(r1.2.2==0)) then (zaM vp0 r1.2.2).bind fun r2=>some r2 else (zau vp0 [r1.1]).bind fun r3=>(zsK r1.2.1 r3.zXC.Head).bind fun r4=>optK r4.1 (za4 ({r3 with zWy:=(⟨r3.zWy.Accum,none,r3.zWy.zWQ⟩:zWE)}:zWv) r1.2.1) fun r5=>za4 ({r3 with zWy:=(⟨r3.zWy.Accum,some r5,r3.zWy.zWQ⟩:zWE)}:zWv) r1.2.1
def zdi (x_a0:zWv):Option zWv:=optK x_a0.zWy.Accum (zd1.bind fun r2=>za5 ({x_a0 with zWy:=(⟨none,x_a0.zWy.zXF,x_a0.zWy.zWQ⟩:zWE)}:zWv) r2.1) fun r1=>(zcT r1).bind fun r3=>za5 ({x_a0 with zWy:=(⟨some r1,x_a0.zWy.zXF,x_a0.zWy.zWQ⟩:zWE)}:zWv) r3.1
def zfs (v0:zWL) (i3:Int) (t4:Bool):Option Bool:=(zbY i3 1).bind fun r1=>(lAt v0.zW7 r1).bind fun r2=>some (!((r2==10)==t4))
def zis (x_a:zWL):Option Bool:=if (decide ((1:Int)<(x_a.zW7.length:Int))) then (zbY (x_a.zW7.length:Int) 2).bind fun r1=>(lAt x_a.zW7 r1).bind fun r2=>zfs x_a (x_a.zW7.length:Int) (r2==13) else zfs x_a (x_a.zW7.length:Int) false
def zcH (x_c:zWD):Option (Str × zWD):=(zx x_c zgZ).bind fun r1=>some (r1.1,r1.2)
def zeI (x_s:Str):Option (zWx × Int):=(strings_ContainsAny x_s [13,10]).bind fun r1=>if r1 then some ((⟨[],[]⟩:zWx),24) else (zgH x_s).bind fun r2=>(zcH r2).bind fun r3=>if (!(r3.1==[])) then some ((⟨[],[]⟩:zWx),23) else (zD r3.2).bind fun r4=>(zcH r4.2.2).bind fun r5=>if (!r4.2.1) then some ((⟨[],[]⟩:zWx),21) else (zf r5.2 58).bind fun r6=>if (!r6.1) then some ((⟨[],[]⟩:zWx),21) else if (!(r5.1==[])) then some ((⟨[],[]⟩:zWx),22) else (zal r6.2).bind fun r7=>(zbS zaL [r7]).bind fun r8=>if (!r8) then some ((⟨[],[]⟩:zWx),25) else (zal r6.2).bind fun r9=>(zbI r9 [32,9]).bind fun r10=>some ((⟨r4.1,r10⟩:zWx),0)
def ziW (l64:List Str) (i65:Int):Nat→zWB→Int→Option (zWB × Int)
 | 0,_,_=>none
 | n+1,v12,i66=>if (decide (i66<i65)) then (lAt l64 i66).bind fun r1=>(zeI r1).bind fun r2=>if (!(r2.2==0)) then some ((⟨0,[],[],0,[],0,[]⟩:zWB),r2.2) else if ze v12.Fields.length ([r2.1]:List zWx).length 32 then (zd i66 1).bind fun r3=>ziW l64 i65 n ({v12 with Fields:=v12.Fields++[r2.1]}:zWB) r3 else none else (znF v12).bind fun r4=>if (!(r4==0)) then some ((⟨0,[],[],0,[],0,[]⟩:zWB),r4) else some (v12,0)
def zq0 (x_a0:Int) (x_a1:Str) (x_a2:Int):Option (zWB × Int):=(zdu x_a0 []).bind fun r1=>if (r1.2==1) then some ((⟨0,[],[],0,[],0,[]⟩:zWB),r1.2) else (strings_Index x_a1 [13,10,13,10]).bind fun r2=>if (decide (x_a2<(x_a1.length:Int))) then some ((⟨0,[],[],0,[],0,[]⟩:zWB),3) else if (decide (r2<0)) then some ((⟨0,[],[],0,[],0,[]⟩:zWB),6) else (zd r2 4).bind fun r3=>if (!(r3==(x_a1.length:Int))) then some ((⟨0,[],[],0,[],0,[]⟩:zWB),6) else (sTo x_a1 r2).bind fun r4=>(strings_Split r4 [13,10]).bind fun r5=>(lAt r5 0).bind fun r6=>(zdu x_a0 r6).bind fun r7=>if (!(r7.2==0)) then some ((⟨0,[],[],0,[],0,[]⟩:zWB),r7.2) else (zpn r5 1).bind fun r8=>ziW r8 (r8.length:Int) fuel r7.1 0
def zew (vp0:zWL) (i6:Int):Option (Bool × Int × zWL):=some (false,i6,({vp0 with zXw:=(vp0.zW7.length:Int)}:zWL))
def zgu (x_a:zWL) (x_s:Str):Option (Bool × Int × zWL):=if (x_a.zXw==0) then (zdu x_a.zXZ x_s).bind fun r1=>zew x_a r1.2 else if (!(x_s==[])) then (zeI x_s).bind fun r2=>zew x_a r2.2 else (zq0 x_a.zXZ x_a.zW7 x_a.zXI).bind fun r3=>some (r3.2==0,r3.2,({x_a with zXE:=r3.1}:zWL))
def zgv (x_a:zWL) (x_b:UInt8):Option (Bool × Int × zWL):=if (decide (x_a.zXI≤(x_a.zW7.length:Int))) then some (false,3,x_a) else if ze x_a.zW7.length ([x_b]:List UInt8).length 1 then (zis ({x_a with zW7:=x_a.zW7++[x_b]}:zWL)).bind fun r1=>if r1 then some (false,24,({x_a with zW7:=x_a.zW7++[x_b]}:zWL)) else if (!(x_b==10)) then some (false,0,({x_a with zW7:=x_a.zW7++[x_b]}:zWL)) else (zbY ((x_a.zW7++[x_b]).length:Int) 2).bind fun r2=>(zDv (x_a.zW7++[x_b]) x_a.zXw r2).bind fun r3=>(zgu ({x_a with zW7:=x_a.zW7++[x_b]}:zWL) r3).bind fun r4=>some (r4.1,r4.2.1,r4.2.2) else none
def zex (k0:zWL→Int→Option (Int × Bool × Int × zWL)) (vp0:zWL) (i7:Int) (i25:Int) (t55:Bool):Option (Int × Bool × Int × zWL):=if t55 then (zd i7 1).bind fun r1=>some (r1,vp0.f_whole,vp0.zXY,({vp0 with zW7:=[]}:zWL)) else (zd i25 1).bind fun r2=>k0 vp0 r2
def zaN (s1:Str) (i24:Int):Nat→zWL→Int→Option (Int × Bool × Int × zWL)
 | 0,_,_=>none
 | n+1,vp0,i25=>if (decide (i25<i24)) then (sAt s1 i25).bind fun r1=>(zgv ({vp0 with zX1:=true}:zWL) r1).bind fun r2=>if r2.1 then zex (zaN s1 i24 n) (⟨r2.2.2.zXZ,r2.2.2.zXI,r2.2.2.zW7,r2.2.2.zXw,r2.2.2.zX1,r2.2.1,r2.1,r2.2.2.zXE⟩:zWL) i25 i25 true else zex (zaN s1 i24 n) (⟨r2.2.2.zXZ,r2.2.2.zXI,r2.2.2.zW7,r2.2.2.zXw,r2.2.2.zX1,r2.2.1,r2.1,r2.2.2.zXE⟩:zWL) i25 i25 (!(r2.2.1==0)) else some ((s1.length:Int),false,0,vp0)
def zen (x_a0:zWL) (x_a1:Str):Option (Int × Bool × Int × zWL):=if (!(x_a0.zXY==0)) then some (0,false,8,x_a0) else if x_a0.f_whole then some (0,false,8,x_a0) else zaN x_a1 (x_a1.length:Int) fuel x_a0 0
def zbz:Nat→zWI→List Str→Option (Str × Int × zWI)
 | 0,_,_=>none
 | n+1,vp0,l7=>if (decide (vp0.zXN≤(vp0.zW7.length:Int))) then (sTo vp0.zW7 vp0.zXN).bind fun r1=>(zdv r1).bind fun r2=>if ze l7.length ([r2]:List Str).length 16 then (zad vp0.zW7 vp0.zXN).bind fun r3=>zbz n ({vp0 with zW7:=r3}:zWI) (l7++[r2]) else none else (zbk [] l7).bind fun r4=>some (r4,0,vp0)
def zey (x_c:zWI) (x_s:Str):Option (Str × Int × zWI):=(zbU x_c).bind fun r1=>if (!(r1==0)) then some ([],r1,x_c) else (zb1 x_c.zW7 x_s).bind fun r2=>zbz fuel ({x_c with zW7:=r2}:zWI) []
def zdj (vp0:zWM) (s4:Str) (i5:Int):Option (Str × Int × zWM):=some (s4,i5,vp0)
def zdk (vp0:zWM) (s1:Str):Option (Str × Int × zWM):=some (s1,0,vp0)
def zdl (vp0:zWM) (s1:Str) (t27:Bool):Option (Str × Int × zWM):=if t27 then if (decide (vp0.zXo<(s1.length:Int))) then some ([],3,vp0) else (zbY vp0.zXo (s1.length:Int)).bind fun r1=>zdk ({vp0 with zXo:=r1}:zWM) s1 else zdk vp0 s1
def zdd (x_w:zWM) (x_s:Str):Option (Str × Int × zWM):=(zb9 x_w).bind fun r1=>if (!(r1==0)) then some ([],r1,x_w) else if (x_w.zXH.Kind==3) then optK x_w.Encoder ((zfr x_s).bind fun r3=>zdj ({x_w with Encoder:=none}:zWM) r3.1 r3.2) fun r2=>(zey r2 x_s).bind fun r4=>zdj ({x_w with Encoder:=some r4.2.2}:zWM) r4.1 r4.2.1 else if (x_w.zXH.Kind==1) then zdl x_w x_s true else zdl x_w x_s (x_w.zXH.Kind==2)
def zcv (vp0:zWA) (s1:Str) (i5:Int):Option (Str × zWA):=(sTo s1 i5).bind fun r1=>some (r1,vp0)
def zdM (x_d:zWA) (x_s:Str):Option (Str × zWA):=(zbY x_d.zXo (min x_d.zXo (x_s.length:Int))).bind fun r1=>if (r1==0) then zcv ({x_d with zWY:=2,zXo:=2}:zWA) x_s (min x_d.zXo (x_s.length:Int)) else zcv ({x_d with zXo:=r1}:zWA) x_s (min x_d.zXo (x_s.length:Int))
def zca (vp0:zWA):Option (Int × zWA):=some (0,vp0)
def zcb (vp0:zWA) (b1:UInt8) (b5:UInt8):Option (Int × zWA):=if (!(b1==b5)) then some (31,vp0) else (zbY vp0.zXo 1).bind fun r1=>if (r1==0) then zca ({vp0 with zWY:=0,zXo:=r1}:zWA) else zca ({vp0 with zXo:=r1}:zWA)
def zdm (x_d:zWA) (x_b:UInt8):Option (Int × zWA):=if (x_d.zXo==1) then zcb x_d x_b 10 else zcb x_d x_b 13
def zoA (x_s:Str) (x_most:Int):Option (Int × Int):=(zj5 x_s 16 x_most zdV).bind fun r1=>some (r1.1,r1.2)
def zlM (x_c:zWD):Option (Str × Bool × zWD):=(zD x_c).bind fun r1=>if r1.2.1 then some (r1.1,true,r1.2.2) else (ziR r1.2.2).bind fun r2=>some (r2.1,r2.2.1,r2.2.2)
def zeX (x_r:zXg):Option (zW4 × Bool × zWD):=(zD x_r.Scanner).bind fun r1=>if (!r1.2.1) then some ((⟨r1.1,[],false⟩:zW4),r1.2.1,r1.2.2) else (zf r1.2.2 61).bind fun r2=>if (!r2.1) then some ((⟨r1.1,[],false⟩:zW4),r1.2.1,r2.2) else (zlM r2.2).bind fun r3=>some ((⟨r1.1,r3.1,true⟩:zW4),r3.2.1,r3.2.2)
def zeo (i7:Int) (i8:Int):Nat→zXg→List zW4→Option (Int × List zW4 × Int)
 | 0,_,_=>none
 | n+1,v5,l9=>(zf v5.Scanner 59).bind fun r1=>if r1.1 then (zeX (⟨r1.2⟩:zXg)).bind fun r2=>if (!r2.2.1) then some (0,[],31) else if ze l9.length ([r2.1]:List zW4).length 40 then zeo i7 i8 n (⟨r2.2.2⟩:zXg) (l9++[r2.1]) else none else (zaf r1.2).bind fun r3=>if (!r3) then some (0,[],31) else if (i8==2) then some (0,[],31) else if (!(i8==0)) then some (0,[],i8) else some (i7,l9,0)
def zjf (x_s:Str):Option (Int × List zW4 × Int):=(zgH x_s).bind fun r1=>(zx r1 zdV).bind fun r2=>(zoA r2.1 1099511627776).bind fun r3=>zeo r3.1 r3.2 fuel (⟨r2.2⟩:zXg) []
def zdN (x_d:zWA) (x_s:Str):Option (Int × zWA):=(zjf x_s).bind fun r1=>if (!(r1.2.2==0)) then some (r1.2.2,x_d) else (zbY 1099511627776 x_d.zX3).bind fun r2=>if (decide (r2<r1.1)) then some (7,x_d) else if (r1.1==0) then some (0,({x_d with zWY:=3}:zWA)) else (zd x_d.zX3 r1.1).bind fun r3=>some (0,({x_d with zWY:=1,zXo:=r1.1,zX3:=r3}:zWA))
def zcw (x_d:zWA) (x_s:Str):Option (Bool × Int × zWA):=if (x_s==[]) then some (true,0,x_d) else (zeI x_s).bind fun r1=>if (!(r1.2==0)) then some (false,r1.2,x_d) else if (decide ((100:Int)≤(x_d.zXA.length:Int))) then some (false,3,x_d) else if ze x_d.zXA.length ([r1.1]:List zWx).length 32 then some (false,0,({x_d with zXA:=x_d.zXA++[r1.1]}:zWA)) else none
def zcc (vp0:zWA) (b1:UInt8) (i6:Int) (t7:Bool) (t39:Bool):Option (Bool × Int × zWA):=if t39 then some (false,3,vp0) else if (!((b1==10)==t7)) then some (false,24,vp0) else if (!(b1==10)) then if ze vp0.zXJ.length ([b1]:List UInt8).length 1 then some (false,0,({vp0 with zXJ:=vp0.zXJ++[b1]}:zWA)) else none else (zbY i6 1).bind fun r1=>(lTo vp0.zXJ r1).bind fun r2=>if (vp0.zWY==0) then (zdN ({vp0 with zXJ:=[]}:zWA) r2).bind fun r3=>some (false,r3.1,r3.2) else (zcw ({vp0 with zXJ:=[]}:zWA) r2).bind fun r4=>some (r4.1,r4.2.1,r4.2.2)
def zcd (vp0:zWA) (b1:UInt8) (i6:Int) (t7:Bool):Option (Bool × Int × zWA):=if (decide ((4098:Int)≤i6)) then zcc vp0 b1 i6 t7 true else zcc vp0 b1 i6 t7 (decide (vp0.zXI<vp0.zXR))
def zce (vp0:zWA) (b1:UInt8):Option (Bool × Int × zWA):=if (decide ((0:Int)<(vp0.zXJ.length:Int))) then (zbY (vp0.zXJ.length:Int) 1).bind fun r1=>(lAt vp0.zXJ r1).bind fun r2=>zcd vp0 b1 (vp0.zXJ.length:Int) (r2==13) else zcd vp0 b1 (vp0.zXJ.length:Int) false
def zdn (x_a0:zWA) (x_a1:UInt8):Option (Bool × Int × zWA):=if (x_a0.zWY==3) then (zd x_a0.zXR 1).bind fun r1=>zce ({x_a0 with zXR:=r1}:zWA) x_a1 else zce x_a0 x_a1
def zdO (x_d:zWA) (x_s:Str):Option (Int × Str × Bool × Int × zWA):=if (x_d.zWY==1) then (zdM x_d x_s).bind fun r1=>some ((r1.1.length:Int),r1.1,false,0,r1.2) else if (x_d.zWY==2) then (sAt x_s 0).bind fun r2=>(zdm x_d r2).bind fun r3=>some (1,[],false,r3.1,r3.2) else (sAt x_s 0).bind fun r4=>(zdn x_d r4).bind fun r5=>some (1,[],r5.1,r5.2.1,r5.2.2)
def zcx (vp0:zWA) (i4:Int) (t6:Bool) (i7:Int) (l8:List UInt8):Option (Int × Str × Bool × Int × zWA):=some (i4,l8,t6,i7,vp0)
def zcy (vp0:zWA) (i4:Int) (t6:Bool) (i7:Int) (l8:List UInt8) (t51:Bool):Option (Int × Str × Bool × Int × zWA):=if t51 then zcx ({vp0 with zWY:=4,zXJ:=[]}:zWA) i4 t6 i7 l8 else zcx vp0 i4 t6 i7 l8
def zbh (k0:zWA→Int→Bool→Int→List UInt8→Option (Int × Str × Bool × Int × zWA)) (vp0:zWA) (s1:Str) (i4:Int) (t6:Bool) (i7:Int) (l8:List UInt8) (t30:Bool):Option (Int × Str × Bool × Int × zWA):=if t30 then (zad s1 i4).bind fun r1=>(zdO vp0 r1).bind fun r2=>if ze l8.length r2.2.1.length 1 then (zd i4 r2.1).bind fun r3=>k0 r2.2.2.2.2 r3 r2.2.2.1 r2.2.2.2.1 (l8++r2.2.1) else none else if t6 then zcy vp0 i4 t6 i7 l8 true else zcy vp0 i4 t6 i7 l8 (!(i7==0))
def zI (s1:Str):Nat→zWA→Int→Bool→Int→List UInt8→Option (Int × Str × Bool × Int × zWA)
 | 0,_,_,_,_,_=>none
 | n+1,vp0,i4,t6,i7,l8=>if (decide (i4<(s1.length:Int))) then if (!t6) then zbh (zI s1 n) vp0 s1 i4 t6 i7 l8 (i7==0) else zbh (zI s1 n) vp0 s1 i4 t6 i7 l8 false else zbh (zI s1 n) vp0 s1 i4 t6 i7 l8 false
def zdP (x_d:zWA) (x_s:Str):Option (Int × Str × Bool × Int × zWA):=if (x_d.zWY==4) then some (0,[],false,8,x_d) else zI x_s fuel x_d 0 false 0 []
def zft (vp0:zW2) (i4:Int) (s5:Str) (t6:Bool) (i7:Int):Option (Int × Str × Bool × Int × zW2):=some (i4,s5,t6,i7,({vp0 with zXy:=t6,zXY := !(i7==0)}:zW2))
def zfu (vp0:zW2) (s1:Str) (i4:Int):Option (Int × Str × Bool × Int × zW2):=(sTo s1 i4).bind fun r1=>some (i4,r1,vp0.zXy,0,vp0)
def zfS (x_a0:zW2) (x_a1:Str):Option (Int × Str × Bool × Int × zW2):=if x_a0.zXy then some (0,[],false,8,x_a0) else if x_a0.zXY then some (0,[],false,8,x_a0) else if (x_a0.zXH.Kind==3) then optK x_a0.Decoder ((zeU x_a1).bind fun r2=>zft ({x_a0 with Decoder:=none}:zW2) r2.1 r2.2.1 r2.2.2.1 r2.2.2.2) fun r1=>(zdP r1 x_a1).bind fun r3=>zft ({x_a0 with Decoder:=some r3.2.2.2.2}:zW2) r3.1 r3.2.1 r3.2.2.1 r3.2.2.2.1 else if (x_a0.zXH.Kind==2) then (zbY x_a0.zXo (min (x_a1.length:Int) x_a0.zXo)).bind fun r4=>zfu ({x_a0 with zXo:=r4,zXy:=r4==0}:zW2) x_a1 (min (x_a1.length:Int) x_a0.zXo) else zfu x_a0 x_a1 (x_a1.length:Int)
def zaB (vp0:zWv) (i5:Int) (t6:Bool) (i7:Int):Option (Int × zWv):=if (!(i7==0)) then (zaM vp0 i7).bind fun r1=>some (i5,r1) else if t6 then (zdi vp0).bind fun r2=>some (i5,r2) else some (i5,vp0)
def zaC (vp0:zWv) (i8:Int) (t10:Bool) (i11:Int) (s12:Str):Option (Int × zWv):=(zau vp0 [s12]).bind fun r1=>if (!(i11==0)) then (zaM r1 i11).bind fun r2=>some (i8,r2) else if t10 then (zbV r1).bind fun r3=>some (i8,r3) else some (i8,r1)
def zaD (vp0:zWv) (i8:Int) (s9:Str) (t10:Bool) (i11:Int):Option (Int × zWv):=optK vp0.zWy.zWQ ((zel s9).bind fun r2=>zaC ({vp0 with zWy:=(⟨vp0.zWy.Accum,vp0.zWy.zXF,none⟩:zWE)}:zWv) i8 t10 i11 r2.1) fun r1=>(zdd r1 s9).bind fun r3=>zaC ({vp0 with zWy:=(⟨vp0.zWy.Accum,vp0.zWy.zXF,some r3.2.2⟩:zWE)}:zWv) i8 t10 i11 r3.1
def zaE (vp0:zWv) (s1:Str) (t19:Bool):Option (Int × zWv):=if t19 then optK vp0.zWy.Accum ((zfN s1).bind fun r2=>zaB ({vp0 with zWy:=(⟨none,vp0.zWy.zXF,vp0.zWy.zWQ⟩:zWE)}:zWv) r2.1 r2.2.1 r2.2.2) fun r1=>(zen r1 s1).bind fun r3=>zaB ({vp0 with zWy:=(⟨some r3.2.2.2,vp0.zWy.zXF,vp0.zWy.zWQ⟩:zWE)}:zWv) r3.1 r3.2.1 r3.2.2.1 else optK vp0.zWy.zXF ((zhW s1).bind fun r5=>zaD ({vp0 with zWy:=(⟨vp0.zWy.Accum,none,vp0.zWy.zWQ⟩:zWE)}:zWv) r5.1 r5.2.1 r5.2.2.1 r5.2.2.2) fun r4=>(zfS r4 s1).bind fun r6=>zaD ({vp0 with zWy:=(⟨vp0.zWy.Accum,some r6.2.2.2.2,vp0.zWy.zWQ⟩:zWE)}:zWv) r6.1 r6.2.1 r6.2.2.1 r6.2.2.2.1
def zcz (x_a0:zWv) (x_a1:Str):Option (Int × zWv):=optK x_a0.zWy.zXF (zaE ({x_a0 with zWy:=(⟨x_a0.zWy.Accum,none,x_a0.zWy.zWQ⟩:zWE)}:zWv) x_a1 true) fun r1=>zaE ({x_a0 with zWy:=(⟨x_a0.zWy.Accum,some r1,x_a0.zWy.zWQ⟩:zWE)}:zWv) x_a1 false
def zbi (l6:List Str) (i7:Int):Nat→zWv→Int→Option zWv
 | 0,_,_=>none
 | n+1,vp0,i8=>if (decide (i8<i7)) then (lAt l6 i8).bind fun r1=>if ze vp0.zXB.length r1.length 1 then (zd i8 1).bind fun r2=>zbi l6 i7 n ({vp0 with zXB:=vp0.zXB++r1}:zWv) r2 else none else some vp0
def zZ (x_g:zWv) (x_l:List Str):Option zWv:=zbi x_l (x_l.length:Int) fuel x_g 0
def zS (x_g:zWv):Option zWv:=some ({x_g with zWy:=(⟨none,none,none⟩:zWE),zWw:=(⟨none,none,none⟩:zWE),zW3:=true}:zWv)
def zaw (x_g:zWv) (x_code:Int):Option zWv:=(zuY x_code).bind fun r1=>(zZ x_g [r1]).bind fun r2=>(zS r2).bind fun r3=>some r3
def zaa (vp0:zWv) (i2:Int) (t13:Bool):Option zWv:=if t13 then (zaw vp0 502).bind fun r1=>some r1 else if (decide ((0:Int)<i2)) then some vp0 else if (!(vp0.zXV==0)) then (zaw vp0 vp0.zXV).bind fun r2=>some r2 else if vp0.zXX then (zS vp0).bind fun r3=>some r3 else some vp0
def zaT (vp0:zWv) (i2:Int):Option zWv:=if vp0.zW3 then some vp0 else if (decide ((0:Int)<i2)) then if vp0.zXD then zaa vp0 i2 (!vp0.zXP) else zaa vp0 i2 false else zaa vp0 i2 false
def zB (x_g:zWv):Option zWv:=optK x_g.Queue (zeV.bind fun r2=>zaT ({x_g with Queue:=none}:zWv) r2) fun r1=>(zdy r1).bind fun r3=>zaT ({x_g with Queue:=some r1}:zWv) r3
def zbW (k0:zWv→Int→Option (Int × Int × zWv)) (vp0:zWv) (s1:Str) (i6:Int) (t28:Bool):Option (Int × Int × zWv):=if t28 then (zad s1 i6).bind fun r1=>(zcz vp0 r1).bind fun r2=>(zd i6 r2.1).bind fun r3=>(zB r2.2).bind fun r4=>k0 r4 r3 else some (i6,0,vp0)
def zK (s1:Str):Nat→zWv→Int→Option (Int × Int × zWv)
 | 0,_,_=>none
 | n+1,vp0,i6=>if (decide (i6<(s1.length:Int))) then (zer vp0).bind fun r1=>zbW (zK s1 n) vp0 s1 i6 r1 else zbW (zK s1 n) vp0 s1 i6 false
def zbA (x_g:zWv) (x_s:Str):Option (Int × Int × zWv):=if x_g.zW3 then some (0,8,x_g) else if x_g.zXX then some (0,8,x_g) else zK x_s fuel x_g 0
def zcf (x_g:zWv):Option (Str × zWv):=some (x_g.zXB,({x_g with zXB:=[]}:zWv))
def zbG (x_g:zWv):Option (Str × zWv):=some (x_g.zXW,({x_g with zXW:=[]}:zWv))
def zit:Option Int:=some 0
def zhY:Option Int:=some 0
def zbm:Option Int:=some 0
def zeY:Option Int:=some 0
def zdQ (x_c:zWI):Option Int:=some (x_c.zW7.length:Int)
def zaO (x_w:zWM):Option Int:=optK x_w.Encoder (zeY.bind fun r2=>some r2) fun r1=>(zdQ r1).bind fun r3=>some r3
def zeZ:Option Int:=some 0
def zdR (x_d:zWA):Option Int:=some (x_d.zXJ.length:Int)
def zfT (x_b:zW2):Option Int:=optK x_b.Decoder (zeZ.bind fun r2=>some r2) fun r1=>(zdR r1).bind fun r3=>some r3
def zgw (x_a:zWL):Option Int:=some (x_a.zW7.length:Int)
def ze0 (x_s:zWE):Option Int:=optK x_s.Accum (zit.bind fun r2=>optK x_s.zXF (zhY.bind fun r4=>(zd r2 r4).bind fun r5=>optK x_s.zWQ (zbm.bind fun r7=>(zd r5 r7).bind fun r8=>some r8) fun r6=>(zaO r6).bind fun r9=>(zd r5 r9).bind fun r10=>some r10) fun r3=>(zfT r3).bind fun r11=>(zd r2 r11).bind fun r12=>optK x_s.zWQ (zbm.bind fun r14=>(zd r12 r14).bind fun r15=>some r15) fun r13=>(zaO r13).bind fun r16=>(zd r12 r16).bind fun r17=>some r17) fun r1=>(zgw r1).bind fun r18=>optK x_s.zXF (zhY.bind fun r20=>(zd r18 r20).bind fun r21=>optK x_s.zWQ (zbm.bind fun r23=>(zd r21 r23).bind fun r24=>some r24) fun r22=>(zaO r22).bind fun r25=>(zd r21 r25).bind fun r26=>some r26) fun r19=>(zfT r19).bind fun r27=>(zd r18 r27).bind fun r28=>optK x_s.zWQ (zbm.bind fun r30=>(zd r28 r30).bind fun r31=>some r31) fun r29=>(zaO r29).bind fun r32=>(zd r28 r32).bind fun r33=>some r33
def zfv (x_g:zWv):Option zXx:=(ze0 x_g.zWy).bind fun r1=>(ze0 x_g.zWw).bind fun r2=>some (⟨r1,r2⟩:zXx)
def zw (x_w:zWF):Option zWF:=(zcf x_w.Gateway).bind fun r1=>if ze x_w.zWy.zW6.length r1.1.length 1 then (zbG r1.2).bind fun r2=>if ze x_w.zWw.zW6.length r2.1.length 1 then (zfv r2.2).bind fun r3=>some (⟨r2.2,(⟨x_w.zWy.zXj,x_w.zWy.zXa,x_w.zWy.zXq,x_w.zWy.zXl,x_w.zWy.zW6++r1.1,x_w.zWy.zXz,x_w.zWy.zXK⟩:zXb),(⟨x_w.zWw.zXj,x_w.zWw.zXa,x_w.zWw.zXq,x_w.zWw.zXl,x_w.zWw.zW6++r2.1,x_w.zWw.zXz,x_w.zWw.zXK⟩:zXb),(⟨max x_w.zWT.Client r3.Client,max x_w.zWT.Upstream r3.Upstream⟩:zXx)⟩:zWF) else none else none
def zfw:Option (zWH × Bool):=some ((⟨[],0,false⟩:zWH),false)
def zoB (x_f:zWG) (x_minor:Int):Option zWG:=if (x_f.Kind==1) then some x_f else if (x_f.Kind==2) then some x_f else if (x_minor==1) then some (⟨3,0⟩:zWG) else some (⟨4,0⟩:zWG)
def zhg (x_r:zXi):Option (zWH × Bool):=if ((x_r.zXs.length:Int)==0) then some ((⟨[],0,false⟩:zWH),false) else (lAt x_r.zXs 0).bind fun r1=>some (r1,true)
def zez (x_q:zWV):Option (zWH × Bool):=(zhg x_q.zXL).bind fun r1=>some (r1.1,r1.2)
def zhh:Option Bool:=some false
def zaF (vp0:zWv) (i8:Int):Option (Int × zWv):=(zdX 2 vp0.zXC.Head).bind fun r1=>some (i8,({vp0 with zWw:=r1}:zWv))
def zaG (vp0:zWv) (i8:Int) (s9:Str) (t43:Bool):Option (Int × zWv):=if t43 then (zZ vp0 [s9]).bind fun r1=>zaF (⟨r1.Queue,r1.zXT,r1.zXC,r1.zXG,r1.zWy,r1.zWw,r1.zXB,r1.zXW,r1.zXV,r1.zW8,r1.zXX,r1.zXD,r1.zXP,r1.zXQ,r1.zXS,r1.zW3⟩:zWv) i8 else zaF vp0 i8
def zcA (x_g:zWv) (x_h:zWB) (x_t:zWH):Option (Int × zWv):=(zin x_g.zXT (⟨1,0⟩:zWG) x_h x_g.zXG).bind fun r1=>if (!(r1.2==0)) then some (r1.2,x_g) else (zjr r1.1 x_g.zXC.Head).bind fun r2=>if (r2.2==0) then zaG x_g r2.2 r2.1 (x_t.Minor==1) else zaG x_g r2.2 r2.1 false
def zfU (v3:zWB):Option zWB:=some v3
def zlN (x_h:zWB) (x_close:Bool) (x_minor:Int):Option zWB:=if ze ([]:List zWx).length x_h.Fields.length 32 then if x_close then if ze (([]:List zWx)++x_h.Fields).length ([(⟨[67,111,110,110,101,99,116,105,111,110],[99,108,111,115,101]⟩:zWx)]:List zWx).length 32 then zfU ({x_h with Fields:=(([]:List zWx)++x_h.Fields)++([(⟨[67,111,110,110,101,99,116,105,111,110],[99,108,111,115,101]⟩:zWx)])}:zWB) else none else if (x_minor==0) then if ze (([]:List zWx)++x_h.Fields).length ([(⟨[67,111,110,110,101,99,116,105,111,110],[107,101,101,112,45,97,108,105,118,101]⟩:zWx)]:List zWx).length 32 then zfU ({x_h with Fields:=(([]:List zWx)++x_h.Fields)++([(⟨[67,111,110,110,101,99,116,105,111,110],[107,101,101,112,45,97,108,105,118,101]⟩:zWx)])}:zWB) else none else zfU ({x_h with Fields:=([]:List zWx)++x_h.Fields}:zWB) else none
def zfx (x_q:zWV):Option (Bool × zWV):=if ((x_q.zXL.zXs.length:Int)==0) then some (false,x_q) else (lAt x_q.zXL.zXs 0).bind fun r1=>(zpn x_q.zXL.zXs 1).bind fun r2=>some (true,(⟨(⟨r2,x_q.zXL.zWT⟩:zXi),x_q.zXQ⟩:zWV))
def zao (vp0:zWv):Option zWv:=(zdX 2 vp0.zXC.Head).bind fun r1=>if vp0.zXQ then (zS ({vp0 with zWw:=r1}:zWv)).bind fun r2=>some r2 else some ({vp0 with zWw:=r1}:zWv)
def zap (vp0:zWv):Option zWv:=if vp0.zXD then zao ({vp0 with zXD:=true,zXP:=false}:zWv) else zao ({vp0 with zXD:=vp0.zXS,zXP:=false}:zWv)
def zF (vp0:zWv) (s2:Str):Option zWv:=(zZ vp0 [s2]).bind fun r1=>optK r1.Queue (zhh.bind fun r3=>zap ({r1 with Queue:=none}:zWv)) fun r2=>(zfx r2).bind fun r4=>zap ({r1 with Queue:=some r4.2}:zWv)
def zaj (x_g:zWv):Option zWv:=optK x_g.zWw.zWQ (optK x_g.zWw.zXF (zbL.bind fun r3=>(zbM r3).bind fun r4=>zF ({x_g with zWw:=(⟨x_g.zWw.Accum,none,none⟩:zWE)}:zWv) r4.1) fun r2=>(zaY r2).bind fun r5=>(zbM r5).bind fun r6=>zF ({x_g with zWw:=(⟨x_g.zWw.Accum,some r2,none⟩:zWE)}:zWv) r6.1) fun r1=>optK x_g.zWw.zXF (zbL.bind fun r8=>(zaZ r1 r8).bind fun r9=>zF ({x_g with zWw:=(⟨x_g.zWw.Accum,none,some r9.2.2⟩:zWE)}:zWv) r9.1) fun r7=>(zaY r7).bind fun r10=>(zaZ r1 r10).bind fun r11=>zF ({x_g with zWw:=(⟨x_g.zWw.Accum,some r7,some r11.2.2⟩:zWE)}:zWv) r11.1
def za6 (vp0:zWv) (t123:Bool):Option (Int × zWv):=if t123 then (zaj vp0).bind fun r1=>some (0,r1) else some (0,vp0)
def za7 (vp0:zWv):Option (Int × zWv):=optK vp0.zWw.zXF (zhX.bind fun r2=>za6 ({vp0 with zWw:=(⟨vp0.zWw.Accum,none,vp0.zWw.zWQ⟩:zWE)}:zWv) r2) fun r1=>(zfR r1).bind fun r3=>za6 ({vp0 with zWw:=(⟨vp0.zWw.Accum,some r1,vp0.zWw.zWQ⟩:zWE)}:zWv) r3
def za8 (vp0:zWv) (v9:zWG):Option (Int × zWv):=(zmg v9 vp0.zXC.Chunk).bind fun r1=>optK r1.1 (za7 ({vp0 with zWw:=(⟨vp0.zWw.Accum,vp0.zWw.zXF,none⟩:zWE)}:zWv)) fun r2=>za7 ({vp0 with zWw:=(⟨vp0.zWw.Accum,vp0.zWw.zXF,some r2⟩:zWE)}:zWv)
def za9 (vp0:zWv) (v5:zWH) (v7:zWG) (v9:zWG) (v10:zWB):Option (Int × zWv):=(zlN v10 vp0.zXQ v5.Minor).bind fun r1=>(zjr r1 vp0.zXC.Head).bind fun r2=>if (!(r2.2==0)) then some (r2.2,vp0) else (zZ vp0 [r2.1]).bind fun r3=>(zsK v7 r3.zXC.Head).bind fun r4=>optK r4.1 (za8 ({r3 with zWw:=(⟨r3.zWw.Accum,none,r3.zWw.zWQ⟩:zWE),zXP:=true}:zWv) v9) fun r5=>za8 ({r3 with zWw:=(⟨r3.zWw.Accum,some r5,r3.zWw.zWQ⟩:zWE),zXP:=true}:zWv) v9
def zba (vp0:zWv) (v4:zWB) (v5:zWH) (v7:zWG) (v9:zWG) (v10:zWB):Option (Int × zWv):=(zpM v4).bind fun r1=>if r1 then za9 ({vp0 with zXS:=true}:zWv) v5 v7 v9 v10 else za9 ({vp0 with zXS:=v7.Kind==4}:zWv) v5 v7 v9 v10
def zdo (x_a0:zWv) (x_a1:zWB) (x_a2:zWH):Option (Int × zWv):=(zgT x_a2.Method x_a1).bind fun r1=>if (!(r1.2==0)) then some (r1.2,x_a0) else (zoB r1.1 x_a2.Minor).bind fun r2=>(zin x_a0.zXT r2 x_a1 x_a0.zXG).bind fun r3=>if (!(r3.2==0)) then some (r3.2,x_a0) else if x_a2.Close then zba ({x_a0 with zXQ:=true}:zWv) x_a1 x_a2 r1.1 (⟨r2.Kind,r2.N⟩:zWG) r3.1 else zba ({x_a0 with zXQ:=r2.Kind==4}:zWv) x_a1 x_a2 r1.1 (⟨r2.Kind,r2.N⟩:zWG) r3.1
def zW (vp0:zWv) (i6:Int):Option zWv:=if (!(i6==0)) then (zaw vp0 502).bind fun r1=>some r1 else some vp0
def zaH (vp0:zWv) (v2:zWB) (v4:zWH):Option zWv:=if (v2.Code==101) then zW vp0 20 else if (decide (v2.Code<200)) then (zcA vp0 v2 v4).bind fun r1=>zW r1.2 r1.1 else (zdo vp0 v2 v4).bind fun r2=>zW r2.2 r2.1
def zaI (vp0:zWv) (v2:zWB):Option zWv:=optK vp0.Queue (zfw.bind fun r2=>zaH ({vp0 with Queue:=none}:zWv) v2 r2.1) fun r1=>(zez r1).bind fun r3=>zaH ({vp0 with Queue:=some r1}:zWv) v2 r3.1
def zcB (x_g:zWv):Option zWv:=optK x_g.zWw.Accum (zd1.bind fun r2=>zaI ({x_g with zWw:=(⟨none,x_g.zWw.zXF,x_g.zWw.zWQ⟩:zWE)}:zWv) (⟨r2.1.Kind,r2.1.Method,r2.1.Target,r2.1.Code,r2.1.Reason,r2.1.Minor,r2.1.Fields⟩:zWB)) fun r1=>(zcT r1).bind fun r3=>zaI ({x_g with zWw:=(⟨some r1,x_g.zWw.zXF,x_g.zWw.zWQ⟩:zWE)}:zWv) r3.1
def zaq (vp0:zWv) (i5:Int) (t6:Bool) (i7:Int):Option (Int × zWv):=if (!(i7==0)) then (zaw vp0 502).bind fun r1=>some (i5,r1) else if t6 then (zcB vp0).bind fun r2=>some (i5,r2) else some (i5,vp0)
def zar (vp0:zWv) (i8:Int) (t10:Bool) (i11:Int) (s12:Str):Option (Int × zWv):=(zZ vp0 [s12]).bind fun r1=>if (!(i11==0)) then (zS r1).bind fun r2=>some (i8,r2) else if t10 then (zaj r1).bind fun r3=>some (i8,r3) else some (i8,r1)
def zas (vp0:zWv) (i8:Int) (s9:Str) (t10:Bool) (i11:Int):Option (Int × zWv):=optK vp0.zWw.zWQ ((zel s9).bind fun r2=>zar ({vp0 with zWw:=(⟨vp0.zWw.Accum,vp0.zWw.zXF,none⟩:zWE)}:zWv) i8 t10 i11 r2.1) fun r1=>(zdd r1 s9).bind fun r3=>zar ({vp0 with zWw:=(⟨vp0.zWw.Accum,vp0.zWw.zXF,some r3.2.2⟩:zWE)}:zWv) i8 t10 i11 r3.1
def zat (vp0:zWv) (s1:Str) (t19:Bool):Option (Int × zWv):=if t19 then optK vp0.zWw.Accum ((zfN s1).bind fun r2=>zaq ({vp0 with zWw:=(⟨none,vp0.zWw.zXF,vp0.zWw.zWQ⟩:zWE)}:zWv) r2.1 r2.2.1 r2.2.2) fun r1=>(zen r1 s1).bind fun r3=>zaq ({vp0 with zWw:=(⟨some r3.2.2.2,vp0.zWw.zXF,vp0.zWw.zWQ⟩:zWE)}:zWv) r3.1 r3.2.1 r3.2.2.1 else optK vp0.zWw.zXF ((zhW s1).bind fun r5=>zas ({vp0 with zWw:=(⟨vp0.zWw.Accum,none,vp0.zWw.zWQ⟩:zWE)}:zWv) r5.1 r5.2.1 r5.2.2.1 r5.2.2.2) fun r4=>(zfS r4 s1).bind fun r6=>zas ({vp0 with zWw:=(⟨vp0.zWw.Accum,some r6.2.2.2.2,vp0.zWw.zWQ⟩:zWE)}:zWv) r6.1 r6.2.1 r6.2.2.1 r6.2.2.2.1
def zcg (x_a0:zWv) (x_a1:Str):Option (Int × zWv):=optK x_a0.zWw.zXF (zat ({x_a0 with zWw:=(⟨x_a0.zWw.Accum,none,x_a0.zWw.zWQ⟩:zWE)}:zWv) x_a1 true) fun r1=>zat ({x_a0 with zWw:=(⟨x_a0.zWw.Accum,some r1,x_a0.zWw.zWQ⟩:zWE)}:zWv) x_a1 false
def zG (k0:zWv→Int→Option (Int × Int × zWv)) (vp0:zWv) (s1:Str) (i6:Int) (t46:Bool):Option (Int × Int × zWv):=if t46 then (zad s1 i6).bind fun r1=>(zcg vp0 r1).bind fun r2=>(zd i6 r2.1).bind fun r3=>(zB r2.2).bind fun r4=>k0 r4 r3 else some (i6,0,vp0)
def zm (s1:Str):Nat→zWv→Int→Option (Int × Int × zWv)
 | 0,_,_=>none
 | n+1,vp0,i6=>if (decide (i6<(s1.length:Int))) then if (!vp0.zW3) then if (!vp0.zXD) then optK vp0.Queue (zeV.bind fun r2=>zG (zm s1 n) ({vp0 with Queue:=none}:zWv) s1 i6 (decide ((0:Int)<r2))) fun r1=>(zdy r1).bind fun r3=>zG (zm s1 n) ({vp0 with Queue:=some r1}:zWv) s1 i6 (decide ((0:Int)<r3)) else zG (zm s1 n) vp0 s1 i6 false else zG (zm s1 n) vp0 s1 i6 false else zG (zm s1 n) vp0 s1 i6 false
def zak (x_g:zWv) (x_s:Str):Option (Int × Int × zWv):=if x_g.zW3 then some (0,8,x_g) else if x_g.zXD then some (0,8,x_g) else zm x_s fuel x_g 0
def zaU (x_g:zWv):Option (Int × zWv):=if x_g.zW3 then some (8,x_g) else if x_g.zXX then some (8,x_g) else (zB ({x_g with zWy:=(⟨none,none,none⟩:zWE),zW8:=true,zXX:=true}:zWv)).bind fun r1=>some (0,r1)
def zlO:Option (Bool × Int):=some (false,5)
def zgx (vp0:zW2):Option (Bool × Int × zW2):=some (true,0,vp0)
def zjg (x_b:zW2):Option (Bool × Int × zW2):=if (x_b.zXH.Kind==4) then zgx ({x_b with zXy:=true}:zW2) else if (!x_b.zXy) then some (false,6,x_b) else zgx x_b
def z6 (vp0:zWv) (t3:Bool):Option (Int × zWv):=if t3 then (zaj vp0).bind fun r1=>(zB r1).bind fun r2=>some (0,r2) else (zS vp0).bind fun r3=>(zB r3).bind fun r4=>some (0,r4)
def zT (x_g:zWv):Option (Int × zWv):=if x_g.zW3 then some (8,x_g) else if x_g.zXD then some (8,x_g) else if x_g.zXP then optK x_g.zWw.zXF (zlO.bind fun r2=>z6 ({x_g with zWw:=(⟨x_g.zWw.Accum,none,x_g.zWw.zWQ⟩:zWE),zXD:=true}:zWv) r2.1) fun r1=>(zjg r1).bind fun r3=>z6 ({x_g with zWw:=(⟨x_g.zWw.Accum,some r3.2.2,x_g.zWw.zWQ⟩:zWE),zXD:=true}:zWv) r3.1 else (zB ({x_g with zXD:=true}:zWv)).bind fun r4=>some (0,r4)
def zgU (vp0:zWF) (i4:Int) (i5:Int):Option (Int × Int × Option zWF):=some (i4,i5,some vp0)
def ze1 (x_w:Option zWF) (x_e:zXh):Option (Int × Int × Option zWF):=optK x_w (some (0,5,none)) fun r1=>(zkl x_e).bind fun r2=>if (!(r2==0)) then some (0,r2,some r1) else if (x_e.Kind==1) then (zad r1.zWy.zXj r1.zWy.zXa).bind fun r3=>(sTo r3 (min x_e.N (r3.length:Int))).bind fun r4=>(zbA r1.Gateway r4).bind fun r5=>(zd r1.zWy.zXa r5.1).bind fun r6=>(zw (⟨r5.2.2,(⟨r1.zWy.zXj,r6,r1.zWy.zXq,r1.zWy.zXl,r1.zWy.zW6,r1.zWy.zXz,r1.zWy.zXK⟩:zXb),r1.zWw,r1.zWT⟩:zWF)).bind fun r7=>some (r5.1,r5.2.1,some r7) else if (x_e.Kind==3) then (zad r1.zWw.zXj r1.zWw.zXa).bind fun r8=>(sTo r8 (min x_e.N (r8.length:Int))).bind fun r9=>(zak r1.Gateway r9).bind fun r10=>(zd r1.zWw.zXa r10.1).bind fun r11=>(zw (⟨r10.2.2,r1.zWy,(⟨r1.zWw.zXj,r11,r1.zWw.zXq,r1.zWw.zXl,r1.zWw.zW6,r1.zWw.zXz,r1.zWw.zXK⟩:zXb),r1.zWT⟩:zWF)).bind fun r12=>some (r10.1,r10.2.1,some r12) else if (x_e.Kind==2) then (zad r1.zWy.zXj r1.zWy.zXa).bind fun r13=>if (!(r13==[])) then zgU r1 0 8 else (zaU r1.Gateway).bind fun r14=>if r1.zWy.zXl then (zw (⟨r14.2,(⟨r1.zWy.zXj,r1.zWy.zXa,r1.zWy.zXq,true,r1.zWy.zW6,r1.zWy.zXz,r1.zWy.zXK⟩:zXb),r1.zWw,r1.zWT⟩:zWF)).bind fun r15=>zgU r15 0 r14.1 else (zw (⟨r14.2,(⟨r1.zWy.zXj,r1.zWy.zXa,r1.zWy.zXq,r14.1==0,r1.zWy.zW6,r1.zWy.zXz,r1.zWy.zXK⟩:zXb),r1.zWw,r1.zWT⟩:zWF)).bind fun r16=>zgU r16 0 r14.1 else (zad r1.zWw.zXj r1.zWw.zXa).bind fun r17=>if (!(r17==[])) then some (0,8,some r1) else (zT r1.Gateway).bind fun r18=>if r1.zWw.zXl then (zw (⟨r18.2,r1.zWy,(⟨r1.zWw.zXj,r1.zWw.zXa,r1.zWw.zXq,true,r1.zWw.zW6,r1.zWw.zXz,r1.zWw.zXK⟩:zXb),r1.zWT⟩:zWF)).bind fun r19=>some (0,r18.1,some r19) else (zw (⟨r18.2,r1.zWy,(⟨r1.zWw.zXj,r1.zWw.zXa,r1.zWw.zXq,r18.1==0,r1.zWw.zW6,r1.zWw.zXz,r1.zWw.zXK⟩:zXb),r1.zWT⟩:zWF)).bind fun r20=>some (0,r18.1,some r20)
def zax (x_g:zWv):Option Bool:=some x_g.zW3
def zcU (x_w:Option zWF):Option (zXd × Option zWF):=optK x_w (some ((⟨[],[],0,0,(⟨0,0⟩:zXx),false⟩:zXd),none)) fun r1=>(zax r1.Gateway).bind fun r2=>some ((⟨r1.zWy.zW6,r1.zWw.zW6,r1.zWy.zXa,r1.zWw.zXa,r1.zWT,r2⟩:zXd),some r1)
def zgy (x_a:zXd) (x_b:zXd):Option Bool:=(strings_HasPrefix x_a.Client x_b.Client).bind fun r1=>if r1 then (strings_HasPrefix x_a.Upstream x_b.Upstream).bind fun r2=>some r2 else some false
def zuZ (F:zWF→Int→Int→Option (Int × Option zWF)) (w:zWF) (i3:Int):Option (Int × Option zWF):=(zax w.Gateway).bind fun r33=>if r33 then some (i3,some w) else (zad w.zWw.zXj w.zWw.zXa).bind fun r34=>(sTo r34 (min (w.zWw.zXj.length:Int) (r34.length:Int))).bind fun r35=>(zak w.Gateway r35).bind fun r36=>(zd w.zWw.zXa r36.1).bind fun r37=>(zw (⟨r36.2.2,w.zWy,(⟨w.zWw.zXj,r37,w.zWw.zXq,w.zWw.zXl,w.zWw.zW6,w.zWw.zXz,w.zWw.zXK⟩:zXb),w.zWT⟩:zWF)).bind fun r38=>if r38.zWw.zXq then if (!r38.zWw.zXl) then (zad r38.zWw.zXj r38.zWw.zXa).bind fun r39=>if (r39==[]) then (zad r38.zWw.zXj r38.zWw.zXa).bind fun r40=>if (!(r40==[])) then (zd i3 r36.1).bind fun r41=>F ({r38 with zWw:=(⟨r38.zWw.zXj,r38.zWw.zXa,r38.zWw.zXq,true,r38.zWw.zW6,r38.zWw.zXz,r38.zWw.zXK⟩:zXb)}:zWF) r41 0 else (zT r38.Gateway).bind fun r42=>(zw (⟨r42.2,r38.zWy,(⟨r38.zWw.zXj,r38.zWw.zXa,r38.zWw.zXq,true,r38.zWw.zW6,r38.zWw.zXz,r38.zWw.zXK⟩:zXb),r38.zWT⟩:zWF)).bind fun r43=>(zd i3 r36.1).bind fun r44=>F r43 r44 0 else (zd i3 r36.1).bind fun r45=>if (decide ((0:Int)<r36.1)) then F r38 r45 0 else F r38 r45 1 else (zd i3 r36.1).bind fun r46=>if (decide ((0:Int)<r36.1)) then F r38 r46 0 else F r38 r46 1 else (zd i3 r36.1).bind fun r47=>if (decide ((0:Int)<r36.1)) then F r38 r47 0 else F r38 r47 1
def zAn (F:zWF→Int→Int→Option (Int × Option zWF)) (w:zWF) (i3 i4:Int):Option (Int × Option zWF):=(zax w.Gateway).bind fun r67=>if r67 then some (i3,some w) else (zad w.zWw.zXj w.zWw.zXa).bind fun r68=>(sTo r68 (min (w.zWw.zXj.length:Int) (r68.length:Int))).bind fun r69=>(zak w.Gateway r69).bind fun r70=>(zd w.zWw.zXa r70.1).bind fun r71=>(zw (⟨r70.2.2,w.zWy,(⟨w.zWw.zXj,r71,w.zWw.zXq,w.zWw.zXl,w.zWw.zW6,w.zWw.zXz,w.zWw.zXK⟩:zXb),w.zWT⟩:zWF)).bind fun r72=>if r72.zWw.zXq then if (!r72.zWw.zXl) then (zad r72.zWw.zXj r72.zWw.zXa).bind fun r73=>if (r73==[]) then (zad r72.zWw.zXj r72.zWw.zXa).bind fun r74=>if (!(r74==[])) then (zd i3 r70.1).bind fun r75=>(zd i4 1).bind fun r76=>F ({r72 with zWw:=(⟨r72.zWw.zXj,r72.zWw.zXa,r72.zWw.zXq,true,r72.zWw.zW6,r72.zWw.zXz,r72.zWw.zXK⟩:zXb)}:zWF) r75 0 else (zT r72.Gateway).bind fun r77=>(zw (⟨r77.2,r72.zWy,(⟨r72.zWw.zXj,r72.zWw.zXa,r72.zWw.zXq,true,r72.zWw.zW6,r72.zWw.zXz,r72.zWw.zXK⟩:zXb),r72.zWT⟩:zWF)).bind fun r78=>(zd i3 r70.1).bind fun r79=>(zd i4 1).bind fun r80=>F r78 r79 0 else (zd i3 r70.1).bind fun r81=>(zd i4 1).bind fun r82=>if (decide ((0:Int)<r70.1)) then F r72 r81 0 else F r72 r81 r82 else (zd i3 r70.1).bind fun r83=>(zd i4 1).bind fun r84=>if (decide ((0:Int)<r70.1)) then F r72 r83 0 else F r72 r83 r84 else (zd i3 r70.1).bind fun r85=>(zd i4 1).bind fun r86=>if (decide ((0:Int)<r70.1)) then F r72 r85 0 else F r72 r85 r86
def zEG (F:zWF→Int→Int→Option (Int × Option zWF)) (vp0:zWF) (i3 i4:Int):Option (Int × Option zWF):=(zax vp0.Gateway).bind fun r2=>if r2 then some (i3,some vp0) else (zad vp0.zWy.zXj vp0.zWy.zXa).bind fun r3=>(sTo r3 (min (vp0.zWy.zXj.length:Int) (r3.length:Int))).bind fun r4=>(zbA vp0.Gateway r4).bind fun r5=>(zd vp0.zWy.zXa r5.1).bind fun r6=>(zw (⟨r5.2.2,(⟨vp0.zWy.zXj,r6,vp0.zWy.zXq,vp0.zWy.zXl,vp0.zWy.zW6,vp0.zWy.zXz,vp0.zWy.zXK⟩:zXb),vp0.zWw,vp0.zWT⟩:zWF)).bind fun r7=>if r7.zWy.zXq then if (!r7.zWy.zXl) then (zad r7.zWy.zXj r7.zWy.zXa).bind fun r8=>if (r8==[]) then (zad r7.zWy.zXj r7.zWy.zXa).bind fun r9=>if (!(r9==[])) then (zd i3 r5.1).bind fun r10=>(zd i4 1).bind fun r11=>zuZ F ({r7 with zWy:=(⟨r7.zWy.zXj,r7.zWy.zXa,r7.zWy.zXq,true,r7.zWy.zW6,r7.zWy.zXz,r7.zWy.zXK⟩:zXb)}:zWF) r10 else (zaU r7.Gateway).bind fun r28=>(zw (⟨r28.2,(⟨r7.zWy.zXj,r7.zWy.zXa,r7.zWy.zXq,true,r7.zWy.zW6,r7.zWy.zXz,r7.zWy.zXK⟩:zXb),r7.zWw,r7.zWT⟩:zWF)).bind fun r29=>(zd i3 r5.1).bind fun r30=>(zd i4 1).bind fun r31=>zuZ F r29 r30 else (zd i3 r5.1).bind fun r48=>(zd i4 1).bind fun r49=>if (decide ((0:Int)<r5.1)) then zuZ F r7 r48 else zAn F r7 r48 r49 else (zd i3 r5.1).bind fun r87=>(zd i4 1).bind fun r88=>if (decide ((0:Int)<r5.1)) then zuZ F r7 r87 else zAn F r7 r87 r88 else (zd i3 r5.1).bind fun r126=>(zd i4 1).bind fun r127=>if (decide ((0:Int)<r5.1)) then zuZ F r7 r126 else zAn F r7 r126 r127
def zbn:Nat→zWF→Int→Int→Option (Int × Option zWF)
 | 0,_,_,_=>none
 | n+1,vp0,i3,i4=>if (decide (i4<2)) then zEG (zbn n) vp0 i3 i4 else some (i3,some vp0)
def ziu (x_w:Option zWF):Option (Int × Option zWF):=optK x_w (some (0,none)) fun r1=>zbn fuel r1 0 0
def zmh (l18:List zXh) (i19:Int):Nat→Option zWF→Int→Option (zXd × Int)
 | 0,_,_=>none
 | n+1,o4,i20=>if (decide (i20<i19)) then (lAt l18 i20).bind fun r1=>(ze1 o4 r1).bind fun r2=>(zd i20 1).bind fun r3=>zmh l18 i19 n r2.2.2 r3 else (ziu o4).bind fun r4=>(zcU r4.2).bind fun r5=>some (r5.1,0)
def zmi (v1:zW5) (o4:Option zWF) (i5:Int):Option (zXd × Int):=if (!(i5==0)) then some ((⟨[],[],0,0,(⟨0,0⟩:zXx),false⟩:zXd),i5) else zmh v1.Events (v1.Events.length:Int) fuel o4 0
def zsL (x_s:zW5):Option (zXd × Int):=(zl0 x_s).bind fun r1=>optK r1.1 (zmi x_s none r1.2) fun r2=>zmi x_s (some r2) r1.2
def zae (k0:zW5→Option zWF→zXd→Int→Option Bool) (v1:zW5) (o3:Option zWF) (i6:Int) (v7:zXd) (t73:Bool):Option Bool:=if t73 then some false else (zd i6 1).bind fun r1=>k0 v1 o3 v7 r1
def zJ:Nat→zW5→Option zWF→zXd→Int→Option Bool
 | 0,_,_,_,_=>none
 | n+1,v1,o3,v5,i6=>if (decide (i6<(v1.Events.length:Int))) then (lAt v1.Events i6).bind fun r1=>(ze1 o3 r1).bind fun r2=>(zcU r2.2.2).bind fun r3=>(zgy r3.1 v5).bind fun r4=>if (!r4) then zae (zJ n) v1 r3.2 i6 r3.1 true else if (decide (r3.1.Most.Client<v5.Most.Client)) then zae (zJ n) v1 r3.2 i6 r3.1 true else if (decide (r3.1.Most.Upstream<v5.Most.Upstream)) then zae (zJ n) v1 r3.2 i6 r3.1 true else if v5.Closed then zae (zJ n) v1 r3.2 i6 r3.1 (!r3.1.Closed) else zae (zJ n) v1 r3.2 i6 r3.1 false else (zsL v1).bind fun r5=>if (r5.2==0) then (zgy r5.1 v5).bind fun r6=>some r6 else some false
def zbo (v1:zW5) (o3:Option zWF) (i4:Int):Option Bool:=if (!(i4==0)) then (zjK v1).bind fun r1=>some (i4==r1) else (zcU o3).bind fun r2=>zJ fuel v1 r2.2 r2.1 0
def ziv (x_a0:zW5):Option Bool:=zEF.bind fun r1=>if (!r1) then some false else (znf x_a0).bind fun r2=>(zl0 r2).bind fun r3=>optK r3.1 (zbo r2 none r3.2) fun r4=>zbo r2 (some r4) r3.2
end
end Go.Dm
