/- The models of the functions: written by a program (wip/gen) off the translation. No program in sight. -/
import Derived.Test.YtkbigjfhddediaaGreatDoorTSplit
import Derived.Test.YtkbigjfhddediaaGreatDoorYRun
set_option linter.unusedVariables false
set_option linter.unusedSimpArgs false
set_option linter.unusedVariables false
set_option maxRecDepth 100000
namespace Go.Dm
noncomputable section
open Go.Rk
def ld4 {α β:Type} (i:Int) (v:α × α × α × α) (k:α→Option β):Option β:=if isN i 0 then k v.1 else if isN i 1 then k v.2.1 else if isN i 2 then k v.2.2.1 else if isN i 3 then k v.2.2.2 else none
def st4 {α β:Type} (i:Int) (v:α × α × α × α) (r:α) (k:α × α × α × α→Option β):Option β:=if isN i 0 then k (r,v.2.1,v.2.2.1,v.2.2.2) else if isN i 1 then k (v.1,r,v.2.2.1,v.2.2.2) else if isN i 2 then k (v.1,v.2.1,r,v.2.2.2) else if isN i 3 then k (v.1,v.2.1,v.2.2.1,r) else none
structure z0g where
 Client:Str
 Host:Str
 Scheme:Str
 By:Str
 Domains:List z0h
 Locations:List z0h
deriving DecidableEq
structure z0Q where
 Head:Int
 Chunk:Int
 Queue:Int
deriving DecidableEq
structure z0S where
 Kind:Int
 Name:Str
 Value:Str
deriving DecidableEq
structure zZ1 where
 Side:Int
 Guard:z0S
 Kind:Int
 Name:Str
 To:Str
 Parts:List zZX
deriving DecidableEq
structure z0q where
 Env:z0g
 Caps:z0Q
 Rules:List zZ1
 Client:Str
 Upstream:Str
 ClientEnds:Bool
 UpstreamEnds:Bool
 Events:List zZ2
deriving DecidableEq
structure ref44_Setup where
 Env:z0g
 Caps:z0Q
 Rules:List zZ1
deriving DecidableEq
structure z0o where
 Proto:Str
 Version:Str
 By:Str
 Comment:Str
deriving DecidableEq
structure z0G where
 Kind:Int
 Name:Str
 Port:Int
deriving DecidableEq
structure z0s where
 Scheme:Str
 Auth:Str
 Path:Str
 Query:Str
 Frag:Str
 HasAuth:Bool
 HasQuery:Bool
 HasFrag:Bool
deriving DecidableEq
structure zZ6 where
 z03:Str
 z0A:Int
deriving DecidableEq
structure z02 where
 Scanner:zZ6
deriving DecidableEq
structure zZZ where
 Method:Str
 Minor:Int
 Close:Bool
deriving DecidableEq
structure z0X where
 z0N:List zZZ
 z0d:Int
deriving DecidableEq
structure z0a where
 z0l:z0X
 z0t:Bool
deriving DecidableEq
structure zZY where
 Kind:Int
 Method:Str
 Target:Str
 Code:Int
 Reason:Str
 Minor:Int
 Fields:List zZU
deriving DecidableEq
structure zZ8 where
 z1l:Int
 z1b:Int
 z0D:List UInt8
 z1a:Int
 z1i:Bool
 z1h:Int
 f_whole:Bool
 z1d:zZY
deriving DecidableEq
structure zZW where
 z1b:Int
 z0A:Int
 z1f:List UInt8
 zZ9:Int
 z1m:Int
 z1g:Int
 z09:List zZU
deriving DecidableEq
structure zZ4 where
 Kind:Int
 N:Int
deriving DecidableEq
structure z0i where
 Decoder:Option zZW
 z0v:zZ4
 zZ9:Int
 z0V:Bool
 z1h:Bool
deriving DecidableEq
structure z0e where
 z1e:Int
 z0D:Str
 z0V:Bool
deriving DecidableEq
structure zZ7 where
 Encoder:Option z0e
 z0v:zZ4
 zZ9:Int
 z0V:Bool
deriving DecidableEq
structure zZ3 where
 Accum:Option zZ8
 z00:Option z0i
 z0b:Option zZ7
deriving DecidableEq
structure zZR where
 Queue:Option z0a
 z0O:z0g
 z0c:z0Q
 z0C:List zZ1
 zZT:zZ3
 zZS:zZ3
 zZ5:List UInt8
 z0H:List UInt8
 z0I:Int
 z0f:Bool
 z0y:Bool
 z0J:Bool
 z0r:Bool
 z0t:Bool
 z0u:Bool
 zZV:Bool
deriving DecidableEq
structure z0E where
 Scanner:zZ6
 z0b:List zZX
deriving DecidableEq
structure z0M where
 z0B:Str
 z0n:Int
 z0R:Bool
 z0U:Bool
 z0m:List UInt8
 z07:Unit
 z1c:Unit
structure z08 where
 Client:Int
 Upstream:Int
deriving DecidableEq
structure zZ0 where
 Gateway:zZR
 zZT:z0M
 zZS:z0M
 z0d:z08
structure z01 where
 Client:Str
 Upstream:Str
 ReadClient:Int
 ReadUpstream:Int
 Most:z08
 Closed:Bool
deriving DecidableEq
structure z0w where
 z0N:List zZU
deriving DecidableEq
structure z04 where
 Bag:z0w
 z1q:Int
deriving DecidableEq
structure z0j where
 Scanner:zZ6
 z0b:List Str
 z1a:Int
 z03:Str
deriving DecidableEq
structure z0Z where
 Scanner:zZ6
 z0b:List UInt8
deriving DecidableEq
structure z0F where
 Kind:Int
 Scheme:Str
 Host:z0G
 Path:Str
 Query:Str
 HasQuery:Bool
deriving DecidableEq
structure z0T where
 Bag:z0w
 z1n:zZY
deriving DecidableEq
structure z0K where
 Name:Str
 Value:Str
 Has:Bool
deriving DecidableEq
structure z0k where
 Name:Str
 Value:Str
 Attrs:List z0K
deriving DecidableEq
structure z0z where
 Name:Str
 Value:Str
deriving DecidableEq
structure z0Y where
 Kind:Int
 Name:Str
 Text:Str
 Parts:List zZX
 N:Int
deriving DecidableEq
structure z0x where
 z0b:List z0Y
deriving DecidableEq
structure z0p where
 Bag:z0w
 z1k:List z0z
 z1j:Int
deriving DecidableEq
structure z0P where
 Scanner:zZ6
deriving DecidableEq
structure z0L where
 z1o:List UInt8
 z0d:Int
deriving DecidableEq
structure z05 where
 Quill:z0L
 z1p:Bool
deriving DecidableEq
structure z06 where
 Head:zZY
 Frame:zZ4
 Body:Str
 Trailers:List zZU
deriving DecidableEq
structure z0W where
 Scanner:zZ6
deriving DecidableEq
def zKH:Option Bool:=some true
def znX (x_x:z0h):Option z0h:=(sTo x_x.From (min (x_x.From.length:Int) 60)).bind fun b=>(sTo x_x.To (min (x_x.To.length:Int) 60)).bind fun a=>some (⟨b,a⟩:z0h)
def zwL (a:(Str × Str × Str × Str)→Int→Option z0g) (v3:Str × Str × Str × Str) (i4:Int):Option z0g:=(zh i4 1).bind fun b=>a v3 b
def znd (f:z0g→Int→Option z0g) (v1:z0g) (v5:z0g) (c:Int) (a:Bool):Option z0g:=if a then (lAt v1.Locations c).bind fun d=>(znX d).bind fun b=>if zf v5.Locations.length ([b]:List z0h).length 32 then (zh c 1).bind fun e=>f ({v5 with Locations:=v5.Locations++[b]}:z0g) e else none else some v5
def zgG (v1:z0g):Nat→z0g→Int→Option z0g
 | 0,_,_=>none
 | n+1,v5,a=>if (decide (a<(v1.Locations.length:Int))) then znd (zgG v1 n) v1 v5 a (decide (a<6)) else znd (zgG v1 n) v1 v5 a false
def zne (d:z0g→Int→Option z0g) (v1:z0g) (v5:z0g) (c:Int) (a:Bool):Option z0g:=if a then (lAt v1.Domains c).bind fun e=>(znX e).bind fun b=>if zf v5.Domains.length ([b]:List z0h).length 32 then (zh c 1).bind fun f=>d ({v5 with Domains:=v5.Domains++[b]}:z0g) f else none else zgG v1 fuel v5 0
def zd6 (v1:z0g):Nat→z0g→Int→Option z0g
 | 0,_,_=>none
 | n+1,v5,a=>if (decide (a<(v1.Domains.length:Int))) then zne (zd6 v1 n) v1 v5 a (decide (a<6)) else zne (zd6 v1 n) v1 v5 a false
def zwM (a:z0g) (v5:z0g):Option z0g:=zd6 a fuel v5 0
def zaX (d:z0g):Nat→(Str × Str × Str × Str)→Int→Option z0g
 | 0,_,_=>none
 | n+1,v3,i4=>if (decide (i4<4)) then ld4 i4 v3 fun b=>ld4 i4 v3 fun c=>(sTo b (min (c.length:Int) 60)).bind fun a=>st4 i4 v3 a fun w0=>zwL (zaX d n) w0 i4 else ld4 0 v3 fun e=>ld4 1 v3 fun b=>ld4 2 v3 fun c=>ld4 3 v3 fun w0=>zwM d (⟨e,b,c,w0,[],[]⟩:z0g)
def ztC (x_a0:z0g):Option z0g:=zaX x_a0 fuel (x_a0.Client,x_a0.Host,x_a0.Scheme,x_a0.By) 0
def znf (f:List z0h→Int→Option (List z0h)) (a:List z0h) (c:List z0h) (i4:Int) (b:Bool):Option (List z0h):=if b then (lAt a i4).bind fun r1=>(lAt a i4).bind fun r2=>(sTo r1.From (min (r2.From.length:Int) 60)).bind fun e=>(lAt a i4).bind fun r4=>(lAt a i4).bind fun r5=>(sTo r4.To (min (r5.To.length:Int) 60)).bind fun d=>if zf c.length ([(⟨e,d⟩:z0h)]:List z0h).length 32 then (zh i4 1).bind fun g=>f (c++[(⟨e,d⟩:z0h)]) g else none else some c
def zgH (a:List z0h):Nat→List z0h→Int→Option (List z0h)
 | 0,_,_=>none
 | n+1,b,i4=>if (decide (i4<(a.length:Int))) then znf (zgH a n) a b i4 (decide (i4<70)) else znf (zgH a n) a b i4 false
def zqg (a:List z0h):Option (List z0h):=zgH a fuel [] 0
def ztD (x_env:z0g):Option z0g:=(ztC x_env).bind fun b=>(zqg x_env.Domains).bind fun a=>(zqg x_env.Locations).bind fun c=>some ({b with Domains:=a,Locations:=c}:z0g)
def zng (e:List zZX→Int→Option (List zZX)) (b:List zZX) (c:List zZX) (i4:Int) (a:Bool):Option (List zZX):=if a then (lAt b i4).bind fun r1=>(lAt b i4).bind fun r2=>(lAt b i4).bind fun r3=>(sTo r2.Text (min (r3.Text.length:Int) 60)).bind fun d=>if zf c.length ([(⟨r1.Kind,d⟩:zZX)]:List zZX).length 24 then (zh i4 1).bind fun f=>e (c++[(⟨r1.Kind,d⟩:zZX)]) f else none else some c
def zgI (a:List zZX):Nat→List zZX→Int→Option (List zZX)
 | 0,_,_=>none
 | n+1,b,i4=>if (decide (i4<(a.length:Int))) then zng (zgI a n) a b i4 (decide (i4<40)) else zng (zgI a n) a b i4 false
def zqh (a:List zZX):Option (List zZX):=zgI a fuel [] 0
def zwN (a:(Str × Str × Str × Str)→Int→Option zZ1) (v3:Str × Str × Str × Str) (i4:Int):Option zZ1:=(zh i4 1).bind fun b=>a v3 b
def znh (v1:zZ1):Option zZ1:=(zqh v1.Parts).bind fun a=>some ({v1 with Parts:=a}:zZ1)
def zwO (v1:zZ1) (v3:Str × Str × Str × Str):Option zZ1:=ld4 3 v3 fun w0=>znh ({v1 with Guard:=(⟨v1.Guard.Kind,v1.Guard.Name,w0⟩:z0S)}:zZ1)
def zwP (v1:zZ1) (v3:Str × Str × Str × Str):Option zZ1:=ld4 2 v3 fun w0=>zwO ({v1 with Guard:=(⟨v1.Guard.Kind,w0,v1.Guard.Value⟩:z0S)}:zZ1) v3
def zwQ (a:zZ1) (v3:Str × Str × Str × Str):Option zZ1:=ld4 1 v3 fun w0=>zwP ({a with To:=w0}:zZ1) v3
def za4 (b:zZ1):Nat→(Str × Str × Str × Str)→Int→Option zZ1
 | 0,_,_=>none
 | n+1,v3,i4=>if (decide (i4<4)) then ld4 i4 v3 fun c=>ld4 i4 v3 fun d=>(sTo c (min (d.length:Int) 60)).bind fun a=>st4 i4 v3 a fun w0=>zwN (za4 b n) w0 i4 else ld4 0 v3 fun w0=>zwQ ({b with Name:=w0}:zZ1) v3
def ztE (x_r:zZ1):Option zZ1:=za4 x_r fuel (x_r.Name,x_r.To,x_r.Guard.Name,x_r.Guard.Value) 0
def zni (d:List zZ1→Int→Option (List zZ1)) (f:List zZ1) (b:List zZ1) (i4:Int) (a:Bool):Option (List zZ1):=if a then (lAt f i4).bind fun e=>(ztE e).bind fun c=>if zf b.length ([c]:List zZ1).length 112 then (zh i4 1).bind fun g=>d (b++[c]) g else none else some b
def zgJ (a:List zZ1):Nat→List zZ1→Int→Option (List zZ1)
 | 0,_,_=>none
 | n+1,b,i4=>if (decide (i4<(a.length:Int))) then zni (zgJ a n) a b i4 (decide (i4<70)) else zni (zgJ a n) a b i4 false
def ztF (a:List zZ1):Option (List zZ1):=zgJ a fuel [] 0
def zkC:Nat→List zZ1→Int→Option (List zZ1)
 | 0,_,_=>none
 | n+1,a,i4=>if (decide (i4<(a.length:Int))) then (lAt a i4).bind fun r1=>(lAt a i4).bind fun r2=>(lTo r1.Parts (min (r2.Parts.length:Int) 4)).bind fun e=>(lAt a i4).bind fun c=>(ztp a i4 ({c with Parts:=e}:zZ1)).bind fun d=>(zh i4 1).bind fun b=>zkC n d b else some a
def ztG (a:List zZ1):Option (List zZ1):=(ztF a).bind fun b=>zkC fuel b 0
def znw (x_s:z0q):Option z0q:=(ztD x_s.Env).bind fun c=>(ztG x_s.Rules).bind fun b=>(sTo x_s.Client (min (x_s.Client.length:Int) 3000)).bind fun e=>(sTo x_s.Upstream (min (x_s.Upstream.length:Int) 3000)).bind fun a=>(lTo x_s.Events (min (x_s.Events.length:Int) 150)).bind fun d=>some (⟨c,x_s.Caps,b,e,a,x_s.ClientEnds,x_s.UpstreamEnds,d⟩:z0q)
def zg3 (v1:zZ2) (i4:Int) (t5:Bool):Option Int:=if t5 then if (decide ((0:Int)≤v1.N)) then if (decide (v1.N≤1048576)) then some 0 else some 1 else some 1 else if (i4==2) then if (v1.N==0) then some 0 else some 1 else if (i4==4) then if (v1.N==0) then some 0 else some 1 else some 1
def zff (x_e:zZ2):Option Int:=if (x_e.Kind==1) then zg3 x_e x_e.Kind true else zg3 x_e x_e.Kind (x_e.Kind==3)
def zow (x_e:zZ2):Option Bool:=(zff x_e).bind fun a=>if (a==0) then if (x_e.Kind==1) then some true else some (x_e.Kind==3) else some false
def zf8 (c:List zZ2) (i9:Int):Nat→List zZ2→Int→Option (List zZ2)
 | 0,_,_=>none
 | n+1,b,a=>if (decide (a<i9)) then (lAt c a).bind fun d=>(zow d).bind fun e=>if e then if zf b.length ([d]:List zZ2).length 16 then (zh a 1).bind fun g=>zf8 c i9 n (b++[d]) g else none else (zh a 1).bind fun f=>zf8 c i9 n b f else some b
def zth (a:List zZ2):Option (List zZ2):=zf8 a (a.length:Int) fuel [] 0
def zaj:Nat→List zZ2→Int→Int→Option (List zZ2)
 | 0,_,_,_=>none
 | n+1,a,i2,i3=>if (decide (i2<i3)) then (lAt a i3).bind fun e=>(lAt a i2).bind fun d=>(lAt a i2).bind fun i=>(ztp a i2 e).bind fun b=>(lAt b i3).bind fun h=>(ztp b i3 d).bind fun c=>(zh i2 1).bind fun f=>(zbh i3 1).bind fun g=>zaj n c f g else some a
def zbF (a:List zZ2):Option (List zZ2):=(zbh (a.length:Int) 1).bind fun b=>zaj fuel a 0 b
def znx (a:List zZ2):Option (List zZ2):=(zth a).bind fun c=>(zbF c).bind fun b=>some b
def znY (a:Int) (b:Int):Option (Int × Int):=(zbh a (min a b)).bind fun c=>some (min a b,c)
def zkD (c:Int→Int→List zZ2→Option (List zZ2 × Int)) (f:Int) (d:Int) (e:Int) (b:List zZ2):Option (List zZ2 × Int):=(znY e f).bind fun a=>if (decide ((0:Int)<a.1)) then if zf b.length ([(⟨3,a.1⟩:zZ2)]:List zZ2).length 16 then c d a.2 (b++[(⟨3,a.1⟩:zZ2)]) else none else c d a.2 b
def zfg (b:Int):Nat→Int→Int→List zZ2→Option (List zZ2 × Int)
 | 0,_,_,_=>none
 | n+1,e,d,c=>(zh e d).bind fun f=>if (decide ((0:Int)<f)) then (znY e b).bind fun a=>if (decide ((0:Int)<a.1)) then if zf c.length ([(⟨1,a.1⟩:zZ2)]:List zZ2).length 16 then zkD (zfg b n) b a.2 d (c++[(⟨1,a.1⟩:zZ2)]) else none else zkD (zfg b n) b a.2 d c else some (c,0)
def zlu (x_s:z0q) (a:Int):Option (List zZ2 × Int):=if (decide (a<1)) then some ([],1) else if (decide ((1048576:Int)<a)) then some ([],1) else if (decide ((1048576:Int)<(x_s.Client.length:Int))) then some ([],3) else if (decide ((1048576:Int)<(x_s.Upstream.length:Int))) then some ([],3) else zfg a fuel (x_s.Client.length:Int) (x_s.Upstream.length:Int) []
def zox (x_s:z0q):Option ref44_Setup:=some (⟨x_s.Env,x_s.Caps,x_s.Rules⟩:ref44_Setup)
def zf9 (b:Str) (e:UInt8):Nat→List Str→Int→Int→Option (List Str)
 | 0,_,_,_=>none
 | n+1,c,d,a=>if (decide (a<(b.length:Int))) then (sAt b a).bind fun i=>if (i==e) then (zlA b d a).bind fun f=>if zf c.length ([f]:List Str).length 16 then (zh a 1).bind fun k=>(zh a 1).bind fun h=>zf9 b e n (c++[f]) k h else none else (zh a 1).bind fun j=>zf9 b e n c d j else (zas b d).bind fun g=>if zf c.length ([g]:List Str).length 16 then some (c++[g]) else none
def zj4 (b:Str) (a:UInt8):Option (List Str):=zf9 b a fuel [] 0 0
def znZ (b:UInt8) (c:Int) (d:Str) (e:Str):Nat→Int→Option Int
 | 0,_=>none
 | n+1,a=>if (decide (a<c)) then (sAt d a).bind fun g=>if (g==b) then some a else (sAt e a).bind fun f=>if (f==b) then some a else (zh a 1).bind fun h=>znZ b c d e n h else some (-1)
def zmh (b:UInt8) (a:Int):Option Int:=znZ b a [48,49,50,51,52,53,54,55,56,57,97,98,99,100,101,102] [48,49,50,51,52,53,54,55,56,57,65,66,67,68,69,70] fuel 0
def zez:Nat→Int→Int→Option Str
 | 0,_,_=>none
 | n+1,b,a=>if (decide (b<a)) then (zh b 1).bind fun g=>(zlA [48,49,50,51,52,53,54,55,56,57,97,98,99,100,101,102] b g).bind fun e=>some e else (zFV b a).bind fun i=>(zez n i a).bind fun d=>(zIj b a).bind fun h=>(zIj b a).bind fun c=>(zh c 1).bind fun j=>(zlA [48,49,50,51,52,53,54,55,56,57,97,98,99,100,101,102] h j).bind fun k=>(zck d k).bind fun f=>some f
def zix (b:Int) (a:Int):Option Str:=zez fuel b a
def zkE (b:Str→Int→Option (Str × Bool)) (h:Int) (d:Str) (c:Int) (j:Int) (a:Bool):Option (Str × Bool):=if a then (zix j h).bind fun g=>(zck d g).bind fun e=>(zh c 1).bind fun i=>b e i else (zh c 1).bind fun f=>b d f
def zeA (a:Str) (b:Int):Nat→Str→Int→Option (Str × Bool)
 | 0,_,_=>none
 | n+1,c,e=>if (decide (e<(a.length:Int))) then (sAt a e).bind fun f=>(zmh f b).bind fun d=>if (decide (d<0)) then some ([],false) else if (!(c==[])) then zkE (zeA a b n) b c e d true else zkE (zeA a b n) b c e d (decide ((0:Int)<d)) else if (c==[]) then some ([48], !(a==[])) else some (c, !(a==[]))
def zoy (b:Str) (a:Int):Option (Str × Bool):=zeA b a fuel [] 0
def zq5 (b:Str) (a:Str):Option Bool:=if (decide ((b.length:Int)<(a.length:Int))) then some true else if ((b.length:Int)==(a.length:Int)) then some (zjs b a) else some false
def zjc (c:Int) (d:Str):Nat→Int→Int→Option (Int × Int)
 | 0,_,_=>none
 | n+1,b,a=>if (decide (a<(d.length:Int))) then (zJ6 b c).bind fun g=>(sAt d a).bind fun f=>(zmh f c).bind fun i=>(zh g i).bind fun e=>(zh a 1).bind fun h=>zjc c d n e h else some (b,0)
def zq6 (d:Str) (a:Int) (b:Int):Option (Int × Int):=(zoy d a).bind fun c=>if (!c.2) then some (0,2) else if (decide (b<0)) then some (0,7) else (zix b a).bind fun e=>(zq5 e c.1).bind fun f=>if f then some (0,7) else zjc a c.1 fuel 0 0
def zq7 (b:Int) (a:Int):Option Str:=if (decide (b<0)) then some [] else (zix b a).bind fun c=>some c
def zmi (b:Str) (a:Int):Option Int:=if (decide ((5:Int)<(b.length:Int))) then some (-1) else (zq6 b 10 a).bind fun c=>if (!(c.2==0)) then some (-1) else (zq7 c.1 10).bind fun d=>if (!(d==b)) then some (-1) else some c.1
def zjd (a:List Str):Nat→Int→Option Bool
 | 0,_=>none
 | n+1,i4=>if (decide (i4<(a.length:Int))) then (lAt a i4).bind fun c=>(zmi c 255).bind fun b=>if (decide (b<0)) then some false else (zh i4 1).bind fun d=>zjd a n d else some ((a.length:Int)==4)
def zjT (a:Str):Option Bool:=(zj4 a 46).bind fun b=>zjd b fuel 0
def zj5 (a:UInt8) (s1:Str):Nat→Int→Option Bool
 | 0,_=>none
 | n+1,i5=>if (decide (i5<(s1.length:Int))) then (sAt s1 i5).bind fun c=>if (c==a) then some true else (zh i5 1).bind fun b=>zj5 a s1 n b else some false
def zga (a:UInt8) (b:Str):Option Bool:=zj5 a b fuel 0
def ziy (a:UInt8):Option Bool:=(zga a [48,49,50,51,52,53,54,55,56,57,97,98,99,100,101,102,65,66,67,68,69,70]).bind fun b=>some b
def zhT (c:Int→Int→Option Bool) (a:List Str) (i4:Int) (i5:Int):Nat→Int→Option Bool
 | 0,_=>none
 | n+1,b=>(lAt a i5).bind fun h=>if (decide (b<(h.length:Int))) then (lAt a i5).bind fun d=>(sAt d b).bind fun j=>(ziy j).bind fun e=>if (!e) then some false else (zh b 1).bind fun i=>zhT c a i4 i5 n i else (lAt a i5).bind fun f=>if (decide ((f.length:Int)<1)) then some false else (lAt a i5).bind fun k=>if (decide ((4:Int)<(k.length:Int))) then some false else (zh i4 1).bind fun l=>(zh i5 1).bind fun g=>c l g
def zkF (b:Int→Int→Option Bool) (e:List Str) (i4:Int) (i5:Int) (a:Bool):Option Bool:=if a then (zh i4 2).bind fun d=>(zh i5 1).bind fun c=>b d c else zhT b e i4 i5 fuel 0
def zdv (a:List Str):Nat→Int→Int→Option Bool
 | 0,_,_=>none
 | n+1,i4,i5=>if (decide (i5<(a.length:Int))) then (zbh (a.length:Int) 1).bind fun c=>if (i5==c) then (lAt a i5).bind fun b=>(zjT b).bind fun d=>zkF (zdv a n) a i4 i5 d else zkF (zdv a n) a i4 i5 false else some (i4==8)
def zmj (a:Str):Option Bool:=(zj4 a 58).bind fun b=>zdv b fuel 0 0
def znj (e:Str→Int→Option Bool) (d:Str) (b:Int):Option Bool:=(zck d [48]).bind fun c=>(zh b 1).bind fun a=>e c a
def znk (b:Int→Option Bool) (i4:Int) (d:Str):Option Bool:=(zmj d).bind fun c=>if c then some true else (zh i4 1).bind fun a=>b a
def zgK (b:Int→Option Bool) (c:Str) (i3:Int) (i4:Int):Nat→Str→Int→Option Bool
 | 0,_,_=>none
 | n+1,a,d=>if (decide (d<i4)) then if (!(a==[])) then (zck a [58]).bind fun h=>znj (zgK b c i3 i4 n) h d else znj (zgK b c i3 i4 n) a d else (zh i3 2).bind fun f=>(zas c f).bind fun j=>if (!(j==[])) then (zck a [58]).bind fun e=>(zh i3 2).bind fun i=>(zas c i).bind fun g=>(zck e g).bind fun k=>znk b i4 k else znk b i4 a
def zfh (a:Str) (i3:Int):Nat→Int→Option Bool
 | 0,_=>none
 | n+1,i4=>if (decide (i4≤8)) then (sTo a i3).bind fun b=>zgK (zfh a i3 n) a i3 i4 fuel b 0 else some false
def ziz (a:Str):Nat→Int→Option Bool
 | 0,_=>none
 | n+1,i3=>(zh i3 1).bind fun e=>if (decide (e<(a.length:Int))) then (sAt a i3).bind fun c=>if (!(c==58)) then (zh i3 1).bind fun g=>ziz a n g else (zh i3 1).bind fun b=>(sAt a b).bind fun f=>if (!(f==58)) then (zh i3 1).bind fun d=>ziz a n d else zfh a i3 fuel 1 else (zmj a).bind fun h=>some h
def ztH (a:Str):Option Bool:=ziz a fuel 0
def zer (a:UInt8):Option Bool:=(zga a [97,98,99,100,101,102,103,104,105,106,107,108,109,110,111,112,113,114,115,116,117,118,119,120,121,122,65,66,67,68,69,70,71,72,73,74,75,76,77,78,79,80,81,82,83,84,85,86,87,88,89,90,48,49,50,51,52,53,54,55,56,57,45,46,95,126]).bind fun b=>some b
def zny (a:UInt8):Option Bool:=(zga a [33,36,38,39,40,41,42,43,44,59,61]).bind fun b=>some b
def zlC (b:Int→Option Bool) (i3:Int) (a:Bool):Option Bool:=if a then some false else (zh i3 1).bind fun c=>b c
def zei (a:Str):Nat→Int→Option Bool
 | 0,_=>none
 | n+1,i3=>if (decide (i3<(a.length:Int))) then (sAt a i3).bind fun k=>if (k==37) then (zh i3 2).bind fun h=>if (decide ((a.length:Int)≤h)) then some false else (zh i3 1).bind fun m=>(sAt a m).bind fun g=>(ziy g).bind fun l=>if (!l) then some false else (zh i3 2).bind fun i=>(sAt a i).bind fun o=>(ziy o).bind fun p=>if (!p) then some false else (zh i3 2).bind fun j=>(zh j 1).bind fun f=>zei a n f else (sAt a i3).bind fun c=>(zer c).bind fun d=>if (!d) then (sAt a i3).bind fun e=>(zny e).bind fun b=>zlC (zei a n) i3 (!b) else zlC (zei a n) i3 false else some (decide ((0:Int)<(a.length:Int)))
def zlv (a:Str):Option Bool:=zei a fuel 0
def zj6 (a:Str) (b:Bool):Option z0G:=if b then (zbh (a.length:Int) 1).bind fun e=>(zlA a 1 e).bind fun d=>some (⟨3,d,(-1)⟩:z0G) else (zjT a).bind fun f=>if f then some (⟨2,a,(-1)⟩:z0G) else (zlv a).bind fun c=>if c then some (⟨1,a,(-1)⟩:z0G) else some (⟨0,[],0⟩:z0G)
def zti (a:Str):Option z0G:=if (decide ((2:Int)<(a.length:Int))) then (sAt a 0).bind fun e=>if (e==91) then (zbh (a.length:Int) 1).bind fun c=>(sAt a c).bind fun g=>if (g==93) then (zbh (a.length:Int) 1).bind fun b=>(zlA a 1 b).bind fun f=>(ztH f).bind fun d=>zj6 a d else zj6 a false else zj6 a false else zj6 a false
def zhU (a:Str):Nat→Int→Option (z0G × Int)
 | 0,_=>none
 | n+1,i5=>if (decide ((0:Int)≤i5)) then (sAt a i5).bind fun e=>if (!(e==58)) then (zbh i5 1).bind fun c=>zhU a n c else (sTo a i5).bind fun g=>(zti g).bind fun r4=>(zh i5 1).bind fun f=>(zas a f).bind fun d=>(zmi d 65535).bind fun b=>if (r4.Kind==0) then some ((⟨0,[],0⟩:z0G),27) else if (decide (b<0)) then some ((⟨0,[],0⟩:z0G),27) else some (({r4 with Port:=b}:z0G),0) else some ((⟨0,[],0⟩:z0G),27)
def zmk (a:Str):Option (z0G × Int):=(zti a).bind fun r1=>if (!(r1.Kind==0)) then some (r1,0) else (zbh (a.length:Int) 1).bind fun b=>zhU a fuel b
def zqi (a:UInt8):Option Bool:=(zga a [97,98,99,100,101,102,103,104,105,106,107,108,109,110,111,112,113,114,115,116,117,118,119,120,121,122,65,66,67,68,69,70,71,72,73,74,75,76,77,78,79,80,81,82,83,84,85,86,87,88,89,90,48,49,50,51,52,53,54,55,56,57,33,35,36,37,38,39,42,43,45,46,94,95,96,124,126]).bind fun b=>some b
def zhV (a:Str):Nat→Int→Option Bool
 | 0,_=>none
 | n+1,i3=>if (decide (i3<(a.length:Int))) then (sAt a i3).bind fun c=>(zqi c).bind fun b=>if (!b) then some false else (zh i3 1).bind fun d=>zhV a n d else some (decide ((0:Int)<(a.length:Int)))
def zbi (a:Str):Option Bool:=zhV a fuel 0
def zgy (a:UInt8):Option Bool:=if (decide (32≤a)) then if (!(a==127)) then some true else some (a==9) else some (a==9)
def ziA (a:Int→Int→Option Bool) (i3:Int) (i4:Int):Option Bool:=if (decide (i3<0)) then some false else (zh i4 1).bind fun b=>a i3 b
def ziB (a:Int→Int→Option Bool) (d:Str) (i3:Int) (i4:Int):Option Bool:=(sAt d i4).bind fun c=>if (c==41) then (zbh i3 1).bind fun b=>ziA a b i4 else ziA a i3 i4
def zbP (a:Str):Nat→Int→Int→Option Bool
 | 0,_,_=>none
 | n+1,i3,i4=>if (decide (i4<(a.length:Int))) then (sAt a i4).bind fun f=>(zgy f).bind fun c=>if (!c) then some false else (sAt a i4).bind fun h=>if (h==92) then (zh i4 1).bind fun b=>if (b==(a.length:Int)) then some false else (sAt a b).bind fun g=>(zgy g).bind fun d=>if (!d) then some false else (zh b 1).bind fun i=>zbP a n i3 i else (sAt a i4).bind fun j=>if (j==40) then (zh i3 1).bind fun e=>ziB (zbP a n) a e i4 else ziB (zbP a n) a i3 i4 else some (i3==0)
def zlD (a:Str):Option Bool:=zbP a fuel 0 0
def zhW (a:Str):Nat→Int→Option Bool
 | 0,_=>none
 | n+1,i3=>if (decide (i3<(a.length:Int))) then (sAt a i3).bind fun d=>if (d==44) then some true else (sAt a i3).bind fun c=>if (c==40) then some true else (sAt a i3).bind fun e=>if (e==41) then some true else (zh i3 1).bind fun b=>zhW a n b else some false
def zml (a:Str):Option Bool:=zhW a fuel 0
def zbb (e:Str) (i5:Int) (d:z0o) (b:Bool):Option (z0o × Int):=if b then some ((⟨[],[],[],[]⟩:z0o),2) else if (i5==(e.length:Int)) then some (d,0) else (zh i5 1).bind fun i=>(zas e i).bind fun a=>if (decide ((a.length:Int)<3)) then some ((⟨[],[],[],[]⟩:z0o),2) else (sAt a 0).bind fun k=>if (!(k==40)) then some ((⟨[],[],[],[]⟩:z0o),2) else (zbh (a.length:Int) 1).bind fun f=>(sAt a f).bind fun j=>if (!(j==41)) then some ((⟨[],[],[],[]⟩:z0o),2) else (zbh (a.length:Int) 1).bind fun g=>(zlA a 1 g).bind fun l=>(zlD l).bind fun m=>if (!m) then some ((⟨[],[],[],[]⟩:z0o),2) else (zbh (a.length:Int) 1).bind fun h=>(zlA a 1 h).bind fun c=>some (({d with Comment:=c}:z0o),0)
def zhX (a:Str) (i5:Int) (v6:z0o) (d:List Str):Option (z0o × Int):=(zmk v6.By).bind fun c=>if (decide ((2:Int)<(d.length:Int))) then zbb a i5 v6 true else if ((d.length:Int)==2) then (zbi v6.Proto).bind fun f=>if (!f) then zbb a i5 v6 true else (zbi v6.Version).bind fun j=>if (!j) then zbb a i5 v6 true else if (!(c.2==0)) then (zbi v6.By).bind fun e=>zbb a i5 v6 (!e) else (zml v6.By).bind fun i=>if i then (zbi v6.By).bind fun g=>zbb a i5 v6 (!g) else zbb a i5 v6 false else (zbi v6.Version).bind fun k=>if (!k) then zbb a i5 v6 true else if (!(c.2==0)) then (zbi v6.By).bind fun l=>zbb a i5 v6 (!l) else (zml v6.By).bind fun h=>if h then (zbi v6.By).bind fun b=>zbb a i5 v6 (!b) else zbb a i5 v6 false
def zkG (f:Int→Option (z0o × Int)) (b:Str) (i4:Int) (i5:Int) (c:Bool):Option (z0o × Int):=if c then (zh i5 1).bind fun g=>f g else (sTo b i4).bind fun e=>(zh i4 1).bind fun i=>(zlA b i i5).bind fun d=>(sTo b i4).bind fun h=>(zj4 h 47).bind fun a=>if ((a.length:Int)==2) then (lAt a 0).bind fun j=>(lAt a 1).bind fun k=>zhX b i5 (⟨j,k,d,[]⟩:z0o) a else zhX b i5 (⟨[],e,d,[]⟩:z0o) a
def zeB (a:Str) (i4:Int):Nat→Int→Option (z0o × Int)
 | 0,_=>none
 | n+1,i5=>if (decide (i5<(a.length:Int))) then (sAt a i5).bind fun b=>zkG (zeB a i4 n) a i4 i5 (!(b==32)) else zkG (zeB a i4 n) a i4 i5 false
def zkH (c:Int→Option (z0o × Int)) (b:Str) (i4:Int) (a:Bool):Option (z0o × Int):=if a then (zh i4 1).bind fun e=>c e else if (i4==(b.length:Int)) then some ((⟨[],[],[],[]⟩:z0o),2) else (zh i4 1).bind fun d=>zeB b i4 fuel d
def zeC (a:Str):Nat→Int→Option (z0o × Int)
 | 0,_=>none
 | n+1,i4=>if (decide (i4<(a.length:Int))) then (sAt a i4).bind fun b=>zkH (zeC a n) a i4 (!(b==32)) else zkH (zeC a n) a i4 false
def zoz (a:Str):Option (z0o × Int):=zeC a fuel 0
def zje (c:z0o) (a:Str):Option (Str × Int):=(zoz a).bind fun b=>if (!(b.2==0)) then some ([],2) else if (!(b.1==c)) then some ([],2) else some (a,0)
def zlE (v1:z0o) (a:Str):Option (Str × Int):=if (!(v1.Comment==[])) then (zck a [32,40]).bind fun c=>(zck c v1.Comment).bind fun b=>(zck b [41]).bind fun d=>zje v1 d else zje v1 a
def zq8 (x_v:z0o):Option (Str × Int):=(zck x_v.Version [32]).bind fun c=>(zck c x_v.By).bind fun a=>if (!(x_v.Proto==[])) then (zck x_v.Proto [47]).bind fun d=>(zck d a).bind fun b=>zlE x_v b else zlE x_v a
def zhY (c:Int→Option Int) (i3:Int) (b:Str):Nat→Int→Option Int
 | 0,_=>none
 | n+1,a=>if (decide (a<(b.length:Int))) then (sAt b a).bind fun f=>if (f==44) then some 27 else (sAt b a).bind fun d=>if (d==59) then some 27 else (zh a 1).bind fun g=>zhY c i3 b n g else (zh i3 1).bind fun e=>c e
def zgb (a:List z0h):Nat→Int→Option Int
 | 0,_=>none
 | n+1,i3=>if (decide (i3<(a.length:Int))) then (lAt a i3).bind fun r1=>(lAt a i3).bind fun r2=>(zlv r1.From).bind fun e=>if (!e) then some 27 else (zjT r1.From).bind fun b=>if b then some 27 else (zlv r2.To).bind fun d=>if (!d) then some 27 else (zjT r2.To).bind fun c=>if c then some 27 else zhY (zgb a n) i3 r2.To fuel 0 else if (decide ((64:Int)<(a.length:Int))) then some 3 else some 0
def zoA (a:List z0h):Option Int:=zgb a fuel 0
def zkI (b:Int→Option Int) (i5:Int) (a:Bool):Option Int:=if a then (zh i5 1).bind fun c=>b c else some i5
def zeD (a:Str) (s1:Str):Nat→Int→Option Int
 | 0,_=>none
 | n+1,i5=>if (decide (i5<(a.length:Int))) then (sAt a i5).bind fun c=>(zga c s1).bind fun b=>zkI (zeD a s1 n) i5 (!b) else zkI (zeD a s1 n) i5 false
def zfi (a:Str) (b:Str):Option Int:=zeD a b fuel 0
def zmm (a:UInt8):Option Bool:=(zga a [97,98,99,100,101,102,103,104,105,106,107,108,109,110,111,112,113,114,115,116,117,118,119,120,121,122,65,66,67,68,69,70,71,72,73,74,75,76,77,78,79,80,81,82,83,84,85,86,87,88,89,90]).bind fun b=>some b
def zmn (a:UInt8):Option Bool:=(zga a [48,49,50,51,52,53,54,55,56,57]).bind fun b=>some b
def ze7 (b:Int→Option Bool) (i3:Int) (a:Bool):Option Bool:=if a then some false else (zh i3 1).bind fun c=>b c
def zb9 (a:Str):Nat→Int→Option Bool
 | 0,_=>none
 | n+1,i3=>if (decide (i3<(a.length:Int))) then (sAt a i3).bind fun e=>(zmm e).bind fun c=>if (!c) then if (i3==0) then ze7 (zb9 a n) i3 true else (sAt a i3).bind fun g=>(zmn g).bind fun b=>if (!b) then (sAt a i3).bind fun f=>(zga f [43,45,46]).bind fun d=>ze7 (zb9 a n) i3 (!d) else ze7 (zb9 a n) i3 false else ze7 (zb9 a n) i3 false else some (decide ((0:Int)<(a.length:Int)))
def znl (a:Str):Option Bool:=zb9 a fuel 0
def zn0 (a:UInt8):Option Bool:=(zer a).bind fun c=>if c then some true else (zny a).bind fun b=>if b then some true else if (a==58) then some true else some (a==64)
def zjU:Nat→Str→Str→Option Bool
 | 0,_,_=>none
 | n+1,b,a=>if (b==[]) then some true else (sAt b 0).bind fun k=>if (k==37) then if (decide ((2:Int)<(b.length:Int))) then (sAt b 1).bind fun q=>(ziy q).bind fun j=>if j then (sAt b 2).bind fun o=>(ziy o).bind fun i=>if i then (zas b 3).bind fun m=>(zjU n m a).bind fun l=>some l else some false else some false else some false else (sAt b 0).bind fun r=>(zn0 r).bind fun p=>if p then (zas b 1).bind fun g=>(zjU n g a).bind fun c=>some c else (sAt b 0).bind fun h=>(zga h a).bind fun d=>if d then (zas b 1).bind fun e=>(zjU n e a).bind fun f=>some f else some false
def zn1 (b:Str) (a:Str):Option Bool:=zjU fuel b a
def zkJ (v1:z0s) (a:Bool):Option Bool:=if a then some false else (zfi v1.Path [58,47]).bind fun b=>if (!(v1.Scheme==[])) then some true else if (b==(v1.Path.length:Int)) then some true else (sAt v1.Path b).bind fun c=>some (c==47)
def zoB (x_a0:z0s):Option Bool:=(zn1 x_a0.Auth [91,93]).bind fun d=>if (!d) then some false else (zfi x_a0.Auth [64]).bind fun b=>if (decide (b<(x_a0.Auth.length:Int))) then some false else (zn1 x_a0.Path [47]).bind fun g=>if (!g) then some false else (zn1 x_a0.Query [47,63]).bind fun a=>if (!a) then some false else (zn1 x_a0.Frag [47,63]).bind fun f=>if (!f) then some false else if x_a0.HasAuth then if (x_a0.Path==[]) then some true else (sAt x_a0.Path 0).bind fun c=>some (c==47) else if (decide ((1:Int)<(x_a0.Path.length:Int))) then (sTo x_a0.Path 2).bind fun e=>zkJ x_a0 (e==[47,47]) else zkJ x_a0 false
def zhZ (a:Str) (v4:z0s):Option (z0s × Int):=(zoB ({v4 with Path:=a}:z0s)).bind fun b=>if (!b) then some ((⟨[],[],[],[],[],false,false,false⟩:z0s),2) else some (({v4 with Path:=a}:z0s),0)
def zkK (a:Str) (v4:z0s) (b:Bool):Option (z0s × Int):=if b then (zas a 2).bind fun f=>(zfi f [47]).bind fun c=>(zh 2 c).bind fun h=>(zlA a 2 h).bind fun d=>(zh 2 c).bind fun g=>(zas a g).bind fun e=>zhZ e ({v4 with Auth:=d,HasAuth:=true}:z0s) else zhZ a v4
def zh0 (a:Str) (v4:z0s):Option (z0s × Int):=if (decide ((1:Int)<(a.length:Int))) then (sTo a 2).bind fun b=>zkK a v4 (b==[47,47]) else zkK a v4 false
def zh1 (b:Str) (v4:z0s) (c:Int) (a:Bool):Option (z0s × Int):=if a then (sTo b c).bind fun e=>(zh c 1).bind fun d=>(zas b d).bind fun f=>zh0 f ({v4 with Scheme:=e}:z0s) else zh0 b v4
def zh2 (a:Str) (v4:z0s):Option (z0s × Int):=(zfi a [58,47]).bind fun b=>if (decide (b<(a.length:Int))) then (sAt a b).bind fun d=>if (d==58) then (sTo a b).bind fun e=>(znl e).bind fun c=>zh1 a v4 b c else zh1 a v4 b false else zh1 a v4 b false
def zh3 (a:Str) (v4:z0s):Option (z0s × Int):=(zfi a [63]).bind fun b=>if (decide (b<(a.length:Int))) then (zh b 1).bind fun d=>(zas a d).bind fun e=>(sTo a b).bind fun c=>zh2 c ({v4 with Query:=e,HasQuery:=true}:z0s) else zh2 a v4
def zmo (a:Str):Option (z0s × Int):=(zfi a [35]).bind fun b=>if (decide (b<(a.length:Int))) then (zh b 1).bind fun d=>(zas a d).bind fun e=>(sTo a b).bind fun c=>zh3 c (⟨[],[],[],[],e,false,false,true⟩:z0s) else zh3 a (⟨[],[],[],[],[],false,false,false⟩:z0s)
def zh4 (a:List z0h):Nat→Int→Option Int
 | 0,_=>none
 | n+1,i3=>if (decide (i3<(a.length:Int))) then (lAt a i3).bind fun r1=>(zmo r1.From).bind fun c=>(lAt a i3).bind fun r3=>(zmo r3.To).bind fun b=>(lAt a i3).bind fun r5=>if (r5.From==[]) then some 2 else if (!(c.2==0)) then some 2 else if (!(b.2==0)) then some 2 else (zh i3 1).bind fun d=>zh4 a n d else if (decide ((64:Int)<(a.length:Int))) then some 3 else some 0
def zoC (a:List z0h):Option Int:=zh4 a fuel 0
def zh5 (v1:z0g) (a:Bool):Option Int:=if a then some 2 else (zoA v1.Domains).bind fun b=>if (!(b==0)) then some b else (zoC v1.Locations).bind fun c=>some c
def zkL (v1:z0g) (i4:Int) (a:Bool):Option Int:=if a then some i4 else if (!(v1.Scheme==[])) then if (!(v1.Scheme==[104,116,116,112])) then zh5 v1 (!(v1.Scheme==[104,116,116,112,115])) else zh5 v1 false else zh5 v1 false
def zoD (x_env:z0g):Option Int:=(zq8 (⟨[],[49,46,49],x_env.By,[]⟩:z0o)).bind fun b=>if (!(b.2==0)) then some b.2 else (zmk x_env.Host).bind fun a=>if (!(a.2==0)) then zkL x_env a.2 (!(x_env.Host==[])) else zkL x_env a.2 false
def zg4 (a:Str):Nat→Int→Option Bool
 | 0,_=>none
 | n+1,i3=>if (decide (i3<(a.length:Int))) then (sAt a i3).bind fun c=>(zgy c).bind fun b=>if (!b) then some false else (zh i3 1).bind fun d=>zg4 a n d else some true
def znm (a:Str):Option Bool:=zg4 a fuel 0
def zj7 (a:UInt8):Option Bool:=if (a==32) then some true else some (a==9)
def zlF (d:Str→Option Str) (a:Str) (b:Bool):Option Str:=if b then (zbh (a.length:Int) 1).bind fun e=>(sTo a e).bind fun c=>d c else some a
def zfD:Nat→Str→Option Str
 | 0,_=>none
 | n+1,a=>if (decide ((0:Int)<(a.length:Int))) then (zbh (a.length:Int) 1).bind fun c=>(sAt a c).bind fun b=>(zj7 b).bind fun d=>zlF (zfD n) a d else zlF (zfD n) a false
def zlG (c:Str→Option Str) (b:Str) (a:Bool):Option Str:=if a then (zas b 1).bind fun d=>c d else zfD fuel b
def zfE:Nat→Str→Option Str
 | 0,_=>none
 | n+1,a=>if (decide ((0:Int)<(a.length:Int))) then (sAt a 0).bind fun c=>(zj7 c).bind fun b=>zlG (zfE n) a b else zlG (zfE n) a false
def zq9 (a:Str):Option Str:=zfE fuel a
def zoE (x_f:zZU):Option Int:=(zbi x_f.Name).bind fun b=>if (!b) then some 21 else (znm x_f.Value).bind fun a=>if (!a) then some 25 else (zq9 x_f.Value).bind fun c=>if (!(c==x_f.Value)) then some 25 else some 0
def zmp (x_g:z0S):Option Bool:=if (x_g.Kind==0) then if (x_g.Name==[]) then some (x_g.Value==[]) else some false else if (x_g.Kind==3) then (zoE (⟨x_g.Name,x_g.Value⟩:zZU)).bind fun b=>some (b==0) else if (x_g.Kind==1) then (zbi x_g.Name).bind fun a=>if a then some (x_g.Value==[]) else some false else if (x_g.Kind==2) then (zbi x_g.Name).bind fun c=>if c then some (x_g.Value==[]) else some false else some false
def zfF (b:Str→Int→Option Str) (c:Str) (d:Str) (i4:Int):Nat→Str→Int→Option Str
 | 0,_,_=>none
 | n+1,e,a=>if (decide (a<26)) then (sAt [65,66,67,68,69,70,71,72,73,74,75,76,77,78,79,80,81,82,83,84,85,86,87,88,89,90] a).bind fun i=>(sAt c i4).bind fun f=>if (i==f) then (zh a 1).bind fun l=>(zlA [97,98,99,100,101,102,103,104,105,106,107,108,109,110,111,112,113,114,115,116,117,118,119,120,121,122] a l).bind fun g=>(zh a 1).bind fun k=>zfF b c d i4 n g k else (zh a 1).bind fun h=>zfF b c d i4 n e h else (zck d e).bind fun j=>(zh i4 1).bind fun m=>b j m
def zhn (a:Str):Nat→Str→Int→Option Str
 | 0,_,_=>none
 | n+1,b,i4=>if (decide (i4<(a.length:Int))) then (zh i4 1).bind fun d=>(zlA a i4 d).bind fun c=>zfF (zhn a n) a b i4 fuel c 0 else some b
def zn2 (a:Str):Option Str:=zhn a fuel [] 0
def zoF (a:Str):Option Bool:=(zn2 a).bind fun b=>if (b==[99,111,110,110,101,99,116,105,111,110]) then some true else if (b==[99,111,110,116,101,110,116,45,108,101,110,103,116,104]) then some true else if (b==[107,101,101,112,45,97,108,105,118,101]) then some true else if (b==[112,114,111,120,121,45,99,111,110,110,101,99,116,105,111,110]) then some true else if (b==[116,101]) then some true else if (b==[116,114,97,105,108,101,114]) then some true else if (b==[116,114,97,110,115,102,101,114,45,101,110,99,111,100,105,110,103]) then some true else if (b==[117,112,103,114,97,100,101]) then some true else some false
def zlw (a:Str):Option Bool:=(zn2 a).bind fun b=>if (b==[104,111,115,116]) then some true else if (b==[118,105,97]) then some true else if (b==[102,111,114,119,97,114,100,101,100]) then some true else if (b==[120,45,102,111,114,119,97,114,100,101,100,45,102,111,114]) then some true else (zoF a).bind fun c=>some c
def zoG (a:Int):Option (List Str):=if (a==1) then some ([[99,108,105,101,110,116],[104,111,115,116],[109,101,116,104,111,100],[112,97,116,104],[115,99,104,101,109,101]]) else if (a==2) then some ([[99,108,105,101,110,116],[104,111,115,116],[115,99,104,101,109,101],[115,116,97,116,117,115]]) else some []
def zgc (b:List Str→Int→Option (List Str)) (d:List zZX) (a:List Str) (i4:Int):Nat→Bool→Int→Option (List Str)
 | 0,_,_=>none
 | n+1,t5,c=>if (decide (c<(a.length:Int))) then if t5 then (zh c 1).bind fun h=>zgc b d a i4 n true h else (lAt a c).bind fun e=>(lAt d i4).bind fun r3=>(zh c 1).bind fun f=>zgc b d a i4 n (e==r3.Text) f else if (!t5) then (lAt d i4).bind fun r5=>if zf a.length ([r5.Text]:List Str).length 16 then (zh i4 1).bind fun g=>b (a++[r5.Text]) g else none else (zh i4 1).bind fun i=>b a i
def zgd (a:List zZX):Nat→List Str→Int→Option (List Str)
 | 0,_,_=>none
 | n+1,b,i4=>if (decide (i4<(a.length:Int))) then (lAt a i4).bind fun r1=>zgc (zgd a n) a b i4 fuel (!(r1.Kind==2)) 0 else some b
def zoH (a:List zZX):Option (List Str):=zgd a fuel [] 0
def zkM (i4:Int) (a:Str):Nat→Int→Option (zZX × Int)
 | 0,_=>none
 | n+1,b=>if (decide (b<(a.length:Int))) then (sAt a b).bind fun e=>(zga e [97,98,99,100,101,102,103,104,105,106,107,108,109,110,111,112,113,114,115,116,117,118,119,120,121,122]).bind fun d=>if (!d) then some ((⟨0,[]⟩:zZX),0) else (zh b 1).bind fun f=>zkM i4 a n f else (zh i4 1).bind fun c=>some ((⟨2,a⟩:zZX),c)
def znn (d:Int→Option (zZX × Int)) (c:Str) (i4:Int) (b:Bool):Option (zZX × Int):=if b then (zh i4 1).bind fun h=>d h else if (i4==(c.length:Int)) then some ((⟨0,[]⟩:zZX),0) else if (decide (i4<3)) then some ((⟨0,[]⟩:zZX),0) else (sAt c 1).bind fun e=>if (!(e==123)) then some ((⟨0,[]⟩:zZX),0) else (zlA c 2 i4).bind fun a=>(sAt a 0).bind fun f=>if (f==64) then (zas a 1).bind fun i=>(zbi i).bind fun g=>if (!g) then some ((⟨0,[]⟩:zZX),0) else (zas a 1).bind fun j=>(zh i4 1).bind fun k=>some ((⟨3,j⟩:zZX),k) else zkM i4 a fuel 0
def zgL (a:Str):Nat→Int→Option (zZX × Int)
 | 0,_=>none
 | n+1,i4=>if (decide (i4<(a.length:Int))) then (sAt a i4).bind fun b=>znn (zgL a n) a i4 (!(b==125)) else znn (zgL a n) a i4 false
def zno (b:Str) (a:Bool):Option (zZX × Int):=if a then some ((⟨1,[36]⟩:zZX),2) else zgL b fuel 0
def ztI (a:Str):Option (zZX × Int):=(sAt a 0).bind fun d=>if (!(d==36)) then (sAt a 0).bind fun c=>(zgy c).bind fun f=>if (!f) then some ((⟨0,[]⟩:zZX),0) else (sTo a 1).bind fun b=>some ((⟨1,b⟩:zZX),1) else if (decide ((1:Int)<(a.length:Int))) then (sAt a 1).bind fun e=>zno a (e==36) else zno a false
def zh6 (c:Str→List zZX→Option (List zZX × Int)) (d:Str) (a:List zZX) (v5:zZX) (b:Int) (t37:Bool):Option (List zZX × Int):=if t37 then (lAt a b).bind fun r1=>(zck r1.Text v5.Text).bind fun e=>(lAt a b).bind fun r3=>(ztp a b (⟨r3.Kind,e⟩:zZX)).bind fun f=>c d f else if zf a.length ([v5]:List zZX).length 24 then c d (a++[v5]) else none
def zdw:Nat→Str→List zZX→Option (List zZX × Int)
 | 0,_,_=>none
 | n+1,e,a=>if (!(e==[])) then (ztI e).bind fun b=>if (b.2==0) then some ([],2) else (zas e b.2).bind fun d=>(zbh (a.length:Int) 1).bind fun c=>if (b.1.Kind==1) then if (decide ((0:Int)≤c)) then (lAt a c).bind fun r4=>zh6 (zdw n) d a b.1 c (r4.Kind==1) else zh6 (zdw n) d a b.1 c false else zh6 (zdw n) d a b.1 c false else if (decide ((32:Int)<(a.length:Int))) then some ([],3) else some (a,0)
def zoI (a:Str):Option (List zZX × Int):=zdw fuel a []
def zjf (a:List zZX) (b:List zZX):Nat→Int→Option Bool
 | 0,_=>none
 | n+1,i5=>if (decide (i5<(a.length:Int))) then (lAt a i5).bind fun d=>(lAt b i5).bind fun c=>if (!(d==c)) then some false else (zh i5 1).bind fun e=>zjf a b n e else some true
def zra (b:List zZX) (a:List zZX):Option Bool:=if (!((b.length:Int)==(a.length:Int))) then some false else zjf b a fuel 0
def zlH (d:Str→Int→Option (Str × Int)) (g:List zZX) (e:Str) (i5:Int) (a:Int):Option (Str × Int):=(lAt g i5).bind fun r1=>(zh a 1).bind fun c=>(zlA r1.Text a c).bind fun h=>(zck e h).bind fun b=>(zh a 1).bind fun f=>d b f
def zfG (c:Str→Int→Option (Str × Int)) (a:List zZX) (i5:Int):Nat→Str→Int→Option (Str × Int)
 | 0,_,_=>none
 | n+1,d,b=>(lAt a i5).bind fun r1=>if (decide (b<(r1.Text.length:Int))) then (lAt a i5).bind fun r2=>(sAt r2.Text b).bind fun g=>if (g==36) then (zck d [36]).bind fun e=>zlH (zfG c a i5 n) a e i5 b else zlH (zfG c a i5 n) a d i5 b else (zh i5 1).bind fun f=>c d f
def zcu (a:List zZX):Nat→Str→Int→Option (Str × Int)
 | 0,_,_=>none
 | n+1,b,i5=>if (decide (i5<(a.length:Int))) then (lAt a i5).bind fun r1=>if (r1.Kind==1) then zfG (zcu a n) a i5 fuel b 0 else if (r1.Kind==2) then (zck b [36,123]).bind fun m=>(lAt a i5).bind fun r3=>(zck m r3.Text).bind fun k=>(zck k [125]).bind fun h=>(zh i5 1).bind fun j=>zcu a n h j else if (r1.Kind==3) then (zck b [36,123,64]).bind fun i=>(lAt a i5).bind fun r8=>(zck i r8.Text).bind fun l=>(zck l [125]).bind fun f=>(zh i5 1).bind fun d=>zcu a n f d else (zh i5 1).bind fun g=>zcu a n b g else (zoI b).bind fun c=>if (!(c.2==0)) then some ([],2) else (zra c.1 a).bind fun e=>if (!e) then some ([],2) else some (b,0)
def zrb (a:List zZX):Option (Str × Int):=zcu a fuel [] 0
def zge (b:Bool→Int→Option Int) (t3:Bool) (c:List Str) (e:List Str) (a:Int):Nat→Bool→Int→Option Int
 | 0,_,_=>none
 | n+1,f,d=>if (decide (d<(c.length:Int))) then if f then (zh d 1).bind fun j=>zge b t3 c e a n true j else (lAt c d).bind fun g=>(lAt e a).bind fun l=>(zh d 1).bind fun i=>zge b t3 c e a n (g==l) i else if t3 then (zh a 1).bind fun k=>b f k else (zh a 1).bind fun h=>b false h
def zkN (v1:zZ1) (t3:Bool) (b:Int) (a:Int) (c:Bool):Option Int:=if c then if t3 then if (v1.To==[]) then if (!(b==0)) then some 9 else some 0 else some 9 else some 9 else if (a==3) then if t3 then if (v1.To==[]) then if (!((v1.Parts.length:Int)==0)) then some 9 else some 0 else some 9 else some 9 else if (a==4) then if t3 then (zbi v1.To).bind fun e=>if e then (zlw v1.To).bind fun d=>if (!d) then if (!((v1.Parts.length:Int)==0)) then some 9 else some 0 else some 9 else some 9 else some 9 else some 9
def zgf (v1:zZ1) (d:List Str) (a:List Str):Nat→Bool→Int→Option Int
 | 0,_,_=>none
 | n+1,t3,b=>if (decide (b<(a.length:Int))) then zge (zgf v1 d a n) t3 d a b fuel false 0 else (zrb v1.Parts).bind fun c=>if (v1.Kind==1) then zkN v1 t3 c.2 v1.Kind true else zkN v1 t3 c.2 v1.Kind (v1.Kind==2)
def zb6 (v1:zZ1) (t3:Bool):Option Int:=(zoG v1.Side).bind fun b=>(zoH v1.Parts).bind fun a=>zgf v1 b a fuel t3 0
def zoJ (x_a0:zZ1):Option Int:=if (x_a0.Side==1) then (zmp x_a0.Guard).bind fun d=>if d then (zbi x_a0.Name).bind fun b=>if b then (zlw x_a0.Name).bind fun f=>zb6 x_a0 (!f) else zb6 x_a0 false else zb6 x_a0 false else if (x_a0.Side==2) then (zmp x_a0.Guard).bind fun a=>if a then (zbi x_a0.Name).bind fun e=>if e then (zlw x_a0.Name).bind fun c=>zb6 x_a0 (!c) else zb6 x_a0 false else zb6 x_a0 false else zb6 x_a0 false
def zh7 (a:List zZ1):Nat→Int→Option (Int × Int)
 | 0,_=>none
 | n+1,i4=>if (decide (i4<(a.length:Int))) then (lAt a i4).bind fun c=>(zoJ c).bind fun b=>if (!(b==0)) then some (i4,9) else (zh i4 1).bind fun d=>zh7 a n d else if (decide ((64:Int)<(a.length:Int))) then some (0,3) else some (0,0)
def zoK (a:List zZ1):Option (Int × Int):=zh7 a fuel 0
def zoL (x_s:ref44_Setup):Option Int:=(zoD x_s.Env).bind fun a=>if (!(a==0)) then some a else if (decide (x_s.Caps.Head<1)) then some 1 else if (decide ((65536:Int)<x_s.Caps.Head)) then some 1 else if (decide (x_s.Caps.Chunk<1)) then some 1 else if (decide ((65536:Int)<x_s.Caps.Chunk)) then some 1 else if (decide (x_s.Caps.Queue<1)) then some 1 else if (decide ((64:Int)<x_s.Caps.Queue)) then some 1 else (zoK x_s.Rules).bind fun b=>some b.2
def zh8 (i3:Int) (t20:Bool):Option Int:=if t20 then some 3 else some i3
def zgz (x_s:z0q):Option Int:=(zox x_s).bind fun b=>(zoL b).bind fun a=>if (a==0) then if (decide ((1048576:Int)<(x_s.Client.length:Int))) then zh8 a true else zh8 a (decide ((1048576:Int)<(x_s.Upstream.length:Int))) else zh8 a false
def ztj (l:List zZ2):Option (List zZ2):=if zf 0 l.length 16 then some l else none
def zqj (a:z0q) (b:List zZ2):Option z0q:=(ztj b).bind fun c=>some ({a with Events:=c}:z0q)
def zaN (a:Str) (b:List Str):Option Str:=(strings_Join b a).bind fun c=>some c
def zg5 (a:Str):Option zZ6:=some (⟨a,0⟩:zZ6)
def zcm (a:UInt8):Option UInt8:=if (decide (65≤a)) then if (decide (a≤90)) then some (a+32) else some a else some a
def zej (a:UInt8):Option Bool:=(zcm a).bind fun c=>if (decide (97≤c)) then (zcm a).bind fun b=>some (decide (b≤122)) else some false
def zbM (a:UInt8):Option Bool:=if (decide (48≤a)) then some (decide (a≤57)) else some false
def zqk (a:UInt8) (b:Str):Option Bool:=(strings_IndexByte b a).bind fun c=>some (decide ((0:Int)≤c))
def zho (a:UInt8):Option Bool:=(zej a).bind fun c=>if c then some true else (zbM a).bind fun b=>if b then some true else (zqk a [33,35,36,37,38,39,42,43,45,46,94,95,96,124,126]).bind fun d=>some d
def zcW (a:zZ6):Option Int:=some a.z0A
def zbf (a:zZ6):Option Str:=(zas a.z03 a.z0A).bind fun b=>some b
def zbc (a:zZ6):Option Bool:=(zbf a).bind fun b=>some (b==[])
def zbg (a:zZ6):Option (UInt8 × Bool):=(zbc a).bind fun c=>if c then some (0,false) else (sAt a.z03 a.z0A).bind fun b=>some (b,true)
def zcn (b:(UInt8→Option Bool)) (i5:Int):Nat→zZ6→Option (Str × zZ6)
 | 0,_=>none
 | n+1,a=>(zbg a).bind fun c=>if (!c.2) then (zlA a.z03 i5 a.z0A).bind fun e=>some (e,a) else (b c.1).bind fun g=>if (!g) then (zlA a.z03 i5 a.z0A).bind fun d=>some (d,a) else (zh a.z0A 1).bind fun f=>zcn b i5 n (⟨a.z03,f⟩:zZ6)
def zak (a:zZ6) (b:(UInt8→Option Bool)):Option (Str × zZ6):=(zcW a).bind fun c=>zcn b c fuel a
def zau (a:zZ6):Option (Str × Bool × zZ6):=(zak a zho).bind fun b=>some (b.1, !(b.1==[]),b.2)
def zl (a:zZ6) (b:UInt8):Option (Bool × zZ6):=(zbg a).bind fun c=>if (!c.2) then some (false,a) else if (!(c.1==b)) then some (false,a) else (zh a.z0A 1).bind fun d=>some (true,(⟨a.z03,d⟩:zZ6))
def zdk (b:z0o) (a:zZ6) (c:Bool):Option (Bool × z0o × zZ6):=some (c,b,a)
def zdl (vp1:z0o) (v2:z02) (c:Str) (d:Bool) (b:Bool):Option (Bool × z0o × zZ6):=if b then (zau v2.Scanner).bind fun a=>zdk (⟨c,a.1,vp1.By,vp1.Comment⟩:z0o) a.2.2 a.2.1 else zdk vp1 v2.Scanner d
def zeT (x_r:z02) (b:z0o):Option (Bool × z0o × zZ6):=(zau x_r.Scanner).bind fun a=>if a.2.1 then (zl a.2.2 47).bind fun c=>zdl ({b with Version:=a.1}:z0o) (⟨c.2⟩:z02) a.1 a.2.1 c.1 else zdl ({b with Version:=a.1}:z0o) (⟨a.2.2⟩:z02) a.1 a.2.1 false
def zg6 (a:UInt8):Option Bool:=some (!(a==32))
def zkO (d:Int→Option Bool) (e:(UInt8→Option Bool)) (f:Str) (b:Int) (c:Int):Nat→Int→Option Bool
 | 0,_=>none
 | n+1,a=>if (decide (a<c)) then (sAt f a).bind fun i=>(e i).bind fun g=>if (!g) then some false else (zh a 1).bind fun j=>zkO d e f b c n j else (zh b 1).bind fun h=>d h
def ziC (c:(UInt8→Option Bool)) (b:List Str) (i9:Int):Nat→Int→Option Bool
 | 0,_=>none
 | n+1,a=>if (decide (a<i9)) then (lAt b a).bind fun d=>zkO (ziC c b i9 n) c d a (d.length:Int) fuel 0 else some true
def zco (a:(UInt8→Option Bool)) (b:List Str):Option Bool:=ziC a b (b.length:Int) fuel 0
def zlI (a:UInt8):Option Int:=(zbM a).bind fun c=>if c then some ((a-48).toNat:Int) else (zcm a).bind fun b=>(zh ((b-97).toNat:Int) 10).bind fun d=>some d
def zg7 (f:Str) (e:Int) (i2:Int) (c:Int):Nat→Int→Int→Option (Int × Int)
 | 0,_,_=>none
 | n+1,b,a=>if (decide (a<c)) then (sAt f a).bind fun i=>(zlI i).bind fun d=>if (decide (i2<d)) then some (0,7) else (zbh i2 d).bind fun l=>(zFV l e).bind fun g=>if (decide (g<b)) then some (0,7) else (zJ6 b e).bind fun k=>(zh k d).bind fun h=>(zh a 1).bind fun j=>zg7 f e i2 c n h j else some (b,0)
def zkP (c:Str) (b:Int) (a:Int) (d:(UInt8→Option Bool)):Option (Int × Int):=if (c==[]) then some (0,2) else (zco d [c]).bind fun e=>if (!e) then some (0,2) else zg7 c b a (c.length:Int) fuel 0 0
def zdS (b:Str) (a:Int):Option (Int × Int):=(zkP b 10 a zbM).bind fun c=>some (c.1,c.2)
def zkQ (b:Int) (a:Int):Option Str:=if (decide (b<0)) then some [] else (zcM b a).bind fun c=>some c
def zdm (a:Int):Option Str:=(zkQ a 10).bind fun b=>some b
def zb7 (b:Str) (a:Int):Option Bool:=(zdS b a).bind fun c=>if (c.2==0) then (zdm c.1).bind fun d=>some (d==b) else some false
def zbN (s:Str):Option Bool:=if s.length<1000000000 then ((zx 46 s).mapM (fun x=>zb7 x 255)).bind fun bs=>some (bs.all id&&decide ((bs.length:Int)=4)) else none
def zek (a:UInt8):Option Bool:=(zbM a).bind fun c=>if c then some true else (zcm a).bind fun b=>if (decide (97≤b)) then (zcm a).bind fun d=>some (decide (d≤102)) else some false
def zeE (c:Int→Int→Option Int) (e:Int) (b:Int) (a:Bool):Option Int:=if a then (zh e 1).bind fun f=>(zh b 1).bind fun d=>c f d else some (-1)
def zeF (b:Int→Int→Option Int) (c:Int) (d:Str) (a:Int) (t20:Bool):Option Int:=if t20 then (zh c 2).bind fun f=>(zh a 1).bind fun e=>b f e else if (decide ((1:Int)≤(d.length:Int))) then if (decide ((d.length:Int)≤4)) then (zco zek [d]).bind fun g=>zeE b c a g else zeE b c a false else zeE b c a false
def zbl (f:Bool) (c:List Str) (b:Int):Nat→Int→Int→Option Int
 | 0,_,_=>none
 | n+1,d,a=>if (decide (a<b)) then (lAt c a).bind fun e=>if f then (zbh (c.length:Int) 1).bind fun g=>if (a==g) then (zbN e).bind fun h=>zeF (zbl f c b n) d e a h else zeF (zbl f c b n) d e a false else zeF (zbl f c b n) d e a false else some d
def ze8 (b:Str) (a:Bool):Option Int:=if (b==[]) then some 0 else (strings_Split b [58]).bind fun c=>zbl a c (c.length:Int) fuel 0 0
def ziD (a:Str):Option Bool:=(strings_Cut a [58,58]).bind fun b=>if (!b.2.2) then (ze8 a true).bind fun e=>some (e==8) else (ze8 b.1 false).bind fun d=>(ze8 b.2.1 true).bind fun c=>if (decide ((0:Int)≤d)) then if (decide ((0:Int)≤c)) then (zh d c).bind fun f=>some (decide (f≤7)) else some false else some false
def ziE (a:Str):Option Bool:=if (decide ((3:Int)≤(a.length:Int))) then (sAt a 0).bind fun c=>if (c==37) then (zlA a 1 3).bind fun b=>(zco zek [b]).bind fun d=>some d else some false else some false
def zdb (a:UInt8):Option Bool:=(zej a).bind fun c=>if c then some true else (zbM a).bind fun b=>if b then some true else (zqk a [45,46,95,126]).bind fun d=>some d
def zj8 (a:UInt8):Option Bool:=(zqk a [33,36,38,39,40,41,42,43,44,59,61]).bind fun b=>some b
def zdc:Nat→Str→Option Bool
 | 0,_=>none
 | n+1,a=>if (!(a==[])) then (ziE a).bind fun e=>if e then (zas a 3).bind fun d=>zdc n d else (sAt a 0).bind fun g=>(zdb g).bind fun c=>if c then (zas a 1).bind fun f=>zdc n f else (sAt a 0).bind fun b=>(zj8 b).bind fun h=>if h then (zas a 1).bind fun i=>zdc n i else some false else some true
def zfH (a:Str):Option Bool:=if (a==[]) then some false else zdc fuel a
def zgg (a:Str) (v4:z0G) (f:Bool):Option (z0G × Bool):=if f then (zbh (a.length:Int) 1).bind fun d=>(zlA a 1 d).bind fun c=>some ((⟨3,c,v4.Port⟩:z0G), !((3:Int)==0)) else (zbN a).bind fun e=>if e then some (({v4 with Kind:=2}:z0G), !((2:Int)==0)) else (zfH a).bind fun b=>if b then some (({v4 with Kind:=1}:z0G), !((1:Int)==0)) else some (v4, !(v4.Kind==0))
def zmq (a:Str):Option (z0G × Bool):=if (decide ((2:Int)<(a.length:Int))) then (sAt a 0).bind fun e=>if (e==91) then (zbh (a.length:Int) 1).bind fun c=>(sAt a c).bind fun g=>if (g==93) then (zbh (a.length:Int) 1).bind fun b=>(zlA a 1 b).bind fun f=>(ziD f).bind fun d=>zgg a (⟨0,a,(-1)⟩:z0G) d else zgg a (⟨0,a,(-1)⟩:z0G) false else zgg a (⟨0,a,(-1)⟩:z0G) false else zgg a (⟨0,a,(-1)⟩:z0G) false
def zbd (b:Str) (a:UInt8):Nat→Int→Option Int
 | 0,_=>none
 | n+1,i5=>if (decide ((0:Int)≤i5)) then (sAt b i5).bind fun d=>if (d==a) then some i5 else (zbh i5 1).bind fun c=>zbd b a n c else some (-1)
def zbv (a:Str) (b:UInt8):Option Int:=(zbh (a.length:Int) 1).bind fun c=>zbd a b fuel c
def zc2 (b:Str) (a:UInt8):Option Int:=(zbv b a).bind fun c=>some c
def zcy (a:Str):Option (z0G × Int):=(zmq a).bind fun e=>if e.2 then some (e.1,0) else (zc2 a 58).bind fun b=>if (decide (b<0)) then some ((⟨0,[],0⟩:z0G),27) else (sTo a b).bind fun i=>(zmq i).bind fun c=>if (!c.2) then some ((⟨0,[],0⟩:z0G),27) else (zh b 1).bind fun h=>(zas a h).bind fun f=>(zb7 f 65535).bind fun j=>if (!j) then some ((⟨0,[],0⟩:z0G),27) else (zh b 1).bind fun k=>(zas a k).bind fun g=>(zdS g 65535).bind fun d=>some ((⟨c.1.Kind,c.1.Name,d.1⟩:z0G),0)
def zel (a:Str):Option Bool:=if (!(a==[])) then (zco zho [a]).bind fun b=>some b else some false
def zbX (b:Str) (a:Str):Option Bool:=(zcq b a).bind fun c=>some (decide ((0:Int)≤c))
def zeG (b:z0o) (a:zZ6) (t4:Bool):Option (Bool × z0o × zZ6):=some (t4,b,a)
def zjw (x_r:z02) (b:z0o):Option (Bool × z0o × zZ6):=(zak x_r.Scanner zg6).bind fun a=>(zcy a.1).bind fun d=>(zel a.1).bind fun e=>if e then zeG ({b with By:=a.1}:z0o) a.2 true else if (d.2==0) then (zbX a.1 [44,40,41]).bind fun c=>zeG ({b with By:=a.1}:z0o) a.2 (!c) else zeG ({b with By:=a.1}:z0o) a.2 false
def zb3 (b:Str) (a:Str):Option Bool:=if (decide ((a.length:Int)≤(b.length:Int))) then (sTo b (a.length:Int)).bind fun c=>some (c==a) else some false
def zeU (b:Str) (a:Str):Option (Str × Bool):=(zb3 b a).bind fun d=>if (!d) then some (b,false) else (zas b (a.length:Int)).bind fun c=>some (c,true)
def zdH (b:Str) (a:Str):Option (Str × Bool):=(zeU b a).bind fun c=>some (c.1,c.2)
def zc3 (b:Str) (a:Str):Option Bool:=if (decide ((a.length:Int)≤(b.length:Int))) then (zbh (b.length:Int) (a.length:Int)).bind fun d=>(zas b d).bind fun c=>some (c==a) else some false
def zeV (b:Str) (a:Str):Option (Str × Bool):=(zc3 b a).bind fun d=>if (!d) then some (b,false) else (zbh (b.length:Int) (a.length:Int)).bind fun c=>(sTo b c).bind fun e=>some (e,true)
def zfj (b:Str) (a:Str):Option (Str × Bool):=(zeV b a).bind fun c=>some (c.1,c.2)
def zg8 (a:UInt8):Option Bool:=if (decide (32<a)) then some (decide (a<127)) else some false
def zhp (a:UInt8):Option Bool:=if (a==32) then some true else some (a==9)
def zbq (a:UInt8):Option Bool:=(zg8 a).bind fun c=>if c then some true else (zhp a).bind fun b=>if b then some true else some (decide (127<a))
def ze9 (a:Int→Int→Option Bool) (b:Str) (i3:Int) (i4:Int):Option Bool:=if (decide (i3<0)) then some false else if (decide ((b.length:Int)≤i4)) then some false else (zh i4 1).bind fun c=>a i3 c
def zca (a:Str):Nat→Int→Int→Option Bool
 | 0,_,_=>none
 | n+1,i3,i4=>if (decide (i4<(a.length:Int))) then (sAt a i4).bind fun b=>if (b==40) then (zh i3 1).bind fun d=>ze9 (zca a n) a d i4 else if (b==41) then (zbh i3 1).bind fun f=>ze9 (zca a n) a f i4 else if (b==92) then (zh i4 1).bind fun c=>ze9 (zca a n) a i3 c else ze9 (zca a n) a i3 i4 else if (i3==0) then (zco zbq [a]).bind fun e=>some e else some false
def znp (a:Str):Option Bool:=zca a fuel 0 0
def zbA (b:z0o) (a:zZ6) (t4:Bool):Option (Bool × z0o × zZ6):=some (t4,b,a)
def zfk (x_r:z02) (a:z0o):Option (Bool × z0o × zZ6):=(zbc x_r.Scanner).bind fun e=>if e then some (true,a,x_r.Scanner) else (zbf x_r.Scanner).bind fun d=>(zdH d [32,40]).bind fun c=>(zfj c.1 [41]).bind fun b=>if c.2 then if b.2 then if (!(b.1==[])) then (znp b.1).bind fun f=>zbA ({a with Comment:=b.1}:z0o) x_r.Scanner f else zbA ({a with Comment:=b.1}:z0o) x_r.Scanner false else zbA ({a with Comment:=b.1}:z0o) x_r.Scanner false else zbA ({a with Comment:=b.1}:z0o) x_r.Scanner false
def ztJ (c:Str):Option (z0o × Int):=(zg5 c).bind fun f=>(zeT (⟨f⟩:z02) (⟨[],[],[],[]⟩:z0o)).bind fun b=>if (!b.1) then some ((⟨[],[],[],[]⟩:z0o),2) else (zl b.2.2 32).bind fun e=>if (!e.1) then some ((⟨[],[],[],[]⟩:z0o),2) else (zjw (⟨e.2⟩:z02) b.2.1).bind fun a=>if (!a.1) then some ((⟨[],[],[],[]⟩:z0o),2) else (zfk (⟨a.2.2⟩:z02) a.2.1).bind fun d=>if (!d.1) then some ((⟨[],[],[],[]⟩:z0o),2) else some (d.2.1,0)
def zmr (d:z0o) (c:List Str):Option (Str × Int):=(zaN [] c).bind fun b=>(ztJ b).bind fun a=>if (!(a.2==0)) then some ([],2) else if (!(a.1==d)) then some ([],2) else some (b,0)
def zms (v1:z0o) (a:List Str):Option (Str × Int):=if (!(v1.Comment==[])) then if zf a.length ([[32,40],v1.Comment,[41]]:List Str).length 16 then zmr v1 (a++([[32,40],v1.Comment,[41]])) else none else zmr v1 a
def zn3 (x_v:z0o):Option (Str × Int):=if (!(x_v.Proto==[])) then if zf ([x_v.Proto,[47]]:List Str).length ([x_v.Version,[32],x_v.By]:List Str).length 16 then zms x_v (([x_v.Proto,[47]]:List Str)++([x_v.Version,[32],x_v.By])) else none else zms x_v ([x_v.Version,[32],x_v.By])
def zkR (a:Str):Option Bool:=(zfH a).bind fun c=>if c then (zbN a).bind fun b=>some (!b) else some false
def zgh (d:List z0h) (b:List z0h) (c:Int):Nat→Int→Option Int
 | 0,_=>none
 | n+1,a=>if (decide (a<c)) then (lAt b a).bind fun r1=>(zkR r1.From).bind fun e=>if (!e) then some 27 else (zkR r1.To).bind fun h=>if (!h) then some 27 else (zbX r1.To [44,59]).bind fun f=>if f then some 27 else (zh a 1).bind fun g=>zgh d b c n g else if (decide ((64:Int)<(d.length:Int))) then some 3 else some 0
def zlJ (a:List z0h):Option Int:=zgh a a (a.length:Int) fuel 0
def zg9 (a:UInt8):Option Bool:=(zej a).bind fun c=>if c then some true else (zbM a).bind fun b=>if b then some true else if (a==43) then some true else if (a==45) then some true else some (a==46)
def zlK (a:Str):Option Bool:=if (!(a==[])) then (sAt a 0).bind fun c=>(zej c).bind fun b=>if b then (zco zg9 [a]).bind fun d=>some d else some false else some false
def zbw (b:Str) (a:Str):Option Bool:=(zb3 b a).bind fun c=>some c
def zh9 (a:Str) (c:Str):Option (Str × Str):=(zcq a c).bind fun b=>if (decide ((0:Int)≤b)) then (sTo a b).bind fun d=>(zas a b).bind fun e=>some (d,e) else some (a,[])
def zjx (v3:z0s):Option z0s:=some v3
def zha (a:Str) (v3:z0s):Option z0s:=if (!(a==[])) then (zas a 1).bind fun b=>zjx ({v3 with Frag:=b,HasFrag:=true}:z0s) else zjx v3
def zhb (d:Str) (v3:z0s):Option z0s:=(zh9 d [63,35]).bind fun a=>(zbw a.2 [63]).bind fun c=>if c then (zas a.2 1).bind fun e=>(zh9 e [35]).bind fun b=>zha b.2 ({v3 with Path:=a.1,Query:=b.1,HasQuery:=true}:z0s) else zha a.2 ({v3 with Path:=a.1}:z0s)
def zhc (a:Str) (v3:z0s):Option z0s:=(zbw a [47,47]).bind fun d=>if d then (zas a 2).bind fun c=>(zh9 c [47,63,35]).bind fun b=>zhb b.2 ({v3 with Auth:=b.1,HasAuth:=true}:z0s) else zhb a v3
def zjy (b:Str) (v3:z0s) (i4:Int) (a:Bool):Option z0s:=if a then (sTo b i4).bind fun d=>(zh i4 1).bind fun c=>(zas b c).bind fun e=>zhc e ({v3 with Scheme:=d}:z0s) else zhc b v3
def znq (a:Str):Option z0s:=(strings_IndexByte a 58).bind fun b=>if (decide ((0:Int)<b)) then (sTo a b).bind fun c=>(zlK c).bind fun d=>zjy a (⟨[],[],[],[],[],false,false,false⟩:z0s) b d else zjy a (⟨[],[],[],[],[],false,false,false⟩:z0s) b false
def ziF (a:UInt8):Option Bool:=(zdb a).bind fun c=>if c then some true else (zj8 a).bind fun b=>if b then some true else (zqk a [58,64]).bind fun d=>some d
def zjz (b:Int→Option Bool) (i5:Int) (a:Bool):Option Bool:=if a then some false else (zh i5 1).bind fun c=>b c
def zcX (a:Str) (s1:Str):Nat→Int→Option Bool
 | 0,_=>none
 | n+1,i5=>if (decide (i5<(a.length:Int))) then (sAt a i5).bind fun i=>if (i==37) then (zh i5 2).bind fun f=>if (decide ((a.length:Int)≤f)) then some false else (zh i5 1).bind fun k=>(zh i5 3).bind fun e=>(zlA a k e).bind fun j=>(zco zek [j]).bind fun g=>if (!g) then some false else (zh i5 2).bind fun l=>(zh l 1).bind fun m=>zcX a s1 n m else (sAt a i5).bind fun h=>(ziF h).bind fun c=>if (!c) then (sAt a i5).bind fun b=>(strings_IndexByte s1 b).bind fun d=>zjz (zcX a s1 n) i5 (decide (d<0)) else zjz (zcX a s1 n) i5 false else some true
def zgM (b:Str) (a:Str):Option Bool:=zcX b a fuel 0
def zoM (x_r:z0s):Option Bool:=(zh9 x_r.Path [47]).bind fun e=>(zgM x_r.Auth [91,93]).bind fun b=>if (!b) then some false else (strings_Contains x_r.Auth [64]).bind fun g=>if g then some false else (zgM x_r.Path [47]).bind fun a=>if (!a) then some false else (zgM x_r.Query [47,63]).bind fun f=>if (!f) then some false else (zgM x_r.Frag [47,63]).bind fun c=>if (!c) then some false else if x_r.HasAuth then if (x_r.Path==[]) then some true else (sAt x_r.Path 0).bind fun h=>some (h==47) else (zbw x_r.Path [47,47]).bind fun i=>if i then some false else if (!(x_r.Scheme==[])) then some true else (strings_Contains e.1 [58]).bind fun d=>some (!d)
def znr (a:Str):Option (z0s × Int):=(znq a).bind fun b=>(zoM b).bind fun c=>if (!c) then some ((⟨[],[],[],[],[],false,false,false⟩:z0s),2) else some (b,0)
def zia (a:Str):Option Bool:=(znr a).bind fun b=>some (b.2==0)
def zfl (d:List z0h) (b:List z0h) (c:Int):Nat→Int→Option Int
 | 0,_=>none
 | n+1,a=>if (decide (a<c)) then (lAt b a).bind fun r1=>if (r1.From==[]) then some 2 else (zia r1.From).bind fun e=>if (!e) then some 2 else (zia r1.To).bind fun g=>if (!g) then some 2 else (zh a 1).bind fun f=>zfl d b c n f else if (decide ((64:Int)<(d.length:Int))) then some 3 else some 0
def zkS (a:List z0h):Option Int:=zfl a a (a.length:Int) fuel 0
def zib (v1:z0g) (a:Bool):Option Int:=if a then some 2 else (zlJ v1.Domains).bind fun b=>if (!(b==0)) then some b else (zkS v1.Locations).bind fun c=>some c
def zkT (v1:z0g) (b:Int) (a:Bool):Option Int:=if a then some b else if (!(v1.Scheme==[])) then if (!(v1.Scheme==[104,116,116,112])) then zib v1 (!(v1.Scheme==[104,116,116,112,115])) else zib v1 false else zib v1 false
def zj9 (x_env:z0g):Option Int:=(zn3 (⟨[],[49,46,49],x_env.By,[]⟩:z0o)).bind fun b=>if (!(b.2==0)) then some b.2 else (zcy x_env.Host).bind fun a=>if (!(a.2==0)) then zkT x_env a.2 (!(x_env.Host==[])) else zkT x_env a.2 false
def zdx (a:Int):Option (Option z0e × Int):=if (decide (a<1)) then some (none,1) else if (decide ((65536:Int)<a)) then some (none,1) else some (some (⟨a,[],false⟩:z0e),0)
def zic (a:Int):Option (Option z0a × Int):=if (decide (a<1)) then some (none,1) else if (decide ((64:Int)<a)) then some (none,1) else some (some (⟨(⟨[],a⟩:z0X),false⟩:z0a),0)
def zn4 (a:Int):Option (Option (List Str)):=if (a==1) then some (some ([[99,108,105,101,110,116],[104,111,115,116],[109,101,116,104,111,100],[112,97,116,104],[115,99,104,101,109,101]])) else if (a==2) then some (some ([[99,108,105,101,110,116],[104,111,115,116],[115,99,104,101,109,101],[115,116,97,116,117,115]])) else some none
def zfa (x_f:zZU):Option Int:=(zel x_f.Name).bind fun b=>if (!b) then some 21 else (zco zbq [x_f.Value]).bind fun a=>if (!a) then some 25 else (zcd x_f.Value [32,9]).bind fun c=>if (!(c==x_f.Value)) then some 25 else some 0
def zlL (v1:z0S) (i4:Int) (a:Bool):Option Bool:=if a then (zel v1.Name).bind fun c=>if c then some (v1.Value==[]) else some false else if (i4==3) then (zfa (⟨v1.Name,v1.Value⟩:zZU)).bind fun b=>some (b==0) else some false
def zrc (x_g:z0S):Option Bool:=if (x_g.Kind==0) then if (x_g.Name==[]) then some (x_g.Value==[]) else some false else if (x_g.Kind==1) then zlL x_g x_g.Kind true else zlL x_g x_g.Kind (x_g.Kind==2)
def ztK:Option (List Str):=some ([[99,111,110,110,101,99,116,105,111,110],[99,111,110,116,101,110,116,45,108,101,110,103,116,104],[107,101,101,112,45,97,108,105,118,101],[112,114,111,120,121,45,99,111,110,110,101,99,116,105,111,110],[116,101],[116,114,97,105,108,101,114],[116,114,97,110,115,102,101,114,45,101,110,99,111,100,105,110,103],[117,112,103,114,97,100,101]])
def zbG (s:Str):Option Str:=if s.length<4294967281 then s.mapM zcm else none
def za9 (c:List Str) (s1:Str) (b:Int):Nat→Int→Option Int
 | 0,_=>none
 | n+1,a=>if (decide (a<b)) then (lAt c a).bind fun e=>if (s1==e) then some a else (zh a 1).bind fun d=>za9 c s1 b n d else some (-1)
def zcb (a:List Str) (b:Str):Option Int:=za9 a b (a.length:Int) fuel 0
def zU (b:List Str) (a:Str):Option Bool:=(zcb b a).bind fun c=>some (decide ((0:Int)≤c))
def ztL (a:Str):Option Bool:=ztK.bind fun c=>(zbG a).bind fun b=>(zU c b).bind fun d=>some d
def ztM (a:Str):Option Bool:=(ztL a).bind fun c=>if c then some true else (zbG a).bind fun b=>(zU ([[104,111,115,116],[118,105,97],[102,111,114,119,97,114,100,101,100],[120,45,102,111,114,119,97,114,100,101,100,45,102,111,114]]) b).bind fun d=>some d
def zql (a:Str):Option Bool:=(zel a).bind fun c=>if c then (ztM a).bind fun b=>some (!b) else some false
def zlM (c:List Str→Int→Option (List Str)) (b:List Str) (v5:zZX) (d:Int) (a:Bool):Option (List Str):=if a then if zf b.length ([v5.Text]:List Str).length 16 then (zh d 1).bind fun f=>c (b++[v5.Text]) f else none else (zh d 1).bind fun e=>c b e
def zfI (d:List zZX) (c:Int):Nat→List Str→Int→Option (List Str)
 | 0,_,_=>none
 | n+1,b,a=>if (decide (a<c)) then (lAt d a).bind fun r1=>if (r1.Kind==2) then (zU b r1.Text).bind fun e=>zlM (zfI d c n) b r1 a (!e) else zlM (zfI d c n) b r1 a false else some b
def zrd (a:List zZX):Option (List Str):=zfI a (a.length:Int) fuel [] 0
def zn5 (a:UInt8):Option Bool:=if (decide (97≤a)) then some (decide (a≤122)) else some false
def zn6 (a:UInt8):Option Bool:=(zbq a).bind fun b=>if b then some (!(a==36)) else some false
def zcP (a:zZ6) (b:Str):Option (Bool × zZ6):=(zbf a).bind fun d=>(zbw d b).bind fun c=>if (!c) then some (false,a) else (zh a.z0A (b.length:Int)).bind fun e=>some (true,(⟨a.z03,e⟩:zZ6))
def zeW (vp0:z0E) (s1:Str) (i4:Int) (b:Bool):Option z0E:=if b then (zbh i4 1).bind fun a=>(lAt vp0.z0b a).bind fun r2=>(zck r2.Text s1).bind fun d=>(lAt vp0.z0b a).bind fun r4=>(ztp vp0.z0b a (⟨r4.Kind,d⟩:zZX)).bind fun c=>some (⟨vp0.Scanner,c⟩:z0E) else if zf vp0.z0b.length ([(⟨1,s1⟩:zZX)]:List zZX).length 24 then some (⟨vp0.Scanner,vp0.z0b++[(⟨1,s1⟩:zZX)]⟩:z0E) else none
def zeH (a:z0E) (b:Str):Option z0E:=if (decide ((0:Int)<(a.z0b.length:Int))) then (zbh (a.z0b.length:Int) 1).bind fun c=>(lAt a.z0b c).bind fun r2=>zeW a b (a.z0b.length:Int) (r2.Kind==1) else zeW a b (a.z0b.length:Int) false
def zd7 (a:z0E) (t2:Bool):Option (Bool × z0E):=some (t2,a)
def zd8 (vp0:z0E) (v3:zZX):Option (Bool × z0E):=if zf vp0.z0b.length ([v3]:List zZX).length 24 then if (!(v3.Text==[])) then (zl vp0.Scanner 125).bind fun a=>zd7 (⟨a.2,vp0.z0b++[v3]⟩:z0E) a.1 else zd7 (⟨vp0.Scanner,vp0.z0b++[v3]⟩:z0E) false else none
def zfP (x_r:z0E):Option (Bool × z0E):=(zl x_r.Scanner 64).bind fun a=>if a.1 then (zau a.2).bind fun b=>zd8 (⟨b.2.2,x_r.z0b⟩:z0E) (⟨3,b.1⟩:zZX) else (zak a.2 zn5).bind fun c=>zd8 (⟨c.2,x_r.z0b⟩:z0E) (⟨2,c.1⟩:zZX)
def zgN (x_r:z0E):Option (Bool × z0E):=(zcP x_r.Scanner [36,36]).bind fun a=>if a.1 then (zeH (⟨a.2,x_r.z0b⟩:z0E) [36]).bind fun e=>some (true,e) else (zcP a.2 [36,123]).bind fun c=>if c.1 then (zfP (⟨c.2,x_r.z0b⟩:z0E)).bind fun d=>some (d.1,d.2) else (zak c.2 zn6).bind fun b=>(zeH (⟨b.2,x_r.z0b⟩:z0E) b.1).bind fun f=>some (!(b.1==[]),f)
def zjg:Nat→z0E→Option (List zZX × Int)
 | 0,_=>none
 | n+1,v4=>(zbc v4.Scanner).bind fun b=>if (!b) then (zgN v4).bind fun a=>if (!a.1) then some ([],2) else zjg n a.2 else if (decide ((32:Int)<(v4.z0b.length:Int))) then some ([],3) else some (v4.z0b,0)
def zre (a:Str):Option (List zZX × Int):=(zg5 a).bind fun b=>zjg fuel (⟨b,[]⟩:z0E)
def zaP (d:List zZX) (c:List zZX) (b:Int):Nat→Int→Option Bool
 | 0,_=>none
 | n+1,a=>if (decide (a<b)) then (lAt d a).bind fun f=>(lAt c a).bind fun e=>if (!(f==e)) then some false else (zh a 1).bind fun g=>zaP d c b n g else some true
def zbx (a:List zZX) (b:List zZX):Option Bool:=if (!((a.length:Int)==(b.length:Int))) then some false else zaP a b (a.length:Int) fuel 0
def ziG (b:List Str→Int→Option (Str × Int)) (c:List Str) (a:Int):Option (Str × Int):=(zh a 1).bind fun d=>b c d
def zd9 (e:List zZX) (b:List zZX) (c:Int):Nat→List Str→Int→Option (Str × Int)
 | 0,_,_=>none
 | n+1,d,a=>if (decide (a<c)) then (lAt b a).bind fun r1=>if (r1.Kind==1) then (strings_ReplaceAll r1.Text [36] [36,36]).bind fun g=>if zf d.length ([g]:List Str).length 16 then ziG (zd9 e b c n) (d++[g]) a else none else if (r1.Kind==2) then if zf d.length ([[36,123],r1.Text,[125]]:List Str).length 16 then ziG (zd9 e b c n) (d++([[36,123],r1.Text,[125]])) a else none else if (r1.Kind==3) then if zf d.length ([[36,123,64],r1.Text,[125]]:List Str).length 16 then ziG (zd9 e b c n) (d++([[36,123,64],r1.Text,[125]])) a else none else ziG (zd9 e b c n) d a else (zaN [] d).bind fun h=>(zre h).bind fun f=>if (!(f.2==0)) then some ([],2) else (zbx f.1 e).bind fun i=>if (!i) then some ([],2) else some (h,0)
def ztN (a:List zZX):Option (Str × Int):=zd9 a a (a.length:Int) fuel [] 0
def zjh (e:List zZX) (d:List Str) (b:List Str) (c:Int):Nat→Int→Option Bool
 | 0,_=>none
 | n+1,a=>if (decide (a<c)) then (lAt b a).bind fun h=>(zU d h).bind fun f=>if (!f) then some false else (zh a 1).bind fun i=>zjh e d b c n i else (ztN e).bind fun g=>some (g.2==0)
def zlN (a:List zZX) (c:List Str):Option Bool:=(zrd a).bind fun b=>zjh a c b (b.length:Int) fuel 0
def zrf (a:Int) (b:List zZX):Option Bool:=(zn4 a).bind fun d=>optK d (zlN b []) fun c=>zlN b c
def zoN (v1:zZ1):Option Bool:=if (v1.To==[]) then (zrf v1.Side v1.Parts).bind fun a=>some a else some false
def zwR (x_r:zZ1):Option Bool:=if (x_r.Kind==1) then zoN x_r else if (x_r.Kind==2) then zoN x_r else if (x_r.Kind==3) then if (x_r.To==[]) then some ((x_r.Parts.length:Int)==0) else some false else if (x_r.Kind==4) then (zql x_r.To).bind fun a=>if a then some ((x_r.Parts.length:Int)==0) else some false else some false
def zrg (x_r:zZ1):Option Int:=(zn4 x_r.Side).bind fun c=>optK c (some 9) fun b=>(nnl b).bind fun _=>(zrc x_r.Guard).bind fun e=>if (!e) then some 9 else (zql x_r.Name).bind fun a=>if (!a) then some 9 else (zwR x_r).bind fun d=>if (!d) then some 9 else some 0
def zid (c:List zZ1) (b:List zZ1) (d:Int):Nat→Int→Option (Int × Int)
 | 0,_=>none
 | n+1,i9=>if (decide (i9<d)) then (lAt b i9).bind fun e=>(zrg e).bind fun a=>if (!(a==0)) then some (i9,a) else (zh i9 1).bind fun f=>zid c b d n f else if (decide ((64:Int)<(c.length:Int))) then some (0,3) else some (0,0)
def zie (a:List zZ1):Option (Int × Int):=zid a a (a.length:Int) fuel 0
def zif (l:List z0h):Option (List z0h):=if zf 0 l.length 32 then some l else none
def zgi (l:List zZX):Option (List zZX):=if zf 0 l.length 24 then some l else none
def zdn (i0:Int) (b:Int) (a:Bool):Option (Option zZ8 × Int):=if a then some (none,1) else some (some (⟨i0,b,[],0,false,0,false,(⟨0,[],[],0,[],0,[]⟩:zZY)⟩:zZ8),0)
def ziH (b:Int) (a:Int):Option (Option zZ8 × Int):=if (!(b==1)) then if (!(b==2)) then zdn b a true else if (decide (a<0)) then zdn b a true else zdn b a (decide ((65536:Int)<a)) else if (decide (a<0)) then zdn b a true else zdn b a (decide ((65536:Int)<a))
def zbO (b:Int) (a:Int):Option zZ3:=(ziH b a).bind fun d=>optK d.1 (some (⟨none,none,none⟩:zZ3)) fun c=>some (⟨some c,none,none⟩:zZ3)
def zcz (v4:z0Q) (c:List zZ1) (d:Int):Nat→zZR→Int→Option (Option zZR × Int)
 | 0,_,_=>none
 | n+1,a,b=>if (decide (b<d)) then (lAt c b).bind fun r1=>(zgi r1.Parts).bind fun e=>if zf a.z0C.length ([({r1 with Parts:=e}:zZ1)]:List zZ1).length 112 then (zh b 1).bind fun h=>zcz v4 c d n ({a with z0C:=a.z0C++[({r1 with Parts:=e}:zZ1)]}:zZR) h else none else (zbO 1 v4.Head).bind fun f=>(zbO 2 v4.Head).bind fun g=>some (some ({a with zZT:=f,zZS:=g}:zZR),0)
def zcA (b:List zZ1) (v3:z0g) (v4:z0Q) (c:Int) (d:Option z0a) (a:Int):Option (Option zZR × Int):=if (!(c==0)) then some (none,1) else if (!(a==0)) then some (none,1) else if (decide (v4.Head<1)) then some (none,1) else if (decide ((65536:Int)<v4.Head)) then some (none,1) else (zie b).bind fun e=>if (!(e.2==0)) then some (none,e.2) else (zif v3.Domains).bind fun f=>(zif v3.Locations).bind fun g=>zcz v4 b (b.length:Int) fuel (⟨d,({v3 with Domains:=f,Locations:=g}:z0g),v4,[],(⟨none,none,none⟩:zZ3),(⟨none,none,none⟩:zZ3),[],[],0,false,false,false,false,false,false,false⟩:zZR) 0
def zcB (c:List zZ1) (v3:z0g) (v4:z0Q) (a:Int):Option (Option zZR × Int):=(zic v4.Queue).bind fun b=>optK b.1 (zcA c v3 v4 a none b.2) fun d=>zcA c v3 v4 a (some d) b.2
def zem (a:z0g) (x_a1:z0Q) (b:List zZ1):Option (Option zZR × Int):=(zj9 a).bind fun d=>if (!(d==0)) then some (none,d) else (zdx x_a1.Chunk).bind fun c=>optK c.1 (zcB b a x_a1 c.2) fun e=>zcB b a x_a1 c.2
def zeI (x_s:z0q):Option (Option zZ0 × Int):=(zem x_s.Env x_s.Caps x_s.Rules).bind fun a=>optK a.1 (if (!(a.2==0)) then some (none,a.2) else if (decide ((1048576:Int)<(x_s.Client.length:Int))) then some (none,3) else if (decide ((1048576:Int)<(x_s.Upstream.length:Int))) then some (none,3) else none) fun b=>if (!(a.2==0)) then some (none,a.2) else if (decide ((1048576:Int)<(x_s.Client.length:Int))) then some (none,3) else if (decide ((1048576:Int)<(x_s.Upstream.length:Int))) then some (none,3) else some (some (⟨b,(⟨x_s.Client,0,x_s.ClientEnds,false,[],(),()⟩:z0M),(⟨x_s.Upstream,0,x_s.UpstreamEnds,false,[],(),()⟩:z0M),(⟨0,0⟩:z08)⟩:zZ0),0)
def zhA:Option Bool:=some true
def zfQ (a:zZ8):Option Bool:=some (!a.z1i)
def zfm (x_s:zZ3):Option Bool:=optK x_s.z00 (optK x_s.Accum (zhA.bind fun c=>some c) fun b=>(zfQ b).bind fun a=>some a) fun d=>some false
def zgO:Option Bool:=some false
def zgj (a:z0X):Option Int:=(zbh a.z0d (a.z0N.length:Int)).bind fun b=>some b
def zcp (a:z0a):Option Bool:=(zgj a.z0l).bind fun b=>some (b==0)
def zI (x_g:zZR):Option Bool:=if (!x_g.zZV) then if (!x_g.z0f) then (zfm x_g.zZT).bind fun c=>if (!c) then some true else optK x_g.Queue (zgO.bind fun d=>some (!d)) fun b=>(zcp b).bind fun a=>some (!a) else some false else some false
def zgk (a:Str):Option (Int × Bool × Int):=some (0,false,5)
def zrh (a:Int):Option Int:=if (a==0) then some 0 else if (a==3) then some 431 else some 400
def zes:Option (zZY × Bool):=some ((⟨0,[],[],0,[],0,[]⟩:zZY),false)
def zhd (l:List zZU):Option (List zZU):=if zf 0 l.length 32 then some l else none
def zfR (a:List zZU):Option z0w:=(zhd a).bind fun b=>some (⟨b⟩:z0w)
def zcc (a:z0w):Option (List zZU):=(zhd a.z0N).bind fun b=>some b
def zbY (b:Str) (a:Str):Option Bool:=(zbG b).bind fun d=>(zbG a).bind fun c=>some (d==c)
def zdI (s1:Str) (d:List zZU) (b:Int):Nat→List Str→Int→Option (List Str)
 | 0,_,_=>none
 | n+1,c,a=>if (decide (a<b)) then (lAt d a).bind fun r1=>(zbY r1.Name s1).bind fun e=>if e then if zf c.length ([r1.Value]:List Str).length 16 then (zh a 1).bind fun g=>zdI s1 d b n (c++[r1.Value]) g else none else (zh a 1).bind fun f=>zdI s1 d b n c f else some c
def zcC (b:z0w) (a:Str):Option (List Str):=(zcc b).bind fun c=>zdI a c (c.length:Int) fuel [] 0
def zfS (b:zZ6) (a:Int):Option (Bool × zZ6):=if (decide (a<0)) then some (false,b) else (zcW b).bind fun c=>if (decide (c<a)) then some (false,b) else some (true,(⟨b.z03,a⟩:zZ6))
def zdo (vp0:z0j):Option z0j:=(zcW vp0.Scanner).bind fun a=>some ({vp0 with z1a:=a}:z0j)
def zc4 (a:z0j) (b:Int):Option z0j:=(zlA a.z03 a.z1a b).bind fun d=>(zcd d [32,9]).bind fun c=>if (!(c==[])) then if zf a.z0b.length ([c]:List Str).length 16 then zdo ({a with z0b:=a.z0b++[c]}:z0j) else none else zdo a
def zaa:Nat→z0j→Int→Option (Bool × z0j)
 | 0,_,_=>none
 | n+1,vp0,i3=>if (decide ((0:Int)<i3)) then (zbg vp0.Scanner).bind fun b=>if (!b.2) then some (false,vp0) else (zl vp0.Scanner b.1).bind fun a=>if (b.1==40) then (zh i3 1).bind fun f=>zaa n ({vp0 with Scanner:=a.2}:z0j) f else if (b.1==41) then (zbh i3 1).bind fun e=>zaa n ({vp0 with Scanner:=a.2}:z0j) e else if (b.1==92) then (zbg a.2).bind fun c=>if c.2 then (zl a.2 c.1).bind fun d=>zaa n ({vp0 with Scanner:=d.2}:z0j) i3 else zaa n ({vp0 with Scanner:=a.2}:z0j) i3 else zaa n ({vp0 with Scanner:=a.2}:z0j) i3 else some (true,vp0)
def zcZ (a:z0j):Option (Bool × z0j):=zaa fuel a 1
def ziI (c:z0Z→Bool→Option (Str × Bool × zZ6)) (i4:Int) (v5:z0Z) (f:Bool) (d:Bool):Option (Str × Bool × zZ6):=if d then (zl v5.Scanner 92).bind fun b=>(zbg b.2).bind fun a=>if (!a.2) then c (⟨b.2,v5.z0b⟩:z0Z) false else (zbq a.1).bind fun h=>if (!h) then c (⟨b.2,v5.z0b⟩:z0Z) false else if zf v5.z0b.length ([a.1]:List UInt8).length 1 then (zl b.2 a.1).bind fun e=>c (⟨e.2,v5.z0b++[a.1]⟩:z0Z) e.1 else none else if (!f) then (zfS v5.Scanner i4).bind fun g=>some ([],false,g.2) else some (v5.z0b,true,v5.Scanner)
def zdd (i4:Int):Nat→z0Z→Bool→Option (Str × Bool × zZ6)
 | 0,_,_=>none
 | n+1,v5,a=>if a then (zl v5.Scanner 34).bind fun b=>ziI (zdd i4 n) i4 (⟨b.2,v5.z0b⟩:z0Z) a (!b.1) else ziI (zdd i4 n) i4 v5 a false
def zji (a:zZ6):Option (Str × Bool × zZ6):=(zcW a).bind fun c=>(zl a 34).bind fun b=>zdd c fuel (⟨b.2,[]⟩:z0Z) b.1
def zea (x_p:z0j):Option (Bool × z0j):=(zcW x_p.Scanner).bind fun f=>(zl x_p.Scanner 44).bind fun b=>if b.1 then (zc4 ({x_p with Scanner:=b.2}:z0j) f).bind fun g=>some (true,g) else (zl b.2 40).bind fun a=>if a.1 then (zcZ ({x_p with Scanner:=a.2}:z0j)).bind fun d=>some (d.1,d.2) else (zbg a.2).bind fun c=>if (c.1==34) then (zji a.2).bind fun e=>some (e.2.1,({x_p with Scanner:=e.2.2}:z0j)) else (zl a.2 c.1).bind fun h=>some (true,({x_p with Scanner:=h.2}:z0j))
def zhe (b:Str):Nat→z0j→Option (List Str × Int)
 | 0,_=>none
 | n+1,v4=>(zbc v4.Scanner).bind fun c=>if (!c) then (zea v4).bind fun a=>if (!a.1) then some ([],2) else zhe b n a.2 else (zc4 v4 (b.length:Int)).bind fun d=>some (d.z0b,0)
def zkU (a:Str):Option (List Str × Int):=(zg5 a).bind fun b=>zhe a fuel (⟨b,[],0,a⟩:z0j)
def zgl (f:List Str→Int→Option (List Str × Int)) (e:List Str) (d:List Str) (b:Int) (c:Int):Nat→Int→Option (List Str × Int)
 | 0,_=>none
 | n+1,a=>if (decide (a<c)) then (lAt d a).bind fun i=>(zel i).bind fun g=>if (!g) then some ([],2) else (zh a 1).bind fun j=>zgl f e d b c n j else if zf e.length d.length 16 then (zh b 1).bind fun h=>f (e++d) h else none
def zet (b:List Str) (c:Int):Nat→List Str→Int→Option (List Str × Int)
 | 0,_,_=>none
 | n+1,e,a=>if (decide (a<c)) then (lAt b a).bind fun f=>(zkU f).bind fun d=>if (!(d.2==0)) then some ([],d.2) else zgl (zet b c n) e d.1 a (d.1.length:Int) fuel 0 else some (e,0)
def zhq (a:List Str):Option (List Str × Int):=zet a (a.length:Int) fuel [] 0
def zdy (x_r:z04) (b:List Str):Option (zZ4 × Int × z0w):=(zhq b).bind fun a=>if (!(a.2==0)) then some ((⟨0,0⟩:zZ4),30,x_r.Bag) else if (x_r.z1q==0) then some ((⟨0,0⟩:zZ4),30,x_r.Bag) else if (!((a.1.length:Int)==1)) then some ((⟨0,0⟩:zZ4),30,x_r.Bag) else (lAt a.1 0).bind fun c=>(zbY c [99,104,117,110,107,101,100]).bind fun d=>if (!d) then some ((⟨0,0⟩:zZ4),30,x_r.Bag) else some ((⟨3,0⟩:zZ4),0,x_r.Bag)
def zbr (e:Int→Int→Option (zZ4 × Int × z0w)) (a:z0w) (d:Int) (b:Int) (c:Bool):Option (zZ4 × Int × z0w):=if c then some ((⟨0,0⟩:zZ4),28,a) else (zh b 1).bind fun f=>e d f
def zai (g:Int→Int→Option (zZ4 × Int × z0w)) (a:z0w) (d:Int) (c:List Str) (e:Int):Nat→Int→Int→Option (zZ4 × Int × z0w)
 | 0,_,_=>none
 | n+1,h,b=>if (decide (b<e)) then (lAt c b).bind fun i=>(zdS i 1099511627776).bind fun f=>if (!(f.2==0)) then zbr (zai g a d c e n) a f.1 b true else if (decide ((0:Int)≤h)) then zbr (zai g a d c e n) a f.1 b (!(f.1==h)) else zbr (zai g a d c e n) a f.1 b false else (zh d 1).bind fun j=>g h j
def zaQ (a:z0w) (c:List Str) (d:Int):Nat→Int→Int→Option (zZ4 × Int × z0w)
 | 0,_,_=>none
 | n+1,f,b=>if (decide (b<d)) then (lAt c b).bind fun g=>(zkU g).bind fun e=>if (!(e.2==0)) then some ((⟨0,0⟩:zZ4),28,a) else zai (zaQ a c d n) a b e.1 (e.1.length:Int) fuel f 0 else if (decide (f<0)) then some ((⟨0,0⟩:zZ4),28,a) else some ((⟨2,f⟩:zZ4),0,a)
def zeX (x_r:z04) (a:List Str):Option (zZ4 × Int × z0w):=zaQ x_r.Bag a (a.length:Int) fuel (-1) 0
def zkV (g:Int) (c:z04) (f:List Str) (d:List Str) (a:Bool):Option (zZ4 × Int):=if a then some ((⟨0,0⟩:zZ4),29) else if (decide ((0:Int)<(f.length:Int))) then (zdy c f).bind fun e=>some (e.1,e.2.1) else if (decide ((0:Int)<(d.length:Int))) then (zeX c d).bind fun b=>some (b.1,b.2.1) else some ((⟨g,0⟩:zZ4),0)
def znz (x_h:zZY) (a:Int):Option (zZ4 × Int):=(zfR x_h.Fields).bind fun b=>(zcC b [84,114,97,110,115,102,101,114,45,69,110,99,111,100,105,110,103]).bind fun c=>(zcC b [67,111,110,116,101,110,116,45,76,101,110,103,116,104]).bind fun d=>if (decide ((0:Int)<(c.length:Int))) then zkV a (⟨b,x_h.Minor⟩:z04) c d (decide ((0:Int)<(d.length:Int))) else zkV a (⟨b,x_h.Minor⟩:z04) c d false
def zeJ (a:zZY):Option (zZ4 × Int):=(znz a 1).bind fun b=>some (b.1,b.2)
def ziJ (e:List Str→Int→Option (List Str)) (c:List Str) (d:Str) (a:Int) (b:Bool):Option (List Str):=if b then if zf c.length ([d]:List Str).length 16 then (zh a 1).bind fun g=>e (c++[d]) g else none else (zh a 1).bind fun f=>e c f
def zde (g:List Str→Int→Option (List Str)) (c:Int) (d:List Str) (b:Int):Nat→List Str→Int→Option (List Str)
 | 0,_,_=>none
 | n+1,f,a=>if (decide (a<b)) then (lAt d a).bind fun i=>(zbG i).bind fun e=>if (!(e==[104,111,115,116])) then (zU f e).bind fun j=>ziJ (zde g c d b n) f e a (!j) else ziJ (zde g c d b n) f e a false else (zh c 1).bind fun h=>g f h
def zdf (b:List Str) (c:Int):Nat→List Str→Int→Option (List Str)
 | 0,_,_=>none
 | n+1,e,a=>if (decide (a<c)) then (lAt b a).bind fun f=>(zhq [f]).bind fun d=>zde (zdf b c n) a d.1 (d.1.length:Int) fuel e 0 else some e
def zlO (a:List zZU):Option (List Str):=(zfR a).bind fun c=>(zcC c [67,111,110,110,101,99,116,105,111,110]).bind fun b=>zdf b (b.length:Int) fuel [] 0
def znA (b:Str) (a:Str):Option Bool:=(zbY b a).bind fun c=>some c
def z7 (d:List Str) (c:Str) (b:Int):Nat→Int→Option Int
 | 0,_=>none
 | n+1,a=>if (decide (a<b)) then (lAt d a).bind fun f=>(znA f c).bind fun e=>if e then some a else (zh a 1).bind fun g=>z7 d c b n g else some (-1)
def za5 (a:List Str) (b:Str):Option Int:=z7 a b (a.length:Int) fuel 0
def zaR (b:List Str) (a:Str):Option Bool:=(za5 b a).bind fun c=>some (decide ((0:Int)≤c))
def zwS (b:Str) (a:List Str):Option Bool:=(zaR a b).bind fun c=>some c
def zdg (x_f:zZU) (a:List Str):Option Bool:=(zwS x_f.Name a).bind fun b=>some b
def zJ (d:List zZU) (c:List Str) (b:Int):Nat→Int→Option Int
 | 0,_=>none
 | n+1,a=>if (decide (a<b)) then (lAt d a).bind fun f=>(zdg f c).bind fun e=>if e then some a else (zh a 1).bind fun g=>zJ d c b n g else some (-1)
def zav (a:List zZU) (b:List Str):Option Int:=zJ a b (a.length:Int) fuel 0
def zE (c:List Str):Nat→List zZU→Int→Int→Option (List zZU)
 | 0,_,_,_=>none
 | n+1,a,i5,b=>if (decide (b<(a.length:Int))) then (lAt a b).bind fun d=>(zdg d c).bind fun g=>if (!g) then (lAt a i5).bind fun l=>(ztp a i5 d).bind fun f=>(zh i5 1).bind fun j=>(zh b 1).bind fun h=>zE c n f j h else (zh b 1).bind fun k=>zE c n a i5 k else (zof a i5).bind fun e=>(lTo (a.take i5.toNat++(List.replicate e.length (⟨[],[]⟩:zZU)++a.drop (i5.toNat+e.length))) i5).bind fun i=>some i
def zZ (b:List zZU) (a:List Str):Option (List zZU):=(zav b a).bind fun c=>if (c==(-1)) then some b else (zh c 1).bind fun d=>zE a fuel b c d
def zdh (b:z0w) (a:List Str):Option (Int × z0w):=(zZ b.z0N a).bind fun c=>(zbh (b.z0N.length:Int) (c.length:Int)).bind fun d=>some (d,(⟨c⟩:z0w))
def ztO (a:List zZU):Option (List zZU):=(zfR a).bind fun e=>(zlO a).bind fun b=>ztK.bind fun c=>if zf b.length c.length 16 then (zdh e (b++c)).bind fun d=>(zcc d.2).bind fun f=>some f else none
def zmt (b:Int→Option Bool) (i5:Int) (a:Bool):Option Bool:=if a then (zh i5 2).bind fun d=>(zh d 1).bind fun c=>b c else some false
def zen (a:Str) (s1:Str):Nat→Int→Option Bool
 | 0,_=>none
 | n+1,i5=>if (decide (i5<(a.length:Int))) then (sAt a i5).bind fun i=>(ziF i).bind fun f=>if f then (zh i5 1).bind fun k=>zen a s1 n k else (sAt a i5).bind fun e=>(strings_IndexByte s1 e).bind fun j=>if (decide ((0:Int)≤j)) then (zh i5 1).bind fun g=>zen a s1 n g else (sAt a i5).bind fun l=>if (l==37) then (zh i5 2).bind fun m=>if (decide (m<(a.length:Int))) then (zh i5 1).bind fun h=>(zh i5 3).bind fun c=>(zlA a h c).bind fun b=>(zco zek [b]).bind fun d=>zmt (zen a s1 n) i5 d else zmt (zen a s1 n) i5 false else zmt (zen a s1 n) i5 false else some true
def ztk (b:Str) (a:Str):Option Bool:=zen b a fuel 0
def zri (a:Str):Option Bool:=(zbw a [47]).bind fun c=>if c then (ztk a [47]).bind fun b=>some b else some false
def zoO (a:Str):Option Bool:=(ztk a [47,63]).bind fun b=>some b
def zqm (b:Str):Option (Str × Str × Bool × Int):=(strings_Cut b [63]).bind fun a=>(zri a.1).bind fun c=>if (!c) then some ([],[],false,2) else (zoO a.2.1).bind fun d=>if (!d) then some ([],[],false,2) else some (a.1,a.2.1,a.2.2,0)
def zkW (v2:z0F) (a:Int):Option (z0F × Bool):=some (v2,a==0)
def zkX (s1:Str) (v2:z0F) (b:Bool):Option (z0F × Bool):=(zqm s1).bind fun a=>if b then zkW (⟨v2.Kind,v2.Scheme,v2.Host,[],a.2.1,a.2.2.1⟩:z0F) a.2.2.2 else zkW (⟨v2.Kind,v2.Scheme,v2.Host,a.1,a.2.1,a.2.2.1⟩:z0F) a.2.2.2
def zmu (b:z0F) (a:Str):Option (z0F × Bool):=if (a==[]) then some (b,true) else (sAt a 0).bind fun c=>if (c==63) then (zck [47] a).bind fun d=>zkX d b (c==63) else zkX a b (c==63)
def zgP (d:Str) (c:z0F) (e:Int):Option (z0F × Bool):=(sTo d e).bind fun g=>(zcy g).bind fun b=>if (!(b.2==0)) then some (c,false) else (zas d e).bind fun f=>(zmu ({c with Host:=b.1}:z0F) f).bind fun a=>some (a.1,a.2)
def zeK (a:Str) (b:z0F) (c:Bool):Option (z0F × Bool):=if c then some (b,false) else (zcq a [47,63]).bind fun d=>if (decide (d<0)) then zgP a b (a.length:Int) else zgP a b d
def zjA (c:Str):Option (z0F × Bool):=(strings_Cut c [58,47,47]).bind fun b=>(zbG b.1).bind fun a=>if (!b.2.2) then zeK b.2.1 (⟨2,a,(⟨0,[],0⟩:z0G),[],[],false⟩:z0F) true else if (!(a==[104,116,116,112])) then zeK b.2.1 (⟨2,a,(⟨0,[],0⟩:z0G),[],[],false⟩:z0F) (!(a==[104,116,116,112,115])) else zeK b.2.1 (⟨2,a,(⟨0,[],0⟩:z0G),[],[],false⟩:z0F) false
def ztP (a:Str) (b:Str):Option (z0F × Bool):=if (b==[42]) then some ((⟨4,[],(⟨0,[],0⟩:z0G),[],[],false⟩:z0F),a==[79,80,84,73,79,78,83]) else (zbw b [47]).bind fun e=>if (!e) then (zjA b).bind fun c=>some (c.1,c.2) else (zmu (⟨1,[],(⟨0,[],0⟩:z0G),[],[],false⟩:z0F) b).bind fun d=>some (d.1,d.2)
def zjB (b:z0G) (a:Bool):Option (z0F × Int):=if a then some ((⟨0,[],(⟨0,[],0⟩:z0G),[],[],false⟩:z0F),20) else some ((⟨3,[],b,[],[],false⟩:z0F),0)
def zkY (a:Str) (b:Str):Option (z0F × Int):=if (a==[67,79,78,78,69,67,84]) then (zcy b).bind fun c=>if (!(c.2==0)) then zjB c.1 true else zjB c.1 (decide (c.1.Port<0)) else (ztP a b).bind fun d=>if (!d.2) then some ((⟨0,[],(⟨0,[],0⟩:z0G),[],[],false⟩:z0F),20) else some (d.1,0)
def zrj (a:Str) (b:Str) (c:Bool):Option Str:=if (!c) then some a else (zck a [63]).bind fun e=>(zck e b).bind fun d=>some d
def ziK (v1:z0F) (b:Str):Option Str:=(zrj b v1.Query v1.HasQuery).bind fun a=>some a
def zlP (x_t:z0F):Option Str:=if (x_t.Kind==4) then some [42] else if (x_t.Kind==3) then some [] else if (x_t.Path==[]) then ziK x_t [47] else ziK x_t x_t.Path
def ziL (d:z0G) (c:List Str):Option (Str × Int):=(zaN [] c).bind fun b=>(zcy b).bind fun a=>if (!(a.2==0)) then some ([],27) else if (!(a.1==d)) then some ([],27) else some (b,0)
def ziM (v1:z0G) (a:List Str):Option (Str × Int):=if (!(v1.Port==(-1))) then (zdm v1.Port).bind fun b=>if zf a.length ([[58],b]:List Str).length 16 then ziL v1 (a++([[58],b])) else none else ziL v1 a
def zlQ (x_h:z0G):Option (Str × Int):=if (x_h.Kind==3) then ziM x_h ([[91],x_h.Name,[93]]) else ziM x_h [x_h.Name]
def zhr (x_x:zZU) (a:Str):Option Bool:=(zbY x_x.Name a).bind fun b=>some b
def zF (d:List zZU) (c:Str) (b:Int):Nat→Int→Option Int
 | 0,_=>none
 | n+1,a=>if (decide (a<b)) then (lAt d a).bind fun f=>(zhr f c).bind fun e=>if e then some a else (zh a 1).bind fun g=>zF d c b n g else some (-1)
def zaq (a:List zZU) (b:Str):Option Int:=zF a b (a.length:Int) fuel 0
def zka (b:z0w) (a:Str):Option (Str × Bool):=(zcC b a).bind fun c=>if ((c.length:Int)==0) then some ([],false) else (lAt c 0).bind fun d=>some (d,true)
def zfJ (a:z0w) (b:List zZU):Option z0w:=if zf a.z0N.length b.length 32 then some (⟨a.z0N++b⟩:z0w) else none
def zjj (c:z0w) (a:Str) (b:Str):Option z0w:=(zaq c.z0N a).bind fun d=>if (decide (d<0)) then (zfJ c [(⟨a,b⟩:zZU)]).bind fun f=>some f else (zdh c [a]).bind fun g=>(zcN g.2.z0N d [(⟨a,b⟩:zZU)]).bind fun e=>some (⟨e⟩:z0w)
def zeb (vp0:z0T) (v4:z0g):Option z0T:=(zka vp0.Bag [72,111,115,116]).bind fun b=>if (!b.2) then (zfJ vp0.Bag ([(⟨[72,111,115,116],v4.Host⟩:zZU)])).bind fun a=>some (⟨a,vp0.z1n⟩:z0T) else some vp0
def zfT (x_w:z0T) (a:z0g) (x_t:z0F):Option z0T:=if (x_t.Kind==2) then (zlQ x_t.Host).bind fun c=>(zjj x_w.Bag [72,111,115,116] c.1).bind fun b=>zeb (⟨b,x_w.z1n⟩:z0T) a else zeb x_w a
def zcQ (x_w:z0T):Option (zZY × Int):=(zcc x_w.Bag).bind fun a=>some ((⟨x_w.z1n.Kind,x_w.z1n.Method,x_w.z1n.Target,x_w.z1n.Code,x_w.z1n.Reason,x_w.z1n.Minor,a⟩:zZY),0)
def zfn (b:Str) (a:Str):Option Bool:=(zc3 b a).bind fun c=>some c
def zeL (e:Str) (b:List z0h) (c:Int):Nat→Int→Option (Str × Bool)
 | 0,_=>none
 | n+1,a=>if (decide (a<c)) then (lAt b a).bind fun r1=>(zdH e r1.From).bind fun d=>if (!d.2) then (zh a 1).bind fun l=>zeL e b c n l else if (r1.From==[]) then (zh a 1).bind fun h=>zeL e b c n h else if (d.1==[]) then (zck r1.To d.1).bind fun k=>some (k,true) else (zfn r1.From [47]).bind fun i=>if i then (zck r1.To d.1).bind fun m=>some (m,true) else (sAt d.1 0).bind fun o=>(strings_IndexByte [47,63,35] o).bind fun j=>if (decide ((0:Int)≤j)) then (zck r1.To d.1).bind fun g=>some (g,true) else (zh a 1).bind fun f=>zeL e b c n f else some (e,false)
def zoP (b:Str) (a:List z0h):Option (Str × Bool):=zeL b a (a.length:Int) fuel 0
def ziN (a:Str) (c:List z0h):Option Str:=(zoP a c).bind fun b=>if (!b.2) then some a else (zia a).bind fun d=>if (!d) then some a else (zia b.1).bind fun e=>if (!e) then some a else some b.1
def zhs (a:UInt8):Option Bool:=some true
def zkZ (v4:zZ6) (c:Bool) (v7:z0K):Option (z0K × Bool):=if c then (zbc v4).bind fun b=>if b then (zco zbq [v7.Value]).bind fun a=>if a then (zcd v7.Value [32,9]).bind fun d=>some (v7,d==v7.Value) else some (v7,false) else some (v7,false) else some (v7,false)
def zmv (c:Str):Option (z0K × Bool):=(zcd c [32,9]).bind fun f=>(zg5 f).bind fun e=>(zau e).bind fun b=>(zl b.2.2 61).bind fun a=>if a.1 then (zak a.2 zhs).bind fun d=>zkZ d.2 b.2.1 (⟨b.1,d.1,a.1⟩:z0K) else zkZ a.2 b.2.1 (⟨b.1,[],a.1⟩:z0K)
def ziO (a:UInt8):Option Bool:=(zg8 a).bind fun c=>if c then (strings_IndexByte [34,44,59,92] a).bind fun b=>some (decide (b<0)) else some false
def zns (a:Str):Option Bool:=(zdH a [34]).bind fun c=>(zfj c.1 [34]).bind fun b=>if (c.2==b.2) then (zco ziO [b.1]).bind fun d=>some d else some false
def zhf (b:List Str) (c:Int):Nat→z0k→Int→Option (z0k × Int)
 | 0,_,_=>none
 | n+1,v7,a=>if (decide (a<c)) then (lAt b a).bind fun e=>(zmv e).bind fun d=>if (!d.2) then some ((⟨[],[],[]⟩:z0k),2) else if zf v7.Attrs.length ([d.1]:List z0K).length 40 then (zh a 1).bind fun f=>zhf b c n ({v7 with Attrs:=v7.Attrs++[d.1]}:z0k) f else none else some (v7,0)
def zk0 (b:Str):Option (z0k × Int):=(strings_Split b [59]).bind fun c=>(lAt c 0).bind fun f=>(zmv f).bind fun a=>if (!a.2) then some ((⟨[],[],[]⟩:z0k),2) else if (!a.1.Has) then some ((⟨[],[],[]⟩:z0k),2) else (zns a.1.Value).bind fun e=>if (!e) then some ((⟨[],[],[]⟩:z0k),2) else (zof c 1).bind fun d=>zhf d (d.length:Int) fuel (⟨a.1.Name,a.1.Value,[]⟩:z0k) 0
def zig (s1:Str) (v2:z0k):Nat→Int→Option Int
 | 0,_=>none
 | n+1,i5=>if (decide ((0:Int)≤i5)) then (lAt v2.Attrs i5).bind fun r1=>(zbY r1.Name s1).bind fun a=>if a then some i5 else (zbh i5 1).bind fun b=>zig s1 v2 n b else some (-1)
def zmw (x_c:z0k) (a:Str):Option Int:=(zbh (x_c.Attrs.length:Int) 1).bind fun b=>zig a x_c fuel b
def zrk (x_c:z0k) (a:Str):Option (Str × Bool):=(zmw x_c a).bind fun b=>if (decide (b<0)) then some ([],false) else (lAt x_c.Attrs b).bind fun r2=>some (r2.Value,true)
def zec (b:Str) (a:Str):Option Str:=(zb3 b a).bind fun d=>if d then (zas b (a.length:Int)).bind fun c=>some c else some b
def zgQ (b:Str) (a:Str):Option Str:=(zec b a).bind fun c=>some c
def zk1 (b:Str) (a:Str):Option Bool:=(zfH b).bind fun g=>if (!g) then some false else (zfH a).bind fun f=>if (!f) then some false else (zbN b).bind fun h=>if h then some false else (zbN a).bind fun e=>if e then some false else (zbG b).bind fun d=>(zbG a).bind fun c=>if (d==c) then some true else (zck [46] c).bind fun i=>(zfn d i).bind fun j=>some j
def zih (e:Str) (d:Str) (b:List z0h) (c:Int):Nat→Int→Option (Str × Bool)
 | 0,_=>none
 | n+1,a=>if (decide (a<c)) then (lAt b a).bind fun r1=>(zk1 d r1.From).bind fun f=>if f then (zbh (d.length:Int) (r1.From.length:Int)).bind fun j=>(sTo d j).bind fun g=>(zck g r1.To).bind fun i=>some (i,true) else (zh a 1).bind fun h=>zih e d b c n h else some (e,false)
def zoQ (a:Str) (b:List z0h):Option (Str × Bool):=(zgQ a [46]).bind fun c=>zih a c b (b.length:Int) fuel 0
def zlR (b:z0k→Int→Option z0k) (c:z0k) (a:Int):Option z0k:=(zh a 1).bind fun d=>b c d
def zlS (c:z0k→Int→Option z0k) (v8:z0k) (a:z0K) (b:Int):Option z0k:=if zf v8.Attrs.length ([a]:List z0K).length 40 then zlR c ({v8 with Attrs:=v8.Attrs++[a]}:z0k) b else none
def zlT (a:z0k):Option z0k:=some a
def zdp (s1:Str) (s2:Str) (d:Int) (b:List z0K) (c:Int):Nat→z0k→Int→Option z0k
 | 0,_,_=>none
 | n+1,v8,a=>if (decide (a<c)) then (lAt b a).bind fun r1=>if (a==d) then zlS (zdp s1 s2 d b c n) v8 (⟨r1.Name,s2,true⟩:z0K) a else (zbY r1.Name s1).bind fun e=>if e then zlR (zdp s1 s2 d b c n) v8 a else zlS (zdp s1 s2 d b c n) v8 r1 a else if (decide (d<0)) then if zf v8.Attrs.length ([(⟨s1,s2,true⟩:z0K)]:List z0K).length 40 then zlT ({v8 with Attrs:=v8.Attrs++[(⟨s1,s2,true⟩:z0K)]}:z0k) else none else zlT v8
def zrl (x_c:z0k) (a:Str) (b:Str):Option z0k:=(zmw x_c a).bind fun c=>zdp a b c x_c.Attrs (x_c.Attrs.length:Int) fuel ({x_c with Attrs:=[]}:z0k) 0
def zaS (d:List z0K) (c:List z0K) (b:Int):Nat→Int→Option Bool
 | 0,_=>none
 | n+1,a=>if (decide (a<b)) then (lAt d a).bind fun f=>(lAt c a).bind fun e=>if (!(f==e)) then some false else (zh a 1).bind fun g=>zaS d c b n g else some true
def zby (a:List z0K) (b:List z0K):Option Bool:=if (!((a.length:Int)==(b.length:Int))) then some false else zaS a b (a.length:Int) fuel 0
def zoR (x_a:z0k) (x_b:z0k):Option Bool:=if (x_a.Name==x_b.Name) then if (x_a.Value==x_b.Value) then (zby x_a.Attrs x_b.Attrs).bind fun a=>some a else some false else some false
def zgm (d:z0k) (b:List z0K) (a:Int):Nat→List Str→Int→Option (Str × Int)
 | 0,_,_=>none
 | n+1,c,i20=>if (decide (i20<a)) then (lAt b i20).bind fun r1=>if r1.Has then (zck r1.Name [61]).bind fun i=>(zck i r1.Value).bind fun f=>if zf c.length ([f]:List Str).length 16 then (zh i20 1).bind fun h=>zgm d b a n (c++[f]) h else none else if zf c.length ([r1.Name]:List Str).length 16 then (zh i20 1).bind fun j=>zgm d b a n (c++[r1.Name]) j else none else (zaN [59,32] c).bind fun e=>(zk0 e).bind fun g=>if (!(g.2==0)) then some ([],2) else (zoR g.1 d).bind fun k=>if (!k) then some ([],2) else some (e,0)
def zoS (x_c:z0k):Option (Str × Int):=(zck x_c.Name [61]).bind fun b=>(zck b x_c.Value).bind fun a=>zgm x_c x_c.Attrs (x_c.Attrs.length:Int) fuel [a] 0
def zjC (a:Str) (c:List z0h):Option Str:=(zk0 a).bind fun b=>if (!(b.2==0)) then some a else (zrk b.1 [68,111,109,97,105,110]).bind fun g=>(zoQ g.1 c).bind fun e=>if (!e.2) then some a else (zrl b.1 [68,111,109,97,105,110] e.1).bind fun f=>(zoS f).bind fun d=>if (!(d.2==0)) then some a else some d.1
def zgR (d:z0g→List zZU→Int→Option (List zZU)) (v2:z0g) (b:List zZU) (c:Int) (v7:zZU) (a:Int) (e:Str) (f:Bool):Option (List zZU):=if f then (ziN v7.Value v2.Locations).bind fun i=>(lAt b c).bind fun r2=>(ztp b c (⟨r2.Name,i⟩:zZU)).bind fun k=>(zh a 1).bind fun g=>d v2 k g else if (e==[115,101,116,45,99,111,111,107,105,101]) then (zjC v7.Value v2.Domains).bind fun j=>(lAt b c).bind fun r6=>(ztp b c (⟨r6.Name,j⟩:zZU)).bind fun l=>(zh a 1).bind fun m=>d v2 l m else (zh a 1).bind fun h=>d v2 b h
def zcg (b:Int):Nat→z0g→List zZU→Int→Option (List zZU)
 | 0,_,_,_=>none
 | n+1,v2,c,a=>if (decide (a<b)) then (lAt c a).bind fun r1=>(zbG r1.Name).bind fun d=>if (d==[108,111,99,97,116,105,111,110]) then zgR (zcg b n) v2 c a r1 a d true else zgR (zcg b n) v2 c a r1 a d (d==[99,111,110,116,101,110,116,45,108,111,99,97,116,105,111,110]) else some c
def zjD (a:z0g) (b:List zZU):Option (List zZU):=if zf ([]:List zZU).length b.length 32 then zcg ((([]:List zZU)++b).length:Int) fuel a (([]:List zZU)++b) 0 else none
def zoT (a:z0g) (x_a1:zZY):Option (zZY × Int):=(ztO x_a1.Fields).bind fun h=>(zfR h).bind fun d=>if (x_a1.Kind==1) then (zkY x_a1.Method x_a1.Target).bind fun c=>if (!(c.2==0)) then some ((⟨0,[],[],0,[],0,[]⟩:zZY),20) else if (c.1.Kind==3) then some ((⟨0,[],[],0,[],0,[]⟩:zZY),20) else (zlP c.1).bind fun f=>(zfT (⟨d,({x_a1 with Target:=f,Minor:=1}:zZY)⟩:z0T) a c.1).bind fun i=>(zcQ i).bind fun e=>some (e.1,e.2) else if (x_a1.Kind==2) then (zcc d).bind fun j=>(zjD a j).bind fun k=>(zfR k).bind fun g=>(zcQ (⟨g,({x_a1 with Minor:=1}:zZY)⟩:z0T)).bind fun b=>some (b.1,b.2) else some ((⟨0,[],[],0,[],0,[]⟩:zZY),1)
def zdq (b:Str) (a:Str):Option z0z:=some (⟨b,a⟩:z0z)
def zoU (x_env:z0g) (x_h:zZY):Option (List z0z):=(zdq [99,108,105,101,110,116] x_env.Client).bind fun b=>(zdq [104,111,115,116] x_env.Host).bind fun a=>(zdq [115,99,104,101,109,101] x_env.Scheme).bind fun c=>if (x_h.Kind==1) then (zqm x_h.Target).bind fun d=>(zdq [109,101,116,104,111,100] x_h.Method).bind fun f=>(zdq [112,97,116,104] d.1).bind fun e=>some [b,a,f,e,c] else if (x_h.Kind==2) then (zdm x_h.Code).bind fun g=>(zdq [115,116,97,116,117,115] g).bind fun h=>some [b,a,c,h] else some []
def zoV (x_r:zZ1):Option (List Str):=(zbG x_r.Name).bind fun a=>if (x_r.Kind==4) then (zbG x_r.To).bind fun b=>if zf ([a]:List Str).length ([b]:List Str).length 16 then some (([a]:List Str)++[b]) else none else some [a]
def zii (b:Int→Option Int) (i4:Int) (a:Bool):Option Int:=if a then (zh i4 1).bind fun c=>b c else some i4
def zdz (a:List zZ1) (v3:z0S):Nat→Int→Option Int
 | 0,_=>none
 | n+1,i4=>if (decide (i4<(a.length:Int))) then (lAt a i4).bind fun r1=>if (r1.Guard==v3) then (zbh i4 1).bind fun c=>(lAt a c).bind fun f=>(zoV f).bind fun b=>(zbG v3.Name).bind fun e=>(zU b e).bind fun d=>zii (zdz a v3 n) i4 (!d) else zii (zdz a v3 n) i4 false else zii (zdz a v3 n) i4 false
def zoW (a:List zZ1):Option Int:=(lAt a 0).bind fun r1=>zdz a r1.Guard fuel 1
def zlU (x_g:z0S) (a:Int):Option z0Y:=if (x_g.Kind==1) then some (⟨1,x_g.Name,[],[],a⟩:z0Y) else if (x_g.Kind==2) then some (⟨2,x_g.Name,[],[],a⟩:z0Y) else if (x_g.Kind==3) then some (⟨3,x_g.Name,x_g.Value,[],a⟩:z0Y) else some (⟨0,x_g.Name,[],[],a⟩:z0Y)
def zoX (x_r:zZ1):Option z0Y:=if (x_r.Kind==1) then (zgi x_r.Parts).bind fun b=>some (⟨6,x_r.Name,[],b,0⟩:z0Y) else if (x_r.Kind==2) then (zgi x_r.Parts).bind fun a=>some (⟨5,x_r.Name,[],a,0⟩:z0Y) else if (x_r.Kind==3) then some (⟨4,x_r.Name,[],[],0⟩:z0Y) else if (x_r.Kind==4) then some (⟨7,x_r.Name,x_r.To,[],0⟩:z0Y) else some (⟨0,[],[],[],0⟩:z0Y)
def zbS (e:List zZ1) (d:Int):Nat→z0x→Int→Option z0x
 | 0,_,_=>none
 | n+1,a,b=>if (decide (b<d)) then (lAt e b).bind fun f=>(zoX f).bind fun c=>if zf a.z0b.length ([c]:List z0Y).length 72 then (zh b 1).bind fun g=>zbS e d n (⟨a.z0b++[c]⟩:z0x) g else none else some a
def zed (b:z0x) (a:List zZ1):Option z0x:=zbS a (a.length:Int) fuel b 0
def zc0 (c:z0x→List zZ1→Option z0x) (a:z0x) (b:List zZ1) (i4:Int):Option z0x:=(lTo b i4).bind fun e=>(zed a e).bind fun d=>(zof b i4).bind fun f=>c d f
def za2:Nat→z0x→List zZ1→Option z0x
 | 0,_,_=>none
 | n+1,a,b=>if (decide ((0:Int)<(b.length:Int))) then (lAt b 0).bind fun r1=>if (!(r1.Guard.Kind==0)) then (zoW b).bind fun c=>(zlU r1.Guard c).bind fun d=>if zf a.z0b.length ([d]:List z0Y).length 72 then zc0 (za2 n) (⟨a.z0b++[d]⟩:z0x) b c else none else zc0 (za2 n) a b 1 else some a
def zee (a:z0x) (b:List zZ1):Option z0x:=za2 fuel a b
def zdi (i0:Int) (c:List zZ1) (b:Int):Nat→List zZ1→Int→Option (List z0Y × Int)
 | 0,_,_=>none
 | n+1,d,a=>if (decide (a<b)) then (lAt c a).bind fun r1=>if (r1.Side==i0) then if zf d.length ([r1]:List zZ1).length 112 then (zh a 1).bind fun f=>zdi i0 c b n (d++[r1]) f else none else (zh a 1).bind fun g=>zdi i0 c b n d g else (zee (⟨[]⟩:z0x) d).bind fun e=>some (e.z0b,0)
def zgS (i0:Int) (b:List zZ1) (a:Bool):Option (List z0Y × Int):=if a then some ([],1) else (zie b).bind fun c=>if (!(c.2==0)) then some ([],c.2) else zdi i0 b (b.length:Int) fuel [] 0
def zjE (a:Int) (b:List zZ1):Option (List z0Y × Int):=if (!(a==1)) then zgS a b (!(a==2)) else zgS a b false
def zeY (x_m:z0p) (x_op:z0Y):Option Bool:=(zka x_m.Bag x_op.Name).bind fun a=>if (x_op.Kind==1) then some (!a.2) else if (x_op.Kind==2) then some a.2 else if (x_op.Kind==3) then if (!a.2) then some true else some (!(a.1==x_op.Text)) else some false
def zk2 (s1:Str) (a:List z0z) (b:Int):Nat→Int→Option Str
 | 0,_=>none
 | n+1,i9=>if (decide (i9<b)) then (lAt a i9).bind fun r1=>if (r1.Name==s1) then some r1.Value else (zh i9 1).bind fun c=>zk2 s1 a b n c else some []
def ztQ (a:List z0z) (b:Str):Option Str:=zk2 b a (a.length:Int) fuel 0
def zlV (c:List UInt8→Int→Option Str) (d:Str) (a:List UInt8) (i4:Int) (b:Bool):Option Str:=if b then (sAt d i4).bind fun i=>(zbq i).bind fun f=>if f then (sAt d i4).bind fun e=>if zf a.length ([e]:List UInt8).length 1 then (zh i4 1).bind fun g=>c (a++[e]) g else none else (zh i4 1).bind fun j=>c a j else (zcd a [32,9]).bind fun h=>some h
def zfK (a:Str):Nat→List UInt8→Int→Option Str
 | 0,_,_=>none
 | n+1,b,i4=>if (decide (i4<(a.length:Int))) then zlV (zfK a n) a b i4 (decide ((b.length:Int)<65536)) else zlV (zfK a n) a b i4 false
def zrm (a:Str):Option Str:=zfK a fuel [] 0
def zfo (f:List z0z) (e:z0w) (b:List zZX) (c:Int):Nat→List Str→Int→Option Str
 | 0,_,_=>none
 | n+1,d,a=>if (decide (a<c)) then (lAt b a).bind fun r1=>if (r1.Kind==1) then if zf d.length ([r1.Text]:List Str).length 16 then (zh a 1).bind fun j=>zfo f e b c n (d++[r1.Text]) j else none else if (r1.Kind==2) then (ztQ f r1.Text).bind fun g=>if zf d.length ([g]:List Str).length 16 then (zh a 1).bind fun i=>zfo f e b c n (d++[g]) i else none else if (r1.Kind==3) then (zka e r1.Text).bind fun h=>if zf d.length ([h.1]:List Str).length 16 then (zh a 1).bind fun k=>zfo f e b c n (d++[h.1]) k else none else (zh a 1).bind fun m=>zfo f e b c n d m else (zaN [] d).bind fun o=>(zrm o).bind fun l=>some l
def ztR (b:List z0z) (a:List zZU) (c:List zZX):Option Str:=(zfR a).bind fun d=>zfo b (⟨d.z0N⟩:z0w) c (c.length:Int) fuel [] 0
def zc5 (x_m:z0p) (a:List zZX):Option Str:=(zcc x_m.Bag).bind fun c=>(ztR x_m.z1k c a).bind fun b=>some b
def zcR (s1:Str) (s2:Str) (c:Int):Nat→z0w→Int→Int→Option (Int × z0w)
 | 0,_,_,_=>none
 | n+1,b,d,a=>if (decide (a<c)) then (lAt b.z0N a).bind fun r1=>(zbY r1.Name s1).bind fun f=>if f then (lAt b.z0N a).bind fun r3=>(ztp b.z0N a (⟨s2,r3.Value⟩:zZU)).bind fun e=>(zh d 1).bind fun h=>(zh a 1).bind fun g=>zcR s1 s2 c n (⟨e⟩:z0w) h g else (zh a 1).bind fun i=>zcR s1 s2 c n b d i else some (d,b)
def ziP (c:z0w) (a:Str) (b:Str):Option (Int × z0w):=zcR a b (c.z0N.length:Int) fuel c 0 0
def zfp (x_m:z0p) (x_op:z0Y):Option z0p:=if (x_op.Kind==4) then (zdh x_m.Bag [x_op.Name]).bind fun d=>some ({x_m with Bag:=d.2}:z0p) else if (x_op.Kind==5) then (zc5 x_m x_op.Parts).bind fun a=>(zfJ x_m.Bag [(⟨x_op.Name,a⟩:zZU)]).bind fun f=>some ({x_m with Bag:=f}:z0p) else if (x_op.Kind==6) then (zc5 x_m x_op.Parts).bind fun b=>(zjj x_m.Bag x_op.Name b).bind fun e=>some ({x_m with Bag:=e}:z0p) else if (x_op.Kind==7) then (ziP x_m.Bag x_op.Name x_op.Text).bind fun c=>some ({x_m with Bag:=c.2}:z0p) else some x_m
def zdr (b:z0p→Int→Option z0p) (a:z0p) (i4:Int):Option z0p:=(zh i4 1).bind fun c=>b a c
def za8 (b:List z0Y):Nat→z0p→Int→Option z0p
 | 0,_,_=>none
 | n+1,a,i4=>if (decide (i4<(b.length:Int))) then (zh a.z1j 1).bind fun c=>(lAt b i4).bind fun d=>(zeY ({a with z1j:=c}:z0p) d).bind fun g=>if g then (lAt b i4).bind fun r4=>(zh i4 (min (max r4.N 0) (b.length:Int))).bind fun f=>zdr (za8 b n) ({a with z1j:=c}:z0p) f else (lAt b i4).bind fun e=>(zfp ({a with z1j:=c}:z0p) e).bind fun h=>zdr (za8 b n) h i4 else some a
def zeZ (a:z0p) (b:List z0Y):Option z0p:=za8 b fuel a 0
def zoY (b:List z0z) (a:List zZU) (c:List z0Y):Option (List zZU):=(zfR a).bind fun d=>(zeZ (⟨d,b,0⟩:z0p) c).bind fun r2=>(zcc r2.Bag).bind fun e=>some e
def zlW (b:List z0z) (a:List zZU) (c:Int) (e:List zZ1):Option (List zZU × Int):=(zjE c e).bind fun d=>if (!(d.2==0)) then some ([],d.2) else (zoY b a d.1).bind fun f=>some (f,0)
def zmx (a:List Str):Option Str:=(zaN [44,32] a).bind fun b=>some b
def zlX (b:Str) (a:List Str):Option Str:=if ((a.length:Int)==0) then some b else (zcd b [32,9,44]).bind fun f=>if (f==[]) then (zmx a).bind fun e=>some e else (zdP b [32,9]).bind fun c=>if zf ([c]:List Str).length a.length 16 then (zmx (([c]:List Str)++a)).bind fun d=>some d else none
def zdY (a:z0w) (s1:Str) (s2:Str):Nat→Int→Option z0w
 | 0,_=>none
 | n+1,b=>if (decide ((0:Int)≤b)) then (lAt a.z0N b).bind fun r1=>(zbY r1.Name s1).bind fun d=>if d then (lAt a.z0N b).bind fun r3=>(zlX r3.Value [s2]).bind fun c=>(lAt a.z0N b).bind fun r5=>(ztp a.z0N b (⟨r5.Name,c⟩:zZU)).bind fun e=>some (⟨e⟩:z0w) else (zbh b 1).bind fun f=>zdY a s1 s2 n f else (zfJ a [(⟨s1,s2⟩:zZU)]).bind fun g=>some g
def zeu (c:z0w) (b:Str) (a:Str):Option z0w:=(zbh (c.z0N.length:Int) 1).bind fun d=>zdY c b a fuel d
def zrn (a:z0o) (c:List zZU):Option (List zZU × Int):=(zn3 a).bind fun b=>if (!(b.2==0)) then some ([],b.2) else (zfR c).bind fun e=>(zeu e [86,105,97] b.1).bind fun f=>(zcc f).bind fun d=>some (d,0)
def zk3 (a:Str):Option Str:=(zbN a).bind fun d=>if d then some a else (ziD a).bind fun c=>if c then (zck [91] a).bind fun e=>(zck e [93]).bind fun b=>some b else some [117,110,107,110,111,119,110]
def zhB (a:List z0z):Option (List z0z):=some a
def zhC (v1:z0g) (a:List z0z):Option (List z0z):=if (!(v1.Scheme==[])) then if zf a.length ([(⟨[112,114,111,116,111],v1.Scheme⟩:z0z)]:List z0z).length 32 then zhB (a++([(⟨[112,114,111,116,111],v1.Scheme⟩:z0z)])) else none else zhB a
def zk4 (x_env:z0g):Option (List z0z):=(zk3 x_env.Client).bind fun a=>if (!(x_env.Host==[])) then if zf ([(⟨[102,111,114],a⟩:z0z)]:List z0z).length ([(⟨[104,111,115,116],x_env.Host⟩:z0z)]:List z0z).length 32 then zhC x_env (([(⟨[102,111,114],a⟩:z0z)]:List z0z)++([(⟨[104,111,115,116],x_env.Host⟩:z0z)])) else none else zhC x_env ([(⟨[102,111,114],a⟩:z0z)])
def zjF (d:List UInt8→Int→Option (Str × Int)) (f:Str) (c:List UInt8) (i5:Int) (a:Int):Option (Str × Int):=(sAt f i5).bind fun b=>if zf c.length ([b]:List UInt8).length 1 then (zh a 1).bind fun e=>d (c++[b]) e else none
def zjG (d:List UInt8→Int→Option (Str × Int)) (e:Str) (c:List UInt8) (i5:Int) (a:Int) (b:Bool):Option (Str × Int):=if b then if zf c.length ([92]:List UInt8).length 1 then zjF d e (c++[92]) i5 a else none else zjF d e c i5 a
def zcY (c:Str) (b:Int):Nat→List UInt8→Int→Option (Str × Int)
 | 0,_,_=>none
 | n+1,d,a=>if (decide (a<b)) then (sAt c a).bind fun f=>if (f==34) then zjG (zcY c b n) c d a a true else (sAt c a).bind fun e=>zjG (zcY c b n) c d a a (e==92) else if zf d.length ([34]:List UInt8).length 1 then some (d++[34],0) else none
def znt (a:Str):Option (Str × Int):=(zco zbq [a]).bind fun b=>if (!b) then some ([],2) else zcY a (a.length:Int) fuel [34] 0
def zlY (a:Str):Option (Str × Int):=(zel a).bind fun c=>if c then some (a,0) else (znt a).bind fun b=>some (b.1,b.2)
def zij (e:List z0z) (b:Int):Nat→List Str→Int→Option (Str × Int)
 | 0,_,_=>none
 | n+1,c,a=>if (decide (a<b)) then (lAt e a).bind fun r1=>(zlY r1.Value).bind fun d=>if (!(d.2==0)) then some ([],2) else (zel r1.Name).bind fun i=>if (!i) then some ([],2) else (zck r1.Name [61]).bind fun g=>(zck g d.1).bind fun f=>if zf c.length ([f]:List Str).length 16 then (zh a 1).bind fun h=>zij e b n (c++[f]) h else none else if ((c.length:Int)==0) then some ([],2) else (zaN [59] c).bind fun j=>some (j,0)
def zoZ (a:List z0z):Option (Str × Int):=zij a (a.length:Int) fuel [] 0
def ziQ (a:z0g) (c:List zZU):Option (List zZU × Int):=(zk4 a).bind fun e=>(zoZ e).bind fun b=>if (!(b.2==0)) then some ([],b.2) else (zfR c).bind fun g=>(zeu g [70,111,114,119,97,114,100,101,100] b.1).bind fun d=>(zcc d).bind fun f=>some (f,0)
def zwT (a:Str):Option Bool:=(zbN a).bind fun c=>if c then some true else (ziD a).bind fun b=>some b
def zlZ (b:Str) (c:List zZU):Option (List zZU):=(zfR c).bind fun d=>(zeu d [88,45,70,111,114,119,97,114,100,101,100,45,70,111,114] b).bind fun a=>(zcc a).bind fun e=>some e
def zro (a:Str) (b:List zZU):Option (List zZU):=(zwT a).bind fun c=>if (!c) then zlZ [117,110,107,110,111,119,110] b else zlZ a b
def zl0 (v5:zZY) (b:List zZU) (i9:Int):Option (zZY × Int):=if (!(i9==0)) then some ((⟨0,[],[],0,[],0,[]⟩:zZY),i9) else (zfR b).bind fun c=>(zcQ (⟨c,v5⟩:z0T)).bind fun a=>some (a.1,a.2)
def zl1 (v3:z0g) (v5:zZY) (a:List zZU) (i9:Int) (t46:Bool):Option (zZY × Int):=if t46 then (ziQ v3 a).bind fun b=>(zro v3.Client b.1).bind fun c=>zl0 v5 c b.2 else zl0 v5 a i9
def zfL (e:Int) (v3:z0g) (v5:zZY) (b:Bool):Option (zZY × Int):=if b then some ((⟨0,[],[],0,[],0,[]⟩:zZY),1) else (zdm e).bind fun d=>(zck [49,46] d).bind fun c=>(zrn (⟨[],c,v3.By,[]⟩:z0o) v5.Fields).bind fun a=>if (a.2==0) then zl1 v3 v5 a.1 a.2 (v5.Kind==1) else zl1 v3 v5 a.1 a.2 false
def zrp (b:z0g) (a:Int) (x_a2:zZY):Option (zZY × Int):=if (!(x_a2.Kind==1)) then if (!(x_a2.Kind==2)) then zfL a b x_a2 true else if (!(a==0)) then zfL a b x_a2 (!(a==1)) else zfL a b x_a2 false else if (!(a==0)) then zfL a b x_a2 (!(a==1)) else zfL a b x_a2 false
def zl2 (x_f:zZ4):Option (List zZU):=if (x_f.Kind==2) then (zdm x_f.N).bind fun a=>some ([(⟨[67,111,110,116,101,110,116,45,76,101,110,103,116,104],a⟩:zZU)]) else if (x_f.Kind==3) then some ([(⟨[84,114,97,110,115,102,101,114,45,69,110,99,111,100,105,110,103],[99,104,117,110,107,101,100]⟩:zZU)]) else some []
def ziR (a:z0g) (d:zZ4) (x_h:zZY) (f:List zZ1):Option (zZY × Int):=(zoT a x_h).bind fun b=>if (!(b.2==0)) then some ((⟨0,[],[],0,[],0,[]⟩:zZY),b.2) else (zoU a b.1).bind fun h=>(zlW h b.1.Fields b.1.Kind f).bind fun e=>if (!(e.2==0)) then some ((⟨0,[],[],0,[],0,[]⟩:zZY),e.2) else (zrp a x_h.Minor (⟨b.1.Kind,b.1.Method,b.1.Target,b.1.Code,b.1.Reason,b.1.Minor,e.1⟩:zZY)).bind fun c=>if (!(c.2==0)) then some ((⟨0,[],[],0,[],0,[]⟩:zZY),c.2) else (zl2 d).bind fun g=>if zf c.1.Fields.length g.length 32 then some ((⟨c.1.Kind,c.1.Method,c.1.Target,c.1.Code,c.1.Reason,c.1.Minor,c.1.Fields++g⟩:zZY),0) else none
def zdA (x_p:z0P):Option (Int × Bool × zZ6):=(zbg x_p.Scanner).bind fun a=>if (!a.2) then some (0,false,x_p.Scanner) else (zbM a.1).bind fun b=>if (!b) then some (0,false,x_p.Scanner) else (zl x_p.Scanner a.1).bind fun c=>some (((a.1-48).toNat:Int),true,c.2)
def zcD (x_p:z0P):Option (Int × Int × Bool × zZ6):=(zcP x_p.Scanner [72,84,84,80,47]).bind fun c=>if (!c.1) then some (0,0,false,c.2) else (zdA (⟨c.2⟩:z0P)).bind fun b=>(zl b.2.2 46).bind fun d=>(zdA (⟨d.2⟩:z0P)).bind fun a=>if b.2.1 then if d.1 then some (b.1,a.1,a.2.1,a.2.2) else some (b.1,a.1,false,a.2.2) else some (b.1,a.1,false,a.2.2)
def zhg (b:Str):Option Bool:=(zg5 b).bind fun c=>(zcD (⟨c⟩:z0P)).bind fun a=>if a.2.2.1 then (zbc a.2.2.2).bind fun d=>if d then if (!(a.1==1)) then some true else some (decide ((1:Int)<a.2.1)) else some false else some false
def zdZ (a:UInt8):Option Bool:=some (!(a==32))
def zdB (b:z0P):Option (Int × Bool × zZ6):=(zcD b).bind fun a=>if a.2.2.1 then if (a.1==1) then some (a.2.1,decide (a.2.1≤1),a.2.2.2) else some (a.2.1,false,a.2.2.2) else some (a.2.1,false,a.2.2.2)
def zhD (a:Str):Option (zZY × Int):=(zc2 a 32).bind fun k=>(zh k 1).bind fun j=>(zas a j).bind fun m=>(zhg m).bind fun i=>if i then some ((⟨0,[],[],0,[],0,[]⟩:zZY),26) else (zg5 a).bind fun l=>(zau l).bind fun c=>(zl c.2.2 32).bind fun h=>(zak h.2 zdZ).bind fun f=>(zl f.2 32).bind fun g=>(zdB (⟨g.2⟩:z0P)).bind fun b=>(zkY c.1 f.1).bind fun d=>if (!c.2.1) then some ((⟨0,[],[],0,[],0,[]⟩:zZY),20) else if (!h.1) then some ((⟨0,[],[],0,[],0,[]⟩:zZY),20) else if (!g.1) then some ((⟨0,[],[],0,[],0,[]⟩:zZY),20) else if (!b.2.1) then some ((⟨0,[],[],0,[],0,[]⟩:zZY),20) else (zbc b.2.2).bind fun e=>if (!e) then some ((⟨0,[],[],0,[],0,[]⟩:zZY),20) else if (!(d.2==0)) then some ((⟨0,[],[],0,[],0,[]⟩:zZY),20) else some ((⟨1,c.1,f.1,0,[],b.1,[]⟩:zZY),0)
def ziS (a:Str):Option (zZY × Int):=(strings_Cut a [32]).bind fun k=>(zhg k.1).bind fun i=>if i then some ((⟨0,[],[],0,[],0,[]⟩:zZY),26) else (zg5 a).bind fun l=>(zdB (⟨l⟩:z0P)).bind fun b=>(zl b.2.2 32).bind fun h=>(zak h.2 zbM).bind fun c=>(zl c.2 32).bind fun f=>(zdS c.1 599).bind fun g=>if (!b.2.1) then some ((⟨0,[],[],0,[],0,[]⟩:zZY),20) else if (!h.1) then some ((⟨0,[],[],0,[],0,[]⟩:zZY),20) else if (!f.1) then some ((⟨0,[],[],0,[],0,[]⟩:zZY),20) else if (!((c.1.length:Int)==3)) then some ((⟨0,[],[],0,[],0,[]⟩:zZY),20) else if (!(g.2==0)) then some ((⟨0,[],[],0,[],0,[]⟩:zZY),20) else if (decide (g.1<100)) then some ((⟨0,[],[],0,[],0,[]⟩:zZY),20) else (zbf f.2).bind fun j=>(zco zbq [j]).bind fun e=>if (!e) then some ((⟨0,[],[],0,[],0,[]⟩:zZY),20) else (zbf f.2).bind fun d=>some ((⟨2,[],[],g.1,d,b.1,[]⟩:zZY),0)
def zgT (i0:Int) (s1:Str) (d:Bool):Option (zZY × Int):=if d then some ((⟨0,[],[],0,[],0,[]⟩:zZY),1) else (zbX s1 [13,10]).bind fun c=>if c then some ((⟨0,[],[],0,[],0,[]⟩:zZY),24) else if (i0==1) then (zhD s1).bind fun a=>some (a.1,a.2) else (ziS s1).bind fun b=>some (b.1,b.2)
def zdT (a:Int) (b:Str):Option (zZY × Int):=if (!(a==1)) then zgT a b (!(a==2)) else zgT a b false
def zcE (b:Str) (a:Int) (c:Bool):Option (Str × Int):=if (!(a==0)) then some ([],20) else if (!c) then some ([],20) else some (b,0)
def zhE (v1:zZY) (b:Str):Option (Str × Int):=(zdT v1.Kind b).bind fun a=>if (a.2==1) then some ([],a.2) else if (a.1.Method==v1.Method) then if (a.1.Target==v1.Target) then if (a.1.Minor==v1.Minor) then if (a.1.Code==v1.Code) then zcE b a.2 (a.1.Reason==v1.Reason) else zcE b a.2 false else zcE b a.2 false else zcE b a.2 false else zcE b a.2 false
def zik (x_a0:zZY):Option (Str × Int):=(zdm x_a0.Minor).bind fun c=>(zck [72,84,84,80,47,49,46] c).bind fun a=>(zaN [32] [x_a0.Method,x_a0.Target,a]).bind fun e=>if (x_a0.Kind==2) then (zdm x_a0.Code).bind fun b=>(zaN [32] [a,b,x_a0.Reason]).bind fun d=>zhE x_a0 d else zhE x_a0 e
def zl3 (c:Int→Option Bool) (b:Int) (a:Bool):Option Bool:=if a then some false else (zh b 1).bind fun d=>c d
def zfM (c:List Str) (b:Int):Nat→Int→Option Bool
 | 0,_=>none
 | n+1,a=>if (decide (a<b)) then (lAt c a).bind fun d=>(zcy d).bind fun e=>if (!(e.2==0)) then zl3 (zfM c b n) a (!(d==[])) else zl3 (zfM c b n) a false else some true
def zrq (x_h:zZY):Option Bool:=if (!(x_h.Kind==1)) then some true else (zfR x_h.Fields).bind fun b=>(zcC b [72,111,115,116]).bind fun a=>if (decide ((1:Int)<(a.length:Int))) then some false else if (decide ((a.length:Int)<x_h.Minor)) then some false else zfM a (a.length:Int) fuel 0
def zn7 (x_h:zZY):Option Int:=if (decide ((100:Int)<(x_h.Fields.length:Int))) then some 3 else (zrq x_h).bind fun a=>if (!a) then some 27 else some 0
def zjk (e:zZY) (c:List zZU) (b:Int):Nat→Int→Option Int
 | 0,_=>none
 | n+1,a=>if (decide (a<b)) then (lAt c a).bind fun g=>(zfa g).bind fun d=>if (!(d==0)) then some d else (zh a 1).bind fun h=>zjk e c b n h else (zn7 e).bind fun f=>some f
def zn8 (x_h:zZY):Option Int:=(zik x_h).bind fun a=>if (!(a.2==0)) then some a.2 else zjk x_h x_h.Fields (x_h.Fields.length:Int) fuel 0
def ztS (a:Int):Option z0L:=some (⟨[],max a 0⟩:z0L)
def ziT (a:z0L):Option Int:=(zbh a.z0d (a.z1o.length:Int)).bind fun b=>some b
def zdC (c:List Str) (d:Int):Nat→z0L→Int→Option (Int × z0L)
 | 0,_,_=>none
 | n+1,a,b=>if (decide (b<d)) then (lAt c b).bind fun e=>if zf a.z1o.length e.length 1 then (zh b 1).bind fun f=>zdC c d n (⟨a.z1o++e,a.z0d⟩:z0L) f else none else some (0,a)
def zdD (b:z0L) (e:List Str) (c:List Str) (d:Int):Nat→Int→Int→Option (Int × z0L)
 | 0,_,_=>none
 | n+1,i5,a=>if (decide (a<d)) then (lAt c a).bind fun f=>if (decide (i5<(f.length:Int))) then some (10,b) else (zbh i5 (f.length:Int)).bind fun g=>(zh a 1).bind fun h=>zdD b e c d n g h else zdC e (e.length:Int) fuel b 0
def zhF (b:z0L) (a:List Str):Option (Int × z0L):=(ziT b).bind fun c=>zdD b a a (a.length:Int) fuel c 0
def zgU (b:z0L) (a:List Str):Option (Int × z0L):=if zf ([]:List Str).length a.length 16 then if zf (([]:List Str)++a).length ([[13,10]]:List Str).length 16 then (zhF b ((([]:List Str)++a)++([[13,10]]))).bind fun c=>some (c.1,c.2) else none else none
def zcS (x_p:z05) (b:Str):Option z05:=(zgU x_p.Quill [b]).bind fun a=>if (!(a.1==0)) then some (⟨a.2,true⟩:z05) else some (⟨a.2,x_p.z1p⟩:z05)
def zil (x_f:zZU):Option (Str × Int):=(zfa x_f).bind fun a=>if (!(a==0)) then some ([],a) else if (x_f.Value==[]) then (zck x_f.Name [58]).bind fun c=>some (c,0) else (zck x_f.Name [58,32]).bind fun d=>(zck d x_f.Value).bind fun b=>some (b,0)
def ziU (a:z0L):Option Str:=some a.z1o
def zjl (c:List zZU) (b:Int):Nat→z05→Int→Option (Str × Int)
 | 0,_,_=>none
 | n+1,d,a=>if (decide (a<b)) then (lAt c a).bind fun h=>(zil h).bind fun f=>(zcS d f.1).bind fun i=>(zh a 1).bind fun e=>zjl c b n i e else (zcS d []).bind fun r5=>if r5.z1p then some ([],3) else (ziU r5.Quill).bind fun g=>some (g,0)
def zjV (x_h:zZY) (a:Int):Option (Str × Int):=(zn8 x_h).bind fun b=>if (!(b==0)) then some ([],b) else (ztS a).bind fun c=>(zik x_h).bind fun e=>(zcS (⟨c,false⟩:z05) e.1).bind fun d=>zjl x_h.Fields (x_h.Fields.length:Int) fuel d 0
def zbQ (a:zZR) (x_h:zZY):Option (Str × zZ4 × Int):=if (x_h.Method==[67,79,78,78,69,67,84]) then some ([],(⟨0,0⟩:zZ4),20) else (zeJ x_h).bind fun b=>if (!(b.2==0)) then some ([],b.1,b.2) else (ziR a.z0O b.1 x_h a.z0C).bind fun c=>if (!(c.2==0)) then some ([],b.1,c.2) else (zjV c.1 a.z0c.Head).bind fun d=>some (d.1,b.1,d.2)
def zkb (a:Int):Option (Option zZW × Int):=if (decide (a<0)) then some (none,1) else if (decide ((65536:Int)<a)) then some (none,1) else some (some (⟨a,0,[],0,0,0,[]⟩:zZW),0)
def zmy (a:z0i):Option (Option z0i × Int):=some (some a,0)
def zmz (v2:zZ4) (a:z0i):Option (Option z0i × Int):=if (v2.Kind==1) then zmy ({a with z0V:=true}:z0i) else if (v2.Kind==2) then zmy ({a with z0V:=v2.N==0}:z0i) else zmy ({a with z0V:=false}:z0i)
def zkc (v2:zZ4) (b:Option zZW) (a:Int):Option (Option z0i × Int):=if (!(a==0)) then some (none,1) else if (decide (v2.Kind<1)) then some (none,1) else if (decide ((4:Int)<v2.Kind)) then some (none,1) else if (decide (v2.N<0)) then some (none,1) else if (decide ((1099511627776:Int)<v2.N)) then some (none,1) else if (v2.Kind==3) then zmz v2 (⟨b,v2,v2.N,false,false⟩:z0i) else zmz v2 (⟨none,v2,v2.N,false,false⟩:z0i)
def zn9 (a:zZ4) (b:Int):Option (Option z0i × Int):=(zkb b).bind fun c=>optK c.1 (zkc a none c.2) fun d=>zkc a (some d) c.2
def zbH (a:zZ8):Option (zZY × Bool):=if (!a.f_whole) then some ((⟨0,[],[],0,[],0,[]⟩:zZY),false) else if zf ([]:List zZU).length a.z1d.Fields.length 32 then some ((⟨a.z1d.Kind,a.z1d.Method,a.z1d.Target,a.z1d.Code,a.z1d.Reason,a.z1d.Minor,([]:List zZU)++a.z1d.Fields⟩:zZY),true) else none
def zim (a:Str):Option (Int × Str × Bool × Int):=some (0,[],false,5)
def zdE:Option Int:=some 5
def zeM (b:Str):Option (Str × Int):=zdE.bind fun a=>if (!(a==0)) then some ([],a) else none
def zch:Option (List zZU):=some []
def zci (a:List zZU):Option (Str × Int):=zdE.bind fun b=>if (!(b==0)) then some ([],b) else none
def zjm (e:Int→Option Bool) (f:Str) (c:Int) (d:List Str) (b:Int):Nat→Int→Option Bool
 | 0,_=>none
 | n+1,a=>if (decide (a<b)) then (lAt d a).bind fun i=>(zbY i f).bind fun g=>if g then some true else (zh a 1).bind fun j=>zjm e f c d b n j else (zh c 1).bind fun h=>e h
def zht (e:Str) (b:List Str) (c:Int):Nat→Int→Option Bool
 | 0,_=>none
 | n+1,a=>if (decide (a<c)) then (lAt b a).bind fun f=>(zhq [f]).bind fun d=>zjm (zht e b c n) e a d.1 (d.1.length:Int) fuel 0 else some false
def zoa (a:Str) (b:List Str):Option Bool:=zht a b (b.length:Int) fuel 0
def zqn (x_h:zZY):Option Bool:=(zfR x_h.Fields).bind fun c=>(zcC c [67,111,110,110,101,99,116,105,111,110]).bind fun a=>if (x_h.Minor==1) then (zoa [99,108,111,115,101] a).bind fun d=>some d else (zoa [107,101,101,112,45,97,108,105,118,101] a).bind fun b=>some (!b)
def zrr (a:zZY):Option zZZ:=(zqn a).bind fun b=>some ({a with Close:=b}:zZZ)
def zgV (a:List zZZ):Option Int:=some 5
def zjH (x_t:zZZ):Option Bool:=some x_t.Close
def zS (c:List zZZ) (b:Int):Nat→Int→Option Int
 | 0,_=>none
 | n+1,a=>if (decide (a<b)) then (lAt c a).bind fun e=>(zjH e).bind fun d=>if d then some a else (zh a 1).bind fun f=>zS c b n f else some (-1)
def zap (a:List zZZ):Option Int:=zS a (a.length:Int) fuel 0
def zl4 (a:List zZZ):Option Bool:=(zap a).bind fun b=>if (decide ((0:Int)≤b)) then (zbh (a.length:Int) 1).bind fun c=>some (decide (b<c)) else some false
def zds:Option (List zZU):=some []
def zcF (a:zZW):Option (List zZU):=if zf ([]:List zZU).length a.z09.length 32 then some (([]:List zZU)++a.z09) else none
def zbI (x_b:z0i):Option (List zZU):=optK x_b.Decoder (zds.bind fun a=>some a) fun b=>(zcF b).bind fun c=>some c
def za6 (a:zZ7):Option Int:=if a.z0V then some 8 else some 0
def zc6:Option Int:=some 5
def zfq (f:List zZU) (c:List zZU) (b:Int):Nat→List Str→Int→Option (Str × Int)
 | 0,_,_=>none
 | n+1,e,a=>if (decide (a<b)) then (lAt c a).bind fun h=>(zil h).bind fun d=>if (!(d.2==0)) then some ([],d.2) else if zf e.length ([d.1]:List Str).length 16 then (zh a 1).bind fun i=>zfq f c b n (e++[d.1]) i else none else if (decide ((100:Int)<(f.length:Int))) then some ([],3) else if zf e.length ([[],[]]:List Str).length 16 then (zaN [13,10] (e++([[],[]]))).bind fun g=>some (g,0) else none
def zeN (a:List zZU):Option (Str × Int):=zfq a a (a.length:Int) fuel ([[48]]) 0
def zfU (a:List zZU):Option (Str × Int):=zc6.bind fun c=>if (!(c==0)) then some ([],c) else (zeN a).bind fun b=>if (!(b.2==0)) then some ([],b.2) else none
def zbB (a:z0e):Option Int:=if a.z0V then some 8 else some 0
def zjI (a:Int):Option Str:=(zkQ a 16).bind fun b=>some b
def zk5 (a:Int):Option Str:=(zjI a).bind fun b=>some b
def zaJ (a:Str):Option Str:=if (a==[]) then some [] else (zk5 (a.length:Int)).bind fun c=>(zaN [13,10] ([c,a,[]])).bind fun b=>some b
def zfV (b:Str):Option (Str × Int):=zc6.bind fun a=>if (!(a==0)) then some ([],a) else none
def zfr (a:Str):Option (Int × Str × Bool × Int):=some (0,[],false,5)
def zfs:Option Int:=some 0
def zBg (a:Int):Option (z06 × Bool):=if (!((zrB [(400,[66,97,100,32,82,101,113,117,101,115,116]),(431,[82,101,113,117,101,115,116,32,72,101,97,100,101,114,32,70,105,101,108,100,115,32,84,111,111,32,76,97,114,103,101]),(502,[66,97,100,32,71,97,116,101,119,97,121])] a).2)) then some ((⟨(⟨0,[],[],0,[],0,[]⟩:zZY),(⟨0,0⟩:zZ4),[],[]⟩:z06),false) else some ((⟨(⟨2,[],[],a,(zrB [(400,[66,97,100,32,82,101,113,117,101,115,116]),(431,[82,101,113,117,101,115,116,32,72,101,97,100,101,114,32,70,105,101,108,100,115,32,84,111,111,32,76,97,114,103,101]),(502,[66,97,100,32,71,97,116,101,119,97,121])] a).1,1,[(⟨[67,111,110,116,101,110,116,45,76,101,110,103,116,104],[48]⟩:zZU),(⟨[67,111,110,110,101,99,116,105,111,110],[99,108,111,115,101]⟩:zZU)]⟩:zZY),(⟨2,0⟩:zZ4),[],[]⟩:z06),true)
def zjJ (b:Str) (a:Int):Option Bool:=if (b==[72,69,65,68]) then some true else if (decide (a<200)) then some true else if (a==204) then some true else if (a==304) then some true else if (b==[67,79,78,78,69,67,84]) then some (decide (a<300)) else some false
def zdU (a:Str) (x_h:zZY):Option (zZ4 × Int):=(zjJ a x_h.Code).bind fun c=>if c then some ((⟨1,0⟩:zZ4),0) else (znz x_h 4).bind fun b=>some (b.1,b.2)
def zuG (a:Str) (x_h:zZY):Option (zZ4 × Int):=if (x_h.Kind==1) then (zeJ x_h).bind fun c=>some (c.1,c.2) else (zdU a x_h).bind fun b=>some (b.1,b.2)
def zwU (x_m:z06):Option Bool:=if (x_m.Frame.Kind==1) then if (x_m.Body==[]) then some ((x_m.Trailers.length:Int)==0) else some false else if (x_m.Frame.Kind==2) then if ((x_m.Body.length:Int)==x_m.Frame.N) then some ((x_m.Trailers.length:Int)==0) else some false else if (x_m.Frame.Kind==4) then some ((x_m.Trailers.length:Int)==0) else some true
def zuH (a:Str) (x_m:z06):Option Int:=(zn8 x_m.Head).bind fun c=>if (!(c==0)) then some c else (zuG a x_m.Head).bind fun b=>if (!(b.2==0)) then some b.2 else if (!(b.1==x_m.Frame)) then some 1 else (zwU x_m).bind fun e=>if (!e) then some 1 else (zeN x_m.Trailers).bind fun d=>some d.2
def zgn (a:Option z0e):Option (Int × Option z0e):=optK a (some (5,none)) fun b=>if b.z0V then some (8,some b) else some (0,some b)
def zfN:Nat→z0e→List Str→Option (Str × Int × Option z0e)
 | 0,_,_=>none
 | n+1,a,b=>if (decide (a.z1e≤(a.z0D.length:Int))) then (sTo a.z0D a.z1e).bind fun e=>(zaJ e).bind fun c=>if zf b.length ([c]:List Str).length 16 then (zas a.z0D a.z1e).bind fun f=>zfN n ({a with z0D:=f}:z0e) (b++[c]) else none else (zaN [] b).bind fun d=>some (d,0,some a)
def zlh (b:Option z0e) (c:Str):Option (Str × Int × Option z0e):=(zgn b).bind fun a=>if (!(a.1==0)) then some ([],a.1,a.2) else a.2.bind fun d=>(zck d.z0D c).bind fun e=>zfN fuel ({d with z0D:=e}:z0e) []
def zli (d:Option z0e) (a:List zZU):Option (Str × Int × Option z0e):=(zgn d).bind fun b=>if (!(b.1==0)) then some ([],b.1,b.2) else (zeN a).bind fun c=>if (!(c.2==0)) then some ([],c.2,b.2) else b.2.bind fun e=>(zaJ e.z0D).bind fun f=>(zck f c.1).bind fun g=>some (g,0,some (⟨e.z1e,[],true⟩:z0e))
def zob (s1:Str) (d:List zZU) (c:Option z0e) (i9:Int):Option (Str × Int):=if (!(i9==0)) then some ([],i9) else (zlh c s1).bind fun b=>(zli b.2.2 d).bind fun a=>if (!(a.2.1==0)) then some ([],a.2.1) else (zck b.1 a.1).bind fun e=>some (e,0)
def zyi (c:Int) (b:Str) (a:List zZU):Option (Str × Int):=(zdx c).bind fun d=>optK d.1 (zob b a none d.2) fun e=>zob b a (some e) d.2
def zlx (b:Str) (a:Int) (c:Str):Option (Str × Int):=if (!(a==0)) then some ([],a) else (zck b c).bind fun d=>some (d,0)
def zuI (a:Str) (x_m:z06) (b:Int) (c:Int):Option (Str × Int):=(zuH a x_m).bind fun e=>if (!(e==0)) then some ([],e) else (zjV x_m.Head b).bind fun d=>if (!(d.2==0)) then some ([],d.2) else if (x_m.Frame.Kind==3) then (zyi c x_m.Body x_m.Trailers).bind fun f=>zlx d.1 f.2 f.1 else zlx d.1 d.2 x_m.Body
def zrs (a:Int):Option Str:=(zBg a).bind fun b=>if (!b.2) then some [] else (zuI [71,69,84] b.1 65536 1).bind fun c=>some c.1
def zd0 (a:z0a):Option Int:=some (a.z0l.z0N.length:Int)
def zV (b:zZR) (a:Int):Option zZR:=(zrh a).bind fun c=>some ({b with zZT:=(⟨none,none,none⟩:zZ3),z0I:=c,z0f:=true}:zZR)
def zD (e:List Str) (c:Int):Nat→zZR→Int→Option zZR
 | 0,_,_=>none
 | n+1,a,b=>if (decide (b<c)) then (lAt e b).bind fun d=>if zf a.z0H.length d.length 1 then (zh b 1).bind fun f=>zD e c n ({a with z0H:=a.z0H++d}:zZR) f else none else some a
def zae (b:zZR) (a:List Str):Option zZR:=zD a (a.length:Int) fuel b 0
def zgo (v2:zZ4) (b:Option z0e) (a:Int):Option (Option zZ7 × Int):=if (!(a==0)) then some (none,1) else if (decide (v2.Kind<1)) then some (none,1) else if (decide ((4:Int)<v2.Kind)) then some (none,1) else if (decide (v2.N<0)) then some (none,1) else if (v2.Kind==3) then some (some (⟨b,v2,0,false⟩:zZ7),0) else if (v2.Kind==2) then some (some (⟨none,v2,v2.N,false⟩:zZ7),0) else some (some (⟨none,v2,0,false⟩:zZ7),0)
def zin (b:zZ4) (a:Int):Option (Option zZ7 × Int):=(zdx a).bind fun c=>optK c.1 (zgo b none c.2) fun d=>zgo b (some d) c.2
def zio:Option Bool:=some false
def zdJ (a:z0a):Option (Int × z0a):=some (0,a)
def zbJ (a:z0a) (b:List zZZ):Option (Int × z0a):=if a.z0t then some (8,a) else (zbh a.z0l.z0d (a.z0l.z0N.length:Int)).bind fun d=>if (decide (d<(b.length:Int))) then some (10,a) else (zl4 b).bind fun c=>if c then some (8,a) else if zf a.z0l.z0N.length b.length 32 then if (decide ((0:Int)<(b.length:Int))) then (zbh (b.length:Int) 1).bind fun e=>(lAt b e).bind fun r4=>zdJ (⟨(⟨a.z0l.z0N++b,a.z0l.z0d⟩:z0X),r4.Close⟩:z0a) else zdJ (⟨(⟨a.z0l.z0N++b,a.z0l.z0d⟩:z0X),false⟩:z0a) else none
def ze0 (b:z0e) (a:List zZU):Option (Str × Int × z0e):=(zbB b).bind fun d=>if (!(d==0)) then some ([],d,b) else (zeN a).bind fun c=>if (!(c.2==0)) then some ([],c.2,b) else (zaJ b.z0D).bind fun f=>(zck f c.1).bind fun e=>some (e,0,(⟨b.z1e,[],true⟩:z0e))
def zbC (a:zZ7) (b:Int) (c:Str):Option (Str × Int × zZ7):=some (c,b,({a with z0V:=b==0}:zZ7))
def zbK (x_w:zZ7) (a:List zZU):Option (Str × Int × zZ7):=(za6 x_w).bind fun c=>if (!(c==0)) then some ([],c,x_w) else if (x_w.z0v.Kind==3) then optK x_w.Encoder ((zfU a).bind fun d=>zbC ({x_w with Encoder:=none}:zZ7) d.2 d.1) fun e=>(ze0 e a).bind fun b=>zbC ({x_w with Encoder:=some b.2.2}:zZ7) b.2.1 b.1 else if (decide ((0:Int)<x_w.zZ9)) then zbC x_w 6 [] else zbC x_w c []
def zaw (a:zZR) (v6:zZZ):Option zZR:=(zbO 1 a.z0c.Head).bind fun b=>some ({a with zZT:=b,z0f:=v6.Close}:zZR)
def zax (vp0:zZR) (v4:zZY):Option zZR:=(zrr v4).bind fun r1=>optK vp0.Queue ((zgV [r1]).bind fun c=>zaw ({vp0 with Queue:=none}:zZR) (⟨r1.Method,r1.Minor,r1.Close⟩:zZZ)) fun b=>(zbJ b [(⟨r1.Method,r1.Minor,r1.Close⟩:zZZ)]).bind fun a=>zaw ({vp0 with Queue:=some a.2}:zZR) (⟨r1.Method,r1.Minor,r1.Close⟩:zZZ)
def z8 (b:zZR) (s2:Str):Option zZR:=(zae b [s2]).bind fun a=>optK a.zZT.Accum (zes.bind fun e=>zax ({a with zZT:=(⟨none,a.zZT.z00,a.zZT.z0b⟩:zZ3)}:zZR) e.1) fun c=>(zbH c).bind fun d=>zax ({a with zZT:=(⟨some c,a.zZT.z00,a.zZT.z0b⟩:zZ3)}:zZR) d.1
def zao (a:zZR):Option zZR:=optK a.zZT.z0b (optK a.zZT.z00 (zch.bind fun k=>(zci k).bind fun i=>z8 ({a with zZT:=(⟨a.zZT.Accum,none,none⟩:zZ3)}:zZR) i.1) fun d=>(zbI d).bind fun j=>(zci j).bind fun h=>z8 ({a with zZT:=(⟨a.zZT.Accum,some d,none⟩:zZ3)}:zZR) h.1) fun f=>optK a.zZT.z00 (zch.bind fun l=>(zbK f l).bind fun e=>z8 ({a with zZT:=(⟨a.zZT.Accum,none,some e.2.2⟩:zZ3)}:zZR) e.1) fun g=>(zbI g).bind fun c=>(zbK f c).bind fun b=>z8 ({a with zZT:=(⟨a.zZT.Accum,some g,some b.2.2⟩:zZ3)}:zZR) b.1
def zgp (a:z0i):Option Bool:=some a.z0V
def zay (a:zZR) (b:Bool):Option zZR:=if b then (zao a).bind fun c=>some c else some a
def zaz (a:zZR):Option zZR:=optK a.zZT.z00 (zio.bind fun c=>zay ({a with zZT:=(⟨a.zZT.Accum,none,a.zZT.z0b⟩:zZ3)}:zZR) c) fun b=>(zgp b).bind fun d=>zay ({a with zZT:=(⟨a.zZT.Accum,some b,a.zZT.z0b⟩:zZ3)}:zZR) d
def zaA (a:zZR) (v5:zZ4):Option zZR:=(zin v5 a.z0c.Chunk).bind fun c=>optK c.1 (zaz ({a with zZT:=(⟨a.zZT.Accum,a.zZT.z00,none⟩:zZ3)}:zZR)) fun b=>zaz ({a with zZT:=(⟨a.zZT.Accum,a.zZT.z00,some b⟩:zZ3)}:zZR)
def zaB (a:zZR) (v2:zZY):Option zZR:=(zbQ a v2).bind fun c=>if (!(c.2.2==0)) then (zV a c.2.2).bind fun e=>some e else (zae a [c.1]).bind fun b=>(zn9 c.2.1 b.z0c.Head).bind fun d=>optK d.1 (zaA ({b with zZT:=(⟨b.zZT.Accum,none,b.zZT.z0b⟩:zZ3)}:zZR) c.2.1) fun f=>zaA ({b with zZT:=(⟨b.zZT.Accum,some f,b.zZT.z0b⟩:zZ3)}:zZR) c.2.1
def zaY (a:zZR):Option zZR:=optK a.zZT.Accum (zes.bind fun c=>zaB ({a with zZT:=(⟨none,a.zZT.z00,a.zZT.z0b⟩:zZ3)}:zZR) c.1) fun b=>(zbH b).bind fun d=>zaB ({a with zZT:=(⟨some b,a.zZT.z00,a.zZT.z0b⟩:zZ3)}:zZR) d.1
def zfW (v0:zZ8) (i3:Int) (t4:Bool):Option Bool:=(zbh i3 1).bind fun b=>(lAt v0.z0D b).bind fun a=>some (!((a==10)==t4))
def ziV (a:zZ8):Option Bool:=if (decide ((1:Int)<(a.z0D.length:Int))) then (zbh (a.z0D.length:Int) 2).bind fun c=>(lAt a.z0D c).bind fun b=>zfW a (a.z0D.length:Int) (b==13) else zfW a (a.z0D.length:Int) false
def zc7 (a:zZ6):Option (Str × zZ6):=(zak a zhp).bind fun b=>some (b.1,b.2)
def zfb (a:Str):Option (zZU × Int):=(zbX a [13,10]).bind fun i=>if i then some ((⟨[],[]⟩:zZU),24) else (zg5 a).bind fun g=>(zc7 g).bind fun f=>if (!(f.1==[])) then some ((⟨[],[]⟩:zZU),23) else (zau f.2).bind fun b=>(zc7 b.2.2).bind fun e=>if (!b.2.1) then some ((⟨[],[]⟩:zZU),21) else (zl e.2 58).bind fun c=>if (!c.1) then some ((⟨[],[]⟩:zZU),21) else if (!(e.1==[])) then some ((⟨[],[]⟩:zZU),22) else (zbf c.2).bind fun j=>(zco zbq [j]).bind fun k=>if (!k) then some ((⟨[],[]⟩:zZU),25) else (zbf c.2).bind fun h=>(zcd h [32,9]).bind fun d=>some ((⟨b.1,d⟩:zZU),0)
def zjn (c:List Str) (b:Int):Nat→zZY→Int→Option (zZY × Int)
 | 0,_,_=>none
 | n+1,v12,a=>if (decide (a<b)) then (lAt c a).bind fun f=>(zfb f).bind fun d=>if (!(d.2==0)) then some ((⟨0,[],[],0,[],0,[]⟩:zZY),d.2) else if zf v12.Fields.length ([d.1]:List zZU).length 32 then (zh a 1).bind fun g=>zjn c b n ({v12 with Fields:=v12.Fields++[d.1]}:zZY) g else none else (zn7 v12).bind fun e=>if (!(e==0)) then some ((⟨0,[],[],0,[],0,[]⟩:zZY),e) else some (v12,0)
def zrt (b:Int) (a:Str) (c:Int):Option (zZY × Int):=(zdT b []).bind fun f=>if (f.2==1) then some ((⟨0,[],[],0,[],0,[]⟩:zZY),f.2) else (strings_Index a [13,10,13,10]).bind fun d=>if (decide (c<(a.length:Int))) then some ((⟨0,[],[],0,[],0,[]⟩:zZY),3) else if (decide (d<0)) then some ((⟨0,[],[],0,[],0,[]⟩:zZY),6) else (zh d 4).bind fun k=>if (!(k==(a.length:Int))) then some ((⟨0,[],[],0,[],0,[]⟩:zZY),6) else (sTo a d).bind fun i=>(strings_Split i [13,10]).bind fun g=>(lAt g 0).bind fun j=>(zdT b j).bind fun e=>if (!(e.2==0)) then some ((⟨0,[],[],0,[],0,[]⟩:zZY),e.2) else (zof g 1).bind fun h=>zjn h (h.length:Int) fuel e.1 0
def ze1 (a:zZ8) (b:Int):Option (Bool × Int × zZ8):=some (false,b,({a with z1a:=(a.z0D.length:Int)}:zZ8))
def zeO (a:zZ8) (b:Str):Option (Bool × Int × zZ8):=if (a.z1a==0) then (zdT a.z1l b).bind fun e=>ze1 a e.2 else if (!(b==[])) then (zfb b).bind fun d=>ze1 a d.2 else (zrt a.z1l a.z0D a.z1b).bind fun c=>some (c.2==0,c.2,({a with z1d:=c.1}:zZ8))
def zcj (a:zZ8) (b:UInt8):Option (Bool × Int × zZ8):=if (decide (a.z1b≤(a.z0D.length:Int))) then some (false,3,a) else if zf a.z0D.length ([b]:List UInt8).length 1 then (ziV ({a with z0D:=a.z0D++[b]}:zZ8)).bind fun e=>if e then some (false,24,({a with z0D:=a.z0D++[b]}:zZ8)) else if (!(b==10)) then some (false,0,({a with z0D:=a.z0D++[b]}:zZ8)) else (zbh ((a.z0D++[b]).length:Int) 2).bind fun d=>(zFW (a.z0D++[b]) a.z1a d).bind fun f=>(zeO ({a with z0D:=a.z0D++[b]}:zZ8) f).bind fun c=>some (c.1,c.2.1,c.2.2) else none
def zc8 (d:zZ8→Int→Option (Int × Bool × Int × zZ8)) (a:zZ8) (e:Int) (b:Int) (c:Bool):Option (Int × Bool × Int × zZ8):=if c then (zh e 1).bind fun g=>some (g,a.f_whole,a.z1h,({a with z0D:=[]}:zZ8)) else (zh b 1).bind fun f=>d a f
def zaH (s1:Str) (c:Int):Nat→zZ8→Int→Option (Int × Bool × Int × zZ8)
 | 0,_,_=>none
 | n+1,d,b=>if (decide (b<c)) then (sAt s1 b).bind fun e=>(zcj ({d with z1i:=true}:zZ8) e).bind fun a=>if a.1 then zc8 (zaH s1 c n) (⟨a.2.2.z1l,a.2.2.z1b,a.2.2.z0D,a.2.2.z1a,a.2.2.z1i,a.2.1,a.1,a.2.2.z1d⟩:zZ8) b b true else zc8 (zaH s1 c n) (⟨a.2.2.z1l,a.2.2.z1b,a.2.2.z0D,a.2.2.z1a,a.2.2.z1i,a.2.1,a.1,a.2.2.z1d⟩:zZ8) b b (!(a.2.1==0)) else some ((s1.length:Int),false,0,d)
def zaV (a:zZ8) (b:Str):Option (Int × Bool × Int × zZ8):=if (!(a.z1h==0)) then some (0,false,8,a) else if a.f_whole then some (0,false,8,a) else zaH b (b.length:Int) fuel a 0
def zaT:Nat→z0e→List Str→Option (Str × Int × z0e)
 | 0,_,_=>none
 | n+1,a,b=>if (decide (a.z1e≤(a.z0D.length:Int))) then (sTo a.z0D a.z1e).bind fun e=>(zaJ e).bind fun c=>if zf b.length ([c]:List Str).length 16 then (zas a.z0D a.z1e).bind fun f=>zaT n ({a with z0D:=f}:z0e) (b++[c]) else none else (zaN [] b).bind fun d=>some (d,0,a)
def zbs (a:z0e) (b:Str):Option (Str × Int × z0e):=(zbB a).bind fun c=>if (!(c==0)) then some ([],c,a) else (zck a.z0D b).bind fun d=>zaT fuel ({a with z0D:=d}:z0e) []
def zdK (a:zZ7) (b:Str) (i5:Int):Option (Str × Int × zZ7):=some (b,i5,a)
def zdL (a:zZ7) (s1:Str):Option (Str × Int × zZ7):=some (s1,0,a)
def zbD (a:zZ7) (s1:Str) (b:Bool):Option (Str × Int × zZ7):=if b then if (decide (a.zZ9<(s1.length:Int))) then some ([],3,a) else (zbh a.zZ9 (s1.length:Int)).bind fun c=>zdL ({a with zZ9:=c}:zZ7) s1 else zdL a s1
def zk (x_w:zZ7) (a:Str):Option (Str × Int × zZ7):=(za6 x_w).bind fun c=>if (!(c==0)) then some ([],c,x_w) else if (x_w.z0v.Kind==3) then optK x_w.Encoder ((zfV a).bind fun d=>zdK ({x_w with Encoder:=none}:zZ7) d.1 d.2) fun e=>(zbs e a).bind fun b=>zdK ({x_w with Encoder:=some b.2.2}:zZ7) b.1 b.2.1 else if (x_w.z0v.Kind==1) then zbD x_w a true else zbD x_w a (x_w.z0v.Kind==2)
def zbT (a:zZW) (s1:Str) (i5:Int):Option (Str × zZW):=(sTo s1 i5).bind fun b=>some (b,a)
def zcG (a:zZW) (b:Str):Option (Str × zZW):=(zbh a.zZ9 (min a.zZ9 (b.length:Int))).bind fun c=>if (c==0) then zbT ({a with z0A:=2,zZ9:=2}:zZW) b (min a.zZ9 (b.length:Int)) else zbT ({a with zZ9:=c}:zZW) b (min a.zZ9 (b.length:Int))
def zcH (a:zZW):Option (Int × zZW):=some (0,a)
def zcI (a:zZW) (c:UInt8) (d:UInt8):Option (Int × zZW):=if (!(c==d)) then some (31,a) else (zbh a.zZ9 1).bind fun b=>if (b==0) then zcH ({a with z0A:=0,zZ9:=b}:zZW) else zcH ({a with zZ9:=b}:zZW)
def zdM (a:zZW) (b:UInt8):Option (Int × zZW):=if (a.zZ9==1) then zcI a b 10 else zcI a b 13
def zo0 (b:Str) (a:Int):Option (Int × Int):=(zkP b 16 a zek).bind fun c=>some (c.1,c.2)
def zl5 (c:zZ6):Option (Str × Bool × zZ6):=(zau c).bind fun a=>if a.2.1 then some (a.1,true,a.2.2) else (zji a.2.2).bind fun b=>some (b.1,b.2.1,b.2.2)
def zft (x_r:z0W):Option (z0K × Bool × zZ6):=(zau x_r.Scanner).bind fun a=>if (!a.2.1) then some ((⟨a.1,[],false⟩:z0K),a.2.1,a.2.2) else (zl a.2.2 61).bind fun b=>if (!b.1) then some ((⟨a.1,[],false⟩:z0K),a.2.1,b.2) else (zl5 b.2).bind fun c=>some ((⟨a.1,c.1,true⟩:z0K),c.2.1,c.2.2)
def zeP (e:Int) (b:Int):Nat→z0W→List z0K→Option (Int × List z0K × Int)
 | 0,_,_=>none
 | n+1,v5,c=>(zl v5.Scanner 59).bind fun d=>if d.1 then (zft (⟨d.2⟩:z0W)).bind fun a=>if (!a.2.1) then some (0,[],31) else if zf c.length ([a.1]:List z0K).length 40 then zeP e b n (⟨a.2.2⟩:z0W) (c++[a.1]) else none else (zbc d.2).bind fun f=>if (!f) then some (0,[],31) else if (b==2) then some (0,[],31) else if (!(b==0)) then some (0,[],b) else some (e,c,0)
def zjK (a:Str):Option (Int × List z0K × Int):=(zg5 a).bind fun d=>(zak d zek).bind fun b=>(zo0 b.1 1099511627776).bind fun c=>zeP c.1 c.2 fuel (⟨b.2⟩:z0W) []
def zef (a:zZW) (c:Str):Option (Int × zZW):=(zjK c).bind fun b=>if (!(b.2.2==0)) then some (b.2.2,a) else (zbh 1099511627776 a.z1m).bind fun d=>if (decide (d<b.1)) then some (7,a) else if (b.1==0) then some (0,({a with z0A:=3}:zZW)) else (zh a.z1m b.1).bind fun e=>some (0,({a with z0A:=1,zZ9:=b.1,z1m:=e}:zZW))
def zc1 (a:zZW) (b:Str):Option (Bool × Int × zZW):=if (b==[]) then some (true,0,a) else (zfb b).bind fun c=>if (!(c.2==0)) then some (false,c.2,a) else if (decide ((100:Int)≤(a.z09.length:Int))) then some (false,3,a) else if zf a.z09.length ([c.1]:List zZU).length 32 then some (false,0,({a with z09:=a.z09++[c.1]}:zZW)) else none
def zcJ (a:zZW) (b:UInt8) (g:Int) (i:Bool) (d:Bool):Option (Bool × Int × zZW):=if d then some (false,3,a) else if (!((b==10)==i)) then some (false,24,a) else if (!(b==10)) then if zf a.z1f.length ([b]:List UInt8).length 1 then some (false,0,({a with z1f:=a.z1f++[b]}:zZW)) else none else (zbh g 1).bind fun h=>(lTo a.z1f h).bind fun e=>if (a.z0A==0) then (zef ({a with z1f:=[]}:zZW) e).bind fun f=>some (false,f.1,f.2) else (zc1 ({a with z1f:=[]}:zZW) e).bind fun c=>some (c.1,c.2.1,c.2.2)
def zcK (a:zZW) (c:UInt8) (b:Int) (d:Bool):Option (Bool × Int × zZW):=if (decide ((4098:Int)≤b)) then zcJ a c b d true else zcJ a c b d (decide (a.z1b<a.z1g))
def zcL (a:zZW) (b:UInt8):Option (Bool × Int × zZW):=if (decide ((0:Int)<(a.z1f.length:Int))) then (zbh (a.z1f.length:Int) 1).bind fun d=>(lAt a.z1f d).bind fun c=>zcK a b (a.z1f.length:Int) (c==13) else zcK a b (a.z1f.length:Int) false
def zdN (a:zZW) (b:UInt8):Option (Bool × Int × zZW):=if (a.z0A==3) then (zh a.z1g 1).bind fun c=>zcL ({a with z1g:=c}:zZW) b else zcL a b
def zt (a:zZW) (b:Str):Option (Int × Str × Bool × Int × zZW):=if (a.z0A==1) then (zcG a b).bind fun c=>some ((c.1.length:Int),c.1,false,0,c.2) else if (a.z0A==2) then (sAt b 0).bind fun g=>(zdM a g).bind fun e=>some (1,[],false,e.1,e.2) else (sAt b 0).bind fun f=>(zdN a f).bind fun d=>some (1,[],d.1,d.2.1,d.2.2)
def zbU (a:zZW) (i4:Int) (d:Bool) (b:Int) (c:List UInt8):Option (Int × Str × Bool × Int × zZW):=some (i4,c,d,b,a)
def zbV (a:zZW) (i4:Int) (d:Bool) (b:Int) (c:List UInt8) (t51:Bool):Option (Int × Str × Bool × Int × zZW):=if t51 then zbU ({a with z0A:=4,z1f:=[]}:zZW) i4 d b c else zbU a i4 d b c
def zaK (g:zZW→Int→Bool→Int→List UInt8→Option (Int × Str × Bool × Int × zZW)) (a:zZW) (s1:Str) (i4:Int) (e:Bool) (d:Int) (c:List UInt8) (f:Bool):Option (Int × Str × Bool × Int × zZW):=if f then (zas s1 i4).bind fun h=>(zt a h).bind fun b=>if zf c.length b.2.1.length 1 then (zh i4 b.1).bind fun i=>g b.2.2.2.2 i b.2.2.1 b.2.2.2.1 (c++b.2.1) else none else if e then zbV a i4 e d c true else zbV a i4 e d c (!(d==0))
def zq (s1:Str):Nat→zZW→Int→Bool→Int→List UInt8→Option (Int × Str × Bool × Int × zZW)
 | 0,_,_,_,_,_=>none
 | n+1,a,i4,c,b,d=>if (decide (i4<(s1.length:Int))) then if (!c) then zaK (zq s1 n) a s1 i4 c b d (b==0) else zaK (zq s1 n) a s1 i4 c b d false else zaK (zq s1 n) a s1 i4 c b d false
def za7 (a:zZW) (b:Str):Option (Int × Str × Bool × Int × zZW):=if (a.z0A==4) then some (0,[],false,8,a) else zq b fuel a 0 false 0 []
def zfX (a:z0i) (i4:Int) (d:Str) (c:Bool) (b:Int):Option (Int × Str × Bool × Int × z0i):=some (i4,d,c,b,({a with z0V:=c,z1h := !(b==0)}:z0i))
def zfY (a:z0i) (s1:Str) (i4:Int):Option (Int × Str × Bool × Int × z0i):=(sTo s1 i4).bind fun b=>some (i4,b,a.z0V,0,a)
def zo (x_a0:z0i) (a:Str):Option (Int × Str × Bool × Int × z0i):=if x_a0.z0V then some (0,[],false,8,x_a0) else if x_a0.z1h then some (0,[],false,8,x_a0) else if (x_a0.z0v.Kind==3) then optK x_a0.Decoder ((zfr a).bind fun c=>zfX ({x_a0 with Decoder:=none}:z0i) c.1 c.2.1 c.2.2.1 c.2.2.2) fun e=>(za7 e a).bind fun b=>zfX ({x_a0 with Decoder:=some b.2.2.2.2}:z0i) b.1 b.2.1 b.2.2.1 b.2.2.2.1 else if (x_a0.z0v.Kind==2) then (zbh x_a0.zZ9 (min (a.length:Int) x_a0.zZ9)).bind fun d=>zfY ({x_a0 with zZ9:=d,z0V:=d==0}:z0i) a (min (a.length:Int) x_a0.zZ9) else zfY x_a0 a (a.length:Int)
def zp (a:zZR) (i5:Int) (e:Bool) (b:Int):Option (Int × zZR):=if (!(b==0)) then (zV a b).bind fun d=>some (i5,d) else if e then (zaY a).bind fun c=>some (i5,c) else some (i5,a)
def zy (c:zZR) (d:Int) (e:Bool) (a:Int) (f:Str):Option (Int × zZR):=(zae c [f]).bind fun b=>if (!(a==0)) then (zV b a).bind fun g=>some (d,g) else if e then (zao b).bind fun h=>some (d,h) else some (d,b)
def zW (a:zZR) (f:Int) (d:Str) (c:Bool) (b:Int):Option (Int × zZR):=optK a.zZT.z0b ((zeM d).bind fun g=>zy ({a with zZT:=(⟨a.zZT.Accum,a.zZT.z00,none⟩:zZ3)}:zZR) f c b g.1) fun h=>(zk h d).bind fun e=>zy ({a with zZT:=(⟨a.zZT.Accum,a.zZT.z00,some e.2.2⟩:zZ3)}:zZR) f c b e.1
def zK (a:zZR) (s1:Str) (f:Bool):Option (Int × zZR):=if f then optK a.zZT.Accum ((zgk s1).bind fun e=>zp ({a with zZT:=(⟨none,a.zZT.z00,a.zZT.z0b⟩:zZ3)}:zZR) e.1 e.2.1 e.2.2) fun h=>(zaV h s1).bind fun d=>zp ({a with zZT:=(⟨some d.2.2.2,a.zZT.z00,a.zZT.z0b⟩:zZ3)}:zZR) d.1 d.2.1 d.2.2.1 else optK a.zZT.z00 ((zim s1).bind fun c=>zW ({a with zZT:=(⟨a.zZT.Accum,none,a.zZT.z0b⟩:zZ3)}:zZR) c.1 c.2.1 c.2.2.1 c.2.2.2) fun g=>(zo g s1).bind fun b=>zW ({a with zZT:=(⟨a.zZT.Accum,some b.2.2.2.2,a.zZT.z0b⟩:zZ3)}:zZR) b.1 b.2.1 b.2.2.1 b.2.2.2.1
def ze (a:zZR) (b:Str):Option (Int × zZR):=optK a.zZT.z00 (zK ({a with zZT:=(⟨a.zZT.Accum,none,a.zZT.z0b⟩:zZ3)}:zZR) b true) fun c=>zK ({a with zZT:=(⟨a.zZT.Accum,some c,a.zZT.z0b⟩:zZ3)}:zZR) b false
def zC (e:List Str) (c:Int):Nat→zZR→Int→Option zZR
 | 0,_,_=>none
 | n+1,a,b=>if (decide (b<c)) then (lAt e b).bind fun d=>if zf a.zZ5.length d.length 1 then (zh b 1).bind fun f=>zC e c n ({a with zZ5:=a.zZ5++d}:zZR) f else none else some a
def zY (b:zZR) (a:List Str):Option zZR:=zC a (a.length:Int) fuel b 0
def zT (a:zZR):Option zZR:=some ({a with zZT:=(⟨none,none,none⟩:zZ3),zZS:=(⟨none,none,none⟩:zZ3),zZV:=true}:zZR)
def zO (b:zZR) (a:Int):Option zZR:=(zrs a).bind fun d=>(zY b [d]).bind fun c=>(zT c).bind fun e=>some e
def zar (a:zZR) (i2:Int) (b:Bool):Option zZR:=if b then (zO a 502).bind fun d=>some d else if (decide ((0:Int)<i2)) then some a else if (!(a.z0I==0)) then (zO a a.z0I).bind fun c=>some c else if a.z0y then (zT a).bind fun e=>some e else some a
def zaf (a:zZR) (i2:Int):Option zZR:=if a.zZV then some a else if (decide ((0:Int)<i2)) then if a.z0J then zar a i2 (!a.z0r) else zar a i2 false else zar a i2 false
def zg (x_g:zZR):Option zZR:=optK x_g.Queue (zfs.bind fun b=>zaf ({x_g with Queue:=none}:zZR) b) fun a=>(zd0 a).bind fun c=>zaf ({x_g with Queue:=some a}:zZR) c
def zaO (e:zZR→Int→Option (Int × Int × zZR)) (a:zZR) (s1:Str) (b:Int) (c:Bool):Option (Int × Int × zZR):=if c then (zas s1 b).bind fun g=>(ze a g).bind fun d=>(zh b d.1).bind fun h=>(zg d.2).bind fun f=>e f h else some (b,0,a)
def zi (s1:Str):Nat→zZR→Int→Option (Int × Int × zZR)
 | 0,_,_=>none
 | n+1,a,b=>if (decide (b<(s1.length:Int))) then (zI a).bind fun c=>zaO (zi s1 n) a s1 b c else zaO (zi s1 n) a s1 b false
def zM (a:zZR) (b:Str):Option (Int × Int × zZR):=if a.zZV then some (0,8,a) else if a.z0y then some (0,8,a) else zi b fuel a 0
def zbL (a:zZR):Option (Str × zZR):=some (a.zZ5,({a with zZ5:=[]}:zZR))
def zbo (a:zZR):Option (Str × zZR):=some (a.z0H,({a with z0H:=[]}:zZR))
def ziW:Option Int:=some 0
def ziq:Option Int:=some 0
def zbZ:Option Int:=some 0
def zfu:Option Int:=some 0
def zeg (a:z0e):Option Int:=some (a.z0D.length:Int)
def zbt (x_w:zZ7):Option Int:=optK x_w.Encoder (zfu.bind fun a=>some a) fun b=>(zeg b).bind fun c=>some c
def zfv:Option Int:=some 0
def zeh (a:zZW):Option Int:=some (a.z1f.length:Int)
def zgq (x_b:z0i):Option Int:=optK x_b.Decoder (zfv.bind fun a=>some a) fun b=>(zeh b).bind fun c=>some c
def zgW (a:zZ8):Option Int:=some (a.z0D.length:Int)
def zfw (x_s:zZ3):Option Int:=optK x_s.Accum (ziW.bind fun z=>optK x_s.z00 (ziq.bind fun E=>(zh z E).bind fun y=>optK x_s.z0b (zbZ.bind fun C=>(zh y C).bind fun G=>some G) fun D=>(zbt D).bind fun F=>(zh y F).bind fun o=>some o) fun A=>(zgq A).bind fun f=>(zh z f).bind fun d=>optK x_s.z0b (zbZ.bind fun l=>(zh d l).bind fun n=>some n) fun i=>(zbt i).bind fun r=>(zh d r).bind fun w=>some w) fun B=>(zgW B).bind fun c=>optK x_s.z00 (ziq.bind fun j=>(zh c j).bind fun a=>optK x_s.z0b (zbZ.bind fun x=>(zh a x).bind fun k=>some k) fun g=>(zbt g).bind fun u=>(zh a u).bind fun m=>some m) fun q=>(zgq q).bind fun h=>(zh c h).bind fun b=>optK x_s.z0b (zbZ.bind fun p=>(zh b p).bind fun v=>some v) fun e=>(zbt e).bind fun t=>(zh b t).bind fun s=>some s
def zcT (a:zZR):Option z08:=(zfw a.zZT).bind fun c=>(zfw a.zZS).bind fun b=>some (⟨c,b⟩:z08)
def zA (x_w:zZ0):Option zZ0:=(zbL x_w.Gateway).bind fun b=>if zf x_w.zZT.z0m.length b.1.length 1 then (zbo b.2).bind fun a=>if zf x_w.zZS.z0m.length a.1.length 1 then (zcT a.2).bind fun r3=>some (⟨a.2,(⟨x_w.zZT.z0B,x_w.zZT.z0n,x_w.zZT.z0R,x_w.zZT.z0U,x_w.zZT.z0m++b.1,x_w.zZT.z07,x_w.zZT.z1c⟩:z0M),(⟨x_w.zZS.z0B,x_w.zZS.z0n,x_w.zZS.z0R,x_w.zZS.z0U,x_w.zZS.z0m++a.1,x_w.zZS.z07,x_w.zZS.z1c⟩:z0M),(⟨max x_w.z0d.Client r3.Client,max x_w.z0d.Upstream r3.Upstream⟩:z08)⟩:zZ0) else none else none
def zfZ:Option (zZZ × Bool):=some ((⟨[],0,false⟩:zZZ),false)
def zmA (x_f:zZ4) (a:Int):Option zZ4:=if (x_f.Kind==1) then some x_f else if (x_f.Kind==2) then some x_f else if (a==1) then some (⟨3,0⟩:zZ4) else some (⟨4,0⟩:zZ4)
def zdO (a:z0X):Option (zZZ × Bool):=if ((a.z0N.length:Int)==0) then some ((⟨[],0,false⟩:zZZ),false) else (lAt a.z0N 0).bind fun b=>some (b,true)
def zaI (a:z0a):Option (zZZ × Bool):=(zdO a.z0l).bind fun b=>some (b.1,b.2)
def zhG:Option Bool:=some false
def zal (a:zZR) (c:Int):Option (Int × zZR):=(zbO 2 a.z0c.Head).bind fun b=>some (c,({a with zZS:=b}:zZR))
def zam (a:zZR) (c:Int) (d:Str) (b:Bool):Option (Int × zZR):=if b then (zY a [d]).bind fun r1=>zal (⟨r1.Queue,r1.z0O,r1.z0c,r1.z0C,r1.zZT,r1.zZS,r1.zZ5,r1.z0H,r1.z0I,r1.z0f,r1.z0y,r1.z0J,r1.z0r,r1.z0t,r1.z0u,r1.zZV⟩:zZR) c else zal a c
def za3 (a:zZR) (c:zZY) (x_t:zZZ):Option (Int × zZR):=(ziR a.z0O (⟨1,0⟩:zZ4) c a.z0C).bind fun d=>if (!(d.2==0)) then some (d.2,a) else (zjV d.1 a.z0c.Head).bind fun b=>if (b.2==0) then zam a b.2 b.1 (x_t.Minor==1) else zam a b.2 b.1 false
def zgr (v3:zZY):Option zZY:=some v3
def zl6 (x_h:zZY) (a:Bool) (b:Int):Option zZY:=if zf ([]:List zZU).length x_h.Fields.length 32 then if a then if zf (([]:List zZU)++x_h.Fields).length ([(⟨[67,111,110,110,101,99,116,105,111,110],[99,108,111,115,101]⟩:zZU)]:List zZU).length 32 then zgr ({x_h with Fields:=(([]:List zZU)++x_h.Fields)++([(⟨[67,111,110,110,101,99,116,105,111,110],[99,108,111,115,101]⟩:zZU)])}:zZY) else none else if (b==0) then if zf (([]:List zZU)++x_h.Fields).length ([(⟨[67,111,110,110,101,99,116,105,111,110],[107,101,101,112,45,97,108,105,118,101]⟩:zZU)]:List zZU).length 32 then zgr ({x_h with Fields:=(([]:List zZU)++x_h.Fields)++([(⟨[67,111,110,110,101,99,116,105,111,110],[107,101,101,112,45,97,108,105,118,101]⟩:zZU)])}:zZY) else none else zgr ({x_h with Fields:=([]:List zZU)++x_h.Fields}:zZY) else none
def zaZ (a:z0a):Option (Bool × z0a):=if ((a.z0l.z0N.length:Int)==0) then some (false,a) else (lAt a.z0l.z0N 0).bind fun c=>(zof a.z0l.z0N 1).bind fun b=>some (true,(⟨(⟨b,a.z0l.z0d⟩:z0X),a.z0t⟩:z0a))
def zag (a:zZR):Option zZR:=(zbO 2 a.z0c.Head).bind fun b=>if a.z0t then (zT ({a with zZS:=b}:zZR)).bind fun c=>some c else some ({a with zZS:=b}:zZR)
def zah (a:zZR):Option zZR:=if a.z0J then zag ({a with z0J:=true,z0r:=false}:zZR) else zag ({a with z0J:=a.z0u,z0r:=false}:zZR)
def zQ (a:zZR) (s2:Str):Option zZR:=(zY a [s2]).bind fun r1=>optK r1.Queue (zhG.bind fun d=>zah ({r1 with Queue:=none}:zZR)) fun c=>(zaZ c).bind fun b=>zah ({r1 with Queue:=some b.2}:zZR)
def zL (a:zZR):Option zZR:=optK a.zZS.z0b (optK a.zZS.z00 (zch.bind fun k=>(zci k).bind fun i=>zQ ({a with zZS:=(⟨a.zZS.Accum,none,none⟩:zZ3)}:zZR) i.1) fun d=>(zbI d).bind fun j=>(zci j).bind fun h=>zQ ({a with zZS:=(⟨a.zZS.Accum,some d,none⟩:zZ3)}:zZR) h.1) fun f=>optK a.zZS.z00 (zch.bind fun l=>(zbK f l).bind fun e=>zQ ({a with zZS:=(⟨a.zZS.Accum,none,some e.2.2⟩:zZ3)}:zZR) e.1) fun g=>(zbI g).bind fun c=>(zbK f c).bind fun b=>zQ ({a with zZS:=(⟨a.zZS.Accum,some g,some b.2.2⟩:zZ3)}:zZR) b.1
def zaC (a:zZR) (b:Bool):Option (Int × zZR):=if b then (zL a).bind fun c=>some (0,c) else some (0,a)
def zaD (a:zZR):Option (Int × zZR):=optK a.zZS.z00 (zio.bind fun c=>zaC ({a with zZS:=(⟨a.zZS.Accum,none,a.zZS.z0b⟩:zZ3)}:zZR) c) fun b=>(zgp b).bind fun d=>zaC ({a with zZS:=(⟨a.zZS.Accum,some b,a.zZS.z0b⟩:zZ3)}:zZR) d
def zaE (a:zZR) (v9:zZ4):Option (Int × zZR):=(zin v9 a.z0c.Chunk).bind fun c=>optK c.1 (zaD ({a with zZS:=(⟨a.zZS.Accum,a.zZS.z00,none⟩:zZ3)}:zZR)) fun b=>zaD ({a with zZS:=(⟨a.zZS.Accum,a.zZS.z00,some b⟩:zZ3)}:zZR)
def zaF (a:zZR) (v5:zZZ) (f:zZ4) (v9:zZ4) (d:zZY):Option (Int × zZR):=(zl6 d a.z0t v5.Minor).bind fun g=>(zjV g a.z0c.Head).bind fun c=>if (!(c.2==0)) then some (c.2,a) else (zY a [c.1]).bind fun b=>(zn9 f b.z0c.Head).bind fun e=>optK e.1 (zaE ({b with zZS:=(⟨b.zZS.Accum,none,b.zZS.z0b⟩:zZ3),z0r:=true}:zZR) v9) fun h=>zaE ({b with zZS:=(⟨b.zZS.Accum,some h,b.zZS.z0b⟩:zZ3),z0r:=true}:zZR) v9
def zaW (b:zZR) (v4:zZY) (v5:zZZ) (v7:zZ4) (v9:zZ4) (a:zZY):Option (Int × zZR):=(zqn v4).bind fun c=>if c then zaF ({b with z0u:=true}:zZR) v5 v7 v9 a else zaF ({b with z0u:=v7.Kind==4}:zZR) v5 v7 v9 a
def zbe (a:zZR) (b:zZY) (x_a2:zZZ):Option (Int × zZR):=(zdU x_a2.Method b).bind fun c=>if (!(c.2==0)) then some (c.2,a) else (zmA c.1 x_a2.Minor).bind fun r2=>(ziR a.z0O r2 b a.z0C).bind fun d=>if (!(d.2==0)) then some (d.2,a) else if x_a2.Close then zaW ({a with z0t:=true}:zZR) b x_a2 c.1 (⟨r2.Kind,r2.N⟩:zZ4) d.1 else zaW ({a with z0t:=r2.Kind==4}:zZR) b x_a2 c.1 (⟨r2.Kind,r2.N⟩:zZ4) d.1
def zab (a:zZR) (b:Int):Option zZR:=if (!(b==0)) then (zO a 502).bind fun c=>some c else some a
def zan (a:zZR) (v2:zZY) (v4:zZZ):Option zZR:=if (v2.Code==101) then zab a 20 else if (decide (v2.Code<200)) then (za3 a v2 v4).bind fun c=>zab c.2 c.1 else (zbe a v2 v4).bind fun b=>zab b.2 b.1
def zac (vp0:zZR) (v2:zZY):Option zZR:=optK vp0.Queue (zfZ.bind fun b=>zan ({vp0 with Queue:=none}:zZR) v2 b.1) fun a=>(zaI a).bind fun c=>zan ({vp0 with Queue:=some a}:zZR) v2 c.1
def zaL (a:zZR):Option zZR:=optK a.zZS.Accum (zes.bind fun b=>zac ({a with zZS:=(⟨none,a.zZS.z00,a.zZS.z0b⟩:zZ3)}:zZR) (⟨b.1.Kind,b.1.Method,b.1.Target,b.1.Code,b.1.Reason,b.1.Minor,b.1.Fields⟩:zZY)) fun c=>(zbH c).bind fun d=>zac ({a with zZS:=(⟨some c,a.zZS.z00,a.zZS.z0b⟩:zZ3)}:zZR) d.1
def zm (a:zZR) (i5:Int) (e:Bool) (c:Int):Option (Int × zZR):=if (!(c==0)) then (zO a 502).bind fun d=>some (i5,d) else if e then (zaL a).bind fun b=>some (i5,b) else some (i5,a)
def zu (c:zZR) (d:Int) (e:Bool) (a:Int) (f:Str):Option (Int × zZR):=(zY c [f]).bind fun b=>if (!(a==0)) then (zT b).bind fun g=>some (d,g) else if e then (zL b).bind fun h=>some (d,h) else some (d,b)
def zR (a:zZR) (f:Int) (d:Str) (c:Bool) (b:Int):Option (Int × zZR):=optK a.zZS.z0b ((zeM d).bind fun g=>zu ({a with zZS:=(⟨a.zZS.Accum,a.zZS.z00,none⟩:zZ3)}:zZR) f c b g.1) fun h=>(zk h d).bind fun e=>zu ({a with zZS:=(⟨a.zZS.Accum,a.zZS.z00,some e.2.2⟩:zZ3)}:zZR) f c b e.1
def zH (a:zZR) (s1:Str) (f:Bool):Option (Int × zZR):=if f then optK a.zZS.Accum ((zgk s1).bind fun e=>zm ({a with zZS:=(⟨none,a.zZS.z00,a.zZS.z0b⟩:zZ3)}:zZR) e.1 e.2.1 e.2.2) fun h=>(zaV h s1).bind fun d=>zm ({a with zZS:=(⟨some d.2.2.2,a.zZS.z00,a.zZS.z0b⟩:zZ3)}:zZR) d.1 d.2.1 d.2.2.1 else optK a.zZS.z00 ((zim s1).bind fun c=>zR ({a with zZS:=(⟨a.zZS.Accum,none,a.zZS.z0b⟩:zZ3)}:zZR) c.1 c.2.1 c.2.2.1 c.2.2.2) fun g=>(zo g s1).bind fun b=>zR ({a with zZS:=(⟨a.zZS.Accum,some b.2.2.2.2,a.zZS.z0b⟩:zZ3)}:zZR) b.1 b.2.1 b.2.2.1 b.2.2.2.1
def zj (a:zZR) (b:Str):Option (Int × zZR):=optK a.zZS.z00 (zH ({a with zZS:=(⟨a.zZS.Accum,none,a.zZS.z0b⟩:zZ3)}:zZR) b true) fun c=>zH ({a with zZS:=(⟨a.zZS.Accum,some c,a.zZS.z0b⟩:zZ3)}:zZR) b false
def zw (d:zZR→Int→Option (Int × Int × zZR)) (a:zZR) (s1:Str) (b:Int) (t46:Bool):Option (Int × Int × zZR):=if t46 then (zas s1 b).bind fun f=>(zj a f).bind fun c=>(zh b c.1).bind fun g=>(zg c.2).bind fun e=>d e g else some (b,0,a)
def za (s1:Str):Nat→zZR→Int→Option (Int × Int × zZR)
 | 0,_,_=>none
 | n+1,vp0,a=>if (decide (a<(s1.length:Int))) then if (!vp0.zZV) then if (!vp0.z0J) then optK vp0.Queue (zfs.bind fun c=>zw (za s1 n) ({vp0 with Queue:=none}:zZR) s1 a (decide ((0:Int)<c))) fun b=>(zd0 b).bind fun d=>zw (za s1 n) ({vp0 with Queue:=some b}:zZR) s1 a (decide ((0:Int)<d)) else zw (za s1 n) vp0 s1 a false else zw (za s1 n) vp0 s1 a false else zw (za s1 n) vp0 s1 a false
def zr (a:zZR) (b:Str):Option (Int × Int × zZR):=if a.zZV then some (0,8,a) else if a.z0J then some (0,8,a) else za b fuel a 0
def zG (a:zZR):Option (Int × zZR):=if a.zZV then some (8,a) else if a.z0y then some (8,a) else (zg ({a with zZT:=(⟨none,none,none⟩:zZ3),z0f:=true,z0y:=true}:zZR)).bind fun b=>some (0,b)
def zjo:Option (Bool × Int):=some (false,5)
def zgX (a:z0i):Option (Bool × Int × z0i):=some (true,0,a)
def zfc (a:z0i):Option (Bool × Int × z0i):=if (a.z0v.Kind==4) then zgX ({a with z0V:=true}:z0i) else if (!a.z0V) then some (false,6,a) else zgX a
def zP (a:zZR) (t3:Bool):Option (Int × zZR):=if t3 then (zL a).bind fun d=>(zg d).bind fun c=>some (0,c) else (zT a).bind fun e=>(zg e).bind fun b=>some (0,b)
def zn (a:zZR):Option (Int × zZR):=if a.zZV then some (8,a) else if a.z0J then some (8,a) else if a.z0r then optK a.zZS.z00 (zjo.bind fun d=>zP ({a with zZS:=(⟨a.zZS.Accum,none,a.zZS.z0b⟩:zZ3),z0J:=true}:zZR) d.1) fun e=>(zfc e).bind fun b=>zP ({a with zZS:=(⟨a.zZS.Accum,some b.2.2,a.zZS.z0b⟩:zZ3),z0J:=true}:zZR) b.1 else (zg ({a with z0J:=true}:zZR)).bind fun c=>some (0,c)
def zhh (a:zZ0) (i4:Int) (i5:Int):Option (Int × Int × Option zZ0):=some (i4,i5,some a)
def zfx (k:Option zZ0) (x_e:zZ2):Option (Int × Int × Option zZ0):=optK k (some (0,5,none)) fun r1=>(zff x_e).bind fun o=>if (!(o==0)) then some (0,o,some r1) else if (x_e.Kind==1) then (zas r1.zZT.z0B r1.zZT.z0n).bind fun n=>(sTo n (min x_e.N (n.length:Int))).bind fun s=>(zM r1.Gateway s).bind fun d=>(zh r1.zZT.z0n d.1).bind fun r=>(zA (⟨d.2.2,(⟨r1.zZT.z0B,r,r1.zZT.z0R,r1.zZT.z0U,r1.zZT.z0m,r1.zZT.z07,r1.zZT.z1c⟩:z0M),r1.zZS,r1.z0d⟩:zZ0)).bind fun q=>some (d.1,d.2.1,some q) else if (x_e.Kind==3) then (zas r1.zZS.z0B r1.zZS.z0n).bind fun p=>(sTo p (min x_e.N (p.length:Int))).bind fun t=>(zr r1.Gateway t).bind fun c=>(zh r1.zZS.z0n c.1).bind fun e=>(zA (⟨c.2.2,r1.zZT,(⟨r1.zZS.z0B,e,r1.zZS.z0R,r1.zZS.z0U,r1.zZS.z0m,r1.zZS.z07,r1.zZS.z1c⟩:z0M),r1.z0d⟩:zZ0)).bind fun i=>some (c.1,c.2.1,some i) else if (x_e.Kind==2) then (zas r1.zZT.z0B r1.zZT.z0n).bind fun f=>if (!(f==[])) then zhh r1 0 8 else (zG r1.Gateway).bind fun a=>if r1.zZT.z0U then (zA (⟨a.2,(⟨r1.zZT.z0B,r1.zZT.z0n,r1.zZT.z0R,true,r1.zZT.z0m,r1.zZT.z07,r1.zZT.z1c⟩:z0M),r1.zZS,r1.z0d⟩:zZ0)).bind fun h=>zhh h 0 a.1 else (zA (⟨a.2,(⟨r1.zZT.z0B,r1.zZT.z0n,r1.zZT.z0R,a.1==0,r1.zZT.z0m,r1.zZT.z07,r1.zZT.z1c⟩:z0M),r1.zZS,r1.z0d⟩:zZ0)).bind fun l=>zhh l 0 a.1 else (zas r1.zZS.z0B r1.zZS.z0n).bind fun m=>if (!(m==[])) then some (0,8,some r1) else (zn r1.Gateway).bind fun b=>if r1.zZS.z0U then (zA (⟨b.2,r1.zZT,(⟨r1.zZS.z0B,r1.zZS.z0n,r1.zZS.z0R,true,r1.zZS.z0m,r1.zZS.z07,r1.zZS.z1c⟩:z0M),r1.z0d⟩:zZ0)).bind fun j=>some (0,b.1,some j) else (zA (⟨b.2,r1.zZT,(⟨r1.zZS.z0B,r1.zZS.z0n,r1.zZS.z0R,b.1==0,r1.zZS.z0m,r1.zZS.z07,r1.zZS.z1c⟩:z0M),r1.z0d⟩:zZ0)).bind fun g=>some (0,b.1,some g)
def zbm (a:zZR):Option Bool:=some a.zZV
def zps (F:zZ0→Int→Int→Option (Int × Option zZ0)) (w:zZ0) (i3:Int):Option (Int × Option zZ0):=(zbm w.Gateway).bind fun n=>if n then some (i3,some w) else (zas w.zZS.z0B w.zZS.z0n).bind fun b=>(sTo b (min (w.zZS.z0B.length:Int) (b.length:Int))).bind fun l=>(zr w.Gateway l).bind fun a=>(zh w.zZS.z0n a.1).bind fun f=>(zA (⟨a.2.2,w.zZT,(⟨w.zZS.z0B,f,w.zZS.z0R,w.zZS.z0U,w.zZS.z0m,w.zZS.z07,w.zZS.z1c⟩:z0M),w.z0d⟩:zZ0)).bind fun r38=>if r38.zZS.z0R then if (!r38.zZS.z0U) then (zas r38.zZS.z0B r38.zZS.z0n).bind fun j=>if (j==[]) then (zas r38.zZS.z0B r38.zZS.z0n).bind fun i=>if (!(i==[])) then (zh i3 a.1).bind fun k=>F ({r38 with zZS:=(⟨r38.zZS.z0B,r38.zZS.z0n,r38.zZS.z0R,true,r38.zZS.z0m,r38.zZS.z07,r38.zZS.z1c⟩:z0M)}:zZ0) k 0 else (zn r38.Gateway).bind fun g=>(zA (⟨g.2,r38.zZT,(⟨r38.zZS.z0B,r38.zZS.z0n,r38.zZS.z0R,true,r38.zZS.z0m,r38.zZS.z07,r38.zZS.z1c⟩:z0M),r38.z0d⟩:zZ0)).bind fun h=>(zh i3 a.1).bind fun m=>F h m 0 else (zh i3 a.1).bind fun c=>if (decide ((0:Int)<a.1)) then F r38 c 0 else F r38 c 1 else (zh i3 a.1).bind fun d=>if (decide ((0:Int)<a.1)) then F r38 d 0 else F r38 d 1 else (zh i3 a.1).bind fun e=>if (decide ((0:Int)<a.1)) then F r38 e 0 else F r38 e 1
def zpt (F:zZ0→Int→Int→Option (Int × Option zZ0)) (w:zZ0) (i3 i4:Int):Option (Int × Option zZ0):=(zbm w.Gateway).bind fun h=>if h then some (i3,some w) else (zas w.zZS.z0B w.zZS.z0n).bind fun d=>(sTo d (min (w.zZS.z0B.length:Int) (d.length:Int))).bind fun k=>(zr w.Gateway k).bind fun a=>(zh w.zZS.z0n a.1).bind fun n=>(zA (⟨a.2.2,w.zZT,(⟨w.zZS.z0B,n,w.zZS.z0R,w.zZS.z0U,w.zZS.z0m,w.zZS.z07,w.zZS.z1c⟩:z0M),w.z0d⟩:zZ0)).bind fun r72=>if r72.zZS.z0R then if (!r72.zZS.z0U) then (zas r72.zZS.z0B r72.zZS.z0n).bind fun j=>if (j==[]) then (zas r72.zZS.z0B r72.zZS.z0n).bind fun f=>if (!(f==[])) then (zh i3 a.1).bind fun g=>(zh i4 1).bind fun s=>F ({r72 with zZS:=(⟨r72.zZS.z0B,r72.zZS.z0n,r72.zZS.z0R,true,r72.zZS.z0m,r72.zZS.z07,r72.zZS.z1c⟩:z0M)}:zZ0) g 0 else (zn r72.Gateway).bind fun m=>(zA (⟨m.2,r72.zZT,(⟨r72.zZS.z0B,r72.zZS.z0n,r72.zZS.z0R,true,r72.zZS.z0m,r72.zZS.z07,r72.zZS.z1c⟩:z0M),r72.z0d⟩:zZ0)).bind fun p=>(zh i3 a.1).bind fun i=>(zh i4 1).bind fun r=>F p i 0 else (zh i3 a.1).bind fun e=>(zh i4 1).bind fun q=>if (decide ((0:Int)<a.1)) then F r72 e 0 else F r72 e q else (zh i3 a.1).bind fun b=>(zh i4 1).bind fun o=>if (decide ((0:Int)<a.1)) then F r72 b 0 else F r72 b o else (zh i3 a.1).bind fun c=>(zh i4 1).bind fun l=>if (decide ((0:Int)<a.1)) then F r72 c 0 else F r72 c l
def zru (F:zZ0→Int→Int→Option (Int × Option zZ0)) (vp0:zZ0) (i3 i4:Int):Option (Int × Option zZ0):=(zbm vp0.Gateway).bind fun q=>if q then some (i3,some vp0) else (zas vp0.zZT.z0B vp0.zZT.z0n).bind fun l=>(sTo l (min (vp0.zZT.z0B.length:Int) (l.length:Int))).bind fun o=>(zM vp0.Gateway o).bind fun a=>(zh vp0.zZT.z0n a.1).bind fun n=>(zA (⟨a.2.2,(⟨vp0.zZT.z0B,n,vp0.zZT.z0R,vp0.zZT.z0U,vp0.zZT.z0m,vp0.zZT.z07,vp0.zZT.z1c⟩:z0M),vp0.zZS,vp0.z0d⟩:zZ0)).bind fun r7=>if r7.zZT.z0R then if (!r7.zZT.z0U) then (zas r7.zZT.z0B r7.zZT.z0n).bind fun s=>if (s==[]) then (zas r7.zZT.z0B r7.zZT.z0n).bind fun p=>if (!(p==[])) then (zh i3 a.1).bind fun i=>(zh i4 1).bind fun m=>zps F ({r7 with zZT:=(⟨r7.zZT.z0B,r7.zZT.z0n,r7.zZT.z0R,true,r7.zZT.z0m,r7.zZT.z07,r7.zZT.z1c⟩:z0M)}:zZ0) i else (zG r7.Gateway).bind fun h=>(zA (⟨h.2,(⟨r7.zZT.z0B,r7.zZT.z0n,r7.zZT.z0R,true,r7.zZT.z0m,r7.zZT.z07,r7.zZT.z1c⟩:z0M),r7.zZS,r7.z0d⟩:zZ0)).bind fun f=>(zh i3 a.1).bind fun j=>(zh i4 1).bind fun r=>zps F f j else (zh i3 a.1).bind fun d=>(zh i4 1).bind fun k=>if (decide ((0:Int)<a.1)) then zps F r7 d else zpt F r7 d k else (zh i3 a.1).bind fun e=>(zh i4 1).bind fun g=>if (decide ((0:Int)<a.1)) then zps F r7 e else zpt F r7 e g else (zh i3 a.1).bind fun b=>(zh i4 1).bind fun c=>if (decide ((0:Int)<a.1)) then zps F r7 b else zpt F r7 b c
def zcU:Nat→zZ0→Int→Int→Option (Int × Option zZ0)
 | 0,_,_,_=>none
 | n+1,a,i3,i4=>if (decide (i4<2)) then zru (zcU n) a i3 i4 else some (i3,some a)
def zgs (a:Option zZ0):Option (Int × Option zZ0):=optK a (some (0,none)) fun b=>zcU fuel b 0 0
def zly (a:Option zZ0):Option (z01 × Option zZ0):=optK a (some ((⟨[],[],0,0,(⟨0,0⟩:z08),false⟩:z01),none)) fun r1=>(zbm r1.Gateway).bind fun b=>some ((⟨r1.zZT.z0m,r1.zZS.z0m,r1.zZT.z0n,r1.zZS.z0n,r1.z0d,b⟩:z01),some r1)
def zkd (b:List zZ2) (a:Int):Nat→Option zZ0→Int→Option (z01 × Int)
 | 0,_,_=>none
 | n+1,c,i20=>if (decide (i20<a)) then (lAt b i20).bind fun f=>(zfx c f).bind fun e=>(zh i20 1).bind fun h=>zkd b a n e.2.2 h else (zgs c).bind fun d=>(zly d.2).bind fun g=>some (g.1,0)
def zir (v1:z0q) (a:Option zZ0) (i5:Int):Option (z01 × Int):=if (!(i5==0)) then some ((⟨[],[],0,0,(⟨0,0⟩:z08),false⟩:z01),i5) else zkd v1.Events (v1.Events.length:Int) fuel a 0
def zoc (a:z0q):Option (z01 × Int):=(zeI a).bind fun b=>optK b.1 (zir a none b.2) fun c=>zir a (some c) b.2
def zhu (v8:z01) (a:Bool) (b:Bool):Option (Bool × Int):=if a then if v8.Closed then some (true,0) else some (b,0) else some (false,0)
def zjp (v8:z01) (v10:z01) (a:Bool):Option (Bool × Int):=if (v8.Upstream==v10.Upstream) then if (v8.ReadClient==v10.ReadClient) then zhu v8 a (v8.ReadUpstream==v10.ReadUpstream) else zhu v8 a false else zhu v8 a false
def zis (a:z0q) (d:List zZ2) (e:List zZ2):Option (Bool × Int):=(zqj a d).bind fun f=>(zoc f).bind fun b=>if (!(b.2==0)) then some (false,b.2) else (zqj a e).bind fun g=>(zoc g).bind fun c=>if (!(c.2==0)) then some (false,c.2) else if (b.1.Client==c.1.Client) then zjp b.1 c.1 (b.1.Closed==c.1.Closed) else zjp b.1 c.1 false
def zpu (x_e:zZ2):Option Bool:=some (decide ((0:Int)<x_e.N))
def zev (c:List zZ2) (i9:Int):Nat→List zZ2→Int→Option (List zZ2)
 | 0,_,_=>none
 | n+1,b,a=>if (decide (a<i9)) then (lAt c a).bind fun d=>(zpu d).bind fun e=>if e then if zf b.length ([d]:List zZ2).length 16 then (zh a 1).bind fun g=>zev c i9 n (b++[d]) g else none else (zh a 1).bind fun f=>zev c i9 n b f else some b
def zpv (a:List zZ2):Option (List zZ2):=zev a (a.length:Int) fuel [] 0
def zo1 (x_s:z0q):Option (List zZ2):=(zpv [(⟨1,min (x_s.Client.length:Int) 1048576⟩:zZ2),(⟨3,min (x_s.Upstream.length:Int) 1048576⟩:zZ2)]).bind fun a=>some a
def zd1 (v2:z0q) (d:List zZ2) (f:List zZ2):Option Bool:=(zgz v2).bind fun e=>(znx d).bind fun g=>(zis v2 d g).bind fun a=>(zo1 v2).bind fun h=>(zis v2 f h).bind fun c=>(zis v2 d f).bind fun b=>if (!(e==0)) then if (!a.1) then if (!c.1) then if (!b.1) then if (a.2==e) then if (c.2==a.2) then some (b.2==a.2) else some false else some false else some false else some false else some false else if a.1 then if c.1 then if b.1 then if (a.2==0) then if (c.2==0) then some (b.2==0) else some false else some false else some false else some false else some false
def ziX (b:z0q) (a:Int):Option Bool:=zKH.bind fun e=>if (!e) then some false else (znw b).bind fun r2=>(znx r2.Events).bind fun d=>(zlu r2 a).bind fun c=>if (!(c.2==0)) then zd1 r2 d [] else zd1 r2 d c.1
end
end Go.Dm
