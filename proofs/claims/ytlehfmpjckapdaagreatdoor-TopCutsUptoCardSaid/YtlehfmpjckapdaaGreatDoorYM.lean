/- The models of the functions: written by a program (wip/gen) off the translation. No program in sight. -/
import Derived.Test.YtlehfmpjckapdaaGreatDoorTSplit
import Derived.Test.YtlehfmpjckapdaaGreatDoorYRun
set_option linter.unusedVariables false
set_option linter.unusedSimpArgs false
set_option linter.unusedVariables false
set_option maxRecDepth 100000
namespace Go.Dm
noncomputable section
open Go.Rk
def ld4 {α β:Type} (i:Int) (v:α × α × α × α) (k:α→Option β):Option β:=if isN i 0 then k v.1 else if isN i 1 then k v.2.1 else if isN i 2 then k v.2.2.1 else if isN i 3 then k v.2.2.2 else none
def st4 {α β:Type} (i:Int) (v:α × α × α × α) (r:α) (k:α × α × α × α→Option β):Option β:=if isN i 0 then k (r,v.2.1,v.2.2.1,v.2.2.2) else if isN i 1 then k (v.1,r,v.2.2.1,v.2.2.2) else if isN i 2 then k (v.1,v.2.1,r,v.2.2.2) else if isN i 3 then k (v.1,v.2.1,v.2.2.1,r) else none
structure zZI where
 Client:Str
 Host:Str
 Scheme:Str
 By:Str
 Domains:List zZJ
 Locations:List zZJ
deriving DecidableEq
structure z0l where
 Head:Int
 Chunk:Int
 Queue:Int
deriving DecidableEq
structure z0m where
 Kind:Int
 Name:Str
 Value:Str
deriving DecidableEq
structure zZu where
 Side:Int
 Guard:z0m
 Kind:Int
 Name:Str
 To:Str
 Parts:List zZq
deriving DecidableEq
structure zZV where
 Env:zZI
 Caps:z0l
 Rules:List zZu
 Client:Str
 Upstream:Str
 ClientEnds:Bool
 UpstreamEnds:Bool
 Events:List zZL
deriving DecidableEq
structure ref44_Setup where
 Env:zZI
 Caps:z0l
 Rules:List zZu
deriving DecidableEq
structure zZR where
 Proto:Str
 Version:Str
 By:Str
 Comment:Str
deriving DecidableEq
structure zZ8 where
 Kind:Int
 Name:Str
 Port:Int
deriving DecidableEq
structure zZT where
 Scheme:Str
 Auth:Str
 Path:Str
 Query:Str
 Frag:Str
 HasAuth:Bool
 HasQuery:Bool
 HasFrag:Bool
deriving DecidableEq
structure zZy where
 z0w:Str
 zZ4:Int
deriving DecidableEq
structure z0u where
 Scanner:zZy
deriving DecidableEq
structure zZs where
 Method:Str
 Minor:Int
 Close:Bool
deriving DecidableEq
structure z0q where
 z0g:List zZs
 zZE:Int
deriving DecidableEq
structure zZC where
 zZQ:z0q
 zZW:Bool
deriving DecidableEq
structure zZr where
 Kind:Int
 Method:Str
 Target:Str
 Code:Int
 Reason:Str
 Minor:Int
 Fields:List zZn
deriving DecidableEq
structure zZA where
 z0O:Int
 z0E:Int
 zZ6:List UInt8
 z0C:Int
 z0L:Bool
 z0K:Int
 f_whole:Bool
 z0G:zZr
deriving DecidableEq
structure zZp where
 z0E:Int
 zZ4:Int
 z0I:List UInt8
 zZB:Int
 z0P:Int
 z0J:Int
 z0B:List zZn
deriving DecidableEq
structure zZw where
 Kind:Int
 N:Int
deriving DecidableEq
structure zZK where
 Decoder:Option zZp
 zZY:zZw
 zZB:Int
 z0n:Bool
 z0K:Bool
deriving DecidableEq
structure zZG where
 z0H:Int
 zZ6:Str
 z0n:Bool
deriving DecidableEq
structure zZz where
 Encoder:Option zZG
 zZY:zZw
 zZB:Int
 z0n:Bool
deriving DecidableEq
structure zZv where
 Accum:Option zZA
 z0t:Option zZK
 zZD:Option zZz
deriving DecidableEq
structure zZk where
 Queue:Option zZC
 z0h:zZI
 zZF:z0l
 zZ5:List zZu
 zZm:zZv
 zZl:zZv
 zZx:List UInt8
 z0a:List UInt8
 z0b:Int
 zZH:Bool
 zZ3:Bool
 z0c:Bool
 zZU:Bool
 zZW:Bool
 zZX:Bool
 zZo:Bool
deriving DecidableEq
structure zZ7 where
 Scanner:zZy
 zZD:List zZq
deriving DecidableEq
structure z0f where
 zZ1:Str
 zZP:Int
 z0k:Bool
 z0j:Bool
 zZN:List UInt8
 z0A:Unit
 z0F:Unit
structure z0D where
 Client:Int
 Upstream:Int
deriving DecidableEq
structure zZt where
 Gateway:zZk
 zZm:z0f
 zZl:z0f
 zZE:z0D
structure z0v where
 Client:Str
 Upstream:Str
 ReadClient:Int
 ReadUpstream:Int
 Most:z0D
 Closed:Bool
deriving DecidableEq
structure zZZ where
 z0g:List zZn
deriving DecidableEq
structure z0x where
 Bag:zZZ
 z0T:Int
deriving DecidableEq
structure zZM where
 Scanner:zZy
 zZD:List Str
 z0C:Int
 z0w:Str
deriving DecidableEq
structure z0s where
 Scanner:zZy
 zZD:List UInt8
deriving DecidableEq
structure zZ9 where
 Kind:Int
 Scheme:Str
 Host:zZ8
 Path:Str
 Query:Str
 HasQuery:Bool
deriving DecidableEq
structure z0o where
 Bag:zZZ
 z0Q:zZr
deriving DecidableEq
structure z0d where
 Name:Str
 Value:Str
 Has:Bool
deriving DecidableEq
structure zZO where
 Name:Str
 Value:Str
 Attrs:List z0d
deriving DecidableEq
structure zZ2 where
 Name:Str
 Value:Str
deriving DecidableEq
structure z0r where
 Kind:Int
 Name:Str
 Text:Str
 Parts:List zZq
 N:Int
deriving DecidableEq
structure zZ0 where
 zZD:List z0r
deriving DecidableEq
structure zZS where
 Bag:zZZ
 z0N:List zZ2
 z0M:Int
deriving DecidableEq
structure z0i where
 Scanner:zZy
deriving DecidableEq
structure z0e where
 z0R:List UInt8
 zZE:Int
deriving DecidableEq
structure z0y where
 Quill:z0e
 z0S:Bool
deriving DecidableEq
structure z0z where
 Head:zZr
 Frame:zZw
 Body:Str
 Trailers:List zZn
deriving DecidableEq
structure z0p where
 Scanner:zZy
deriving DecidableEq
def zJT:Option Bool:=some true
def znW (x_x:zZJ):Option zZJ:=(sTo x_x.From (min (x_x.From.length:Int) 60)).bind fun b=>(sTo x_x.To (min (x_x.To.length:Int) 60)).bind fun a=>some (⟨b,a⟩:zZJ)
def zvV (b:(Str × Str × Str × Str)→Int→Option zZI) (v3:Str × Str × Str × Str) (i4:Int):Option zZI:=(zi i4 1).bind fun a=>b v3 a
def zng (f:zZI→Int→Option zZI) (v1:zZI) (v5:zZI) (b:Int) (a:Bool):Option zZI:=if a then (lAt v1.Locations b).bind fun d=>(znW d).bind fun c=>if zf v5.Locations.length ([c]:List zZJ).length 32 then (zi b 1).bind fun e=>f ({v5 with Locations:=v5.Locations++[c]}:zZI) e else none else some v5
def zgA (v1:zZI):Nat→zZI→Int→Option zZI
 | 0,_,_=>none
 | n+1,v5,a=>if (decide (a<(v1.Locations.length:Int))) then zng (zgA v1 n) v1 v5 a (decide (a<6)) else zng (zgA v1 n) v1 v5 a false
def znh (e:zZI→Int→Option zZI) (v1:zZI) (v5:zZI) (b:Int) (a:Bool):Option zZI:=if a then (lAt v1.Domains b).bind fun d=>(znW d).bind fun c=>if zf v5.Domains.length ([c]:List zZJ).length 32 then (zi b 1).bind fun f=>e ({v5 with Domains:=v5.Domains++[c]}:zZI) f else none else zgA v1 fuel v5 0
def zd3 (v1:zZI):Nat→zZI→Int→Option zZI
 | 0,_,_=>none
 | n+1,v5,a=>if (decide (a<(v1.Domains.length:Int))) then znh (zd3 v1 n) v1 v5 a (decide (a<6)) else znh (zd3 v1 n) v1 v5 a false
def zvW (a:zZI) (v5:zZI):Option zZI:=zd3 a fuel v5 0
def zaW (d:zZI):Nat→(Str × Str × Str × Str)→Int→Option zZI
 | 0,_,_=>none
 | n+1,v3,i4=>if (decide (i4<4)) then ld4 i4 v3 fun b=>ld4 i4 v3 fun c=>(sTo b (min (c.length:Int) 60)).bind fun a=>st4 i4 v3 a fun w0=>zvV (zaW d n) w0 i4 else ld4 0 v3 fun e=>ld4 1 v3 fun b=>ld4 2 v3 fun c=>ld4 3 v3 fun w0=>zvW d (⟨e,b,c,w0,[],[]⟩:zZI)
def zts (x_a0:zZI):Option zZI:=zaW x_a0 fuel (x_a0.Client,x_a0.Host,x_a0.Scheme,x_a0.By) 0
def zni (g:List zZJ→Int→Option (List zZJ)) (a:List zZJ) (c:List zZJ) (i4:Int) (b:Bool):Option (List zZJ):=if b then (lAt a i4).bind fun r1=>(lAt a i4).bind fun r2=>(sTo r1.From (min (r2.From.length:Int) 60)).bind fun d=>(lAt a i4).bind fun r4=>(lAt a i4).bind fun r5=>(sTo r4.To (min (r5.To.length:Int) 60)).bind fun e=>if zf c.length ([(⟨d,e⟩:zZJ)]:List zZJ).length 32 then (zi i4 1).bind fun f=>g (c++[(⟨d,e⟩:zZJ)]) f else none else some c
def zgB (a:List zZJ):Nat→List zZJ→Int→Option (List zZJ)
 | 0,_,_=>none
 | n+1,b,i4=>if (decide (i4<(a.length:Int))) then zni (zgB a n) a b i4 (decide (i4<70)) else zni (zgB a n) a b i4 false
def zpS (a:List zZJ):Option (List zZJ):=zgB a fuel [] 0
def ztt (x_env:zZI):Option zZI:=(zts x_env).bind fun a=>(zpS x_env.Domains).bind fun b=>(zpS x_env.Locations).bind fun c=>some ({a with Domains:=b,Locations:=c}:zZI)
def znj (f:List zZq→Int→Option (List zZq)) (c:List zZq) (b:List zZq) (i4:Int) (a:Bool):Option (List zZq):=if a then (lAt c i4).bind fun r1=>(lAt c i4).bind fun r2=>(lAt c i4).bind fun r3=>(sTo r2.Text (min (r3.Text.length:Int) 60)).bind fun d=>if zf b.length ([(⟨r1.Kind,d⟩:zZq)]:List zZq).length 24 then (zi i4 1).bind fun e=>f (b++[(⟨r1.Kind,d⟩:zZq)]) e else none else some b
def zgC (a:List zZq):Nat→List zZq→Int→Option (List zZq)
 | 0,_,_=>none
 | n+1,b,i4=>if (decide (i4<(a.length:Int))) then znj (zgC a n) a b i4 (decide (i4<40)) else znj (zgC a n) a b i4 false
def zpT (a:List zZq):Option (List zZq):=zgC a fuel [] 0
def zvX (b:(Str × Str × Str × Str)→Int→Option zZu) (v3:Str × Str × Str × Str) (i4:Int):Option zZu:=(zi i4 1).bind fun a=>b v3 a
def znk (v1:zZu):Option zZu:=(zpT v1.Parts).bind fun a=>some ({v1 with Parts:=a}:zZu)
def zvY (v1:zZu) (v3:Str × Str × Str × Str):Option zZu:=ld4 3 v3 fun w0=>znk ({v1 with Guard:=(⟨v1.Guard.Kind,v1.Guard.Name,w0⟩:z0m)}:zZu)
def zvZ (v1:zZu) (v3:Str × Str × Str × Str):Option zZu:=ld4 2 v3 fun w0=>zvY ({v1 with Guard:=(⟨v1.Guard.Kind,w0,v1.Guard.Value⟩:z0m)}:zZu) v3
def zv0 (a:zZu) (v3:Str × Str × Str × Str):Option zZu:=ld4 1 v3 fun w0=>zvZ ({a with To:=w0}:zZu) v3
def za3 (b:zZu):Nat→(Str × Str × Str × Str)→Int→Option zZu
 | 0,_,_=>none
 | n+1,v3,i4=>if (decide (i4<4)) then ld4 i4 v3 fun c=>ld4 i4 v3 fun d=>(sTo c (min (d.length:Int) 60)).bind fun a=>st4 i4 v3 a fun w0=>zvX (za3 b n) w0 i4 else ld4 0 v3 fun w0=>zv0 ({b with Name:=w0}:zZu) v3
def ztu (x_r:zZu):Option zZu:=za3 x_r fuel (x_r.Name,x_r.To,x_r.Guard.Name,x_r.Guard.Value) 0
def znl (g:List zZu→Int→Option (List zZu)) (f:List zZu) (b:List zZu) (i4:Int) (a:Bool):Option (List zZu):=if a then (lAt f i4).bind fun d=>(ztu d).bind fun c=>if zf b.length ([c]:List zZu).length 112 then (zi i4 1).bind fun e=>g (b++[c]) e else none else some b
def zgD (a:List zZu):Nat→List zZu→Int→Option (List zZu)
 | 0,_,_=>none
 | n+1,b,i4=>if (decide (i4<(a.length:Int))) then znl (zgD a n) a b i4 (decide (i4<70)) else znl (zgD a n) a b i4 false
def ztv (a:List zZu):Option (List zZu):=zgD a fuel [] 0
def zky:Nat→List zZu→Int→Option (List zZu)
 | 0,_,_=>none
 | n+1,a,i4=>if (decide (i4<(a.length:Int))) then (lAt a i4).bind fun r1=>(lAt a i4).bind fun r2=>(lTo r1.Parts (min (r2.Parts.length:Int) 4)).bind fun b=>(lAt a i4).bind fun c=>(zxe a i4 ({c with Parts:=b}:zZu)).bind fun e=>(zi i4 1).bind fun d=>zky n e d else some a
def ztw (a:List zZu):Option (List zZu):=(ztv a).bind fun b=>zky fuel b 0
def znL (x_s:zZV):Option zZV:=(ztt x_s.Env).bind fun a=>(ztw x_s.Rules).bind fun b=>(sTo x_s.Client (min (x_s.Client.length:Int) 3000)).bind fun c=>(sTo x_s.Upstream (min (x_s.Upstream.length:Int) 3000)).bind fun d=>(lTo x_s.Events (min (x_s.Events.length:Int) 150)).bind fun e=>some (⟨a,x_s.Caps,b,c,d,x_s.ClientEnds,x_s.UpstreamEnds,e⟩:zZV)
def zoH (x_s:zZV):Option ref44_Setup:=some (⟨x_s.Env,x_s.Caps,x_s.Rules⟩:ref44_Setup)
def zf2 (b:Str) (e:UInt8):Nat→List Str→Int→Int→Option (List Str)
 | 0,_,_,_=>none
 | n+1,c,d,a=>if (decide (a<(b.length:Int))) then (sAt b a).bind fun h=>if (h==e) then (zlF b d a).bind fun f=>if zf c.length ([f]:List Str).length 16 then (zi a 1).bind fun i=>(zi a 1).bind fun j=>zf2 b e n (c++[f]) i j else none else (zi a 1).bind fun k=>zf2 b e n c d k else (zar b d).bind fun g=>if zf c.length ([g]:List Str).length 16 then some (c++[g]) else none
def zj6 (b:Str) (a:UInt8):Option (List Str):=zf2 b a fuel [] 0 0
def znX (b:UInt8) (c:Int) (d:Str) (e:Str):Nat→Int→Option Int
 | 0,_=>none
 | n+1,a=>if (decide (a<c)) then (sAt d a).bind fun f=>if (f==b) then some a else (sAt e a).bind fun g=>if (g==b) then some a else (zi a 1).bind fun h=>znX b c d e n h else some (-1)
def zmr (b:UInt8) (a:Int):Option Int:=znX b a [48,49,50,51,52,53,54,55,56,57,97,98,99,100,101,102] [48,49,50,51,52,53,54,55,56,57,65,66,67,68,69,70] fuel 0
def zeu:Nat→Int→Int→Option Str
 | 0,_,_=>none
 | n+1,b,a=>if (decide (b<a)) then (zi b 1).bind fun c=>(zlF [48,49,50,51,52,53,54,55,56,57,97,98,99,100,101,102] b c).bind fun f=>some f else (zD2 b a).bind fun g=>(zeu n g a).bind fun h=>(zGy b a).bind fun k=>(zGy b a).bind fun i=>(zi i 1).bind fun d=>(zlF [48,49,50,51,52,53,54,55,56,57,97,98,99,100,101,102] k d).bind fun j=>(zci h j).bind fun e=>some e
def ziu (b:Int) (a:Int):Option Str:=zeu fuel b a
def zkz (d:Str→Int→Option (Str × Bool)) (e:Int) (c:Str) (b:Int) (g:Int) (a:Bool):Option (Str × Bool):=if a then (ziu g e).bind fun f=>(zci c f).bind fun h=>(zi b 1).bind fun i=>d h i else (zi b 1).bind fun j=>d c j
def zev (a:Str) (b:Int):Nat→Str→Int→Option (Str × Bool)
 | 0,_,_=>none
 | n+1,c,d=>if (decide (d<(a.length:Int))) then (sAt a d).bind fun f=>(zmr f b).bind fun e=>if (decide (e<0)) then some ([],false) else if (!(c==[])) then zkz (zev a b n) b c d e true else zkz (zev a b n) b c d e (decide ((0:Int)<e)) else if (c==[]) then some ([48], !(a==[])) else some (c, !(a==[]))
def zoI (b:Str) (a:Int):Option (Str × Bool):=zev b a fuel [] 0
def zqD (a:Str) (b:Str):Option Bool:=if (decide ((a.length:Int)<(b.length:Int))) then some true else if ((a.length:Int)==(b.length:Int)) then some (zjo a b) else some false
def zja (c:Int) (d:Str):Nat→Int→Int→Option (Int × Int)
 | 0,_,_=>none
 | n+1,b,a=>if (decide (a<(d.length:Int))) then (zIw b c).bind fun e=>(sAt d a).bind fun f=>(zmr f c).bind fun g=>(zi e g).bind fun h=>(zi a 1).bind fun i=>zja c d n h i else some (b,0)
def zqE (d:Str) (a:Int) (b:Int):Option (Int × Int):=(zoI d a).bind fun c=>if (!c.2) then some (0,2) else if (decide (b<0)) then some (0,7) else (ziu b a).bind fun e=>(zqD e c.1).bind fun f=>if f then some (0,7) else zja a c.1 fuel 0 0
def zqF (b:Int) (a:Int):Option Str:=if (decide (b<0)) then some [] else (ziu b a).bind fun c=>some c
def zms (b:Str) (a:Int):Option Int:=if (decide ((5:Int)<(b.length:Int))) then some (-1) else (zqE b 10 a).bind fun c=>if (!(c.2==0)) then some (-1) else (zqF c.1 10).bind fun d=>if (!(d==b)) then some (-1) else some c.1
def zjb (a:List Str):Nat→Int→Option Bool
 | 0,_=>none
 | n+1,i4=>if (decide (i4<(a.length:Int))) then (lAt a i4).bind fun b=>(zms b 255).bind fun c=>if (decide (c<0)) then some false else (zi i4 1).bind fun d=>zjb a n d else some ((a.length:Int)==4)
def zjT (a:Str):Option Bool:=(zj6 a 46).bind fun b=>zjb b fuel 0
def zj7 (a:UInt8) (s1:Str):Nat→Int→Option Bool
 | 0,_=>none
 | n+1,i5=>if (decide (i5<(s1.length:Int))) then (sAt s1 i5).bind fun b=>if (b==a) then some true else (zi i5 1).bind fun c=>zj7 a s1 n c else some false
def zf3 (b:UInt8) (a:Str):Option Bool:=zj7 b a fuel 0
def ziv (a:UInt8):Option Bool:=(zf3 a [48,49,50,51,52,53,54,55,56,57,97,98,99,100,101,102,65,66,67,68,69,70]).bind fun b=>some b
def zhK (c:Int→Int→Option Bool) (a:List Str) (i4:Int) (i5:Int):Nat→Int→Option Bool
 | 0,_=>none
 | n+1,b=>(lAt a i5).bind fun d=>if (decide (b<(d.length:Int))) then (lAt a i5).bind fun g=>(sAt g b).bind fun h=>(ziv h).bind fun i=>if (!i) then some false else (zi b 1).bind fun k=>zhK c a i4 i5 n k else (lAt a i5).bind fun j=>if (decide ((j.length:Int)<1)) then some false else (lAt a i5).bind fun e=>if (decide ((4:Int)<(e.length:Int))) then some false else (zi i4 1).bind fun l=>(zi i5 1).bind fun f=>c l f
def zkA (b:Int→Int→Option Bool) (d:List Str) (i4:Int) (i5:Int) (a:Bool):Option Bool:=if a then (zi i4 2).bind fun c=>(zi i5 1).bind fun e=>b c e else zhK b d i4 i5 fuel 0
def zds (a:List Str):Nat→Int→Int→Option Bool
 | 0,_,_=>none
 | n+1,i4,i5=>if (decide (i5<(a.length:Int))) then (zbt (a.length:Int) 1).bind fun b=>if (i5==b) then (lAt a i5).bind fun c=>(zjT c).bind fun d=>zkA (zds a n) a i4 i5 d else zkA (zds a n) a i4 i5 false else some (i4==8)
def zmt (a:Str):Option Bool:=(zj6 a 58).bind fun b=>zds b fuel 0 0
def znm (e:Str→Int→Option Bool) (b:Str) (c:Int):Option Bool:=(zci b [48]).bind fun a=>(zi c 1).bind fun d=>e a d
def znn (c:Int→Option Bool) (i4:Int) (b:Str):Option Bool:=(zmt b).bind fun a=>if a then some true else (zi i4 1).bind fun d=>c d
def zgE (b:Int→Option Bool) (c:Str) (i3:Int) (i4:Int):Nat→Str→Int→Option Bool
 | 0,_,_=>none
 | n+1,a,d=>if (decide (d<i4)) then if (!(a==[])) then (zci a [58]).bind fun e=>znm (zgE b c i3 i4 n) e d else znm (zgE b c i3 i4 n) a d else (zi i3 2).bind fun g=>(zar c g).bind fun h=>if (!(h==[])) then (zci a [58]).bind fun i=>(zi i3 2).bind fun k=>(zar c k).bind fun j=>(zci i j).bind fun f=>znn b i4 f else znn b i4 a
def zfc (a:Str) (i3:Int):Nat→Int→Option Bool
 | 0,_=>none
 | n+1,i4=>if (decide (i4≤8)) then (sTo a i3).bind fun b=>zgE (zfc a i3 n) a i3 i4 fuel b 0 else some false
def ziw (a:Str):Nat→Int→Option Bool
 | 0,_=>none
 | n+1,i3=>(zi i3 1).bind fun b=>if (decide (b<(a.length:Int))) then (sAt a i3).bind fun d=>if (!(d==58)) then (zi i3 1).bind fun e=>ziw a n e else (zi i3 1).bind fun f=>(sAt a f).bind fun h=>if (!(h==58)) then (zi i3 1).bind fun g=>ziw a n g else zfc a i3 fuel 1 else (zmt a).bind fun c=>some c
def ztx (a:Str):Option Bool:=ziw a fuel 0
def zep (a:UInt8):Option Bool:=(zf3 a [97,98,99,100,101,102,103,104,105,106,107,108,109,110,111,112,113,114,115,116,117,118,119,120,121,122,65,66,67,68,69,70,71,72,73,74,75,76,77,78,79,80,81,82,83,84,85,86,87,88,89,90,48,49,50,51,52,53,54,55,56,57,45,46,95,126]).bind fun b=>some b
def znM (a:UInt8):Option Bool:=(zf3 a [33,36,38,39,40,41,42,43,44,59,61]).bind fun b=>some b
def zlS (b:Int→Option Bool) (i3:Int) (a:Bool):Option Bool:=if a then some false else (zi i3 1).bind fun c=>b c
def zeh (a:Str):Nat→Int→Option Bool
 | 0,_=>none
 | n+1,i3=>if (decide (i3<(a.length:Int))) then (sAt a i3).bind fun g=>if (g==37) then (zi i3 2).bind fun j=>if (decide ((a.length:Int)≤j)) then some false else (zi i3 1).bind fun k=>(sAt a k).bind fun l=>(ziv l).bind fun p=>if (!p) then some false else (zi i3 2).bind fun m=>(sAt a m).bind fun h=>(ziv h).bind fun o=>if (!o) then some false else (zi i3 2).bind fun i=>(zi i 1).bind fun d=>zeh a n d else (sAt a i3).bind fun c=>(zep c).bind fun e=>if (!e) then (sAt a i3).bind fun f=>(znM f).bind fun b=>zlS (zeh a n) i3 (!b) else zlS (zeh a n) i3 false else some (decide ((0:Int)<(a.length:Int)))
def zlA (a:Str):Option Bool:=zeh a fuel 0
def zj8 (a:Str) (b:Bool):Option zZ8:=if b then (zbt (a.length:Int) 1).bind fun c=>(zlF a 1 c).bind fun d=>some (⟨3,d,(-1)⟩:zZ8) else (zjT a).bind fun e=>if e then some (⟨2,a,(-1)⟩:zZ8) else (zlA a).bind fun f=>if f then some (⟨1,a,(-1)⟩:zZ8) else some (⟨0,[],0⟩:zZ8)
def zsC (a:Str):Option zZ8:=if (decide ((2:Int)<(a.length:Int))) then (sAt a 0).bind fun b=>if (b==91) then (zbt (a.length:Int) 1).bind fun c=>(sAt a c).bind fun e=>if (e==93) then (zbt (a.length:Int) 1).bind fun f=>(zlF a 1 f).bind fun g=>(ztx g).bind fun d=>zj8 a d else zj8 a false else zj8 a false else zj8 a false
def zhL (a:Str):Nat→Int→Option (zZ8 × Int)
 | 0,_=>none
 | n+1,i5=>if (decide ((0:Int)≤i5)) then (sAt a i5).bind fun c=>if (!(c==58)) then (zbt i5 1).bind fun d=>zhL a n d else (sTo a i5).bind fun e=>(zsC e).bind fun r4=>(zi i5 1).bind fun g=>(zar a g).bind fun f=>(zms f 65535).bind fun b=>if (r4.Kind==0) then some ((⟨0,[],0⟩:zZ8),27) else if (decide (b<0)) then some ((⟨0,[],0⟩:zZ8),27) else some (({r4 with Port:=b}:zZ8),0) else some ((⟨0,[],0⟩:zZ8),27)
def zmu (a:Str):Option (zZ8 × Int):=(zsC a).bind fun r1=>if (!(r1.Kind==0)) then some (r1,0) else (zbt (a.length:Int) 1).bind fun b=>zhL a fuel b
def zpU (a:UInt8):Option Bool:=(zf3 a [97,98,99,100,101,102,103,104,105,106,107,108,109,110,111,112,113,114,115,116,117,118,119,120,121,122,65,66,67,68,69,70,71,72,73,74,75,76,77,78,79,80,81,82,83,84,85,86,87,88,89,90,48,49,50,51,52,53,54,55,56,57,33,35,36,37,38,39,42,43,45,46,94,95,96,124,126]).bind fun b=>some b
def zhM (a:Str):Nat→Int→Option Bool
 | 0,_=>none
 | n+1,i3=>if (decide (i3<(a.length:Int))) then (sAt a i3).bind fun b=>(zpU b).bind fun c=>if (!c) then some false else (zi i3 1).bind fun d=>zhM a n d else some (decide ((0:Int)<(a.length:Int)))
def zbh (a:Str):Option Bool:=zhM a fuel 0
def zgt (a:UInt8):Option Bool:=if (decide (32≤a)) then if (!(a==127)) then some true else some (a==9) else some (a==9)
def zix (b:Int→Int→Option Bool) (i3:Int) (i4:Int):Option Bool:=if (decide (i3<0)) then some false else (zi i4 1).bind fun a=>b i3 a
def ziy (a:Int→Int→Option Bool) (d:Str) (i3:Int) (i4:Int):Option Bool:=(sAt d i4).bind fun b=>if (b==41) then (zbt i3 1).bind fun c=>zix a c i4 else zix a i3 i4
def zbO (a:Str):Nat→Int→Int→Option Bool
 | 0,_,_=>none
 | n+1,i3,i4=>if (decide (i4<(a.length:Int))) then (sAt a i4).bind fun c=>(zgt c).bind fun f=>if (!f) then some false else (sAt a i4).bind fun g=>if (g==92) then (zi i4 1).bind fun b=>if (b==(a.length:Int)) then some false else (sAt a b).bind fun i=>(zgt i).bind fun h=>if (!h) then some false else (zi b 1).bind fun d=>zbO a n i3 d else (sAt a i4).bind fun j=>if (j==40) then (zi i3 1).bind fun e=>ziy (zbO a n) a e i4 else ziy (zbO a n) a i3 i4 else some (i3==0)
def zlT (a:Str):Option Bool:=zbO a fuel 0 0
def zhN (a:Str):Nat→Int→Option Bool
 | 0,_=>none
 | n+1,i3=>if (decide (i3<(a.length:Int))) then (sAt a i3).bind fun b=>if (b==44) then some true else (sAt a i3).bind fun c=>if (c==40) then some true else (sAt a i3).bind fun d=>if (d==41) then some true else (zi i3 1).bind fun e=>zhN a n e else some false
def zmv (a:Str):Option Bool:=zhN a fuel 0
def zba (e:Str) (i5:Int) (d:zZR) (b:Bool):Option (zZR × Int):=if b then some ((⟨[],[],[],[]⟩:zZR),2) else if (i5==(e.length:Int)) then some (d,0) else (zi i5 1).bind fun f=>(zar e f).bind fun a=>if (decide ((a.length:Int)<3)) then some ((⟨[],[],[],[]⟩:zZR),2) else (sAt a 0).bind fun i=>if (!(i==40)) then some ((⟨[],[],[],[]⟩:zZR),2) else (zbt (a.length:Int) 1).bind fun j=>(sAt a j).bind fun l=>if (!(l==41)) then some ((⟨[],[],[],[]⟩:zZR),2) else (zbt (a.length:Int) 1).bind fun k=>(zlF a 1 k).bind fun g=>(zlT g).bind fun m=>if (!m) then some ((⟨[],[],[],[]⟩:zZR),2) else (zbt (a.length:Int) 1).bind fun h=>(zlF a 1 h).bind fun c=>some (({d with Comment:=c}:zZR),0)
def zhO (a:Str) (i5:Int) (v6:zZR) (d:List Str):Option (zZR × Int):=(zmu v6.By).bind fun c=>if (decide ((2:Int)<(d.length:Int))) then zba a i5 v6 true else if ((d.length:Int)==2) then (zbh v6.Proto).bind fun g=>if (!g) then zba a i5 v6 true else (zbh v6.Version).bind fun h=>if (!h) then zba a i5 v6 true else if (!(c.2==0)) then (zbh v6.By).bind fun i=>zba a i5 v6 (!i) else (zmv v6.By).bind fun k=>if k then (zbh v6.By).bind fun j=>zba a i5 v6 (!j) else zba a i5 v6 false else (zbh v6.Version).bind fun e=>if (!e) then zba a i5 v6 true else if (!(c.2==0)) then (zbh v6.By).bind fun l=>zba a i5 v6 (!l) else (zmv v6.By).bind fun f=>if f then (zbh v6.By).bind fun b=>zba a i5 v6 (!b) else zba a i5 v6 false
def zkB (g:Int→Option (zZR × Int)) (b:Str) (i4:Int) (i5:Int) (c:Bool):Option (zZR × Int):=if c then (zi i5 1).bind fun e=>g e else (sTo b i4).bind fun h=>(zi i4 1).bind fun i=>(zlF b i i5).bind fun d=>(sTo b i4).bind fun j=>(zj6 j 47).bind fun a=>if ((a.length:Int)==2) then (lAt a 0).bind fun f=>(lAt a 1).bind fun k=>zhO b i5 (⟨f,k,d,[]⟩:zZR) a else zhO b i5 (⟨[],h,d,[]⟩:zZR) a
def zew (a:Str) (i4:Int):Nat→Int→Option (zZR × Int)
 | 0,_=>none
 | n+1,i5=>if (decide (i5<(a.length:Int))) then (sAt a i5).bind fun b=>zkB (zew a i4 n) a i4 i5 (!(b==32)) else zkB (zew a i4 n) a i4 i5 false
def zkC (e:Int→Option (zZR × Int)) (b:Str) (i4:Int) (a:Bool):Option (zZR × Int):=if a then (zi i4 1).bind fun c=>e c else if (i4==(b.length:Int)) then some ((⟨[],[],[],[]⟩:zZR),2) else (zi i4 1).bind fun d=>zew b i4 fuel d
def zex (a:Str):Nat→Int→Option (zZR × Int)
 | 0,_=>none
 | n+1,i4=>if (decide (i4<(a.length:Int))) then (sAt a i4).bind fun b=>zkC (zex a n) a i4 (!(b==32)) else zkC (zex a n) a i4 false
def zoJ (a:Str):Option (zZR × Int):=zex a fuel 0
def zjc (c:zZR) (b:Str):Option (Str × Int):=(zoJ b).bind fun a=>if (!(a.2==0)) then some ([],2) else if (!(a.1==c)) then some ([],2) else some (b,0)
def zlU (v1:zZR) (a:Str):Option (Str × Int):=if (!(v1.Comment==[])) then (zci a [32,40]).bind fun b=>(zci b v1.Comment).bind fun c=>(zci c [41]).bind fun d=>zjc v1 d else zjc v1 a
def zqG (x_v:zZR):Option (Str × Int):=(zci x_v.Version [32]).bind fun b=>(zci b x_v.By).bind fun a=>if (!(x_v.Proto==[])) then (zci x_v.Proto [47]).bind fun c=>(zci c a).bind fun d=>zlU x_v d else zlU x_v a
def zhP (c:Int→Option Int) (i3:Int) (a:Str):Nat→Int→Option Int
 | 0,_=>none
 | n+1,b=>if (decide (b<(a.length:Int))) then (sAt a b).bind fun d=>if (d==44) then some 27 else (sAt a b).bind fun e=>if (e==59) then some 27 else (zi b 1).bind fun f=>zhP c i3 a n f else (zi i3 1).bind fun g=>c g
def zf4 (a:List zZJ):Nat→Int→Option Int
 | 0,_=>none
 | n+1,i3=>if (decide (i3<(a.length:Int))) then (lAt a i3).bind fun r1=>(lAt a i3).bind fun r2=>(zlA r1.From).bind fun c=>if (!c) then some 27 else (zjT r1.From).bind fun b=>if b then some 27 else (zlA r2.To).bind fun e=>if (!e) then some 27 else (zjT r2.To).bind fun d=>if d then some 27 else zhP (zf4 a n) i3 r2.To fuel 0 else if (decide ((64:Int)<(a.length:Int))) then some 3 else some 0
def zoK (a:List zZJ):Option Int:=zf4 a fuel 0
def zkD (c:Int→Option Int) (i5:Int) (a:Bool):Option Int:=if a then (zi i5 1).bind fun b=>c b else some i5
def zey (a:Str) (s1:Str):Nat→Int→Option Int
 | 0,_=>none
 | n+1,i5=>if (decide (i5<(a.length:Int))) then (sAt a i5).bind fun b=>(zf3 b s1).bind fun c=>zkD (zey a s1 n) i5 (!c) else zkD (zey a s1 n) i5 false
def zfd (b:Str) (a:Str):Option Int:=zey b a fuel 0
def zmw (a:UInt8):Option Bool:=(zf3 a [97,98,99,100,101,102,103,104,105,106,107,108,109,110,111,112,113,114,115,116,117,118,119,120,121,122,65,66,67,68,69,70,71,72,73,74,75,76,77,78,79,80,81,82,83,84,85,86,87,88,89,90]).bind fun b=>some b
def zmx (a:UInt8):Option Bool:=(zf3 a [48,49,50,51,52,53,54,55,56,57]).bind fun b=>some b
def ze5 (c:Int→Option Bool) (i3:Int) (a:Bool):Option Bool:=if a then some false else (zi i3 1).bind fun b=>c b
def zb8 (a:Str):Nat→Int→Option Bool
 | 0,_=>none
 | n+1,i3=>if (decide (i3<(a.length:Int))) then (sAt a i3).bind fun b=>(zmw b).bind fun c=>if (!c) then if (i3==0) then ze5 (zb8 a n) i3 true else (sAt a i3).bind fun e=>(zmx e).bind fun d=>if (!d) then (sAt a i3).bind fun g=>(zf3 g [43,45,46]).bind fun f=>ze5 (zb8 a n) i3 (!f) else ze5 (zb8 a n) i3 false else ze5 (zb8 a n) i3 false else some (decide ((0:Int)<(a.length:Int)))
def zno (a:Str):Option Bool:=zb8 a fuel 0
def znY (a:UInt8):Option Bool:=(zep a).bind fun b=>if b then some true else (znM a).bind fun c=>if c then some true else if (a==58) then some true else some (a==64)
def zjU:Nat→Str→Str→Option Bool
 | 0,_,_=>none
 | n+1,b,a=>if (b==[]) then some true else (sAt b 0).bind fun m=>if (m==37) then if (decide ((2:Int)<(b.length:Int))) then (sAt b 1).bind fun o=>(ziv o).bind fun i=>if i then (sAt b 2).bind fun l=>(ziv l).bind fun r=>if r then (zar b 3).bind fun p=>(zjU n p a).bind fun j=>some j else some false else some false else some false else (sAt b 0).bind fun q=>(znY q).bind fun k=>if k then (zar b 1).bind fun d=>(zjU n d a).bind fun h=>some h else (sAt b 0).bind fun f=>(zf3 f a).bind fun e=>if e then (zar b 1).bind fun g=>(zjU n g a).bind fun c=>some c else some false
def znZ (b:Str) (a:Str):Option Bool:=zjU fuel b a
def zkE (v1:zZT) (a:Bool):Option Bool:=if a then some false else (zfd v1.Path [58,47]).bind fun b=>if (!(v1.Scheme==[])) then some true else if (b==(v1.Path.length:Int)) then some true else (sAt v1.Path b).bind fun c=>some (c==47)
def zoL (x_a0:zZT):Option Bool:=(znZ x_a0.Auth [91,93]).bind fun a=>if (!a) then some false else (zfd x_a0.Auth [64]).bind fun c=>if (decide (c<(x_a0.Auth.length:Int))) then some false else (znZ x_a0.Path [47]).bind fun d=>if (!d) then some false else (znZ x_a0.Query [47,63]).bind fun e=>if (!e) then some false else (znZ x_a0.Frag [47,63]).bind fun g=>if (!g) then some false else if x_a0.HasAuth then if (x_a0.Path==[]) then some true else (sAt x_a0.Path 0).bind fun f=>some (f==47) else if (decide ((1:Int)<(x_a0.Path.length:Int))) then (sTo x_a0.Path 2).bind fun b=>zkE x_a0 (b==[47,47]) else zkE x_a0 false
def zhQ (a:Str) (v4:zZT):Option (zZT × Int):=(zoL ({v4 with Path:=a}:zZT)).bind fun b=>if (!b) then some ((⟨[],[],[],[],[],false,false,false⟩:zZT),2) else some (({v4 with Path:=a}:zZT),0)
def zkF (a:Str) (v4:zZT) (b:Bool):Option (zZT × Int):=if b then (zar a 2).bind fun d=>(zfd d [47]).bind fun c=>(zi 2 c).bind fun e=>(zlF a 2 e).bind fun f=>(zi 2 c).bind fun h=>(zar a h).bind fun g=>zhQ g ({v4 with Auth:=f,HasAuth:=true}:zZT) else zhQ a v4
def zhR (a:Str) (v4:zZT):Option (zZT × Int):=if (decide ((1:Int)<(a.length:Int))) then (sTo a 2).bind fun b=>zkF a v4 (b==[47,47]) else zkF a v4 false
def zhS (b:Str) (v4:zZT) (c:Int) (a:Bool):Option (zZT × Int):=if a then (sTo b c).bind fun d=>(zi c 1).bind fun e=>(zar b e).bind fun f=>zhR f ({v4 with Scheme:=d}:zZT) else zhR b v4
def zhT (a:Str) (v4:zZT):Option (zZT × Int):=(zfd a [58,47]).bind fun b=>if (decide (b<(a.length:Int))) then (sAt a b).bind fun c=>if (c==58) then (sTo a b).bind fun d=>(zno d).bind fun e=>zhS a v4 b e else zhS a v4 b false else zhS a v4 b false
def zhU (a:Str) (v4:zZT):Option (zZT × Int):=(zfd a [63]).bind fun b=>if (decide (b<(a.length:Int))) then (zi b 1).bind fun c=>(zar a c).bind fun d=>(sTo a b).bind fun e=>zhT e ({v4 with Query:=d,HasQuery:=true}:zZT) else zhT a v4
def zmy (a:Str):Option (zZT × Int):=(zfd a [35]).bind fun b=>if (decide (b<(a.length:Int))) then (zi b 1).bind fun c=>(zar a c).bind fun d=>(sTo a b).bind fun e=>zhU e (⟨[],[],[],[],d,false,false,true⟩:zZT) else zhU a (⟨[],[],[],[],[],false,false,false⟩:zZT)
def zhV (a:List zZJ):Nat→Int→Option Int
 | 0,_=>none
 | n+1,i3=>if (decide (i3<(a.length:Int))) then (lAt a i3).bind fun r1=>(zmy r1.From).bind fun b=>(lAt a i3).bind fun r3=>(zmy r3.To).bind fun c=>(lAt a i3).bind fun r5=>if (r5.From==[]) then some 2 else if (!(b.2==0)) then some 2 else if (!(c.2==0)) then some 2 else (zi i3 1).bind fun d=>zhV a n d else if (decide ((64:Int)<(a.length:Int))) then some 3 else some 0
def zoM (a:List zZJ):Option Int:=zhV a fuel 0
def zhW (v1:zZI) (a:Bool):Option Int:=if a then some 2 else (zoK v1.Domains).bind fun b=>if (!(b==0)) then some b else (zoM v1.Locations).bind fun c=>some c
def zkG (v1:zZI) (i4:Int) (a:Bool):Option Int:=if a then some i4 else if (!(v1.Scheme==[])) then if (!(v1.Scheme==[104,116,116,112])) then zhW v1 (!(v1.Scheme==[104,116,116,112,115])) else zhW v1 false else zhW v1 false
def zoN (x_env:zZI):Option Int:=(zqG (⟨[],[49,46,49],x_env.By,[]⟩:zZR)).bind fun b=>if (!(b.2==0)) then some b.2 else (zmu x_env.Host).bind fun a=>if (!(a.2==0)) then zkG x_env a.2 (!(x_env.Host==[])) else zkG x_env a.2 false
def zg1 (a:Str):Nat→Int→Option Bool
 | 0,_=>none
 | n+1,i3=>if (decide (i3<(a.length:Int))) then (sAt a i3).bind fun b=>(zgt b).bind fun c=>if (!c) then some false else (zi i3 1).bind fun d=>zg1 a n d else some true
def znp (a:Str):Option Bool:=zg1 a fuel 0
def zj9 (a:UInt8):Option Bool:=if (a==32) then some true else some (a==9)
def zlV (d:Str→Option Str) (b:Str) (a:Bool):Option Str:=if a then (zbt (b.length:Int) 1).bind fun c=>(sTo b c).bind fun e=>d e else some b
def zfz:Nat→Str→Option Str
 | 0,_=>none
 | n+1,a=>if (decide ((0:Int)<(a.length:Int))) then (zbt (a.length:Int) 1).bind fun b=>(sAt a b).bind fun c=>(zj9 c).bind fun d=>zlV (zfz n) a d else zlV (zfz n) a false
def zlW (d:Str→Option Str) (b:Str) (a:Bool):Option Str:=if a then (zar b 1).bind fun c=>d c else zfz fuel b
def zfA:Nat→Str→Option Str
 | 0,_=>none
 | n+1,a=>if (decide ((0:Int)<(a.length:Int))) then (sAt a 0).bind fun b=>(zj9 b).bind fun c=>zlW (zfA n) a c else zlW (zfA n) a false
def zqH (a:Str):Option Str:=zfA fuel a
def zoO (x_f:zZn):Option Int:=(zbh x_f.Name).bind fun a=>if (!a) then some 21 else (znp x_f.Value).bind fun b=>if (!b) then some 25 else (zqH x_f.Value).bind fun c=>if (!(c==x_f.Value)) then some 25 else some 0
def zmz (x_g:z0m):Option Bool:=if (x_g.Kind==0) then if (x_g.Name==[]) then some (x_g.Value==[]) else some false else if (x_g.Kind==3) then (zoO (⟨x_g.Name,x_g.Value⟩:zZn)).bind fun b=>some (b==0) else if (x_g.Kind==1) then (zbh x_g.Name).bind fun a=>if a then some (x_g.Value==[]) else some false else if (x_g.Kind==2) then (zbh x_g.Name).bind fun c=>if c then some (x_g.Value==[]) else some false else some false
def zfB (d:Str→Int→Option Str) (c:Str) (b:Str) (i4:Int):Nat→Str→Int→Option Str
 | 0,_,_=>none
 | n+1,e,a=>if (decide (a<26)) then (sAt [65,66,67,68,69,70,71,72,73,74,75,76,77,78,79,80,81,82,83,84,85,86,87,88,89,90] a).bind fun f=>(sAt c i4).bind fun h=>if (f==h) then (zi a 1).bind fun i=>(zlF [97,98,99,100,101,102,103,104,105,106,107,108,109,110,111,112,113,114,115,116,117,118,119,120,121,122] a i).bind fun j=>(zi a 1).bind fun l=>zfB d c b i4 n j l else (zi a 1).bind fun k=>zfB d c b i4 n e k else (zci b e).bind fun g=>(zi i4 1).bind fun m=>d g m
def zhk (a:Str):Nat→Str→Int→Option Str
 | 0,_,_=>none
 | n+1,b,i4=>if (decide (i4<(a.length:Int))) then (zi i4 1).bind fun c=>(zlF a i4 c).bind fun d=>zfB (zhk a n) a b i4 fuel d 0 else some b
def zn0 (a:Str):Option Str:=zhk a fuel [] 0
def zoP (a:Str):Option Bool:=(zn0 a).bind fun b=>if (b==[99,111,110,110,101,99,116,105,111,110]) then some true else if (b==[99,111,110,116,101,110,116,45,108,101,110,103,116,104]) then some true else if (b==[107,101,101,112,45,97,108,105,118,101]) then some true else if (b==[112,114,111,120,121,45,99,111,110,110,101,99,116,105,111,110]) then some true else if (b==[116,101]) then some true else if (b==[116,114,97,105,108,101,114]) then some true else if (b==[116,114,97,110,115,102,101,114,45,101,110,99,111,100,105,110,103]) then some true else if (b==[117,112,103,114,97,100,101]) then some true else some false
def zlB (a:Str):Option Bool:=(zn0 a).bind fun b=>if (b==[104,111,115,116]) then some true else if (b==[118,105,97]) then some true else if (b==[102,111,114,119,97,114,100,101,100]) then some true else if (b==[120,45,102,111,114,119,97,114,100,101,100,45,102,111,114]) then some true else (zoP a).bind fun c=>some c
def zoQ (a:Int):Option (List Str):=if (a==1) then some ([[99,108,105,101,110,116],[104,111,115,116],[109,101,116,104,111,100],[112,97,116,104],[115,99,104,101,109,101]]) else if (a==2) then some ([[99,108,105,101,110,116],[104,111,115,116],[115,99,104,101,109,101],[115,116,97,116,117,115]]) else some []
def zf5 (d:List Str→Int→Option (List Str)) (c:List zZq) (a:List Str) (i4:Int):Nat→Bool→Int→Option (List Str)
 | 0,_,_=>none
 | n+1,t5,b=>if (decide (b<(a.length:Int))) then if t5 then (zi b 1).bind fun e=>zf5 d c a i4 n true e else (lAt a b).bind fun g=>(lAt c i4).bind fun r3=>(zi b 1).bind fun h=>zf5 d c a i4 n (g==r3.Text) h else if (!t5) then (lAt c i4).bind fun r5=>if zf a.length ([r5.Text]:List Str).length 16 then (zi i4 1).bind fun i=>d (a++[r5.Text]) i else none else (zi i4 1).bind fun f=>d a f
def zf6 (a:List zZq):Nat→List Str→Int→Option (List Str)
 | 0,_,_=>none
 | n+1,b,i4=>if (decide (i4<(a.length:Int))) then (lAt a i4).bind fun r1=>zf5 (zf6 a n) a b i4 fuel (!(r1.Kind==2)) 0 else some b
def zoR (a:List zZq):Option (List Str):=zf6 a fuel [] 0
def zkH (i4:Int) (a:Str):Nat→Int→Option (zZq × Int)
 | 0,_=>none
 | n+1,b=>if (decide (b<(a.length:Int))) then (sAt a b).bind fun c=>(zf3 c [97,98,99,100,101,102,103,104,105,106,107,108,109,110,111,112,113,114,115,116,117,118,119,120,121,122]).bind fun d=>if (!d) then some ((⟨0,[]⟩:zZq),0) else (zi b 1).bind fun e=>zkH i4 a n e else (zi i4 1).bind fun f=>some ((⟨2,a⟩:zZq),f)
def znq (k:Int→Option (zZq × Int)) (c:Str) (i4:Int) (b:Bool):Option (zZq × Int):=if b then (zi i4 1).bind fun d=>k d else if (i4==(c.length:Int)) then some ((⟨0,[]⟩:zZq),0) else if (decide (i4<3)) then some ((⟨0,[]⟩:zZq),0) else (sAt c 1).bind fun f=>if (!(f==123)) then some ((⟨0,[]⟩:zZq),0) else (zlF c 2 i4).bind fun a=>(sAt a 0).bind fun g=>if (g==64) then (zar a 1).bind fun i=>(zbh i).bind fun h=>if (!h) then some ((⟨0,[]⟩:zZq),0) else (zar a 1).bind fun e=>(zi i4 1).bind fun j=>some ((⟨3,e⟩:zZq),j) else zkH i4 a fuel 0
def zgF (a:Str):Nat→Int→Option (zZq × Int)
 | 0,_=>none
 | n+1,i4=>if (decide (i4<(a.length:Int))) then (sAt a i4).bind fun b=>znq (zgF a n) a i4 (!(b==125)) else znq (zgF a n) a i4 false
def znr (b:Str) (a:Bool):Option (zZq × Int):=if a then some ((⟨1,[36]⟩:zZq),2) else zgF b fuel 0
def zty (a:Str):Option (zZq × Int):=(sAt a 0).bind fun b=>if (!(b==36)) then (sAt a 0).bind fun c=>(zgt c).bind fun d=>if (!d) then some ((⟨0,[]⟩:zZq),0) else (sTo a 1).bind fun e=>some ((⟨1,e⟩:zZq),1) else if (decide ((1:Int)<(a.length:Int))) then (sAt a 1).bind fun f=>znr a (f==36) else znr a false
def zhX (d:Str→List zZq→Option (List zZq × Int)) (c:Str) (a:List zZq) (v5:zZq) (b:Int) (t37:Bool):Option (List zZq × Int):=if t37 then (lAt a b).bind fun r1=>(zci r1.Text v5.Text).bind fun e=>(lAt a b).bind fun r3=>(zxe a b (⟨r3.Kind,e⟩:zZq)).bind fun f=>d c f else if zf a.length ([v5]:List zZq).length 24 then d c (a++[v5]) else none
def zdt:Nat→Str→List zZq→Option (List zZq × Int)
 | 0,_,_=>none
 | n+1,e,a=>if (!(e==[])) then (zty e).bind fun b=>if (b.2==0) then some ([],2) else (zar e b.2).bind fun d=>(zbt (a.length:Int) 1).bind fun c=>if (b.1.Kind==1) then if (decide ((0:Int)≤c)) then (lAt a c).bind fun r4=>zhX (zdt n) d a b.1 c (r4.Kind==1) else zhX (zdt n) d a b.1 c false else zhX (zdt n) d a b.1 c false else if (decide ((32:Int)<(a.length:Int))) then some ([],3) else some (a,0)
def zoS (a:Str):Option (List zZq × Int):=zdt fuel a []
def zjd (a:List zZq) (b:List zZq):Nat→Int→Option Bool
 | 0,_=>none
 | n+1,i5=>if (decide (i5<(a.length:Int))) then (lAt a i5).bind fun c=>(lAt b i5).bind fun d=>if (!(c==d)) then some false else (zi i5 1).bind fun e=>zjd a b n e else some true
def zqI (a:List zZq) (b:List zZq):Option Bool:=if (!((a.length:Int)==(b.length:Int))) then some false else zjd a b fuel 0
def zlX (b:Str→Int→Option (Str × Int)) (h:List zZq) (c:Str) (i5:Int) (a:Int):Option (Str × Int):=(lAt h i5).bind fun r1=>(zi a 1).bind fun d=>(zlF r1.Text a d).bind fun e=>(zci c e).bind fun f=>(zi a 1).bind fun g=>b f g
def zfC (d:Str→Int→Option (Str × Int)) (a:List zZq) (i5:Int):Nat→Str→Int→Option (Str × Int)
 | 0,_,_=>none
 | n+1,c,b=>(lAt a i5).bind fun r1=>if (decide (b<(r1.Text.length:Int))) then (lAt a i5).bind fun r2=>(sAt r2.Text b).bind fun e=>if (e==36) then (zci c [36]).bind fun f=>zlX (zfC d a i5 n) a f i5 b else zlX (zfC d a i5 n) a c i5 b else (zi i5 1).bind fun g=>d c g
def zct (a:List zZq):Nat→Str→Int→Option (Str × Int)
 | 0,_,_=>none
 | n+1,b,i5=>if (decide (i5<(a.length:Int))) then (lAt a i5).bind fun r1=>if (r1.Kind==1) then zfC (zct a n) a i5 fuel b 0 else if (r1.Kind==2) then (zci b [36,123]).bind fun k=>(lAt a i5).bind fun r3=>(zci k r3.Text).bind fun j=>(zci j [125]).bind fun m=>(zi i5 1).bind fun l=>zct a n m l else if (r1.Kind==3) then (zci b [36,123,64]).bind fun h=>(lAt a i5).bind fun r8=>(zci h r8.Text).bind fun i=>(zci i [125]).bind fun d=>(zi i5 1).bind fun g=>zct a n d g else (zi i5 1).bind fun e=>zct a n b e else (zoS b).bind fun c=>if (!(c.2==0)) then some ([],2) else (zqI c.1 a).bind fun f=>if (!f) then some ([],2) else some (b,0)
def zqJ (a:List zZq):Option (Str × Int):=zct a fuel [] 0
def zf7 (d:Bool→Int→Option Int) (t3:Bool) (c:List Str) (e:List Str) (a:Int):Nat→Bool→Int→Option Int
 | 0,_,_=>none
 | n+1,f,b=>if (decide (b<(c.length:Int))) then if f then (zi b 1).bind fun g=>zf7 d t3 c e a n true g else (lAt c b).bind fun h=>(lAt e a).bind fun i=>(zi b 1).bind fun j=>zf7 d t3 c e a n (h==i) j else if t3 then (zi a 1).bind fun l=>d f l else (zi a 1).bind fun k=>d false k
def zkI (v1:zZu) (t3:Bool) (c:Int) (a:Int) (b:Bool):Option Int:=if b then if t3 then if (v1.To==[]) then if (!(c==0)) then some 9 else some 0 else some 9 else some 9 else if (a==3) then if t3 then if (v1.To==[]) then if (!((v1.Parts.length:Int)==0)) then some 9 else some 0 else some 9 else some 9 else if (a==4) then if t3 then (zbh v1.To).bind fun d=>if d then (zlB v1.To).bind fun e=>if (!e) then if (!((v1.Parts.length:Int)==0)) then some 9 else some 0 else some 9 else some 9 else some 9 else some 9
def zf8 (v1:zZu) (d:List Str) (a:List Str):Nat→Bool→Int→Option Int
 | 0,_,_=>none
 | n+1,t3,c=>if (decide (c<(a.length:Int))) then zf7 (zf8 v1 d a n) t3 d a c fuel false 0 else (zqJ v1.Parts).bind fun b=>if (v1.Kind==1) then zkI v1 t3 b.2 v1.Kind true else zkI v1 t3 b.2 v1.Kind (v1.Kind==2)
def zb3 (v1:zZu) (t3:Bool):Option Int:=(zoQ v1.Side).bind fun a=>(zoR v1.Parts).bind fun b=>zf8 v1 a b fuel t3 0
def zoT (x_a0:zZu):Option Int:=if (x_a0.Side==1) then (zmz x_a0.Guard).bind fun a=>if a then (zbh x_a0.Name).bind fun b=>if b then (zlB x_a0.Name).bind fun d=>zb3 x_a0 (!d) else zb3 x_a0 false else zb3 x_a0 false else if (x_a0.Side==2) then (zmz x_a0.Guard).bind fun e=>if e then (zbh x_a0.Name).bind fun f=>if f then (zlB x_a0.Name).bind fun c=>zb3 x_a0 (!c) else zb3 x_a0 false else zb3 x_a0 false else zb3 x_a0 false
def zhY (a:List zZu):Nat→Int→Option (Int × Int)
 | 0,_=>none
 | n+1,i4=>if (decide (i4<(a.length:Int))) then (lAt a i4).bind fun b=>(zoT b).bind fun c=>if (!(c==0)) then some (i4,9) else (zi i4 1).bind fun d=>zhY a n d else if (decide ((64:Int)<(a.length:Int))) then some (0,3) else some (0,0)
def zoU (a:List zZu):Option (Int × Int):=zhY a fuel 0
def zoV (x_s:ref44_Setup):Option Int:=(zoN x_s.Env).bind fun a=>if (!(a==0)) then some a else if (decide (x_s.Caps.Head<1)) then some 1 else if (decide ((65536:Int)<x_s.Caps.Head)) then some 1 else if (decide (x_s.Caps.Chunk<1)) then some 1 else if (decide ((65536:Int)<x_s.Caps.Chunk)) then some 1 else if (decide (x_s.Caps.Queue<1)) then some 1 else if (decide ((64:Int)<x_s.Caps.Queue)) then some 1 else (zoU x_s.Rules).bind fun b=>some b.2
def zhZ (i3:Int) (t20:Bool):Option Int:=if t20 then some 3 else some i3
def zei (x_s:zZV):Option Int:=(zoH x_s).bind fun b=>(zoV b).bind fun a=>if (a==0) then if (decide ((1048576:Int)<(x_s.Client.length:Int))) then zhZ a true else zhZ a (decide ((1048576:Int)<(x_s.Upstream.length:Int))) else zhZ a false
def zDV (a:zZV):Option (zZV × Bool):=(znL a).bind fun b=>(zei b).bind fun c=>some (b,c==0)
def zn1 (a:Int) (b:Int):Option (Int × Int):=(zbt a (min a b)).bind fun c=>some (min a b,c)
def zkJ (d:Int→Int→List zZL→Option (List zZL × Int)) (e:Int) (c:Int) (f:Int) (b:List zZL):Option (List zZL × Int):=(zn1 f e).bind fun a=>if (decide ((0:Int)<a.1)) then if zf b.length ([(⟨3,a.1⟩:zZL)]:List zZL).length 16 then d c a.2 (b++[(⟨3,a.1⟩:zZL)]) else none else d c a.2 b
def zfe (a:Int):Nat→Int→Int→List zZL→Option (List zZL × Int)
 | 0,_,_,_=>none
 | n+1,e,d,c=>(zi e d).bind fun f=>if (decide ((0:Int)<f)) then (zn1 e a).bind fun b=>if (decide ((0:Int)<b.1)) then if zf c.length ([(⟨1,b.1⟩:zZL)]:List zZL).length 16 then zkJ (zfe a n) a b.2 d (c++[(⟨1,b.1⟩:zZL)]) else none else zkJ (zfe a n) a b.2 d c else some (c,0)
def zlC (x_s:zZV) (a:Int):Option (List zZL × Int):=if (decide (a<1)) then some ([],1) else if (decide ((1048576:Int)<a)) then some ([],1) else if (decide ((1048576:Int)<(x_s.Client.length:Int))) then some ([],3) else if (decide ((1048576:Int)<(x_s.Upstream.length:Int))) then some ([],3) else zfe a fuel (x_s.Client.length:Int) (x_s.Upstream.length:Int) []
def zsD (l:List zZL):Option (List zZL):=if zf 0 l.length 16 then some l else none
def zpV (b:zZV) (a:List zZL):Option zZV:=(zsD a).bind fun c=>some ({b with Events:=c}:zZV)
def zaM (a:Str) (b:List Str):Option Str:=(strings_Join b a).bind fun c=>some c
def zg2 (a:Str):Option zZy:=some (⟨a,0⟩:zZy)
def zck (a:UInt8):Option UInt8:=if (decide (65≤a)) then if (decide (a≤90)) then some (a+32) else some a else some a
def zej (a:UInt8):Option Bool:=(zck a).bind fun b=>if (decide (97≤b)) then (zck a).bind fun c=>some (decide (c≤122)) else some false
def zbL (a:UInt8):Option Bool:=if (decide (48≤a)) then some (decide (a≤57)) else some false
def zpW (b:UInt8) (a:Str):Option Bool:=(strings_IndexByte a b).bind fun c=>some (decide ((0:Int)≤c))
def zhl (a:UInt8):Option Bool:=(zej a).bind fun b=>if b then some true else (zbL a).bind fun c=>if c then some true else (zpW a [33,35,36,37,38,39,42,43,45,46,94,95,96,124,126]).bind fun d=>some d
def zcT (a:zZy):Option Int:=some a.zZ4
def zbe (a:zZy):Option Str:=(zar a.z0w a.zZ4).bind fun b=>some b
def zbb (a:zZy):Option Bool:=(zbe a).bind fun b=>some (b==[])
def zbf (a:zZy):Option (UInt8 × Bool):=(zbb a).bind fun b=>if b then some (0,false) else (sAt a.z0w a.zZ4).bind fun c=>some (c,true)
def zcl (c:(UInt8→Option Bool)) (i5:Int):Nat→zZy→Option (Str × zZy)
 | 0,_=>none
 | n+1,a=>(zbf a).bind fun b=>if (!b.2) then (zlF a.z0w i5 a.zZ4).bind fun d=>some (d,a) else (c b.1).bind fun e=>if (!e) then (zlF a.z0w i5 a.zZ4).bind fun f=>some (f,a) else (zi a.zZ4 1).bind fun g=>zcl c i5 n (⟨a.z0w,g⟩:zZy)
def zaj (b:zZy) (a:(UInt8→Option Bool)):Option (Str × zZy):=(zcT b).bind fun c=>zcl a c fuel b
def zat (b:zZy):Option (Str × Bool × zZy):=(zaj b zhl).bind fun a=>some (a.1, !(a.1==[]),a.2)
def zl (a:zZy) (b:UInt8):Option (Bool × zZy):=(zbf a).bind fun c=>if (!c.2) then some (false,a) else if (!(c.1==b)) then some (false,a) else (zi a.zZ4 1).bind fun d=>some (true,(⟨a.z0w,d⟩:zZy))
def zdi (b:zZR) (a:zZy) (c:Bool):Option (Bool × zZR × zZy):=some (c,b,a)
def zdj (vp1:zZR) (v2:z0u) (c:Str) (d:Bool) (b:Bool):Option (Bool × zZR × zZy):=if b then (zat v2.Scanner).bind fun a=>zdi (⟨c,a.1,vp1.By,vp1.Comment⟩:zZR) a.2.2 a.2.1 else zdi vp1 v2.Scanner d
def zeQ (x_r:z0u) (b:zZR):Option (Bool × zZR × zZy):=(zat x_r.Scanner).bind fun a=>if a.2.1 then (zl a.2.2 47).bind fun c=>zdj ({b with Version:=a.1}:zZR) (⟨c.2⟩:z0u) a.1 a.2.1 c.1 else zdj ({b with Version:=a.1}:zZR) (⟨a.2.2⟩:z0u) a.1 a.2.1 false
def zg3 (a:UInt8):Option Bool:=some (!(a==32))
def zkK (d:Int→Option Bool) (f:(UInt8→Option Bool)) (e:Str) (c:Int) (b:Int):Nat→Int→Option Bool
 | 0,_=>none
 | n+1,a=>if (decide (a<b)) then (sAt e a).bind fun g=>(f g).bind fun h=>if (!h) then some false else (zi a 1).bind fun i=>zkK d f e c b n i else (zi c 1).bind fun j=>d j
def ziz (c:(UInt8→Option Bool)) (d:List Str) (i9:Int):Nat→Int→Option Bool
 | 0,_=>none
 | n+1,a=>if (decide (a<i9)) then (lAt d a).bind fun b=>zkK (ziz c d i9 n) c b a (b.length:Int) fuel 0 else some true
def zcm (a:(UInt8→Option Bool)) (b:List Str):Option Bool:=ziz a b (b.length:Int) fuel 0
def zlY (a:UInt8):Option Int:=(zbL a).bind fun b=>if b then some ((a-48).toNat:Int) else (zck a).bind fun c=>(zi ((c-97).toNat:Int) 10).bind fun d=>some d
def zg4 (f:Str) (d:Int) (i2:Int) (c:Int):Nat→Int→Int→Option (Int × Int)
 | 0,_,_=>none
 | n+1,b,a=>if (decide (a<c)) then (sAt f a).bind fun g=>(zlY g).bind fun e=>if (decide (i2<e)) then some (0,7) else (zbt i2 e).bind fun i=>(zD2 i d).bind fun j=>if (decide (j<b)) then some (0,7) else (zIw b d).bind fun l=>(zi l e).bind fun k=>(zi a 1).bind fun h=>zg4 f d i2 c n k h else some (b,0)
def zkL (c:Str) (a:Int) (b:Int) (d:(UInt8→Option Bool)):Option (Int × Int):=if (c==[]) then some (0,2) else (zcm d [c]).bind fun e=>if (!e) then some (0,2) else zg4 c a b (c.length:Int) fuel 0 0
def zdP (b:Str) (a:Int):Option (Int × Int):=(zkL b 10 a zbL).bind fun c=>some (c.1,c.2)
def zkM (b:Int) (a:Int):Option Str:=if (decide (b<0)) then some [] else (zcJ b a).bind fun c=>some c
def zdk (a:Int):Option Str:=(zkM a 10).bind fun b=>some b
def zb4 (b:Str) (a:Int):Option Bool:=(zdP b a).bind fun c=>if (c.2==0) then (zdk c.1).bind fun d=>some (d==b) else some false
def zbM (s:Str):Option Bool:=if s.length<1000000000 then ((zy 46 s).mapM (fun x=>zb4 x 255)).bind fun bs=>some (bs.all id&&decide ((bs.length:Int)=4)) else none
def zek (a:UInt8):Option Bool:=(zbL a).bind fun b=>if b then some true else (zck a).bind fun c=>if (decide (97≤c)) then (zck a).bind fun d=>some (decide (d≤102)) else some false
def zez (f:Int→Int→Option Int) (d:Int) (b:Int) (a:Bool):Option Int:=if a then (zi d 1).bind fun c=>(zi b 1).bind fun e=>f c e else some (-1)
def zeA (c:Int→Int→Option Int) (b:Int) (d:Str) (a:Int) (t20:Bool):Option Int:=if t20 then (zi b 2).bind fun e=>(zi a 1).bind fun f=>c e f else if (decide ((1:Int)≤(d.length:Int))) then if (decide ((d.length:Int)≤4)) then (zcm zek [d]).bind fun g=>zez c b a g else zez c b a false else zez c b a false
def zbj (e:Bool) (c:List Str) (b:Int):Nat→Int→Int→Option Int
 | 0,_,_=>none
 | n+1,f,a=>if (decide (a<b)) then (lAt c a).bind fun d=>if e then (zbt (c.length:Int) 1).bind fun g=>if (a==g) then (zbM d).bind fun h=>zeA (zbj e c b n) f d a h else zeA (zbj e c b n) f d a false else zeA (zbj e c b n) f d a false else some f
def ze6 (b:Str) (a:Bool):Option Int:=if (b==[]) then some 0 else (strings_Split b [58]).bind fun c=>zbj a c (c.length:Int) fuel 0 0
def ziA (a:Str):Option Bool:=(strings_Cut a [58,58]).bind fun b=>if (!b.2.2) then (ze6 a true).bind fun e=>some (e==8) else (ze6 b.1 false).bind fun c=>(ze6 b.2.1 true).bind fun d=>if (decide ((0:Int)≤c)) then if (decide ((0:Int)≤d)) then (zi c d).bind fun f=>some (decide (f≤7)) else some false else some false
def ziB (a:Str):Option Bool:=if (decide ((3:Int)≤(a.length:Int))) then (sAt a 0).bind fun b=>if (b==37) then (zlF a 1 3).bind fun c=>(zcm zek [c]).bind fun d=>some d else some false else some false
def zc7 (a:UInt8):Option Bool:=(zej a).bind fun b=>if b then some true else (zbL a).bind fun c=>if c then some true else (zpW a [45,46,95,126]).bind fun d=>some d
def zka (a:UInt8):Option Bool:=(zpW a [33,36,38,39,40,41,42,43,44,59,61]).bind fun b=>some b
def zc8:Nat→Str→Option Bool
 | 0,_=>none
 | n+1,a=>if (!(a==[])) then (ziB a).bind fun b=>if b then (zar a 3).bind fun d=>zc8 n d else (sAt a 0).bind fun e=>(zc7 e).bind fun f=>if f then (zar a 1).bind fun i=>zc8 n i else (sAt a 0).bind fun g=>(zka g).bind fun c=>if c then (zar a 1).bind fun h=>zc8 n h else some false else some true
def zfD (a:Str):Option Bool:=if (a==[]) then some false else zc8 fuel a
def zf9 (a:Str) (v4:zZ8) (c:Bool):Option (zZ8 × Bool):=if c then (zbt (a.length:Int) 1).bind fun b=>(zlF a 1 b).bind fun d=>some ((⟨3,d,v4.Port⟩:zZ8), !((3:Int)==0)) else (zbM a).bind fun e=>if e then some (({v4 with Kind:=2}:zZ8), !((2:Int)==0)) else (zfD a).bind fun f=>if f then some (({v4 with Kind:=1}:zZ8), !((1:Int)==0)) else some (v4, !(v4.Kind==0))
def zmA (a:Str):Option (zZ8 × Bool):=if (decide ((2:Int)<(a.length:Int))) then (sAt a 0).bind fun b=>if (b==91) then (zbt (a.length:Int) 1).bind fun c=>(sAt a c).bind fun e=>if (e==93) then (zbt (a.length:Int) 1).bind fun f=>(zlF a 1 f).bind fun g=>(ziA g).bind fun d=>zf9 a (⟨0,a,(-1)⟩:zZ8) d else zf9 a (⟨0,a,(-1)⟩:zZ8) false else zf9 a (⟨0,a,(-1)⟩:zZ8) false else zf9 a (⟨0,a,(-1)⟩:zZ8) false
def zbc (b:Str) (a:UInt8):Nat→Int→Option Int
 | 0,_=>none
 | n+1,i5=>if (decide ((0:Int)≤i5)) then (sAt b i5).bind fun c=>if (c==a) then some i5 else (zbt i5 1).bind fun d=>zbc b a n d else some (-1)
def zbu (a:Str) (b:UInt8):Option Int:=(zbt (a.length:Int) 1).bind fun c=>zbc a b fuel c
def zc0 (b:Str) (a:UInt8):Option Int:=(zbu b a).bind fun c=>some c
def zcv (a:Str):Option (zZ8 × Int):=(zmA a).bind fun e=>if e.2 then some (e.1,0) else (zc0 a 58).bind fun b=>if (decide (b<0)) then some ((⟨0,[],0⟩:zZ8),27) else (sTo a b).bind fun h=>(zmA h).bind fun d=>if (!d.2) then some ((⟨0,[],0⟩:zZ8),27) else (zi b 1).bind fun j=>(zar a j).bind fun i=>(zb4 i 65535).bind fun f=>if (!f) then some ((⟨0,[],0⟩:zZ8),27) else (zi b 1).bind fun k=>(zar a k).bind fun g=>(zdP g 65535).bind fun c=>some ((⟨d.1.Kind,d.1.Name,c.1⟩:zZ8),0)
def zel (a:Str):Option Bool:=if (!(a==[])) then (zcm zhl [a]).bind fun b=>some b else some false
def zbW (b:Str) (a:Str):Option Bool:=(zco b a).bind fun c=>some (decide ((0:Int)≤c))
def zeB (b:zZR) (a:zZy) (t4:Bool):Option (Bool × zZR × zZy):=some (t4,b,a)
def zjw (x_r:z0u) (b:zZR):Option (Bool × zZR × zZy):=(zaj x_r.Scanner zg3).bind fun a=>(zcv a.1).bind fun c=>(zel a.1).bind fun d=>if d then zeB ({b with By:=a.1}:zZR) a.2 true else if (c.2==0) then (zbW a.1 [44,40,41]).bind fun e=>zeB ({b with By:=a.1}:zZR) a.2 (!e) else zeB ({b with By:=a.1}:zZR) a.2 false
def zb2 (b:Str) (a:Str):Option Bool:=if (decide ((a.length:Int)≤(b.length:Int))) then (sTo b (a.length:Int)).bind fun c=>some (c==a) else some false
def zeR (b:Str) (a:Str):Option (Str × Bool):=(zb2 b a).bind fun c=>if (!c) then some (b,false) else (zar b (a.length:Int)).bind fun d=>some (d,true)
def zdE (b:Str) (a:Str):Option (Str × Bool):=(zeR b a).bind fun c=>some (c.1,c.2)
def zc1 (b:Str) (a:Str):Option Bool:=if (decide ((a.length:Int)≤(b.length:Int))) then (zbt (b.length:Int) (a.length:Int)).bind fun c=>(zar b c).bind fun d=>some (d==a) else some false
def zeS (b:Str) (a:Str):Option (Str × Bool):=(zc1 b a).bind fun c=>if (!c) then some (b,false) else (zbt (b.length:Int) (a.length:Int)).bind fun d=>(sTo b d).bind fun e=>some (e,true)
def zff (b:Str) (a:Str):Option (Str × Bool):=(zeS b a).bind fun c=>some (c.1,c.2)
def zg5 (a:UInt8):Option Bool:=if (decide (32<a)) then some (decide (a<127)) else some false
def zhm (a:UInt8):Option Bool:=if (a==32) then some true else some (a==9)
def zbn (a:UInt8):Option Bool:=(zg5 a).bind fun b=>if b then some true else (zhm a).bind fun c=>if c then some true else some (decide (127<a))
def ze7 (c:Int→Int→Option Bool) (b:Str) (i3:Int) (i4:Int):Option Bool:=if (decide (i3<0)) then some false else if (decide ((b.length:Int)≤i4)) then some false else (zi i4 1).bind fun a=>c i3 a
def zb9 (a:Str):Nat→Int→Int→Option Bool
 | 0,_,_=>none
 | n+1,i3,i4=>if (decide (i4<(a.length:Int))) then (sAt a i4).bind fun b=>if (b==40) then (zi i3 1).bind fun c=>ze7 (zb9 a n) a c i4 else if (b==41) then (zbt i3 1).bind fun d=>ze7 (zb9 a n) a d i4 else if (b==92) then (zi i4 1).bind fun e=>ze7 (zb9 a n) a i3 e else ze7 (zb9 a n) a i3 i4 else if (i3==0) then (zcm zbn [a]).bind fun f=>some f else some false
def zns (a:Str):Option Bool:=zb9 a fuel 0 0
def zbA (b:zZR) (a:zZy) (t4:Bool):Option (Bool × zZR × zZy):=some (t4,b,a)
def zfg (x_r:z0u) (a:zZR):Option (Bool × zZR × zZy):=(zbb x_r.Scanner).bind fun d=>if d then some (true,a,x_r.Scanner) else (zbe x_r.Scanner).bind fun e=>(zdE e [32,40]).bind fun c=>(zff c.1 [41]).bind fun b=>if c.2 then if b.2 then if (!(b.1==[])) then (zns b.1).bind fun f=>zbA ({a with Comment:=b.1}:zZR) x_r.Scanner f else zbA ({a with Comment:=b.1}:zZR) x_r.Scanner false else zbA ({a with Comment:=b.1}:zZR) x_r.Scanner false else zbA ({a with Comment:=b.1}:zZR) x_r.Scanner false
def ztz (c:Str):Option (zZR × Int):=(zg2 c).bind fun f=>(zeQ (⟨f⟩:z0u) (⟨[],[],[],[]⟩:zZR)).bind fun a=>if (!a.1) then some ((⟨[],[],[],[]⟩:zZR),2) else (zl a.2.2 32).bind fun d=>if (!d.1) then some ((⟨[],[],[],[]⟩:zZR),2) else (zjw (⟨d.2⟩:z0u) a.2.1).bind fun b=>if (!b.1) then some ((⟨[],[],[],[]⟩:zZR),2) else (zfg (⟨b.2.2⟩:z0u) b.2.1).bind fun e=>if (!e.1) then some ((⟨[],[],[],[]⟩:zZR),2) else some (e.2.1,0)
def zmB (d:zZR) (c:List Str):Option (Str × Int):=(zaM [] c).bind fun a=>(ztz a).bind fun b=>if (!(b.2==0)) then some ([],2) else if (!(b.1==d)) then some ([],2) else some (a,0)
def zmC (v1:zZR) (a:List Str):Option (Str × Int):=if (!(v1.Comment==[])) then if zf a.length ([[32,40],v1.Comment,[41]]:List Str).length 16 then zmB v1 (a++([[32,40],v1.Comment,[41]])) else none else zmB v1 a
def zn2 (x_v:zZR):Option (Str × Int):=if (!(x_v.Proto==[])) then if zf ([x_v.Proto,[47]]:List Str).length ([x_v.Version,[32],x_v.By]:List Str).length 16 then zmC x_v (([x_v.Proto,[47]]:List Str)++([x_v.Version,[32],x_v.By])) else none else zmC x_v ([x_v.Version,[32],x_v.By])
def zkN (a:Str):Option Bool:=(zfD a).bind fun b=>if b then (zbM a).bind fun c=>some (!c) else some false
def zga (c:List zZJ) (d:List zZJ) (b:Int):Nat→Int→Option Int
 | 0,_=>none
 | n+1,a=>if (decide (a<b)) then (lAt d a).bind fun r1=>(zkN r1.From).bind fun e=>if (!e) then some 27 else (zkN r1.To).bind fun f=>if (!f) then some 27 else (zbW r1.To [44,59]).bind fun g=>if g then some 27 else (zi a 1).bind fun h=>zga c d b n h else if (decide ((64:Int)<(c.length:Int))) then some 3 else some 0
def zlZ (a:List zZJ):Option Int:=zga a a (a.length:Int) fuel 0
def zg6 (a:UInt8):Option Bool:=(zej a).bind fun b=>if b then some true else (zbL a).bind fun c=>if c then some true else if (a==43) then some true else if (a==45) then some true else some (a==46)
def zl0 (a:Str):Option Bool:=if (!(a==[])) then (sAt a 0).bind fun b=>(zej b).bind fun c=>if c then (zcm zg6 [a]).bind fun d=>some d else some false else some false
def zbv (b:Str) (a:Str):Option Bool:=(zb2 b a).bind fun c=>some c
def zh0 (a:Str) (c:Str):Option (Str × Str):=(zco a c).bind fun b=>if (decide ((0:Int)≤b)) then (sTo a b).bind fun d=>(zar a b).bind fun e=>some (d,e) else some (a,[])
def zjx (v3:zZT):Option zZT:=some v3
def zg7 (a:Str) (v3:zZT):Option zZT:=if (!(a==[])) then (zar a 1).bind fun b=>zjx ({v3 with Frag:=b,HasFrag:=true}:zZT) else zjx v3
def zg8 (e:Str) (v3:zZT):Option zZT:=(zh0 e [63,35]).bind fun a=>(zbv a.2 [63]).bind fun c=>if c then (zar a.2 1).bind fun d=>(zh0 d [35]).bind fun b=>zg7 b.2 ({v3 with Path:=a.1,Query:=b.1,HasQuery:=true}:zZT) else zg7 a.2 ({v3 with Path:=a.1}:zZT)
def zg9 (a:Str) (v3:zZT):Option zZT:=(zbv a [47,47]).bind fun c=>if c then (zar a 2).bind fun d=>(zh0 d [47,63,35]).bind fun b=>zg8 b.2 ({v3 with Auth:=b.1,HasAuth:=true}:zZT) else zg8 a v3
def zjy (b:Str) (v3:zZT) (i4:Int) (a:Bool):Option zZT:=if a then (sTo b i4).bind fun c=>(zi i4 1).bind fun d=>(zar b d).bind fun e=>zg9 e ({v3 with Scheme:=c}:zZT) else zg9 b v3
def znt (a:Str):Option zZT:=(strings_IndexByte a 58).bind fun b=>if (decide ((0:Int)<b)) then (sTo a b).bind fun c=>(zl0 c).bind fun d=>zjy a (⟨[],[],[],[],[],false,false,false⟩:zZT) b d else zjy a (⟨[],[],[],[],[],false,false,false⟩:zZT) b false
def ziC (a:UInt8):Option Bool:=(zc7 a).bind fun b=>if b then some true else (zka a).bind fun c=>if c then some true else (zpW a [58,64]).bind fun d=>some d
def zjz (c:Int→Option Bool) (i5:Int) (a:Bool):Option Bool:=if a then some false else (zi i5 1).bind fun b=>c b
def zcU (a:Str) (s1:Str):Nat→Int→Option Bool
 | 0,_=>none
 | n+1,i5=>if (decide (i5<(a.length:Int))) then (sAt a i5).bind fun e=>if (e==37) then (zi i5 2).bind fun h=>if (decide ((a.length:Int)≤h)) then some false else (zi i5 1).bind fun i=>(zi i5 3).bind fun j=>(zlF a i j).bind fun l=>(zcm zek [l]).bind fun k=>if (!k) then some false else (zi i5 2).bind fun f=>(zi f 1).bind fun m=>zcU a s1 n m else (sAt a i5).bind fun g=>(ziC g).bind fun c=>if (!c) then (sAt a i5).bind fun b=>(strings_IndexByte s1 b).bind fun d=>zjz (zcU a s1 n) i5 (decide (d<0)) else zjz (zcU a s1 n) i5 false else some true
def zgG (b:Str) (a:Str):Option Bool:=zcU b a fuel 0
def zoW (x_r:zZT):Option Bool:=(zh0 x_r.Path [47]).bind fun a=>(zgG x_r.Auth [91,93]).bind fun d=>if (!d) then some false else (strings_Contains x_r.Auth [64]).bind fun e=>if e then some false else (zgG x_r.Path [47]).bind fun f=>if (!f) then some false else (zgG x_r.Query [47,63]).bind fun h=>if (!h) then some false else (zgG x_r.Frag [47,63]).bind fun g=>if (!g) then some false else if x_r.HasAuth then if (x_r.Path==[]) then some true else (sAt x_r.Path 0).bind fun b=>some (b==47) else (zbv x_r.Path [47,47]).bind fun i=>if i then some false else if (!(x_r.Scheme==[])) then some true else (strings_Contains a.1 [58]).bind fun c=>some (!c)
def znu (a:Str):Option (zZT × Int):=(znt a).bind fun b=>(zoW b).bind fun c=>if (!c) then some ((⟨[],[],[],[],[],false,false,false⟩:zZT),2) else some (b,0)
def zh1 (a:Str):Option Bool:=(znu a).bind fun b=>some (b.2==0)
def zfh (c:List zZJ) (d:List zZJ) (b:Int):Nat→Int→Option Int
 | 0,_=>none
 | n+1,a=>if (decide (a<b)) then (lAt d a).bind fun r1=>if (r1.From==[]) then some 2 else (zh1 r1.From).bind fun e=>if (!e) then some 2 else (zh1 r1.To).bind fun f=>if (!f) then some 2 else (zi a 1).bind fun g=>zfh c d b n g else if (decide ((64:Int)<(c.length:Int))) then some 3 else some 0
def zkO (a:List zZJ):Option Int:=zfh a a (a.length:Int) fuel 0
def zh2 (v1:zZI) (a:Bool):Option Int:=if a then some 2 else (zlZ v1.Domains).bind fun b=>if (!(b==0)) then some b else (zkO v1.Locations).bind fun c=>some c
def zkP (v1:zZI) (b:Int) (a:Bool):Option Int:=if a then some b else if (!(v1.Scheme==[])) then if (!(v1.Scheme==[104,116,116,112])) then zh2 v1 (!(v1.Scheme==[104,116,116,112,115])) else zh2 v1 false else zh2 v1 false
def zkb (x_env:zZI):Option Int:=(zn2 (⟨[],[49,46,49],x_env.By,[]⟩:zZR)).bind fun b=>if (!(b.2==0)) then some b.2 else (zcv x_env.Host).bind fun a=>if (!(a.2==0)) then zkP x_env a.2 (!(x_env.Host==[])) else zkP x_env a.2 false
def zdu (a:Int):Option (Option zZG × Int):=if (decide (a<1)) then some (none,1) else if (decide ((65536:Int)<a)) then some (none,1) else some (some (⟨a,[],false⟩:zZG),0)
def zh3 (a:Int):Option (Option zZC × Int):=if (decide (a<1)) then some (none,1) else if (decide ((64:Int)<a)) then some (none,1) else some (some (⟨(⟨[],a⟩:z0q),false⟩:zZC),0)
def zn3 (a:Int):Option (Option (List Str)):=if (a==1) then some (some ([[99,108,105,101,110,116],[104,111,115,116],[109,101,116,104,111,100],[112,97,116,104],[115,99,104,101,109,101]])) else if (a==2) then some (some ([[99,108,105,101,110,116],[104,111,115,116],[115,99,104,101,109,101],[115,116,97,116,117,115]])) else some none
def ze8 (x_f:zZn):Option Int:=(zel x_f.Name).bind fun a=>if (!a) then some 21 else (zcm zbn [x_f.Value]).bind fun b=>if (!b) then some 25 else (zcc x_f.Value [32,9]).bind fun c=>if (!(c==x_f.Value)) then some 25 else some 0
def zl1 (v1:z0m) (i4:Int) (a:Bool):Option Bool:=if a then (zel v1.Name).bind fun b=>if b then some (v1.Value==[]) else some false else if (i4==3) then (ze8 (⟨v1.Name,v1.Value⟩:zZn)).bind fun c=>some (c==0) else some false
def zqK (x_g:z0m):Option Bool:=if (x_g.Kind==0) then if (x_g.Name==[]) then some (x_g.Value==[]) else some false else if (x_g.Kind==1) then zl1 x_g x_g.Kind true else zl1 x_g x_g.Kind (x_g.Kind==2)
def ztA:Option (List Str):=some ([[99,111,110,110,101,99,116,105,111,110],[99,111,110,116,101,110,116,45,108,101,110,103,116,104],[107,101,101,112,45,97,108,105,118,101],[112,114,111,120,121,45,99,111,110,110,101,99,116,105,111,110],[116,101],[116,114,97,105,108,101,114],[116,114,97,110,115,102,101,114,45,101,110,99,111,100,105,110,103],[117,112,103,114,97,100,101]])
def zbF (s:Str):Option Str:=if s.length<4294967281 then s.mapM zck else none
def za8 (c:List Str) (s1:Str) (b:Int):Nat→Int→Option Int
 | 0,_=>none
 | n+1,a=>if (decide (a<b)) then (lAt c a).bind fun d=>if (s1==d) then some a else (zi a 1).bind fun e=>za8 c s1 b n e else some (-1)
def zca (a:List Str) (b:Str):Option Int:=za8 a b (a.length:Int) fuel 0
def zU (a:List Str) (b:Str):Option Bool:=(zca a b).bind fun c=>some (decide ((0:Int)≤c))
def ztB (a:Str):Option Bool:=ztA.bind fun c=>(zbF a).bind fun b=>(zU c b).bind fun d=>some d
def ztC (a:Str):Option Bool:=(ztB a).bind fun c=>if c then some true else (zbF a).bind fun b=>(zU ([[104,111,115,116],[118,105,97],[102,111,114,119,97,114,100,101,100],[120,45,102,111,114,119,97,114,100,101,100,45,102,111,114]]) b).bind fun d=>some d
def zpX (a:Str):Option Bool:=(zel a).bind fun c=>if c then (ztC a).bind fun b=>some (!b) else some false
def zl2 (d:List Str→Int→Option (List Str)) (a:List Str) (v5:zZq) (c:Int) (b:Bool):Option (List Str):=if b then if zf a.length ([v5.Text]:List Str).length 16 then (zi c 1).bind fun e=>d (a++[v5.Text]) e else none else (zi c 1).bind fun f=>d a f
def zfE (d:List zZq) (c:Int):Nat→List Str→Int→Option (List Str)
 | 0,_,_=>none
 | n+1,b,a=>if (decide (a<c)) then (lAt d a).bind fun r1=>if (r1.Kind==2) then (zU b r1.Text).bind fun e=>zl2 (zfE d c n) b r1 a (!e) else zl2 (zfE d c n) b r1 a false else some b
def zqL (a:List zZq):Option (List Str):=zfE a (a.length:Int) fuel [] 0
def zn4 (a:UInt8):Option Bool:=if (decide (97≤a)) then some (decide (a≤122)) else some false
def zn5 (a:UInt8):Option Bool:=(zbn a).bind fun b=>if b then some (!(a==36)) else some false
def zcO (a:zZy) (b:Str):Option (Bool × zZy):=(zbe a).bind fun c=>(zbv c b).bind fun d=>if (!d) then some (false,a) else (zi a.zZ4 (b.length:Int)).bind fun e=>some (true,(⟨a.z0w,e⟩:zZy))
def zeT (vp0:zZ7) (s1:Str) (i4:Int) (b:Bool):Option zZ7:=if b then (zbt i4 1).bind fun a=>(lAt vp0.zZD a).bind fun r2=>(zci r2.Text s1).bind fun c=>(lAt vp0.zZD a).bind fun r4=>(zxe vp0.zZD a (⟨r4.Kind,c⟩:zZq)).bind fun d=>some (⟨vp0.Scanner,d⟩:zZ7) else if zf vp0.zZD.length ([(⟨1,s1⟩:zZq)]:List zZq).length 24 then some (⟨vp0.Scanner,vp0.zZD++[(⟨1,s1⟩:zZq)]⟩:zZ7) else none
def zeC (a:zZ7) (b:Str):Option zZ7:=if (decide ((0:Int)<(a.zZD.length:Int))) then (zbt (a.zZD.length:Int) 1).bind fun c=>(lAt a.zZD c).bind fun r2=>zeT a b (a.zZD.length:Int) (r2.Kind==1) else zeT a b (a.zZD.length:Int) false
def zd4 (a:zZ7) (t2:Bool):Option (Bool × zZ7):=some (t2,a)
def zd5 (vp0:zZ7) (v3:zZq):Option (Bool × zZ7):=if zf vp0.zZD.length ([v3]:List zZq).length 24 then if (!(v3.Text==[])) then (zl vp0.Scanner 125).bind fun a=>zd4 (⟨a.2,vp0.zZD++[v3]⟩:zZ7) a.1 else zd4 (⟨vp0.Scanner,vp0.zZD++[v3]⟩:zZ7) false else none
def zfN (x_r:zZ7):Option (Bool × zZ7):=(zl x_r.Scanner 64).bind fun a=>if a.1 then (zat a.2).bind fun b=>zd5 (⟨b.2.2,x_r.zZD⟩:zZ7) (⟨3,b.1⟩:zZq) else (zaj a.2 zn4).bind fun c=>zd5 (⟨c.2,x_r.zZD⟩:zZ7) (⟨2,c.1⟩:zZq)
def zgH (x_r:zZ7):Option (Bool × zZ7):=(zcO x_r.Scanner [36,36]).bind fun a=>if a.1 then (zeC (⟨a.2,x_r.zZD⟩:zZ7) [36]).bind fun e=>some (true,e) else (zcO a.2 [36,123]).bind fun b=>if b.1 then (zfN (⟨b.2,x_r.zZD⟩:zZ7)).bind fun d=>some (d.1,d.2) else (zaj b.2 zn5).bind fun c=>(zeC (⟨c.2,x_r.zZD⟩:zZ7) c.1).bind fun f=>some (!(c.1==[]),f)
def zje:Nat→zZ7→Option (List zZq × Int)
 | 0,_=>none
 | n+1,v4=>(zbb v4.Scanner).bind fun b=>if (!b) then (zgH v4).bind fun a=>if (!a.1) then some ([],2) else zje n a.2 else if (decide ((32:Int)<(v4.zZD.length:Int))) then some ([],3) else some (v4.zZD,0)
def zqM (a:Str):Option (List zZq × Int):=(zg2 a).bind fun b=>zje fuel (⟨b,[]⟩:zZ7)
def zaO (d:List zZq) (c:List zZq) (b:Int):Nat→Int→Option Bool
 | 0,_=>none
 | n+1,a=>if (decide (a<b)) then (lAt d a).bind fun e=>(lAt c a).bind fun f=>if (!(e==f)) then some false else (zi a 1).bind fun g=>zaO d c b n g else some true
def zbw (a:List zZq) (b:List zZq):Option Bool:=if (!((a.length:Int)==(b.length:Int))) then some false else zaO a b (a.length:Int) fuel 0
def ziD (d:List Str→Int→Option (Str × Int)) (c:List Str) (a:Int):Option (Str × Int):=(zi a 1).bind fun b=>d c b
def zd6 (e:List zZq) (c:List zZq) (b:Int):Nat→List Str→Int→Option (Str × Int)
 | 0,_,_=>none
 | n+1,d,a=>if (decide (a<b)) then (lAt c a).bind fun r1=>if (r1.Kind==1) then (strings_ReplaceAll r1.Text [36] [36,36]).bind fun f=>if zf d.length ([f]:List Str).length 16 then ziD (zd6 e c b n) (d++[f]) a else none else if (r1.Kind==2) then if zf d.length ([[36,123],r1.Text,[125]]:List Str).length 16 then ziD (zd6 e c b n) (d++([[36,123],r1.Text,[125]])) a else none else if (r1.Kind==3) then if zf d.length ([[36,123,64],r1.Text,[125]]:List Str).length 16 then ziD (zd6 e c b n) (d++([[36,123,64],r1.Text,[125]])) a else none else ziD (zd6 e c b n) d a else (zaM [] d).bind fun g=>(zqM g).bind fun h=>if (!(h.2==0)) then some ([],2) else (zbw h.1 e).bind fun i=>if (!i) then some ([],2) else some (g,0)
def ztD (a:List zZq):Option (Str × Int):=zd6 a a (a.length:Int) fuel [] 0
def zjf (d:List zZq) (e:List Str) (c:List Str) (b:Int):Nat→Int→Option Bool
 | 0,_=>none
 | n+1,a=>if (decide (a<b)) then (lAt c a).bind fun f=>(zU e f).bind fun g=>if (!g) then some false else (zi a 1).bind fun h=>zjf d e c b n h else (ztD d).bind fun i=>some (i.2==0)
def zl3 (a:List zZq) (c:List Str):Option Bool:=(zqL a).bind fun b=>zjf a c b (b.length:Int) fuel 0
def zqN (a:Int) (b:List zZq):Option Bool:=(zn3 a).bind fun c=>optK c (zl3 b []) fun d=>zl3 b d
def zoX (v1:zZu):Option Bool:=if (v1.To==[]) then (zqN v1.Side v1.Parts).bind fun a=>some a else some false
def zv1 (x_r:zZu):Option Bool:=if (x_r.Kind==1) then zoX x_r else if (x_r.Kind==2) then zoX x_r else if (x_r.Kind==3) then if (x_r.To==[]) then some ((x_r.Parts.length:Int)==0) else some false else if (x_r.Kind==4) then (zpX x_r.To).bind fun a=>if a then some ((x_r.Parts.length:Int)==0) else some false else some false
def zqO (x_r:zZu):Option Int:=(zn3 x_r.Side).bind fun a=>optK a (some 9) fun b=>(nnl b).bind fun _=>(zqK x_r.Guard).bind fun c=>if (!c) then some 9 else (zpX x_r.Name).bind fun d=>if (!d) then some 9 else (zv1 x_r).bind fun e=>if (!e) then some 9 else some 0
def zh4 (d:List zZu) (b:List zZu) (a:Int):Nat→Int→Option (Int × Int)
 | 0,_=>none
 | n+1,i9=>if (decide (i9<a)) then (lAt b i9).bind fun e=>(zqO e).bind fun c=>if (!(c==0)) then some (i9,c) else (zi i9 1).bind fun f=>zh4 d b a n f else if (decide ((64:Int)<(d.length:Int))) then some (0,3) else some (0,0)
def zh5 (a:List zZu):Option (Int × Int):=zh4 a a (a.length:Int) fuel 0
def zh6 (l:List zZJ):Option (List zZJ):=if zf 0 l.length 32 then some l else none
def zgb (l:List zZq):Option (List zZq):=if zf 0 l.length 24 then some l else none
def zdl (i0:Int) (b:Int) (a:Bool):Option (Option zZA × Int):=if a then some (none,1) else some (some (⟨i0,b,[],0,false,0,false,(⟨0,[],[],0,[],0,[]⟩:zZr)⟩:zZA),0)
def ziE (b:Int) (a:Int):Option (Option zZA × Int):=if (!(b==1)) then if (!(b==2)) then zdl b a true else if (decide (a<0)) then zdl b a true else zdl b a (decide ((65536:Int)<a)) else if (decide (a<0)) then zdl b a true else zdl b a (decide ((65536:Int)<a))
def zbN (b:Int) (a:Int):Option zZv:=(ziE b a).bind fun c=>optK c.1 (some (⟨none,none,none⟩:zZv)) fun d=>some (⟨some d,none,none⟩:zZv)
def zcw (v4:z0l) (c:List zZu) (d:Int):Nat→zZk→Int→Option (Option zZk × Int)
 | 0,_,_=>none
 | n+1,a,b=>if (decide (b<d)) then (lAt c b).bind fun r1=>(zgb r1.Parts).bind fun e=>if zf a.zZ5.length ([({r1 with Parts:=e}:zZu)]:List zZu).length 112 then (zi b 1).bind fun f=>zcw v4 c d n ({a with zZ5:=a.zZ5++[({r1 with Parts:=e}:zZu)]}:zZk) f else none else (zbN 1 v4.Head).bind fun g=>(zbN 2 v4.Head).bind fun h=>some (some ({a with zZm:=g,zZl:=h}:zZk),0)
def zcx (a:List zZu) (v3:zZI) (v4:z0l) (d:Int) (b:Option zZC) (c:Int):Option (Option zZk × Int):=if (!(d==0)) then some (none,1) else if (!(c==0)) then some (none,1) else if (decide (v4.Head<1)) then some (none,1) else if (decide ((65536:Int)<v4.Head)) then some (none,1) else (zh5 a).bind fun e=>if (!(e.2==0)) then some (none,e.2) else (zh6 v3.Domains).bind fun f=>(zh6 v3.Locations).bind fun g=>zcw v4 a (a.length:Int) fuel (⟨b,({v3 with Domains:=f,Locations:=g}:zZI),v4,[],(⟨none,none,none⟩:zZv),(⟨none,none,none⟩:zZv),[],[],0,false,false,false,false,false,false,false⟩:zZk) 0
def zcy (c:List zZu) (v3:zZI) (v4:z0l) (a:Int):Option (Option zZk × Int):=(zh3 v4.Queue).bind fun b=>optK b.1 (zcx c v3 v4 a none b.2) fun d=>zcx c v3 v4 a (some d) b.2
def zdv (a:zZI) (x_a1:z0l) (b:List zZu):Option (Option zZk × Int):=(zkb a).bind fun d=>if (!(d==0)) then some (none,d) else (zdu x_a1.Chunk).bind fun c=>optK c.1 (zcy b a x_a1 c.2) fun e=>zcy b a x_a1 c.2
def zdX (x_s:zZV):Option (Option zZt × Int):=(zdv x_s.Env x_s.Caps x_s.Rules).bind fun a=>optK a.1 (if (!(a.2==0)) then some (none,a.2) else if (decide ((1048576:Int)<(x_s.Client.length:Int))) then some (none,3) else if (decide ((1048576:Int)<(x_s.Upstream.length:Int))) then some (none,3) else none) fun b=>if (!(a.2==0)) then some (none,a.2) else if (decide ((1048576:Int)<(x_s.Client.length:Int))) then some (none,3) else if (decide ((1048576:Int)<(x_s.Upstream.length:Int))) then some (none,3) else some (some (⟨b,(⟨x_s.Client,0,x_s.ClientEnds,false,[],(),()⟩:z0f),(⟨x_s.Upstream,0,x_s.UpstreamEnds,false,[],(),()⟩:z0f),(⟨0,0⟩:z0D)⟩:zZt),0)
def zjA (v1:zZL) (i4:Int) (t5:Bool):Option Int:=if t5 then if (decide ((0:Int)≤v1.N)) then if (decide (v1.N≤1048576)) then some 0 else some 1 else some 1 else if (i4==2) then if (v1.N==0) then some 0 else some 1 else if (i4==4) then if (v1.N==0) then some 0 else some 1 else some 1
def zkQ (x_e:zZL):Option Int:=if (x_e.Kind==1) then zjA x_e x_e.Kind true else zjA x_e x_e.Kind (x_e.Kind==3)
def zhy:Option Bool:=some true
def zfO (a:zZA):Option Bool:=some (!a.z0L)
def zfi (x_s:zZv):Option Bool:=optK x_s.z0t (optK x_s.Accum (zhy.bind fun b=>some b) fun a=>(zfO a).bind fun c=>some c) fun d=>some false
def zgI:Option Bool:=some false
def zgc (a:z0q):Option Int:=(zbt a.zZE (a.z0g.length:Int)).bind fun b=>some b
def zcn (a:zZC):Option Bool:=(zgc a.zZQ).bind fun b=>some (b==0)
def zI (x_g:zZk):Option Bool:=if (!x_g.zZo) then if (!x_g.zZH) then (zfi x_g.zZm).bind fun a=>if (!a) then some true else optK x_g.Queue (zgI.bind fun c=>some (!c)) fun b=>(zcn b).bind fun d=>some (!d) else some false else some false
def zgd (a:Str):Option (Int × Bool × Int):=some (0,false,5)
def zqP (a:Int):Option Int:=if (a==0) then some 0 else if (a==3) then some 431 else some 400
def zeq:Option (zZr × Bool):=some ((⟨0,[],[],0,[],0,[]⟩:zZr),false)
def zha (l:List zZn):Option (List zZn):=if zf 0 l.length 32 then some l else none
def zfP (a:List zZn):Option zZZ:=(zha a).bind fun b=>some (⟨b⟩:zZZ)
def zcb (a:zZZ):Option (List zZn):=(zha a.z0g).bind fun b=>some b
def zbX (a:Str) (b:Str):Option Bool:=(zbF a).bind fun d=>(zbF b).bind fun c=>some (d==c)
def zdF (s1:Str) (d:List zZn) (b:Int):Nat→List Str→Int→Option (List Str)
 | 0,_,_=>none
 | n+1,c,a=>if (decide (a<b)) then (lAt d a).bind fun r1=>(zbX r1.Name s1).bind fun e=>if e then if zf c.length ([r1.Value]:List Str).length 16 then (zi a 1).bind fun f=>zdF s1 d b n (c++[r1.Value]) f else none else (zi a 1).bind fun g=>zdF s1 d b n c g else some c
def zcz (b:zZZ) (a:Str):Option (List Str):=(zcb b).bind fun c=>zdF a c (c.length:Int) fuel [] 0
def zfQ (b:zZy) (a:Int):Option (Bool × zZy):=if (decide (a<0)) then some (false,b) else (zcT b).bind fun c=>if (decide (c<a)) then some (false,b) else some (true,(⟨b.z0w,a⟩:zZy))
def zdm (vp0:zZM):Option zZM:=(zcT vp0.Scanner).bind fun a=>some ({vp0 with z0C:=a}:zZM)
def zc2 (a:zZM) (b:Int):Option zZM:=(zlF a.z0w a.z0C b).bind fun d=>(zcc d [32,9]).bind fun c=>if (!(c==[])) then if zf a.zZD.length ([c]:List Str).length 16 then zdm ({a with zZD:=a.zZD++[c]}:zZM) else none else zdm a
def zaa:Nat→zZM→Int→Option (Bool × zZM)
 | 0,_,_=>none
 | n+1,vp0,i3=>if (decide ((0:Int)<i3)) then (zbf vp0.Scanner).bind fun b=>if (!b.2) then some (false,vp0) else (zl vp0.Scanner b.1).bind fun a=>if (b.1==40) then (zi i3 1).bind fun d=>zaa n ({vp0 with Scanner:=a.2}:zZM) d else if (b.1==41) then (zbt i3 1).bind fun e=>zaa n ({vp0 with Scanner:=a.2}:zZM) e else if (b.1==92) then (zbf a.2).bind fun c=>if c.2 then (zl a.2 c.1).bind fun f=>zaa n ({vp0 with Scanner:=f.2}:zZM) i3 else zaa n ({vp0 with Scanner:=a.2}:zZM) i3 else zaa n ({vp0 with Scanner:=a.2}:zZM) i3 else some (true,vp0)
def zcX (a:zZM):Option (Bool × zZM):=zaa fuel a 1
def ziF (d:z0s→Bool→Option (Str × Bool × zZy)) (i4:Int) (v5:z0s) (f:Bool) (c:Bool):Option (Str × Bool × zZy):=if c then (zl v5.Scanner 92).bind fun b=>(zbf b.2).bind fun a=>if (!a.2) then d (⟨b.2,v5.zZD⟩:z0s) false else (zbn a.1).bind fun g=>if (!g) then d (⟨b.2,v5.zZD⟩:z0s) false else if zf v5.zZD.length ([a.1]:List UInt8).length 1 then (zl b.2 a.1).bind fun e=>d (⟨e.2,v5.zZD++[a.1]⟩:z0s) e.1 else none else if (!f) then (zfQ v5.Scanner i4).bind fun h=>some ([],false,h.2) else some (v5.zZD,true,v5.Scanner)
def zc9 (i4:Int):Nat→z0s→Bool→Option (Str × Bool × zZy)
 | 0,_,_=>none
 | n+1,v5,a=>if a then (zl v5.Scanner 34).bind fun b=>ziF (zc9 i4 n) i4 (⟨b.2,v5.zZD⟩:z0s) a (!b.1) else ziF (zc9 i4 n) i4 v5 a false
def zjg (a:zZy):Option (Str × Bool × zZy):=(zcT a).bind fun c=>(zl a 34).bind fun b=>zc9 c fuel (⟨b.2,[]⟩:z0s) b.1
def zd7 (x_p:zZM):Option (Bool × zZM):=(zcT x_p.Scanner).bind fun f=>(zl x_p.Scanner 44).bind fun b=>if b.1 then (zc2 ({x_p with Scanner:=b.2}:zZM) f).bind fun g=>some (true,g) else (zl b.2 40).bind fun a=>if a.1 then (zcX ({x_p with Scanner:=a.2}:zZM)).bind fun e=>some (e.1,e.2) else (zbf a.2).bind fun d=>if (d.1==34) then (zjg a.2).bind fun c=>some (c.2.1,({x_p with Scanner:=c.2.2}:zZM)) else (zl a.2 d.1).bind fun h=>some (true,({x_p with Scanner:=h.2}:zZM))
def zhb (b:Str):Nat→zZM→Option (List Str × Int)
 | 0,_=>none
 | n+1,v4=>(zbb v4.Scanner).bind fun c=>if (!c) then (zd7 v4).bind fun a=>if (!a.1) then some ([],2) else zhb b n a.2 else (zc2 v4 (b.length:Int)).bind fun d=>some (d.zZD,0)
def zkR (a:Str):Option (List Str × Int):=(zg2 a).bind fun b=>zhb a fuel (⟨b,[],0,a⟩:zZM)
def zge (f:List Str→Int→Option (List Str × Int)) (e:List Str) (d:List Str) (b:Int) (c:Int):Nat→Int→Option (List Str × Int)
 | 0,_=>none
 | n+1,a=>if (decide (a<c)) then (lAt d a).bind fun g=>(zel g).bind fun h=>if (!h) then some ([],2) else (zi a 1).bind fun i=>zge f e d b c n i else if zf e.length d.length 16 then (zi b 1).bind fun j=>f (e++d) j else none
def zer (b:List Str) (c:Int):Nat→List Str→Int→Option (List Str × Int)
 | 0,_,_=>none
 | n+1,e,a=>if (decide (a<c)) then (lAt b a).bind fun f=>(zkR f).bind fun d=>if (!(d.2==0)) then some ([],d.2) else zge (zer b c n) e d.1 a (d.1.length:Int) fuel 0 else some (e,0)
def zhn (a:List Str):Option (List Str × Int):=zer a (a.length:Int) fuel [] 0
def zdw (x_r:z0x) (b:List Str):Option (zZw × Int × zZZ):=(zhn b).bind fun a=>if (!(a.2==0)) then some ((⟨0,0⟩:zZw),30,x_r.Bag) else if (x_r.z0T==0) then some ((⟨0,0⟩:zZw),30,x_r.Bag) else if (!((a.1.length:Int)==1)) then some ((⟨0,0⟩:zZw),30,x_r.Bag) else (lAt a.1 0).bind fun c=>(zbX c [99,104,117,110,107,101,100]).bind fun d=>if (!d) then some ((⟨0,0⟩:zZw),30,x_r.Bag) else some ((⟨3,0⟩:zZw),0,x_r.Bag)
def zbo (f:Int→Int→Option (zZw × Int × zZZ)) (a:zZZ) (c:Int) (b:Int) (d:Bool):Option (zZw × Int × zZZ):=if d then some ((⟨0,0⟩:zZw),28,a) else (zi b 1).bind fun e=>f c e
def zai (g:Int→Int→Option (zZw × Int × zZZ)) (a:zZZ) (c:Int) (d:List Str) (e:Int):Nat→Int→Int→Option (zZw × Int × zZZ)
 | 0,_,_=>none
 | n+1,h,b=>if (decide (b<e)) then (lAt d b).bind fun i=>(zdP i 1099511627776).bind fun f=>if (!(f.2==0)) then zbo (zai g a c d e n) a f.1 b true else if (decide ((0:Int)≤h)) then zbo (zai g a c d e n) a f.1 b (!(f.1==h)) else zbo (zai g a c d e n) a f.1 b false else (zi c 1).bind fun j=>g h j
def zaP (a:zZZ) (c:List Str) (d:Int):Nat→Int→Int→Option (zZw × Int × zZZ)
 | 0,_,_=>none
 | n+1,e,b=>if (decide (b<d)) then (lAt c b).bind fun g=>(zkR g).bind fun f=>if (!(f.2==0)) then some ((⟨0,0⟩:zZw),28,a) else zai (zaP a c d n) a b f.1 (f.1.length:Int) fuel e 0 else if (decide (e<0)) then some ((⟨0,0⟩:zZw),28,a) else some ((⟨2,e⟩:zZw),0,a)
def zeU (x_r:z0x) (a:List Str):Option (zZw × Int × zZZ):=zaP x_r.Bag a (a.length:Int) fuel (-1) 0
def zkS (g:Int) (c:z0x) (d:List Str) (f:List Str) (a:Bool):Option (zZw × Int):=if a then some ((⟨0,0⟩:zZw),29) else if (decide ((0:Int)<(d.length:Int))) then (zdw c d).bind fun b=>some (b.1,b.2.1) else if (decide ((0:Int)<(f.length:Int))) then (zeU c f).bind fun e=>some (e.1,e.2.1) else some ((⟨g,0⟩:zZw),0)
def znN (x_h:zZr) (a:Int):Option (zZw × Int):=(zfP x_h.Fields).bind fun b=>(zcz b [84,114,97,110,115,102,101,114,45,69,110,99,111,100,105,110,103]).bind fun c=>(zcz b [67,111,110,116,101,110,116,45,76,101,110,103,116,104]).bind fun d=>if (decide ((0:Int)<(c.length:Int))) then zkS a (⟨b,x_h.Minor⟩:z0x) c d (decide ((0:Int)<(d.length:Int))) else zkS a (⟨b,x_h.Minor⟩:z0x) c d false
def zeD (a:zZr):Option (zZw × Int):=(znN a 1).bind fun b=>some (b.1,b.2)
def ziG (e:List Str→Int→Option (List Str)) (b:List Str) (d:Str) (a:Int) (c:Bool):Option (List Str):=if c then if zf b.length ([d]:List Str).length 16 then (zi a 1).bind fun f=>e (b++[d]) f else none else (zi a 1).bind fun g=>e b g
def zda (g:List Str→Int→Option (List Str)) (b:Int) (c:List Str) (d:Int):Nat→List Str→Int→Option (List Str)
 | 0,_,_=>none
 | n+1,e,a=>if (decide (a<d)) then (lAt c a).bind fun h=>(zbF h).bind fun f=>if (!(f==[104,111,115,116])) then (zU e f).bind fun i=>ziG (zda g b c d n) e f a (!i) else ziG (zda g b c d n) e f a false else (zi b 1).bind fun j=>g e j
def zdb (b:List Str) (c:Int):Nat→List Str→Int→Option (List Str)
 | 0,_,_=>none
 | n+1,d,a=>if (decide (a<c)) then (lAt b a).bind fun f=>(zhn [f]).bind fun e=>zda (zdb b c n) a e.1 (e.1.length:Int) fuel d 0 else some d
def zl4 (a:List zZn):Option (List Str):=(zfP a).bind fun c=>(zcz c [67,111,110,110,101,99,116,105,111,110]).bind fun b=>zdb b (b.length:Int) fuel [] 0
def znO (b:Str) (a:Str):Option Bool:=(zbX b a).bind fun c=>some c
def z7 (d:List Str) (c:Str) (b:Int):Nat→Int→Option Int
 | 0,_=>none
 | n+1,a=>if (decide (a<b)) then (lAt d a).bind fun e=>(znO e c).bind fun f=>if f then some a else (zi a 1).bind fun g=>z7 d c b n g else some (-1)
def za4 (a:List Str) (b:Str):Option Int:=z7 a b (a.length:Int) fuel 0
def zaQ (b:List Str) (a:Str):Option Bool:=(za4 b a).bind fun c=>some (decide ((0:Int)≤c))
def zv2 (b:Str) (a:List Str):Option Bool:=(zaQ a b).bind fun c=>some c
def zdc (x_f:zZn) (a:List Str):Option Bool:=(zv2 x_f.Name a).bind fun b=>some b
def zJ (d:List zZn) (c:List Str) (b:Int):Nat→Int→Option Int
 | 0,_=>none
 | n+1,a=>if (decide (a<b)) then (lAt d a).bind fun e=>(zdc e c).bind fun f=>if f then some a else (zi a 1).bind fun g=>zJ d c b n g else some (-1)
def zau (a:List zZn) (b:List Str):Option Int:=zJ a b (a.length:Int) fuel 0
def zE (c:List Str):Nat→List zZn→Int→Int→Option (List zZn)
 | 0,_,_,_=>none
 | n+1,a,i5,b=>if (decide (b<(a.length:Int))) then (lAt a b).bind fun d=>(zdc d c).bind fun h=>if (!h) then (lAt a i5).bind fun l=>(zxe a i5 d).bind fun i=>(zi i5 1).bind fun k=>(zi b 1).bind fun j=>zE c n i k j else (zi b 1).bind fun f=>zE c n a i5 f else (zoc a i5).bind fun e=>(lTo (a.take i5.toNat++(List.replicate e.length (⟨[],[]⟩:zZn)++a.drop (i5.toNat+e.length))) i5).bind fun g=>some g
def zZ (b:List zZn) (a:List Str):Option (List zZn):=(zau b a).bind fun c=>if (c==(-1)) then some b else (zi c 1).bind fun d=>zE a fuel b c d
def zdd (b:zZZ) (a:List Str):Option (Int × zZZ):=(zZ b.z0g a).bind fun c=>(zbt (b.z0g.length:Int) (c.length:Int)).bind fun d=>some (d,(⟨c⟩:zZZ))
def ztE (a:List zZn):Option (List zZn):=(zfP a).bind fun d=>(zl4 a).bind fun b=>ztA.bind fun c=>if zf b.length c.length 16 then (zdd d (b++c)).bind fun e=>(zcb e.2).bind fun f=>some f else none
def zmD (d:Int→Option Bool) (i5:Int) (a:Bool):Option Bool:=if a then (zi i5 2).bind fun b=>(zi b 1).bind fun c=>d c else some false
def zem (a:Str) (s1:Str):Nat→Int→Option Bool
 | 0,_=>none
 | n+1,i5=>if (decide (i5<(a.length:Int))) then (sAt a i5).bind fun e=>(ziC e).bind fun h=>if h then (zi i5 1).bind fun i=>zem a s1 n i else (sAt a i5).bind fun j=>(strings_IndexByte s1 j).bind fun l=>if (decide ((0:Int)≤l)) then (zi i5 1).bind fun k=>zem a s1 n k else (sAt a i5).bind fun f=>if (f==37) then (zi i5 2).bind fun m=>if (decide (m<(a.length:Int))) then (zi i5 1).bind fun g=>(zi i5 3).bind fun c=>(zlF a g c).bind fun b=>(zcm zek [b]).bind fun d=>zmD (zem a s1 n) i5 d else zmD (zem a s1 n) i5 false else zmD (zem a s1 n) i5 false else some true
def zsE (b:Str) (a:Str):Option Bool:=zem b a fuel 0
def zqQ (a:Str):Option Bool:=(zbv a [47]).bind fun b=>if b then (zsE a [47]).bind fun c=>some c else some false
def zoY (a:Str):Option Bool:=(zsE a [47,63]).bind fun b=>some b
def zpY (b:Str):Option (Str × Str × Bool × Int):=(strings_Cut b [63]).bind fun a=>(zqQ a.1).bind fun c=>if (!c) then some ([],[],false,2) else (zoY a.2.1).bind fun d=>if (!d) then some ([],[],false,2) else some (a.1,a.2.1,a.2.2,0)
def zkT (v2:zZ9) (a:Int):Option (zZ9 × Bool):=some (v2,a==0)
def zkU (s1:Str) (v2:zZ9) (b:Bool):Option (zZ9 × Bool):=(zpY s1).bind fun a=>if b then zkT (⟨v2.Kind,v2.Scheme,v2.Host,[],a.2.1,a.2.2.1⟩:zZ9) a.2.2.2 else zkT (⟨v2.Kind,v2.Scheme,v2.Host,a.1,a.2.1,a.2.2.1⟩:zZ9) a.2.2.2
def zmE (b:zZ9) (a:Str):Option (zZ9 × Bool):=if (a==[]) then some (b,true) else (sAt a 0).bind fun c=>if (c==63) then (zci [47] a).bind fun d=>zkU d b (c==63) else zkU a b (c==63)
def zgJ (b:Str) (e:zZ9) (a:Int):Option (zZ9 × Bool):=(sTo b a).bind fun f=>(zcv f).bind fun c=>if (!(c.2==0)) then some (e,false) else (zar b a).bind fun g=>(zmE ({e with Host:=c.1}:zZ9) g).bind fun d=>some (d.1,d.2)
def zeE (a:Str) (b:zZ9) (c:Bool):Option (zZ9 × Bool):=if c then some (b,false) else (zco a [47,63]).bind fun d=>if (decide (d<0)) then zgJ a b (a.length:Int) else zgJ a b d
def zjB (c:Str):Option (zZ9 × Bool):=(strings_Cut c [58,47,47]).bind fun a=>(zbF a.1).bind fun b=>if (!a.2.2) then zeE a.2.1 (⟨2,b,(⟨0,[],0⟩:zZ8),[],[],false⟩:zZ9) true else if (!(b==[104,116,116,112])) then zeE a.2.1 (⟨2,b,(⟨0,[],0⟩:zZ8),[],[],false⟩:zZ9) (!(b==[104,116,116,112,115])) else zeE a.2.1 (⟨2,b,(⟨0,[],0⟩:zZ8),[],[],false⟩:zZ9) false
def ztF (a:Str) (b:Str):Option (zZ9 × Bool):=if (b==[42]) then some ((⟨4,[],(⟨0,[],0⟩:zZ8),[],[],false⟩:zZ9),a==[79,80,84,73,79,78,83]) else (zbv b [47]).bind fun e=>if (!e) then (zjB b).bind fun c=>some (c.1,c.2) else (zmE (⟨1,[],(⟨0,[],0⟩:zZ8),[],[],false⟩:zZ9) b).bind fun d=>some (d.1,d.2)
def zjC (b:zZ8) (a:Bool):Option (zZ9 × Int):=if a then some ((⟨0,[],(⟨0,[],0⟩:zZ8),[],[],false⟩:zZ9),20) else some ((⟨3,[],b,[],[],false⟩:zZ9),0)
def zkV (a:Str) (b:Str):Option (zZ9 × Int):=if (a==[67,79,78,78,69,67,84]) then (zcv b).bind fun c=>if (!(c.2==0)) then zjC c.1 true else zjC c.1 (decide (c.1.Port<0)) else (ztF a b).bind fun d=>if (!d.2) then some ((⟨0,[],(⟨0,[],0⟩:zZ8),[],[],false⟩:zZ9),20) else some (d.1,0)
def zqR (a:Str) (b:Str) (c:Bool):Option Str:=if (!c) then some a else (zci a [63]).bind fun d=>(zci d b).bind fun e=>some e
def ziH (v1:zZ9) (b:Str):Option Str:=(zqR b v1.Query v1.HasQuery).bind fun a=>some a
def zl5 (x_t:zZ9):Option Str:=if (x_t.Kind==4) then some [42] else if (x_t.Kind==3) then some [] else if (x_t.Path==[]) then ziH x_t [47] else ziH x_t x_t.Path
def ziI (d:zZ8) (c:List Str):Option (Str × Int):=(zaM [] c).bind fun a=>(zcv a).bind fun b=>if (!(b.2==0)) then some ([],27) else if (!(b.1==d)) then some ([],27) else some (a,0)
def ziJ (v1:zZ8) (a:List Str):Option (Str × Int):=if (!(v1.Port==(-1))) then (zdk v1.Port).bind fun b=>if zf a.length ([[58],b]:List Str).length 16 then ziI v1 (a++([[58],b])) else none else ziI v1 a
def zl6 (x_h:zZ8):Option (Str × Int):=if (x_h.Kind==3) then ziJ x_h ([[91],x_h.Name,[93]]) else ziJ x_h [x_h.Name]
def zho (x_x:zZn) (a:Str):Option Bool:=(zbX x_x.Name a).bind fun b=>some b
def zF (d:List zZn) (c:Str) (b:Int):Nat→Int→Option Int
 | 0,_=>none
 | n+1,a=>if (decide (a<b)) then (lAt d a).bind fun e=>(zho e c).bind fun f=>if f then some a else (zi a 1).bind fun g=>zF d c b n g else some (-1)
def zap (a:List zZn) (b:Str):Option Int:=zF a b (a.length:Int) fuel 0
def zkc (b:zZZ) (a:Str):Option (Str × Bool):=(zcz b a).bind fun c=>if ((c.length:Int)==0) then some ([],false) else (lAt c 0).bind fun d=>some (d,true)
def zfF (b:zZZ) (a:List zZn):Option zZZ:=if zf b.z0g.length a.length 32 then some (⟨b.z0g++a⟩:zZZ) else none
def zjh (c:zZZ) (a:Str) (b:Str):Option zZZ:=(zap c.z0g a).bind fun d=>if (decide (d<0)) then (zfF c [(⟨a,b⟩:zZn)]).bind fun e=>some e else (zdd c [a]).bind fun f=>(zcK f.2.z0g d [(⟨a,b⟩:zZn)]).bind fun g=>some (⟨g⟩:zZZ)
def zd8 (vp0:z0o) (v4:zZI):Option z0o:=(zkc vp0.Bag [72,111,115,116]).bind fun a=>if (!a.2) then (zfF vp0.Bag ([(⟨[72,111,115,116],v4.Host⟩:zZn)])).bind fun b=>some (⟨b,vp0.z0Q⟩:z0o) else some vp0
def zfR (x_w:z0o) (a:zZI) (x_t:zZ9):Option z0o:=if (x_t.Kind==2) then (zl6 x_t.Host).bind fun b=>(zjh x_w.Bag [72,111,115,116] b.1).bind fun c=>zd8 (⟨c,x_w.z0Q⟩:z0o) a else zd8 x_w a
def zcP (x_w:z0o):Option (zZr × Int):=(zcb x_w.Bag).bind fun a=>some ((⟨x_w.z0Q.Kind,x_w.z0Q.Method,x_w.z0Q.Target,x_w.z0Q.Code,x_w.z0Q.Reason,x_w.z0Q.Minor,a⟩:zZr),0)
def zfj (b:Str) (a:Str):Option Bool:=(zc1 b a).bind fun c=>some c
def zeF (e:Str) (c:List zZJ) (b:Int):Nat→Int→Option (Str × Bool)
 | 0,_=>none
 | n+1,a=>if (decide (a<b)) then (lAt c a).bind fun r1=>(zdE e r1.From).bind fun d=>if (!d.2) then (zi a 1).bind fun j=>zeF e c b n j else if (r1.From==[]) then (zi a 1).bind fun k=>zeF e c b n k else if (d.1==[]) then (zci r1.To d.1).bind fun m=>some (m,true) else (zfj r1.From [47]).bind fun l=>if l then (zci r1.To d.1).bind fun h=>some (h,true) else (sAt d.1 0).bind fun o=>(strings_IndexByte [47,63,35] o).bind fun i=>if (decide ((0:Int)≤i)) then (zci r1.To d.1).bind fun g=>some (g,true) else (zi a 1).bind fun f=>zeF e c b n f else some (e,false)
def zoZ (b:Str) (a:List zZJ):Option (Str × Bool):=zeF b a (a.length:Int) fuel 0
def ziK (a:Str) (c:List zZJ):Option Str:=(zoZ a c).bind fun b=>if (!b.2) then some a else (zh1 a).bind fun d=>if (!d) then some a else (zh1 b.1).bind fun e=>if (!e) then some a else some b.1
def zhp (a:UInt8):Option Bool:=some true
def zkW (v4:zZy) (b:Bool) (v7:z0d):Option (z0d × Bool):=if b then (zbb v4).bind fun a=>if a then (zcm zbn [v7.Value]).bind fun c=>if c then (zcc v7.Value [32,9]).bind fun d=>some (v7,d==v7.Value) else some (v7,false) else some (v7,false) else some (v7,false)
def zmF (c:Str):Option (z0d × Bool):=(zcc c [32,9]).bind fun e=>(zg2 e).bind fun f=>(zat f).bind fun a=>(zl a.2.2 61).bind fun b=>if b.1 then (zaj b.2 zhp).bind fun d=>zkW d.2 a.2.1 (⟨a.1,d.1,b.1⟩:z0d) else zkW b.2 a.2.1 (⟨a.1,[],b.1⟩:z0d)
def ziL (a:UInt8):Option Bool:=(zg5 a).bind fun b=>if b then (strings_IndexByte [34,44,59,92] a).bind fun c=>some (decide (c<0)) else some false
def znv (a:Str):Option Bool:=(zdE a [34]).bind fun b=>(zff b.1 [34]).bind fun c=>if (b.2==c.2) then (zcm ziL [c.1]).bind fun d=>some d else some false
def zhc (c:List Str) (b:Int):Nat→zZO→Int→Option (zZO × Int)
 | 0,_,_=>none
 | n+1,v7,a=>if (decide (a<b)) then (lAt c a).bind fun e=>(zmF e).bind fun d=>if (!d.2) then some ((⟨[],[],[]⟩:zZO),2) else if zf v7.Attrs.length ([d.1]:List z0d).length 40 then (zi a 1).bind fun f=>zhc c b n ({v7 with Attrs:=v7.Attrs++[d.1]}:zZO) f else none else some (v7,0)
def zkX (b:Str):Option (zZO × Int):=(strings_Split b [59]).bind fun c=>(lAt c 0).bind fun e=>(zmF e).bind fun a=>if (!a.2) then some ((⟨[],[],[]⟩:zZO),2) else if (!a.1.Has) then some ((⟨[],[],[]⟩:zZO),2) else (znv a.1.Value).bind fun f=>if (!f) then some ((⟨[],[],[]⟩:zZO),2) else (zoc c 1).bind fun d=>zhc d (d.length:Int) fuel (⟨a.1.Name,a.1.Value,[]⟩:zZO) 0
def zh7 (s1:Str) (v2:zZO):Nat→Int→Option Int
 | 0,_=>none
 | n+1,i5=>if (decide ((0:Int)≤i5)) then (lAt v2.Attrs i5).bind fun r1=>(zbX r1.Name s1).bind fun a=>if a then some i5 else (zbt i5 1).bind fun b=>zh7 s1 v2 n b else some (-1)
def zmG (x_c:zZO) (a:Str):Option Int:=(zbt (x_c.Attrs.length:Int) 1).bind fun b=>zh7 a x_c fuel b
def zqS (x_c:zZO) (a:Str):Option (Str × Bool):=(zmG x_c a).bind fun b=>if (decide (b<0)) then some ([],false) else (lAt x_c.Attrs b).bind fun r2=>some (r2.Value,true)
def zd9 (b:Str) (a:Str):Option Str:=(zb2 b a).bind fun c=>if c then (zar b (a.length:Int)).bind fun d=>some d else some b
def zgK (b:Str) (a:Str):Option Str:=(zd9 b a).bind fun c=>some c
def zkY (b:Str) (a:Str):Option Bool:=(zfD b).bind fun e=>if (!e) then some false else (zfD a).bind fun g=>if (!g) then some false else (zbM b).bind fun h=>if h then some false else (zbM a).bind fun i=>if i then some false else (zbF b).bind fun d=>(zbF a).bind fun c=>if (d==c) then some true else (zci [46] c).bind fun f=>(zfj d f).bind fun j=>some j
def zh8 (e:Str) (d:Str) (b:List zZJ) (c:Int):Nat→Int→Option (Str × Bool)
 | 0,_=>none
 | n+1,a=>if (decide (a<c)) then (lAt b a).bind fun r1=>(zkY d r1.From).bind fun f=>if f then (zbt (d.length:Int) (r1.From.length:Int)).bind fun g=>(sTo d g).bind fun h=>(zci h r1.To).bind fun j=>some (j,true) else (zi a 1).bind fun i=>zh8 e d b c n i else some (e,false)
def zo0 (a:Str) (b:List zZJ):Option (Str × Bool):=(zgK a [46]).bind fun c=>zh8 a c b (b.length:Int) fuel 0
def zl7 (d:zZO→Int→Option zZO) (b:zZO) (a:Int):Option zZO:=(zi a 1).bind fun c=>d b c
def zl8 (c:zZO→Int→Option zZO) (v8:zZO) (a:z0d) (b:Int):Option zZO:=if zf v8.Attrs.length ([a]:List z0d).length 40 then zl7 c ({v8 with Attrs:=v8.Attrs++[a]}:zZO) b else none
def zl9 (a:zZO):Option zZO:=some a
def zdn (s1:Str) (s2:Str) (d:Int) (c:List z0d) (b:Int):Nat→zZO→Int→Option zZO
 | 0,_,_=>none
 | n+1,v8,a=>if (decide (a<b)) then (lAt c a).bind fun r1=>if (a==d) then zl8 (zdn s1 s2 d c b n) v8 (⟨r1.Name,s2,true⟩:z0d) a else (zbX r1.Name s1).bind fun e=>if e then zl7 (zdn s1 s2 d c b n) v8 a else zl8 (zdn s1 s2 d c b n) v8 r1 a else if (decide (d<0)) then if zf v8.Attrs.length ([(⟨s1,s2,true⟩:z0d)]:List z0d).length 40 then zl9 ({v8 with Attrs:=v8.Attrs++[(⟨s1,s2,true⟩:z0d)]}:zZO) else none else zl9 v8
def zqT (x_c:zZO) (a:Str) (b:Str):Option zZO:=(zmG x_c a).bind fun c=>zdn a b c x_c.Attrs (x_c.Attrs.length:Int) fuel ({x_c with Attrs:=[]}:zZO) 0
def zaR (d:List z0d) (c:List z0d) (b:Int):Nat→Int→Option Bool
 | 0,_=>none
 | n+1,a=>if (decide (a<b)) then (lAt d a).bind fun e=>(lAt c a).bind fun f=>if (!(e==f)) then some false else (zi a 1).bind fun g=>zaR d c b n g else some true
def zbx (a:List z0d) (b:List z0d):Option Bool:=if (!((a.length:Int)==(b.length:Int))) then some false else zaR a b (a.length:Int) fuel 0
def zo1 (x_a:zZO) (x_b:zZO):Option Bool:=if (x_a.Name==x_b.Name) then if (x_a.Value==x_b.Value) then (zbx x_a.Attrs x_b.Attrs).bind fun a=>some a else some false else some false
def zgf (d:zZO) (b:List z0d) (a:Int):Nat→List Str→Int→Option (Str × Int)
 | 0,_,_=>none
 | n+1,c,i20=>if (decide (i20<a)) then (lAt b i20).bind fun r1=>if r1.Has then (zci r1.Name [61]).bind fun h=>(zci h r1.Value).bind fun f=>if zf c.length ([f]:List Str).length 16 then (zi i20 1).bind fun i=>zgf d b a n (c++[f]) i else none else if zf c.length ([r1.Name]:List Str).length 16 then (zi i20 1).bind fun j=>zgf d b a n (c++[r1.Name]) j else none else (zaM [59,32] c).bind fun g=>(zkX g).bind fun e=>if (!(e.2==0)) then some ([],2) else (zo1 e.1 d).bind fun k=>if (!k) then some ([],2) else some (g,0)
def zo2 (x_c:zZO):Option (Str × Int):=(zci x_c.Name [61]).bind fun a=>(zci a x_c.Value).bind fun b=>zgf x_c x_c.Attrs (x_c.Attrs.length:Int) fuel [b] 0
def zjD (a:Str) (c:List zZJ):Option Str:=(zkX a).bind fun b=>if (!(b.2==0)) then some a else (zqS b.1 [68,111,109,97,105,110]).bind fun f=>(zo0 f.1 c).bind fun d=>if (!d.2) then some a else (zqT b.1 [68,111,109,97,105,110] d.1).bind fun g=>(zo2 g).bind fun e=>if (!(e.2==0)) then some a else some e.1
def zgL (f:zZI→List zZn→Int→Option (List zZn)) (v2:zZI) (b:List zZn) (c:Int) (v7:zZn) (a:Int) (d:Str) (e:Bool):Option (List zZn):=if e then (ziK v7.Value v2.Locations).bind fun g=>(lAt b c).bind fun r2=>(zxe b c (⟨r2.Name,g⟩:zZn)).bind fun j=>(zi a 1).bind fun k=>f v2 j k else if (d==[115,101,116,45,99,111,111,107,105,101]) then (zjD v7.Value v2.Domains).bind fun l=>(lAt b c).bind fun r6=>(zxe b c (⟨r6.Name,l⟩:zZn)).bind fun h=>(zi a 1).bind fun m=>f v2 h m else (zi a 1).bind fun i=>f v2 b i
def zce (b:Int):Nat→zZI→List zZn→Int→Option (List zZn)
 | 0,_,_,_=>none
 | n+1,v2,d,a=>if (decide (a<b)) then (lAt d a).bind fun r1=>(zbF r1.Name).bind fun c=>if (c==[108,111,99,97,116,105,111,110]) then zgL (zce b n) v2 d a r1 a c true else zgL (zce b n) v2 d a r1 a c (c==[99,111,110,116,101,110,116,45,108,111,99,97,116,105,111,110]) else some d
def zjE (a:zZI) (b:List zZn):Option (List zZn):=if zf ([]:List zZn).length b.length 32 then zce ((([]:List zZn)++b).length:Int) fuel a (([]:List zZn)++b) 0 else none
def zo3 (a:zZI) (x_a1:zZr):Option (zZr × Int):=(ztE x_a1.Fields).bind fun f=>(zfP f).bind fun d=>if (x_a1.Kind==1) then (zkV x_a1.Method x_a1.Target).bind fun c=>if (!(c.2==0)) then some ((⟨0,[],[],0,[],0,[]⟩:zZr),20) else if (c.1.Kind==3) then some ((⟨0,[],[],0,[],0,[]⟩:zZr),20) else (zl5 c.1).bind fun i=>(zfR (⟨d,({x_a1 with Target:=i,Minor:=1}:zZr)⟩:z0o) a c.1).bind fun j=>(zcP j).bind fun e=>some (e.1,e.2) else if (x_a1.Kind==2) then (zcb d).bind fun g=>(zjE a g).bind fun k=>(zfP k).bind fun h=>(zcP (⟨h,({x_a1 with Minor:=1}:zZr)⟩:z0o)).bind fun b=>some (b.1,b.2) else some ((⟨0,[],[],0,[],0,[]⟩:zZr),1)
def zdo (b:Str) (a:Str):Option zZ2:=some (⟨b,a⟩:zZ2)
def zo4 (x_env:zZI) (x_h:zZr):Option (List zZ2):=(zdo [99,108,105,101,110,116] x_env.Client).bind fun a=>(zdo [104,111,115,116] x_env.Host).bind fun b=>(zdo [115,99,104,101,109,101] x_env.Scheme).bind fun c=>if (x_h.Kind==1) then (zpY x_h.Target).bind fun e=>(zdo [109,101,116,104,111,100] x_h.Method).bind fun g=>(zdo [112,97,116,104] e.1).bind fun f=>some [a,b,g,f,c] else if (x_h.Kind==2) then (zdk x_h.Code).bind fun d=>(zdo [115,116,97,116,117,115] d).bind fun h=>some [a,b,c,h] else some []
def zo5 (x_r:zZu):Option (List Str):=(zbF x_r.Name).bind fun a=>if (x_r.Kind==4) then (zbF x_r.To).bind fun b=>if zf ([a]:List Str).length ([b]:List Str).length 16 then some (([a]:List Str)++[b]) else none else some [a]
def zh9 (c:Int→Option Int) (i4:Int) (a:Bool):Option Int:=if a then (zi i4 1).bind fun b=>c b else some i4
def zdx (a:List zZu) (v3:z0m):Nat→Int→Option Int
 | 0,_=>none
 | n+1,i4=>if (decide (i4<(a.length:Int))) then (lAt a i4).bind fun r1=>if (r1.Guard==v3) then (zbt i4 1).bind fun b=>(lAt a b).bind fun c=>(zo5 c).bind fun d=>(zbF v3.Name).bind fun f=>(zU d f).bind fun e=>zh9 (zdx a v3 n) i4 (!e) else zh9 (zdx a v3 n) i4 false else zh9 (zdx a v3 n) i4 false
def zo6 (a:List zZu):Option Int:=(lAt a 0).bind fun r1=>zdx a r1.Guard fuel 1
def zma (x_g:z0m) (a:Int):Option z0r:=if (x_g.Kind==1) then some (⟨1,x_g.Name,[],[],a⟩:z0r) else if (x_g.Kind==2) then some (⟨2,x_g.Name,[],[],a⟩:z0r) else if (x_g.Kind==3) then some (⟨3,x_g.Name,x_g.Value,[],a⟩:z0r) else some (⟨0,x_g.Name,[],[],a⟩:z0r)
def zo7 (x_r:zZu):Option z0r:=if (x_r.Kind==1) then (zgb x_r.Parts).bind fun a=>some (⟨6,x_r.Name,[],a,0⟩:z0r) else if (x_r.Kind==2) then (zgb x_r.Parts).bind fun b=>some (⟨5,x_r.Name,[],b,0⟩:z0r) else if (x_r.Kind==3) then some (⟨4,x_r.Name,[],[],0⟩:z0r) else if (x_r.Kind==4) then some (⟨7,x_r.Name,x_r.To,[],0⟩:z0r) else some (⟨0,[],[],[],0⟩:z0r)
def zbQ (d:List zZu) (c:Int):Nat→zZ0→Int→Option zZ0
 | 0,_,_=>none
 | n+1,a,b=>if (decide (b<c)) then (lAt d b).bind fun f=>(zo7 f).bind fun e=>if zf a.zZD.length ([e]:List z0r).length 72 then (zi b 1).bind fun g=>zbQ d c n (⟨a.zZD++[e]⟩:zZ0) g else none else some a
def zea (b:zZ0) (a:List zZu):Option zZ0:=zbQ a (a.length:Int) fuel b 0
def zcY (f:zZ0→List zZu→Option zZ0) (a:zZ0) (b:List zZu) (i4:Int):Option zZ0:=(lTo b i4).bind fun c=>(zea a c).bind fun d=>(zoc b i4).bind fun e=>f d e
def za1:Nat→zZ0→List zZu→Option zZ0
 | 0,_,_=>none
 | n+1,a,b=>if (decide ((0:Int)<(b.length:Int))) then (lAt b 0).bind fun r1=>if (!(r1.Guard.Kind==0)) then (zo6 b).bind fun c=>(zma r1.Guard c).bind fun d=>if zf a.zZD.length ([d]:List z0r).length 72 then zcY (za1 n) (⟨a.zZD++[d]⟩:zZ0) b c else none else zcY (za1 n) a b 1 else some a
def zeb (a:zZ0) (b:List zZu):Option zZ0:=za1 fuel a b
def zde (i0:Int) (b:List zZu) (c:Int):Nat→List zZu→Int→Option (List z0r × Int)
 | 0,_,_=>none
 | n+1,d,a=>if (decide (a<c)) then (lAt b a).bind fun r1=>if (r1.Side==i0) then if zf d.length ([r1]:List zZu).length 112 then (zi a 1).bind fun e=>zde i0 b c n (d++[r1]) e else none else (zi a 1).bind fun f=>zde i0 b c n d f else (zeb (⟨[]⟩:zZ0) d).bind fun g=>some (g.zZD,0)
def zgM (i0:Int) (a:List zZu) (b:Bool):Option (List z0r × Int):=if b then some ([],1) else (zh5 a).bind fun c=>if (!(c.2==0)) then some ([],c.2) else zde i0 a (a.length:Int) fuel [] 0
def zjF (a:Int) (b:List zZu):Option (List z0r × Int):=if (!(a==1)) then zgM a b (!(a==2)) else zgM a b false
def zeV (x_m:zZS) (x_op:z0r):Option Bool:=(zkc x_m.Bag x_op.Name).bind fun a=>if (x_op.Kind==1) then some (!a.2) else if (x_op.Kind==2) then some a.2 else if (x_op.Kind==3) then if (!a.2) then some true else some (!(a.1==x_op.Text)) else some false
def zkZ (s1:Str) (b:List zZ2) (a:Int):Nat→Int→Option Str
 | 0,_=>none
 | n+1,i9=>if (decide (i9<a)) then (lAt b i9).bind fun r1=>if (r1.Name==s1) then some r1.Value else (zi i9 1).bind fun c=>zkZ s1 b a n c else some []
def ztG (a:List zZ2) (b:Str):Option Str:=zkZ b a (a.length:Int) fuel 0
def zmb (e:List UInt8→Int→Option Str) (d:Str) (a:List UInt8) (i4:Int) (b:Bool):Option Str:=if b then (sAt d i4).bind fun f=>(zbn f).bind fun g=>if g then (sAt d i4).bind fun c=>if zf a.length ([c]:List UInt8).length 1 then (zi i4 1).bind fun h=>e (a++[c]) h else none else (zi i4 1).bind fun j=>e a j else (zcc a [32,9]).bind fun i=>some i
def zfG (a:Str):Nat→List UInt8→Int→Option Str
 | 0,_,_=>none
 | n+1,b,i4=>if (decide (i4<(a.length:Int))) then zmb (zfG a n) a b i4 (decide ((b.length:Int)<65536)) else zmb (zfG a n) a b i4 false
def zqU (a:Str):Option Str:=zfG a fuel [] 0
def zfk (e:List zZ2) (f:zZZ) (b:List zZq) (c:Int):Nat→List Str→Int→Option Str
 | 0,_,_=>none
 | n+1,d,a=>if (decide (a<c)) then (lAt b a).bind fun r1=>if (r1.Kind==1) then if zf d.length ([r1.Text]:List Str).length 16 then (zi a 1).bind fun k=>zfk e f b c n (d++[r1.Text]) k else none else if (r1.Kind==2) then (ztG e r1.Text).bind fun g=>if zf d.length ([g]:List Str).length 16 then (zi a 1).bind fun l=>zfk e f b c n (d++[g]) l else none else if (r1.Kind==3) then (zkc f r1.Text).bind fun h=>if zf d.length ([h.1]:List Str).length 16 then (zi a 1).bind fun m=>zfk e f b c n (d++[h.1]) m else none else (zi a 1).bind fun i=>zfk e f b c n d i else (zaM [] d).bind fun o=>(zqU o).bind fun j=>some j
def ztH (b:List zZ2) (a:List zZn) (c:List zZq):Option Str:=(zfP a).bind fun d=>zfk b (⟨d.z0g⟩:zZZ) c (c.length:Int) fuel [] 0
def zc3 (x_m:zZS) (a:List zZq):Option Str:=(zcb x_m.Bag).bind fun b=>(ztH x_m.z0N b a).bind fun c=>some c
def zcQ (s1:Str) (s2:Str) (c:Int):Nat→zZZ→Int→Int→Option (Int × zZZ)
 | 0,_,_,_=>none
 | n+1,b,d,a=>if (decide (a<c)) then (lAt b.z0g a).bind fun r1=>(zbX r1.Name s1).bind fun f=>if f then (lAt b.z0g a).bind fun r3=>(zxe b.z0g a (⟨s2,r3.Value⟩:zZn)).bind fun g=>(zi d 1).bind fun i=>(zi a 1).bind fun h=>zcQ s1 s2 c n (⟨g⟩:zZZ) i h else (zi a 1).bind fun e=>zcQ s1 s2 c n b d e else some (d,b)
def ziM (c:zZZ) (a:Str) (b:Str):Option (Int × zZZ):=zcQ a b (c.z0g.length:Int) fuel c 0 0
def zfl (x_m:zZS) (x_op:z0r):Option zZS:=if (x_op.Kind==4) then (zdd x_m.Bag [x_op.Name]).bind fun a=>some ({x_m with Bag:=a.2}:zZS) else if (x_op.Kind==5) then (zc3 x_m x_op.Parts).bind fun b=>(zfF x_m.Bag [(⟨x_op.Name,b⟩:zZn)]).bind fun c=>some ({x_m with Bag:=c}:zZS) else if (x_op.Kind==6) then (zc3 x_m x_op.Parts).bind fun d=>(zjh x_m.Bag x_op.Name d).bind fun f=>some ({x_m with Bag:=f}:zZS) else if (x_op.Kind==7) then (ziM x_m.Bag x_op.Name x_op.Text).bind fun e=>some ({x_m with Bag:=e.2}:zZS) else some x_m
def zdp (c:zZS→Int→Option zZS) (a:zZS) (i4:Int):Option zZS:=(zi i4 1).bind fun b=>c a b
def za7 (b:List z0r):Nat→zZS→Int→Option zZS
 | 0,_,_=>none
 | n+1,a,i4=>if (decide (i4<(b.length:Int))) then (zi a.z0M 1).bind fun c=>(lAt b i4).bind fun e=>(zeV ({a with z0M:=c}:zZS) e).bind fun f=>if f then (lAt b i4).bind fun r4=>(zi i4 (min (max r4.N 0) (b.length:Int))).bind fun h=>zdp (za7 b n) ({a with z0M:=c}:zZS) h else (lAt b i4).bind fun g=>(zfl ({a with z0M:=c}:zZS) g).bind fun d=>zdp (za7 b n) d i4 else some a
def zeW (b:zZS) (a:List z0r):Option zZS:=za7 a fuel b 0
def zo8 (b:List zZ2) (a:List zZn) (c:List z0r):Option (List zZn):=(zfP a).bind fun d=>(zeW (⟨d,b,0⟩:zZS) c).bind fun r2=>(zcb r2.Bag).bind fun e=>some e
def zmc (b:List zZ2) (a:List zZn) (c:Int) (e:List zZu):Option (List zZn × Int):=(zjF c e).bind fun d=>if (!(d.2==0)) then some ([],d.2) else (zo8 b a d.1).bind fun f=>some (f,0)
def zmH (a:List Str):Option Str:=(zaM [44,32] a).bind fun b=>some b
def zmd (b:Str) (a:List Str):Option Str:=if ((a.length:Int)==0) then some b else (zcc b [32,9,44]).bind fun d=>if (d==[]) then (zmH a).bind fun e=>some e else (zdN b [32,9]).bind fun c=>if zf ([c]:List Str).length a.length 16 then (zmH (([c]:List Str)++a)).bind fun f=>some f else none
def zdY (a:zZZ) (s1:Str) (s2:Str):Nat→Int→Option zZZ
 | 0,_=>none
 | n+1,b=>if (decide ((0:Int)≤b)) then (lAt a.z0g b).bind fun r1=>(zbX r1.Name s1).bind fun d=>if d then (lAt a.z0g b).bind fun r3=>(zmd r3.Value [s2]).bind fun e=>(lAt a.z0g b).bind fun r5=>(zxe a.z0g b (⟨r5.Name,e⟩:zZn)).bind fun f=>some (⟨f⟩:zZZ) else (zbt b 1).bind fun c=>zdY a s1 s2 n c else (zfF a [(⟨s1,s2⟩:zZn)]).bind fun g=>some g
def zes (c:zZZ) (b:Str) (a:Str):Option zZZ:=(zbt (c.z0g.length:Int) 1).bind fun d=>zdY c b a fuel d
def zqV (b:zZR) (c:List zZn):Option (List zZn × Int):=(zn2 b).bind fun a=>if (!(a.2==0)) then some ([],a.2) else (zfP c).bind fun d=>(zes d [86,105,97] a.1).bind fun e=>(zcb e).bind fun f=>some (f,0)
def zk0 (a:Str):Option Str:=(zbM a).bind fun b=>if b then some a else (ziA a).bind fun c=>if c then (zci [91] a).bind fun d=>(zci d [93]).bind fun e=>some e else some [117,110,107,110,111,119,110]
def zhz (a:List zZ2):Option (List zZ2):=some a
def zhA (v1:zZI) (a:List zZ2):Option (List zZ2):=if (!(v1.Scheme==[])) then if zf a.length ([(⟨[112,114,111,116,111],v1.Scheme⟩:zZ2)]:List zZ2).length 32 then zhz (a++([(⟨[112,114,111,116,111],v1.Scheme⟩:zZ2)])) else none else zhz a
def zk1 (x_env:zZI):Option (List zZ2):=(zk0 x_env.Client).bind fun a=>if (!(x_env.Host==[])) then if zf ([(⟨[102,111,114],a⟩:zZ2)]:List zZ2).length ([(⟨[104,111,115,116],x_env.Host⟩:zZ2)]:List zZ2).length 32 then zhA x_env (([(⟨[102,111,114],a⟩:zZ2)]:List zZ2)++([(⟨[104,111,115,116],x_env.Host⟩:zZ2)])) else none else zhA x_env ([(⟨[102,111,114],a⟩:zZ2)])
def zjG (f:List UInt8→Int→Option (Str × Int)) (e:Str) (c:List UInt8) (i5:Int) (a:Int):Option (Str × Int):=(sAt e i5).bind fun b=>if zf c.length ([b]:List UInt8).length 1 then (zi a 1).bind fun d=>f (c++[b]) d else none
def zjH (e:List UInt8→Int→Option (Str × Int)) (d:Str) (b:List UInt8) (i5:Int) (a:Int) (c:Bool):Option (Str × Int):=if c then if zf b.length ([92]:List UInt8).length 1 then zjG e d (b++[92]) i5 a else none else zjG e d b i5 a
def zcV (c:Str) (b:Int):Nat→List UInt8→Int→Option (Str × Int)
 | 0,_,_=>none
 | n+1,d,a=>if (decide (a<b)) then (sAt c a).bind fun e=>if (e==34) then zjH (zcV c b n) c d a a true else (sAt c a).bind fun f=>zjH (zcV c b n) c d a a (f==92) else if zf d.length ([34]:List UInt8).length 1 then some (d++[34],0) else none
def znw (a:Str):Option (Str × Int):=(zcm zbn [a]).bind fun b=>if (!b) then some ([],2) else zcV a (a.length:Int) fuel [34] 0
def zme (a:Str):Option (Str × Int):=(zel a).bind fun c=>if c then some (a,0) else (znw a).bind fun b=>some (b.1,b.2)
def zia (d:List zZ2) (b:Int):Nat→List Str→Int→Option (Str × Int)
 | 0,_,_=>none
 | n+1,c,a=>if (decide (a<b)) then (lAt d a).bind fun r1=>(zme r1.Value).bind fun e=>if (!(e.2==0)) then some ([],2) else (zel r1.Name).bind fun h=>if (!h) then some ([],2) else (zci r1.Name [61]).bind fun i=>(zci i e.1).bind fun f=>if zf c.length ([f]:List Str).length 16 then (zi a 1).bind fun j=>zia d b n (c++[f]) j else none else if ((c.length:Int)==0) then some ([],2) else (zaM [59] c).bind fun g=>some (g,0)
def zo9 (a:List zZ2):Option (Str × Int):=zia a (a.length:Int) fuel [] 0
def ziN (a:zZI) (b:List zZn):Option (List zZn × Int):=(zk1 a).bind fun d=>(zo9 d).bind fun c=>if (!(c.2==0)) then some ([],c.2) else (zfP b).bind fun e=>(zes e [70,111,114,119,97,114,100,101,100] c.1).bind fun f=>(zcb f).bind fun g=>some (g,0)
def zv3 (a:Str):Option Bool:=(zbM a).bind fun b=>if b then some true else (ziA a).bind fun c=>some c
def zmf (e:Str) (a:List zZn):Option (List zZn):=(zfP a).bind fun b=>(zes b [88,45,70,111,114,119,97,114,100,101,100,45,70,111,114] e).bind fun c=>(zcb c).bind fun d=>some d
def zqW (a:Str) (b:List zZn):Option (List zZn):=(zv3 a).bind fun c=>if (!c) then zmf [117,110,107,110,111,119,110] b else zmf a b
def zmg (v5:zZr) (c:List zZn) (i9:Int):Option (zZr × Int):=if (!(i9==0)) then some ((⟨0,[],[],0,[],0,[]⟩:zZr),i9) else (zfP c).bind fun b=>(zcP (⟨b,v5⟩:z0o)).bind fun a=>some (a.1,a.2)
def zmh (v3:zZI) (v5:zZr) (b:List zZn) (i9:Int) (t46:Bool):Option (zZr × Int):=if t46 then (ziN v3 b).bind fun a=>(zqW v3.Client a.1).bind fun c=>zmg v5 c a.2 else zmg v5 b i9
def zfH (c:Int) (v3:zZI) (v5:zZr) (b:Bool):Option (zZr × Int):=if b then some ((⟨0,[],[],0,[],0,[]⟩:zZr),1) else (zdk c).bind fun d=>(zci [49,46] d).bind fun e=>(zqV (⟨[],e,v3.By,[]⟩:zZR) v5.Fields).bind fun a=>if (a.2==0) then zmh v3 v5 a.1 a.2 (v5.Kind==1) else zmh v3 v5 a.1 a.2 false
def zqX (b:zZI) (a:Int) (x_a2:zZr):Option (zZr × Int):=if (!(x_a2.Kind==1)) then if (!(x_a2.Kind==2)) then zfH a b x_a2 true else if (!(a==0)) then zfH a b x_a2 (!(a==1)) else zfH a b x_a2 false else if (!(a==0)) then zfH a b x_a2 (!(a==1)) else zfH a b x_a2 false
def zmi (x_f:zZw):Option (List zZn):=if (x_f.Kind==2) then (zdk x_f.N).bind fun a=>some ([(⟨[67,111,110,116,101,110,116,45,76,101,110,103,116,104],a⟩:zZn)]) else if (x_f.Kind==3) then some ([(⟨[84,114,97,110,115,102,101,114,45,69,110,99,111,100,105,110,103],[99,104,117,110,107,101,100]⟩:zZn)]) else some []
def ziO (a:zZI) (d:zZw) (x_h:zZr) (e:List zZu):Option (zZr × Int):=(zo3 a x_h).bind fun b=>if (!(b.2==0)) then some ((⟨0,[],[],0,[],0,[]⟩:zZr),b.2) else (zo4 a b.1).bind fun h=>(zmc h b.1.Fields b.1.Kind e).bind fun f=>if (!(f.2==0)) then some ((⟨0,[],[],0,[],0,[]⟩:zZr),f.2) else (zqX a x_h.Minor (⟨b.1.Kind,b.1.Method,b.1.Target,b.1.Code,b.1.Reason,b.1.Minor,f.1⟩:zZr)).bind fun c=>if (!(c.2==0)) then some ((⟨0,[],[],0,[],0,[]⟩:zZr),c.2) else (zmi d).bind fun g=>if zf c.1.Fields.length g.length 32 then some ((⟨c.1.Kind,c.1.Method,c.1.Target,c.1.Code,c.1.Reason,c.1.Minor,c.1.Fields++g⟩:zZr),0) else none
def zdy (x_p:z0i):Option (Int × Bool × zZy):=(zbf x_p.Scanner).bind fun a=>if (!a.2) then some (0,false,x_p.Scanner) else (zbL a.1).bind fun b=>if (!b) then some (0,false,x_p.Scanner) else (zl x_p.Scanner a.1).bind fun c=>some (((a.1-48).toNat:Int),true,c.2)
def zcA (x_p:z0i):Option (Int × Int × Bool × zZy):=(zcO x_p.Scanner [72,84,84,80,47]).bind fun c=>if (!c.1) then some (0,0,false,c.2) else (zdy (⟨c.2⟩:z0i)).bind fun b=>(zl b.2.2 46).bind fun d=>(zdy (⟨d.2⟩:z0i)).bind fun a=>if b.2.1 then if d.1 then some (b.1,a.1,a.2.1,a.2.2) else some (b.1,a.1,false,a.2.2) else some (b.1,a.1,false,a.2.2)
def zhd (b:Str):Option Bool:=(zg2 b).bind fun c=>(zcA (⟨c⟩:z0i)).bind fun a=>if a.2.2.1 then (zbb a.2.2.2).bind fun d=>if d then if (!(a.1==1)) then some true else some (decide ((1:Int)<a.2.1)) else some false else some false
def zdZ (a:UInt8):Option Bool:=some (!(a==32))
def zdz (b:z0i):Option (Int × Bool × zZy):=(zcA b).bind fun a=>if a.2.2.1 then if (a.1==1) then some (a.2.1,decide (a.2.1≤1),a.2.2.2) else some (a.2.1,false,a.2.2.2) else some (a.2.1,false,a.2.2.2)
def zhB (a:Str):Option (zZr × Int):=(zc0 a 32).bind fun i=>(zi i 1).bind fun j=>(zar a j).bind fun k=>(zhd k).bind fun l=>if l then some ((⟨0,[],[],0,[],0,[]⟩:zZr),26) else (zg2 a).bind fun m=>(zat m).bind fun c=>(zl c.2.2 32).bind fun g=>(zaj g.2 zdZ).bind fun f=>(zl f.2 32).bind fun h=>(zdz (⟨h.2⟩:z0i)).bind fun b=>(zkV c.1 f.1).bind fun d=>if (!c.2.1) then some ((⟨0,[],[],0,[],0,[]⟩:zZr),20) else if (!g.1) then some ((⟨0,[],[],0,[],0,[]⟩:zZr),20) else if (!h.1) then some ((⟨0,[],[],0,[],0,[]⟩:zZr),20) else if (!b.2.1) then some ((⟨0,[],[],0,[],0,[]⟩:zZr),20) else (zbb b.2.2).bind fun e=>if (!e) then some ((⟨0,[],[],0,[],0,[]⟩:zZr),20) else if (!(d.2==0)) then some ((⟨0,[],[],0,[],0,[]⟩:zZr),20) else some ((⟨1,c.1,f.1,0,[],b.1,[]⟩:zZr),0)
def ziP (a:Str):Option (zZr × Int):=(strings_Cut a [32]).bind fun i=>(zhd i.1).bind fun k=>if k then some ((⟨0,[],[],0,[],0,[]⟩:zZr),26) else (zg2 a).bind fun l=>(zdz (⟨l⟩:z0i)).bind fun e=>(zl e.2.2 32).bind fun h=>(zaj h.2 zbL).bind fun f=>(zl f.2 32).bind fun c=>(zdP f.1 599).bind fun g=>if (!e.2.1) then some ((⟨0,[],[],0,[],0,[]⟩:zZr),20) else if (!h.1) then some ((⟨0,[],[],0,[],0,[]⟩:zZr),20) else if (!c.1) then some ((⟨0,[],[],0,[],0,[]⟩:zZr),20) else if (!((f.1.length:Int)==3)) then some ((⟨0,[],[],0,[],0,[]⟩:zZr),20) else if (!(g.2==0)) then some ((⟨0,[],[],0,[],0,[]⟩:zZr),20) else if (decide (g.1<100)) then some ((⟨0,[],[],0,[],0,[]⟩:zZr),20) else (zbe c.2).bind fun j=>(zcm zbn [j]).bind fun d=>if (!d) then some ((⟨0,[],[],0,[],0,[]⟩:zZr),20) else (zbe c.2).bind fun b=>some ((⟨2,[],[],g.1,b,e.1,[]⟩:zZr),0)
def zgN (i0:Int) (s1:Str) (d:Bool):Option (zZr × Int):=if d then some ((⟨0,[],[],0,[],0,[]⟩:zZr),1) else (zbW s1 [13,10]).bind fun c=>if c then some ((⟨0,[],[],0,[],0,[]⟩:zZr),24) else if (i0==1) then (zhB s1).bind fun a=>some (a.1,a.2) else (ziP s1).bind fun b=>some (b.1,b.2)
def zdQ (a:Int) (b:Str):Option (zZr × Int):=if (!(a==1)) then zgN a b (!(a==2)) else zgN a b false
def zcB (c:Str) (a:Int) (b:Bool):Option (Str × Int):=if (!(a==0)) then some ([],20) else if (!b) then some ([],20) else some (c,0)
def zhC (v1:zZr) (b:Str):Option (Str × Int):=(zdQ v1.Kind b).bind fun a=>if (a.2==1) then some ([],a.2) else if (a.1.Method==v1.Method) then if (a.1.Target==v1.Target) then if (a.1.Minor==v1.Minor) then if (a.1.Code==v1.Code) then zcB b a.2 (a.1.Reason==v1.Reason) else zcB b a.2 false else zcB b a.2 false else zcB b a.2 false else zcB b a.2 false
def zib (x_a0:zZr):Option (Str × Int):=(zdk x_a0.Minor).bind fun b=>(zci [72,84,84,80,47,49,46] b).bind fun a=>(zaM [32] [x_a0.Method,x_a0.Target,a]).bind fun c=>if (x_a0.Kind==2) then (zdk x_a0.Code).bind fun d=>(zaM [32] [a,d,x_a0.Reason]).bind fun e=>zhC x_a0 e else zhC x_a0 c
def zmj (d:Int→Option Bool) (a:Int) (b:Bool):Option Bool:=if b then some false else (zi a 1).bind fun c=>d c
def zfI (c:List Str) (b:Int):Nat→Int→Option Bool
 | 0,_=>none
 | n+1,a=>if (decide (a<b)) then (lAt c a).bind fun d=>(zcv d).bind fun e=>if (!(e.2==0)) then zmj (zfI c b n) a (!(d==[])) else zmj (zfI c b n) a false else some true
def zqY (x_h:zZr):Option Bool:=if (!(x_h.Kind==1)) then some true else (zfP x_h.Fields).bind fun b=>(zcz b [72,111,115,116]).bind fun a=>if (decide ((1:Int)<(a.length:Int))) then some false else if (decide ((a.length:Int)<x_h.Minor)) then some false else zfI a (a.length:Int) fuel 0
def zn6 (x_h:zZr):Option Int:=if (decide ((100:Int)<(x_h.Fields.length:Int))) then some 3 else (zqY x_h).bind fun a=>if (!a) then some 27 else some 0
def zji (d:zZr) (b:List zZn) (c:Int):Nat→Int→Option Int
 | 0,_=>none
 | n+1,a=>if (decide (a<c)) then (lAt b a).bind fun f=>(ze8 f).bind fun e=>if (!(e==0)) then some e else (zi a 1).bind fun g=>zji d b c n g else (zn6 d).bind fun h=>some h
def zn7 (x_h:zZr):Option Int:=(zib x_h).bind fun a=>if (!(a.2==0)) then some a.2 else zji x_h x_h.Fields (x_h.Fields.length:Int) fuel 0
def ztI (a:Int):Option z0e:=some (⟨[],max a 0⟩:z0e)
def ziQ (a:z0e):Option Int:=(zbt a.zZE (a.z0R.length:Int)).bind fun b=>some b
def zdA (c:List Str) (d:Int):Nat→z0e→Int→Option (Int × z0e)
 | 0,_,_=>none
 | n+1,a,b=>if (decide (b<d)) then (lAt c b).bind fun e=>if zf a.z0R.length e.length 1 then (zi b 1).bind fun f=>zdA c d n (⟨a.z0R++e,a.zZE⟩:z0e) f else none else some (0,a)
def zdB (a:z0e) (e:List Str) (c:List Str) (d:Int):Nat→Int→Int→Option (Int × z0e)
 | 0,_,_=>none
 | n+1,i5,b=>if (decide (b<d)) then (lAt c b).bind fun f=>if (decide (i5<(f.length:Int))) then some (10,a) else (zbt i5 (f.length:Int)).bind fun g=>(zi b 1).bind fun h=>zdB a e c d n g h else zdA e (e.length:Int) fuel a 0
def zhD (b:z0e) (a:List Str):Option (Int × z0e):=(ziQ b).bind fun c=>zdB b a a (a.length:Int) fuel c 0
def zgO (b:z0e) (a:List Str):Option (Int × z0e):=if zf ([]:List Str).length a.length 16 then if zf (([]:List Str)++a).length ([[13,10]]:List Str).length 16 then (zhD b ((([]:List Str)++a)++([[13,10]]))).bind fun c=>some (c.1,c.2) else none else none
def zcR (x_p:z0y) (b:Str):Option z0y:=(zgO x_p.Quill [b]).bind fun a=>if (!(a.1==0)) then some (⟨a.2,true⟩:z0y) else some (⟨a.2,x_p.z0S⟩:z0y)
def zic (x_f:zZn):Option (Str × Int):=(ze8 x_f).bind fun a=>if (!(a==0)) then some ([],a) else if (x_f.Value==[]) then (zci x_f.Name [58]).bind fun b=>some (b,0) else (zci x_f.Name [58,32]).bind fun c=>(zci c x_f.Value).bind fun d=>some (d,0)
def ziR (a:z0e):Option Str:=some a.z0R
def zjj (b:List zZn) (c:Int):Nat→z0y→Int→Option (Str × Int)
 | 0,_,_=>none
 | n+1,d,a=>if (decide (a<c)) then (lAt b a).bind fun e=>(zic e).bind fun f=>(zcR d f.1).bind fun g=>(zi a 1).bind fun h=>zjj b c n g h else (zcR d []).bind fun r5=>if r5.z0S then some ([],3) else (ziR r5.Quill).bind fun i=>some (i,0)
def zjV (x_h:zZr) (a:Int):Option (Str × Int):=(zn7 x_h).bind fun b=>if (!(b==0)) then some ([],b) else (ztI a).bind fun c=>(zib x_h).bind fun d=>(zcR (⟨c,false⟩:z0y) d.1).bind fun e=>zjj x_h.Fields (x_h.Fields.length:Int) fuel e 0
def zbP (a:zZk) (x_h:zZr):Option (Str × zZw × Int):=if (x_h.Method==[67,79,78,78,69,67,84]) then some ([],(⟨0,0⟩:zZw),20) else (zeD x_h).bind fun b=>if (!(b.2==0)) then some ([],b.1,b.2) else (ziO a.z0h b.1 x_h a.zZ5).bind fun c=>if (!(c.2==0)) then some ([],b.1,c.2) else (zjV c.1 a.zZF.Head).bind fun d=>some (d.1,b.1,d.2)
def zkd (a:Int):Option (Option zZp × Int):=if (decide (a<0)) then some (none,1) else if (decide ((65536:Int)<a)) then some (none,1) else some (some (⟨a,0,[],0,0,0,[]⟩:zZp),0)
def zmI (a:zZK):Option (Option zZK × Int):=some (some a,0)
def zmJ (v2:zZw) (a:zZK):Option (Option zZK × Int):=if (v2.Kind==1) then zmI ({a with z0n:=true}:zZK) else if (v2.Kind==2) then zmI ({a with z0n:=v2.N==0}:zZK) else zmI ({a with z0n:=false}:zZK)
def zke (v2:zZw) (b:Option zZp) (a:Int):Option (Option zZK × Int):=if (!(a==0)) then some (none,1) else if (decide (v2.Kind<1)) then some (none,1) else if (decide ((4:Int)<v2.Kind)) then some (none,1) else if (decide (v2.N<0)) then some (none,1) else if (decide ((1099511627776:Int)<v2.N)) then some (none,1) else if (v2.Kind==3) then zmJ v2 (⟨b,v2,v2.N,false,false⟩:zZK) else zmJ v2 (⟨none,v2,v2.N,false,false⟩:zZK)
def zn8 (a:zZw) (b:Int):Option (Option zZK × Int):=(zkd b).bind fun c=>optK c.1 (zke a none c.2) fun d=>zke a (some d) c.2
def zbG (a:zZA):Option (zZr × Bool):=if (!a.f_whole) then some ((⟨0,[],[],0,[],0,[]⟩:zZr),false) else if zf ([]:List zZn).length a.z0G.Fields.length 32 then some ((⟨a.z0G.Kind,a.z0G.Method,a.z0G.Target,a.z0G.Code,a.z0G.Reason,a.z0G.Minor,([]:List zZn)++a.z0G.Fields⟩:zZr),true) else none
def zid (a:Str):Option (Int × Str × Bool × Int):=some (0,[],false,5)
def zdC:Option Int:=some 5
def zeG (b:Str):Option (Str × Int):=zdC.bind fun a=>if (!(a==0)) then some ([],a) else none
def zcf:Option (List zZn):=some []
def zcg (a:List zZn):Option (Str × Int):=zdC.bind fun b=>if (!(b==0)) then some ([],b) else none
def zjk (f:Int→Option Bool) (e:Str) (c:Int) (b:List Str) (d:Int):Nat→Int→Option Bool
 | 0,_=>none
 | n+1,a=>if (decide (a<d)) then (lAt b a).bind fun g=>(zbX g e).bind fun h=>if h then some true else (zi a 1).bind fun i=>zjk f e c b d n i else (zi c 1).bind fun j=>f j
def zhq (e:Str) (b:List Str) (c:Int):Nat→Int→Option Bool
 | 0,_=>none
 | n+1,a=>if (decide (a<c)) then (lAt b a).bind fun f=>(zhn [f]).bind fun d=>zjk (zhq e b c n) e a d.1 (d.1.length:Int) fuel 0 else some false
def zn9 (a:Str) (b:List Str):Option Bool:=zhq a b (b.length:Int) fuel 0
def zpZ (x_h:zZr):Option Bool:=(zfP x_h.Fields).bind fun b=>(zcz b [67,111,110,110,101,99,116,105,111,110]).bind fun a=>if (x_h.Minor==1) then (zn9 [99,108,111,115,101] a).bind fun c=>some c else (zn9 [107,101,101,112,45,97,108,105,118,101] a).bind fun d=>some (!d)
def zqZ (a:zZr):Option zZs:=(zpZ a).bind fun b=>some ({a with Close:=b}:zZs)
def zgP (a:List zZs):Option Int:=some 5
def zjI (x_t:zZs):Option Bool:=some x_t.Close
def zS (c:List zZs) (b:Int):Nat→Int→Option Int
 | 0,_=>none
 | n+1,a=>if (decide (a<b)) then (lAt c a).bind fun d=>(zjI d).bind fun e=>if e then some a else (zi a 1).bind fun f=>zS c b n f else some (-1)
def zao (a:List zZs):Option Int:=zS a (a.length:Int) fuel 0
def zmk (a:List zZs):Option Bool:=(zao a).bind fun b=>if (decide ((0:Int)≤b)) then (zbt (a.length:Int) 1).bind fun c=>some (decide (b<c)) else some false
def zdq:Option (List zZn):=some []
def zcC (a:zZp):Option (List zZn):=if zf ([]:List zZn).length a.z0B.length 32 then some (([]:List zZn)++a.z0B) else none
def zbH (x_b:zZK):Option (List zZn):=optK x_b.Decoder (zdq.bind fun b=>some b) fun a=>(zcC a).bind fun c=>some c
def za5 (a:zZz):Option Int:=if a.z0n then some 8 else some 0
def zc4:Option Int:=some 5
def zfm (f:List zZn) (c:List zZn) (b:Int):Nat→List Str→Int→Option (Str × Int)
 | 0,_,_=>none
 | n+1,d,a=>if (decide (a<b)) then (lAt c a).bind fun g=>(zic g).bind fun e=>if (!(e.2==0)) then some ([],e.2) else if zf d.length ([e.1]:List Str).length 16 then (zi a 1).bind fun h=>zfm f c b n (d++[e.1]) h else none else if (decide ((100:Int)<(f.length:Int))) then some ([],3) else if zf d.length ([[],[]]:List Str).length 16 then (zaM [13,10] (d++([[],[]]))).bind fun i=>some (i,0) else none
def zeH (a:List zZn):Option (Str × Int):=zfm a a (a.length:Int) fuel ([[48]]) 0
def zfS (a:List zZn):Option (Str × Int):=zc4.bind fun b=>if (!(b==0)) then some ([],b) else (zeH a).bind fun c=>if (!(c.2==0)) then some ([],c.2) else none
def zbB (a:zZG):Option Int:=if a.z0n then some 8 else some 0
def zjJ (a:Int):Option Str:=(zkM a 16).bind fun b=>some b
def zk2 (a:Int):Option Str:=(zjJ a).bind fun b=>some b
def zaI (a:Str):Option Str:=if (a==[]) then some [] else (zk2 (a.length:Int)).bind fun b=>(zaM [13,10] ([b,a,[]])).bind fun c=>some c
def zfT (b:Str):Option (Str × Int):=zc4.bind fun a=>if (!(a==0)) then some ([],a) else none
def zfn (a:Str):Option (Int × Str × Bool × Int):=some (0,[],false,5)
def zfo:Option Int:=some 0
def zz5 (a:Int):Option (z0z × Bool):=if (!((zq2 [(400,[66,97,100,32,82,101,113,117,101,115,116]),(431,[82,101,113,117,101,115,116,32,72,101,97,100,101,114,32,70,105,101,108,100,115,32,84,111,111,32,76,97,114,103,101]),(502,[66,97,100,32,71,97,116,101,119,97,121])] a).2)) then some ((⟨(⟨0,[],[],0,[],0,[]⟩:zZr),(⟨0,0⟩:zZw),[],[]⟩:z0z),false) else some ((⟨(⟨2,[],[],a,(zq2 [(400,[66,97,100,32,82,101,113,117,101,115,116]),(431,[82,101,113,117,101,115,116,32,72,101,97,100,101,114,32,70,105,101,108,100,115,32,84,111,111,32,76,97,114,103,101]),(502,[66,97,100,32,71,97,116,101,119,97,121])] a).1,1,[(⟨[67,111,110,116,101,110,116,45,76,101,110,103,116,104],[48]⟩:zZn),(⟨[67,111,110,110,101,99,116,105,111,110],[99,108,111,115,101]⟩:zZn)]⟩:zZr),(⟨2,0⟩:zZw),[],[]⟩:z0z),true)
def zjK (b:Str) (a:Int):Option Bool:=if (b==[72,69,65,68]) then some true else if (decide (a<200)) then some true else if (a==204) then some true else if (a==304) then some true else if (b==[67,79,78,78,69,67,84]) then some (decide (a<300)) else some false
def zdR (a:Str) (x_h:zZr):Option (zZw × Int):=(zjK a x_h.Code).bind fun c=>if c then some ((⟨1,0⟩:zZw),0) else (znN x_h 4).bind fun b=>some (b.1,b.2)
def zux (a:Str) (x_h:zZr):Option (zZw × Int):=if (x_h.Kind==1) then (zeD x_h).bind fun c=>some (c.1,c.2) else (zdR a x_h).bind fun b=>some (b.1,b.2)
def zv4 (x_m:z0z):Option Bool:=if (x_m.Frame.Kind==1) then if (x_m.Body==[]) then some ((x_m.Trailers.length:Int)==0) else some false else if (x_m.Frame.Kind==2) then if ((x_m.Body.length:Int)==x_m.Frame.N) then some ((x_m.Trailers.length:Int)==0) else some false else if (x_m.Frame.Kind==4) then some ((x_m.Trailers.length:Int)==0) else some true
def zuy (a:Str) (x_m:z0z):Option Int:=(zn7 x_m.Head).bind fun c=>if (!(c==0)) then some c else (zux a x_m.Head).bind fun b=>if (!(b.2==0)) then some b.2 else if (!(b.1==x_m.Frame)) then some 1 else (zv4 x_m).bind fun d=>if (!d) then some 1 else (zeH x_m.Trailers).bind fun e=>some e.2
def zgg (b:Option zZG):Option (Int × Option zZG):=optK b (some (5,none)) fun a=>if a.z0n then some (8,some a) else some (0,some a)
def zfJ:Nat→zZG→List Str→Option (Str × Int × Option zZG)
 | 0,_,_=>none
 | n+1,a,b=>if (decide (a.z0H≤(a.zZ6.length:Int))) then (sTo a.zZ6 a.z0H).bind fun d=>(zaI d).bind fun c=>if zf b.length ([c]:List Str).length 16 then (zar a.zZ6 a.z0H).bind fun e=>zfJ n ({a with zZ6:=e}:zZG) (b++[c]) else none else (zaM [] b).bind fun f=>some (f,0,some a)
def zln (b:Option zZG) (c:Str):Option (Str × Int × Option zZG):=(zgg b).bind fun a=>if (!(a.1==0)) then some ([],a.1,a.2) else a.2.bind fun d=>(zci d.zZ6 c).bind fun e=>zfJ fuel ({d with zZ6:=e}:zZG) []
def zlo (c:Option zZG) (a:List zZn):Option (Str × Int × Option zZG):=(zgg c).bind fun b=>if (!(b.1==0)) then some ([],b.1,b.2) else (zeH a).bind fun d=>if (!(d.2==0)) then some ([],d.2,b.2) else b.2.bind fun e=>(zaI e.zZ6).bind fun f=>(zci f d.1).bind fun g=>some (g,0,some (⟨e.z0H,[],true⟩:zZG))
def zoa (s1:Str) (c:List zZn) (d:Option zZG) (i9:Int):Option (Str × Int):=if (!(i9==0)) then some ([],i9) else (zln d s1).bind fun b=>(zlo b.2.2 c).bind fun a=>if (!(a.2.1==0)) then some ([],a.2.1) else (zci b.1 a.1).bind fun e=>some (e,0)
def zx7 (c:Int) (b:Str) (a:List zZn):Option (Str × Int):=(zdu c).bind fun d=>optK d.1 (zoa b a none d.2) fun e=>zoa b a (some e) d.2
def zlD (b:Str) (a:Int) (c:Str):Option (Str × Int):=if (!(a==0)) then some ([],a) else (zci b c).bind fun d=>some (d,0)
def zuz (a:Str) (x_m:z0z) (b:Int) (c:Int):Option (Str × Int):=(zuy a x_m).bind fun e=>if (!(e==0)) then some ([],e) else (zjV x_m.Head b).bind fun d=>if (!(d.2==0)) then some ([],d.2) else if (x_m.Frame.Kind==3) then (zx7 c x_m.Body x_m.Trailers).bind fun f=>zlD d.1 f.2 f.1 else zlD d.1 d.2 x_m.Body
def zq0 (a:Int):Option Str:=(zz5 a).bind fun b=>if (!b.2) then some [] else (zuz [71,69,84] b.1 65536 1).bind fun c=>some c.1
def zd0 (a:zZC):Option Int:=some (a.zZQ.z0g.length:Int)
def zV (a:zZk) (b:Int):Option zZk:=(zqP b).bind fun c=>some ({a with zZm:=(⟨none,none,none⟩:zZv),z0b:=c,zZH:=true}:zZk)
def zD (e:List Str) (d:Int):Nat→zZk→Int→Option zZk
 | 0,_,_=>none
 | n+1,a,b=>if (decide (b<d)) then (lAt e b).bind fun c=>if zf a.z0a.length c.length 1 then (zi b 1).bind fun f=>zD e d n ({a with z0a:=a.z0a++c}:zZk) f else none else some a
def zae (b:zZk) (a:List Str):Option zZk:=zD a (a.length:Int) fuel b 0
def zgh (v2:zZw) (b:Option zZG) (a:Int):Option (Option zZz × Int):=if (!(a==0)) then some (none,1) else if (decide (v2.Kind<1)) then some (none,1) else if (decide ((4:Int)<v2.Kind)) then some (none,1) else if (decide (v2.N<0)) then some (none,1) else if (v2.Kind==3) then some (some (⟨b,v2,0,false⟩:zZz),0) else if (v2.Kind==2) then some (some (⟨none,v2,v2.N,false⟩:zZz),0) else some (some (⟨none,v2,0,false⟩:zZz),0)
def zie (b:zZw) (a:Int):Option (Option zZz × Int):=(zdu a).bind fun c=>optK c.1 (zgh b none c.2) fun d=>zgh b (some d) c.2
def zif:Option Bool:=some false
def zdG (a:zZC):Option (Int × zZC):=some (0,a)
def zbI (a:zZC) (b:List zZs):Option (Int × zZC):=if a.zZW then some (8,a) else (zbt a.zZQ.zZE (a.zZQ.z0g.length:Int)).bind fun c=>if (decide (c<(b.length:Int))) then some (10,a) else (zmk b).bind fun d=>if d then some (8,a) else if zf a.zZQ.z0g.length b.length 32 then if (decide ((0:Int)<(b.length:Int))) then (zbt (b.length:Int) 1).bind fun e=>(lAt b e).bind fun r4=>zdG (⟨(⟨a.zZQ.z0g++b,a.zZQ.zZE⟩:z0q),r4.Close⟩:zZC) else zdG (⟨(⟨a.zZQ.z0g++b,a.zZQ.zZE⟩:z0q),false⟩:zZC) else none
def zeX (b:zZG) (a:List zZn):Option (Str × Int × zZG):=(zbB b).bind fun d=>if (!(d==0)) then some ([],d,b) else (zeH a).bind fun c=>if (!(c.2==0)) then some ([],c.2,b) else (zaI b.zZ6).bind fun e=>(zci e c.1).bind fun f=>some (f,0,(⟨b.z0H,[],true⟩:zZG))
def zbC (a:zZz) (b:Int) (c:Str):Option (Str × Int × zZz):=some (c,b,({a with z0n:=b==0}:zZz))
def zbJ (x_w:zZz) (a:List zZn):Option (Str × Int × zZz):=(za5 x_w).bind fun b=>if (!(b==0)) then some ([],b,x_w) else if (x_w.zZY.Kind==3) then optK x_w.Encoder ((zfS a).bind fun d=>zbC ({x_w with Encoder:=none}:zZz) d.2 d.1) fun e=>(zeX e a).bind fun c=>zbC ({x_w with Encoder:=some c.2.2}:zZz) c.2.1 c.1 else if (decide ((0:Int)<x_w.zZB)) then zbC x_w 6 [] else zbC x_w b []
def zav (a:zZk) (v6:zZs):Option zZk:=(zbN 1 a.zZF.Head).bind fun b=>some ({a with zZm:=b,zZH:=v6.Close}:zZk)
def zaw (vp0:zZk) (v4:zZr):Option zZk:=(zqZ v4).bind fun r1=>optK vp0.Queue ((zgP [r1]).bind fun c=>zav ({vp0 with Queue:=none}:zZk) (⟨r1.Method,r1.Minor,r1.Close⟩:zZs)) fun a=>(zbI a [(⟨r1.Method,r1.Minor,r1.Close⟩:zZs)]).bind fun b=>zav ({vp0 with Queue:=some b.2}:zZk) (⟨r1.Method,r1.Minor,r1.Close⟩:zZs)
def z8 (b:zZk) (s2:Str):Option zZk:=(zae b [s2]).bind fun a=>optK a.zZm.Accum (zeq.bind fun d=>zaw ({a with zZm:=(⟨none,a.zZm.z0t,a.zZm.zZD⟩:zZv)}:zZk) d.1) fun c=>(zbG c).bind fun e=>zaw ({a with zZm:=(⟨some c,a.zZm.z0t,a.zZm.zZD⟩:zZv)}:zZk) e.1
def zan (a:zZk):Option zZk:=optK a.zZm.zZD (optK a.zZm.z0t (zcf.bind fun h=>(zcg h).bind fun i=>z8 ({a with zZm:=(⟨a.zZm.Accum,none,none⟩:zZv)}:zZk) i.1) fun g=>(zbH g).bind fun l=>(zcg l).bind fun j=>z8 ({a with zZm:=(⟨a.zZm.Accum,some g,none⟩:zZv)}:zZk) j.1) fun d=>optK a.zZm.z0t (zcf.bind fun k=>(zbJ d k).bind fun f=>z8 ({a with zZm:=(⟨a.zZm.Accum,none,some f.2.2⟩:zZv)}:zZk) f.1) fun e=>(zbH e).bind fun c=>(zbJ d c).bind fun b=>z8 ({a with zZm:=(⟨a.zZm.Accum,some e,some b.2.2⟩:zZv)}:zZk) b.1
def zgi (a:zZK):Option Bool:=some a.z0n
def zax (a:zZk) (b:Bool):Option zZk:=if b then (zan a).bind fun c=>some c else some a
def zay (a:zZk):Option zZk:=optK a.zZm.z0t (zif.bind fun c=>zax ({a with zZm:=(⟨a.zZm.Accum,none,a.zZm.zZD⟩:zZv)}:zZk) c) fun b=>(zgi b).bind fun d=>zax ({a with zZm:=(⟨a.zZm.Accum,some b,a.zZm.zZD⟩:zZv)}:zZk) d
def zaz (a:zZk) (v5:zZw):Option zZk:=(zie v5 a.zZF.Chunk).bind fun b=>optK b.1 (zay ({a with zZm:=(⟨a.zZm.Accum,a.zZm.z0t,none⟩:zZv)}:zZk)) fun c=>zay ({a with zZm:=(⟨a.zZm.Accum,a.zZm.z0t,some c⟩:zZv)}:zZk)
def zaA (a:zZk) (v2:zZr):Option zZk:=(zbP a v2).bind fun c=>if (!(c.2.2==0)) then (zV a c.2.2).bind fun d=>some d else (zae a [c.1]).bind fun b=>(zn8 c.2.1 b.zZF.Head).bind fun e=>optK e.1 (zaz ({b with zZm:=(⟨b.zZm.Accum,none,b.zZm.zZD⟩:zZv)}:zZk) c.2.1) fun f=>zaz ({b with zZm:=(⟨b.zZm.Accum,some f,b.zZm.zZD⟩:zZv)}:zZk) c.2.1
def zaX (a:zZk):Option zZk:=optK a.zZm.Accum (zeq.bind fun c=>zaA ({a with zZm:=(⟨none,a.zZm.z0t,a.zZm.zZD⟩:zZv)}:zZk) c.1) fun b=>(zbG b).bind fun d=>zaA ({a with zZm:=(⟨some b,a.zZm.z0t,a.zZm.zZD⟩:zZv)}:zZk) d.1
def zfU (v0:zZA) (i3:Int) (t4:Bool):Option Bool:=(zbt i3 1).bind fun a=>(lAt v0.zZ6 a).bind fun b=>some (!((b==10)==t4))
def ziS (a:zZA):Option Bool:=if (decide ((1:Int)<(a.zZ6.length:Int))) then (zbt (a.zZ6.length:Int) 2).bind fun c=>(lAt a.zZ6 c).bind fun b=>zfU a (a.zZ6.length:Int) (b==13) else zfU a (a.zZ6.length:Int) false
def zc5 (a:zZy):Option (Str × zZy):=(zaj a zhm).bind fun b=>some (b.1,b.2)
def ze9 (a:Str):Option (zZn × Int):=(zbW a [13,10]).bind fun g=>if g then some ((⟨[],[]⟩:zZn),24) else (zg2 a).bind fun j=>(zc5 j).bind fun e=>if (!(e.1==[])) then some ((⟨[],[]⟩:zZn),23) else (zat e.2).bind fun c=>(zc5 c.2.2).bind fun f=>if (!c.2.1) then some ((⟨[],[]⟩:zZn),21) else (zl f.2 58).bind fun d=>if (!d.1) then some ((⟨[],[]⟩:zZn),21) else if (!(f.1==[])) then some ((⟨[],[]⟩:zZn),22) else (zbe d.2).bind fun h=>(zcm zbn [h]).bind fun k=>if (!k) then some ((⟨[],[]⟩:zZn),25) else (zbe d.2).bind fun i=>(zcc i [32,9]).bind fun b=>some ((⟨c.1,b⟩:zZn),0)
def zjl (b:List Str) (c:Int):Nat→zZr→Int→Option (zZr × Int)
 | 0,_,_=>none
 | n+1,v12,a=>if (decide (a<c)) then (lAt b a).bind fun f=>(ze9 f).bind fun d=>if (!(d.2==0)) then some ((⟨0,[],[],0,[],0,[]⟩:zZr),d.2) else if zf v12.Fields.length ([d.1]:List zZn).length 32 then (zi a 1).bind fun g=>zjl b c n ({v12 with Fields:=v12.Fields++[d.1]}:zZr) g else none else (zn6 v12).bind fun e=>if (!(e==0)) then some ((⟨0,[],[],0,[],0,[]⟩:zZr),e) else some (v12,0)
def zq1 (b:Int) (a:Str) (c:Int):Option (zZr × Int):=(zdQ b []).bind fun f=>if (f.2==1) then some ((⟨0,[],[],0,[],0,[]⟩:zZr),f.2) else (strings_Index a [13,10,13,10]).bind fun e=>if (decide (c<(a.length:Int))) then some ((⟨0,[],[],0,[],0,[]⟩:zZr),3) else if (decide (e<0)) then some ((⟨0,[],[],0,[],0,[]⟩:zZr),6) else (zi e 4).bind fun i=>if (!(i==(a.length:Int))) then some ((⟨0,[],[],0,[],0,[]⟩:zZr),6) else (sTo a e).bind fun j=>(strings_Split j [13,10]).bind fun g=>(lAt g 0).bind fun k=>(zdQ b k).bind fun d=>if (!(d.2==0)) then some ((⟨0,[],[],0,[],0,[]⟩:zZr),d.2) else (zoc g 1).bind fun h=>zjl h (h.length:Int) fuel d.1 0
def zeY (a:zZA) (b:Int):Option (Bool × Int × zZA):=some (false,b,({a with z0C:=(a.zZ6.length:Int)}:zZA))
def zeI (a:zZA) (b:Str):Option (Bool × Int × zZA):=if (a.z0C==0) then (zdQ a.z0O b).bind fun d=>zeY a d.2 else if (!(b==[])) then (ze9 b).bind fun e=>zeY a e.2 else (zq1 a.z0O a.zZ6 a.z0E).bind fun c=>some (c.2==0,c.2,({a with z0G:=c.1}:zZA))
def zch (a:zZA) (b:UInt8):Option (Bool × Int × zZA):=if (decide (a.z0E≤(a.zZ6.length:Int))) then some (false,3,a) else if zf a.zZ6.length ([b]:List UInt8).length 1 then (ziS ({a with zZ6:=a.zZ6++[b]}:zZA)).bind fun d=>if d then some (false,24,({a with zZ6:=a.zZ6++[b]}:zZA)) else if (!(b==10)) then some (false,0,({a with zZ6:=a.zZ6++[b]}:zZA)) else (zbt ((a.zZ6++[b]).length:Int) 2).bind fun e=>(zD3 (a.zZ6++[b]) a.z0C e).bind fun f=>(zeI ({a with zZ6:=a.zZ6++[b]}:zZA) f).bind fun c=>some (c.1,c.2.1,c.2.2) else none
def zc6 (g:zZA→Int→Option (Int × Bool × Int × zZA)) (a:zZA) (e:Int) (b:Int) (c:Bool):Option (Int × Bool × Int × zZA):=if c then (zi e 1).bind fun d=>some (d,a.f_whole,a.z0K,({a with zZ6:=[]}:zZA)) else (zi b 1).bind fun f=>g a f
def zaG (s1:Str) (c:Int):Nat→zZA→Int→Option (Int × Bool × Int × zZA)
 | 0,_,_=>none
 | n+1,d,b=>if (decide (b<c)) then (sAt s1 b).bind fun e=>(zch ({d with z0L:=true}:zZA) e).bind fun a=>if a.1 then zc6 (zaG s1 c n) (⟨a.2.2.z0O,a.2.2.z0E,a.2.2.zZ6,a.2.2.z0C,a.2.2.z0L,a.2.1,a.1,a.2.2.z0G⟩:zZA) b b true else zc6 (zaG s1 c n) (⟨a.2.2.z0O,a.2.2.z0E,a.2.2.zZ6,a.2.2.z0C,a.2.2.z0L,a.2.1,a.1,a.2.2.z0G⟩:zZA) b b (!(a.2.1==0)) else some ((s1.length:Int),false,0,d)
def zaT (a:zZA) (b:Str):Option (Int × Bool × Int × zZA):=if (!(a.z0K==0)) then some (0,false,8,a) else if a.f_whole then some (0,false,8,a) else zaG b (b.length:Int) fuel a 0
def zaS:Nat→zZG→List Str→Option (Str × Int × zZG)
 | 0,_,_=>none
 | n+1,a,b=>if (decide (a.z0H≤(a.zZ6.length:Int))) then (sTo a.zZ6 a.z0H).bind fun d=>(zaI d).bind fun c=>if zf b.length ([c]:List Str).length 16 then (zar a.zZ6 a.z0H).bind fun e=>zaS n ({a with zZ6:=e}:zZG) (b++[c]) else none else (zaM [] b).bind fun f=>some (f,0,a)
def zbr (a:zZG) (b:Str):Option (Str × Int × zZG):=(zbB a).bind fun c=>if (!(c==0)) then some ([],c,a) else (zci a.zZ6 b).bind fun d=>zaS fuel ({a with zZ6:=d}:zZG) []
def zdH (a:zZz) (b:Str) (i5:Int):Option (Str × Int × zZz):=some (b,i5,a)
def zdI (a:zZz) (s1:Str):Option (Str × Int × zZz):=some (s1,0,a)
def zbD (a:zZz) (s1:Str) (b:Bool):Option (Str × Int × zZz):=if b then if (decide (a.zZB<(s1.length:Int))) then some ([],3,a) else (zbt a.zZB (s1.length:Int)).bind fun c=>zdI ({a with zZB:=c}:zZz) s1 else zdI a s1
def zk (x_w:zZz) (a:Str):Option (Str × Int × zZz):=(za5 x_w).bind fun c=>if (!(c==0)) then some ([],c,x_w) else if (x_w.zZY.Kind==3) then optK x_w.Encoder ((zfT a).bind fun d=>zdH ({x_w with Encoder:=none}:zZz) d.1 d.2) fun e=>(zbr e a).bind fun b=>zdH ({x_w with Encoder:=some b.2.2}:zZz) b.1 b.2.1 else if (x_w.zZY.Kind==1) then zbD x_w a true else zbD x_w a (x_w.zZY.Kind==2)
def zbR (a:zZp) (s1:Str) (i5:Int):Option (Str × zZp):=(sTo s1 i5).bind fun b=>some (b,a)
def zcD (a:zZp) (b:Str):Option (Str × zZp):=(zbt a.zZB (min a.zZB (b.length:Int))).bind fun c=>if (c==0) then zbR ({a with zZ4:=2,zZB:=2}:zZp) b (min a.zZB (b.length:Int)) else zbR ({a with zZB:=c}:zZp) b (min a.zZB (b.length:Int))
def zcE (a:zZp):Option (Int × zZp):=some (0,a)
def zcF (a:zZp) (c:UInt8) (d:UInt8):Option (Int × zZp):=if (!(c==d)) then some (31,a) else (zbt a.zZB 1).bind fun b=>if (b==0) then zcE ({a with zZ4:=0,zZB:=b}:zZp) else zcE ({a with zZB:=b}:zZp)
def zdJ (a:zZp) (b:UInt8):Option (Int × zZp):=if (a.zZB==1) then zcF a b 10 else zcF a b 13
def zpa (b:Str) (a:Int):Option (Int × Int):=(zkL b 16 a zek).bind fun c=>some (c.1,c.2)
def zml (c:zZy):Option (Str × Bool × zZy):=(zat c).bind fun a=>if a.2.1 then some (a.1,true,a.2.2) else (zjg a.2.2).bind fun b=>some (b.1,b.2.1,b.2.2)
def zfp (x_r:z0p):Option (z0d × Bool × zZy):=(zat x_r.Scanner).bind fun a=>if (!a.2.1) then some ((⟨a.1,[],false⟩:z0d),a.2.1,a.2.2) else (zl a.2.2 61).bind fun b=>if (!b.1) then some ((⟨a.1,[],false⟩:z0d),a.2.1,b.2) else (zml b.2).bind fun c=>some ((⟨a.1,c.1,true⟩:z0d),c.2.1,c.2.2)
def zeJ (e:Int) (a:Int):Nat→z0p→List z0d→Option (Int × List z0d × Int)
 | 0,_,_=>none
 | n+1,v5,d=>(zl v5.Scanner 59).bind fun c=>if c.1 then (zfp (⟨c.2⟩:z0p)).bind fun b=>if (!b.2.1) then some (0,[],31) else if zf d.length ([b.1]:List z0d).length 40 then zeJ e a n (⟨b.2.2⟩:z0p) (d++[b.1]) else none else (zbb c.2).bind fun f=>if (!f) then some (0,[],31) else if (a==2) then some (0,[],31) else if (!(a==0)) then some (0,[],a) else some (e,d,0)
def zjL (a:Str):Option (Int × List z0d × Int):=(zg2 a).bind fun d=>(zaj d zek).bind fun b=>(zpa b.1 1099511627776).bind fun c=>zeJ c.1 c.2 fuel (⟨b.2⟩:z0p) []
def zec (a:zZp) (c:Str):Option (Int × zZp):=(zjL c).bind fun b=>if (!(b.2.2==0)) then some (b.2.2,a) else (zbt 1099511627776 a.z0P).bind fun d=>if (decide (d<b.1)) then some (7,a) else if (b.1==0) then some (0,({a with zZ4:=3}:zZp)) else (zi a.z0P b.1).bind fun e=>some (0,({a with zZ4:=1,zZB:=b.1,z0P:=e}:zZp))
def zcZ (a:zZp) (b:Str):Option (Bool × Int × zZp):=if (b==[]) then some (true,0,a) else (ze9 b).bind fun c=>if (!(c.2==0)) then some (false,c.2,a) else if (decide ((100:Int)≤(a.z0B.length:Int))) then some (false,3,a) else if zf a.z0B.length ([c.1]:List zZn).length 32 then some (false,0,({a with z0B:=a.z0B++[c.1]}:zZp)) else none
def zcG (a:zZp) (b:UInt8) (h:Int) (i:Bool) (c:Bool):Option (Bool × Int × zZp):=if c then some (false,3,a) else if (!((b==10)==i)) then some (false,24,a) else if (!(b==10)) then if zf a.z0I.length ([b]:List UInt8).length 1 then some (false,0,({a with z0I:=a.z0I++[b]}:zZp)) else none else (zbt h 1).bind fun g=>(lTo a.z0I g).bind fun e=>if (a.zZ4==0) then (zec ({a with z0I:=[]}:zZp) e).bind fun f=>some (false,f.1,f.2) else (zcZ ({a with z0I:=[]}:zZp) e).bind fun d=>some (d.1,d.2.1,d.2.2)
def zcH (a:zZp) (c:UInt8) (b:Int) (d:Bool):Option (Bool × Int × zZp):=if (decide ((4098:Int)≤b)) then zcG a c b d true else zcG a c b d (decide (a.z0E<a.z0J))
def zcI (a:zZp) (b:UInt8):Option (Bool × Int × zZp):=if (decide ((0:Int)<(a.z0I.length:Int))) then (zbt (a.z0I.length:Int) 1).bind fun d=>(lAt a.z0I d).bind fun c=>zcH a b (a.z0I.length:Int) (c==13) else zcH a b (a.z0I.length:Int) false
def zdK (a:zZp) (b:UInt8):Option (Bool × Int × zZp):=if (a.zZ4==3) then (zi a.z0J 1).bind fun c=>zcI ({a with z0J:=c}:zZp) b else zcI a b
def zt (a:zZp) (b:Str):Option (Int × Str × Bool × Int × zZp):=if (a.zZ4==1) then (zcD a b).bind fun c=>some ((c.1.length:Int),c.1,false,0,c.2) else if (a.zZ4==2) then (sAt b 0).bind fun f=>(zdJ a f).bind fun e=>some (1,[],false,e.1,e.2) else (sAt b 0).bind fun g=>(zdK a g).bind fun d=>some (1,[],d.1,d.2.1,d.2.2)
def zbS (a:zZp) (i4:Int) (c:Bool) (b:Int) (d:List UInt8):Option (Int × Str × Bool × Int × zZp):=some (i4,d,c,b,a)
def zbT (a:zZp) (i4:Int) (c:Bool) (b:Int) (d:List UInt8) (t51:Bool):Option (Int × Str × Bool × Int × zZp):=if t51 then zbS ({a with zZ4:=4,z0I:=[]}:zZp) i4 c b d else zbS a i4 c b d
def zaJ (i:zZp→Int→Bool→Int→List UInt8→Option (Int × Str × Bool × Int × zZp)) (a:zZp) (s1:Str) (i4:Int) (f:Bool) (d:Int) (c:List UInt8) (e:Bool):Option (Int × Str × Bool × Int × zZp):=if e then (zar s1 i4).bind fun g=>(zt a g).bind fun b=>if zf c.length b.2.1.length 1 then (zi i4 b.1).bind fun h=>i b.2.2.2.2 h b.2.2.1 b.2.2.2.1 (c++b.2.1) else none else if f then zbT a i4 f d c true else zbT a i4 f d c (!(d==0))
def zq (s1:Str):Nat→zZp→Int→Bool→Int→List UInt8→Option (Int × Str × Bool × Int × zZp)
 | 0,_,_,_,_,_=>none
 | n+1,a,i4,c,b,d=>if (decide (i4<(s1.length:Int))) then if (!c) then zaJ (zq s1 n) a s1 i4 c b d (b==0) else zaJ (zq s1 n) a s1 i4 c b d false else zaJ (zq s1 n) a s1 i4 c b d false
def za6 (a:zZp) (b:Str):Option (Int × Str × Bool × Int × zZp):=if (a.zZ4==4) then some (0,[],false,8,a) else zq b fuel a 0 false 0 []
def zfV (a:zZK) (i4:Int) (d:Str) (c:Bool) (b:Int):Option (Int × Str × Bool × Int × zZK):=some (i4,d,c,b,({a with z0n:=c,z0K := !(b==0)}:zZK))
def zfW (a:zZK) (s1:Str) (i4:Int):Option (Int × Str × Bool × Int × zZK):=(sTo s1 i4).bind fun b=>some (i4,b,a.z0n,0,a)
def zo (x_a0:zZK) (a:Str):Option (Int × Str × Bool × Int × zZK):=if x_a0.z0n then some (0,[],false,8,x_a0) else if x_a0.z0K then some (0,[],false,8,x_a0) else if (x_a0.zZY.Kind==3) then optK x_a0.Decoder ((zfn a).bind fun c=>zfV ({x_a0 with Decoder:=none}:zZK) c.1 c.2.1 c.2.2.1 c.2.2.2) fun e=>(za6 e a).bind fun b=>zfV ({x_a0 with Decoder:=some b.2.2.2.2}:zZK) b.1 b.2.1 b.2.2.1 b.2.2.2.1 else if (x_a0.zZY.Kind==2) then (zbt x_a0.zZB (min (a.length:Int) x_a0.zZB)).bind fun d=>zfW ({x_a0 with zZB:=d,z0n:=d==0}:zZK) a (min (a.length:Int) x_a0.zZB) else zfW x_a0 a (a.length:Int)
def zp (a:zZk) (i5:Int) (d:Bool) (b:Int):Option (Int × zZk):=if (!(b==0)) then (zV a b).bind fun c=>some (i5,c) else if d then (zaX a).bind fun e=>some (i5,e) else some (i5,a)
def zA (e:zZk) (d:Int) (f:Bool) (a:Int) (c:Str):Option (Int × zZk):=(zae e [c]).bind fun b=>if (!(a==0)) then (zV b a).bind fun g=>some (d,g) else if f then (zan b).bind fun h=>some (d,h) else some (d,b)
def zW (a:zZk) (d:Int) (e:Str) (b:Bool) (c:Int):Option (Int × zZk):=optK a.zZm.zZD ((zeG e).bind fun h=>zA ({a with zZm:=(⟨a.zZm.Accum,a.zZm.z0t,none⟩:zZv)}:zZk) d b c h.1) fun g=>(zk g e).bind fun f=>zA ({a with zZm:=(⟨a.zZm.Accum,a.zZm.z0t,some f.2.2⟩:zZv)}:zZk) d b c f.1
def zK (a:zZk) (s1:Str) (e:Bool):Option (Int × zZk):=if e then optK a.zZm.Accum ((zgd s1).bind fun f=>zp ({a with zZm:=(⟨none,a.zZm.z0t,a.zZm.zZD⟩:zZv)}:zZk) f.1 f.2.1 f.2.2) fun g=>(zaT g s1).bind fun c=>zp ({a with zZm:=(⟨some c.2.2.2,a.zZm.z0t,a.zZm.zZD⟩:zZv)}:zZk) c.1 c.2.1 c.2.2.1 else optK a.zZm.z0t ((zid s1).bind fun d=>zW ({a with zZm:=(⟨a.zZm.Accum,none,a.zZm.zZD⟩:zZv)}:zZk) d.1 d.2.1 d.2.2.1 d.2.2.2) fun h=>(zo h s1).bind fun b=>zW ({a with zZm:=(⟨a.zZm.Accum,some b.2.2.2.2,a.zZm.zZD⟩:zZv)}:zZk) b.1 b.2.1 b.2.2.1 b.2.2.2.1
def ze (a:zZk) (b:Str):Option (Int × zZk):=optK a.zZm.z0t (zK ({a with zZm:=(⟨a.zZm.Accum,none,a.zZm.zZD⟩:zZv)}:zZk) b true) fun c=>zK ({a with zZm:=(⟨a.zZm.Accum,some c,a.zZm.zZD⟩:zZv)}:zZk) b false
def zC (e:List Str) (d:Int):Nat→zZk→Int→Option zZk
 | 0,_,_=>none
 | n+1,a,b=>if (decide (b<d)) then (lAt e b).bind fun c=>if zf a.zZx.length c.length 1 then (zi b 1).bind fun f=>zC e d n ({a with zZx:=a.zZx++c}:zZk) f else none else some a
def zY (b:zZk) (a:List Str):Option zZk:=zC a (a.length:Int) fuel b 0
def zT (a:zZk):Option zZk:=some ({a with zZm:=(⟨none,none,none⟩:zZv),zZl:=(⟨none,none,none⟩:zZv),zZo:=true}:zZk)
def zO (b:zZk) (a:Int):Option zZk:=(zq0 a).bind fun c=>(zY b [c]).bind fun d=>(zT d).bind fun e=>some e
def zaq (a:zZk) (i2:Int) (b:Bool):Option zZk:=if b then (zO a 502).bind fun c=>some c else if (decide ((0:Int)<i2)) then some a else if (!(a.z0b==0)) then (zO a a.z0b).bind fun d=>some d else if a.zZ3 then (zT a).bind fun e=>some e else some a
def zaf (a:zZk) (i2:Int):Option zZk:=if a.zZo then some a else if (decide ((0:Int)<i2)) then if a.z0c then zaq a i2 (!a.zZU) else zaq a i2 false else zaq a i2 false
def zg (x_g:zZk):Option zZk:=optK x_g.Queue (zfo.bind fun b=>zaf ({x_g with Queue:=none}:zZk) b) fun a=>(zd0 a).bind fun c=>zaf ({x_g with Queue:=some a}:zZk) c
def zaN (h:zZk→Int→Option (Int × Int × zZk)) (a:zZk) (s1:Str) (b:Int) (c:Bool):Option (Int × Int × zZk):=if c then (zar s1 b).bind fun e=>(ze a e).bind fun d=>(zi b d.1).bind fun f=>(zg d.2).bind fun g=>h g f else some (b,0,a)
def zh (s1:Str):Nat→zZk→Int→Option (Int × Int × zZk)
 | 0,_,_=>none
 | n+1,a,b=>if (decide (b<(s1.length:Int))) then (zI a).bind fun c=>zaN (zh s1 n) a s1 b c else zaN (zh s1 n) a s1 b false
def zM (a:zZk) (b:Str):Option (Int × Int × zZk):=if a.zZo then some (0,8,a) else if a.zZ3 then some (0,8,a) else zh b fuel a 0
def zbK (a:zZk):Option (Str × zZk):=some (a.zZx,({a with zZx:=[]}:zZk))
def zbm (a:zZk):Option (Str × zZk):=some (a.z0a,({a with z0a:=[]}:zZk))
def ziT:Option Int:=some 0
def zig:Option Int:=some 0
def zbY:Option Int:=some 0
def zfq:Option Int:=some 0
def zed (a:zZG):Option Int:=some (a.zZ6.length:Int)
def zbs (x_w:zZz):Option Int:=optK x_w.Encoder (zfq.bind fun b=>some b) fun a=>(zed a).bind fun c=>some c
def zfr:Option Int:=some 0
def zee (a:zZp):Option Int:=some (a.z0I.length:Int)
def zgj (x_b:zZK):Option Int:=optK x_b.Decoder (zfr.bind fun b=>some b) fun a=>(zee a).bind fun c=>some c
def zgQ (a:zZA):Option Int:=some (a.zZ6.length:Int)
def zfs (x_s:zZv):Option Int:=optK x_s.Accum (ziT.bind fun y=>optK x_s.z0t (zig.bind fun D=>(zi y D).bind fun z=>optK x_s.zZD (zbY.bind fun B=>(zi z B).bind fun G=>some G) fun F=>(zbs F).bind fun C=>(zi z C).bind fun j=>some j) fun A=>(zgj A).bind fun u=>(zi y u).bind fun a=>optK x_s.zZD (zbY.bind fun t=>(zi a t).bind fun g=>some g) fun o=>(zbs o).bind fun m=>(zi a m).bind fun v=>some v) fun E=>(zgQ E).bind fun d=>optK x_s.z0t (zig.bind fun p=>(zi d p).bind fun c=>optK x_s.zZD (zbY.bind fun s=>(zi c s).bind fun i=>some i) fun w=>(zbs w).bind fun e=>(zi c e).bind fun k=>some k) fun l=>(zgj l).bind fun x=>(zi d x).bind fun b=>optK x_s.zZD (zbY.bind fun n=>(zi b n).bind fun q=>some q) fun f=>(zbs f).bind fun h=>(zi b h).bind fun r=>some r
def zcS (a:zZk):Option z0D:=(zfs a.zZm).bind fun c=>(zfs a.zZl).bind fun b=>some (⟨c,b⟩:z0D)
def zu (x_w:zZt):Option zZt:=(zbK x_w.Gateway).bind fun b=>if zf x_w.zZm.zZN.length b.1.length 1 then (zbm b.2).bind fun a=>if zf x_w.zZl.zZN.length a.1.length 1 then (zcS a.2).bind fun r3=>some (⟨a.2,(⟨x_w.zZm.zZ1,x_w.zZm.zZP,x_w.zZm.z0k,x_w.zZm.z0j,x_w.zZm.zZN++b.1,x_w.zZm.z0A,x_w.zZm.z0F⟩:z0f),(⟨x_w.zZl.zZ1,x_w.zZl.zZP,x_w.zZl.z0k,x_w.zZl.z0j,x_w.zZl.zZN++a.1,x_w.zZl.z0A,x_w.zZl.z0F⟩:z0f),(⟨max x_w.zZE.Client r3.Client,max x_w.zZE.Upstream r3.Upstream⟩:z0D)⟩:zZt) else none else none
def zfX:Option (zZs × Bool):=some ((⟨[],0,false⟩:zZs),false)
def zmK (x_f:zZw) (a:Int):Option zZw:=if (x_f.Kind==1) then some x_f else if (x_f.Kind==2) then some x_f else if (a==1) then some (⟨3,0⟩:zZw) else some (⟨4,0⟩:zZw)
def zdL (a:z0q):Option (zZs × Bool):=if ((a.z0g.length:Int)==0) then some ((⟨[],0,false⟩:zZs),false) else (lAt a.z0g 0).bind fun b=>some (b,true)
def zaH (a:zZC):Option (zZs × Bool):=(zdL a.zZQ).bind fun b=>some (b.1,b.2)
def zhE:Option Bool:=some false
def zak (a:zZk) (c:Int):Option (Int × zZk):=(zbN 2 a.zZF.Head).bind fun b=>some (c,({a with zZl:=b}:zZk))
def zal (a:zZk) (c:Int) (d:Str) (b:Bool):Option (Int × zZk):=if b then (zY a [d]).bind fun r1=>zak (⟨r1.Queue,r1.z0h,r1.zZF,r1.zZ5,r1.zZm,r1.zZl,r1.zZx,r1.z0a,r1.z0b,r1.zZH,r1.zZ3,r1.z0c,r1.zZU,r1.zZW,r1.zZX,r1.zZo⟩:zZk) c else zak a c
def za2 (a:zZk) (d:zZr) (x_t:zZs):Option (Int × zZk):=(ziO a.z0h (⟨1,0⟩:zZw) d a.zZ5).bind fun c=>if (!(c.2==0)) then some (c.2,a) else (zjV c.1 a.zZF.Head).bind fun b=>if (b.2==0) then zal a b.2 b.1 (x_t.Minor==1) else zal a b.2 b.1 false
def zgk (v3:zZr):Option zZr:=some v3
def zmm (x_h:zZr) (b:Bool) (a:Int):Option zZr:=if zf ([]:List zZn).length x_h.Fields.length 32 then if b then if zf (([]:List zZn)++x_h.Fields).length ([(⟨[67,111,110,110,101,99,116,105,111,110],[99,108,111,115,101]⟩:zZn)]:List zZn).length 32 then zgk ({x_h with Fields:=(([]:List zZn)++x_h.Fields)++([(⟨[67,111,110,110,101,99,116,105,111,110],[99,108,111,115,101]⟩:zZn)])}:zZr) else none else if (a==0) then if zf (([]:List zZn)++x_h.Fields).length ([(⟨[67,111,110,110,101,99,116,105,111,110],[107,101,101,112,45,97,108,105,118,101]⟩:zZn)]:List zZn).length 32 then zgk ({x_h with Fields:=(([]:List zZn)++x_h.Fields)++([(⟨[67,111,110,110,101,99,116,105,111,110],[107,101,101,112,45,97,108,105,118,101]⟩:zZn)])}:zZr) else none else zgk ({x_h with Fields:=([]:List zZn)++x_h.Fields}:zZr) else none
def zaY (a:zZC):Option (Bool × zZC):=if ((a.zZQ.z0g.length:Int)==0) then some (false,a) else (lAt a.zZQ.z0g 0).bind fun c=>(zoc a.zZQ.z0g 1).bind fun b=>some (true,(⟨(⟨b,a.zZQ.zZE⟩:z0q),a.zZW⟩:zZC))
def zag (a:zZk):Option zZk:=(zbN 2 a.zZF.Head).bind fun b=>if a.zZW then (zT ({a with zZl:=b}:zZk)).bind fun c=>some c else some ({a with zZl:=b}:zZk)
def zah (a:zZk):Option zZk:=if a.z0c then zag ({a with z0c:=true,zZU:=false}:zZk) else zag ({a with z0c:=a.zZX,zZU:=false}:zZk)
def zQ (a:zZk) (s2:Str):Option zZk:=(zY a [s2]).bind fun r1=>optK r1.Queue (zhE.bind fun d=>zah ({r1 with Queue:=none}:zZk)) fun b=>(zaY b).bind fun c=>zah ({r1 with Queue:=some c.2}:zZk)
def zL (a:zZk):Option zZk:=optK a.zZl.zZD (optK a.zZl.z0t (zcf.bind fun h=>(zcg h).bind fun i=>zQ ({a with zZl:=(⟨a.zZl.Accum,none,none⟩:zZv)}:zZk) i.1) fun g=>(zbH g).bind fun l=>(zcg l).bind fun j=>zQ ({a with zZl:=(⟨a.zZl.Accum,some g,none⟩:zZv)}:zZk) j.1) fun d=>optK a.zZl.z0t (zcf.bind fun k=>(zbJ d k).bind fun f=>zQ ({a with zZl:=(⟨a.zZl.Accum,none,some f.2.2⟩:zZv)}:zZk) f.1) fun e=>(zbH e).bind fun c=>(zbJ d c).bind fun b=>zQ ({a with zZl:=(⟨a.zZl.Accum,some e,some b.2.2⟩:zZv)}:zZk) b.1
def zaB (a:zZk) (b:Bool):Option (Int × zZk):=if b then (zL a).bind fun c=>some (0,c) else some (0,a)
def zaC (a:zZk):Option (Int × zZk):=optK a.zZl.z0t (zif.bind fun c=>zaB ({a with zZl:=(⟨a.zZl.Accum,none,a.zZl.zZD⟩:zZv)}:zZk) c) fun b=>(zgi b).bind fun d=>zaB ({a with zZl:=(⟨a.zZl.Accum,some b,a.zZl.zZD⟩:zZv)}:zZk) d
def zaD (a:zZk) (v9:zZw):Option (Int × zZk):=(zie v9 a.zZF.Chunk).bind fun c=>optK c.1 (zaC ({a with zZl:=(⟨a.zZl.Accum,a.zZl.z0t,none⟩:zZv)}:zZk)) fun b=>zaC ({a with zZl:=(⟨a.zZl.Accum,a.zZl.z0t,some b⟩:zZv)}:zZk)
def zaE (a:zZk) (v5:zZs) (h:zZw) (v9:zZw) (d:zZr):Option (Int × zZk):=(zmm d a.zZW v5.Minor).bind fun e=>(zjV e a.zZF.Head).bind fun c=>if (!(c.2==0)) then some (c.2,a) else (zY a [c.1]).bind fun b=>(zn8 h b.zZF.Head).bind fun f=>optK f.1 (zaD ({b with zZl:=(⟨b.zZl.Accum,none,b.zZl.zZD⟩:zZv),zZU:=true}:zZk) v9) fun g=>zaD ({b with zZl:=(⟨b.zZl.Accum,some g,b.zZl.zZD⟩:zZv),zZU:=true}:zZk) v9
def zaU (a:zZk) (v4:zZr) (v5:zZs) (v7:zZw) (v9:zZw) (b:zZr):Option (Int × zZk):=(zpZ v4).bind fun c=>if c then zaE ({a with zZX:=true}:zZk) v5 v7 v9 b else zaE ({a with zZX:=v7.Kind==4}:zZk) v5 v7 v9 b
def zbd (a:zZk) (b:zZr) (x_a2:zZs):Option (Int × zZk):=(zdR x_a2.Method b).bind fun c=>if (!(c.2==0)) then some (c.2,a) else (zmK c.1 x_a2.Minor).bind fun r2=>(ziO a.z0h r2 b a.zZ5).bind fun d=>if (!(d.2==0)) then some (d.2,a) else if x_a2.Close then zaU ({a with zZW:=true}:zZk) b x_a2 c.1 (⟨r2.Kind,r2.N⟩:zZw) d.1 else zaU ({a with zZW:=r2.Kind==4}:zZk) b x_a2 c.1 (⟨r2.Kind,r2.N⟩:zZw) d.1
def zab (a:zZk) (c:Int):Option zZk:=if (!(c==0)) then (zO a 502).bind fun b=>some b else some a
def zam (a:zZk) (v2:zZr) (v4:zZs):Option zZk:=if (v2.Code==101) then zab a 20 else if (decide (v2.Code<200)) then (za2 a v2 v4).bind fun b=>zab b.2 b.1 else (zbd a v2 v4).bind fun c=>zab c.2 c.1
def zac (vp0:zZk) (v2:zZr):Option zZk:=optK vp0.Queue (zfX.bind fun b=>zam ({vp0 with Queue:=none}:zZk) v2 b.1) fun a=>(zaH a).bind fun c=>zam ({vp0 with Queue:=some a}:zZk) v2 c.1
def zaK (a:zZk):Option zZk:=optK a.zZl.Accum (zeq.bind fun b=>zac ({a with zZl:=(⟨none,a.zZl.z0t,a.zZl.zZD⟩:zZv)}:zZk) (⟨b.1.Kind,b.1.Method,b.1.Target,b.1.Code,b.1.Reason,b.1.Minor,b.1.Fields⟩:zZr)) fun c=>(zbG c).bind fun d=>zac ({a with zZl:=(⟨some c,a.zZl.z0t,a.zZl.zZD⟩:zZv)}:zZk) d.1
def zm (a:zZk) (i5:Int) (d:Bool) (c:Int):Option (Int × zZk):=if (!(c==0)) then (zO a 502).bind fun b=>some (i5,b) else if d then (zaK a).bind fun e=>some (i5,e) else some (i5,a)
def zw (d:zZk) (c:Int) (e:Bool) (f:Int) (b:Str):Option (Int × zZk):=(zY d [b]).bind fun a=>if (!(f==0)) then (zT a).bind fun g=>some (c,g) else if e then (zL a).bind fun h=>some (c,h) else some (c,a)
def zR (a:zZk) (d:Int) (e:Str) (b:Bool) (c:Int):Option (Int × zZk):=optK a.zZl.zZD ((zeG e).bind fun h=>zw ({a with zZl:=(⟨a.zZl.Accum,a.zZl.z0t,none⟩:zZv)}:zZk) d b c h.1) fun g=>(zk g e).bind fun f=>zw ({a with zZl:=(⟨a.zZl.Accum,a.zZl.z0t,some f.2.2⟩:zZv)}:zZk) d b c f.1
def zH (a:zZk) (s1:Str) (e:Bool):Option (Int × zZk):=if e then optK a.zZl.Accum ((zgd s1).bind fun f=>zm ({a with zZl:=(⟨none,a.zZl.z0t,a.zZl.zZD⟩:zZv)}:zZk) f.1 f.2.1 f.2.2) fun g=>(zaT g s1).bind fun c=>zm ({a with zZl:=(⟨some c.2.2.2,a.zZl.z0t,a.zZl.zZD⟩:zZv)}:zZk) c.1 c.2.1 c.2.2.1 else optK a.zZl.z0t ((zid s1).bind fun d=>zR ({a with zZl:=(⟨a.zZl.Accum,none,a.zZl.zZD⟩:zZv)}:zZk) d.1 d.2.1 d.2.2.1 d.2.2.2) fun h=>(zo h s1).bind fun b=>zR ({a with zZl:=(⟨a.zZl.Accum,some b.2.2.2.2,a.zZl.zZD⟩:zZv)}:zZk) b.1 b.2.1 b.2.2.1 b.2.2.2.1
def zj (a:zZk) (b:Str):Option (Int × zZk):=optK a.zZl.z0t (zH ({a with zZl:=(⟨a.zZl.Accum,none,a.zZl.zZD⟩:zZv)}:zZk) b true) fun c=>zH ({a with zZl:=(⟨a.zZl.Accum,some c,a.zZl.zZD⟩:zZv)}:zZk) b false
def zx (g:zZk→Int→Option (Int × Int × zZk)) (a:zZk) (s1:Str) (b:Int) (t46:Bool):Option (Int × Int × zZk):=if t46 then (zar s1 b).bind fun d=>(zj a d).bind fun c=>(zi b c.1).bind fun e=>(zg c.2).bind fun f=>g f e else some (b,0,a)
def za (s1:Str):Nat→zZk→Int→Option (Int × Int × zZk)
 | 0,_,_=>none
 | n+1,vp0,a=>if (decide (a<(s1.length:Int))) then if (!vp0.zZo) then if (!vp0.z0c) then optK vp0.Queue (zfo.bind fun c=>zx (za s1 n) ({vp0 with Queue:=none}:zZk) s1 a (decide ((0:Int)<c))) fun b=>(zd0 b).bind fun d=>zx (za s1 n) ({vp0 with Queue:=some b}:zZk) s1 a (decide ((0:Int)<d)) else zx (za s1 n) vp0 s1 a false else zx (za s1 n) vp0 s1 a false else zx (za s1 n) vp0 s1 a false
def zr (a:zZk) (b:Str):Option (Int × Int × zZk):=if a.zZo then some (0,8,a) else if a.z0c then some (0,8,a) else za b fuel a 0
def zG (a:zZk):Option (Int × zZk):=if a.zZo then some (8,a) else if a.zZ3 then some (8,a) else (zg ({a with zZm:=(⟨none,none,none⟩:zZv),zZH:=true,zZ3:=true}:zZk)).bind fun b=>some (0,b)
def zjm:Option (Bool × Int):=some (false,5)
def zgR (a:zZK):Option (Bool × Int × zZK):=some (true,0,a)
def zfa (a:zZK):Option (Bool × Int × zZK):=if (a.zZY.Kind==4) then zgR ({a with z0n:=true}:zZK) else if (!a.z0n) then some (false,6,a) else zgR a
def zP (a:zZk) (t3:Bool):Option (Int × zZk):=if t3 then (zL a).bind fun b=>(zg b).bind fun c=>some (0,c) else (zT a).bind fun d=>(zg d).bind fun e=>some (0,e)
def zn (a:zZk):Option (Int × zZk):=if a.zZo then some (8,a) else if a.z0c then some (8,a) else if a.zZU then optK a.zZl.z0t (zjm.bind fun d=>zP ({a with zZl:=(⟨a.zZl.Accum,none,a.zZl.zZD⟩:zZv),z0c:=true}:zZk) d.1) fun c=>(zfa c).bind fun b=>zP ({a with zZl:=(⟨a.zZl.Accum,some b.2.2,a.zZl.zZD⟩:zZv),z0c:=true}:zZk) b.1 else (zg ({a with z0c:=true}:zZk)).bind fun e=>some (0,e)
def zhe (a:zZt) (i4:Int) (i5:Int):Option (Int × Int × Option zZt):=some (i4,i5,some a)
def zft (k:Option zZt) (x_e:zZL):Option (Int × Int × Option zZt):=optK k (some (0,5,none)) fun r1=>(zkQ x_e).bind fun o=>if (!(o==0)) then some (0,o,some r1) else if (x_e.Kind==1) then (zar r1.zZm.zZ1 r1.zZm.zZP).bind fun n=>(sTo n (min x_e.N (n.length:Int))).bind fun s=>(zM r1.Gateway s).bind fun d=>(zi r1.zZm.zZP d.1).bind fun t=>(zu (⟨d.2.2,(⟨r1.zZm.zZ1,t,r1.zZm.z0k,r1.zZm.z0j,r1.zZm.zZN,r1.zZm.z0A,r1.zZm.z0F⟩:z0f),r1.zZl,r1.zZE⟩:zZt)).bind fun q=>some (d.1,d.2.1,some q) else if (x_e.Kind==3) then (zar r1.zZl.zZ1 r1.zZl.zZP).bind fun p=>(sTo p (min x_e.N (p.length:Int))).bind fun r=>(zr r1.Gateway r).bind fun c=>(zi r1.zZl.zZP c.1).bind fun l=>(zu (⟨c.2.2,r1.zZm,(⟨r1.zZl.zZ1,l,r1.zZl.z0k,r1.zZl.z0j,r1.zZl.zZN,r1.zZl.z0A,r1.zZl.z0F⟩:z0f),r1.zZE⟩:zZt)).bind fun j=>some (c.1,c.2.1,some j) else if (x_e.Kind==2) then (zar r1.zZm.zZ1 r1.zZm.zZP).bind fun h=>if (!(h==[])) then zhe r1 0 8 else (zG r1.Gateway).bind fun a=>if r1.zZm.z0j then (zu (⟨a.2,(⟨r1.zZm.zZ1,r1.zZm.zZP,r1.zZm.z0k,true,r1.zZm.zZN,r1.zZm.z0A,r1.zZm.z0F⟩:z0f),r1.zZl,r1.zZE⟩:zZt)).bind fun e=>zhe e 0 a.1 else (zu (⟨a.2,(⟨r1.zZm.zZ1,r1.zZm.zZP,r1.zZm.z0k,a.1==0,r1.zZm.zZN,r1.zZm.z0A,r1.zZm.z0F⟩:z0f),r1.zZl,r1.zZE⟩:zZt)).bind fun g=>zhe g 0 a.1 else (zar r1.zZl.zZ1 r1.zZl.zZP).bind fun m=>if (!(m==[])) then some (0,8,some r1) else (zn r1.Gateway).bind fun b=>if r1.zZl.z0j then (zu (⟨b.2,r1.zZm,(⟨r1.zZl.zZ1,r1.zZl.zZP,r1.zZl.z0k,true,r1.zZl.zZN,r1.zZl.z0A,r1.zZl.z0F⟩:z0f),r1.zZE⟩:zZt)).bind fun f=>some (0,b.1,some f) else (zu (⟨b.2,r1.zZm,(⟨r1.zZl.zZ1,r1.zZl.zZP,r1.zZl.z0k,b.1==0,r1.zZl.zZN,r1.zZl.z0A,r1.zZl.z0F⟩:z0f),r1.zZE⟩:zZt)).bind fun i=>some (0,b.1,some i)
def zbk (a:zZk):Option Bool:=some a.zZo
def zsF (F:zZt→Int→Int→Option (Int × Option zZt)) (w:zZt) (i3:Int):Option (Int × Option zZt):=(zbk w.Gateway).bind fun h=>if h then some (i3,some w) else (zar w.zZl.zZ1 w.zZl.zZP).bind fun b=>(sTo b (min (w.zZl.zZ1.length:Int) (b.length:Int))).bind fun k=>(zr w.Gateway k).bind fun a=>(zi w.zZl.zZP a.1).bind fun j=>(zu (⟨a.2.2,w.zZm,(⟨w.zZl.zZ1,j,w.zZl.z0k,w.zZl.z0j,w.zZl.zZN,w.zZl.z0A,w.zZl.z0F⟩:z0f),w.zZE⟩:zZt)).bind fun r38=>if r38.zZl.z0k then if (!r38.zZl.z0j) then (zar r38.zZl.zZ1 r38.zZl.zZP).bind fun n=>if (n==[]) then (zar r38.zZl.zZ1 r38.zZl.zZP).bind fun g=>if (!(g==[])) then (zi i3 a.1).bind fun f=>F ({r38 with zZl:=(⟨r38.zZl.zZ1,r38.zZl.zZP,r38.zZl.z0k,true,r38.zZl.zZN,r38.zZl.z0A,r38.zZl.z0F⟩:z0f)}:zZt) f 0 else (zn r38.Gateway).bind fun m=>(zu (⟨m.2,r38.zZm,(⟨r38.zZl.zZ1,r38.zZl.zZP,r38.zZl.z0k,true,r38.zZl.zZN,r38.zZl.z0A,r38.zZl.z0F⟩:z0f),r38.zZE⟩:zZt)).bind fun i=>(zi i3 a.1).bind fun l=>F i l 0 else (zi i3 a.1).bind fun e=>if (decide ((0:Int)<a.1)) then F r38 e 0 else F r38 e 1 else (zi i3 a.1).bind fun d=>if (decide ((0:Int)<a.1)) then F r38 d 0 else F r38 d 1 else (zi i3 a.1).bind fun c=>if (decide ((0:Int)<a.1)) then F r38 c 0 else F r38 c 1
def zxc (F:zZt→Int→Int→Option (Int × Option zZt)) (w:zZt) (i3 i4:Int):Option (Int × Option zZt):=(zbk w.Gateway).bind fun n=>if n then some (i3,some w) else (zar w.zZl.zZ1 w.zZl.zZP).bind fun d=>(sTo d (min (w.zZl.zZ1.length:Int) (d.length:Int))).bind fun g=>(zr w.Gateway g).bind fun a=>(zi w.zZl.zZP a.1).bind fun k=>(zu (⟨a.2.2,w.zZm,(⟨w.zZl.zZ1,k,w.zZl.z0k,w.zZl.z0j,w.zZl.zZN,w.zZl.z0A,w.zZl.z0F⟩:z0f),w.zZE⟩:zZt)).bind fun r72=>if r72.zZl.z0k then if (!r72.zZl.z0j) then (zar r72.zZl.zZ1 r72.zZl.zZP).bind fun q=>if (q==[]) then (zar r72.zZl.zZ1 r72.zZl.zZP).bind fun l=>if (!(l==[])) then (zi i3 a.1).bind fun m=>(zi i4 1).bind fun s=>F ({r72 with zZl:=(⟨r72.zZl.zZ1,r72.zZl.zZP,r72.zZl.z0k,true,r72.zZl.zZN,r72.zZl.z0A,r72.zZl.z0F⟩:z0f)}:zZt) m 0 else (zn r72.Gateway).bind fun j=>(zu (⟨j.2,r72.zZm,(⟨r72.zZl.zZ1,r72.zZl.zZP,r72.zZl.z0k,true,r72.zZl.zZN,r72.zZl.z0A,r72.zZl.z0F⟩:z0f),r72.zZE⟩:zZt)).bind fun f=>(zi i3 a.1).bind fun h=>(zi i4 1).bind fun r=>F f h 0 else (zi i3 a.1).bind fun c=>(zi i4 1).bind fun p=>if (decide ((0:Int)<a.1)) then F r72 c 0 else F r72 c p else (zi i3 a.1).bind fun e=>(zi i4 1).bind fun o=>if (decide ((0:Int)<a.1)) then F r72 e 0 else F r72 e o else (zi i3 a.1).bind fun b=>(zi i4 1).bind fun i=>if (decide ((0:Int)<a.1)) then F r72 b 0 else F r72 b i
def zz6 (F:zZt→Int→Int→Option (Int × Option zZt)) (vp0:zZt) (i3 i4:Int):Option (Int × Option zZt):=(zbk vp0.Gateway).bind fun p=>if p then some (i3,some vp0) else (zar vp0.zZm.zZ1 vp0.zZm.zZP).bind fun l=>(sTo l (min (vp0.zZm.zZ1.length:Int) (l.length:Int))).bind fun n=>(zM vp0.Gateway n).bind fun a=>(zi vp0.zZm.zZP a.1).bind fun q=>(zu (⟨a.2.2,(⟨vp0.zZm.zZ1,q,vp0.zZm.z0k,vp0.zZm.z0j,vp0.zZm.zZN,vp0.zZm.z0A,vp0.zZm.z0F⟩:z0f),vp0.zZl,vp0.zZE⟩:zZt)).bind fun r7=>if r7.zZm.z0k then if (!r7.zZm.z0j) then (zar r7.zZm.zZ1 r7.zZm.zZP).bind fun r=>if (r==[]) then (zar r7.zZm.zZ1 r7.zZm.zZP).bind fun m=>if (!(m==[])) then (zi i3 a.1).bind fun g=>(zi i4 1).bind fun s=>zsF F ({r7 with zZm:=(⟨r7.zZm.zZ1,r7.zZm.zZP,r7.zZm.z0k,true,r7.zZm.zZN,r7.zZm.z0A,r7.zZm.z0F⟩:z0f)}:zZt) g else (zG r7.Gateway).bind fun k=>(zu (⟨k.2,(⟨r7.zZm.zZ1,r7.zZm.zZP,r7.zZm.z0k,true,r7.zZm.zZN,r7.zZm.z0A,r7.zZm.z0F⟩:z0f),r7.zZl,r7.zZE⟩:zZt)).bind fun f=>(zi i3 a.1).bind fun i=>(zi i4 1).bind fun o=>zsF F f i else (zi i3 a.1).bind fun e=>(zi i4 1).bind fun j=>if (decide ((0:Int)<a.1)) then zsF F r7 e else zxc F r7 e j else (zi i3 a.1).bind fun d=>(zi i4 1).bind fun h=>if (decide ((0:Int)<a.1)) then zsF F r7 d else zxc F r7 d h else (zi i3 a.1).bind fun b=>(zi i4 1).bind fun c=>if (decide ((0:Int)<a.1)) then zsF F r7 b else zxc F r7 b c
def zbq:Nat→zZt→Int→Int→Option (Int × Option zZt)
 | 0,_,_,_=>none
 | n+1,a,i3,i4=>if (decide (i4<2)) then zz6 (zbq n) a i3 i4 else some (i3,some a)
def zgl (a:Option zZt):Option (Int × Option zZt):=optK a (some (0,none)) fun b=>zbq fuel b 0 0
def zlE (a:Option zZt):Option (z0v × Option zZt):=optK a (some ((⟨[],[],0,0,(⟨0,0⟩:z0D),false⟩:z0v),none)) fun r1=>(zbk r1.Gateway).bind fun b=>some ((⟨r1.zZm.zZN,r1.zZl.zZN,r1.zZm.zZP,r1.zZl.zZP,r1.zZE,b⟩:z0v),some r1)
def zkf (b:List zZL) (a:Int):Nat→Option zZt→Int→Option (z0v × Int)
 | 0,_,_=>none
 | n+1,c,i20=>if (decide (i20<a)) then (lAt b i20).bind fun d=>(zft c d).bind fun e=>(zi i20 1).bind fun f=>zkf b a n e.2.2 f else (zgl c).bind fun g=>(zlE g.2).bind fun h=>some (h.1,0)
def zih (v1:zZV) (a:Option zZt) (i5:Int):Option (z0v × Int):=if (!(i5==0)) then some ((⟨[],[],0,0,(⟨0,0⟩:z0D),false⟩:z0v),i5) else zkf v1.Events (v1.Events.length:Int) fuel a 0
def zob (a:zZV):Option (z0v × Int):=(zdX a).bind fun b=>optK b.1 (zih a none b.2) fun c=>zih a (some c) b.2
def zhr (v8:z0v) (b:Bool) (a:Bool):Option (Bool × Int):=if b then if v8.Closed then some (true,0) else some (a,0) else some (false,0)
def zjn (v8:z0v) (v10:z0v) (a:Bool):Option (Bool × Int):=if (v8.Upstream==v10.Upstream) then if (v8.ReadClient==v10.ReadClient) then zhr v8 a (v8.ReadUpstream==v10.ReadUpstream) else zhr v8 a false else zhr v8 a false
def zeK (a:zZV) (e:List zZL) (d:List zZL):Option (Bool × Int):=(zpV a e).bind fun f=>(zob f).bind fun b=>if (!(b.2==0)) then some (false,b.2) else (zpV a d).bind fun g=>(zob g).bind fun c=>if (!(c.2==0)) then some (false,c.2) else if (b.1.Client==c.1.Client) then zjn b.1 c.1 (b.1.Closed==c.1.Closed) else zjn b.1 c.1 false
def zmL (c:zZV) (a:UInt8):Option Bool:=zJT.bind fun h=>if (!h) then some false else (zDV c).bind fun b=>(zlC b.1 1).bind fun g=>(zi 1 (a.toNat:Int)).bind fun i=>(zlC b.1 i).bind fun f=>(zeK b.1 g.1 f.1).bind fun e=>(zeK b.1 f.1 []).bind fun d=>if (!b.2) then if (!e.1) then if (!d.1) then if (!(e.2==0)) then some (!(d.2==0)) else some false else some false else some false else if (g.2==0) then if (f.2==0) then if (e.2==0) then if (d.2==0) then if e.1 then some d.1 else some false else some false else some false else some false else some false
end
end Go.Dm
