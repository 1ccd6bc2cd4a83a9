/-
 Walks by evaluation: what a function's code makes of abstract values. Over any program.
-/
import Derived.Test.YtkmnihnifdcigaaGreatDoorYMem
set_option linter.unusedVariables false
set_option linter.unusedSimpArgs false
namespace Go.Rk
open Go.RowKit Go.Dm Go.Dk

def y0:Unit:=()
def y1:=y0
def y2:=y1
def y3:=y2
def y4:=y3
def y5:=y4
def y6:=y5
def y7:=y6
def y8:=y7
def y9:=y8
def y10:=y9
def y11:=y10
def y12:=y11
def y13:=y12
def y14:=y13
def y15:=y14
def y16:=y15
def y17:=y16
def y18:=y17
def y19:=y18
def y20:=y19
def y21:=y20
def y22:=y21
def y23:=y22
def y24:=y23
def y25:=y24
def y26:=y25
def y27:=y26
def y28:=y27
def y29:=y28
def y30:=y29
def y31:=y30
def y32:=y31
def y33:=y32
def y34:=y33
def y35:=y34
def y36:=y35
def y37:=y36
def y38:=y37
def y39:=y38
def y40:=y39
def y41:=y40
def y42:=y41
def y43:=y42
def y44:=y43
def y45:=y44
def y46:=y45
def y47:=y46
def y48:=y47
def y49:=y48
def y50:=y49
def y51:=y50
def y52:=y51
def y53:=y52
def y54:=y53
def y55:=y54
def y56:=y55
def y57:=y56
def y58:=y57
def y59:=y58
def y60:=y59
def y61:=y60
def y62:=y61
def y63:=y62
def y64:=y63
def y65:=y64
def y66:=y65
def y67:=y66
def y68:=y67
def y69:=y68
def y70:=y69
def y71:=y70
def y72:=y71
def y73:=y72
def y74:=y73
def y75:=y74
def y76:=y75
def y77:=y76
def y78:=y77
def y79:=y78
def y80:=y79
def y81:=y80
def y82:=y81
def y83:=y82
def y84:=y83
def y85:=y84
def y86:=y85
def y87:=y86
def y88:=y87
def y89:=y88
def y90:=y89
def y91:=y90
def y92:=y91
def y93:=y92
def y94:=y93
def y95:=y94
def y96:=y95
def y97:=y96
def y98:=y97
def y99:=y98
def y100:=y99
def y101:=y100
def y102:=y101
def y103:=y102
def y104:=y103
def y105:=y104
def y106:=y105
def y107:=y106
def y108:=y107
def y109:=y108
def y110:=y109
def y111:=y110
def y112:=y111
def y113:=y112
def y114:=y113
def y115:=y114
def y116:=y115
def y117:=y116
def y118:=y117
def y119:=y118
def y120:=y119
def y121:=y120
def y122:=y121
def y123:=y122
def y124:=y123
def y125:=y124
def y126:=y125
def y127:=y126
def y128:=y127
def y129:=y128
def y130:=y129
def y131:=y130
def y132:=y131
def y133:=y132
def y134:=y133
def y135:=y134
def y136:=y135
def y137:=y136
def y138:=y137
def y139:=y138
def y140:=y139
def y141:=y140
def y142:=y141
def y143:=y142
def y144:=y143
def y145:=y144
def y146:=y145
def y147:=y146
def y148:=y147
def y149:=y148
def y150:=y149
abbrev bc {α:Sort _} (b:Bool) (x y:α):α:=match b with|true=>x|false=>y
def hi {α:Sort _} (x:α):α:=(fun _=>x) y150
structure Con (τ:Nat→Type) where
 ps:List Ty
 rs:List Ty
 nr:Nat
 bk:List Nat
 m:DP τ ps→Option (DP τ rs)
abbrev zx6 (τ:Nat→Type):=List (FuncId × Con τ)
structure Cx (τ:Nat→Type) where
 P:Program
 G:Sig τ
 ty:List (TypeId × Ty)
 cs:zx6 τ
 n:Nat
 fx:Nat→Value
def Cx.w {τ:Nat→Type} (X:Cx τ) (fx:Nat→Value):Cx τ:=⟨X.P,X.G,X.ty,X.cs,X.n,fx⟩
variable {τ:Nat→Type} {ρ:Type}
abbrev zE (τ:Nat→Type):=List (Nat × XV τ)
noncomputable section
def asc {α:Type} (l:List (Nat × α)) (t:Nat):Option α:=List.rec (motive:=fun _=>Option α) none (fun p _ ih=>Prod.rec (motive:=fun _=>Option α) (fun k v=>Bool.rec (motive:=fun _=>Option α) ih (some v) (Nat.beq k t)) p) l
theorem zdo {α:Type} (t:Nat):asc ([]:List (Nat × α)) t=none:=rfl
theorem zbX {α:Type} (k:Nat) (v:α) (l:List (Nat × α)) (t:Nat):asc ((k,v)::l) t=bif Nat.beq k t then some v else asc l t:=by
 show Bool.rec (motive:=fun _=>Option α) (asc l t) (some v) (Nat.beq k t)=_;cases Nat.beq k t<;>rfl
def anyR {α:Type} (l:List α) (f:α→Bool):Bool:=List.rec (motive:=fun _=>Bool) false (fun x _ ih=>Bool.rec (motive:=fun _=>Bool) ih true (f x)) l
theorem zJS {α:Type} (l:List α) (f:α→Bool):anyR l f=l.any f:=by
 induction l with
 | nil=>rfl
 | cons x l ih =>
  show Bool.rec (motive:=fun _=>Bool) (anyR l f) true (f x)=(f x||l.any f);rw [ih];cases f x<;>rfl
def zBf {α:Type} (l:List α) (f:α→Bool):Bool:=List.rec (motive:=fun _=>Bool) true (fun x _ ih=>Bool.rec (motive:=fun _=>Bool) false ih (f x)) l
theorem zy2 {α:Type} (l:List α) (f:α→Bool):zBf l f=l.all f:=by
 induction l with
 | nil=>rfl
 | cons x l ih =>
  show Bool.rec (motive:=fun _=>Bool) false (zBf l f) (f x)=(f x&&l.all f);rw [ih];cases f x<;>rfl
def mem (l:List Nat) (i:Nat):Bool:=List.rec (motive:=fun _=>Bool) false (fun x _ ih=>Bool.rec (motive:=fun _=>Bool) ih true (Nat.beq i x)) l
theorem ztx (l:List Nat) (i:Nat):mem l i=l.any (Nat.beq i):=zJS l (Nat.beq i)
theorem mem_cons (l:List Nat) (i j:Nat):mem (j::l) i=(Nat.beq i j||mem l i):=by rw [ztx,ztx]; rfl
def nod:List Nat→Bool
 | []=>true
 | i::l => !mem l i&&nod l
def zx7 (l m:List Nat):Bool:=zBf l fun i => !mem m i
theorem zzD (l m:List Nat):zx7 l m=l.all fun i => !mem m i:=zy2 _ _

def cvV:Value→Option (CV τ)
 | .bool b=>some (.k b)
 | .int .i64 n=>some (.i n)
 | .int .u8 (.ofNat n)=>bif Nat.blt n 256 then some (.u8 (UInt8.ofNat n)) else none
 | .int .u16 (.ofNat n)=>bif Nat.blt n 65536 then some (.u16 (UInt16.ofNat n)) else none
 | .string ⟨⟨l⟩⟩=>some (.s l)
 | .slice none 0 0=>some .n0
 | .pointer none=>some .nl
 | .nilFunc=>some .nf
 | .map none=>some .m0
 | _=>none
def cvVs:List Value→Option (List (CV τ))
 | []=>some []
 | v::vs=>match cvV v with
  | some c=>match cvVs vs with
   | some cs=>some (c::cs)
   | none=>none
  | none=>none
def gh:Nat:=9000
def gb:Nat:=40000
def glE (l:List (Nat × (t:Ty) × t.den τ)):zE τ:=l.map fun p=>(gb+p.1, .c (.ea p.2.1 p.2.2 0))
def evX (E:zE τ):Operand→Option (XV τ)
 | .tmp t=>bif Nat.blt t gh then asc E t else none
 | .const v=>match cvV v with
  | some c=>some (.c c)
  | none=>none
 | .func f=>some (.c (.fn f))
 | .global g=>asc E (gb+g)
def evC (E:zE τ) (x:Operand):Option (CV τ):=match evX E x with
 | some (.c c)=>some c
 | _=>none
def zMW:CV τ→Option Bool
 | .b x=>some x
 | .k x=>some x
 | _=>none
def zuy (E:zE τ):List Operand→Option (List (XV τ))
 | []=>some []
 | x::xs=>match evX E x with
  | some v=>match zuy E xs with
   | some vs=>some (v::vs)
   | none=>none
  | none=>none

def ziy {α:Type}:List α→Nat→Option α
 | [],_=>none
 | x::_,0=>some x
 | _::l,n+1=>ziy l n
def zuz {α:Type} (l:List α):Nat→Nat→Option (List α)
 | _,0=>some []
 | o,n+1=>match ziy l o with
  | some v=>match zuz l (o+1) n with
   | some r=>some (v::r)
   | none=>none
  | none=>none
abbrev Rs (α:Type):=Option (α × List Nat × List Nat)
def zH8 (f:(t:Ty)→CV τ→Rs (t.den τ)):(ts:List Ty)→List (CV τ)→Rs (DP τ ts)
 | [],[]=>some ((),[],[])
 | t::ts,c::cs=>match f t c with
  | some (x,l,m)=>match zH8 f ts cs with
   | some (p,l',m')=>some (.mk x p,l++l',m++m')
   | none=>none
  | none=>none
 | _,_=>none
def zw0 (f:(t:Ty)→CV τ→Option (t.den τ × List Nat)):(ts:List Ty)→List (CV τ)→Option (DP τ ts × List Nat)
 | [],[]=>some ((),[])
 | t::ts,c::cs=>match f t c with
  | some (x,m)=>match zw0 f ts cs with
   | some (p,m')=>some (.mk x p,m++m')
   | none=>none
  | none=>none
 | _,_=>none
def zDB (L:Hp τ) (e:Ty):CV τ→Option (List (e.den τ) × List Nat)
 | .sl _ xs=>match zmv (t':=e) xs with
  | some x=>some (x,[])
  | none=>none
 | .n0=>some ([],[])
 | .os id=>match lk L id with
  | .row _ _ xs _=>match zmv (t':=e) xs with
   | some x=>some (x,[id])
   | none=>none
  | .fz _ xs=>match zmv (t':=e) xs with
   | some x=>some (x,[id])
   | none=>none
  | .vw i k _ _ xs=>match lk L i with
   | .row _ _ _ k'=>bif Nat.beq k k' then (match zmv (t':=e) xs with
    | some x=>some (x,[id,i])
    | none=>none) else none
   | _=>none
  | _=>none
 | _=>none
def eaO (n o:Nat):(t:Ty)→t.den τ→Option (τ n)
 | .st _,z=>bif Nat.beq o 0 then zNm z else none
 | _,_=>none
def lokP (f:(t:Ty)→CV τ→Option (t.den τ × List Nat)) (G:Sig τ) (L:Hp τ) (n:Nat):CV τ→Option (τ n × List Nat)
 | .ea t z o=>match eaO n o t z with
  | some x=>some (x,[])
  | none=>match zuz (zw5 G t z) o (G.fs n).length with
   | some cs=>match zw0 f (G.fs n) cs with
    | some (p,m)=>some (G.ctor n p,m)
    | none=>none
   | none=>none
 | .pt id o=>match lk L id with
  | .blk _ cs=>match zuz cs o (G.fs n).length with
   | some cs=>match zw0 f (G.fs n) cs with
    | some (p,m)=>some (G.ctor n p,id::m)
    | none=>none
   | none=>none
  | _=>none
 | _=>none
def lokT (L:Hp τ) (n:Nat):CV τ→Option (Option (τ n) × List Nat)
 | .pt id 0=>match lk L id with
  | .tree _ y=>match zGd (m:=n) y with
   | some x=>some (x,[id])
   | none=>none
  | .nilp=>some (none,[id])
  | _=>none
 | _=>none
def lok (G:Sig τ) (L:Hp τ):Nat→(t:Ty)→CV τ→Option (t.den τ × List Nat)
 | 0,_,_=>none
 | d + 1,t,c=>match t with
  | .bool=>match c with
   | .b x=>some (x,[])
   | .k x=>some (x,[])
   | _=>none
  | .int=>match c with
   | .i x=>some (x,[])
   | _=>none
  | .u8=>match c with
   | .u8 x=>some (x,[])
   | _=>none
  | .u16=>match c with
   | .u16 x=>some (x,[])
   | _=>none
  | .str=>match c with
   | .s x=>some (x,[])
   | _=>none
  | .fn=>match c with
   | .fm x=>some (x,[])
   | .fn f=>match asc G.fp f with
    | some m=>some (m,[])
    | none=>none
   | _=>none
  | .nil=>match c with
   | .nl=>some ((),[])
   | _=>none
  | .fc f=>match c with
   | .fn g=>bif Nat.beq g f then some ((),[]) else none
   | _=>none
  | .mv f=>match c with
   | .mf g=>bif Nat.beq g f then some ((),[]) else none
   | .mv g _=>bif Nat.beq g f then some ((),[]) else none
   | _=>none
  | .cl f t'=>match c with
   | .cl g _ y=>bif Nat.beq g f then (match zzU (t':=t') y with
    | some x=>some (x,[])
    | none=>none) else none
   | .cf id=>match lk L id with
    | .clo g [] [c']=>bif Nat.beq g f then (match lok G L d t' c' with
     | some (x,m)=>some (x,id::m)
     | none=>none) else none
    | _=>none
   | _=>none
  | .sl e=>zDB L e c
  | .so _ e=>zDB L e c
  | .pt n=>lokP (lok G L d) G L n c
  | .po n=>lokP (lok G L d) G L n c
  | .pn n=>match c with
   | .nl=>some (none,[])
   | .ep _ x=>match zGd (m:=n) x with
    | some x=>some (x,[])
    | none=>none
   | c=>match lokT L n c with
    | some r=>some r
    | none=>match lokP (lok G L d) G L n c with
     | some (x,m)=>some (some x,m)
     | none=>none
  | _=>none
def okM (i:Nat):List Ty→List (CV τ)→Bool
 | t::ts,c::cs=>(match t with
  | .mv f=>(match c with
   | .mv g j=>Nat.beq g f&&Nat.beq i j
   | _=>false)
  | _=>true)&&okM i ts cs
 | _,_=>true
def noM:List Ty→Bool
 | []=>true
 | t::ts=>(match t with
  | .mv _=>false
  | _=>true)&&noM ts
def okN (ts:List Ty) (cs:List (CV τ)):Bool:=match cs with
 | .pt i .zero::_=>okM i ts cs
 | _=>noM ts
def fixM (i:Nat):List Ty→List (CV τ)→List (CV τ)
 | t::ts,c::cs=>(match t with
  | .mv f => .mv f i
  | _=>c)::fixM i ts cs
 | _,cs=>cs
def zH9 (ts:List Ty) (cs:List (CV τ)):List (CV τ):=match cs with
 | .pt i .zero::_=>bif noM ts then cs else fixM i ts cs
 | cs=>cs
def resP (f:(t:Ty)→CV τ→Rs (t.den τ)) (G:Sig τ) (L:Hp τ) (n id:Nat):Rs (τ n):=match lk L id with
 | .blk t cs=>bif Nat.beq t (G.ti n)&&okN (G.fs n) cs then (match zH8 f (G.fs n) cs with
  | some (p,l,m)=>some (G.ctor n p,id::l,m)
  | none=>none) else none
 | _=>none
def res (G:Sig τ) (L:Hp τ):Nat→(t:Ty)→CV τ→Rs (t.den τ)
 | 0,_,_=>none
 | d + 1,t,c=>match t with
  | .so te e=>match c with
   | .n0=>some ([],[],[])
   | .os id=>match lk L id with
    | .row te' _ xs _=>bif Nat.beq te te' then (match zmv (t':=e) xs with
     | some x=>some (x,[id],[])
     | none=>none) else none
    | .vw i kk _ lo xs=>match lk L i with
     | .row te' _ _ k2=>bif Nat.beq te te'&&(Nat.beq kk k2&&(Nat.beq lo 0||G.dr te)) then (match zmv (t':=e) xs with
      | some x=>some (x,[id,i],[])
      | none=>none) else none
     | _=>none
    | _=>none
   | _=>none
  | .po n=>match c with
   | .pt id 0=>resP (res G L d) G L n id
   | _=>none
  | .pn n=>match c with
   | .nl=>some (none,[],[])
   | .pt id 0=>match lk L id with
    | .tree _ x=>match zGd (m:=n) x with
     | some x=>some (x,[id],[])
     | none=>none
    | .nilp=>some (none,[id],[])
    | _=>match resP (res G L d) G L n id with
     | some (x,l,m)=>some (some x,l,m)
     | none=>none
   | _=>none
  | t=>match lok G L (d+1) t c with
   | some (x,m)=>some (x,[],m)
   | none=>none
def depth:Nat:=8
def resX (G:Sig τ) (L:Hp τ):(t:Ty)→XV τ→Rs (t.den τ)
 | .st n, .g cs=>match zH8 (res G L depth) (G.fs n) cs with
  | some (p,l,m)=>some (G.ctor n p,l,m)
  | none=>none
 | .sn te e, .c c=>match c with
  | .n0=>some (none,[],[])
  | c=>match res G L depth (.so te e) c with
   | some (x,l,m)=>some (some x,l,m)
   | none=>none
 | t, .c c=>res G L depth t c
 | .pr a b, .gv _ x=>match zzU (t' := .pr a b) x with
  | some x=>some (x,[],[])
  | none=>none
 | _,_=>none
def zsc (G:Sig τ) (L:Hp τ):(ts:List Ty)→List (XV τ)→Rs (DP τ ts)
 | [],[]=>some ((),[],[])
 | t::ts,c::cs=>match resX G L t c with
  | some (x,l,m)=>match zsc G L ts cs with
   | some (p,l',m')=>some (.mk x p,l++l',m++m')
   | none=>none
  | none=>none
 | _,_=>none
def zBg (f:(t:Ty)→t.den τ→Nat→CV τ × Hp τ × Nat):(ts:List Ty)→DP τ ts→Nat→List (CV τ) × Hp τ × Nat
 | [],_,nid=>([],[],nid)
 | t::ts,p,nid=>match f t p.hd nid with
  | (c,U,nid)=>match zBg f ts p.tl nid with
   | (cs,U',nid)=>(c::cs,U++U',nid)
def zsd (G:Sig τ):Nat→(t:Ty)→t.den τ→Nat→CV τ × Hp τ × Nat
 | d+1, .po n,x,nid=>match zBg (zsd G d) (G.fs n) (G.dtor n x) (nid+1) with
  | (cs,U,nid')=>(.pt nid 0,(nid, .blk (G.ti n) (zH9 (G.fs n) cs))::U,nid')
 | 0, .po n,x,nid=>(.pt nid 0,[(nid, .tree n (some x))],nid+1)
 | _, .so te e,x,nid=>(.os nid,[(nid, .row te e x nid)],nid+1)
 | _, .pn n,x,nid=>(.pt nid 0,[(nid, .tree n x)],nid+1)
 | _,t,x,nid=>(t.av x,[],nid)
def zks (G:Sig τ) (i n:Nat) (x:τ n) (nid:Nat):Hp τ × Nat:=match zBg (zsd G depth) (G.fs n) (G.dtor n x) nid with
 | (cs,U,nid')=>((i, .blk (G.ti n) (zH9 (G.fs n) cs))::U,nid')
def zIa (G:Sig τ) (t:Ty) (x:t.den τ) (nid:Nat):XV τ × Hp τ × Nat:=match zsd G depth t x nid with
 | (c,U,nid)=>(.c c,U,nid)
def zIb (G:Sig τ) (n:Nat) (x:τ n) (nid:Nat):XV τ × Hp τ × Nat:=match zBg (zsd G depth) (G.fs n) (G.dtor n x) nid with
 | (cs,U,nid)=>(.g cs,U,nid)
def zIc (G:Sig τ):(t:Ty)→t.den τ→Nat→XV τ × Hp τ × Nat
 | .st n,x,nid=>zIb G n x nid
 | .pr a b,x,nid=>(.gv (.pr a b) x,[],nid)
 | .sn te e,x,nid=>(.gv (.sn te e) x,[],nid)
 | t,x,nid=>zIa G t x nid
def freeze (L:Hp τ):List Nat→Option (Hp τ)
 | []=>some []
 | i::is=>match freeze L is with
  | some U=>match lk L i with
   | .row _ e xs _=>some ((i, .fz e xs)::U)
   | .fz e xs=>some ((i, .fz e xs)::U)
   | .vw j k e _ xs=>match lk L j with
    | .row _ _ _ k'=>bif mem is j&&Nat.beq k k' then some ((i, .fz e xs)::U) else none
    | _=>none
   | _=>none
  | none=>none

def zvF {α:Type}:List α→Nat→List α→Option (List α)
 | cs,0,vs=>go cs vs
 | c::cs,o+1,vs=>match zvF cs o vs with
  | some r=>some (c::r)
  | none=>none
 | [],_+1,_=>none
where go:List α→List α→Option (List α)
 | cs,[]=>some cs
 | _::cs,v::vs=>match go cs vs with
  | some r=>some (v::r)
  | none=>none
 | [],_::_=>none
def isA (P:Program) (t:TypeId):Option Bool:=match P.underlying t with
 | some (.struct _)=>some true
 | some (.array _ _)=>some true
 | some _=>some false
 | none=>none
def szO (P:Program) (t:TypeId):Option Nat:=match P.info? t with
 | some i=>some i.size
 | none=>none
def elO (P:Program) (t:TypeId):Option TypeId:=match P.underlying t with
 | some (.slice e)=>some e
 | _=>none
def zF3 (P:Program) (t:TypeId) (i:Nat):Option (Nat × TypeId):=match P.underlying t with
 | some (.struct ⟨fs⟩)=>match ziy fs i with
  | some f=>match szO P f.type with
   | some (_+1)=>some (f.offset,f.type)
   | _=>none
  | none=>none
 | _=>none
def zzE (P:Program) (t:TypeId):Option (List (CV τ)):=match P.info? t with
 | some i=>match i.zero with
  | some v=>cvVs v.cells.toList
  | none=>none
 | none=>none
def zse:XV τ→Option (List (CV τ))
 | .c c=>some [c]
 | .g l=>some l
 | _=>none
def cmpI (o:BinOp) (m n:Int):Option Bool:=match o with
 | .eql=>some (m==n)
 | .neq=>some (!(m==n))
 | .lss=>some (decide (m<n))
 | .leq=>some (decide (m≤n))
 | .gtr=>some (decide (n<m))
 | .geq=>some (decide (n≤m))
 | _=>none
def cmpB (o:BinOp) (m n:UInt8):Option Bool:=match o with
 | .eql=>some (m==n)
 | .neq=>some (!(m==n))
 | .lss=>some (decide (m<n))
 | .leq=>some (decide (m≤n))
 | .gtr=>some (decide (n<m))
 | .geq=>some (decide (n≤m))
 | _=>none
def cmpS (o:BinOp) (l m:Str):Option Bool:=match o with
 | .eql=>some (l==m)
 | .neq=>some (!(l==m))
 | .lss=>some (ziW l m)
 | .leq=>some (ziW l m||l==m)
 | .gtr=>some (!(ziW l m||l==m))
 | .geq=>some (!(ziW l m))
 | _=>none
def eqO (o:BinOp) (b:Bool):Option Bool:=match o with
 | .eql=>some b
 | .neq=>some (!b)
 | _=>none
def adC:CV τ→Bool
 | .ea _ _ _=>true
 | .oe _ _ _ _ _ _=>true
 | _=>false
def obX:Option Bool→Option (XV τ)
 | some x=>some (.c (.b x))
 | none=>none
def okX:Option Bool→Option (XV τ)
 | some x=>some (.c (.k x))
 | none=>none
def zhn:Ty→Bool
 | .bool=>true
 | .int=>true
 | .u8=>true
 | .u16=>true
 | .str=>true
 | _=>false
def binX (X:Cx τ) (o:BinOp) (t:TypeId):XV τ→XV τ→Option (XV τ)
 | .c (.i m), .c (.i n)=>obX (cmpI o m n)
 | .c (.u8 m), .c (.u8 n)=>match o with
  | .add=>some (.c (.u8 (m+n)))
  | .sub=>some (.c (.u8 (m-n)))
  | _=>obX (cmpB o m n)
 | .c (.u16 m), .c (.u16 n)=>match o with
  | .eql=>some (.c (.b (m==n)))
  | .neq=>some (.c (.b (!(m==n))))
  | _=>none
 | .c (.s l), .c (.s m)=>obX (cmpS o l m)
 | .c .nl, .c .nl=>match X.P.underlying t with
  | some (.pointer _)=>okX (eqO o true)
  | _=>none
 | .c c, .c .nl=>match X.P.underlying t with
  | some (.pointer _)=>bif adC c then okX (eqO o false) else none
  | _=>none
 | .c c, .c d=>match zMW c with
  | some x=>match zMW d with
   | some y=>match X.P.underlying t with
    | some .bool=>obX (eqO o (x==y))
    | _=>none
   | none=>none
  | none=>none
 | .g l, .g m=>match asc X.ty t with
  | some (.st n)=>bif (X.G.fs n).all zhn then match zw0 (lok X.G [] depth) (X.G.fs n) l with
   | some (p,[])=>match zw0 (lok X.G [] depth) (X.G.fs n) m with
    | some (q,[])=>obX (eqO o (X.G.eq n (X.G.ctor n p) (X.G.ctor n q)))
    | _=>none
   | _=>none
   else none
  | _=>none
 | _,_=>none
def zMZ (P:Program) (s d:TypeId):CV τ→Option (XV τ)
 | .u8 x=>match P.underlying d with
  | some (.int .i64)=>match P.underlying s with
   | some (.int .u8)=>some (.c (.i (x.toNat:Int)))
   | _=>none
  | _=>none
 | .u16 x=>match P.underlying d with
  | some (.int .i64)=>match P.underlying s with
   | some (.int .u16)=>some (.c (.i (x.toNat:Int)))
   | _=>none
  | _=>none
 | .i x=>match P.underlying d with
  | some (.int .u8)=>match P.underlying s with
   | some (.int .i64)=>some (.c (.u8 (zJX x)))
   | _=>none
  | _=>none
 | .s l=>match P.underlying d with
  | some .string=>match P.underlying s with
   | some .string=>some (.c (.s l))
   | _=>none
  | _=>none
 | .sl .u8 l=>match P.underlying d with
  | some .string=>match P.underlying s with
   | some (.slice e)=>match P.underlying e with
    | some (.int .u8)=>some (.c (.s l))
    | _=>none
   | _=>none
  | _=>none
 | _=>none
def zy3 (P:Program):List Field→Option (List (Nat × Nat))
 | []=>some []
 | f::fs=>match szO P f.type with
  | some s=>match zy3 P fs with
   | some r=>some ((f.offset,s)::r)
   | none=>none
  | none=>none
def zId (P:Program) (t:TypeId):Option (Nat→Option (Nat × Nat)):=match P.underlying t with
 | some (.array _ e)=>match szO P e with
  | some s=>some fun i=>some (i*s,s)
  | none=>none
 | some (.struct ⟨fs⟩)=>match zy3 P fs with
  | some l=>some (ziy l)
  | none=>none
 | _=>none
def zzF (pl:Nat→Option (Nat × Nat)) (E:zE τ):List (Nat × Operand)→List (CV τ)→Option (List (CV τ))
 | [],cs=>some cs
 | (i,x)::ps,cs=>match pl i with
  | some (o,s)=>match evX E x with
   | some v=>match zse v with
    | some vs=>bif Nat.beq vs.length s then (match zvF cs o vs with
      | some cs=>zzF pl E ps cs
      | none=>none) else none
    | none=>none
   | none=>none
  | none=>none
def opP (X:Cx τ) (E:zE τ):Op→Option (XV τ)
 | .move x=>evX E x
 | .assign x=>evX E x
 | .pick c x y=>match evC E c with
  | some (.k true)=>evX E x
  | some (.k false)=>evX E y
  | _=>none
 | .unOp .not _ x=>match evC E x with
  | some (.b z)=>some (.c (.b (!z)))
  | some (.k z)=>some (.c (.k (!z)))
  | _=>none
 | .extract x i=>match evX E x with
  | some (.t l)=>match ziy l i with
   | some (false,[c])=>some (.c c)
   | some (true,cs)=>some (.g cs)
   | _=>none
  | _=>none
 | .nilCheck x=>match evC E x with
  | some c=>bif adC c then some (.c c) else none
  | none=>none
 | .fieldAddr t x i=>match zF3 X.P t i with
  | some (f,_)=>match evC E x with
   | some (.ea t z o)=>some (.c (.ea t z (o+f)))
   | some (.oe id k m t z o)=>some (.c (.oe id k m t z (o+f)))
   | _=>none
  | none=>none
 | .field t x i=>match zF3 X.P t i with
  | some (f,ft)=>match evX E x with
   | some (.g cs)=>match isA X.P ft with
    | some true=>match szO X.P ft with
     | some s=>match zuz cs f s with
      | some l=>some (.g l)
      | none=>none
     | none=>none
    | some false=>match ziy cs f with
     | some c=>some (.c c)
     | none=>none
    | none=>none
   | _=>none
  | none=>none
 | .binOp o t x y _=>match evX E x with
  | some a=>match evX E y with
   | some b=>binX X o t a b
   | none=>none
  | none=>none
 | .convert s d x=>match evC E x with
  | some c=>zMZ X.P s d c
  | none=>none
 | .build t ⟨ps⟩=>match zzE X.P t with
  | some z=>match zId X.P t with
   | some pl=>match zzF pl E ps z with
    | some cs=>some (.g cs)
    | none=>none
   | none=>none
  | none=>none
 | .call ⟨.builtin .len,⟨[x]⟩,⟨[t]⟩⟩=>match evC E x with
  | some (.s l)=>match X.P.underlying t with
   | some .string=>some (.c (.i (l.length:Int)))
   | _=>none
  | some (.sl _ l)=>match X.P.underlying t with
   | some (.slice _)=>some (.c (.i (l.length:Int)))
   | _=>none
  | some .n0=>match X.P.underlying t with
   | some (.slice _)=>some (.c (.i 0))
   | _=>none
  | _=>none
 | .call ⟨.builtin .min,⟨[x,y]⟩,⟨[_,_]⟩⟩=>match evC E x with
  | some (.i m)=>match evC E y with
   | some (.i n)=>some (.c (.i (min m n)))
   | _=>none
  | _=>none
 | .call ⟨.builtin .max,⟨[x,y]⟩,⟨[_,_]⟩⟩=>match evC E x with
  | some (.i m)=>match evC E y with
   | some (.i n)=>some (.c (.i (max m n)))
   | _=>none
  | _=>none
 | _=>none

abbrev Nx (τ:Nat→Type) (ρ:Type):=XV τ→List (XV τ)→Hp τ→List Nat→Nat→Option ρ
def fitO (P:Program) (n m:Nat) (e:TypeId):Bool:=match P.info? e with
 | some i=>ze n m i.bytes
 | none=>false
def bytO (P:Program) (e:TypeId):Bool:=match P.info? e with
 | some i=>match i.zero with
  | some (.int .u8 (.ofNat 0))=>Nat.beq i.size 1&&Nat.beq i.bytes 1
  | _=>false
 | none=>false
def rowO (L:Hp τ) (e:Ty):CV τ→Option (List (e.den τ) × List Nat)
 | .sl _ xs=>match zmv (t':=e) xs with
  | some x=>some (x,[])
  | none=>none
 | .n0=>some ([],[])
 | .os id=>match lk L id with
  | .row _ _ xs _=>match zmv (t':=e) xs with
   | some x=>some (x,[id])
   | none=>none
  | .fz _ xs=>match zmv (t':=e) xs with
   | some x=>some (x,[id])
   | none=>none
  | .vw i k _ _ xs=>match lk L i with
   | .row _ _ _ k'=>bif Nat.beq k k' then (match zmv (t':=e) xs with
    | some x=>some (x,[id,i])
    | none=>none) else none
   | _=>none
  | _=>none
 | _=>none
def zIe (L:Hp τ):CV τ→Option ((e:Ty) × List (e.den τ) × Hp τ × List Nat)
 | .sl e xs=>some ⟨e,xs,[],[]⟩
 | .os id=>match lk L id with
  | .row _ e xs _=>some ⟨e,xs,[(id, .fz e xs)],[id]⟩
  | .fz e xs=>some ⟨e,xs,[],[id]⟩
  | _=>none
 | _=>none
def opI (nid:Nat) (K:Nx τ ρ) (o:BinOp) (a b:XV τ):Option ρ:=hi <| match o,a,b with
 | .add, .c (.i m), .c (.i n)=>(zd m n).bind fun r=>K (.c (.i r)) [] [] [] nid
 | .sub, .c (.i m), .c (.i n)=>(za3 m n).bind fun r=>K (.c (.i r)) [] [] [] nid
 | .mul, .c (.i m), .c (.i n)=>(zIj m n).bind fun r=>K (.c (.i r)) [] [] [] nid
 | .quo, .c (.i m), .c (.i n)=>(zDI m n).bind fun r=>K (.c (.i r)) [] [] [] nid
 | .rem, .c (.i m), .c (.i n)=>(zBj m n).bind fun r=>K (.c (.i r)) [] [] [] nid
 | .add, .c (.s l), .c (.s m)=>(zb1 l m).bind fun r=>K (.c (.s r)) [] [] [] nid
 | _,_,_=>none
def rowA (L:Hp τ) (te:TypeId) (e:Ty):CV τ→Option (List (e.den τ) × Hp τ × List Nat)
 | .n0=>some ([],[],[])
 | .os id=>match lk L id with
  | .row te' _ xs _=>bif Nat.beq te te' then (match zmv (t':=e) xs with
   | some xs=>some (xs,[(id, .gone)],[id])
   | none=>none) else none
  | _=>none
 | _=>none
def zF4 (P:Program) (t:TypeId):Option (List (CV τ))→Option (XV τ)
 | some l=>match isA P t with
  | some true=>some (.g l)
  | some false=>match l with
   | [c]=>some (.c c)
   | _=>none
  | none=>none
 | none=>none
def lokX (G:Sig τ) (L:Hp τ):(t:Ty)→XV τ→Option (t.den τ × List Nat)
 | .st n, .g cs=>match zw0 (lok G L depth) (G.fs n) cs with
  | some (p,m)=>some (G.ctor n p,m)
  | none=>none
 | t, .c c=>lok G L depth t c
 | _,_=>none
def zF5 (X:Cx τ) (L:Hp τ) (E:zE τ) (e:Ty):Nat→List (Nat × Operand)→Option (List (e.den τ) × List Nat)
 | _,[]=>some ([],[])
 | k,(i,x)::ps=>bif Nat.beq i k then (match evX E x with
  | some v=>match lokX X.G L e v with
   | some (x,m)=>match zF5 X L E e (k+1) ps with
    | some (xs,m')=>some (x::xs,m++m')
    | none=>none
   | none=>none
  | none=>none) else none
def zmu (G:Sig τ):Nat→Ty→Bool
 | d+1,t=>match t with
  | .bool=>false
  | .int=>false
  | .u8=>false
  | .u16=>false
  | .str=>false
  | .nil=>false
  | .fc _=>false
  | .mv _=>false
  | .fn=>false
  | .so _ e => !((ets G e).all zhn)
  | .sn _ e => !((ets G e).all zhn)
  | .st n=>(G.fs n).any (zmu G d)
  | .po n=>(G.fs n).any (zmu G d)
  | .pn n=>(G.fs n).any (zmu G d)
  | _=>true
 | _,_=>true
abbrev optK {α:Type} {β:Sort _} (o:Option α) (k0:β) (k1:α→β):β:=match o with|none=>k0|some x=>k1 x
def resH (G:Sig τ):Option (Option Nat)→(t:Ty)→t.den τ→Nat→(Option (XV τ)→Hp τ→Nat→Option ρ)→Option ρ
 | some (some i), .po n,x,nid,k=>match zks G i n x nid with
  | (U,nid)=>k none U nid
 | some (some i), .pn n,x,nid,k=>k none [(i, .tree n x)] nid
 | some (some i), .so te e,x,nid,k=>k none [(i, .row te e x nid)] (nid+1)
 | some none, .pn _,_,nid,k=>k none [] nid
 | some none, .nil,_,nid,k=>k none [] nid
 | none, .pn n,x,nid,k=>optK (α:=τ n) x (k (some (.c .nl)) [] nid) fun x=>match zks G nid n x (nid+1) with
  | (U,nid')=>k (some (.c (.pt nid 0))) U nid'
 | none, .sn te e,x,nid,k=>optK (α:=List (e.den τ)) x (k (some (.c .n0)) [] nid) fun x=>k (some (.c (.os nid))) [(nid, .row te e x nid)] (nid+1)
 | none,t,x,nid,k=>match zIc G t x nid with
  | (v,U,nid)=>k (some v) U nid
 | _,_,_,_,_=>hi none
def consO (v:Option (XV τ)) (l:List (XV τ)):List (XV τ):=match v with
 | some v=>v::l
 | none=>l
def resK (G:Sig τ):List (Option (Option Nat))→(ts:List Ty)→DP τ ts→Nat→(List (XV τ)→Hp τ→Nat→Option ρ)→Option ρ
 | _,[],_,nid,K=>hi <| K [] [] nid
 | a::rs,t::ts,p,nid,K=>resH G a t p.hd nid fun v U nid=>resK G rs ts p.tl nid fun l U' nid=>K (consO v l) (U++U') nid
 | [],_::_,_,_,_=>none
def zBh:List (XV τ)→Option (XV τ)
 | [v]=>some v
 | []=>some (.t [])
 | vs=>match go vs with
  | some l=>some (.t l)
  | none=>none
where go:List (XV τ)→Option (List (Bool × List (CV τ)))
 | []=>some []
 | .c c::vs=>match go vs with
  | some l=>some ((false,[c])::l)
  | none=>none
 | .g cs::vs=>match go vs with
  | some l=>some ((true,cs)::l)
  | none=>none
 | _::_=>none
def zM0 (v:XV τ):Nat→Option (CV τ)
 | 0=>match v with
  | .c c=>some c
  | _=>none
 | i+1=>match v with
  | .g cs=>ziy cs i
  | _=>none
def roots (avs:List (XV τ)):List Nat→Option (List (Option (Option Nat)))
 | []=>some []
 | j::js=>match roots avs js with
  | some rs=>match ziy avs (j%32) with
   | some v=>match zM0 v (j/32) with
    | some (.pt id 0)=>some (some (some id)::rs)
    | some (.os id)=>some (some (some id)::rs)
    | some .nl=>some (some none::rs)
    | _=>none
   | none=>none
  | none=>none
def zzG:Nat→List (Option (Option Nat))→List (Option (Option Nat))
 | 0,rs=>rs
 | n+1,rs=>none::zzG n rs
def zvG:List (Option (Option Nat))→List Nat
 | []=>[]
 | some (some i)::rs=>i::zvG rs
 | _::rs=>zvG rs
def zoA (l:List Nat):Hp τ:=l.map fun i=>(i, .gone)
def znw (X:Cx τ) (L:Hp τ) (nid:Nat) (K:Nx τ ρ) (f:FuncId) (avs:List (XV τ)):zx6 τ→Option ρ
 | []=>hi none
 | (g,k)::cs=>bc (Nat.beq g f) (match zsc X.G L k.ps avs with
 | some (p,l,m)=>bc (nod l&&zx7 l m)
   (match (bif k.rs.any (zmu X.G depth) then freeze L m else some []) with
   | some Z=>match roots avs k.bk with
    | some rs=>bc (nod (zvG rs)&&(zvG rs).all (mem l)) ((k.m p).bind fun r=>resK X.G (zzG k.nr rs) k.rs r nid fun vs U nid'=>match zBh vs with
     | some v=>K v [.gv (prT k.rs) (DP.pr k.rs r)] (U++(zoA l++Z)) (l++m) nid'
     | none=>none) none
    | none=>none
   | none=>none)
   (znw X L nid K f avs cs)
 | none=>znw X L nid K f avs cs) (znw X L nid K f avs cs)
def ptK (X:Cx τ) (L:Hp τ) (nid i:Nat) (k:Hp τ→List Nat→Nat→Option ρ):Option ρ:=match lk L i with
 | .blk _ _=>k [] [i] nid
 | .tree n y=>(show Option (τ n) from y).bind fun y=>match zks X.G i n y nid with
  | (U,nid)=>k U [i] nid
 | _=>hi none
def nlK (X:Cx τ) (L:Hp τ) (nid i:Nat) (k:Bool→Hp τ→List Nat→Nat→Option ρ):Option ρ:=match lk L i with
 | .blk _ _=>k false [] [i] nid
 | .tree n y=>optK (α:=τ n) y (k true [(i, .nilp)] [i] nid) fun y=>match zks X.G i n y nid with
  | (U,nid)=>k false U [i] nid
 | .nilp=>k true [] [i] nid
 | _=>hi none
def zM1 (X:Cx τ) (L:Hp τ) (nid:Nat) (K:Nx τ ρ) (t:TypeId):CV τ→Option ρ
 | .pt id o=>match lk L id with
  | .blk _ cs=>match szO X.P t with
   | some n=>match zF4 X.P t (zuz cs o n) with
    | some (.c (.pt j .zero))=>bc (Nat.beq j id) none (nlK X L nid j fun b U l nid=>bc b (K (.c .nl) [] U (id::l) nid) (K (.c (.pt j 0)) [] U (id::l) nid))
    | some v=>K v [] [] [id] nid
    | none=>none
   | none=>none
  | _=>none
 | .ea ty z o=>match szO X.P t with
  | some n=>match zF4 X.P t (zuz (zw5 X.G ty z) o n) with
   | some (.c (.ep n x))=>optK (α:=τ n) x (K (.c .nl) [] [] [] nid) fun x=>K (.c (.ea (.st n) x 0)) [] [] [] nid
   | some v=>K v [] [] [] nid
   | none=>none
  | none=>none
 | .oe id k _ ty z o=>match lk L id with
  | .row _ _ _ k'=>bc (Nat.beq k k') (match szO X.P t with
   | some n=>match zF4 X.P t (zuz (zw5 X.G ty z) o n) with
    | some v=>K v [] [] [id] nid
    | none=>none
   | none=>none) none
  | _=>none
 | _=>hi none
def zM2 (X:Cx τ) (L:Hp τ) (nid:Nat) (K:Nx τ ρ) (t:TypeId) (vs:List (CV τ)):CV τ→Option ρ
 | .pt id o=>match lk L id with
  | .blk bt cs=>match zvF cs o vs with
   | some cs=>K .un [] [(id, .blk bt cs)] [id] nid
   | none=>none
  | _=>none
 | .oe id k m ty z o=>match lk L id with
  | .row te e xs k'=>bc (Nat.beq k k') (match zvF (zw5 X.G ty z) o vs with
   | some cs=>match zw0 (lok X.G L depth) (ets X.G ty) cs with
    | some (p,ids)=>match zzU (t':=e) (ect X.G ty p) with
     | some z=>match freeze L ids with
      | some U=>bc (mem ids id) none ((zw3 xs m z).bind fun l=>K .un [] ((id, .row te e l nid)::U) (id::ids) (nid+1))
      | none=>none
     | none=>none
    | _=>none
   | none=>none) none
  | _=>none
 | _=>hi none
def zCP (E:zE τ) (e:Ty) (xs:List (e.den τ)):Option Operand→Option Operand→Option (Nat × List (e.den τ))
 | some y,some z=>match evC E y with
  | some (.i i)=>match evC E z with
   | some (.i j)=>match zDJ xs i j with
    | some s=>some (i.toNat,s)
    | none=>none
   | _=>none
  | _=>none
 | some y,none=>match evC E y with
  | some (.i i)=>match zpo xs i with
   | some s=>some (i.toNat,s)
   | none=>none
  | _=>none
 | none,some z=>match evC E z with
  | some (.i j)=>match lTo xs j with
   | some s=>some (0,s)
   | none=>none
  | _=>none
 | none,none=>none
def vwO (L:Hp τ):CV τ→Option (Nat × Nat × (e:Ty) × List (e.den τ))
 | .os id=>match lk L id with
  | .row _ e xs k=>some (id,k,⟨e,xs⟩)
  | _=>none
 | _=>none
def vwX (E:zE τ) (nid:Nat) (K:Nx τ ρ) (id k:Nat) (e:Ty) (l:List (e.den τ)) (lo hi':Option Operand):Option ρ:=hi <| match lo,hi' with
 | some y,some z=>match evC E y with
  | some (.i i)=>match evC E z with
   | some (.i j)=>(zDJ l i j).bind fun s=>K (.c (.os nid)) [] [(nid, .vw id k e i.toNat s)] [id] (nid+1)
   | _=>none
  | _=>none
 | some y,none=>match evC E y with
  | some (.i i)=>(zpo l i).bind fun s=>K (.c (.os nid)) [] [(nid, .vw id k e i.toNat s)] [id] (nid+1)
  | _=>none
 | none,some z=>match evC E z with
  | some (.i j)=>(lTo l j).bind fun s=>K (.c (.os nid)) [] [(nid, .vw id k e 0 s)] [id] (nid+1)
  | _=>none
 | none,none=>none
def szE (X:Cx τ) (te:TypeId) (e:Ty):Bool:=match szO X.P te with
 | some n=>Nat.beq n (ets X.G e).length&&Nat.blt 0 n
 | none=>false
def zM3 (X:Cx τ) (te:TypeId) (e:Ty):Option (e.den τ):=match zzE X.P te with
 | some zs=>match zw0 (lok X.G [] depth) (ets X.G e) zs with
  | some (p,[])=>some (ect X.G e p)
  | _=>none
 | none=>none
def clrX (X:Cx τ) (L:Hp τ) (nid:Nat) (K:Nx τ ρ) (te:TypeId) (id:Nat):Option ρ:=match lk L id with
 | .vw i k e lo ys=>match lk L i with
  | .row te' e' xs k'=>bc (Nat.beq te te'&&(Nat.beq k k'&&szE X te e')) (match zM3 X te e' with
   | some z=>K (.t []) [] [(i, .row te e' (xs.take lo++(List.replicate ys.length z++xs.drop (lo+ys.length))) nid)] [id,i] (nid+1)
   | none=>none) none
  | _=>none
 | _=>none
def arO (P:Program) (t:TypeId):Option (Nat × Nat):=match P.underlying t with
 | some (.array n e)=>bif Nat.ble n 8 then match szO P e with
  | some s=>some (n,s)
  | none=>none
  else none
 | _=>none
def isN (m:Int) (k:Nat):Bool:=m==(k:Int)
def arK (m:Int):Nat→Nat→(Nat→Option ρ)→Option ρ
 | 0,_,_=>hi none
 | n+1,k,K=>hi (if isN m k=true then K k else arK m n (k+1) K)
def rowZ (L:Hp τ):CV τ→Option ((e:Ty) × List (e.den τ) × List Nat)
 | .sl e xs=>some ⟨e,xs,[]⟩
 | .os id=>match lk L id with
  | .row _ e xs _=>some ⟨e,xs,[id]⟩
  | .fz e xs=>some ⟨e,xs,[id]⟩
  | .vw i k e _ xs=>match lk L i with
   | .row _ _ _ k'=>bif Nat.beq k k' then some ⟨e,xs,[id,i]⟩ else none
   | _=>none
  | _=>none
 | _=>none
def nilZ (G:Sig τ) (L:Hp τ) (c:CV τ):Option (Bool × List Nat):=match c with
 | .n0=>some (true,[])
 | c=>match rowZ L c with
  | some ⟨e,_::_,ids⟩=>match ets G e with
   | _::_=>some (false,ids)
   | []=>none
  | _=>none
def nnl {α:Type}:List α→Option Bool
 | []=>none
 | _::_=>some false
def rwO (L:Hp τ) (id:Nat):Option ((e:Ty) × List (e.den τ)):=match lk L id with
 | .row _ e xs _=>some ⟨e,xs⟩
 | .fz e xs=>some ⟨e,xs⟩
 | _=>none
def mpO (P:Program) (t:TypeId):Option TypeId:=match P.underlying t with
 | some (.map kt et)=>match P.underlying kt with
  | some (.int .i64)=>some et
  | _=>none
 | _=>none
def strZ (P:Program) (t:TypeId):Bool:=match P.info? t with
 | some i=>match i.zero with
  | some (.string ⟨⟨[]⟩⟩)=>true
  | _=>false
 | none=>false
def opX (X:Cx τ) (E:zE τ) (L:Hp τ) (nid:Nat) (K:Nx τ ρ) (o:Op):Option ρ:=match opP X E o with
 | some v=>K v [] [] [] nid
 | none => match o with
  | .binOp o t x y _=>match evX E x with
   | some a=>match evX E y with
    | some b=>match b with
     | .c .nl=>match a with
      | .c (.pt i .zero)=>match X.P.underlying t with
       | some (.pointer _)=>nlK X L nid i fun z U l nid=>match okX (eqO o z) with
        | some v=>K v [] U l nid
        | none=>none
       | _=>none
      | _=>opI nid K o a b
     | .c .n0=>match a with
      | .c .n0=>match X.P.underlying t with
       | some (.slice _)=>match okX (eqO o true) with
        | some v=>K v [] [] [] nid
        | none=>none
       | _=>none
      | .c (.os id)=>match X.P.underlying t with
       | some (.slice _)=>match rwO L id with
        | some ⟨e,xs⟩=>match ets X.G e with
         | _::_=>(nnl xs).bind fun _=>match okX (eqO o false) with
          | some v=>K v [] [] [id] nid
          | none=>none
         | []=>none
        | none=>none
       | _=>none
      | _=>opI nid K o a b
     | _=>opI nid K o a b
    | none=>none
   | none=>none
  | .nilCheck x=>match evC E x with
   | some (.pt i o)=>ptK X L nid i fun U l nid=>K (.c (.pt i o)) [] U l nid
   | _=>none
  | .fieldAddr t x i=>match zF3 X.P t i with
   | some (f,_)=>match evC E x with
    | some (.pt id o)=>ptK X L nid id fun U l nid=>K (.c (.pt id (o+f))) [] U l nid
    | _=>none
   | none=>none
  | .index t x y=>match X.P.underlying t with
   | some .string=>match evC E x with
    | some (.s l)=>match evC E y with
     | some (.i i)=>(sAt l i).bind fun r=>K (.c (.u8 r)) [] [] [] nid
     | _=>none
    | _=>none
   | _=>none
  | .slice t x lo hi none=>match X.P.underlying t with
   | some .string=>match evC E x with
    | some (.s l)=>match lo,hi with
     | some y,some z=>match evC E y with
      | some (.i i)=>match evC E z with
       | some (.i j)=>(zk5 l i j).bind fun r=>K (.c (.s r)) [] [] [] nid
       | _=>none
      | _=>none
     | some y,none=>match evC E y with
      | some (.i i)=>(zZ l i).bind fun r=>K (.c (.s r)) [] [] [] nid
      | _=>none
     | none,some z=>match evC E z with
      | some (.i j)=>(sTo l j).bind fun r=>K (.c (.s r)) [] [] [] nid
      | _=>none
     | none,none=>K (.c (.s l)) [] [] [] nid
    | _=>none
   | some (.slice te)=>match evC E x with
    | some c=>match vwO L c with
     | some (id,k,⟨e,l⟩)=>bc (szE X te e) (vwX E nid K id k e l lo hi) none
     | none=>match zIe L c with
     | some ⟨e,l,U,ids⟩=>bc (szE X te e) (match lo,hi with
      | some y,some z=>match evC E y with
       | some (.i i)=>match evC E z with
        | some (.i j)=>(zDJ l i j).bind fun r=>K (.c (.sl e r)) [] U ids nid
        | _=>none
       | _=>none
      | some y,none=>match evC E y with
       | some (.i i)=>(zpo l i).bind fun r=>K (.c (.sl e r)) [] U ids nid
       | _=>none
      | none,some z=>match evC E z with
       | some (.i j)=>(lTo l j).bind fun r=>K (.c (.sl e r)) [] U ids nid
       | _=>none
      | none,none=>none) none
     | none=>none
    | none=>none
   | _=>none
  | .convert s d x=>match evC E x with
   | some (.i n)=>match X.P.underlying s with
    | some (.int .i64)=>match X.P.underlying d with
     | some (.int .i64)=>(zJW n).bind fun r=>K (.c (.i r)) [] [] [] nid
     | _=>none
    | _=>none
   | some (.s l)=>match X.P.underlying s with
    | some .string=>match X.P.underlying d with
     | some (.slice e)=>match X.P.underlying e with
      | some (.int .u8)=>K (.c (.sl .u8 l)) [] [] [] nid
      | _=>none
     | _=>none
    | _=>none
   | some c=>match X.P.underlying d with
    | some .string=>match X.P.underlying s with
     | some (.slice e)=>match X.P.underlying e with
      | some (.int .u8)=>match rowO L .u8 c with
       | some (l,ids)=>K (.c (.s l)) [] [] ids nid
       | none=>none
      | _=>none
     | _=>none
    | _=>none
   | none=>none
  | .alloc t=>match zzE X.P t with
   | some cs=>K (.c (.pt nid 0)) [] [(nid, .blk t cs)] [] (nid+1)
   | none=>none
  | .box t x=>match evX E x with
   | some v=>match zse v with
    | some cs=>K (.c (.pt nid 0)) [] [(nid, .blk t cs)] [] (nid+1)
    | none=>none
   | none=>none
  | .load t x=>match evC E x with
   | some c=>zM1 X L nid K t c
   | none=>none
  | .store t x y=>match evX E y with
   | some v=>match zse v with
    | some vs=>match szO X.P t with
     | some n=>bc (Nat.beq vs.length n) (match evC E x with
      | some c=>zM2 X L nid K t vs c
      | none=>none) none
     | none=>none
    | none=>none
   | none=>none
  | .indexAddr t x y=>match arO X.P t with
   | some (n,s)=>match evC E y with
    | some (.i m)=>match evC E x with
     | some (.pt id .zero)=>match lk L id with
      | .blk _ _=>arK m n 0 fun j=>K (.c (.pt id (j*s))) [] [] [id] nid
      | _=>none
     | _=>none
    | _=>none
   | none=>match elO X.P t with
   | some te=>match evC E y with
    | some (.i m)=>match evC E x with
     | some (.sl e xs)=>bc (szE X te e) ((lAt xs m).bind fun z=>K (.c (.ea e z 0)) [] [] [] nid) none
     | some (.os id)=>match lk L id with
      | .row _ e xs k=>bc (szE X te e) ((lAt xs m).bind fun z=>K (.c (.oe id k m e z 0)) [] [] [id] nid) none
      | .fz e xs=>bc (szE X te e) ((lAt xs m).bind fun z=>K (.c (.ea e z 0)) [] [] [id] nid) none
      | .vw i k e lo xs=>match lk L i with
       | .row _ _ _ k'=>bc (Nat.beq k k'&&szE X te e) ((lAt xs m).bind fun z=>K (.c (.oe i k (lo+m.toNat:Nat) e z 0)) [] [] [id,i] nid) none
       | _=>none
      | _=>none
     | _=>none
    | _=>none
   | none=>none
  | .buildSlice t n ⟨ps⟩=>match elO X.P t with
   | some te=>match asc X.ty te with
    | some e=>match zF5 X L E e 0 ps with
     | some (xs,ids)=>bc (Nat.beq xs.length n&&Nat.ble (n*(ets X.G e).length) 65536) (match freeze L ids with
      | some U=>K (.c (.os nid)) [] ((nid, .row te e xs nid)::U) ids (nid+1)
      | none=>none) none
     | _=>none
    | none=>none
   | none=>none
  | .call ⟨.builtin .len,⟨[x]⟩,⟨[t]⟩⟩=>match evC E x with
   | some (.os id)=>match elO X.P t with
    | some _=>match lk L id with
     | .row _ _ xs _=>K (.c (.i (xs.length:Int))) [] [] [id] nid
     | .fz _ xs=>K (.c (.i (xs.length:Int))) [] [] [id] nid
     | .vw _ _ _ _ xs=>K (.c (.i (xs.length:Int))) [] [] [id] nid
     | _=>none
    | none=>none
   | _=>none
  | .call ⟨.builtin .append,⟨[x,y]⟩,⟨[t,u]⟩⟩=>match elO X.P t with
   | some te=>match asc X.ty te with
    | some e=>match evC E x with
     | some a=>match rowA L te e a with
      | some (xs,U,ids)=>match evC E y with
       | some (.s l)=>match X.P.underlying u with
        | some .string=>match zmv (t := .u8) (t':=e) l with
         | some l=>bc (bytO X.P te && !X.G.dr te) (if ze xs.length l.length 1 then K (.c (.os nid)) [] ((nid, .row te e (xs++l) nid)::U) ids (nid+1) else none) none
         | none=>none
        | _=>none
       | some .n0=>bc (Nat.beq t u) (K (.c (.os nid)) [] ((nid, .row te e xs nid)::U) ids (nid+1)) none
       | some b=>match rowO L e b with
        | some (ys,ids')=>bc (zx7 ids ids'&&Nat.beq t u) (if fitO X.P xs.length ys.length te then K (.c (.os nid)) [] ((nid, .row te e (xs++ys) nid)::U) (ids++ids') (nid+1) else none) none
        | none=>none
       | none=>none
      | none=>none
     | none=>none
    | none=>none
   | none=>none
  | .call ⟨.builtin .clear,⟨[x]⟩,⟨[t]⟩⟩=>match elO X.P t with
   | some te=>match evC E x with
    | some (.os id)=>clrX X L nid K te id
    | _=>none
   | none=>none
  | .call ⟨.value f,⟨args⟩,_⟩=>match evC E f with
   | some (.fn f)=>match zuy E args with
    | some avs=>znw X L nid K f avs X.cs
    | none=>none
   | some (.cl f t x)=>match zuy E args with
    | some avs=>znw X L nid K f (avs++[.c (t.av x)]) X.cs
    | none=>none
   | some (.mv f i)=>match zuy E args with
    | some avs=>znw X L nid K f (.c (.pt i 0)::avs) X.cs
    | none=>none
   | some (.fm m)=>match args with
    | [x]=>match evC E x with
     | some (.u8 c)=>(m c).bind fun r=>K (.c (.b r)) [] [] [] nid
     | _=>none
    | _=>none
   | _=>none
  | .makeFunc (.func f) ⟨[]⟩ ⟨[x]⟩=>match evC E x with
   | some c=>K (.c (.cf nid)) [] [(nid, .clo f [] [c])] [] (nid+1)
   | none=>none
  | .makeFunc (.func f) ⟨[x]⟩ ⟨[]⟩=>match evC E x with
   | some (.pt i .zero)=>K (.c (.mv f i)) [] [] [] nid
   | _=>none
  | .makeMap _ none=>K (.c (.mp nid)) [] [(nid, .mp [])] [] (nid+1)
  | .insert t x y z=>match mpO X.P t with
   | some _=>match evC E x with
    | some (.mp id)=>match lk L id with
     | .mp l=>match evC E y with
      | some (.i k)=>match evC E z with
       | some (.s v)=>match l.find? fun q=>q.1==k with
        | none=>K .un [] [(id, .mp (l++[(k,v)]))] [id] nid
        | some _=>none
       | _=>none
      | _=>none
     | _=>none
    | _=>none
   | none=>none
  | .lookup t x y true=>match mpO X.P t with
   | some et=>bc (strZ X.P et) (match evC E x with
    | some (.mp id)=>match lk L id with
     | .mp l=>match evC E y with
      | some (.i k)=>K (.t [(false,[.s (zqF l k).1]),(false,[.b (zqF l k).2])]) [] [] [id] nid
      | _=>none
     | _=>none
    | _=>none) none
   | none=>none
  | _=>none

def unT (E:zE τ):Option Nat→zE τ
 | some d=>(d, .un)::E
 | none=>E
def putT (v:XV τ) (E:zE τ):Option Nat→zE τ
 | some d=>(d,v)::E
 | none=>E
def zvH (g:List (XV τ)) (l:List Oper) (d:Option Nat) (E:zE τ):zE τ:=match g with
 | [x]=>match d with
  | some d=>(20000+d,x)::E
  | none=>(30000+l.length%10000,x)::E
 | _=>E
def dstO (all:List Oper) (j:Nat):Option Nat:=match ziy all j with
 | some o=>o.dst
 | none=>none
def zw1 (all:List Oper) (E:zE τ) (g:Option (Nat × Bool)) (run pass:zE τ→Option ρ):Option ρ:=hi <| match g with
 | none=>run E
 | some (j,w)=>match dstO all j with
  | some s=>bc (Nat.blt s gh) (match asc E s with
   | some .un=>pass E
   | some (.c (.k b))=>bc (b==w) (run E) (pass E)
   | some (.c (.b b))=>if b=true
    then bc w (run ((s, .c (.k true))::E)) (pass ((s, .c (.k true))::E))
    else bc w (pass ((s, .c (.k false))::E)) (run ((s, .c (.k false))::E))
   | _=>none) none
  | none=>none
def zCQ (l:List Oper) (d:Option Nat) (v:XV τ) (g:List (XV τ)) (E:zE τ):zE τ:=putT v (zvH g l d E) d
def dOk (n:Nat):Option Nat→Bool
 | some d=>Nat.blt d n
 | none=>true
abbrev OpF (τ:Nat→Type) (ρ:Type):=zE τ→Hp τ→Nat→Nx τ ρ→Op→Option ρ
def opsX (op:OpF τ ρ) (X:Cx τ) (all:List Oper):List Oper→zE τ→Hp τ→Nat→(zE τ→Hp τ→Nat→Option ρ)→Option ρ
 | [],E,L,nid,K=>K E L nid
 | o::l,E,L,nid,K=>bc (dOk X.n o.dst) (zw1 all E o.guard
   (fun E=>op E L nid (fun v g U _ nid=>opsX op X all l (zCQ l o.dst v g E) (U++L) nid K) o.op)
   fun E=>opsX op X all l (unT E o.dst) L nid K) none
structure Dr where
 i:Nat
 d:Option Nat
 r:List Nat
 t:List Nat
 u:List Nat
def zw2:Operand→List Nat
 | .tmp t=>bif Nat.blt t gh then [t] else []
 | .global g=>[gb+g]
 | _=>[]
def rdO (o:Op):List Nat:=o.operands.toList.flatMap zw2
def gdR (all:List Oper):Option (Nat × Bool)→List Nat
 | some (j,_)=>match dstO all j with
  | some s=>bif Nat.blt s gh then [s] else []
  | none=>[]
 | none=>[]
def zes (all:List Oper) (o:Oper):List Nat:=rdO o.op++gdR all o.guard
def zzH (P:List (List Nat)) (o:Oper):List Nat:=(o.after.toList.filter (Region.binds .any)).flatMap fun e=>e.on::(match ziy P e.on with
 | some l=>l
 | none=>[])
def zhY:List (List Nat)→List Oper→List (List Nat)
 | P,[]=>P
 | P,o::l=>zhY (P++[zzH P o]) l
def tied (P:List (List Nat)) (i j:Nat):Bool:=(match ziy P i with
 | some l=>mem l j
 | none=>false)||(match ziy P j with
 | some l=>mem l i
 | none=>false)
def meets (l m:List Nat):Bool:=match m with
 | []=>false
 | m=>anyR l fun i=>mem m i
def zsf (a b:Dr):Bool:=meets b.u a.t||(match b.d with
 | some d=>mem a.r d||(match a.d with
  | some e=>Nat.beq d e
  | none=>false)
 | none=>false)
def zuA (all:List Oper) (R:List Dr):Bool:=(fun P=>(zBf R fun a=>zBf R fun b=>Nat.beq a.i b.i||(match b.u with
 | [] => !(zsf a b)||tied P a.i b.i
 | _=>tied P a.i b.i || !(zsf a b)))&&(zBf R fun a=>match ziy P a.i with
 | some l=>l.all fun j=>Nat.blt j a.i
 | none=>false)) (zhY [] all)
def zzI (op:OpF τ ρ) (X:Cx τ) (all:List Oper):Nat→List Oper→List Dr→zE τ→Hp τ→Nat→(zE τ→Hp τ→Nat→Option ρ)→Option ρ
 | _,[],R,E,L,nid,K=>hi <| bc (zuA all R) (K E L nid) none
 | i,o::l,R,E,L,nid,K=>bc (dOk X.n o.dst) (zw1 all E o.guard
   (fun E=>op E L nid (fun v g U tch nid=>zzI op X all (i+1) l (⟨i,o.dst,zes all o,tch++kys U,kys U⟩::R) (zCQ l o.dst v g E) (U++L) nid K) o.op)
   fun E=>zzI op X all (i+1) l (⟨i,o.dst,zes all o,[],[]⟩::R) (unT E o.dst) L nid K) none

inductive Ex where
 | no
 | ex (id:Nat)
 | rt
abbrev Kx (τ:Nat→Type) (ρ:Type):=Ex→zE τ→Hp τ→Nat→Option ρ
abbrev Pl:=List (Nat × Ty)
abbrev Pl.ts (l:Pl):List Ty:=l.map (·.2)
inductive Hn (τ:Nat→Type) (ρ:Type) where
 | e
 | q (a b:Hn τ ρ)
 | n (k:Nat) (a:Hn τ ρ)
 | j (c:Pl) (al:List (Nat × Nat)) (f:DP τ c.ts→Option ρ) (a b:Hn τ ρ)
 | w (c:Pl) (al:List (Nat × Nat)) (f:Nat→DP τ c.ts→Option ρ) (a:Nat→Hn τ ρ)
def Hn.fst:Hn τ ρ→Hn τ ρ
 | .q a _=>a
 | _ => .e
def Hn.snd:Hn τ ρ→Hn τ ρ
 | .q _ b=>b
 | .n 1 a=>a
 | .n (k+2) a => .n (k+1) a
 | _ => .e
def Hn.sn2:Hn τ ρ→Hn τ ρ
 | .q _ b=>b
 | _ => .e
def leaf (G:Sig τ) (E:zE τ) (L:Hp τ):(l:Pl)→Rs (DP τ l.ts)
 | []=>some ((),[],[])
 | (t,ty)::l=>match asc E t with
  | some v=>match resX G L ty v with
   | some (x,a,m)=>match leaf G E L l with
    | some (p,a',m')=>some (.mk x p,a++a',m++m')
    | none=>none
   | none=>none
  | none=>none
def zxF:Option (XV τ)→Option (XV τ)→Bool
 | some (.c (.pt i 0)),some (.c (.pt j 0))=>Nat.beq i j
 | some (.c (.os i)),some (.c (.os j))=>Nat.beq i j
 | _,_=>false
def alV (E:zE τ) (L:Hp τ) (t:Nat):Option (XV τ):=match t/100000 with
 | 0=>asc E t
 | o+1=>match asc E (t%100000) with
  | some (.c (.pt i 0))=>match lk L i with
   | .blk _ cs=>match ziy cs o with
    | some c=>some (.c c)
    | none=>none
   | _=>none
  | _=>none
def zM8 (E:zE τ) (L:Hp τ) (al:List (Nat × Nat)):Bool:=al.all fun p=>Nat.blt (p.2%100000) 20000&&zxF (asc E p.1) (alV E L p.2)
def alias (E:zE τ) (L:Hp τ):List (Nat × Nat)→zE τ
 | []=>E
 | (s,t)::al=>match alV E L t with
  | some v=>(s,v)::alias E L al
  | none=>alias E L al
def zF6 (G:Sig τ) (l:Pl) (al:List (Nat × Nat)) (f:DP τ l.ts→Option ρ) (E:zE τ) (L:Hp τ):Option ρ:=hi <| match leaf G E L l with
 | some (p,a,m)=>bc (nod a&&zx7 a m&&zM8 E L al) (f p) none
 | none=>none
def zCR (G:Sig τ):(l:Pl)→DP τ l.ts→Nat→zE τ × Hp τ × Nat
 | [],_,nid=>([],[],nid)
 | (t,ty)::l,p,nid=>match zIc G ty p.hd nid with
  | (v,U,nid)=>match zCR G l p.tl nid with
   | (E,L,nid)=>((t,v)::E,U++L,nid)
def zCS {σ:Type} (G:Sig τ) (l:Pl) (al:List (Nat × Nat)) (p:DP τ l.ts) (K:zE τ→Hp τ→Nat→σ):σ:=hi <| match zCR G l p 0 with
 | (E,L,nid)=>K (alias E L al++glE G.gl) L nid
def lpU (run:Hn τ ρ→zE τ→Hp τ→Nat→Kx τ ρ→Option ρ):Hn τ ρ→zE τ→Hp τ→Nat→Kx τ ρ→Option ρ
 | .q a b,E,L,nid,K=>run a E L nid fun e E L nid=>match e with
  | .no=>lpU run b E L nid K
  | e=>K e E L nid
 | _,_,_,_,_=>hi none
def exX (op:OpF τ ρ) (X:Cx τ):Code→Hn τ ρ→zE τ→Hp τ→Nat→Kx τ ρ→Option ρ
 | .skip,_,E,L,nid,K=>K .no E L nid
 | .region _ ⟨l⟩ d,_,E,L,nid,K=>bc d (zzI op X l 0 l [] E L nid (K .no)) (opsX op X l l E L nid (K .no))
 | .seq x y,h,E,L,nid,K=>match h with
  | .j l al f a _=>exX op X x a E L nid fun e E L nid=>match e with
   | .no=>zF6 X.G l al f E L
   | e=>K e E L nid
  | h=>exX op X x h.fst E L nid fun e E L nid=>match e with
   | .no=>exX op X y h.snd E L nid K
   | e=>K e E L nid
 | .cond c x y,h,E,L,nid,K=>match evC E c with
  | some (.k b)=>bc b (exX op X x h.fst E L nid K) (exX op X y h.sn2 E L nid K)
  | some (.b b)=>match c with
   | .tmp s=>if b=true then exX op X x h.fst ((s, .c (.k true))::E) L nid K else exX op X y h.sn2 ((s, .c (.k false))::E) L nid K
   | _=>none
  | _=>none
 | .block id c,h,E,L,nid,K=>exX op X c h E L nid fun e E L nid=>match e with
  | .ex i=>bc (Nat.beq i id) (K .no E L nid) (K (.ex i) E L nid)
  | e=>K e E L nid
 | .loop c,h,E,L,nid,K=>match h with
  | .w l al f _=>zF6 X.G l al (f fuel) E L
  | h=>lpU (fun h E L nid K=>exX op X c h E L nid K) h E L nid K
 | .exit id,_,E,L,nid,K=>K (.ex id) E L nid
 | .ret,_,E,L,nid,K=>K .rt E L nid
 | _,_,_,_,_,_=>none

def Hn.ty:Hn τ ρ→Type
 | .e=>Unit
 | .q a b=>a.ty × b.ty
 | .n _ a=>a.ty
 | .j c _ _ a b=>(DP τ c.ts→Option ρ) × a.ty × b.ty
 | .w c _ _ a=>(Nat→DP τ c.ts→Option ρ) × (DP τ c.ts→Option ρ) × (∀n,(a n).ty)
def Hn.giv:(h:Hn τ ρ)→h.ty
 | .e=>()
 | .q a b=>(a.giv,b.giv)
 | .n _ a=>a.giv
 | .j _ _ f a b=>(f,a.giv,b.giv)
 | .w _ _ f a=>(fun n t=>f (n+1) t,fun t=>f 0 t,fun n=>(a n).giv)
def zJT (op:OpF τ ρ) (X:Cx τ) (y:Code) (h:Hn τ ρ) (K:Kx τ ρ):Kx τ ρ:=fun e E L nid=>hi <| match e with
 | .no=>exX op X y h E L nid K
 | e=>K e E L nid
def zF7 (X:Cx τ) (l:Pl) (al:List (Nat × Nat)) (f:DP τ l.ts→Option ρ) (K:Kx τ ρ):Kx τ ρ:=fun e E L nid=>hi <| match e with
 | .no=>zF6 X.G l al f E L
 | e=>K e E L nid
def blkK (id:Nat) (K:Kx τ ρ):Kx τ ρ:=fun e E L nid=>hi <| match e with
 | .ex i=>bc (Nat.beq i id) (K .no E L nid) (K (.ex i) E L nid)
 | e=>K e E L nid
def lpK (run:Hn τ ρ→zE τ→Hp τ→Nat→Kx τ ρ→Option ρ) (b:Hn τ ρ) (K:Kx τ ρ):Kx τ ρ:=fun e E L nid=>hi <| match e with
 | .no=>lpU run b E L nid K
 | e=>K e E L nid
def lpR (run:Hn τ ρ→zE τ→Hp τ→Nat→Kx τ ρ→Option ρ) (rn:(h:Hn τ ρ)→Kx τ ρ→h.ty):(h:Hn τ ρ)→Kx τ ρ→h.ty
 | .q a b,K=>(rn a (lpK run b K),lpR run rn b K)
 | h,_=>h.giv
def ziG (op:OpF τ ρ) (X:Cx τ):Code→(h:Hn τ ρ)→Kx τ ρ→h.ty
 | .seq x y, .q a b,K=>(ziG op X x a (zJT op X y b K),ziG op X y b K)
 | .seq x y, .n k a,K=>match k with
  | 0=>a.giv
  | 1=>ziG op X y a K
  | k+2=>ziG op X y (.n (k+1) a) K
 | .seq x y, .j l al f a b,K=>(fun t=>zCS X.G l al t fun E L nid=>exX op X y b E L nid K,ziG op X x a (zF7 X l al f K),ziG op X y b K)
 | .cond _ x y, .q a b,K=>(ziG op X x a K,ziG op X y b K)
 | .block id c,h,K=>ziG op X c h (blkK id K)
 | .loop c, .w l al f a,K=>(fun n t=>zCS X.G l al t fun E L nid=>exX op X c (a n) E L nid (zF7 X l al (f n) K),fun _=>none,fun n=>ziG op X c (a n) (zF7 X l al (f n) K))
 | .loop c, .q a b,K=>lpR (fun h E L nid K=>exX op X c h E L nid K) (fun h K=>ziG op X c h K) (.q a b) K
 | _,h,_=>h.giv

def zsg (X:Cx τ) (E:zE τ) (L:Hp τ):List ResultVar→Option (List (XV τ))
 | []=>some []
 | .tmp t::rs=>bc (Nat.blt t gh) (match asc E t with
  | some v=>match zsg X E L rs with
   | some vs=>some (v::vs)
   | none=>none
  | none=>none) none
 | .cell t ty::rs=>bc (Nat.blt t gh) (match asc E t with
  | some (.c (.pt id 0))=>match lk L id with
   | .blk _ cs=>match szO X.P ty with
    | some n=>match zF4 X.P ty (zuz cs 0 n) with
     | some v=>match zsg X E L rs with
      | some vs=>some (v::vs)
      | none=>none
     | none=>none
    | none=>none
   | _=>none
  | _=>none) none
def zCT (E:zE τ):List Nat→Option (List (XV τ))
 | []=>some []
 | j::js=>bc (Nat.blt j gh) (match asc E (gh+j) with
  | some v=>match zCT E js with
   | some vs=>some (v::vs)
   | none=>none
  | none=>none) none
def retK (X:Cx τ) (k:Con τ) (rv:List ResultVar):Kx τ (DP τ k.rs):=fun e E L _=>hi <| match e with
 | .ex _=>none
 | _=>match zsg X E L rv with
  | some vs=>match zCT E k.bk with
   | some ws=>match zsc X.G L k.rs (vs++ws) with
    | some (p,l,m)=>bc (Nat.beq vs.length k.nr&&(nod l&&zx7 l m)) (some p) none
    | none=>none
   | none=>none
  | none=>none
def gho (E:zE τ):List Nat→zE τ
 | []=>[]
 | j::js=>match asc E (j%32) with
  | some v=>match zM0 v (j/32) with
   | some c=>bif Nat.blt j gh then (gh+j, .c c)::gho E js else gho E js
   | none=>gho E js
  | none=>gho E js
def zCU (G:Sig τ):(i:Nat)→(ts:List Ty)→DP τ ts→Nat→zE τ × Hp τ × Nat
 | _,[],_,nid=>([],[],nid)
 | i,t::ts,p,nid=>match zIc G t p.hd nid with
  | (v,U,nid)=>match zCU G (i+1) ts p.tl nid with
   | (E,L,nid)=>((i,v)::E,U++L,nid)
def entX (X:Cx τ) (k:Con τ) (op:OpF τ (DP τ k.rs)) (c:Code) (rv:List ResultVar) (h:Hn τ (DP τ k.rs)) (p:DP τ k.ps):Option (DP τ k.rs):=match zCU X.G 0 k.ps p 0 with
 | (E,L,nid)=>exX op X c h ((gho E k.bk++E)++glE X.G.gl) L nid (retK X k rv)
def zsh (X:Cx τ) (k:Con τ) (c:Code) (rv:List ResultVar) (h:Hn τ (DP τ k.rs)) (op:(Nat→Value)→OpF τ (DP τ k.rs):=fun fx=>opX (X.w fx)):Prop:=(fun (_:Nat→Value)=>(k.m,h.giv))=fun fx=>(entX (X.w fx) k (op fx) c rv h,ziG (op fx) (X.w fx) c h (retK (X.w fx) k rv))
end
end Go.Rk
