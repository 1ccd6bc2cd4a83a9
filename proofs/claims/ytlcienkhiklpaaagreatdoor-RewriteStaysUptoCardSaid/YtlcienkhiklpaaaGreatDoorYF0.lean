/-
 What the models are made with: data, contracts.
 RewriteStays' model at the data of a statement. No program in sight.
 Contracts of a program's functions: the facts that show them, written by a program (wip/gen).
-/
import Derived.Test.YtlcienkhiklpaaaGreatDoorYM
import Derived.Test.YtlcienkhiklpaaaGreatDoorYTr
import Derived.Test.YtlcienkhiklpaaaGreatDoorW0
import Derived.Test.YtlcienkhiklpaaaGreatDoorYMem
import Derived.Test.YtlcienkhiklpaaaGreatDoorSq
import Derived.KernelRfl
set_option linter.unusedSimpArgs false
section
set_option linter.unusedVariables false
set_option maxRecDepth 100000
namespace Go.Proofs
open Go.Dk Go.Dm Go.RowKit Go.Rk
def tau : Nat → Type
 | 0 => api_Env
 | 1 => api_Swap
 | 2 => api_Head
 | 3 => api_Field
 | 4 => api_Rule
 | 5 => api_Part
 | 6 => api_Frame
 | 7 => bag_Bag
 | 8 => scan_Scanner
 | 9 => commas_splitter
 | 10 => quoted_reader
 | 11 => List Str
 | 12 => Str
 | 13 => api_Host
 | 14 => api_Target
 | 15 => api_Head
 | 16 => stage_worker
 | 17 => api_Ref
 | 18 => api_Attr
 | 19 => api_Cookie
 | 20 => api_Cookie
 | 21 => api_Param
 | 22 => api_Op
 | 23 => api_Guard
 | 24 => tmpl_reader
 | 25 => compile_compiler
 | 26 => api_Op
 | 27 => machine_machine
 | 28 => api_Via
 | 29 => via_reader
 | 30 => Str × Str × Str × Str
 | 31 => api_Env
 | 32 => api_Rule
 | 33 => startline_line
 | 34 => length_reader
 | _ => Unit
noncomputable section
set_option maxHeartbeats 8000000 in
noncomputable def G : Sig tau where
 fs
  | 0 => [.str, .str, .str, .str, .sl (.st 1), .sl (.st 1)]
  | 1 => [.str, .str]
  | 2 => [.int, .str, .str, .int, .str, .int, .sl (.st 3)]
  | 3 => [.str, .str]
  | 4 => [.int, .int, .str, .str, .int, .str, .str, .sl (.st 5)]
  | 5 => [.int, .str]
  | 6 => [.int, .int]
  | 7 => [.so 49 (.st 3)]
  | 8 => [.str, .int]
  | 9 => [.po 8, .so 9 .str, .int, .str]
  | 10 => [.po 8, .so 5 .u8]
  | 11 => [.sl .str]
  | 12 => [.str]
  | 13 => [.int, .str, .int]
  | 14 => [.int, .str, .int, .str, .int, .str, .str, .bool]
  | 15 => [.int, .str, .str, .int, .str, .int, .so 49 (.st 3)]
  | 16 => [.po 7, .int, .str, .str, .int, .str, .int, .sl (.st 3)]
  | 17 => [.str, .str, .str, .str, .str, .bool, .bool, .bool]
  | 18 => [.str, .str, .bool]
  | 19 => [.str, .str, .sl (.st 18)]
  | 20 => [.str, .str, .so 280 (.st 18)]
  | 21 => [.str, .str]
  | 22 => [.int, .str, .str, .sl (.st 5), .int]
  | 23 => [.int, .str, .str]
  | 24 => [.po 8, .so 196 (.st 5)]
  | 25 => [.so 247 (.st 22)]
  | 26 => [.int, .str, .str, .so 196 (.st 5), .int]
  | 27 => [.po 7, .sl (.st 21), .int]
  | 28 => [.str, .str, .str, .str]
  | 29 => [.po 8]
  | 30 => [.str, .str, .str, .str]
  | 31 => [.str, .str, .str, .str, .so 86 (.st 1), .so 86 (.st 1)]
  | 32 => [.int, .int, .str, .str, .int, .str, .str, .so 196 (.st 5)]
  | 33 => [.po 8]
  | 34 => [.po 7, .int]
  | _ => []
 ti
  | 0 => 24
  | 1 => 86
  | 2 => 28
  | 3 => 49
  | 4 => 63
  | 5 => 196
  | 6 => 39
  | 7 => 161
  | 8 => 266
  | 9 => 258
  | 10 => 332
  | 11 => 46
  | 12 => 9
  | 13 => 100
  | 14 => 111
  | 15 => 28
  | 16 => 108
  | 17 => 275
  | 18 => 280
  | 19 => 237
  | 20 => 237
  | 21 => 123
  | 22 => 247
  | 23 => 60
  | 24 => 352
  | 25 => 178
  | 26 => 247
  | 27 => 182
  | 28 => 129
  | 29 => 291
  | 30 => 84
  | 31 => 24
  | 32 => 63
  | 33 => 212
  | 34 => 135
  | _ => 0
 ctor
  | 0,p => (⟨p.1,p.2.1,p.2.2.1,p.2.2.2.1,p.2.2.2.2.1,p.2.2.2.2.2⟩ : api_Env)
  | 1,p => (⟨p.1,p.2⟩ : api_Swap)
  | 2,p => (⟨p.1,p.2.1,p.2.2.1,p.2.2.2.1,p.2.2.2.2.1,p.2.2.2.2.2.1,p.2.2.2.2.2.2⟩ : api_Head)
  | 3,p => (⟨p.1,p.2⟩ : api_Field)
  | 4,p => (⟨p.1,(⟨p.2.1,p.2.2.1,p.2.2.2.1⟩ : api_Guard),p.2.2.2.2.1,p.2.2.2.2.2.1,p.2.2.2.2.2.2.1,p.2.2.2.2.2.2.2⟩ : api_Rule)
  | 5,p => (⟨p.1,p.2⟩ : api_Part)
  | 6,p => (⟨p.1,p.2⟩ : api_Frame)
  | 7,p => (⟨p⟩ : bag_Bag)
  | 8,p => (⟨p.1,p.2⟩ : scan_Scanner)
  | 9,p => (⟨p.1,p.2.1,p.2.2.1,p.2.2.2⟩ : commas_splitter)
  | 10,p => (⟨p.1,p.2⟩ : quoted_reader)
  | 11,p => p
  | 12,p => p
  | 13,p => (⟨p.1,p.2.1,p.2.2⟩ : api_Host)
  | 14,p => (⟨p.1,p.2.1,(⟨p.2.2.1,p.2.2.2.1,p.2.2.2.2.1⟩ : api_Host),p.2.2.2.2.2.1,p.2.2.2.2.2.2.1,p.2.2.2.2.2.2.2⟩ : api_Target)
  | 15,p => (⟨p.1,p.2.1,p.2.2.1,p.2.2.2.1,p.2.2.2.2.1,p.2.2.2.2.2.1,p.2.2.2.2.2.2⟩ : api_Head)
  | 16,p => (⟨p.1,(⟨p.2.1,p.2.2.1,p.2.2.2.1,p.2.2.2.2.1,p.2.2.2.2.2.1,p.2.2.2.2.2.2.1,p.2.2.2.2.2.2.2⟩ : api_Head)⟩ : stage_worker)
  | 17,p => (⟨p.1,p.2.1,p.2.2.1,p.2.2.2.1,p.2.2.2.2.1,p.2.2.2.2.2.1,p.2.2.2.2.2.2.1,p.2.2.2.2.2.2.2⟩ : api_Ref)
  | 18,p => (⟨p.1,p.2.1,p.2.2⟩ : api_Attr)
  | 19,p => (⟨p.1,p.2.1,p.2.2⟩ : api_Cookie)
  | 20,p => (⟨p.1,p.2.1,p.2.2⟩ : api_Cookie)
  | 21,p => (⟨p.1,p.2⟩ : api_Param)
  | 22,p => (⟨p.1,p.2.1,p.2.2.1,p.2.2.2.1,p.2.2.2.2⟩ : api_Op)
  | 23,p => (⟨p.1,p.2.1,p.2.2⟩ : api_Guard)
  | 24,p => (⟨p.1,p.2⟩ : tmpl_reader)
  | 25,p => (⟨p⟩ : compile_compiler)
  | 26,p => (⟨p.1,p.2.1,p.2.2.1,p.2.2.2.1,p.2.2.2.2⟩ : api_Op)
  | 27,p => (⟨p.1,p.2.1,p.2.2⟩ : machine_machine)
  | 28,p => (⟨p.1,p.2.1,p.2.2.1,p.2.2.2⟩ : api_Via)
  | 29,p => (⟨p⟩ : via_reader)
  | 30,p => p
  | 31,p => (⟨p.1,p.2.1,p.2.2.1,p.2.2.2.1,p.2.2.2.2.1,p.2.2.2.2.2⟩ : api_Env)
  | 32,p => (⟨p.1,(⟨p.2.1,p.2.2.1,p.2.2.2.1⟩ : api_Guard),p.2.2.2.2.1,p.2.2.2.2.2.1,p.2.2.2.2.2.2.1,p.2.2.2.2.2.2.2⟩ : api_Rule)
  | 33,p => (⟨p⟩ : startline_line)
  | 34,p => (⟨p.1,p.2⟩ : length_reader)
  | _ + 35,_ => ()
 dtor
  | 0,(x : api_Env) => (x.Client,x.Host,x.Scheme,x.By,x.Domains,x.Locations)
  | 1,(x : api_Swap) => (x.From,x.To)
  | 2,(x : api_Head) => (x.Kind,x.Method,x.Target,x.Code,x.Reason,x.Minor,x.Fields)
  | 3,(x : api_Field) => (x.Name,x.Value)
  | 4,(x : api_Rule) => (x.Side,x.Guard.Kind,x.Guard.Name,x.Guard.Value,x.Kind,x.Name,x.To,x.Parts)
  | 5,(x : api_Part) => (x.Kind,x.Text)
  | 6,(x : api_Frame) => (x.Kind,x.N)
  | 7,(x : bag_Bag) => x.f_l
  | 8,(x : scan_Scanner) => (x.f_s,x.f_at)
  | 9,(x : commas_splitter) => (x.Scanner,x.f_out,x.f_from,x.f_s)
  | 10,(x : quoted_reader) => (x.Scanner,x.f_out)
  | 11,x => x
  | 12,x => x
  | 13,(x : api_Host) => (x.Kind,x.Name,x.Port)
  | 14,(x : api_Target) => (x.Kind,x.Scheme,x.Host.Kind,x.Host.Name,x.Host.Port,x.Path,x.Query,x.HasQuery)
  | 15,(x : api_Head) => (x.Kind,x.Method,x.Target,x.Code,x.Reason,x.Minor,x.Fields)
  | 16,(x : stage_worker) => (x.Bag,x.f_h.Kind,x.f_h.Method,x.f_h.Target,x.f_h.Code,x.f_h.Reason,x.f_h.Minor,x.f_h.Fields)
  | 17,(x : api_Ref) => (x.Scheme,x.Auth,x.Path,x.Query,x.Frag,x.HasAuth,x.HasQuery,x.HasFrag)
  | 18,(x : api_Attr) => (x.Name,x.Value,x.Has)
  | 19,(x : api_Cookie) => (x.Name,x.Value,x.Attrs)
  | 20,(x : api_Cookie) => (x.Name,x.Value,x.Attrs)
  | 21,(x : api_Param) => (x.Name,x.Value)
  | 22,(x : api_Op) => (x.Kind,x.Name,x.Text,x.Parts,x.N)
  | 23,(x : api_Guard) => (x.Kind,x.Name,x.Value)
  | 24,(x : tmpl_reader) => (x.Scanner,x.f_out)
  | 25,(x : compile_compiler) => x.f_out
  | 26,(x : api_Op) => (x.Kind,x.Name,x.Text,x.Parts,x.N)
  | 27,(x : machine_machine) => (x.Bag,x.f_known,x.f_steps)
  | 28,(x : api_Via) => (x.Proto,x.Version,x.By,x.Comment)
  | 29,(x : via_reader) => x.Scanner
  | 30,x => x
  | 31,(x : api_Env) => (x.Client,x.Host,x.Scheme,x.By,x.Domains,x.Locations)
  | 32,(x : api_Rule) => (x.Side,x.Guard.Kind,x.Guard.Name,x.Guard.Value,x.Kind,x.Name,x.To,x.Parts)
  | 33,(x : startline_line) => x.Scanner
  | 34,(x : length_reader) => (x.Bag,x.f_minor)
  | _ + 35,_ => ()
 cd
  | 0,_ => rfl
  | 1,_ => rfl
  | 2,_ => rfl
  | 3,_ => rfl
  | 4,_ => rfl
  | 5,_ => rfl
  | 6,_ => rfl
  | 7,_ => rfl
  | 8,_ => rfl
  | 9,_ => rfl
  | 10,_ => rfl
  | 11,_ => rfl
  | 12,_ => rfl
  | 13,_ => rfl
  | 14,_ => rfl
  | 15,_ => rfl
  | 16,_ => rfl
  | 17,_ => rfl
  | 18,_ => rfl
  | 19,_ => rfl
  | 20,_ => rfl
  | 21,_ => rfl
  | 22,_ => rfl
  | 23,_ => rfl
  | 24,_ => rfl
  | 25,_ => rfl
  | 26,_ => rfl
  | 27,_ => rfl
  | 28,_ => rfl
  | 29,_ => rfl
  | 30,_ => rfl
  | 31,_ => rfl
  | 32,_ => rfl
  | 33,_ => rfl
  | 34,_ => rfl
  | _ + 35,_ => rfl
 dc
  | 0,_ => rfl
  | 1,_ => rfl
  | 2,_ => rfl
  | 3,_ => rfl
  | 4,_ => rfl
  | 5,_ => rfl
  | 6,_ => rfl
  | 7,_ => rfl
  | 8,_ => rfl
  | 9,_ => rfl
  | 10,_ => rfl
  | 11,_ => rfl
  | 12,_ => rfl
  | 13,_ => rfl
  | 14,_ => rfl
  | 15,_ => rfl
  | 16,_ => rfl
  | 17,_ => rfl
  | 18,_ => rfl
  | 19,_ => rfl
  | 20,_ => rfl
  | 21,_ => rfl
  | 22,_ => rfl
  | 23,_ => rfl
  | 24,_ => rfl
  | 25,_ => rfl
  | 26,_ => rfl
  | 27,_ => rfl
  | 28,_ => rfl
  | 29,_ => rfl
  | 30,_ => rfl
  | 31,_ => rfl
  | 32,_ => rfl
  | 33,_ => rfl
  | 34,_ => rfl
  | _ + 35,_ => rfl
 eq
  | 1,(x : api_Swap),y => x == y
  | 3,(x : api_Field),y => x == y
  | 5,(x : api_Part),y => x == y
  | 13,(x : api_Host),y => x == y
  | 18,(x : api_Attr),y => x == y
  | 21,(x : api_Param),y => x == y
  | 23,(x : api_Guard),y => x == y
  | 28,(x : api_Via),y => x == y
  | _,_,_ => true
 fp := [(48,zas),(83,zd4),(84,zbR),(85,zfc),(99,zeB),(100,zkh),(101,zf9),(144,zaf),(147,zat),(149,zb9),(157,zf5),(220,zeY),(221,zcj),(222,ziJ),(248,zeP),(249,zdt),(274,zbn),(275,zfW),(276,zi0),(284,zd6),(286,zeU),(294,zcP),(323,zcM),(333,zha),(334,zg9)]
 gl := []
 ax h := ∀ w,Fz.on h w → ze3 w
 axm hh ha w hw := ha w fun b o e => hw b o (hh b o e)
noncomputable def G0 : Sig tau := ⟨G.fs,G.ti,G.ctor,G.dtor,G.cd,G.dc,G.eq,[],[],fun _ => True,fun _ h => h⟩
noncomputable def tyl : List (TypeId × Ty) := [(5, .u8),(9, .str),(49, .st 3),(60, .st 23),(63, .st 4),(86, .st 1),(100, .st 13),(123, .st 21),(129, .st 28),(196, .st 5),(247, .st 22),(280, .st 18)]
noncomputable def zpr : Con tau := ⟨[.sl (.st 3)],[.so 49 (.st 3)],1,[],zbQ⟩
noncomputable def zxn : Con tau := ⟨[.str],[.str],1,[],zX⟩
noncomputable def zrK : Con tau := ⟨[.str],[.bool],1,[],zaG⟩
noncomputable def zps : Con tau := ⟨[.sl (.st 5)],[.so 196 (.st 5)],1,[],zdZ⟩
noncomputable def ztn : Con tau := ⟨[.str, .str],[.str],1,[],fun p => za4 p.1 p.2⟩
noncomputable def zto : Con tau := ⟨[.sl .str, .str],[.str],1,[],fun p => strings_Join p.1 p.2⟩
noncomputable def zvh : Con tau := ⟨[.str, .str],[.str, .str, .bool],3,[],fun p => strings_Cut p.1 p.2⟩
noncomputable def znD : Con tau := ⟨[.int, .int],[.str],1,[],fun p => zbN p.1 p.2⟩
noncomputable def zoE : Con tau := ⟨[.str, .str],[.int],1,[],fun p => strings_IndexAny p.1 p.2⟩
noncomputable def znE : Con tau := ⟨[.so 49 (.st 3), .int, .so 49 (.st 3)],[.so 49 (.st 3)],1,[],fun p => zam p.1 p.2.1 p.2.2⟩
noncomputable def ziT : Con tau := ⟨[.str, .u8],[.int],1,[],fun p => strings_IndexByte p.1 p.2⟩
noncomputable def zrL : Con tau := ⟨[.str, .str],[.so 9 .str],1,[],fun p => strings_Split p.1 p.2⟩
noncomputable def znF : Con tau := ⟨[.str, .str],[.str],1,[],fun p => zbO p.1 p.2⟩
noncomputable def zoF : Con tau := ⟨[.str, .str],[.bool],1,[],fun p => strings_Contains p.1 p.2⟩
noncomputable def zmZ : Con tau := ⟨[.str, .str, .str],[.str],1,[],fun p => strings_ReplaceAll p.1 p.2.1 p.2.2⟩
noncomputable def zCV : Con tau := ⟨[.sl (.st 3)],[.po 7],1,[],zcX⟩
noncomputable def ztp : Con tau := ⟨[.pt 7],[.so 49 (.st 3)],1,[],zai⟩
noncomputable def zkz : Con tau := ⟨[.u8],[.u8],1,[],zaU⟩
noncomputable def zxo : Con tau := ⟨[.str, .str],[.bool],1,[],fun p => zar p.1 p.2⟩
noncomputable def zqu : Con tau := ⟨[.pt 7, .str],[.so 9 .str],1,[],fun p => zbD p.1 p.2⟩
noncomputable def zBg : Con tau := ⟨[.str],[.po 8],1,[],zfb⟩
noncomputable def znG : Con tau := ⟨[.pt 8],[.str],1,[],zaB⟩
noncomputable def zoG : Con tau := ⟨[.pt 8],[.bool],1,[],zac⟩
noncomputable def zpt : Con tau := ⟨[.pt 8],[.int],1,[],za9⟩
noncomputable def znH : Con tau := ⟨[.pt 8],[.u8, .bool],2,[],z6⟩
noncomputable def zj3 : Con tau := ⟨[.u8],[.bool],1,[],zbR⟩
noncomputable def zl3 : Con tau := ⟨[.u8],[.bool],1,[],zfc⟩
noncomputable def zl4 : Con tau := ⟨[.u8],[.bool],1,[],zas⟩
noncomputable def zl5 : Con tau := ⟨[.po 8, .int],[.bool, .po 8],1,[0],fun p => zde p.1 p.2⟩
noncomputable def zl6 : Con tau := ⟨[.po 8, .u8],[.bool, .po 8],1,[0],fun p => zo p.1 p.2⟩
noncomputable def zkA : Con tau := ⟨[.po 9, .int],[.po 9],0,[0],fun p => zbf p.1 p.2⟩
noncomputable def ziU : Con tau := ⟨[.po 9],[.bool, .po 9],1,[0],zbe⟩
noncomputable def zrM : Con tau := ⟨[.po 8],[.str, .bool, .po 8],2,[0],zhl⟩
noncomputable def zj4 : Con tau := ⟨[.po 9],[.bool, .po 9],1,[0],zb3⟩
noncomputable def ztq : Con tau := ⟨[.str],[.so 9 .str, .int],2,[],zeK⟩
noncomputable def zl7 : Con tau := ⟨[.u8],[.bool],1,[],zb9⟩
noncomputable def zl8 : Con tau := ⟨[.u8],[.bool],1,[],zat⟩
noncomputable def zrN : Con tau := ⟨[.u8, .str],[.bool],1,[],fun p => zg6 p.1 p.2⟩
noncomputable def zrO : Con tau := ⟨[.u8],[.bool],1,[],zd4⟩
noncomputable def zyY : Con tau := ⟨[.fn, .sl .str],[.bool],1,[],fun p => za6 p.1 p.2⟩
noncomputable def zvi : Con tau := ⟨[.str],[.bool],1,[],zca⟩
noncomputable def zrP : Con tau := ⟨[.sl .str],[.so 9 .str, .int],2,[],zfd⟩
noncomputable def zhP : Con tau := ⟨[.sl .str, .str],[.int],1,[],fun p => zR p.1 p.2⟩
noncomputable def zgm : Con tau := ⟨[.sl .str, .str],[.bool],1,[],fun p => zt p.1 p.2⟩
noncomputable def zrQ : Con tau := ⟨[.sl (.st 3)],[.so 9 .str],1,[],zhm⟩
noncomputable def zyZ : Con tau := ⟨[],[.so 9 .str],1,[],fun _ => zkc⟩
noncomputable def zy0 : Con tau := ⟨[.str, .pt 12],[.bool],1,[],fun p => zfV p.1 p.2⟩
noncomputable def zgb : Con tau := ⟨[.sl .str, .cl 224 (.pt 12)],[.int],1,[],fun p => zG p.1 p.2⟩
noncomputable def ze6 : Con tau := ⟨[.sl .str, .cl 224 (.pt 12)],[.bool],1,[],fun p => zA p.1 p.2⟩
noncomputable def zCW : Con tau := ⟨[.str, .sl .str],[.bool],1,[],fun p => zkP p.1 p.2⟩
noncomputable def zoH : Con tau := ⟨[.st 3, .pt 11],[.bool],1,[],fun p => zav p.1 p.2⟩
noncomputable def zem : Con tau := ⟨[.sl (.st 3), .cl 168 (.pt 11)],[.int],1,[],fun p => zy p.1 p.2⟩
noncomputable def zdB : Con tau := ⟨[.so 49 (.st 3), .cl 168 (.pt 11)],[.so 49 (.st 3)],1,[],fun p => zr p.1 p.2⟩
noncomputable def zoI : Con tau := ⟨[.po 7, .sl .str],[.int, .po 7],1,[0],fun p => zaw p.1 p.2⟩
noncomputable def zy1 : Con tau := ⟨[.sl (.st 3)],[.so 49 (.st 3)],1,[],zg7⟩
noncomputable def zrR : Con tau := ⟨[.u8],[.int],1,[],zhn⟩
noncomputable def ztr : Con tau := ⟨[.str, .int, .int, .fn],[.int, .int],2,[],fun p => zin p.1 p.2.1 p.2.2.1 p.2.2.2⟩
noncomputable def zpu : Con tau := ⟨[.str, .int],[.int, .int],2,[],fun p => zbS p.1 p.2⟩
noncomputable def zts : Con tau := ⟨[.int, .int],[.str],1,[],fun p => zio p.1 p.2⟩
noncomputable def ztt : Con tau := ⟨[.int],[.str],1,[],zaL⟩
noncomputable def zlm : Con tau := ⟨[.str, .int],[.bool],1,[],fun p => zaF p.1 p.2⟩
noncomputable def zvj : Con tau := ⟨[.u8],[.bool],1,[],zdt⟩
noncomputable def zpv : Con tau := ⟨[.str, .bool],[.int],1,[],fun p => zcL p.1 p.2⟩
noncomputable def ztu : Con tau := ⟨[.str],[.bool],1,[],zeN⟩
noncomputable def zoJ : Con tau := ⟨[.str],[.bool],1,[],zeO⟩
noncomputable def zie : Con tau := ⟨[.u8],[.bool],1,[],zbn⟩
noncomputable def zoK : Con tau := ⟨[.u8],[.bool],1,[],zfW⟩
noncomputable def zrS : Con tau := ⟨[.str],[.bool],1,[],zd5⟩
noncomputable def zvk : Con tau := ⟨[.str],[.st 13, .bool],2,[],zhQ⟩
noncomputable def zh6 : Con tau := ⟨[.str, .u8],[.int],1,[],fun p => zaj p.1 p.2⟩
noncomputable def zkB : Con tau := ⟨[.str, .u8],[.int],1,[],fun p => zbg p.1 p.2⟩
noncomputable def zqv : Con tau := ⟨[.str],[.st 13, .int],2,[],zbE⟩
noncomputable def zkC : Con tau := ⟨[.str, .str],[.bool],1,[],fun p => stringslite_HasPrefix p.1 p.2⟩
noncomputable def znI : Con tau := ⟨[.str, .str],[.bool],1,[],fun p => strings_HasPrefix p.1 p.2⟩
noncomputable def zno : Con tau := ⟨[.u8],[.bool],1,[],zeP⟩
noncomputable def zBh : Con tau := ⟨[.str, .str],[.bool],1,[],fun p => zml p.1 p.2⟩
noncomputable def zxp : Con tau := ⟨[.str],[.bool],1,[],zkQ⟩
noncomputable def zvl : Con tau := ⟨[.str],[.bool],1,[],zjd⟩
noncomputable def zy2 : Con tau := ⟨[.str],[.str, .str, .bool, .int],4,[],zkd⟩
noncomputable def zvm : Con tau := ⟨[.st 14, .str],[.st 14, .bool],2,[],fun p => zhS p.1 p.2⟩
noncomputable def zpw : Con tau := ⟨[.str],[.st 14, .bool],2,[],zfs⟩
noncomputable def zy3 : Con tau := ⟨[.str, .str],[.st 14, .bool],2,[],fun p => zmE p.1 p.2⟩
noncomputable def ztv : Con tau := ⟨[.str, .str],[.st 14, .int],2,[],fun p => zgq p.1 p.2⟩
noncomputable def zxq : Con tau := ⟨[.str, .str, .bool],[.str],1,[],fun p => zkR p.1 p.2.1 p.2.2⟩
noncomputable def zrT : Con tau := ⟨[.st 14],[.str],1,[],zho⟩
noncomputable def zxr : Con tau := ⟨[.str, .sl .str],[.str],1,[],fun p => zbT p.1 p.2⟩
noncomputable def zrU : Con tau := ⟨[.st 13],[.str, .int],2,[],zhp⟩
noncomputable def zrV : Con tau := ⟨[.st 3, .pt 12],[.bool],1,[],fun p => zcc p.1 p.2⟩
noncomputable def zdT : Con tau := ⟨[.sl (.st 3), .cl 175 (.pt 12)],[.int],1,[],fun p => zI p.1 p.2⟩
noncomputable def zvn : Con tau := ⟨[.pt 7, .str],[.str, .bool],2,[],fun p => zfX p.1 p.2⟩
noncomputable def zrW : Con tau := ⟨[.po 7, .sl (.st 3)],[.po 7],0,[0],fun p => zbx p.1 p.2⟩
noncomputable def zrX : Con tau := ⟨[.po 7, .str, .str],[.po 7],0,[0],fun p => zc5 p.1 p.2.1 p.2.2⟩
noncomputable def zl9 : Con tau := ⟨[.po 16, .st 0, .st 14],[.po 16],0,[0],fun p => za7 p.1 p.2.1 p.2.2⟩
noncomputable def zma : Con tau := ⟨[.po 16],[.st 15, .int],2,[],zad⟩
noncomputable def zkD : Con tau := ⟨[.str, .str],[.str, .bool],2,[],fun p => stringslite_CutPrefix p.1 p.2⟩
noncomputable def znJ : Con tau := ⟨[.str, .str],[.str, .bool],2,[],fun p => strings_CutPrefix p.1 p.2⟩
noncomputable def zkE : Con tau := ⟨[.str, .str],[.bool],1,[],fun p => stringslite_HasSuffix p.1 p.2⟩
noncomputable def znK : Con tau := ⟨[.str, .str],[.bool],1,[],fun p => strings_HasSuffix p.1 p.2⟩
noncomputable def zvo : Con tau := ⟨[.str, .sl (.st 1)],[.str, .bool],2,[],fun p => zje p.1 p.2⟩
noncomputable def zpx : Con tau := ⟨[.u8],[.bool],1,[],zcM⟩
noncomputable def zrY : Con tau := ⟨[.str],[.bool],1,[],zhq⟩
noncomputable def zvp : Con tau := ⟨[.str, .str],[.str, .str],2,[],fun p => zer p.1 p.2⟩
noncomputable def ztw : Con tau := ⟨[.str],[.st 17],1,[],ziq⟩
noncomputable def ztx : Con tau := ⟨[.str, .str],[.bool],1,[],fun p => zdD p.1 p.2⟩
noncomputable def zvq : Con tau := ⟨[.st 17],[.bool],1,[],zjf⟩
noncomputable def zty : Con tau := ⟨[.str],[.st 17, .int],2,[],zir⟩
noncomputable def zvr : Con tau := ⟨[.str],[.bool],1,[],zhT⟩
noncomputable def zoL : Con tau := ⟨[.str, .sl (.st 1)],[.str],1,[],fun p => zeT p.1 p.2⟩
noncomputable def zls : Con tau := ⟨[.po 8, .fn],[.str, .po 8],1,[0],fun p => zL p.1 p.2⟩
noncomputable def zlt : Con tau := ⟨[.po 8],[.str, .bool, .po 8],2,[0],z7⟩
noncomputable def zrZ : Con tau := ⟨[.u8],[.bool],1,[],zd6⟩
noncomputable def zvs : Con tau := ⟨[.str],[.st 18, .bool],2,[],zhU⟩
noncomputable def zkF : Con tau := ⟨[.str, .str],[.str, .bool],2,[],fun p => stringslite_CutSuffix p.1 p.2⟩
noncomputable def znL : Con tau := ⟨[.str, .str],[.str, .bool],2,[],fun p => strings_CutSuffix p.1 p.2⟩
noncomputable def ztz : Con tau := ⟨[.u8],[.bool],1,[],zeU⟩
noncomputable def ztA : Con tau := ⟨[.str],[.bool],1,[],zis⟩
noncomputable def ztB : Con tau := ⟨[.str],[.st 20, .int],2,[],zgs⟩
noncomputable def zvt : Con tau := ⟨[.st 19, .str],[.int],1,[],fun p => zhV p.1 p.2⟩
noncomputable def zxs : Con tau := ⟨[.st 19, .str],[.str, .bool],2,[],fun p => zkS p.1 p.2⟩
noncomputable def zj5 : Con tau := ⟨[.str, .str],[.str],1,[],fun p => stringslite_TrimPrefix p.1 p.2⟩
noncomputable def zm0 : Con tau := ⟨[.str, .str],[.str],1,[],fun p => strings_TrimPrefix p.1 p.2⟩
noncomputable def zqw : Con tau := ⟨[.str, .str],[.bool],1,[],fun p => zgt p.1 p.2⟩
noncomputable def zvu : Con tau := ⟨[.str, .sl (.st 1)],[.str, .bool],2,[],fun p => zjg p.1 p.2⟩
noncomputable def zxt : Con tau := ⟨[.st 19, .str, .str],[.st 20],1,[],fun p => zkT p.1 p.2.1 p.2.2⟩
noncomputable def zgc : Con tau := ⟨[.sl (.st 18), .sl (.st 18)],[.bool],1,[],fun p => zak p.1 p.2⟩
noncomputable def zvv : Con tau := ⟨[.st 19, .st 19],[.bool],1,[],fun p => zjh p.1 p.2⟩
noncomputable def zvw : Con tau := ⟨[.st 19],[.str, .int],2,[],zji⟩
noncomputable def zpy : Con tau := ⟨[.str, .sl (.st 1)],[.str],1,[],fun p => zfA p.1 p.2⟩
noncomputable def zpz : Con tau := ⟨[.st 0, .sl (.st 3)],[.so 49 (.st 3)],1,[],fun p => zcN p.1 p.2⟩
noncomputable def zvx : Con tau := ⟨[.st 0, .st 2],[.st 15, .int],2,[],fun p => zfY p.1 p.2⟩
noncomputable def zr0 : Con tau := ⟨[.str, .str],[.st 21],1,[],fun p => zbz p.1 p.2⟩
noncomputable def zvy : Con tau := ⟨[.st 0, .st 2],[.so 123 (.st 21)],1,[],fun p => zjj p.1 p.2⟩
noncomputable def zxu : Con tau := ⟨[.int],[.sn 9 .str],1,[],ziV⟩
noncomputable def zpA : Con tau := ⟨[.st 3],[.int],1,[],zdY⟩
noncomputable def zxv : Con tau := ⟨[.st 23],[.bool],1,[],zkU⟩
noncomputable def zy4 : Con tau := ⟨[.str],[.bool],1,[],ziH⟩
noncomputable def zy5 : Con tau := ⟨[.str],[.bool],1,[],ziI⟩
noncomputable def zy6 : Con tau := ⟨[.str],[.bool],1,[],zg8⟩
noncomputable def zxw : Con tau := ⟨[.sl (.st 5)],[.so 9 .str],1,[],zkV⟩
noncomputable def zxx : Con tau := ⟨[.u8],[.bool],1,[],zg9⟩
noncomputable def zxy : Con tau := ⟨[.u8],[.bool],1,[],zha⟩
noncomputable def zmb : Con tau := ⟨[.po 8, .str],[.bool, .po 8],1,[0],fun p => za8 p.1 p.2⟩
noncomputable def zm1 : Con tau := ⟨[.po 24, .str],[.po 24],0,[0],fun p => zcr p.1 p.2⟩
noncomputable def zmc : Con tau := ⟨[.po 24],[.bool, .po 24],1,[0],zdf⟩
noncomputable def zm2 : Con tau := ⟨[.po 24],[.bool, .po 24],1,[0],zdE⟩
noncomputable def zxz : Con tau := ⟨[.str],[.so 196 (.st 5), .int],2,[],zkW⟩
noncomputable def zgd : Con tau := ⟨[.sl (.st 5), .sl (.st 5)],[.bool],1,[],fun p => zal p.1 p.2⟩
noncomputable def zy7 : Con tau := ⟨[.sl (.st 5)],[.str, .int],2,[],zmF⟩
noncomputable def zxA : Con tau := ⟨[.int, .sl (.st 5)],[.bool],1,[],fun p => zkX p.1 p.2⟩
noncomputable def zBi : Con tau := ⟨[.st 4],[.bool],1,[],zke⟩
noncomputable def zxB : Con tau := ⟨[.st 4],[.int],1,[],zhb⟩
noncomputable def zvz : Con tau := ⟨[.sl (.st 4)],[.int, .int],2,[],zfZ⟩
noncomputable def zvA : Con tau := ⟨[.st 4],[.so 9 .str],1,[],zjk⟩
noncomputable def zvB : Con tau := ⟨[.sl (.st 4)],[.int],1,[],zjl⟩
noncomputable def zr1 : Con tau := ⟨[.st 23, .int],[.st 26],1,[],fun p => zd7 p.1 p.2⟩
noncomputable def zvC : Con tau := ⟨[.st 4],[.st 26],1,[],zf0⟩
noncomputable def zj6 : Con tau := ⟨[.po 25, .sl (.st 4)],[.po 25],0,[0],fun p => zax p.1 p.2⟩
noncomputable def zj7 : Con tau := ⟨[.po 25, .sl (.st 4)],[.po 25],0,[0],fun p => zay p.1 p.2⟩
noncomputable def zpB : Con tau := ⟨[.int, .sl (.st 4)],[.so 247 (.st 22), .int],2,[],fun p => zcO p.1 p.2⟩
noncomputable def zkG : Con tau := ⟨[.pt 27, .st 22],[.bool],1,[],fun p => zcC p.1 p.2⟩
noncomputable def zy8 : Con tau := ⟨[.sl (.st 21), .str],[.str],1,[],fun p => zmG p.1 p.2⟩
noncomputable def zxC : Con tau := ⟨[.str],[.str],1,[],zkY⟩
noncomputable def zy9 : Con tau := ⟨[.sl (.st 21), .sl (.st 3), .sl (.st 5)],[.str],1,[],fun p => zmH p.1 p.2.1 p.2.2⟩
noncomputable def zkH : Con tau := ⟨[.pt 27, .sl (.st 5)],[.str],1,[],fun p => zbh p.1 p.2⟩
noncomputable def zoM : Con tau := ⟨[.po 7, .str, .str],[.int, .po 7],1,[0],fun p => zch p.1 p.2.1 p.2.2⟩
noncomputable def zlu : Con tau := ⟨[.po 27, .st 22],[.po 27],0,[0],fun p => zaW p.1 p.2⟩
noncomputable def zkI : Con tau := ⟨[.po 27, .sl (.st 22)],[.po 27],0,[0],fun p => zaC p.1 p.2⟩
noncomputable def zvD : Con tau := ⟨[.sl (.st 21), .sl (.st 3), .sl (.st 22)],[.so 49 (.st 3)],1,[],fun p => zf1 p.1 p.2.1 p.2.2⟩
noncomputable def zr2 : Con tau := ⟨[.sl (.st 21), .sl (.st 3), .int, .sl (.st 4)],[.so 49 (.st 3), .int],2,[],fun p => zd8 p.1 p.2.1 p.2.2.1 p.2.2.2⟩
noncomputable def zkJ : Con tau := ⟨[.st 29, .po 28],[.bool, .po 28, .po 8],1,[1,32],fun p => zcD p.1 p.2⟩
noncomputable def zpC : Con tau := ⟨[.u8],[.bool],1,[],zcP⟩
noncomputable def zmd : Con tau := ⟨[.str, .str],[.bool],1,[],fun p => strings_ContainsAny p.1 p.2⟩
noncomputable def zpD : Con tau := ⟨[.st 29, .po 28],[.bool, .po 28, .po 8],1,[1,32],fun p => zfB p.1 p.2⟩
noncomputable def ztC : Con tau := ⟨[.str],[.bool],1,[],zit⟩
noncomputable def zlv : Con tau := ⟨[.st 29, .po 28],[.bool, .po 28, .po 8],1,[1,32],fun p => zcZ p.1 p.2⟩
noncomputable def zza : Con tau := ⟨[.str],[.st 28, .int],2,[],zmI⟩
noncomputable def zBj : Con tau := ⟨[.st 28],[.str, .int],2,[],zoU⟩
noncomputable def zvE : Con tau := ⟨[.sl .str],[.str],1,[],zhX⟩
noncomputable def zr3 : Con tau := ⟨[.str, .sl .str],[.str],1,[],fun p => zhy p.1 p.2⟩
noncomputable def zoN : Con tau := ⟨[.po 7, .str, .str],[.po 7],0,[0],fun p => zaX p.1 p.2.1 p.2.2⟩
noncomputable def zxD : Con tau := ⟨[.st 28, .sl (.st 3)],[.so 49 (.st 3), .int],2,[],fun p => zhc p.1 p.2⟩
noncomputable def zqx : Con tau := ⟨[.str],[.str],1,[],zgv⟩
noncomputable def zqy : Con tau := ⟨[.st 0],[.so 123 (.st 21)],1,[],zgw⟩
noncomputable def ztD : Con tau := ⟨[.str],[.str, .int],2,[],ziu⟩
noncomputable def zr4 : Con tau := ⟨[.str],[.str, .int],2,[],zhz⟩
noncomputable def zvF : Con tau := ⟨[.sl (.st 21)],[.str, .int],2,[],zjo⟩
noncomputable def zoO : Con tau := ⟨[.st 0, .sl (.st 3)],[.so 49 (.st 3), .int],2,[],fun p => zci p.1 p.2⟩
noncomputable def zBk : Con tau := ⟨[.str],[.bool],1,[],zoV⟩
noncomputable def zxE : Con tau := ⟨[.str, .sl (.st 3)],[.so 49 (.st 3)],1,[],fun p => zhd p.1 p.2⟩
noncomputable def zxF : Con tau := ⟨[.st 0, .int, .st 2],[.st 15, .int],2,[],fun p => zhe p.1 p.2.1 p.2.2⟩
noncomputable def zr5 : Con tau := ⟨[.st 6],[.so 49 (.st 3)],1,[],zaI⟩
noncomputable def ztE : Con tau := ⟨[.st 0, .st 6, .st 2, .sl (.st 4)],[.st 15, .int],2,[],fun p => zb7 p.1 p.2.1 p.2.2.1 p.2.2.2⟩
noncomputable def zvG : Con tau := ⟨[],[.bool],1,[],fun _ => zjp⟩
noncomputable def zxG : Con tau := ⟨[.st 1],[.st 1],1,[],ziW⟩
noncomputable def zzb : Con tau := ⟨[.st 0],[.st 31],1,[],zmJ⟩
noncomputable def zzc : Con tau := ⟨[.sl (.st 1)],[.so 86 (.st 1)],1,[],zkf⟩
noncomputable def zzd : Con tau := ⟨[.st 0],[.st 31],1,[],zmK⟩
noncomputable def zze : Con tau := ⟨[.str],[.str],1,[],zf2⟩
noncomputable def zzf : Con tau := ⟨[.st 2],[.st 15],1,[],zmL⟩
noncomputable def zzg : Con tau := ⟨[.sl (.st 5)],[.so 196 (.st 5)],1,[],zkg⟩
noncomputable def zzh : Con tau := ⟨[.st 4],[.st 32],1,[],zmM⟩
noncomputable def zzi : Con tau := ⟨[.sl (.st 4)],[.so 63 (.st 4)],1,[],zmN⟩
noncomputable def zzj : Con tau := ⟨[.sl (.st 4)],[.so 63 (.st 4)],1,[],zmO⟩
noncomputable def zlw : Con tau := ⟨[.st 33],[.int, .bool, .po 8],2,[32],zbH⟩
noncomputable def zj8 : Con tau := ⟨[.st 33],[.int, .int, .bool, .po 8],3,[32],za1⟩
noncomputable def zpE : Con tau := ⟨[.str],[.bool],1,[],zbU⟩
noncomputable def zme : Con tau := ⟨[.u8],[.bool],1,[],zaf⟩
noncomputable def zlx : Con tau := ⟨[.st 33],[.int, .bool, .po 8],2,[32],zbI⟩
noncomputable def znM : Con tau := ⟨[.str],[.st 15, .int],2,[],zei⟩
noncomputable def zoP : Con tau := ⟨[.str],[.st 15, .int],2,[],zeW⟩
noncomputable def zpF : Con tau := ⟨[.int, .str],[.st 15, .int],2,[],fun p => zfE p.1 p.2⟩
noncomputable def zqz : Con tau := ⟨[.st 2],[.str, .int],2,[],zgB⟩
noncomputable def zxH : Con tau := ⟨[.st 2],[.bool],1,[],zkZ⟩
noncomputable def zxJ : Con tau := ⟨[.st 2],[.int],1,[],zk0⟩
noncomputable def zxK : Con tau := ⟨[.st 2],[.int],1,[],zk1⟩
noncomputable def ztF : Con tau := ⟨[.int, .int],[.str],1,[],fun p => zeX p.1 p.2⟩
noncomputable def zqA (n : Nat) : Con tau := ⟨[.int, .int],[.str],1,[],fun p => zcu n p.1 p.2⟩
noncomputable def zxL : Con tau := ⟨[.int, .int],[.str],1,[],fun p => zhf p.1 p.2⟩
noncomputable def zvH : Con tau := ⟨[.str, .u8],[.so 9 .str],1,[],fun p => zf3 p.1 p.2⟩
noncomputable def zt5 : Con tau := ⟨[.u8, .str],[.bool],1,[],fun p => zgC p.1 p.2⟩
noncomputable def zoQ : Con tau := ⟨[.u8],[.bool],1,[],zf5⟩
noncomputable def zr6 : Con tau := ⟨[.str],[.int],1,[],zfk⟩
noncomputable def zr7 : Con tau := ⟨[.u8],[.bool],1,[],zkh⟩
noncomputable def zvI : Con tau := ⟨[.str],[.bool],1,[],zf6⟩
noncomputable def zvJ : Con tau := ⟨[.u8, .int],[.int],1,[],fun p => zhY p.1 p.2⟩
noncomputable def zvK : Con tau := ⟨[.str, .int],[.str, .bool],2,[],fun p => zjq p.1 p.2⟩
noncomputable def zxM : Con tau := ⟨[.str, .str],[.bool],1,[],fun p => zk2 p.1 p.2⟩
noncomputable def zxN : Con tau := ⟨[.str, .int, .int],[.int, .int],2,[],fun p => ziY p.1 p.2.1 p.2.2⟩
noncomputable def zvL : Con tau := ⟨[.str, .int],[.int],1,[],fun p => zhZ p.1 p.2⟩
noncomputable def zxO : Con tau := ⟨[.str],[.bool],1,[],ziZ⟩
noncomputable def zr8 : Con tau := ⟨[.u8],[.bool],1,[],zeY⟩
noncomputable def zvM : Con tau := ⟨[.str],[.bool],1,[],zh0⟩
noncomputable def zzk : Con tau := ⟨[.str],[.bool],1,[],zmP⟩
noncomputable def zjc : Con tau := ⟨[.u8],[.bool],1,[],zcj⟩
noncomputable def zr9 : Con tau := ⟨[.u8],[.bool],1,[],ziJ⟩
noncomputable def zxP : Con tau := ⟨[.str],[.bool],1,[],zk3⟩
noncomputable def zBl : Con tau := ⟨[.str],[.st 13],1,[],zmm⟩
noncomputable def zvN : Con tau := ⟨[.str],[.st 13, .int],2,[],zf8⟩
noncomputable def zxQ : Con tau := ⟨[.str],[.int],1,[],zk4⟩
noncomputable def zpZ : Con tau := ⟨[.u8],[.bool],1,[],zi0⟩
noncomputable def zBm : Con tau := ⟨[.str, .str],[.bool],1,[],fun p => zmn p.1 p.2⟩
noncomputable def zxR (n : Nat) : Con tau := ⟨[.str, .str],[.bool],1,[],fun p => zfR n p.1 p.2⟩
noncomputable def zxS : Con tau := ⟨[.str],[.bool],1,[],zk5⟩
noncomputable def zvO : Con tau := ⟨[.str],[.bool],1,[],zh1⟩
noncomputable def ztG : Con tau := ⟨[.st 14, .str],[.st 14, .bool],2,[],fun p => zgF p.1 p.2⟩
noncomputable def zxT : Con tau := ⟨[.str],[.str],1,[],zaQ⟩
noncomputable def zvP : Con tau := ⟨[.str, .str],[.st 14, .int],2,[],fun p => zjr p.1 p.2⟩
noncomputable def zoR : Con tau := ⟨[.u8],[.bool],1,[],zeB⟩
noncomputable def zvQ : Con tau := ⟨[.int, .str],[.st 15, .int],2,[],fun p => zjs p.1 p.2⟩
noncomputable def zxU : Con tau := ⟨[.st 2],[.str, .int],2,[],zk6⟩
noncomputable def ztH : Con tau := ⟨[.str],[.bool],1,[],ziD⟩
noncomputable def zoS : Con tau := ⟨[.u8],[.bool],1,[],zf9⟩
noncomputable def zxV : Con tau := ⟨[.str],[.str],1,[],zhg⟩
noncomputable def zvR : Con tau := ⟨[.st 3],[.int],1,[],zjt⟩
noncomputable def zBn : Con tau := ⟨[.st 3, .str],[.bool],1,[],fun p => zoW p.1 p.2⟩
noncomputable def ztI : Con tau := ⟨[.sl (.st 3), .str],[.so 9 .str],1,[],fun p => zgK p.1 p.2⟩
noncomputable def zvS : Con tau := ⟨[.st 2],[.int],1,[],zju⟩
noncomputable def zvT : Con tau := ⟨[.st 2],[.int],1,[],zjv⟩
noncomputable def zxW : Con tau := ⟨[.st 2, .st 2],[.bool],1,[],fun p => zk7 p.1 p.2⟩
noncomputable def zxX : Con tau := ⟨[.sl (.st 3), .sl (.st 3)],[.bool],1,[],fun p => zi1 p.1 p.2⟩
noncomputable def zxY : Con tau := ⟨[.st 2, .st 2],[.bool],1,[],fun p => zk8 p.1 p.2⟩
noncomputable def zvU : Con tau := ⟨[.str],[.bool],1,[],zh2⟩
noncomputable def zvV : Con tau := ⟨[.str, .int],[.bool],1,[],fun p => zh3 p.1 p.2⟩
noncomputable def zsa : Con tau := ⟨[.str, .int, .sl (.st 4)],[.bool],1,[],fun p => zfo p.1 p.2.1 p.2.2⟩
noncomputable def zvW : Con tau := ⟨[.str],[.str, .int],2,[],zjw⟩
noncomputable def zvX : Con tau := ⟨[.str],[.int],1,[],zjx⟩
noncomputable def zvY : Con tau := ⟨[.str],[.so 9 .str, .int],2,[],zjy⟩
noncomputable def ztJ : Con tau := ⟨[.sl .str],[.so 9 .str, .int],2,[],zgO⟩
noncomputable def zpG : Con tau := ⟨[.sl (.st 3)],[.so 9 .str],1,[],zd2⟩
noncomputable def zxZ : Con tau := ⟨[.str, .st 2, .sl (.st 4)],[.bool],1,[],fun p => zk9 p.1 p.2.1 p.2.2⟩
noncomputable def zx0 : Con tau := ⟨[.st 2, .sl (.st 3), .sl (.st 4)],[.so 49 (.st 3)],1,[],fun p => zi2 p.1 p.2.1 p.2.2⟩
noncomputable def zzl : Con tau := ⟨[.str, .sl .str],[.bool],1,[],fun p => zmQ p.1 p.2⟩
noncomputable def zly : Con tau := ⟨[.st 34, .sl .str],[.st 6, .int, .po 7],2,[32],fun p => zc1 p.1 p.2⟩
noncomputable def zkK : Con tau := ⟨[.st 34, .sl .str],[.st 6, .int, .po 7],2,[32],fun p => zcE p.1 p.2⟩
noncomputable def zzm : Con tau := ⟨[.st 2, .int],[.st 6, .int],2,[],fun p => zmR p.1 p.2⟩
noncomputable def zqB : Con tau := ⟨[.st 2],[.st 6, .int],2,[],zgQ⟩
noncomputable def zm3 : Con tau := ⟨[.st 0, .st 2, .sl (.st 4)],[.bool],1,[],fun p => zcy p.1 p.2.1 p.2.2⟩
theorem zj : Tryz.prog.follows .mixedOrders = true := by kernel_rfl
theorem hNm : ∀ (f : FuncId) (fn : Func),Tryz.prog.funcs[f]? = some fn → (fn.name == "runtime.NumGoroutine") = false := zDa (by kernel_rfl)
theorem heq1 : ∀ x y,G.eq 1 x y = eqD (G.fs 1) (G.dtor 1 x) (G.dtor 1 y) := fun ⟨a0,a1⟩ ⟨b0,b1⟩ => by
 show ((⟨a0,a1⟩ : api_Swap) == ⟨b0,b1⟩) = (a0 == b0 && a1 == b1)
 rw [Bool.eq_iff_iff]
 simp [api_Swap.mk.injEq]
theorem heq3 : ∀ x y,G.eq 3 x y = eqD (G.fs 3) (G.dtor 3 x) (G.dtor 3 y) := fun ⟨a0,a1⟩ ⟨b0,b1⟩ => by
 show ((⟨a0,a1⟩ : api_Field) == ⟨b0,b1⟩) = (a0 == b0 && a1 == b1)
 rw [Bool.eq_iff_iff]
 simp [api_Field.mk.injEq]
theorem heq5 : ∀ x y,G.eq 5 x y = eqD (G.fs 5) (G.dtor 5 x) (G.dtor 5 y) := fun ⟨a0,a1⟩ ⟨b0,b1⟩ => by
 show ((⟨a0,a1⟩ : api_Part) == ⟨b0,b1⟩) = (a0 == b0 && a1 == b1)
 rw [Bool.eq_iff_iff]
 simp [api_Part.mk.injEq]
theorem heq13 : ∀ x y,G.eq 13 x y = eqD (G.fs 13) (G.dtor 13 x) (G.dtor 13 y) := fun ⟨a0,a1,a2⟩ ⟨b0,b1,b2⟩ => by
 show ((⟨a0,a1,a2⟩ : api_Host) == ⟨b0,b1,b2⟩) = (a0 == b0 && (a1 == b1 && (a2 == b2)))
 rw [Bool.eq_iff_iff]
 simp [api_Host.mk.injEq]
theorem heq18 : ∀ x y,G.eq 18 x y = eqD (G.fs 18) (G.dtor 18 x) (G.dtor 18 y) := fun ⟨a0,a1,a2⟩ ⟨b0,b1,b2⟩ => by
 show ((⟨a0,a1,a2⟩ : api_Attr) == ⟨b0,b1,b2⟩) = (a0 == b0 && (a1 == b1 && (a2 == b2)))
 rw [Bool.eq_iff_iff]
 simp [api_Attr.mk.injEq]
theorem heq21 : ∀ x y,G.eq 21 x y = eqD (G.fs 21) (G.dtor 21 x) (G.dtor 21 y) := fun ⟨a0,a1⟩ ⟨b0,b1⟩ => by
 show ((⟨a0,a1⟩ : api_Param) == ⟨b0,b1⟩) = (a0 == b0 && a1 == b1)
 rw [Bool.eq_iff_iff]
 simp [api_Param.mk.injEq]
theorem heq23 : ∀ x y,G.eq 23 x y = eqD (G.fs 23) (G.dtor 23 x) (G.dtor 23 y) := fun ⟨a0,a1,a2⟩ ⟨b0,b1,b2⟩ => by
 show ((⟨a0,a1,a2⟩ : api_Guard) == ⟨b0,b1,b2⟩) = (a0 == b0 && (a1 == b1 && (a2 == b2)))
 rw [Bool.eq_iff_iff]
 simp [api_Guard.mk.injEq]
theorem heq28 : ∀ x y,G.eq 28 x y = eqD (G.fs 28) (G.dtor 28 x) (G.dtor 28 y) := fun ⟨a0,a1,a2,a3⟩ ⟨b0,b1,b2,b3⟩ => by
 show ((⟨a0,a1,a2,a3⟩ : api_Via) == ⟨b0,b1,b2,b3⟩) = (a0 == b0 && (a1 == b1 && (a2 == b2 && (a3 == b3))))
 rw [Bool.eq_iff_iff]
 simp [api_Via.mk.injEq]
theorem heq : ∀ n ∈ [1,3,5,13,18,21,23,28], ∀ x y,G.eq n x y = eqD (G.fs n) (G.dtor n x) (G.dtor n y) := by
 intro n hn
 simp only [List.mem_cons,List.not_mem_nil,or_false] at hn
 rcases hn with rfl | rfl | rfl | rfl | rfl | rfl | rfl | rfl
 ·exact heq1
 ·exact heq3
 ·exact heq5
 ·exact heq13
 ·exact heq18
 ·exact heq21
 ·exact heq23
 ·exact heq28
theorem tyk : ∀ cs n,TyOk (⟨Tryz.prog,G,tyl,cs,n,fun _ => .bool false⟩ : Cx tau) := zDb [1,3,5,13,18,21,23,28] (by kernel_rfl) (by kernel_rfl) heq
theorem zgV : ∀ cs n,TyOk (⟨Tryz.prog,G0,tyl,cs,n,fun _ => .bool false⟩ : Cx tau) := zDb [1,3,5,13,18,21,23,28] (by kernel_rfl) (by kernel_rfl) heq
theorem zAs {w : World} (hG : ze3 w) : zm4 Tryz.prog G (fun b => w.heap[b]?) := ⟨fun p hp => (by cases hp),fun w' on => hG.same (zFf on) fun g hg => by
 have hlt : g < w.heap.size := Nat.lt_of_lt_of_le hg hG.size
 rw [Array.getElem?_eq_getElem hlt]
 exact on g _ (Array.getElem?_eq_getElem hlt)⟩
end
end Go.Proofs
end
section
set_option linter.unusedVariables false
set_option maxRecDepth 10000
namespace Go.Proofs
open Go.Dk Go.Dm Go.RowKit Go.Rk
theorem zoA (p : DP tau [.st 0, .st 2, .sl (.st 4)]) (hg : rgXs G [.st 0, .st 2, .sl (.st 4)] p) : zcy p.1 p.2.1 p.2.2 = some true := by
 have h2 : rgL [.int, .str, .str, .int, .str, .int, .sl (.st 3)] (G.dtor 2 p.2.1) := hg.2.1
 exact stays p.1 p.2.1 p.2.2 h2.2.2.2.1.2 h2.2.2.2.2.2.1.2
end Go.Proofs
end
section
set_option linter.unusedVariables false
set_option maxRecDepth 100000
namespace Go.Proofs
open Go.Dk Go.Dm Go.RowKit Go.Rk
noncomputable section
theorem zi5 : COk Tryz.prog G 104 zpr := zx4 rfl ⟨_,Tryz.func104,by kernel_rfl,by kernel_rfl⟩ fun w h xs R ad c on gl hm hs hc => ze5 xs R w (gl.2 w on).1 hs hc hm
theorem zn7 : COk Tryz.prog G 291 zps := zx4 rfl ⟨_,Tryz.func291,by kernel_rfl,by kernel_rfl⟩ fun w h xs R ad c on gl hm hs hc => zfO xs R w (gl.2 w on).1 hs hc hm
theorem zen : COk Tryz.prog G 49 ztn := zeq rfl rfl rfl rfl ⟨_,Tryz.func49,by kernel_rfl,by kernel_rfl⟩ fun w h p r on gl hm => zsC p.1 p.2 r w (gl.2 w on).1 hm
theorem zrc : COk Tryz.prog G 79 zto := zC8 ⟨_,Tryz.func79,by kernel_rfl,by kernel_rfl⟩ fun w h xs s R ad c on gl hm hs hc => zsD xs s R w (gl.2 w on).1 (by rw [show cells zgS xs = xs.map str from zBq xs]; exact hs) hc hm
theorem zhj : COk Tryz.prog G 120 zvh := zeq rfl rfl rfl rfl ⟨_,Tryz.func120,by kernel_rfl,by kernel_rfl⟩ fun w h p r on gl hm => ztQ p.1 p.2 r w (gl.2 w on).1 hm
theorem zmV : COk Tryz.prog G 128 znD := zeq rfl rfl rfl rfl ⟨_,Tryz.func128,by kernel_rfl,by kernel_rfl⟩ fun w h p r on gl hm => zm6 p.1 p.2 r w (gl.2 w on) hm
theorem zfH : COk Tryz.prog G 137 zoE := zeq rfl rfl rfl rfl ⟨_,Tryz.func137,by kernel_rfl,by kernel_rfl⟩ fun w h p r on gl hm => znY p.1 p.2 r w (gl.2 w on).1 hm
theorem zmW : COk Tryz.prog G 176 znE := zFc rfl ⟨_,Tryz.func176,by kernel_rfl,by kernel_rfl⟩ fun w h xs i ys R ad ad2 c c2 F on gl hF hm hO => zEU xs i ys R w hO hm
theorem zbV : COk Tryz.prog G 212 ziT := zeq rfl rfl rfl rfl ⟨_,Tryz.func212,by kernel_rfl,by kernel_rfl⟩ fun w h p r on gl hm => zm5 p.1 p.2 r w (gl.2 w on).1 hm
theorem zlb : COk Tryz.prog G 232 zrL := zC7 rfl rfl ⟨_,Tryz.func232,by kernel_rfl,by kernel_rfl⟩ fun w h p R on gl hm => by
 have := zqF p.1 p.2 R w (gl.2 w on).1 hm
 rw [show zmf G .str R = cells zgS R from rfl]
 exact this
theorem zmX : COk Tryz.prog G 254 znF := zeq rfl rfl rfl rfl ⟨_,Tryz.func254,by kernel_rfl,by kernel_rfl⟩ fun w h p r on gl hm => zm7 p.1 p.2 r w (gl.2 w on).1 hm
theorem znt : COk Tryz.prog G 309 zoF := zeq rfl rfl rfl rfl ⟨_,Tryz.func309,by kernel_rfl,by kernel_rfl⟩ fun w h p r on gl hm => znX p.1 p.2 r w (gl.2 w on).1 hm
theorem zlG : COk Tryz.prog G 326 zmZ := zeq rfl rfl rfl rfl ⟨_,Tryz.func326,by kernel_rfl,by kernel_rfl⟩ fun w h p r on gl hm => zmt p.1 p.2.1 p.2.2 r w (gl.2 w on).1 hm
-- doorstep/octet.Lower
theorem zjB : COk Tryz.prog G0 177 zkz := zd zj hNm zgV CLs.nil 12 Tryz.func177 (by kernel_rfl) (hn := .e) (by unfold zi; kernel_rfl)
-- doorstep/octet.IsAlpha
theorem zfq : COk Tryz.prog G0 149 zl7 := zd zj hNm zgV (CLs.nil.add zjB) 11 Tryz.func149 (by kernel_rfl) (hn := .e) (by unfold zi; kernel_rfl)
-- doorstep/octet.IsDigit
theorem zdR : COk Tryz.prog G0 147 zl8 := zd zj hNm zgV CLs.nil 9 Tryz.func147 (by kernel_rfl) (hn := .e) (by unfold zi; kernel_rfl)
theorem ib0 (s : Str) (c : UInt8) (R : Int) (w0 : World) (hm : strings_IndexByte s c = some R) : Calls Tryz.prog 212 #[str s,zcF c] w0 fun e w' => e = .returned (int R) ∧ Below w0.heap.size w0 w' := by
 refine (Tryz.strings_IndexByte ⟨s.toArray⟩ c.toNat w0).mono fun e w' ⟨he,hw⟩ => ?_
 subst he hw
 refine ⟨?_,Below.refl _ _⟩
 unfold strings_IndexByte at hm
 rw [zp2] at hm
 cases hm
 simp
theorem zh8 : COk Tryz.prog G0 212 ziT := zeq rfl rfl rfl rfl ⟨_,Tryz.func212,by kernel_rfl,by kernel_rfl⟩ fun w h p r on gl hm => ib0 p.1 p.2 r w hm
-- doorstep/octet.one
theorem zi6 : COk Tryz.prog G0 150 zrN := zd zj hNm zgV (CLs.nil.add zh8) 9 Tryz.func150 (by kernel_rfl) (hn := .e) (by unfold zi; kernel_rfl)
-- doorstep/octet.IsToken
theorem zqd : COk Tryz.prog G0 83 zrO := zd zj hNm zgV (((CLs.nil.add zi6).add zdR).add zfq) 13 Tryz.func83 (by kernel_rfl) (hn := .e) (by unfold zi; kernel_rfl)
-- doorstep/octet.IsHex
theorem zsF : COk Tryz.prog G0 249 zvj := zd zj hNm zgV ((CLs.nil.add zjB).add zdR) 15 Tryz.func249 (by kernel_rfl) (hn := .e) (by unfold zi; kernel_rfl)
-- doorstep/uriref.scheme$1
theorem zn8 : COk Tryz.prog G0 323 zpx := zd zj hNm zgV ((CLs.nil.add zdR).add zfq) 21 Tryz.func323 (by kernel_rfl) (hn := .e) (by unfold zi; kernel_rfl)
-- doorstep/cookie.part$1
theorem zqe : COk Tryz.prog G0 284 zrZ := zd zj hNm zgV CLs.nil 3 Tryz.func284 (by kernel_rfl) (hn := .e) (by unfold zi; kernel_rfl)
-- doorstep/octet.IsVisible
theorem zgg : COk Tryz.prog G0 84 zj3 := zd zj hNm zgV CLs.nil 9 Tryz.func84 (by kernel_rfl) (hn := .e) (by unfold zi; kernel_rfl)
-- doorstep/octet.IsBlank
theorem zlc : COk Tryz.prog G0 85 zl3 := zd zj hNm zgV CLs.nil 9 Tryz.func85 (by kernel_rfl) (hn := .e) (by unfold zi; kernel_rfl)
-- doorstep/octet.IsValue
theorem zld : COk Tryz.prog G0 48 zl4 := zd zj hNm zgV ((CLs.nil.add zlc).add zgg) 13 Tryz.func48 (by kernel_rfl) (hn := .e) (by unfold zi; kernel_rfl)
-- doorstep/cookie.plain
theorem zrd : COk Tryz.prog G0 286 ztz := zd zj hNm zgV ((CLs.nil.add zh8).add zgg) 10 Tryz.func286 (by kernel_rfl) (hn := .e) (by unfold zi; kernel_rfl)
-- doorstep/tmpl.small
theorem zur : COk Tryz.prog G0 334 zxx := zd zj hNm zgV CLs.nil 9 Tryz.func334 (by kernel_rfl) (hn := .e) (by unfold zi; kernel_rfl)
-- doorstep/tmpl.plain
theorem zus : COk Tryz.prog G0 333 zxy := zd zj hNm zgV (CLs.nil.add zld) 9 Tryz.func333 (by kernel_rfl) (hn := .e) (by unfold zi; kernel_rfl)
-- (doorstep/via.reader).by$1
theorem zn9 : COk Tryz.prog G0 294 zpC := zd zj hNm zgV CLs.nil 5 Tryz.func294 (by kernel_rfl) (hn := .e) (by unfold zi; kernel_rfl)
-- doorstep/startline.request$1
theorem zlo : COk Tryz.prog G0 144 zme := zd zj hNm zgV CLs.nil 5 Tryz.func144 (by kernel_rfl) (hn := .e) (by unfold zi; kernel_rfl)
-- doorstep/doorstepref01.Value
theorem zsG : COk Tryz.prog G0 99 zoR := zd zj hNm zgV CLs.nil 13 Tryz.func99 (by kernel_rfl) (hn := .e) (by unfold zi; kernel_rfl)
-- doorstep/doorstepref01.In
theorem ziK : COk Tryz.prog G0 163 zt5 := zd zj hNm zgV CLs.nil 17 Tryz.func163 (by kernel_rfl) (hn := .n 1 (.q (.n 1 (.w [(0, .u8),(1, .str),(5, .int)] [] (fun m t => zf4 t.1 t.2.1 m t.2.2) fun n0 => .e)) .e)) (by unfold zi; kernel_rfl)
-- doorstep/doorstepref01.Tok
theorem zwC : COk Tryz.prog G0 100 zr7 := zd zj hNm zgV (CLs.nil.add ziK) 5 Tryz.func100 (by kernel_rfl) (hn := .e) (by unfold zi; kernel_rfl)
-- doorstep/doorstepref01.Blank
theorem zsH : COk Tryz.prog G0 101 zoS := zd zj hNm zgV CLs.nil 9 Tryz.func101 (by kernel_rfl) (hn := .e) (by unfold zi; kernel_rfl)
-- doorstep/doorstepref01.Digit
theorem zsI : COk Tryz.prog G0 157 zoQ := zd zj hNm zgV (CLs.nil.add ziK) 5 Tryz.func157 (by kernel_rfl) (hn := .e) (by unfold zi; kernel_rfl)
-- doorstep/doorstepref01.Hex
theorem zwD : COk Tryz.prog G0 220 zr8 := zd zj hNm zgV (CLs.nil.add ziK) 5 Tryz.func220 (by kernel_rfl) (hn := .e) (by unfold zi; kernel_rfl)
-- doorstep/doorstepref01.Unreserved
theorem ziL : COk Tryz.prog G0 221 zjc := zd zj hNm zgV (CLs.nil.add ziK) 5 Tryz.func221 (by kernel_rfl) (hn := .e) (by unfold zi; kernel_rfl)
-- doorstep/doorstepref01.Sub
theorem zpR : COk Tryz.prog G0 222 zr9 := zd zj hNm zgV (CLs.nil.add ziK) 5 Tryz.func222 (by kernel_rfl) (hn := .e) (by unfold zi; kernel_rfl)
-- doorstep/octet.IsUnreserved
theorem zhH : COk Tryz.prog G0 274 zie := zd zj hNm zgV (((CLs.nil.add zi6).add zdR).add zfq) 13 Tryz.func274 (by kernel_rfl) (hn := .e) (by unfold zi; kernel_rfl)
-- doorstep/octet.IsSub
theorem zna : COk Tryz.prog G0 275 zoK := zd zj hNm zgV (CLs.nil.add zi6) 5 Tryz.func275 (by kernel_rfl) (hn := .e) (by unfold zi; kernel_rfl)
-- doorstep/octet.IsPath
theorem zre : COk Tryz.prog G0 248 zno := zd zj hNm zgV (((CLs.nil.add zi6).add zna).add zhH) 13 Tryz.func248 (by kernel_rfl) (hn := .e) (by unfold zi; kernel_rfl)
-- doorstep/doorstepref01.Path
theorem zut : COk Tryz.prog G0 276 zpZ := zd zj hNm zgV ((CLs.nil.add zpR).add ziL) 17 Tryz.func276 (by kernel_rfl) (hn := .e) (by unfold zi; kernel_rfl)
theorem zhI : ∀ h,zm4 Tryz.prog G0 h := fun h => ⟨fun p hp => (by cases hp),trivial⟩
theorem zhJ : zzz Tryz.prog G0 := fun p hp => by cases hp
theorem fpok : zzz Tryz.prog G := zaK (zdU (m := zas) zhI zhJ zld) (zaK (zdU (m := zd4) zhI zhJ zqd) (zaK (zdU (m := zbR) zhI zhJ zgg) (zaK (zdU (m := zfc) zhI zhJ zlc) (zaK (zdU (m := zeB) zhI zhJ zsG) (zaK (zdU (m := zkh) zhI zhJ zwC) (zaK (zdU (m := zf9) zhI zhJ zsH) (zaK (zdU (m := zaf) zhI zhJ zlo) (zaK (zdU (m := zat) zhI zhJ zdR) (zaK (zdU (m := zb9) zhI zhJ zfq) (zaK (zdU (m := zf5) zhI zhJ zsI) (zaK (zdU (m := zeY) zhI zhJ zwD) (zaK (zdU (m := zcj) zhI zhJ ziL) (zaK (zdU (m := ziJ) zhI zhJ zpR) (zaK (zdU (m := zeP) zhI zhJ zre) (zaK (zdU (m := zdt) zhI zhJ zsF) (zaK (zdU (m := zbn) zhI zhJ zhH) (zaK (zdU (m := zfW) zhI zhJ zna) (zaK (zdU (m := zi0) zhI zhJ zut) (zaK (zdU (m := zd6) zhI zhJ zqe) (zaK (zdU (m := zeU) zhI zhJ zrd) (zaK (zdU (m := zcP) zhI zhJ zn9) (zaK (zdU (m := zcM) zhI zhJ zn8) (zaK (zdU (m := zha) zhI zhJ zus) (zaK (zdU (m := zg9) zhI zhJ zur) (fp_nil)))))))))))))))))))))))))
-- doorstep/bag.New
theorem zdg : COk Tryz.prog G 57 zCV := zd zj hNm tyk (CLs.nil.add zi5) 7 Tryz.func57 (by kernel_rfl) (hn := .e) (by unfold zi; kernel_rfl)
-- (*doorstep/bag.Bag).List
theorem zaZ : COk Tryz.prog G 63 ztp := zd zj hNm tyk (CLs.nil.add zi5) 10 Tryz.func63 (by kernel_rfl) (hn := .e) (by unfold zi; kernel_rfl)
-- doorstep/octet.Lower
theorem znb : COk Tryz.prog G 177 zkz := zd zj hNm tyk CLs.nil 12 Tryz.func177 (by kernel_rfl) (hn := .e) (by unfold zi; kernel_rfl)
theorem zb0 : COk Tryz.prog G 114 zxn := zeq rfl rfl rfl rfl ⟨_,Tryz.func114,by kernel_rfl,by kernel_rfl⟩ fun w h p r on gl hm => by
 have hm : (if List.length (α := UInt8) p < 4294967281 then List.mapM zaU p else none) = some r := hm
 split at hm
 ·rename_i hs
  exact zBx zaU ⟨List.toArray (α := UInt8) p⟩ r w (gl.2 w on).1 hs hm fun b c w hbc _ => zsd (k := zkz) rfl rfl rfl rfl zjB zhJ (p := b) (r := c) hbc (h := fun _ => none) (fun _ _ e => by cases e) (zhI _)
 ·cases hm
-- doorstep/octet.Same
theorem zcT : COk Tryz.prog G 130 zxo := zd zj hNm tyk (CLs.nil.add zb0) 10 Tryz.func130 (by kernel_rfl) (hn := .e) (by unfold zi; kernel_rfl)
-- (*doorstep/bag.Bag).Values
theorem zeH : COk Tryz.prog G 75 zqu := zd zj hNm tyk ((CLs.nil.add zcT).add zaZ) 26 Tryz.func75 (by kernel_rfl) (hn := .n 2 (.q (.n 1 (.w [(1, .str),(5, .so 9 .str),(9, .so 49 (.st 3)),(10, .int),(11, .int)] [] (fun m t => zbM t.1 t.2.2.1 t.2.2.2.1 m t.2.1 t.2.2.2.2) fun n0 => .e)) .e)) (by unfold zi; kernel_rfl)
-- doorstep/scan.New
theorem zfI : COk Tryz.prog G 140 zBg := zd zj hNm tyk CLs.nil 6 Tryz.func140 (by kernel_rfl) (hn := .e) (by unfold zi; kernel_rfl)
-- (*doorstep/scan.Scanner).Rest
theorem zdd : COk Tryz.prog G 148 znG := zd zj hNm tyk CLs.nil 14 Tryz.func148 (by kernel_rfl) (hn := .e) (by unfold zi; kernel_rfl)
-- (*doorstep/scan.Scanner).End
theorem zaN : COk Tryz.prog G 146 zoG := zd zj hNm tyk (CLs.nil.add zdd) 6 Tryz.func146 (by kernel_rfl) (hn := .e) (by unfold zi; kernel_rfl)
-- (*doorstep/scan.Scanner).At
theorem zcU : COk Tryz.prog G 211 zpt := zd zj hNm tyk CLs.nil 9 Tryz.func211 (by kernel_rfl) (hn := .e) (by unfold zi; kernel_rfl)
-- (*doorstep/scan.Scanner).Peek
theorem za5 : COk Tryz.prog G 210 znH := zd zj hNm tyk (CLs.nil.add zaN) 15 Tryz.func210 (by kernel_rfl) (hn := .e) (by unfold zi; kernel_rfl)
-- doorstep/octet.IsVisible
theorem zoa : COk Tryz.prog G 84 zj3 := zd zj hNm tyk CLs.nil 9 Tryz.func84 (by kernel_rfl) (hn := .e) (by unfold zi; kernel_rfl)
-- doorstep/octet.IsBlank
theorem zqf : COk Tryz.prog G 85 zl3 := zd zj hNm tyk CLs.nil 9 Tryz.func85 (by kernel_rfl) (hn := .e) (by unfold zi; kernel_rfl)
-- doorstep/octet.IsValue
theorem zle : COk Tryz.prog G 48 zl4 := zd zj hNm tyk ((CLs.nil.add zqf).add zoa) 13 Tryz.func48 (by kernel_rfl) (hn := .e) (by unfold zi; kernel_rfl)
-- (*doorstep/scan.Scanner).Back
theorem zlp : COk Tryz.prog G 303 zl5 := zd zj hNm tyk (CLs.nil.add zcU) 19 Tryz.func303 (by kernel_rfl) (hn := .e) (by unfold zi; kernel_rfl)
-- (*doorstep/scan.Scanner).Byte
theorem zH : COk Tryz.prog G 142 zl6 := zd zj hNm tyk (CLs.nil.add za5) 26 Tryz.func142 (by kernel_rfl) (hn := .e) (by unfold zi; kernel_rfl)
-- (*doorstep/commas.splitter).end
theorem zfS : COk Tryz.prog G 202 zkA := zd zj hNm tyk ((CLs.nil.add zcU).add zen) 36 Tryz.func202 (by kernel_rfl) (hn := .j [(9000, .po 9)] [(0,9000)] (fun t => zbw t) .e .e) (by unfold zi; kernel_rfl)
-- (*doorstep/commas.splitter).comment
theorem zii : COk Tryz.prog G 262 ziU := zd zj hNm tyk ((CLs.nil.add zH).add za5) 52 Tryz.func262 (by kernel_rfl) (hn := .n 1 (.q (.n 1 (.w [(9000, .po 9),(3, .int)] [(0,9000)] (fun m t => zC m t.1 t.2) fun n0 => .e)) .e)) (by unfold zi; kernel_rfl)
-- doorstep/quoted.Read
theorem zqg : COk Tryz.prog G 263 zrM := zFe zj hNm tyk (((((CLs.nil.add zlp).add zle).add za5).add zH).add zcU) (.lf 302 (fnS Tryz.func302)) 41 60 Tryz.func263 (by kernel_rfl) (hn := .n 4 (.q (.w [(4, .int),(5, .po 10),(6, .bool)] [(9000,100005)] (fun m t => zbk t.1 m t.2.1 t.2.2) fun n0 => .q (.j [(4, .int),(5, .po 10),(6, .bool),(25, .bool)] [(9000,100005)] (fun t => zeJ (zbk t.1 n0) t.1 t.2.1 t.2.2.1 t.2.2.2) .e .e) .e) .e)) (by unfold zi opJ zxI; kernel_rfl)
-- (*doorstep/commas.splitter).step
theorem zjC : COk Tryz.prog G 201 zj4 := zd zj hNm tyk ((((((CLs.nil.add zqg).add za5).add zii).add zfS).add zH).add zcU) 55 Tryz.func201 (by kernel_rfl) (hn := .e) (by unfold zi; kernel_rfl)
-- doorstep/commas.Split
theorem zlH : COk Tryz.prog G 132 ztq := zd zj hNm tyk ((((CLs.nil.add zfS).add zjC).add zaN).add zfI) 27 Tryz.func132 (by kernel_rfl) (hn := .n 2 (.q (.w [(0, .str),(4, .po 9)] [] (fun m t => zdV t.1 m t.2) fun n0 => .e) .e)) (by unfold zi; kernel_rfl)
-- doorstep/octet.IsAlpha
theorem zlf : COk Tryz.prog G 149 zl7 := zd zj hNm tyk (CLs.nil.add znb) 11 Tryz.func149 (by kernel_rfl) (hn := .e) (by unfold zi; kernel_rfl)
-- doorstep/octet.IsDigit
theorem zh5 : COk Tryz.prog G 147 zl8 := zd zj hNm tyk CLs.nil 9 Tryz.func147 (by kernel_rfl) (hn := .e) (by unfold zi; kernel_rfl)
-- doorstep/octet.one
theorem zlI : COk Tryz.prog G 150 zrN := zd zj hNm tyk (CLs.nil.add zbV) 9 Tryz.func150 (by kernel_rfl) (hn := .e) (by unfold zi; kernel_rfl)
-- doorstep/octet.IsToken
theorem zaS : COk Tryz.prog G 47 zyY := zd zj hNm tyk CLs.nil 27 Tryz.func47 (by kernel_rfl) (hn := .n 1 (.q (.n 1 (.w [(0, .fn),(8, .sl .str),(9, .int),(10, .int)] [] (fun m t => zeL t.1 t.2.1 t.2.2.1 m t.2.2.2) fun n0 => .n 2 (.q (.n 2 (.w [(0, .fn),(6, .str),(8, .sl .str),(9, .int),(10, .int),(15, .int),(16, .int)] [] (fun m t => zgn (zeL t.1 t.2.2.1 t.2.2.2.1 n0) t.1 t.2.1 t.2.2.2.2.1 t.2.2.2.2.2.1 m t.2.2.2.2.2.2) fun n1 => .e)) .e))) .e)) (by unfold zi; kernel_rfl)
-- doorstep/octet.Token
theorem zc3 : COk Tryz.prog G 46 zvi := zd zj hNm tyk (CLs.nil.add zaS) 10 Tryz.func46 (by kernel_rfl) (hn := .e) (by unfold zi; kernel_rfl)
-- doorstep/commas.Tokens
theorem zlg : COk Tryz.prog G 131 zrP := zd zj hNm tyk ((CLs.nil.add zc3).add zlH) 40 Tryz.func131 (by kernel_rfl) (hn := .n 2 (.q (.n 1 (.w [(4, .so 9 .str),(11, .sl .str),(12, .int),(13, .int)] [] (fun m t => zcg t.2.1 t.2.2.1 m t.1 t.2.2.2) fun n0 => .n 2 (.q (.n 3 (.q (.n 1 (.w [(4, .so 9 .str),(7, .so 9 .str),(11, .sl .str),(12, .int),(13, .int),(26, .int),(27, .int)] [(25,7)] (fun m t => zdk (zcg t.2.2.1 t.2.2.2.1 n0) t.1 t.2.1 t.2.2.2.2.1 t.2.2.2.2.2.1 m t.2.2.2.2.2.2) fun n1 => .e)) .e)) .e))) .e)) (by unfold zi; kernel_rfl)
-- slices.Index[[]string,string]
theorem zg4 : COk Tryz.prog G 225 zhP := zd zj hNm tyk CLs.nil 19 Tryz.func225 (by kernel_rfl) (hn := .n 1 (.q (.n 1 (.w [(0, .sl .str),(1, .str),(7, .int),(8, .int)] [] (fun m t => zB t.1 t.2.1 t.2.2.1 m t.2.2.2) fun n0 => .e)) .e)) (by unfold zi; kernel_rfl)
-- slices.Contains[[]string,string]
theorem zJ : COk Tryz.prog G 170 zgm := zd zj hNm tyk (CLs.nil.add zg4) 9 Tryz.func170 (by kernel_rfl) (hn := .e) (by unfold zi; kernel_rfl)
-- doorstep/hop.Nominated
theorem zqh : COk Tryz.prog G 106 zrQ := zd zj hNm tyk (((((CLs.nil.add zJ).add zb0).add zlg).add zeH).add zdg) 47 Tryz.func106 (by kernel_rfl) (hn := .n 2 (.q (.n 1 (.w [(3, .so 9 .str),(12, .so 9 .str),(13, .int),(14, .int)] [] (fun m t => zbm t.2.1 t.2.2.1 m t.1 t.2.2.2) fun n0 => .n 2 (.q (.n 3 (.w [(3, .so 9 .str),(12, .so 9 .str),(13, .int),(14, .int),(24, .so 9 .str),(25, .int),(26, .int)] [] (fun m t => zbl (zbm t.2.1 t.2.2.1 n0) t.2.2.2.1 t.2.2.2.2.1 t.2.2.2.2.2.1 m t.1 t.2.2.2.2.2.2) fun n1 => .n 2 (.q (.n 2 (.j [(3, .so 9 .str),(9, .str),(12, .so 9 .str),(13, .int),(14, .int),(24, .so 9 .str),(25, .int),(26, .int),(39, .bool)] [] (fun t => zeM (zbl (zbm t.2.2.1 t.2.2.2.1 n0) t.2.2.2.2.1 t.2.2.2.2.2.1 t.2.2.2.2.2.2.1 n1) t.1 t.2.1 t.2.2.2.2.2.2.2.1 t.2.2.2.2.2.2.2.2) .e .e)) .e))) .e))) .e)) (by unfold zi; kernel_rfl)
-- doorstep/hop.names
theorem zpS : COk Tryz.prog G 107 zyZ := zd zj hNm tyk CLs.nil 2 Tryz.func107 (by kernel_rfl) (hn := .e) (by unfold zi; kernel_rfl)
-- doorstep/bag.one$1
theorem zwE : COk Tryz.prog G 224 zy0 := zd zj hNm tyk (CLs.nil.add zcT) 7 Tryz.func224 (by kernel_rfl) (hn := .e) (by unfold zi; kernel_rfl)
-- slices.IndexFunc[[]string,string]
theorem zfJ : COk Tryz.prog G 277 zgb := zd zj hNm tyk (CLs.nil.add zwE) 19 Tryz.func277 (by kernel_rfl) (hn := .n 1 (.q (.n 1 (.w [(0, .sl .str),(1, .cl 224 (.pt 12)),(7, .int),(8, .int)] [] (fun m t => zp t.1 t.2.1 t.2.2.1 m t.2.2.2) fun n0 => .e)) .e)) (by unfold zi; kernel_rfl)
-- slices.ContainsFunc[[]string,string]
theorem zeI : COk Tryz.prog G 223 ze6 := zd zj hNm tyk (CLs.nil.add zfJ) 9 Tryz.func223 (by kernel_rfl) (hn := .e) (by unfold zi; kernel_rfl)
-- doorstep/bag.one
theorem zA2 : COk Tryz.prog G 169 zCW := zd zj hNm tyk (CLs.nil.add zeI) 8 Tryz.func169 (by kernel_rfl) (hn := .e) (by unfold zi; kernel_rfl)
-- (*doorstep/bag.Bag).Remove$1
theorem ziM : COk Tryz.prog G 168 zoH := zd zj hNm tyk (CLs.nil.add zA2) 8 Tryz.func168 (by kernel_rfl) (hn := .e) (by unfold zi; kernel_rfl)
-- slices.IndexFunc[[]doorstep/api.Field,doorstep/api.Field]
theorem zec : COk Tryz.prog G 174 zem := zd zj hNm tyk (CLs.nil.add ziM) 19 Tryz.func174 (by kernel_rfl) (hn := .n 1 (.q (.n 1 (.w [(0, .sl (.st 3)),(1, .cl 168 (.pt 11)),(7, .int),(8, .int)] [] (fun m t => zm t.1 t.2.1 t.2.2.1 m t.2.2.2) fun n0 => .e)) .e)) (by unfold zi; kernel_rfl)
-- slices.DeleteFunc[[]doorstep/api.Field,doorstep/api.Field]
theorem zds : COk Tryz.prog G 167 zdB := zd zj hNm tyk ((CLs.nil.add ziM).add zec) 42 Tryz.func167 (by kernel_rfl) (hn := .n 3 (.q (.n 1 (.w [(0, .so 49 (.st 3)),(1, .cl 168 (.pt 11)),(5, .int),(6, .int)] [] (fun m t => zl t.2.1 m t.1 t.2.2.1 t.2.2.2) fun n0 => .e)) .e)) (by unfold zi; kernel_rfl)
-- (*doorstep/bag.Bag).Remove
theorem zfK : COk Tryz.prog G 105 zoI := zd zj hNm tyk (CLs.nil.add zds) 29 Tryz.func105 (by kernel_rfl) (hn := .e) (by unfold zi; kernel_rfl)
-- doorstep/hop.Strip
theorem zwF : COk Tryz.prog G 58 zy1 := zd zj hNm tyk (((((CLs.nil.add zaZ).add zfK).add zpS).add zqh).add zdg) 14 Tryz.func58 (by kernel_rfl) (hn := .e) (by unfold zi; kernel_rfl)
-- doorstep/numeral.worth
theorem zqi : COk Tryz.prog G 264 zrR := zd zj hNm tyk ((CLs.nil.add znb).add zh5) 13 Tryz.func264 (by kernel_rfl) (hn := .e) (by unfold zi; kernel_rfl)
-- doorstep/numeral.read
theorem zrf : COk Tryz.prog G 203 ztr := zd zj hNm tyk ((CLs.nil.add zqi).add zaS) 50 Tryz.func203 (by kernel_rfl) (hn := .n 3 (.q (.n 1 (.w [(0, .str),(1, .int),(2, .int),(10, .int),(23, .int),(24, .int)] [] (fun m t => zdW t.1 t.2.1 t.2.2.1 t.2.2.2.2.1 m t.2.2.2.1 t.2.2.2.2.2) fun n0 => .e)) .e)) (by unfold zi; kernel_rfl)
-- doorstep/numeral.Decimal
theorem zef : COk Tryz.prog G 133 zpu := zd zj hNm tyk (CLs.nil.add zrf) 11 Tryz.func133 (by kernel_rfl) (hn := .e) (by unfold zi; kernel_rfl)
-- doorstep/numeral.text
theorem zrg : COk Tryz.prog G 72 zts := zd zj hNm tyk (CLs.nil.add zmV) 10 Tryz.func72 (by kernel_rfl) (hn := .e) (by unfold zi; kernel_rfl)
-- doorstep/numeral.Text
theorem zdh : COk Tryz.prog G 36 ztt := zd zj hNm tyk (CLs.nil.add zrg) 5 Tryz.func36 (by kernel_rfl) (hn := .e) (by unfold zi; kernel_rfl)
-- doorstep/hostport.small
theorem zjP : COk Tryz.prog G 156 zlm := zd zj hNm tyk ((CLs.nil.add zdh).add zef) 21 Tryz.func156 (by kernel_rfl) (hn := .e) (by unfold zi; kernel_rfl)
theorem zdS : COk Tryz.prog G 197 zrK := zeq rfl rfl rfl rfl ⟨_,Tryz.func197,by kernel_rfl,by kernel_rfl⟩ fun w h p r on gl hm => by
 have hm : zaG p = some r := hm
 unfold zaG at hm
 split at hm
 ·rename_i hs
  obtain ⟨bs,hbs,hm⟩ := ob hm
  cases hm
  exact zFE (fun x => zaF x 255) (fun x b W hG h => zsd (k := zlm) rfl rfl rfl rfl zjP fpok (p := (x,(255 : Int))) (r := b) h (h := fun b => W.heap[b]?) (fun _ _ e => e) (zAs hG)) p hs bs hbs w (gl.2 w on)
 ·cases hm
-- doorstep/octet.IsHex
theorem zob : COk Tryz.prog G 257 zpv := zd zj hNm tyk (((CLs.nil.add zaS).add zdS).add zlb) 53 Tryz.func257 (by kernel_rfl) (hn := .n 4 (.q (.n 1 (.w [(1, .bool),(5, .so 9 .str),(6, .int),(14, .int),(15, .int)] [(13,5)] (fun m t => zaa t.1 t.2.1 t.2.2.2.1 m t.2.2.1 t.2.2.2.2) fun n0 => .n 2 (.q (.n 1 (.j [(1, .bool),(5, .so 9 .str),(6, .int),(8, .str),(14, .int),(15, .int),(20, .bool)] [(13,5)] (fun t => zcn (zaa t.1 t.2.1 t.2.2.2.2.1 n0) t.2.2.1 t.2.2.2.1 t.2.2.2.2.2.1 t.2.2.2.2.2.2) .e (.q .e (.j [(1, .bool),(5, .so 9 .str),(6, .int),(14, .int),(15, .int),(35, .bool)] [(13,5)] (fun t => zcm (zaa t.1 t.2.1 t.2.2.2.1 n0) t.2.2.1 t.2.2.2.2.1 t.2.2.2.2.2) .e .e)))) .e))) .e)) (by unfold zi; kernel_rfl)
-- doorstep/hostport.Six
theorem ziN : COk Tryz.prog G 198 ztu := zd zj hNm tyk ((CLs.nil.add zob).add zhj) 35 Tryz.func198 (by kernel_rfl) (hn := .e) (by unfold zi; kernel_rfl)
-- doorstep/hostport.percent
theorem znu : COk Tryz.prog G 273 zoJ := zd zj hNm tyk (CLs.nil.add zaS) 17 Tryz.func273 (by kernel_rfl) (hn := .e) (by unfold zi; kernel_rfl)
-- doorstep/octet.IsUnreserved
theorem zhK : COk Tryz.prog G 274 zie := zd zj hNm tyk (((CLs.nil.add zlI).add zh5).add zlf) 13 Tryz.func274 (by kernel_rfl) (hn := .e) (by unfold zi; kernel_rfl)
-- doorstep/octet.IsSub
theorem znc : COk Tryz.prog G 275 zoK := zd zj hNm tyk (CLs.nil.add zlI) 5 Tryz.func275 (by kernel_rfl) (hn := .e) (by unfold zi; kernel_rfl)
-- doorstep/hostport.Name
theorem zlh : COk Tryz.prog G 215 zrS := zd zj hNm tyk (((CLs.nil.add znc).add zhK).add znu) 23 Tryz.func215 (by kernel_rfl) (hn := .n 2 (.q (.w [(0, .str)] [] (fun m t => zbo m t) fun n0 => .e) .e)) (by unfold zi; kernel_rfl)
-- doorstep/hostport.of
theorem zsJ : COk Tryz.prog G 155 zvk := zd zj hNm tyk (((CLs.nil.add zlh).add zdS).add ziN) 51 Tryz.func155 (by kernel_rfl) (hn := .n 2 (.q (.j [(0, .str),(2, .po 13),(4, .po 13),(7, .bool)] [] (fun t => zdl t.1 t.2.2.1 t.2.2.2) .e .e) .e)) (by unfold zi; kernel_rfl)
-- internal/bytealg.LastIndexByteString
theorem zhL : COk Tryz.prog G 209 zh6 := zd zj hNm tyk CLs.nil 19 Tryz.func209 (by kernel_rfl) (hn := .n 1 (.q (.n 1 (.w [(0, .str),(1, .u8),(5, .int)] [] (fun m t => zY t.1 t.2.1 m t.2.2) fun n0 => .e)) .e)) (by unfold zi; kernel_rfl)
-- strings.LastIndexByte
theorem zfT : COk Tryz.prog G 139 zkB := zd zj hNm tyk (CLs.nil.add zhL) 8 Tryz.func139 (by kernel_rfl) (hn := .e) (by unfold zi; kernel_rfl)
-- doorstep/hostport.Parse
theorem zdi : COk Tryz.prog G 93 zqv := zd zj hNm tyk ((((CLs.nil.add zef).add zjP).add zfT).add zsJ) 49 Tryz.func93 (by kernel_rfl) (hn := .e) (by unfold zi; kernel_rfl)
-- internal/stringslite.HasPrefix
theorem zdj : COk Tryz.prog G 226 zkC := zd zj hNm tyk CLs.nil 18 Tryz.func226 (by kernel_rfl) (hn := .e) (by unfold zi; kernel_rfl)
-- strings.HasPrefix
theorem zbW : COk Tryz.prog G 171 znI := zd zj hNm tyk (CLs.nil.add zdj) 8 Tryz.func171 (by kernel_rfl) (hn := .e) (by unfold zi; kernel_rfl)
-- doorstep/octet.IsPath
theorem zlJ : COk Tryz.prog G 248 zno := zd zj hNm tyk (((CLs.nil.add zlI).add znc).add zhK) 13 Tryz.func248 (by kernel_rfl) (hn := .e) (by unfold zi; kernel_rfl)
-- doorstep/pathq.of
theorem zrh : COk Tryz.prog G 192 zBh := zd zj hNm tyk (((CLs.nil.add zaS).add zbV).add zlJ) 49 Tryz.func192 (by kernel_rfl) (hn := .n 1 (.q (.n 1 (.w [(0, .str),(1, .str),(5, .int)] [] (fun m t => zcb t.1 t.2.1 m t.2.2) fun n0 => .n 1 (.q (.n 1 (.q .e (.j [(0, .str),(1, .str),(5, .int),(25, .bool)] [] (fun t => zhR (zcb t.1 t.2.1 n0) t.2.2.1 t.2.2.2) .e .e))) .e))) .e)) (by unfold zi; kernel_rfl)
-- doorstep/pathq.Path
theorem zuu : COk Tryz.prog G 121 zxp := zd zj hNm tyk ((CLs.nil.add zrh).add zbW) 9 Tryz.func121 (by kernel_rfl) (hn := .e) (by unfold zi; kernel_rfl)
-- doorstep/pathq.Query
theorem zsK : COk Tryz.prog G 122 zvl := zd zj hNm tyk (CLs.nil.add zrh) 5 Tryz.func122 (by kernel_rfl) (hn := .e) (by unfold zi; kernel_rfl)
-- doorstep/pathq.Cut
theorem zpT : COk Tryz.prog G 68 zy2 := zd zj hNm tyk (((CLs.nil.add zsK).add zuu).add zhj) 23 Tryz.func68 (by kernel_rfl) (hn := .e) (by unfold zi; kernel_rfl)
-- doorstep/target.tail
theorem znd : COk Tryz.prog G 173 zvm := zd zj hNm tyk (CLs.nil.add zpT) 32 Tryz.func173 (by kernel_rfl) (hn := .n 4 (.j [(1, .str),(2, .po 14),(4, .po 14),(7, .bool)] [] (fun t => zgp t.1 t.2.1 t.2.2.2) .e (.n 1 (.j [(2, .po 14),(4, .po 14),(6, .int)] [] (fun t => zgo t.1 t.2.2) .e .e)))) (by unfold zi; kernel_rfl)
-- doorstep/target.absolute
theorem zoc : COk Tryz.prog G 172 zpw := zd zj hNm tyk (((((CLs.nil.add znd).add zdi).add zfH).add zb0).add zhj) 58 Tryz.func172 (by kernel_rfl) (hn := .n 3 (.q (.j [(2, .po 14),(5, .str),(7, .po 14),(31, .bool)] [] (fun t => zco t.2.1 t.2.2.1 t.2.2.2) .e .e) (.n 1 (.j [(2, .po 14),(5, .str),(7, .po 14),(8, .int)] [] (fun t => zdC t.2.1 t.2.2.1 t.2.2.2) .e .e)))) (by unfold zi; kernel_rfl)
-- doorstep/target.of
theorem zwG : COk Tryz.prog G 108 zy3 := zd zj hNm tyk (((CLs.nil.add znd).add zoc).add zbW) 28 Tryz.func108 (by kernel_rfl) (hn := .e) (by unfold zi; kernel_rfl)
-- doorstep/target.Parse
theorem zlK : COk Tryz.prog G 59 ztv := zd zj hNm tyk ((CLs.nil.add zwG).add zdi) 37 Tryz.func59 (by kernel_rfl) (hn := .n 1 (.q (.n 1 (.q (.n 1 (.q (.j [(4, .po 14),(6, .po 13),(23, .bool)] [] (fun t => zft t.2.1 t.2.2) .e .e) .e)) .e)) .e)) (by unfold zi; kernel_rfl)
-- doorstep/pathq.Join
theorem zuv : COk Tryz.prog G 109 zxq := zd zj hNm tyk CLs.nil 14 Tryz.func109 (by kernel_rfl) (hn := .e) (by unfold zi; kernel_rfl)
-- doorstep/target.Origin
theorem zqj : COk Tryz.prog G 60 zrT := zd zj hNm tyk (CLs.nil.add zuv) 20 Tryz.func60 (by kernel_rfl) (hn := .n 3 (.j [(1, .po 14),(3, .str)] [] (fun t => zeQ t.1 t.2) .e .e)) (by unfold zi; kernel_rfl)
-- doorstep/quill.Join
theorem zcV : COk Tryz.prog G 44 zxr := zd zj hNm tyk (CLs.nil.add zrc) 8 Tryz.func44 (by kernel_rfl) (hn := .e) (by unfold zi; kernel_rfl)
-- doorstep/hostport.Text
theorem zqk : COk Tryz.prog G 110 zrU := zd zj hNm tyk (((CLs.nil.add zdi).add zcV).add zdh) 41 Tryz.func110 (by kernel_rfl) (hn := .n 2 (.j [(1, .po 13),(4, .so 9 .str)] [] (fun t => zeS t.1 t.2) .e (.j [(1, .po 13),(4, .so 9 .str)] [] (fun t => zeR t.1 t.2) .e .e))) (by unfold zi; kernel_rfl)
-- (*doorstep/bag.Bag).Put$1
theorem zql : COk Tryz.prog G 175 zrV := zd zj hNm tyk (CLs.nil.add zcT) 8 Tryz.func175 (by kernel_rfl) (hn := .e) (by unfold zi; kernel_rfl)
-- slices.IndexFunc[[]doorstep/api.Field,doorstep/api.Field]
theorem zdv : COk Tryz.prog G 174 zdT := zd zj hNm tyk (CLs.nil.add zql) 19 Tryz.func174 (by kernel_rfl) (hn := .n 1 (.q (.n 1 (.w [(0, .sl (.st 3)),(1, .cl 175 (.pt 12)),(7, .int),(8, .int)] [] (fun m t => zw t.1 t.2.1 t.2.2.1 m t.2.2.2) fun n0 => .e)) .e)) (by unfold zi; kernel_rfl)
-- (*doorstep/bag.Bag).Get
theorem zjD : COk Tryz.prog G 112 zvn := zd zj hNm tyk (CLs.nil.add zeH) 16 Tryz.func112 (by kernel_rfl) (hn := .e) (by unfold zi; kernel_rfl)
-- (*doorstep/bag.Bag).Add
theorem zfr : COk Tryz.prog G 113 zrW := zd zj hNm tyk CLs.nil 15 Tryz.func113 (by kernel_rfl) (hn := .e) (by unfold zi; kernel_rfl)
-- (*doorstep/bag.Bag).Put
theorem zli : COk Tryz.prog G 111 zrX := zd zj hNm tyk ((((CLs.nil.add zmW).add zfK).add zfr).add zdv) 40 Tryz.func111 (by kernel_rfl) (hn := .e) (by unfold zi; kernel_rfl)
-- (*doorstep/stage.worker).host
theorem zlq : COk Tryz.prog G 61 zl9 := zd zj hNm tyk ((((CLs.nil.add zfr).add zjD).add zli).add zqk) 44 Tryz.func61 (by kernel_rfl) (hn := .n 1 (.j [(9000, .po 16),(4, .po 0)] [(0,9000)] (fun t => za0 t.1 t.2) .e .e)) (by unfold zi; kernel_rfl)
-- (*doorstep/stage.worker).done
theorem zgX : COk Tryz.prog G 64 zma := zd zj hNm tyk (CLs.nil.add zaZ) 17 Tryz.func64 (by kernel_rfl) (hn := .e) (by unfold zi; kernel_rfl)
-- internal/stringslite.CutPrefix
theorem zjQ : COk Tryz.prog G 279 zkD := zd zj hNm tyk (CLs.nil.add zdj) 15 Tryz.func279 (by kernel_rfl) (hn := .e) (by unfold zi; kernel_rfl)
-- strings.CutPrefix
theorem ze4 : COk Tryz.prog G 229 znJ := zd zj hNm tyk (CLs.nil.add zjQ) 11 Tryz.func229 (by kernel_rfl) (hn := .e) (by unfold zi; kernel_rfl)
-- internal/stringslite.HasSuffix
theorem zfU : COk Tryz.prog G 280 zkE := zd zj hNm tyk CLs.nil 21 Tryz.func280 (by kernel_rfl) (hn := .e) (by unfold zi; kernel_rfl)
-- strings.HasSuffix
theorem zh9 : COk Tryz.prog G 230 znK := zd zj hNm tyk (CLs.nil.add zfU) 8 Tryz.func230 (by kernel_rfl) (hn := .e) (by unfold zi; kernel_rfl)
-- doorstep/uriref.Swap
theorem zsL : COk Tryz.prog G 178 zvo := zd zj hNm tyk (((CLs.nil.add zbV).add zh9).add ze4) 49 Tryz.func178 (by kernel_rfl) (hn := .n 1 (.q (.n 1 (.w [(0, .str),(10, .sl (.st 1)),(11, .int),(12, .int)] [] (fun m t => zcp t.1 t.2.1 t.2.2.1 m t.2.2.2) fun n0 => .e)) .e)) (by unfold zi; kernel_rfl)
-- doorstep/uriref.scheme$1
theorem zqm : COk Tryz.prog G 306 zrY := zd zj hNm tyk ((CLs.nil.add zaS).add zlf) 17 Tryz.func306 (by kernel_rfl) (hn := .e) (by unfold zi; kernel_rfl)
-- doorstep/uriref.upto
theorem zne : COk Tryz.prog G 307 zvp := zd zj hNm tyk (CLs.nil.add zfH) 19 Tryz.func307 (by kernel_rfl) (hn := .e) (by unfold zi; kernel_rfl)
-- doorstep/uriref.parts
theorem zri : COk Tryz.prog G 281 ztw := zd zj hNm tyk ((((CLs.nil.add zne).add zbW).add zqm).add zbV) 56 Tryz.func281 (by kernel_rfl) (hn := .n 2 (.j [(0, .str),(2, .po 17),(3, .po 17)] [] (fun t => zfx t.1 t.2.2) (.n 1 (.j [(0, .str),(2, .po 17),(3, .po 17),(4, .int),(14, .bool)] [] (fun t => zfy t.1 t.2.2.1 t.2.2.2.1 t.2.2.2.2) .e .e)) (.j [(0, .str),(2, .po 17),(3, .po 17)] [] (fun t => zfw t.1 t.2.2) .e (.n 1 (.j [(0, .str),(2, .po 17),(3, .po 17)] [] (fun t => zfv t.1 t.2.2) .e (.j [(2, .po 17),(3, .po 17)] [] (fun t => zfu t.2) .e .e)))))) (by unfold zi; kernel_rfl)
-- doorstep/uriref.bytes
theorem zrj : COk Tryz.prog G 308 ztx := zd zj hNm tyk (((CLs.nil.add zbV).add zlJ).add zaS) 49 Tryz.func308 (by kernel_rfl) (hn := .n 1 (.q (.n 1 (.w [(0, .str),(1, .str),(5, .int)] [] (fun m t => zba t.1 t.2.1 m t.2.2) fun n0 => .n 1 (.q (.n 1 (.q .e (.j [(0, .str),(1, .str),(5, .int),(35, .bool)] [] (fun t => zfz (zba t.1 t.2.1 n0) t.2.2.1 t.2.2.2) .e .e))) .e))) .e)) (by unfold zi; kernel_rfl)
-- doorstep/uriref.well
theorem zsM : COk Tryz.prog G 282 zvq := zd zj hNm tyk ((((CLs.nil.add zbW).add znt).add zrj).add zne) 63 Tryz.func282 (by kernel_rfl) (hn := .e) (by unfold zi; kernel_rfl)
-- doorstep/uriref.Parse
theorem zrk : COk Tryz.prog G 231 zty := zd zj hNm tyk ((CLs.nil.add zsM).add zri) 12 Tryz.func231 (by kernel_rfl) (hn := .e) (by unfold zi; kernel_rfl)
-- doorstep/location.is
theorem zsN : COk Tryz.prog G 179 zvr := zd zj hNm tyk (CLs.nil.add zrk) 12 Tryz.func179 (by kernel_rfl) (hn := .e) (by unfold zi; kernel_rfl)
-- doorstep/location.Rewrite
theorem znv : COk Tryz.prog G 115 zoL := zd zj hNm tyk ((CLs.nil.add zsN).add zsL) 27 Tryz.func115 (by kernel_rfl) (hn := .e) (by unfold zi; kernel_rfl)
-- (*doorstep/scan.Scanner).While
theorem z8 : COk Tryz.prog G 143 zls := zd zj hNm tyk ((CLs.nil.add za5).add zcU) 42 Tryz.func143 (by kernel_rfl) (hn := .n 2 (.q (.w [(9000, .po 8),(1, .fn),(5, .int)] [(0,9000)] (fun m t => zaV t.2.1 t.2.2 m t.1) fun n0 => .e) .e)) (by unfold zi; kernel_rfl)
-- (*doorstep/scan.Scanner).Token
theorem zb1 : COk Tryz.prog G 141 zlt := zd zj hNm tyk (CLs.nil.add z8) 10 Tryz.func141 (by kernel_rfl) (hn := .e) (by unfold zi; kernel_rfl)
-- doorstep/cookie.part$1
theorem zsO : COk Tryz.prog G 233 zvs := zd zj hNm tyk (((((((CLs.nil.add zaS).add zaN).add z8).add zH).add zb1).add zfI).add zen) 45 Tryz.func233 (by kernel_rfl) (hn := .n 4 (.j [(2, .po 18),(4, .po 8),(6, .bool),(7, .po 18)] [] (fun t => zgr t.2.1 t.2.2.1 t.2.2.2) .e .e)) (by unfold zi; kernel_rfl)
-- internal/stringslite.CutSuffix
theorem zjR : COk Tryz.prog G 313 zkF := zd zj hNm tyk (CLs.nil.add zfU) 18 Tryz.func313 (by kernel_rfl) (hn := .e) (by unfold zi; kernel_rfl)
-- strings.CutSuffix
theorem zia : COk Tryz.prog G 285 znL := zd zj hNm tyk (CLs.nil.add zjR) 11 Tryz.func285 (by kernel_rfl) (hn := .e) (by unfold zi; kernel_rfl)
-- doorstep/cookie.plain
theorem zrl : COk Tryz.prog G 234 ztA := zd zj hNm tyk (((CLs.nil.add zaS).add zia).add ze4) 24 Tryz.func234 (by kernel_rfl) (hn := .e) (by unfold zi; kernel_rfl)
-- doorstep/cookie.Parse
theorem zlL : COk Tryz.prog G 180 ztB := zd zj hNm tyk (((CLs.nil.add zrl).add zsO).add zlb) 63 Tryz.func180 (by kernel_rfl) (hn := .n 5 (.q (.n 1 (.w [(2, .po 20),(7, .po 20),(41, .sl .str),(42, .int),(43, .int)] [] (fun m t => zdX t.2.2.1 t.2.2.2.1 m t.2.1 t.2.2.2.2) fun n0 => .e)) .e)) (by unfold zi; kernel_rfl)
-- doorstep/cookie.last
theorem znf : COk Tryz.prog G 235 zvt := zd zj hNm tyk (CLs.nil.add zcT) 23 Tryz.func235 (by kernel_rfl) (hn := .n 1 (.q (.n 1 (.w [(1, .str),(2, .po 19),(5, .int)] [] (fun m t => zes t.1 t.2.1 m t.2.2) fun n0 => .e)) .e)) (by unfold zi; kernel_rfl)
-- doorstep/cookie.Get
theorem zuw : COk Tryz.prog G 181 zxs := zd zj hNm tyk (CLs.nil.add znf) 18 Tryz.func181 (by kernel_rfl) (hn := .e) (by unfold zi; kernel_rfl)
-- internal/stringslite.TrimPrefix
theorem zjE : COk Tryz.prog G 287 zj5 := zd zj hNm tyk (CLs.nil.add zdj) 13 Tryz.func287 (by kernel_rfl) (hn := .e) (by unfold zi; kernel_rfl)
-- strings.TrimPrefix
theorem zlM : COk Tryz.prog G 236 zm0 := zd zj hNm tyk (CLs.nil.add zjE) 8 Tryz.func236 (by kernel_rfl) (hn := .e) (by unfold zi; kernel_rfl)
-- doorstep/hostport.Under
theorem zo7 : COk Tryz.prog G 237 zqw := zd zj hNm tyk ((((CLs.nil.add zh9).add zb0).add zdS).add zlh) 36 Tryz.func237 (by kernel_rfl) (hn := .e) (by unfold zi; kernel_rfl)
-- doorstep/domains.Map
theorem zsP : COk Tryz.prog G 182 zvu := zd zj hNm tyk ((CLs.nil.add zo7).add zlM) 34 Tryz.func182 (by kernel_rfl) (hn := .n 2 (.q (.n 1 (.w [(0, .str),(6, .str),(11, .sl (.st 1)),(12, .int),(13, .int)] [] (fun m t => zet t.1 t.2.1 t.2.2.1 t.2.2.2.1 m t.2.2.2.2) fun n0 => .e)) .e)) (by unfold zi; kernel_rfl)
-- doorstep/cookie.Set
theorem zux : COk Tryz.prog G 184 zxt := zd zj hNm tyk ((CLs.nil.add zcT).add znf) 55 Tryz.func184 (by kernel_rfl) (hn := .n 3 (.q (.n 1 (.w [(1, .str),(2, .str),(6, .po 20),(7, .int),(8, .po 20),(20, .sl (.st 18)),(21, .int),(22, .int)] [] (fun m t => zby t.1 t.2.1 t.2.2.2.1 t.2.2.2.2.2.1 t.2.2.2.2.2.2.1 m t.2.2.2.2.1 t.2.2.2.2.2.2.2) fun n0 => .n 2 (.j [(1, .str),(2, .str),(6, .po 20),(7, .int),(8, .po 20),(20, .sl (.st 18)),(21, .int),(22, .int)] [] (fun t => zhr (zby t.1 t.2.1 t.2.2.2.1 t.2.2.2.2.2.1 t.2.2.2.2.2.2.1 n0) t.2.2.2.2.1 t.2.2.2.2.2.2.2) (.n 1 (.j [(1, .str),(2, .str),(6, .po 20),(7, .int),(8, .po 20),(10, .po 18),(20, .sl (.st 18)),(21, .int),(22, .int)] [] (fun t => zhs (zby t.1 t.2.1 t.2.2.2.1 t.2.2.2.2.2.2.1 t.2.2.2.2.2.2.2.1 n0) t.2.2.2.2.1 t.2.2.2.2.2.1 t.2.2.2.2.2.2.2.2) .e .e)) .e))) (.j [(6, .po 20),(8, .po 20)] [] (fun t => zht t.2) .e .e))) (by unfold zi; kernel_rfl)
-- slices.Equal[[]doorstep/api.Attr,doorstep/api.Attr]
theorem zfL : COk Tryz.prog G 288 zgc := zd zj hNm tyk CLs.nil 26 Tryz.func288 (by kernel_rfl) (hn := .n 2 (.q (.n 1 (.w [(0, .sl (.st 18)),(1, .sl (.st 18)),(12, .int),(13, .int)] [] (fun m t => zM t.1 t.2.1 t.2.2.1 m t.2.2.2) fun n0 => .e)) .e)) (by unfold zi; kernel_rfl)
-- doorstep/cookie.Same
theorem zsQ : COk Tryz.prog G 238 zvv := zd zj hNm tyk (CLs.nil.add zfL) 24 Tryz.func238 (by kernel_rfl) (hn := .e) (by unfold zi; kernel_rfl)
-- doorstep/cookie.Text
theorem zsR : COk Tryz.prog G 183 zvw := zd zj hNm tyk (((CLs.nil.add zsQ).add zlL).add zcV) 57 Tryz.func183 (by kernel_rfl) (hn := .n 2 (.q (.n 1 (.w [(1, .po 19),(4, .so 9 .str),(18, .sl (.st 18)),(19, .int),(20, .int)] [] (fun m t => zdm t.1 t.2.2.1 t.2.2.2.1 m t.2.1 t.2.2.2.2) fun n0 => .e)) .e)) (by unfold zi; kernel_rfl)
-- doorstep/domains.Rewrite
theorem zod : COk Tryz.prog G 116 zpy := zd zj hNm tyk (((((CLs.nil.add zsR).add zux).add zsP).add zuw).add zlL) 45 Tryz.func116 (by kernel_rfl) (hn := .e) (by unfold zi; kernel_rfl)
-- doorstep/location.Fields
theorem zoe : COk Tryz.prog G 62 zpz := zd zj hNm tyk (((CLs.nil.add zod).add znv).add zb0) 46 Tryz.func62 (by kernel_rfl) (hn := .n 2 (.q (.n 1 (.w [(2, .po 0),(5, .so 49 (.st 3)),(12, .int),(13, .int)] [(11,5)] (fun m t => zT t.2.2.1 m t.1 t.2.1 t.2.2.2) fun n0 => .n 2 (.q (.n 2 (.j [(2, .po 0),(5, .so 49 (.st 3)),(6, .int),(7, .po 3),(12, .int),(13, .int),(20, .str),(21, .bool)] [(11,5)] (fun t => zcq (zT t.2.2.2.2.1 n0) t.1 t.2.1 t.2.2.1 t.2.2.2.1 t.2.2.2.2.2.1 t.2.2.2.2.2.2.1 t.2.2.2.2.2.2.2) .e .e)) .e))) .e)) (by unfold zi; kernel_rfl)
-- doorstep/stage.Strip
theorem zsS : COk Tryz.prog G 31 zvx := zd zj hNm tyk ((((((((CLs.nil.add zoe).add zaZ).add zgX).add zlq).add zqj).add zlK).add zdg).add zwF) 68 Tryz.func31 (by kernel_rfl) (hn := .e) (by unfold zi; kernel_rfl)
-- doorstep/stage.Known$1
theorem zqn : COk Tryz.prog G 67 zr0 := zd zj hNm tyk CLs.nil 8 Tryz.func67 (by kernel_rfl) (hn := .e) (by unfold zi; kernel_rfl)
-- doorstep/stage.Known
theorem zsT : COk Tryz.prog G 33 zvy := zd zj hNm tyk (((CLs.nil.add zdh).add zpT).add zqn) 59 Tryz.func33 (by kernel_rfl) (hn := .e) (by unfold zi; kernel_rfl)
-- doorstep/rule.Known
theorem zof : COk Tryz.prog G 239 zxu := zd zj hNm tyk CLs.nil 10 Tryz.func239 (by kernel_rfl) (hn := .e) (by unfold zi; kernel_rfl)
-- doorstep/fieldline.Check
theorem zi7 : COk Tryz.prog G 26 zpA := zd zj hNm tyk (((CLs.nil.add zen).add zaS).add zc3) 22 Tryz.func26 (by kernel_rfl) (hn := .e) (by unfold zi; kernel_rfl)
-- doorstep/rule.guard
theorem zuy : COk Tryz.prog G 240 zxv := zd zj hNm tyk ((CLs.nil.add zi7).add zc3) 35 Tryz.func240 (by kernel_rfl) (hn := .n 1 (.q (.n 2 (.q .e (.j [(1, .po 23),(4, .int),(15, .bool)] [] (fun t => zhu t.1 t.2.1 t.2.2) .e .e))) .e)) (by unfold zi; kernel_rfl)
-- doorstep/hop.Fixed
theorem zwH : COk Tryz.prog G 314 zy4 := zd zj hNm tyk (((CLs.nil.add zJ).add zb0).add zpS) 7 Tryz.func314 (by kernel_rfl) (hn := .e) (by unfold zi; kernel_rfl)
-- doorstep/rule.Kept
theorem zwI : COk Tryz.prog G 289 zy5 := zd zj hNm tyk (((CLs.nil.add zJ).add zb0).add zwH) 13 Tryz.func289 (by kernel_rfl) (hn := .e) (by unfold zi; kernel_rfl)
-- doorstep/rule.free
theorem zpU : COk Tryz.prog G 241 zy6 := zd zj hNm tyk ((CLs.nil.add zwI).add zc3) 10 Tryz.func241 (by kernel_rfl) (hn := .e) (by unfold zi; kernel_rfl)
-- doorstep/tmpl.Names
theorem zuz : COk Tryz.prog G 315 zxw := zd zj hNm tyk (CLs.nil.add zJ) 29 Tryz.func315 (by kernel_rfl) (hn := .n 2 (.q (.n 1 (.w [(3, .so 9 .str),(6, .sl (.st 5)),(7, .int),(8, .int)] [] (fun m t => zc6 t.2.1 t.2.2.1 m t.1 t.2.2.2) fun n0 => .n 2 (.q (.n 1 (.j [(3, .so 9 .str),(5, .po 5),(6, .sl (.st 5)),(7, .int),(8, .int),(21, .bool)] [] (fun t => zhv (zc6 t.2.2.1 t.2.2.2.1 n0) t.1 t.2.1 t.2.2.2.2.1 t.2.2.2.2.2) .e .e)) .e))) .e)) (by unfold zi; kernel_rfl)
-- doorstep/tmpl.small
theorem zgY : COk Tryz.prog G 270 zmb := zd zj hNm tyk ((CLs.nil.add zbW).add zdd) 21 Tryz.func270 (by kernel_rfl) (hn := .e) (by unfold zi; kernel_rfl)
-- (*doorstep/tmpl.reader).text
theorem zlN : COk Tryz.prog G 331 zm1 := zd zj hNm tyk CLs.nil 48 Tryz.func331 (by kernel_rfl) (hn := .q (.n 1 (.j [(9000, .po 24),(1, .str),(4, .int),(23, .bool)] [(0,9000)] (fun t => zcB t.1 t.2.1 t.2.2.1 t.2.2.2) .e .e)) .e) (by unfold zi; kernel_rfl)
-- (*doorstep/tmpl.reader).named
theorem zlr : COk Tryz.prog G 332 zmc := zd zj hNm tyk (((CLs.nil.add z8).add zb1).add zH) 46 Tryz.func332 (by kernel_rfl) (hn := .n 2 (.j [(9000, .po 24),(3, .po 5)] [(0,9000)] (fun t => zb5 t.1 t.2) .e (.n 1 (.j [(9000, .po 24),(2, .bool)] [] (fun t => zb4 t.1 t.2) .e .e)))) (by unfold zi; kernel_rfl)
-- (*doorstep/tmpl.reader).step
theorem zlO : COk Tryz.prog G 330 zm2 := zd zj hNm tyk ((((CLs.nil.add z8).add zlr).add zlN).add zgY) 30 Tryz.func330 (by kernel_rfl) (hn := .e) (by unfold zi; kernel_rfl)
-- doorstep/tmpl.Parse
theorem zuA : COk Tryz.prog G 327 zxz := zd zj hNm tyk (((CLs.nil.add zlO).add zaN).add zfI) 28 Tryz.func327 (by kernel_rfl) (hn := .n 2 (.q (.w [(4, .po 24)] [] (fun m t => zfe m t) fun n0 => .e) .e)) (by unfold zi; kernel_rfl)
-- slices.Equal[[]doorstep/api.Part,doorstep/api.Part]
theorem zfM : COk Tryz.prog G 328 zgd := zd zj hNm tyk CLs.nil 26 Tryz.func328 (by kernel_rfl) (hn := .n 2 (.q (.n 1 (.w [(0, .sl (.st 5)),(1, .sl (.st 5)),(12, .int),(13, .int)] [] (fun m t => zN t.1 t.2.1 t.2.2.1 m t.2.2.2) fun n0 => .e)) .e)) (by unfold zi; kernel_rfl)
-- doorstep/tmpl.Text
theorem zwJ : COk Tryz.prog G 316 zy7 := zd zj hNm tyk ((((CLs.nil.add zfM).add zuA).add zcV).add zlG) 57 Tryz.func316 (by kernel_rfl) (hn := .n 2 (.q (.n 1 (.w [(0, .sl (.st 5)),(4, .so 9 .str),(10, .sl (.st 5)),(11, .int),(12, .int)] [] (fun m t => zb6 t.1 t.2.2.1 t.2.2.2.1 m t.2.1 t.2.2.2.2) fun n0 => .n 2 (.j [(0, .sl (.st 5)),(4, .so 9 .str),(10, .sl (.st 5)),(11, .int),(12, .int)] [] (fun t => zeV (zb6 t.1 t.2.2.1 t.2.2.2.1 n0) t.2.1 t.2.2.2.2) .e .e))) .e)) (by unfold zi; kernel_rfl)
-- doorstep/rule.parts
theorem zuB : COk Tryz.prog G 290 zxA := zd zj hNm tyk ((((CLs.nil.add zwJ).add zJ).add zuz).add zof) 31 Tryz.func290 (by kernel_rfl) (hn := .n 1 (.j [(1, .sl (.st 5)),(5, .so 9 .str)] [] (fun t => zhw t.1 t.2) .e (.q (.n 1 (.w [(1, .sl (.st 5)),(5, .so 9 .str),(13, .so 9 .str),(14, .int),(15, .int)] [] (fun m t => zff t.1 t.2.1 t.2.2.1 t.2.2.2.1 m t.2.2.2.2) fun n0 => .e)) .e))) (by unfold zi; kernel_rfl)
-- doorstep/rule.act
theorem zyJ : COk Tryz.prog G 242 zBi := zd zj hNm tyk ((CLs.nil.add zpU).add zuB) 41 Tryz.func242 (by kernel_rfl) (hn := .n 1 (.q (.n 1 (.q (.q (.j [(1, .po 4)] [] (fun t => zhW t) .e .e) .e) .e)) .e)) (by unfold zi; kernel_rfl)
-- doorstep/rule.Check
theorem zuC : COk Tryz.prog G 185 zxB := zd zj hNm tyk ((((CLs.nil.add zyJ).add zpU).add zuy).add zof) 24 Tryz.func185 (by kernel_rfl) (hn := .e) (by unfold zi; kernel_rfl)
-- doorstep/check.Check
theorem zsU : COk Tryz.prog G 117 zvz := zd zj hNm tyk (CLs.nil.add zuC) 24 Tryz.func117 (by kernel_rfl) (hn := .n 1 (.q (.n 1 (.w [(0, .sl (.st 4)),(7, .sl (.st 4)),(8, .int),(9, .int)] [] (fun m t => zbF t.1 t.2.1 t.2.2.1 m t.2.2.2) fun n0 => .e)) .e)) (by unfold zi; kernel_rfl)
-- doorstep/rule.Writes
theorem zsV : COk Tryz.prog G 243 zvA := zd zj hNm tyk (CLs.nil.add zb0) 18 Tryz.func243 (by kernel_rfl) (hn := .e) (by unfold zi; kernel_rfl)
-- doorstep/compile.run
theorem zsW : COk Tryz.prog G 186 zvB := zd zj hNm tyk (((CLs.nil.add zJ).add zb0).add zsV) 38 Tryz.func186 (by kernel_rfl) (hn := .n 3 (.q (.w [(0, .sl (.st 4)),(3, .po 23),(4, .int)] [] (fun m t => zbG t.1 t.2.1 m t.2.2) fun n0 => .q (.j [(0, .sl (.st 4)),(3, .po 23),(4, .int),(34, .bool)] [] (fun t => zeu (zbG t.1 t.2.1 n0) t.2.2.1 t.2.2.2) .e .e) .e) .e)) (by unfold zi; kernel_rfl)
-- doorstep/compile.guard
theorem zqo : COk Tryz.prog G 187 zr1 := zd zj hNm tyk CLs.nil 25 Tryz.func187 (by kernel_rfl) (hn := .e) (by unfold zi; kernel_rfl)
-- doorstep/compile.Own
theorem zsX : COk Tryz.prog G 244 zvC := zd zj hNm tyk (CLs.nil.add zn7) 34 Tryz.func244 (by kernel_rfl) (hn := .e) (by unfold zi; kernel_rfl)
-- (*doorstep/compile.compiler).put
theorem zjF : COk Tryz.prog G 188 zj6 := zd zj hNm tyk (CLs.nil.add zsX) 24 Tryz.func188 (by kernel_rfl) (hn := .n 1 (.w [(9000, .po 25),(6, .sl (.st 4)),(7, .int),(8, .int)] [(0,9000)] (fun m t => zK t.2.1 t.2.2.1 m t.1 t.2.2.2) fun n0 => .e)) (by unfold zi; kernel_rfl)
-- (*doorstep/compile.compiler).all
theorem zjG : COk Tryz.prog G 118 zj7 := zd zj hNm tyk (((CLs.nil.add zjF).add zqo).add zsW) 38 Tryz.func118 (by kernel_rfl) (hn := .w [(9000, .po 25),(1, .sl (.st 4))] [(0,9000)] (fun m t => zD m t.1 t.2) fun n0 => .n 2 (.j [(9000, .po 25),(1, .sl (.st 4)),(4, .int)] [(0,9000)] (fun t => zaA (zD n0) t.1 t.2.1 t.2.2) .e .e)) (by unfold zi; kernel_rfl)
-- doorstep/compile.Compile
theorem zog : COk Tryz.prog G 65 zpB := zd zj hNm tyk ((CLs.nil.add zjG).add zsU) 50 Tryz.func65 (by kernel_rfl) (hn := .n 1 (.q (.j [(0, .int),(1, .sl (.st 4)),(17, .bool)] [] (fun t => zcs t.1 t.2.1 t.2.2) .e .e) (.n 2 (.q (.n 1 (.w [(0, .int),(8, .so 63 (.st 4)),(26, .sl (.st 4)),(27, .int),(28, .int)] [] (fun m t => zab t.1 t.2.2.1 t.2.2.2.1 m t.2.1 t.2.2.2.2) fun n0 => .e)) .e)))) (by unfold zi; kernel_rfl)
-- (*doorstep/machine.machine).skips
theorem zjS : COk Tryz.prog G 189 zkG := zd zj hNm tyk (CLs.nil.add zjD) 36 Tryz.func189 (by kernel_rfl) (hn := .e) (by unfold zi; kernel_rfl)
-- doorstep/tmpl.find
theorem zwK : COk Tryz.prog G 317 zy8 := zd zj hNm tyk CLs.nil 20 Tryz.func317 (by kernel_rfl) (hn := .n 1 (.q (.n 1 (.w [(1, .str),(7, .sl (.st 21)),(8, .int),(9, .int)] [] (fun m t => zgu t.1 t.2.1 t.2.2.1 m t.2.2.2) fun n0 => .e)) .e)) (by unfold zi; kernel_rfl)
-- doorstep/tmpl.clean
theorem zuD : COk Tryz.prog G 318 zxC := zd zj hNm tyk ((CLs.nil.add zen).add zle) 29 Tryz.func318 (by kernel_rfl) (hn := .n 2 (.q (.n 1 (.w [(0, .str),(3, .so 5 .u8),(4, .int)] [] (fun m t => zc7 t.1 m t.2.1 t.2.2) fun n0 => .q (.j [(0, .str),(3, .so 5 .u8),(4, .int),(13, .bool)] [] (fun t => zhx (zc7 t.1 n0) t.1 t.2.1 t.2.2.1 t.2.2.2) .e .e) .e)) .e)) (by unfold zi; kernel_rfl)
-- doorstep/tmpl.Eval
theorem zwL : COk Tryz.prog G 292 zy9 := zd zj hNm tyk (((((CLs.nil.add zuD).add zcV).add zjD).add zwK).add zdg) 56 Tryz.func292 (by kernel_rfl) (hn := .n 3 (.q (.n 1 (.w [(0, .sl (.st 21)),(7, .po 7),(8, .so 9 .str),(15, .sl (.st 5)),(16, .int),(17, .int)] [] (fun m t => zcY t.1 t.2.1 t.2.2.2.1 t.2.2.2.2.1 m t.2.2.1 t.2.2.2.2.2) fun n0 => .e)) .e)) (by unfold zi; kernel_rfl)
-- (*doorstep/machine.machine).value
theorem zjT : COk Tryz.prog G 245 zkH := zd zj hNm tyk ((CLs.nil.add zwL).add zaZ) 16 Tryz.func245 (by kernel_rfl) (hn := .e) (by unfold zi; kernel_rfl)
-- (*doorstep/bag.Bag).Rename
theorem znw : COk Tryz.prog G 246 zoM := zd zj hNm tyk (CLs.nil.add zcT) 41 Tryz.func246 (by kernel_rfl) (hn := .n 3 (.q (.n 1 (.w [(9000, .po 7),(1, .str),(2, .str),(7, .int),(15, .int),(16, .int)] [(0,9000)] (fun m t => zW t.2.1 t.2.2.1 t.2.2.2.2.1 m t.1 t.2.2.2.1 t.2.2.2.2.2) fun n0 => .e)) .e)) (by unfold zi; kernel_rfl)
-- (*doorstep/machine.machine).do
theorem zkr : COk Tryz.prog G 190 zlu := zd zj hNm tyk (((((CLs.nil.add znw).add zli).add zfr).add zjT).add zfK) 55 Tryz.func190 (by kernel_rfl) (hn := .e) (by unfold zi; kernel_rfl)
-- (*doorstep/machine.machine).run
theorem zjU : COk Tryz.prog G 119 zkI := zd zj hNm tyk ((CLs.nil.add zkr).add zjS) 41 Tryz.func119 (by kernel_rfl) (hn := .n 1 (.w [(9000, .po 27),(1, .sl (.st 22)),(4, .int)] [(0,9000)] (fun m t => zF t.2.1 m t.1 t.2.2) fun n0 => .n 1 (.j [(9000, .po 27),(1, .sl (.st 22)),(4, .int)] [(0,9000)] (fun t => zaH (zF t.2.1 n0) t.1 t.2.2) .e .e))) (by unfold zi; kernel_rfl)
-- doorstep/machine.Run
theorem zsY : COk Tryz.prog G 66 zvD := zd zj hNm tyk (((CLs.nil.add zaZ).add zjU).add zdg) 21 Tryz.func66 (by kernel_rfl) (hn := .e) (by unfold zi; kernel_rfl)
-- doorstep/machine.Rules
theorem zqp : COk Tryz.prog G 32 zr2 := zd zj hNm tyk ((CLs.nil.add zsY).add zog) 25 Tryz.func32 (by kernel_rfl) (hn := .e) (by unfold zi; kernel_rfl)
-- (doorstep/via.reader).protocol
theorem zjV : COk Tryz.prog G 250 zkJ := zd zj hNm tyk ((CLs.nil.add zH).add zb1) 37 Tryz.func250 (by kernel_rfl) (hn := .n 3 (.j [(9001, .po 28),(9032, .po 8),(6, .bool)] [] (fun t => zbA t.1 t.2.1 t.2.2) (.j [(9001, .po 28),(2, .po 29),(5, .str),(6, .bool),(22, .bool)] [(9032,100002),(1,9001)] (fun t => zbB t.1 t.2.1 t.2.2.1 t.2.2.2.1 t.2.2.2.2) .e .e) .e)) (by unfold zi; kernel_rfl)
-- (doorstep/via.reader).by$1
theorem zgZ : COk Tryz.prog G 80 zmd := zd zj hNm tyk (CLs.nil.add zfH) 9 Tryz.func80 (by kernel_rfl) (hn := .e) (by unfold zi; kernel_rfl)
-- (doorstep/via.reader).by
theorem zoh : COk Tryz.prog G 251 zpD := zd zj hNm tyk ((((CLs.nil.add zgZ).add zc3).add zdi).add z8) 38 Tryz.func251 (by kernel_rfl) (hn := .n 3 (.j [(9001, .po 28),(9032, .po 8),(4, .bool)] [] (fun t => zct t.1 t.2.1 t.2.2) .e .e)) (by unfold zi; kernel_rfl)
-- doorstep/via.balanced
theorem zrm : COk Tryz.prog G 295 ztC := zd zj hNm tyk (CLs.nil.add zaS) 41 Tryz.func295 (by kernel_rfl) (hn := .n 2 (.q (.n 1 (.w [(0, .str),(3, .int),(4, .int)] [] (fun m t => zaM t.1 m t.2.1 t.2.2) fun n0 => .n 1 (.q (.j [(0, .str),(3, .int),(4, .int)] [] (fun t => zcQ (zaM t.1 n0) t.1 t.2.1 t.2.2) .e .e) .e))) .e)) (by unfold zi; kernel_rfl)
-- (doorstep/via.reader).comment
theorem zks : COk Tryz.prog G 252 zlv := zd zj hNm tyk (((((CLs.nil.add zrm).add zia).add ze4).add zdd).add zaN) 40 Tryz.func252 (by kernel_rfl) (hn := .n 5 (.j [(9001, .po 28),(9032, .po 8),(4, .bool)] [] (fun t => zaq t.1 t.2.1 t.2.2) .e .e)) (by unfold zi; kernel_rfl)
-- doorstep/via.Parse
theorem zwM : COk Tryz.prog G 193 zza := zd zj hNm tyk (((((CLs.nil.add zks).add zoh).add zH).add zjV).add zfI) 30 Tryz.func193 (by kernel_rfl) (hn := .e) (by unfold zi; kernel_rfl)
-- doorstep/via.Text
theorem zyK : COk Tryz.prog G 123 zBj := zd zj hNm tyk ((CLs.nil.add zwM).add zcV) 44 Tryz.func123 (by kernel_rfl) (hn := .n 2 (.j [(1, .po 28),(4, .so 9 .str)] [] (fun t => zjn t.1 t.2) .e (.j [(1, .po 28),(4, .so 9 .str)] [] (fun t => zjm t.1 t.2) .e .e))) (by unfold zi; kernel_rfl)
-- doorstep/commas.Join
theorem zsZ : COk Tryz.prog G 253 zvE := zd zj hNm tyk (CLs.nil.add zcV) 5 Tryz.func253 (by kernel_rfl) (hn := .e) (by unfold zi; kernel_rfl)
-- doorstep/commas.Append
theorem zqq : COk Tryz.prog G 194 zr3 := zd zj hNm tyk (((CLs.nil.add zmX).add zsZ).add zen) 22 Tryz.func194 (by kernel_rfl) (hn := .e) (by unfold zi; kernel_rfl)
-- (*doorstep/bag.Bag).Behind
theorem zfN : COk Tryz.prog G 124 zoN := zd zj hNm tyk (((CLs.nil.add zfr).add zqq).add zcT) 53 Tryz.func124 (by kernel_rfl) (hn := .n 1 (.q (.n 1 (.w [(9000, .po 7),(1, .str),(2, .str),(6, .int)] [(0,9000)] (fun m t => zae t.1 t.2.1 t.2.2.1 m t.2.2.2) fun n0 => .e)) .e)) (by unfold zi; kernel_rfl)
-- doorstep/via.Append
theorem zuE : COk Tryz.prog G 69 zxD := zd zj hNm tyk ((((CLs.nil.add zaZ).add zfN).add zdg).add zyK) 24 Tryz.func69 (by kernel_rfl) (hn := .e) (by unfold zi; kernel_rfl)
-- doorstep/forwarded.Node
theorem zo8 : COk Tryz.prog G 196 zqx := zd zj hNm tyk ((CLs.nil.add ziN).add zdS) 13 Tryz.func196 (by kernel_rfl) (hn := .e) (by unfold zi; kernel_rfl)
-- doorstep/forwarded.Make
theorem zo9 : COk Tryz.prog G 126 zqy := zd zj hNm tyk (CLs.nil.add zo8) 28 Tryz.func126 (by kernel_rfl) (hn := .n 2 (.j [(1, .po 0),(3, .so 123 (.st 21))] [] (fun t => zeh t.1 t.2) .e (.j [(3, .so 123 (.st 21))] [] (fun t => zeg t) .e .e))) (by unfold zi; kernel_rfl)
-- doorstep/quoted.Quote
theorem zrn : COk Tryz.prog G 255 ztD := zd zj hNm tyk (CLs.nil.add zaS) 40 Tryz.func255 (by kernel_rfl) (hn := .n 3 (.q (.n 1 (.w [(0, .str),(4, .so 5 .u8),(12, .int),(13, .int)] [] (fun m t => zbb t.1 t.2.2.1 m t.2.1 t.2.2.2) fun n0 => .n 2 (.q (.n 1 (.j [(0, .str),(4, .so 5 .u8),(5, .int),(12, .int),(13, .int)] [] (fun t => zfC (zbb t.1 t.2.2.2.1 n0) t.1 t.2.1 t.2.2.1 t.2.2.2.2) (.j [(0, .str),(4, .so 5 .u8),(5, .int),(12, .int),(13, .int),(25, .bool)] [] (fun t => zfD (zbb t.1 t.2.2.2.1 n0) t.1 t.2.1 t.2.2.1 t.2.2.2.2.1 t.2.2.2.2.2) .e .e) .e)) .e))) .e)) (by unfold zi; kernel_rfl)
-- doorstep/quoted.Either
theorem zqr : COk Tryz.prog G 195 zr4 := zd zj hNm tyk ((CLs.nil.add zrn).add zc3) 11 Tryz.func195 (by kernel_rfl) (hn := .e) (by unfold zi; kernel_rfl)
-- doorstep/params.Text
theorem zs0 : COk Tryz.prog G 125 zvF := zd zj hNm tyk (((CLs.nil.add zcV).add zc3).add zqr) 43 Tryz.func125 (by kernel_rfl) (hn := .n 2 (.q (.n 1 (.w [(4, .so 9 .str),(9, .sl (.st 21)),(10, .int),(11, .int)] [] (fun m t => zev t.2.1 t.2.2.1 m t.1 t.2.2.2) fun n0 => .e)) .e)) (by unfold zi; kernel_rfl)
-- doorstep/forwarded.Append
theorem znx : COk Tryz.prog G 70 zoO := zd zj hNm tyk (((((CLs.nil.add zaZ).add zfN).add zdg).add zs0).add zo9) 25 Tryz.func70 (by kernel_rfl) (hn := .e) (by unfold zi; kernel_rfl)
-- doorstep/xff.bare
theorem zyL : COk Tryz.prog G 127 zBk := zd zj hNm tyk ((CLs.nil.add ziN).add zdS) 9 Tryz.func127 (by kernel_rfl) (hn := .e) (by unfold zi; kernel_rfl)
-- doorstep/xff.Append
theorem zuF : COk Tryz.prog G 71 zxE := zd zj hNm tyk ((((CLs.nil.add zaZ).add zfN).add zdg).add zyL) 16 Tryz.func71 (by kernel_rfl) (hn := .n 1 (.j [(0, .str),(1, .sl (.st 3))] [] (fun t => zfg t.1 t.2) .e .e)) (by unfold zi; kernel_rfl)
-- doorstep/stage.Sign
theorem zuG : COk Tryz.prog G 34 zxF := zd zj hNm tyk ((((((CLs.nil.add zgX).add zdg).add zuF).add znx).add zuE).add zdh) 70 Tryz.func34 (by kernel_rfl) (hn := .n 1 (.q (.j [(1, .int),(3, .po 0),(5, .po 2),(6, .po 15),(26, .bool)] [] (fun t => zcd t.1 t.2.1 t.2.2.1 t.2.2.2.2) .e .e) (.n 1 (.j [(5, .po 2),(6, .po 15),(8, .so 49 (.st 3)),(9, .int)] [] (fun t => zfh t.1 t.2.2.1 t.2.2.2) (.j [(3, .po 0),(5, .po 2),(6, .po 15),(8, .so 49 (.st 3)),(9, .int),(46, .bool)] [] (fun t => zfi t.1 t.2.1 t.2.2.2.1 t.2.2.2.2.1 t.2.2.2.2.2) .e .e) .e)))) (by unfold zi; kernel_rfl)
-- doorstep/length.Fields
theorem zlj : COk Tryz.prog G 12 zr5 := zd zj hNm tyk (CLs.nil.add zdh) 16 Tryz.func12 (by kernel_rfl) (hn := .e) (by unfold zi; kernel_rfl)
-- doorstep/rewrite.Head
theorem zlP : COk Tryz.prog G 10 ztE := zd zj hNm tyk (((((CLs.nil.add zlj).add zuG).add zqp).add zsT).add zsS) 58 Tryz.func10 (by kernel_rfl) (hn := .e) (by unfold zi; kernel_rfl)
-- doorstep/doorsteplaw40.awake
theorem zs1 : COk Tryz.prog G 4 zvG := zd zj hNm tyk (CLs.nil.add zlP) 41 Tryz.func4 (by kernel_rfl) (hn := .n 3 (.j [(0, .bool)] [] (fun t => zew t) .e .e)) (by unfold zi; kernel_rfl)
-- doorstep/doorsteplaw26.swap
theorem zuH : COk Tryz.prog G 42 zxG := zd zj hNm tyk CLs.nil 18 Tryz.func42 (by kernel_rfl) (hn := .e) (by unfold zi; kernel_rfl)
-- doorstep/doorsteplaw26.Few
theorem zwN : COk Tryz.prog G 21 zzb := zd zj hNm tyk (CLs.nil.add zuH) 86 Tryz.func21 (by kernel_rfl) (hn := .n 2 (.q (.n 1 (.w [(1, .po 0),(2, .po 31),(3, .po 30),(4, .int)] [] (fun m t => ze t.1 m t.2.2.1 t.2.2.2) fun n0 => .n 1 (.j [(1, .po 0),(2, .po 31),(3, .po 30),(4, .int)] [] (fun t => zg (ze t.1 n0) t.2.2.1 t.2.2.2) .e .e))) (.j [(1, .po 0),(2, .po 31),(5, .po 31)] [] (fun t => za t.1 t.2.2) .e (.q (.n 1 (.w [(1, .po 0),(2, .po 31),(5, .po 31),(6, .int)] [] (fun m t => zb8 t.1 m t.2.2.1 t.2.2.2) fun n1 => .q (.j [(1, .po 0),(2, .po 31),(5, .po 31),(6, .int),(49, .bool)] [] (fun t => ziw (zb8 t.1 n1) t.1 t.2.2.1 t.2.2.2.1 t.2.2.2.2) .e .e) .e)) (.q (.n 1 (.w [(1, .po 0),(2, .po 31),(5, .po 31),(7, .int)] [] (fun m t => zdF t.1 m t.2.2.1 t.2.2.2) fun n2 => .q (.j [(1, .po 0),(2, .po 31),(5, .po 31),(7, .int),(71, .bool)] [] (fun t => ziv (zdF t.1 n2) t.1 t.2.2.1 t.2.2.2.1 t.2.2.2.2) .e .e) .e)) .e))))) (by unfold zi; kernel_rfl)
-- doorstep/doorsteplaw29.Few
theorem zwO : COk Tryz.prog G 22 zzc := zd zj hNm tyk CLs.nil 46 Tryz.func22 (by kernel_rfl) (hn := .n 2 (.q (.n 1 (.w [(0, .sl (.st 1)),(3, .so 86 (.st 1)),(4, .int)] [] (fun m t => zdG t.1 m t.2.1 t.2.2) fun n0 => .q (.j [(0, .sl (.st 1)),(3, .so 86 (.st 1)),(4, .int),(12, .bool)] [] (fun t => zix (zdG t.1 n0) t.1 t.2.1 t.2.2.1 t.2.2.2) .e .e) .e)) .e)) (by unfold zi; kernel_rfl)
-- doorstep/doorsteplaw39.Few
theorem zwP : COk Tryz.prog G 5 zzd := zd zj hNm tyk ((CLs.nil.add zwO).add zwN) 15 Tryz.func5 (by kernel_rfl) (hn := .e) (by unfold zi; kernel_rfl)
-- doorstep/doorsteplaw15.few
theorem zwQ : COk Tryz.prog G 23 zze := zd zj hNm tyk CLs.nil 8 Tryz.func23 (by kernel_rfl) (hn := .e) (by unfold zi; kernel_rfl)
-- doorstep/doorsteplaw15.Few
theorem zwR : COk Tryz.prog G 6 zzf := zd zj hNm tyk (CLs.nil.add zwQ) 49 Tryz.func6 (by kernel_rfl) (hn := .n 5 (.q (.n 1 (.w [(1, .po 2),(2, .po 15),(3, .so 49 (.st 3)),(4, .int)] [] (fun m t => zdH t.1 m t.2.2.1 t.2.2.2) fun n0 => .q (.j [(1, .po 2),(2, .po 15),(3, .so 49 (.st 3)),(4, .int),(25, .bool)] [] (fun t => ziy (zdH t.1 n0) t.1 t.2.2.1 t.2.2.2.1 t.2.2.2.2) .e .e) .e)) .e)) (by unfold zi; kernel_rfl)
-- doorstep/doorsteplaw31.Few
theorem zwS : COk Tryz.prog G 78 zzg := zd zj hNm tyk CLs.nil 38 Tryz.func78 (by kernel_rfl) (hn := .n 2 (.q (.n 1 (.w [(0, .sl (.st 5)),(3, .so 196 (.st 5)),(4, .int)] [] (fun m t => zdI t.1 m t.2.1 t.2.2) fun n0 => .q (.j [(0, .sl (.st 5)),(3, .so 196 (.st 5)),(4, .int),(12, .bool)] [] (fun t => ziz (zdI t.1 n0) t.1 t.2.1 t.2.2.1 t.2.2.2) .e .e) .e)) .e)) (by unfold zi; kernel_rfl)
-- doorstep/doorsteplaw32.Few
theorem zwT : COk Tryz.prog G 43 zzh := zd zj hNm tyk (CLs.nil.add zwS) 50 Tryz.func43 (by kernel_rfl) (hn := .n 2 (.q (.n 1 (.w [(1, .po 4),(2, .po 32),(3, .po 30),(4, .int)] [] (fun m t => zf t.1 m t.2.2.1 t.2.2.2) fun n0 => .n 1 (.j [(1, .po 4),(2, .po 32),(3, .po 30),(4, .int)] [] (fun t => zh (zf t.1 n0) t.2.2.1 t.2.2.2) .e .e))) (.j [(1, .po 4),(2, .po 32),(3, .po 30)] [] (fun t => zgz t.1 t.2.2) .e (.j [(1, .po 4),(2, .po 32),(3, .po 30)] [] (fun t => zgy t.1 t.2.2) .e (.j [(1, .po 4),(2, .po 32),(3, .po 30)] [] (fun t => zgx t.1 t.2.2) .e (.j [(1, .po 4),(2, .po 32)] [] (fun t => zdJ t.1) .e .e)))))) (by unfold zi; kernel_rfl)
-- doorstep/doorsteplaw35.Few
theorem zwU : COk Tryz.prog G 24 zzi := zd zj hNm tyk (CLs.nil.add zwT) 24 Tryz.func24 (by kernel_rfl) (hn := .n 2 (.q (.n 1 (.w [(0, .sl (.st 4)),(3, .so 63 (.st 4)),(4, .int)] [] (fun m t => zdK t.1 m t.2.1 t.2.2) fun n0 => .q (.j [(0, .sl (.st 4)),(3, .so 63 (.st 4)),(4, .int),(12, .bool)] [] (fun t => ziA (zdK t.1 n0) t.1 t.2.1 t.2.2.1 t.2.2.2) .e .e) .e)) .e)) (by unfold zi; kernel_rfl)
-- doorstep/doorsteplaw40.Few
theorem zwV : COk Tryz.prog G 7 zzj := zd zj hNm tyk (CLs.nil.add zwU) 31 Tryz.func7 (by kernel_rfl) (hn := .n 2 (.q (.n 1 (.w [(3, .so 63 (.st 4)),(4, .int)] [] (fun m t => zgA m t.1 t.2) fun n0 => .e)) .e)) (by unfold zi; kernel_rfl)
-- (doorstep/startline.line).digit
theorem zkt : COk Tryz.prog G 271 zlw := zd zj hNm tyk (((CLs.nil.add zH).add zh5).add za5) 26 Tryz.func271 (by kernel_rfl) (hn := .e) (by unfold zi; kernel_rfl)
-- (doorstep/startline.line).version
theorem zfa : COk Tryz.prog G 208 zj8 := zd zj hNm tyk (((CLs.nil.add zH).add zkt).add zgY) 36 Tryz.func208 (by kernel_rfl) (hn := .e) (by unfold zi; kernel_rfl)
-- doorstep/startline.other
theorem zi8 : COk Tryz.prog G 138 zpE := zd zj hNm tyk (((CLs.nil.add zaN).add zfa).add zfI) 30 Tryz.func138 (by kernel_rfl) (hn := .e) (by unfold zi; kernel_rfl)
-- doorstep/startline.request$1
theorem zgh : COk Tryz.prog G 145 zlx := zd zj hNm tyk (CLs.nil.add zfa) 23 Tryz.func145 (by kernel_rfl) (hn := .e) (by unfold zi; kernel_rfl)
-- doorstep/startline.request
theorem zmY : COk Tryz.prog G 81 znM := zd zj hNm tyk (((((((((CLs.nil.add zaN).add zlK).add zgh).add z8).add zH).add zb1).add zfI).add zi8).add zfT) 84 Tryz.func81 (by kernel_rfl) (hn := .e) (by unfold zi; kernel_rfl)
-- doorstep/startline.status
theorem zny : COk Tryz.prog G 82 zoP := zd zj hNm tyk (((((((((CLs.nil.add zaS).add zdd).add zef).add z8).add zH).add zgh).add zfI).add zi8).add zhj) 84 Tryz.func82 (by kernel_rfl) (hn := .e) (by unfold zi; kernel_rfl)
-- doorstep/startline.Parse
theorem zoi : COk Tryz.prog G 45 zpF := zd zj hNm tyk (((CLs.nil.add zny).add zmY).add zgZ) 29 Tryz.func45 (by kernel_rfl) (hn := .n 1 (.q (.j [(0, .int),(1, .str),(4, .po 15),(6, .bool)] [] (fun t => zdL t.1 t.2.1 t.2.2.2) .e .e) .e)) (by unfold zi; kernel_rfl)
-- doorstep/startline.Text
theorem zpa : COk Tryz.prog G 25 zqz := zd zj hNm tyk (((CLs.nil.add zoi).add zcV).add zdh) 81 Tryz.func25 (by kernel_rfl) (hn := .n 3 (.j [(1, .po 2),(5, .str)] [] (fun t => zej t.1 t.2) .e (.n 2 (.j [(5, .str),(7, .int),(8, .bool)] [] (fun t => za2 t.1 t.2.1 t.2.2) .e .e)))) (by unfold zi; kernel_rfl)
-- doorstep/head.hosts
theorem zuI : COk Tryz.prog G 50 zxH := zd zj hNm tyk (((CLs.nil.add zdi).add zeH).add zdg) 43 Tryz.func50 (by kernel_rfl) (hn := .n 4 (.q (.n 1 (.w [(25, .so 9 .str),(26, .int),(27, .int)] [] (fun m t => zc8 t.1 t.2.1 m t.2.2) fun n0 => .n 2 (.q (.n 2 (.j [(25, .so 9 .str),(26, .int),(27, .int),(41, .bool)] [] (fun t => zhA (zc8 t.1 t.2.1 n0) t.2.2.1 t.2.2.2) .e .e)) .e))) .e)) (by unfold zi; kernel_rfl)
-- doorstep/head.whole
theorem zuJ : COk Tryz.prog G 27 zxJ := zd zj hNm tyk (CLs.nil.add zuI) 12 Tryz.func27 (by kernel_rfl) (hn := .e) (by unfold zi; kernel_rfl)
-- doorstep/head.Check
theorem zuK : COk Tryz.prog G 8 zxK := zd zj hNm tyk (((CLs.nil.add zuJ).add zi7).add zpa) 31 Tryz.func8 (by kernel_rfl) (hn := .n 2 (.q (.n 1 (.w [(1, .po 2),(17, .sl (.st 3)),(18, .int),(19, .int)] [] (fun m t => zfj t.1 t.2.1 t.2.2.1 m t.2.2.2) fun n0 => .e)) .e)) (by unfold zi; kernel_rfl)
-- doorstep/doorstepref03.Digits
theorem zjW : ∀ n,COk Tryz.prog G 94 (zqA n)
 | 0 => zx5 ⟨_,Tryz.func94,by kernel_rfl,by kernel_rfl⟩ fun _ => rfl
 | n + 1 => by
  have h := zjW n
  exact zd zj hNm tyk (CLs.nil.add h) 29 Tryz.func94 (by kernel_rfl) (hn := .e) (by unfold zi; kernel_rfl)
theorem ziO : COk Tryz.prog G 94 ztF := zjW fuel
-- doorstep/doorstepref03.Text
theorem zoj : COk Tryz.prog G 51 zxL := zd zj hNm tyk (CLs.nil.add ziO) 10 Tryz.func51 (by kernel_rfl) (hn := .e) (by unfold zi; kernel_rfl)
-- doorstep/doorstepref08.Parts
theorem zjH : COk Tryz.prog G 95 zvH := zd zj hNm tyk CLs.nil 34 Tryz.func95 (by kernel_rfl) (hn := .n 3 (.q (.n 1 (.w [(0, .str),(1, .u8),(5, .so 9 .str),(6, .int),(7, .int)] [] (fun m t => zdn t.1 t.2.1 m t.2.2.1 t.2.2.2.1 t.2.2.2.2) fun n0 => .e)) .e)) (by unfold zi; kernel_rfl)
-- doorstep/doorstepref01.In
theorem zg5 : COk Tryz.prog G 163 zt5 := zd zj hNm tyk CLs.nil 17 Tryz.func163 (by kernel_rfl) (hn := .n 1 (.q (.n 1 (.w [(0, .u8),(1, .str),(5, .int)] [] (fun m t => zf4 t.1 t.2.1 m t.2.2) fun n0 => .e)) .e)) (by unfold zi; kernel_rfl)
-- doorstep/doorstepref01.Digit
theorem zs2 : COk Tryz.prog G 157 zoQ := zd zj hNm tyk (CLs.nil.add zg5) 5 Tryz.func157 (by kernel_rfl) (hn := .e) (by unfold zi; kernel_rfl)
-- doorstep/doorstepref14.Version
theorem zqs : COk Tryz.prog G 96 zr6 := zd zj hNm tyk (CLs.nil.add zs2) 34 Tryz.func96 (by kernel_rfl) (hn := .e) (by unfold zi; kernel_rfl)
-- doorstep/doorstepref01.Tok
theorem zwW : COk Tryz.prog G 100 zr7 := zd zj hNm tyk (CLs.nil.add zg5) 5 Tryz.func100 (by kernel_rfl) (hn := .e) (by unfold zi; kernel_rfl)
-- doorstep/doorstepref01.Token
theorem zjI : COk Tryz.prog G 53 zvI := zd zj hNm tyk (CLs.nil.add zwW) 18 Tryz.func53 (by kernel_rfl) (hn := .n 1 (.q (.n 1 (.w [(0, .str),(3, .int)] [] (fun m t => zex t.1 m t.2) fun n0 => .e)) .e)) (by unfold zi; kernel_rfl)
-- doorstep/doorstepref03.worth
theorem zng : COk Tryz.prog G 162 zvJ := zd zj hNm tyk CLs.nil 26 Tryz.func162 (by kernel_rfl) (hn := .n 3 (.q (.n 1 (.w [(0, .u8),(1, .int),(5, .str),(6, .str),(7, .int)] [] (fun m t => ziX t.1 t.2.1 t.2.2.1 t.2.2.2.1 m t.2.2.2.2) fun n0 => .e)) .e)) (by unfold zi; kernel_rfl)
-- doorstep/doorstepref03.Plain
theorem zs3 : COk Tryz.prog G 160 zvK := zd zj hNm tyk ((CLs.nil.add ziO).add zng) 38 Tryz.func160 (by kernel_rfl) (hn := .n 2 (.q (.n 1 (.w [(0, .str),(1, .int),(6, .str),(7, .int)] [] (fun m t => zcv t.1 t.2.1 m t.2.2.1 t.2.2.2) fun n0 => .n 1 (.q (.n 2 (.j [(0, .str),(1, .int),(6, .str),(7, .int),(8, .int),(27, .bool)] [] (fun t => zgD (zcv t.1 t.2.1 n0) t.2.1 t.2.2.1 t.2.2.2.1 t.2.2.2.2.1 t.2.2.2.2.2) .e .e)) .e))) .e)) (by unfold zi; kernel_rfl)
-- doorstep/doorstepref03.Less
theorem zuL : COk Tryz.prog G 161 zxM := zd zj hNm tyk CLs.nil 22 Tryz.func161 (by kernel_rfl) (hn := .e) (by unfold zi; kernel_rfl)
-- doorstep/doorstepref03.Read
theorem zok : COk Tryz.prog G 98 zxN := zd zj hNm tyk ((((CLs.nil.add zng).add zuL).add ziO).add zs3) 45 Tryz.func98 (by kernel_rfl) (hn := .n 5 (.q (.n 1 (.w [(1, .int),(8, .str),(10, .int),(11, .int)] [] (fun m t => zfl t.1 t.2.1 m t.2.2.1 t.2.2.2) fun n0 => .e)) .e)) (by unfold zi; kernel_rfl)
-- doorstep/doorstepref08.Small
theorem znh : COk Tryz.prog G 103 zvL := zd zj hNm tyk ((CLs.nil.add zoj).add zok) 25 Tryz.func103 (by kernel_rfl) (hn := .e) (by unfold zi; kernel_rfl)
-- doorstep/doorstepref08.Four
theorem zol : COk Tryz.prog G 165 zxO := zd zj hNm tyk ((CLs.nil.add znh).add zjH) 22 Tryz.func165 (by kernel_rfl) (hn := .n 2 (.q (.n 1 (.w [(3, .so 9 .str),(4, .int)] [] (fun m t => zfm t.1 m t.2) fun n0 => .e)) .e)) (by unfold zi; kernel_rfl)
-- doorstep/doorstepref01.Hex
theorem zlQ : COk Tryz.prog G 220 zr8 := zd zj hNm tyk (CLs.nil.add zg5) 5 Tryz.func220 (by kernel_rfl) (hn := .e) (by unfold zi; kernel_rfl)
-- doorstep/doorstepref08.whole
theorem zs4 : COk Tryz.prog G 219 zvM := zd zj hNm tyk (((CLs.nil.add zlQ).add zol).add zjH) 64 Tryz.func219 (by kernel_rfl) (hn := .n 3 (.q (.n 1 (.w [(3, .so 9 .str),(4, .int),(5, .int)] [] (fun m t => zbJ t.1 m t.2.1 t.2.2) fun n0 => .n 1 (.q (.q (.j [(3, .so 9 .str),(4, .int),(5, .int),(26, .bool)] [] (fun t => zgE (zbJ t.1 n0) t.1 t.2.1 t.2.2.1 t.2.2.2) .e .e) (.q (.n 1 (.w [(3, .so 9 .str),(4, .int),(5, .int),(6, .int)] [] (fun m t => zey (zbJ t.1 n0) t.1 t.2.1 t.2.2.1 m t.2.2.2) fun n1 => .e)) .e)) .e))) .e)) (by unfold zi; kernel_rfl)
-- doorstep/doorstepref08.Six
theorem zwX : COk Tryz.prog G 164 zzk := zd zj hNm tyk (CLs.nil.add zs4) 59 Tryz.func164 (by kernel_rfl) (hn := .n 1 (.q (.n 1 (.w [(0, .str),(3, .int)] [] (fun m t => zeZ t.1 m t.2) fun n0 => .n 1 (.q (.n 1 (.q (.n 1 (.w [(0, .str),(3, .int),(4, .int)] [] (fun m t => zc0 t.1 t.2.1 m t.2.2) fun n1 => .n 1 (.q (.n 1 (.q (.n 1 (.w [(0, .str),(3, .int),(4, .int),(5, .str),(6, .int)] [] (fun m t => zdM (zc0 t.1 t.2.1 n1) t.1 t.2.1 t.2.2.1 m t.2.2.2.1 t.2.2.2.2) fun n2 => .n 1 (.q (.j [(0, .str),(3, .int),(4, .int),(5, .str),(6, .int)] [] (fun t => ziB (zdM (zc0 t.1 t.2.1 n1) t.1 t.2.1 t.2.2.1 n2) t.2.2.2.1 t.2.2.2.2) .e .e) .e))) (.j [(0, .str),(3, .int),(4, .int),(5, .str)] [] (fun t => ziC (zc0 t.1 t.2.1 n1) t.2.2.1 t.2.2.2) .e .e))) .e))) .e)) .e))) .e)) (by unfold zi; kernel_rfl)
-- doorstep/doorstepref01.Unreserved
theorem ziP : COk Tryz.prog G 221 zjc := zd zj hNm tyk (CLs.nil.add zg5) 5 Tryz.func221 (by kernel_rfl) (hn := .e) (by unfold zi; kernel_rfl)
-- doorstep/doorstepref01.Sub
theorem zpV : COk Tryz.prog G 222 zr9 := zd zj hNm tyk (CLs.nil.add zg5) 5 Tryz.func222 (by kernel_rfl) (hn := .e) (by unfold zi; kernel_rfl)
-- doorstep/doorstepref08.Name
theorem zuM : COk Tryz.prog G 166 zxP := zd zj hNm tyk (((CLs.nil.add zpV).add ziP).add zlQ) 52 Tryz.func166 (by kernel_rfl) (hn := .n 1 (.q (.n 1 (.w [(0, .str),(3, .int)] [] (fun m t => zce t.1 m t.2) fun n0 => .n 1 (.q (.n 1 (.j [(0, .str),(3, .int),(48, .bool)] [] (fun t => zhB (zce t.1 n0) t.2.1 t.2.2) .e .e)) .e))) .e)) (by unfold zi; kernel_rfl)
-- doorstep/doorstepref08.of
theorem zyM : COk Tryz.prog G 102 zBl := zd zj hNm tyk (((CLs.nil.add zuM).add zol).add zwX) 42 Tryz.func102 (by kernel_rfl) (hn := .n 1 (.q (.j [(0, .str),(2, .po 13),(26, .bool)] [] (fun t => zf7 t.1 t.2.2) .e .e) .e)) (by unfold zi; kernel_rfl)
-- doorstep/doorstepref08.Parse
theorem zni : COk Tryz.prog G 56 zvN := zd zj hNm tyk ((CLs.nil.add znh).add zyM) 45 Tryz.func56 (by kernel_rfl) (hn := .n 3 (.q (.n 1 (.w [(0, .str),(2, .po 13),(4, .po 13),(5, .int)] [] (fun m t => zez t.1 m t.2.2.2) fun n0 => .e)) .e)) (by unfold zi; kernel_rfl)
-- doorstep/doorstepref09.Mark
theorem zuN : COk Tryz.prog G 216 zxQ := zd zj hNm tyk CLs.nil 17 Tryz.func216 (by kernel_rfl) (hn := .n 2 (.q (.w [(0, .str),(3, .int)] [] (fun m t => zc9 t.1 m t.2) fun n0 => .q (.j [(0, .str),(3, .int),(13, .bool)] [] (fun t => zhC (zc9 t.1 n0) t.2.1 t.2.2) .e .e) .e) .e)) (by unfold zi; kernel_rfl)
-- doorstep/doorstepref01.Path
theorem zuO : COk Tryz.prog G 276 zpZ := zd zj hNm tyk ((CLs.nil.add zpV).add ziP) 17 Tryz.func276 (by kernel_rfl) (hn := .e) (by unfold zi; kernel_rfl)
-- doorstep/doorstepref09.Of
theorem zom : ∀ n,COk Tryz.prog G 218 (zxR n)
 | 0 => zx5 ⟨_,Tryz.func218,by kernel_rfl,by kernel_rfl⟩ fun _ => rfl
 | n + 1 => by
  have h := zom n
  exact zd zj hNm tyk ((((CLs.nil.add zg5).add zuO).add h).add zlQ) 44 Tryz.func218 (by kernel_rfl) (hn := .e) (by unfold zi; kernel_rfl)
theorem zro : COk Tryz.prog G 218 zBm := zom fuel
-- doorstep/doorstepref09.Path
theorem zuP : COk Tryz.prog G 217 zxS := zd zj hNm tyk (CLs.nil.add zro) 15 Tryz.func217 (by kernel_rfl) (hn := .e) (by unfold zi; kernel_rfl)
-- doorstep/doorstepref09.Query
theorem znj : COk Tryz.prog G 159 zvO := zd zj hNm tyk (CLs.nil.add zro) 5 Tryz.func159 (by kernel_rfl) (hn := .e) (by unfold zi; kernel_rfl)
-- doorstep/doorstepref10.origin
theorem zrp : COk Tryz.prog G 158 ztG := zd zj hNm tyk (((CLs.nil.add znj).add zuP).add zuN) 34 Tryz.func158 (by kernel_rfl) (hn := .n 4 (.j [(2, .po 14),(4, .po 14)] [] (fun t => zfG t.1) .e (.j [(4, .po 14),(5, .bool)] [] (fun t => zfF t.1 t.2) .e .e))) (by unfold zi; kernel_rfl)
-- doorstep/doorstepref01.Fold
theorem zcW : COk Tryz.prog G 40 zxT := zd zj hNm tyk CLs.nil 36 Tryz.func40 (by kernel_rfl) (hn := .n 2 (.q (.n 1 (.w [(0, .str),(3, .str),(4, .int)] [] (fun m t => zd9 t.1 m t.2.1 t.2.2) fun n0 => .n 1 (.q (.n 1 (.q (.n 1 (.w [(0, .str),(3, .str),(4, .int),(5, .str),(6, .int)] [] (fun m t => zda (zd9 t.1 n0) t.1 t.2.1 t.2.2.1 m t.2.2.2.1 t.2.2.2.2) fun n1 => .e)) .e)) .e))) .e)) (by unfold zi; kernel_rfl)
-- doorstep/doorstepref10.Parse
theorem zs5 : COk Tryz.prog G 97 zvP := zd zj hNm tyk ((((CLs.nil.add znj).add zcW).add zrp).add zni) 137 Tryz.func97 (by kernel_rfl) (hn := .n 1 (.q (.n 1 (.q (.n 1 (.q (.j [(4, .po 14),(6, .po 13),(30, .bool)] [] (fun t => zgG t.2.1 t.2.2) .e .e) .e)) .e)) (.q (.j [(1, .str),(4, .po 14),(39, .bool)] [] (fun t => zgI t.1 t.2.2) .e .e) (.n 2 (.q (.n 1 (.w [(1, .str),(4, .po 14),(49, .so 9 .str),(50, .int),(51, .int)] [] (fun m t => zdo t.1 t.2.2.1 t.2.2.2.1 m t.2.2.2.2) fun n1 => .n 2 (.q (.n 5 (.q (.w [(1, .str),(4, .po 14),(11, .str),(13, .int)] [] (fun m t => zbK t.1 t.2.2.1 m t.2.2.2) fun n2 => .q (.j [(1, .str),(4, .po 14),(11, .str),(13, .int),(89, .bool)] [] (fun t => zeA (zbK t.1 t.2.2.1 n2) t.1 t.2.2.1 t.2.2.2.1 t.2.2.2.2) .e .e) .e) (.n 4 (.j [(4, .po 14),(9, .bool),(16, .po 14)] [] (fun t => zgH t.2.1 t.2.2) .e .e)))) .e))) .e))))) (by unfold zi; kernel_rfl)
-- doorstep/doorstepref01.Value
theorem zjJ : COk Tryz.prog G 99 zoR := zd zj hNm tyk CLs.nil 13 Tryz.func99 (by kernel_rfl) (hn := .e) (by unfold zi; kernel_rfl)
-- doorstep/doorstepref14.Parse
theorem zs6 : COk Tryz.prog G 52 zvQ := zd zj hNm tyk ((((((CLs.nil.add zjJ).add zok).add zs5).add zjI).add zqs).add zjH) 144 Tryz.func52 (by kernel_rfl) (hn := .n 1 (.q (.j [(0, .int),(1, .str),(4, .po 15),(21, .bool)] [] (fun t => zgJ t.1 t.2.1 t.2.2.2) .e .e) (.q (.n 1 (.w [(0, .int),(1, .str),(4, .po 15),(6, .int)] [] (fun m t => zeD t.1 t.2.1 m t.2.2.2) fun n0 => .e)) (.n 7 (.q (.n 1 (.w [(4, .po 15),(11, .int),(12, .int),(13, .int),(14, .str),(15, .int)] [] (fun m t => zeC t.2.1 t.2.2.1 t.2.2.2.1 t.2.2.2.2.1 m t.2.2.2.2.2) fun n1 => .e)) .e))))) (by unfold zi; kernel_rfl)
-- doorstep/doorstepref14.Text
theorem zuQ : COk Tryz.prog G 28 zxU := zd zj hNm tyk ((CLs.nil.add zs6).add zoj) 81 Tryz.func28 (by kernel_rfl) (hn := .n 3 (.j [(1, .po 2),(5, .str)] [] (fun t => zhD t.1 t.2) .e .e)) (by unfold zi; kernel_rfl)
-- doorstep/doorstepref12.values
theorem zrq : COk Tryz.prog G 54 ztH := zd zj hNm tyk (CLs.nil.add zjJ) 15 Tryz.func54 (by kernel_rfl) (hn := .n 1 (.q (.n 1 (.w [(0, .str),(3, .int)] [] (fun m t => zd0 t.1 m t.2) fun n0 => .e)) .e)) (by unfold zi; kernel_rfl)
-- doorstep/doorstepref01.Blank
theorem zs7 : COk Tryz.prog G 101 zoS := zd zj hNm tyk CLs.nil 9 Tryz.func101 (by kernel_rfl) (hn := .e) (by unfold zi; kernel_rfl)
-- doorstep/doorstepref06.Trim
theorem zon : COk Tryz.prog G 55 zxV := zd zj hNm tyk (CLs.nil.add zs7) 30 Tryz.func55 (by kernel_rfl) (hn := .n 1 (.q (.w [(0, .str)] [] (fun m t => zdc m t) fun n0 => .q (.j [(0, .str),(10, .bool)] [] (fun t => zhF (zdc n0) t.1 t.2) .e .e) .e) (.q (.w [(0, .str)] [] (fun m t => zdb m t) fun n1 => .q (.j [(0, .str),(23, .bool)] [] (fun t => zhE (zdb n1) t.1 t.2) .e .e) .e) .e))) (by unfold zi; kernel_rfl)
-- doorstep/doorstepref12.Check
theorem zs8 : COk Tryz.prog G 29 zvR := zd zj hNm tyk (((CLs.nil.add zon).add zrq).add zjI) 19 Tryz.func29 (by kernel_rfl) (hn := .e) (by unfold zi; kernel_rfl)
-- doorstep/doorstepref13.Of
theorem zyN : COk Tryz.prog G 73 zBn := zd zj hNm tyk (CLs.nil.add zcW) 11 Tryz.func73 (by kernel_rfl) (hn := .e) (by unfold zi; kernel_rfl)
-- doorstep/doorstepref13.Values
theorem zlR : COk Tryz.prog G 38 ztI := zd zj hNm tyk (CLs.nil.add zyN) 28 Tryz.func38 (by kernel_rfl) (hn := .n 2 (.q (.n 1 (.w [(0, .sl (.st 3)),(1, .str),(5, .so 9 .str),(6, .int)] [] (fun m t => zcR t.1 t.2.1 m t.2.2.1 t.2.2.2) fun n0 => .e)) .e)) (by unfold zi; kernel_rfl)
-- doorstep/doorstepref15.Whole
theorem zs9 : COk Tryz.prog G 30 zvS := zd zj hNm tyk ((CLs.nil.add zni).add zlR) 46 Tryz.func30 (by kernel_rfl) (hn := .n 4 (.q (.j [(3, .so 9 .str),(28, .bool)] [] (fun t => zeE t.1 t.2) .e .e) (.q (.j [(3, .so 9 .str),(37, .bool)] [] (fun t => zgL t.1 t.2) .e .e) .e))) (by unfold zi; kernel_rfl)
-- doorstep/doorstepref15.Check
theorem zta : COk Tryz.prog G 9 zvT := zd zj hNm tyk (((CLs.nil.add zs9).add zs8).add zuQ) 33 Tryz.func9 (by kernel_rfl) (hn := .n 3 (.q (.n 1 (.w [(1, .po 2),(5, .int)] [] (fun m t => zeF t.1 m t.2) fun n0 => .e)) .e)) (by unfold zi; kernel_rfl)
-- doorstep/doorstepref14.Same
theorem zuR : COk Tryz.prog G 35 zxW := zd zj hNm tyk CLs.nil 45 Tryz.func35 (by kernel_rfl) (hn := .e) (by unfold zi; kernel_rfl)
-- doorstep/doorstepref12.Same
theorem zoo : COk Tryz.prog G 13 zxX := zd zj hNm tyk CLs.nil 26 Tryz.func13 (by kernel_rfl) (hn := .n 2 (.q (.n 1 (.w [(0, .sl (.st 3)),(1, .sl (.st 3)),(5, .int)] [] (fun m t => zfn t.1 t.2.1 m t.2.2) fun n0 => .e)) .e)) (by unfold zi; kernel_rfl)
-- doorstep/doorstepref15.Same
theorem zuS : COk Tryz.prog G 11 zxY := zd zj hNm tyk ((CLs.nil.add zoo).add zuR) 15 Tryz.func11 (by kernel_rfl) (hn := .e) (by unfold zi; kernel_rfl)
-- doorstep/doorstepref24.Fixed
theorem znk : COk Tryz.prog G 16 zvU := zd zj hNm tyk (CLs.nil.add zcW) 14 Tryz.func16 (by kernel_rfl) (hn := .e) (by unfold zi; kernel_rfl)
-- doorstep/doorstepref38.Stage
theorem znl : COk Tryz.prog G 19 zvV := zd zj hNm tyk (CLs.nil.add zcW) 42 Tryz.func19 (by kernel_rfl) (hn := .e) (by unfold zi; kernel_rfl)
-- doorstep/doorstepref38.Touches
theorem zlk : COk Tryz.prog G 18 zsa := zd zj hNm tyk (CLs.nil.add zcW) 50 Tryz.func18 (by kernel_rfl) (hn := .n 2 (.q (.n 1 (.w [(1, .int),(2, .sl (.st 4)),(7, .str),(8, .int)] [] (fun m t => zaz t.1 t.2.1 t.2.2.1 m t.2.2.2) fun n0 => .n 1 (.q (.n 1 (.j [(1, .int),(2, .sl (.st 4)),(7, .str),(8, .int),(49, .bool)] [] (fun t => zdp (zaz t.1 t.2.1 t.2.2.1 n0) t.2.2.2.1 t.2.2.2.2) .e .e)) .e))) .e)) (by unfold zi; kernel_rfl)
-- doorstep/doorstepref05.Front
theorem ztb : COk Tryz.prog G 200 zvW := zd zj hNm tyk (CLs.nil.add zjJ) 51 Tryz.func200 (by kernel_rfl) (hn := .n 3 (.q (.n 1 (.w [(0, .str),(4, .str),(5, .int)] [] (fun m t => zcw t.1 m t.2.1 t.2.2) fun n0 => .n 1 (.q (.n 1 (.j [(0, .str),(4, .str),(5, .int)] [] (fun t => zgM (zcw t.1 n0) t.1 t.2.1 t.2.2) .e .e)) .e))) .e)) (by unfold zi; kernel_rfl)
-- doorstep/doorstepref06.Inner
theorem ztc : COk Tryz.prog G 129 zvX := zd zj hNm tyk (CLs.nil.add ztb) 41 Tryz.func129 (by kernel_rfl) (hn := .n 3 (.q (.n 1 (.w [(0, .str),(5, .int),(6, .int)] [] (fun m t => za3 t.1 m t.2.1 t.2.2) fun n0 => .n 1 (.q (.j [(0, .str),(5, .int),(6, .int)] [] (fun t => zdq (za3 t.1 n0) t.2.1 t.2.2) .e .e) .e))) .e)) (by unfold zi; kernel_rfl)
-- doorstep/doorstepref06.Split
theorem ztd : COk Tryz.prog G 74 zvY := zd zj hNm tyk ((CLs.nil.add zon).add ztc) 75 Tryz.func74 (by kernel_rfl) (hn := .n 3 (.q (.n 1 (.w [(0, .str),(4, .so 9 .str),(5, .int),(6, .int)] [] (fun m t => zcx t.1 m t.2.1 t.2.2.1 t.2.2.2) fun n0 => .n 1 (.q (.j [(0, .str),(4, .so 9 .str),(5, .int),(6, .int),(23, .bool)] [] (fun t => zgN (zcx t.1 n0) t.1 t.2.1 t.2.2.1 t.2.2.2.1 t.2.2.2.2) .e .e) .e))) (.n 2 (.q (.n 1 (.w [(4, .so 9 .str),(8, .so 9 .str),(9, .int)] [] (fun m t => zdr t.1 m t.2.1 t.2.2) fun n2 => .e)) .e)))) (by unfold zi; kernel_rfl)
-- doorstep/doorstepref06.Tokens
theorem zlS : COk Tryz.prog G 39 ztJ := zd zj hNm tyk ((CLs.nil.add zjI).add ztd) 46 Tryz.func39 (by kernel_rfl) (hn := .n 2 (.q (.n 1 (.w [(0, .sl .str),(4, .so 9 .str),(5, .int)] [] (fun m t => zcS t.1 m t.2.1 t.2.2) fun n0 => .n 1 (.q (.n 3 (.w [(0, .sl .str),(4, .so 9 .str),(5, .int),(6, .so 9 .str),(8, .int)] [] (fun m t => zd1 (zcS t.1 n0) t.2.2.1 t.2.2.2.1 m t.2.1 t.2.2.2.2) fun n1 => .e)) .e))) .e)) (by unfold zi; kernel_rfl)
-- doorstep/doorstepref24.Nominated
theorem zi9 : COk Tryz.prog G 15 zpG := zd zj hNm tyk (((CLs.nil.add zcW).add zlS).add zlR) 64 Tryz.func15 (by kernel_rfl) (hn := .n 3 (.q (.n 1 (.w [(3, .so 9 .str),(4, .so 9 .str),(5, .int)] [] (fun m t => zaR t.2.1 m t.1 t.2.2) fun n0 => .n 1 (.q (.n 2 (.w [(3, .so 9 .str),(4, .so 9 .str),(5, .int),(6, .so 9 .str),(8, .int)] [] (fun m t => zbq (zaR t.2.1 n0) t.2.2.1 t.2.2.2.1 m t.1 t.2.2.2.2) fun n1 => .n 1 (.q (.n 2 (.q (.n 1 (.w [(3, .so 9 .str),(4, .so 9 .str),(5, .int),(6, .so 9 .str),(8, .int),(9, .str),(10, .bool),(11, .int)] [] (fun m t => zbp (zbq (zaR t.2.1 n0) t.2.2.1 t.2.2.2.1 n1) t.1 t.2.2.2.2.1 t.2.2.2.2.2.1 m t.2.2.2.2.2.2.1 t.2.2.2.2.2.2.2) fun n2 => .e)) .e)) .e))) .e))) .e)) (by unfold zi; kernel_rfl)
-- doorstep/doorstepref38.Free
theorem zuT : COk Tryz.prog G 37 zxZ := zd zj hNm tyk (((((CLs.nil.add zcW).add zi9).add zlk).add znl).add znk) 40 Tryz.func37 (by kernel_rfl) (hn := .n 3 (.q (.n 1 (.w [(0, .str),(7, .so 9 .str),(8, .int)] [] (fun m t => zfp t.1 t.2.1 m t.2.2) fun n0 => .e)) .e)) (by unfold zi; kernel_rfl)
-- doorstep/doorsteplaw40.free
theorem zuU : COk Tryz.prog G 14 zx0 := zd zj hNm tyk (CLs.nil.add zuT) 31 Tryz.func14 (by kernel_rfl) (hn := .n 2 (.q (.n 1 (.w [(1, .sl (.st 3)),(2, .sl (.st 4)),(3, .po 2),(7, .so 49 (.st 3)),(8, .int)] [] (fun m t => zea t.1 t.2.1 t.2.2.1 m t.2.2.2.1 t.2.2.2.2) fun n0 => .e)) .e)) (by unfold zi; kernel_rfl)
-- doorstep/doorstepref06.Has
theorem zwY : COk Tryz.prog G 17 zzl := zd zj hNm tyk ((CLs.nil.add zcW).add zlS) 38 Tryz.func17 (by kernel_rfl) (hn := .n 1 (.q (.n 1 (.w [(0, .str),(1, .sl .str),(5, .int)] [] (fun m t => ze0 t.1 t.2.1 m t.2.2) fun n0 => .n 1 (.q (.n 2 (.w [(0, .str),(1, .sl .str),(5, .int),(6, .so 9 .str),(8, .int)] [] (fun m t => zgP (ze0 t.1 t.2.1 n0) t.1 t.2.2.1 t.2.2.2.1 m t.2.2.2.2) fun n1 => .e)) .e))) .e)) (by unfold zi; kernel_rfl)
-- (doorstep/length.reader).coding
theorem zku : COk Tryz.prog G 76 zly := zd zj hNm tyk ((CLs.nil.add zcT).add zlg) 34 Tryz.func76 (by kernel_rfl) (hn := .e) (by unfold zi; kernel_rfl)
-- (doorstep/length.reader).lengths
theorem zjX : COk Tryz.prog G 77 zkK := zd zj hNm tyk ((CLs.nil.add zef).add zlH) 60 Tryz.func77 (by kernel_rfl) (hn := .n 2 (.q (.n 1 (.w [(9032, .po 7),(4, .po 6),(6, .int),(15, .sl .str),(16, .int),(17, .int)] [] (fun m t => zU t.1 t.2.2.2.1 t.2.2.2.2.1 m t.2.2.1 t.2.2.2.2.2) fun n0 => .n 2 (.q (.n 4 (.w [(9032, .po 7),(4, .po 6),(6, .int),(15, .sl .str),(16, .int),(17, .int),(29, .so 9 .str),(30, .int),(31, .int)] [] (fun m t => zO (zU t.1 t.2.2.2.1 t.2.2.2.2.1 n0) t.1 t.2.2.2.2.2.1 t.2.2.2.2.2.2.1 t.2.2.2.2.2.2.2.1 m t.2.2.1 t.2.2.2.2.2.2.2.2) fun n1 => .n 2 (.q (.n 2 (.q (.j [(9032, .po 7),(4, .po 6),(13, .int),(15, .sl .str),(16, .int),(17, .int),(29, .so 9 .str),(30, .int),(31, .int),(50, .bool)] [] (fun t => zaJ (zO (zU t.1 t.2.2.2.1 t.2.2.2.2.1 n0) t.1 t.2.2.2.2.2.1 t.2.2.2.2.2.2.1 t.2.2.2.2.2.2.2.1 n1) t.1 t.2.2.1 t.2.2.2.2.2.2.2.2.1 t.2.2.2.2.2.2.2.2.2) .e .e) .e)) .e))) .e))) .e)) (by unfold zi; kernel_rfl)
-- doorstep/length.of
theorem zwZ : COk Tryz.prog G 41 zzm := zd zj hNm tyk ((((CLs.nil.add zjX).add zku).add zeH).add zdg) 51 Tryz.func41 (by kernel_rfl) (hn := .n 3 (.q (.j [(1, .int),(4, .po 6),(6, .po 34),(7, .so 9 .str),(8, .so 9 .str),(21, .bool)] [] (fun t => ziE t.1 t.2.2.1 t.2.2.2.1 t.2.2.2.2.1 t.2.2.2.2.2) .e .e) .e)) (by unfold zi; kernel_rfl)
-- doorstep/length.Request
theorem zpb : COk Tryz.prog G 20 zqB := zd zj hNm tyk (CLs.nil.add zwZ) 8 Tryz.func20 (by kernel_rfl) (hn := .e) (by unfold zi; kernel_rfl)
-- doorstep/doorsteplaw40.RewriteStays
theorem zlT : COk Tryz.prog G 3 zm3 := zd zj hNm tyk (((((((((((((((((CLs.nil.add zpb).add znl).add zlk).add zwY).add znk).add zi9).add zoo).add zuU).add zlj).add zuS).add zlP).add zta).add zuK).add zwV).add zwR).add zwP).add zs1) 141 Tryz.func3 (by kernel_rfl) (hn := .n 10 (.q (.n 1 (.w [(2, .so 63 (.st 4)),(4, .po 15),(7, .po 6),(8, .po 15),(10, .int),(11, .so 9 .str),(12, .int)] [] (fun m t => zQ t.1 t.2.1 t.2.2.1 t.2.2.2.1 t.2.2.2.2.1 t.2.2.2.2.2.1 m t.2.2.2.2.2.2) fun n0 => .n 1 (.q (.n 1 (.j [(2, .so 63 (.st 4)),(4, .po 15),(7, .po 6),(8, .po 15),(10, .int),(11, .so 9 .str),(12, .int),(111, .bool)] [] (fun t => zaD (zQ t.1 t.2.1 t.2.2.1 t.2.2.2.1 t.2.2.2.2.1 t.2.2.2.2.2.1 n0) t.2.2.2.2.2.2.1 t.2.2.2.2.2.2.2) .e .e)) .e))) .e)) (by unfold zi; kernel_rfl)
end
end Go.Proofs
end
