/- Contracts of a program's functions: the facts that show them, written by a program (wip/gen). What whole runs are made w -/
import Derived.Test.YtkbigjfhddediaaGreatDoorYF0
import Derived.Test.YtkbigjfhddediaaGreatDoorYTr
set_option linter.unusedVariables false
set_option linter.unusedSimpArgs false
set_option linter.unusedVariables false
set_option maxRecDepth 100000
section
namespace Go.Proofs
open Go.Dk Go.Dm Go.RowKit Go.Rk
noncomputable section
def cN1 {τ:Nat→Type} {P:Program} {G:Sig τ} {f:FuncId} {k:Con τ} (h:COk P G f k):=(CLs.nil:CLs P G).add h
theorem zpM:zd 258 ⟨[.st 33],[.str,.int],2,[],zik⟩:=cqG (((cN1 zko).add zb8).add zf1) 81 Tryz.func258 (.n 3 (.j [(1,.po 33),(5,.str)] [] (fun t=>zhE t.1 t.2) .e (.n 2 (.j [(5,.str),(7,.int),(8,.bool)] [] (fun t=>zcE t.1 t.2.1 t.2.2) .e .e))))
theorem zEd:zd 361 ⟨[.st 33],[.bool],1,[],zrq⟩:=cqG (((cN1 zep).add zf3).add ze6) 43 Tryz.func361 (.n 4 (.q (.n 1 (.w [(25,.so 9 .str),(26,.int),(27,.int)] [] (fun m t=>zfM t.1 t.2.1 m t.2.2) fun n0 => .n 2 (.q (.n 2 (.j [(25,.so 9 .str),(26,.int),(27,.int),(41,.bool)] [] (fun t=>zl3 (zfM t.1 t.2.1 n0) t.2.2.1 t.2.2.2) .e .e)) .e))) .e))
theorem zvY:zd 316 ⟨[.st 33],[.int],1,[],zn7⟩:=cqG (cN1 zEd) 12 Tryz.func316 .e
theorem zvZ:zd 256 ⟨[.st 33],[.int],1,[],zn8⟩:=cqG (((cN1 zvY).add zkm).add zpM) 31 Tryz.func256 (.n 2 (.q (.n 1 (.w [(1,.po 33),(17,.sl (.st 15)),(18,.int),(19,.int)] [] (fun m t=>zjk t.1 t.2.1 t.2.2.1 m t.2.2.2) fun n0 => .e)) .e))
theorem zGK:zd 257 ⟨[.int],[.po 53],1,[],ztS⟩:=cqG CLs.nil 7 Tryz.func257 .e
theorem zuZ:zd 423 ⟨[.pt 53],[.int],1,[],ziT⟩:=cqG CLs.nil 15 Tryz.func423 .e
theorem zt4:zd 381 ⟨[.po 53,.sl .str],[.int,.po 53],1,[0],fun p=>zhF p.1 p.2⟩:=cqG (cN1 zuZ) 45 Tryz.func381 (.n 3 (.q (.n 1 (.w [(9000,.po 53),(1,.sl .str),(5,.int),(14,.sl .str),(15,.int),(16,.int)] [(0,9000)] (fun m t=>zdD t.1 t.2.1 t.2.2.2.1 t.2.2.2.2.1 m t.2.2.1 t.2.2.2.2.2) fun n0 => .e)) (.q (.n 1 (.w [(9000,.po 53),(29,.sl .str),(30,.int),(31,.int)] [(0,9000)] (fun m t=>zdC t.2.1 t.2.2.1 m t.1 t.2.2.2) fun a => .e)) .e)))
theorem zsE:zd 333 ⟨[.po 53,.sl .str],[.int,.po 53],1,[0],fun p=>zgU p.1 p.2⟩:=cqG (cN1 zt4) 12 Tryz.func333 .e
theorem zrS:zd 259 ⟨[.po 54,.str],[.po 54],0,[0],fun p=>zcS p.1 p.2⟩:=cqG (cN1 zsE) 21 Tryz.func259 .e
theorem zpN:zd 260 ⟨[.st 15],[.str,.int],2,[],zil⟩:=cqG (cN1 zkm) 22 Tryz.func260 .e
theorem zu0:zd 261 ⟨[.pt 53],[.str],1,[],ziU⟩:=cqG CLs.nil 10 Tryz.func261 .e
theorem zm1:zd 194 ⟨[.st 33,.int],[.str,.int],2,[],fun p=>zjV p.1 p.2⟩:=cqG ((((((cN1 zu0).add zpN).add zrS).add zpM).add zGK).add zvZ) 58 Tryz.func194 (.n 5 (.q (.n 1 (.w [(7,.po 54),(32,.sl (.st 15)),(33,.int),(34,.int)] [] (fun m t=>zjl t.2.1 t.2.2.1 m t.1 t.2.2.2) fun n0 => .e)) .e))
theorem zpc:zd 152 ⟨[.pt 20,.st 33],[.str,.st 35,.int],3,[],fun p=>zbQ p.1 p.2⟩:=cqG (((cN1 zm1).add znI).add zpG) 55 Tryz.func152 .e
theorem zCr:zd 195 ⟨[.int],[.pn 25,.int],2,[],zkb⟩:=cqG CLs.nil 13 Tryz.func195 .e
theorem zAe:zd 153 ⟨[.st 35,.int],[.pn 24,.int],2,[],fun p=>zn9 p.1 p.2⟩:=cqG (cN1 zCr) 65 Tryz.func153 (.n 1 (.j [(2,.po 35),(6,.pn 25),(7,.int)] [] (fun t=>zkc t.1 t.2.1 t.2.2) .e (.n 2 (.j [(2,.po 35),(8,.po 24)] [] (fun t=>zmz t.1 t.2) .e (.j [(8,.po 24)] [] (fun t=>zmy t) .e .e)))))
theorem zhL:zd 151 ⟨[.pt 23],[.st 34,.bool],2,[],zbH⟩:=cqG CLs.nil 25 Tryz.func151 .e
theorem zpO:zd 108 ⟨[.nil,.str],[.int,.str,.bool,.int],4,[],fun p=>zim p.2⟩:=cqG CLs.nil 87 Tryz.func108 .e
theorem zkq:zd 157 ⟨[.nil],[.int],1,[],fun _=>zdE⟩:=cqG CLs.nil 11 Tryz.func157 .e
theorem zma:zd 109 ⟨[.nil,.str],[.str,.int],2,[],fun p=>zeM p.2⟩:=cqG (cN1 zkq) 47 Tryz.func109 .e
theorem zmb:zd 116 ⟨[.nil],[.so 160 (.st 15)],1,[],fun _=>zch⟩:=cqG CLs.nil 10 Tryz.func116 .e
theorem zmc:zd 115 ⟨[.nil,.sl (.st 15)],[.str,.int],2,[],fun p=>zci p.2⟩:=cqG (cN1 zkq) 43 Tryz.func115 .e
theorem zEe:zd 268 ⟨[.str,.sl .str],[.bool],1,[],fun p=>zoa p.1 p.2⟩:=cqG ((cN1 zd3).add zmH) 34 Tryz.func268 (.n 1 (.q (.n 1 (.w [(0,.str),(11,.sl .str),(12,.int),(13,.int)] [] (fun m t=>zht t.1 t.2.1 t.2.2.1 m t.2.2.2) fun n0 => .n 2 (.q (.n 3 (.w [(0,.str),(11,.sl .str),(12,.int),(13,.int),(23,.so 9 .str),(24,.int),(25,.int)] [] (fun m t=>zjm (zht t.1 t.2.1 t.2.2.1 n0) t.1 t.2.2.2.1 t.2.2.2.2.1 t.2.2.2.2.2.1 m t.2.2.2.2.2.2) fun a => .e)) .e))) .e))
theorem zyd:zd 199 ⟨[.st 33],[.bool],1,[],zqn⟩:=cqG (((cN1 zEe).add zf3).add ze6) 16 Tryz.func199 .e
theorem zEf:zd 159 ⟨[.st 33],[.st 22],1,[],zrr⟩:=cqG (cN1 zyd) 10 Tryz.func159 .e
theorem zsF:zd 160 ⟨[.nil,.sl (.st 22)],[.int],1,[],fun p=>zgV p.2⟩:=cqG CLs.nil 44 Tryz.func160 .e
theorem zv0:zd 270 ⟨[.st 22],[.bool],1,[],zjH⟩:=cqG CLs.nil 5 Tryz.func270 .e
theorem zex:zd 269 ⟨[.sl (.st 22),.fc 270],[.int],1,[],fun p=>zap p.1⟩:=cqG (cN1 zv0) 19 Tryz.func269 (.n 1 (.q (.n 1 (.w [(0,.sl (.st 22)),(1,.fc 270),(7,.int),(8,.int)] [] (fun m t=>zS t.1 t.2.2.1 m t.2.2.2) fun n0 => .e)) .e))
theorem zyN:zd 200 ⟨[.sl (.st 22)],[.bool],1,[],zl4⟩:=cqG (cN1 zex) 15 Tryz.func200 .e
theorem znK:zd 166 ⟨[.nil],[.so 160 (.st 15)],1,[],fun _=>zds⟩:=cqG CLs.nil 11 Tryz.func166 .e
theorem zmI:zd 166 ⟨[.pt 25],[.so 160 (.st 15)],1,[],zcF⟩:=cqG CLs.nil 11 Tryz.func166 .e
theorem zkr:zd 116 ⟨[.pt 24],[.so 160 (.st 15)],1,[],zbI⟩:=cqG ((cN1 zmI).add znK) 10 Tryz.func116 .e
theorem zja:zd 157 ⟨[.pt 26],[.int],1,[],za6⟩:=cqG CLs.nil 11 Tryz.func157 .e
theorem zj3:zd 197 ⟨[.nil],[.int],1,[],fun _=>zc6⟩:=cqG CLs.nil 11 Tryz.func197 .e
theorem ziv:zd 208 ⟨[.sl (.st 15)],[.str,.int],2,[],zeN⟩:=cqG ((cN1 zb8).add zpN) 36 Tryz.func208 (.n 2 (.q (.n 1 (.w [(0,.sl (.st 15)),(4,.so 9 .str),(10,.sl (.st 15)),(11,.int),(12,.int)] [] (fun m t=>zfq t.1 t.2.2.1 t.2.2.2.1 m t.2.1 t.2.2.2.2) fun n0 => .e)) .e))
theorem zle:zd 165 ⟨[.nil,.sl (.st 15)],[.str,.int],2,[],fun p=>zfU p.2⟩:=cqG ((cN1 ziv).add zj3) 37 Tryz.func165 .e
theorem ziZ:zd 197 ⟨[.pt 27],[.int],1,[],zbB⟩:=cqG CLs.nil 11 Tryz.func197 .e
theorem zv1:zd 336 ⟨[.int],[.str],1,[],zjI⟩:=cqG (cN1 zsu) 5 Tryz.func336 .e
theorem zxl:zd 265 ⟨[.int],[.str],1,[],zk5⟩:=cqG (cN1 zv1) 5 Tryz.func265 .e
theorem zhz:zd 198 ⟨[.str],[.str],1,[],zaJ⟩:=cqG ((cN1 zb8).add zxl) 11 Tryz.func198 .e
theorem zlf:zd 158 ⟨[.nil,.str],[.str,.int],2,[],fun p=>zfV p.2⟩:=cqG (cN1 zj3) 58 Tryz.func158 .e
theorem zqz:zd 156 ⟨[.nil,.str],[.int,.str,.bool,.int],4,[],fun p=>zfr p.2⟩:=cqG CLs.nil 63 Tryz.func156 .e
theorem zmQ:zd 72 ⟨[.nil],[.int],1,[],fun _=>zfs⟩:=cqG CLs.nil 11 Tryz.func72 .e
theorem zEg:COk Tryz.prog G 202 zHK:=ztv zBf hNm tyk CLs.nil (.lf 271 (fnS Tryz.func271)) 27 60 Tryz.func202 (by kernel_rfl) (hn := .e) (by unfold zt8 opJ zxI; kernel_rfl)
theorem zv2:zd 274 ⟨[.str,.int],[.bool],1,[],fun p=>zjJ p.1 p.2⟩:=cqG CLs.nil 27 Tryz.func274 .e
theorem zot:zd 205 ⟨[.str,.st 33],[.st 35,.int],2,[],fun p=>zdU p.1 p.2⟩:=cqG ((cN1 zya).add zv2) 15 Tryz.func205 .e
theorem zyO:zd 340 ⟨[.str,.st 33],[.st 35,.int],2,[],fun p=>zuG p.1 p.2⟩:=cqG ((cN1 zot).add zpG) 18 Tryz.func340 .e
theorem zAf:zd 341 ⟨[.st 55],[.bool],1,[],zwU⟩:=cqG CLs.nil 38 Tryz.func341 .e
theorem zyP:zd 272 ⟨[.str,.st 55],[.int],1,[],fun p=>zuH p.1 p.2⟩:=cqG ((((cN1 ziv).add zAf).add zyO).add zvZ) 42 Tryz.func272 .e
theorem zi0:zd 197 ⟨[.pn 27],[.int,.pn 27],1,[0],zgn⟩:=cqG CLs.nil 11 Tryz.func197 .e
theorem zpP:zd 158 ⟨[.pn 27,.str],[.str,.int,.pn 27],2,[0],fun p=>zlh p.1 p.2⟩:=cqG (((cN1 zb8).add zhz).add zi0) 58 Tryz.func158 (.n 4 (.q (.w [(9000,.po 27),(7,.so 9 .str)] [(0,9000)] (fun m t=>zfN m t.1 t.2) fun n0 => .e) .e))
theorem zpQ:zd 165 ⟨[.pn 27,.sl (.st 15)],[.str,.int,.pn 27],2,[0],fun p=>zli p.1 p.2⟩:=cqG (((cN1 zhz).add ziv).add zi0) 37 Tryz.func165 .e
theorem zCs:zd 273 ⟨[.int,.str,.sl (.st 15)],[.str,.int],2,[],fun p=>zyi p.1 p.2.1 p.2.2⟩:=cqG (((((cN1 zpQ).add zpP).add zle).add zlf).add zo6) 39 Tryz.func273 (.n 1 (.j [(1,.str),(2,.sl (.st 15)),(8,.pn 27),(9,.int)] [] (fun t=>zob t.1 t.2.1 t.2.2.1 t.2.2.2) .e .e))
theorem zyQ:zd 203 ⟨[.str,.st 55,.int,.int],[.str,.int],2,[],fun p=>zuI p.1 p.2.1 p.2.2.1 p.2.2.2⟩:=cqG (((cN1 zCs).add zm1).add zyP) 51 Tryz.func203 (.n 5 (.j [(11,.str),(12,.int),(13,.str)] [] (fun t=>zlx t.1 t.2.1 t.2.2) .e .e))
theorem zEh:zd 161 ⟨[.int],[.str],1,[],zrs⟩:=cqG ((cN1 zyQ).add zEg) 20 Tryz.func161 .e
theorem zlg:zd 72 ⟨[.pt 21],[.int],1,[],zd0⟩:=cqG CLs.nil 11 Tryz.func72 .e
theorem zhM:zd 106 ⟨[.po 20,.int],[.po 20],0,[0],fun p=>zV p.1 p.2⟩:=cqG (cN1 zD0) 16 Tryz.func106 .e
theorem zd5:zd 110 ⟨[.po 20,.sl .str],[.po 20],0,[0],fun p=>zae p.1 p.2⟩:=cqG CLs.nil 22 Tryz.func110 (.n 1 (.w [(9000,.po 20),(6,.sl .str),(7,.int),(8,.int)] [(0,9000)] (fun m t=>zD t.2.1 t.2.2.1 m t.1 t.2.2.2) fun n0 => .e))
theorem zuC:zd 154 ⟨[.st 35,.int],[.pn 26,.int],2,[],fun p=>zin p.1 p.2⟩:=cqG (cN1 zo6) 50 Tryz.func154 (.n 1 (.j [(2,.po 35),(6,.pn 27),(7,.int)] [] (fun t=>zgo t.1 t.2.1 t.2.2) .e .e))
theorem zpR:zd 155 ⟨[.nil],[.bool],1,[],fun _=>zio⟩:=cqG CLs.nil 11 Tryz.func155 .e
theorem zqA:COk Tryz.prog G 160 zr9:=ztv zBf hNm tyk (cN1 zyN) (.nd 201 (.lf 148 (fnS Tryz.func148)) (.lf 201 (fnS Tryz.func201))) 44 60 Tryz.func160 (by kernel_rfl) (hn := .n 3 (.j [(9000,.po 21)] [] (fun t=>zdJ t) .e .e)) (by unfold zt8 opJ zxI; kernel_rfl)
theorem zpS:zd 165 ⟨[.po 27,.sl (.st 15)],[.str,.int,.po 27],2,[0],fun p=>ze0 p.1 p.2⟩:=cqG (((cN1 zhz).add ziv).add ziZ) 37 Tryz.func165 .e
theorem zks:zd 115 ⟨[.po 26,.sl (.st 15)],[.str,.int,.po 26],2,[0],fun p=>zbK p.1 p.2⟩:=cqG (((cN1 zpS).add zle).add zja) 43 Tryz.func115 (.n 3 (.j [(9000,.po 26),(6,.int),(7,.str)] [(0,9000)] (fun t=>zbC t.1 t.2.1 t.2.2) .e .e))
theorem zi1:zd 111 ⟨[.po 20],[.po 20],0,[0],zao⟩:=cqG (((((((((((cN1 zks).add zkr).add zhL).add zqA).add zju).add zsF).add zEf).add zjN).add zd5).add zmc).add zmb) 58 Tryz.func111 (.j [(9000,.po 20),(2,.str)] [(0,9000)] (fun t=>z8 t.1 t.2) .e (.n 1 (.j [(9000,.po 20),(4,.po 34)] [(0,9000)] (fun t=>zax t.1 t.2) .e (.n 1 (.j [(9000,.po 20),(6,.po 22)] [(0,9000)] (fun t=>zaw t.1 t.2) .e .e)))))
theorem znL:zd 155 ⟨[.pt 24],[.bool],1,[],zgp⟩:=cqG CLs.nil 11 Tryz.func155 .e
theorem zog:zd 107 ⟨[.po 20],[.po 20],0,[0],zaY⟩:=cqG ((((((((((cN1 zhL).add znL).add zi1).add zpR).add zuC).add zAe).add zd5).add zhM).add zpc).add zjN) 68 Tryz.func107 (.j [(9000,.po 20),(2,.po 34)] [(0,9000)] (fun t=>zaB t.1 t.2) .e (.n 3 (.j [(9000,.po 20),(5,.po 35)] [(0,9000)] (fun t=>zaA t.1 t.2) .e (.j [(9000,.po 20)] [(0,9000)] (fun t=>zaz t) .e (.j [(9000,.po 20),(65,.bool)] [(0,9000)] (fun t=>zay t.1 t.2) .e .e)))))
theorem zu1:zd 190 ⟨[.pt 23],[.bool],1,[],ziV⟩:=cqG CLs.nil 34 Tryz.func190 (.n 2 (.j [(0,.pt 23),(3,.int),(4,.bool)] [] (fun t=>zfW t.1 t.2.1 t.2.2) .e .e))
theorem zpT:zd 314 ⟨[.po 18],[.str,.po 18],1,[0],zc7⟩:=cqG (cN1 zaM) 5 Tryz.func314 .e
theorem zkt:zd 248 ⟨[.str],[.st 15,.int],2,[],zfb⟩:=cqG ((((((((cN1 zf0).add zb1).add zdW).add zX).add zbj).add zpT).add zgA).add zeQ) 49 Tryz.func248 .e
theorem zEi:zd 249 ⟨[.int,.str,.int],[.st 34,.int],2,[],fun p=>zrt p.1 p.2.1 p.2.2⟩:=cqG (((((cN1 zvY).add zkt).add zmE).add zyv).add zko) 93 Tryz.func249 (.n 7 (.q (.n 1 (.w [(6,.po 34),(12,.po 34),(64,.sl .str),(65,.int),(66,.int)] [] (fun m t=>zjn t.2.2.1 t.2.2.2.1 m t.2.1 t.2.2.2.2) fun n0 => .e)) .e))
theorem zsG:zd 191 ⟨[.po 23,.str],[.bool,.int,.po 23],2,[0],fun p=>zeO p.1 p.2⟩:=cqG (((cN1 zEi).add zkt).add zko) 62 Tryz.func191 (.n 2 (.j [(9000,.po 23),(6,.int)] [(0,9000)] (fun t=>ze1 t.1 t.2) .e .e))
theorem zsH:zd 149 ⟨[.po 23,.u8],[.bool,.int,.po 23],2,[0],fun p=>zcj p.1 p.2⟩:=cqG ((cN1 zsG).add zu1) 50 Tryz.func149 .e
theorem zmd:zd 105 ⟨[.po 23,.str],[.int,.bool,.int,.po 23],3,[0],fun p=>zaV p.1 p.2⟩:=cqG (cN1 zsH) 72 Tryz.func105 (.n 2 (.q (.n 1 (.w [(9000,.po 23),(1,.str),(24,.int),(25,.int)] [(0,9000)] (fun m t=>zaH t.2.1 t.2.2.1 m t.1 t.2.2.2) fun n0 => .n 2 (.q (.n 3 (.j [(9000,.po 23),(1,.str),(7,.int),(24,.int),(25,.int),(55,.bool)] [(0,9000)] (fun t=>zc8 (zaH t.2.1 t.2.2.2.1 n0) t.1 t.2.2.1 t.2.2.2.2.1 t.2.2.2.2.2) .e .e)) .e))) .e))
theorem zpU:zd 158 ⟨[.po 27,.str],[.str,.int,.po 27],2,[0],fun p=>zbs p.1 p.2⟩:=cqG (((cN1 zb8).add zhz).add ziZ) 58 Tryz.func158 (.n 4 (.q (.w [(9000,.po 27),(7,.so 9 .str)] [(0,9000)] (fun m t=>zaT m t.1 t.2) fun n0 => .e) .e))
theorem zku:zd 109 ⟨[.po 26,.str],[.str,.int,.po 26],2,[0],fun p=>zk p.1 p.2⟩:=cqG (((cN1 zpU).add zlf).add zja) 47 Tryz.func109 (.n 2 (.j [(9000,.po 26),(1,.str)] [] (fun t=>zdL t.1 t.2) (.n 2 (.q (.j [(9000,.po 26),(4,.str),(5,.int)] [] (fun t=>zdK t.1 t.2.1 t.2.2) .e .e) (.j [(9000,.po 26),(1,.str),(27,.bool)] [(0,9000)] (fun t=>zbD t.1 t.2.1 t.2.2) .e .e))) .e))
theorem zpd:zd 262 ⟨[.po 25,.str],[.str,.po 25],1,[0],fun p=>zcG p.1 p.2⟩:=cqG CLs.nil 35 Tryz.func262 (.n 3 (.j [(9000,.po 25),(1,.str),(5,.int)] [] (fun t=>zbT t.1 t.2.1 t.2.2) .e .e))
theorem zoh:zd 263 ⟨[.po 25,.u8],[.int,.po 25],1,[0],fun p=>zdM p.1 p.2⟩:=cqG CLs.nil 29 Tryz.func263 (.n 2 (.j [(9000,.po 25),(1,.u8),(5,.u8)] [(0,9000)] (fun t=>zcI t.1 t.2.1 t.2.2) .e (.n 2 (.j [(9000,.po 25)] [] (fun t=>zcH t) .e .e))))
theorem zCt:zd 424 ⟨[.str,.int],[.int,.int],2,[],fun p=>zo0 p.1 p.2⟩:=cqG (cN1 zst) 11 Tryz.func424 .e
theorem zyR:zd 456 ⟨[.po 18],[.str,.bool,.po 18],2,[0],zl5⟩:=cqG ((cN1 zrI).add zbj) 17 Tryz.func456 .e
theorem zqB:zd 425 ⟨[.st 57],[.st 44,.bool,.po 18],2,[32],zft⟩:=cqG (((cN1 zyR).add zX).add zbj) 35 Tryz.func425 .e
theorem zv3:zd 382 ⟨[.str],[.int,.so 469 (.st 44),.int],3,[],zjK⟩:=cqG ((((((cN1 zbE).add zqB).add zX).add zCt).add zaM).add zgA) 52 Tryz.func382 (.n 5 (.q (.w [(5,.po 57),(7,.int),(8,.int),(9,.so 469 (.st 44))] [] (fun m t=>zeP t.2.1 t.2.2.1 m t.1 t.2.2.2) fun n0 => .e) .e))
theorem zpe:zd 334 ⟨[.po 25,.str],[.int,.po 25],1,[0],fun p=>zef p.1 p.2⟩:=cqG (cN1 zv3) 47 Tryz.func334 .e
theorem zm2:zd 335 ⟨[.po 25,.str],[.bool,.int,.po 25],2,[0],fun p=>zc1 p.1 p.2⟩:=cqG (cN1 zkt) 36 Tryz.func335 .e
theorem zoi:zd 264 ⟨[.po 25,.u8],[.bool,.int,.po 25],2,[0],fun p=>zdN p.1 p.2⟩:=cqG ((cN1 zm2).add zpe) 95 Tryz.func264 (.n 1 (.j [(9000,.po 25),(1,.u8)] [(0,9000)] (fun t=>zcL t.1 t.2) .e (.n 1 (.j [(9000,.po 25),(1,.u8),(6,.int),(7,.bool)] [(0,9000)] (fun t=>zcK t.1 t.2.1 t.2.2.1 t.2.2.2) .e (.q (.j [(9000,.po 25),(1,.u8),(6,.int),(7,.bool),(39,.bool)] [(0,9000)] (fun t=>zcJ t.1 t.2.1 t.2.2.1 t.2.2.2.1 t.2.2.2.2) .e .e) .e)))))
theorem zpf:zd 196 ⟨[.po 25,.str],[.int,.str,.bool,.int,.po 25],4,[0],fun p=>zt p.1 p.2⟩:=cqG (((cN1 zoi).add zoh).add zpd) 35 Tryz.func196 .e
theorem zpg:zd 156 ⟨[.po 25,.str],[.int,.str,.bool,.int,.po 25],4,[0],fun p=>za7 p.1 p.2⟩:=cqG (cN1 zpf) 63 Tryz.func156 (.n 3 (.q (.w [(9000,.po 25),(1,.str),(4,.int),(6,.bool),(7,.int),(8,.so 5 .u8)] [(0,9000)] (fun m t=>zq t.2.1 m t.1 t.2.2.1 t.2.2.2.1 t.2.2.2.2.1 t.2.2.2.2.2) fun n0 => .q (.j [(9000,.po 25),(1,.str),(4,.int),(6,.bool),(7,.int),(8,.so 5 .u8),(30,.bool)] [(0,9000)] (fun t=>zaK (zq t.2.1 n0) t.1 t.2.1 t.2.2.1 t.2.2.2.1 t.2.2.2.2.1 t.2.2.2.2.2.1 t.2.2.2.2.2.2) .e .e) .e) (.j [(9000,.po 25),(4,.int),(6,.bool),(7,.int),(8,.so 5 .u8)] [] (fun t=>zbU t.1 t.2.1 t.2.2.1 t.2.2.2.1 t.2.2.2.2) (.j [(9000,.po 25),(4,.int),(6,.bool),(7,.int),(8,.so 5 .u8),(51,.bool)] [(0,9000)] (fun t=>zbV t.1 t.2.1 t.2.2.1 t.2.2.2.1 t.2.2.2.2.1 t.2.2.2.2.2) .e .e) .e)))
theorem znM:zd 108 ⟨[.po 24,.str],[.int,.str,.bool,.int,.po 24],4,[0],fun p=>zo p.1 p.2⟩:=cqG ((cN1 zpg).add zqz) 87 Tryz.func108 (.n 3 (.j [(9000,.po 24),(1,.str),(4,.int)] [(0,9000)] (fun t=>zfY t.1 t.2.1 t.2.2) (.n 2 (.q (.j [(9000,.po 24),(4,.int),(5,.str),(6,.bool),(7,.int)] [(0,9000)] (fun t=>zfX t.1 t.2.1 t.2.2.1 t.2.2.2.1 t.2.2.2.2) .e .e) .e)) .e))
theorem zm3:zd 70 ⟨[.po 20,.str],[.int,.po 20],1,[0],fun p=>ze p.1 p.2⟩:=cqG ((((((((((cN1 znM).add zku).add zi1).add zd5).add zma).add zpO).add zmd).add zog).add zhM).add znG) 75 Tryz.func70 (.n 1 (.q (.j [(9000,.po 20),(1,.str),(19,.bool)] [(0,9000)] (fun t=>zK t.1 t.2.1 t.2.2) .e (.q (.j [(9000,.po 20),(5,.int),(6,.bool),(7,.int)] [(0,9000)] (fun t=>zp t.1 t.2.1 t.2.2.1 t.2.2.2) .e .e) .e)) (.j [(9000,.po 20),(8,.int),(9,.str),(10,.bool),(11,.int)] [(0,9000)] (fun t=>zW t.1 t.2.1 t.2.2.1 t.2.2.2.1 t.2.2.2.2) .e (.j [(9000,.po 20),(8,.int),(10,.bool),(11,.int),(12,.str)] [(0,9000)] (fun t=>zy t.1 t.2.1 t.2.2.1 t.2.2.2.1 t.2.2.2.2) .e .e))))
theorem zb4:zd 114 ⟨[.po 20,.sl .str],[.po 20],0,[0],fun p=>zY p.1 p.2⟩:=cqG CLs.nil 22 Tryz.func114 (.n 1 (.w [(9000,.po 20),(6,.sl .str),(7,.int),(8,.int)] [(0,9000)] (fun m t=>zC t.2.1 t.2.2.1 m t.1 t.2.2.2) fun n0 => .e))
theorem zbR:zd 76 ⟨[.po 20],[.po 20],0,[0],zT⟩:=cqG CLs.nil 13 Tryz.func76 .e
theorem zfA:zd 112 ⟨[.po 20,.int],[.po 20],0,[0],fun p=>zO p.1 p.2⟩:=cqG (((cN1 zbR).add zb4).add zEh) 11 Tryz.func112 .e
theorem zcw:zd 71 ⟨[.po 20],[.po 20],0,[0],zg⟩:=cqG ((((cN1 zlg).add zbR).add zfA).add zmQ) 53 Tryz.func71 (.j [(9000,.po 20),(2,.int)] [(0,9000)] (fun t=>zaf t.1 t.2) .e (.n 1 (.q .e (.j [(9000,.po 20),(2,.int),(13,.bool)] [(0,9000)] (fun t=>zar t.1 t.2.1 t.2.2) .e .e))))
theorem zhN:zd 41 ⟨[.po 20,.str],[.int,.int,.po 20],2,[0],fun p=>zM p.1 p.2⟩:=cqG (((cN1 zcw).add zm3).add zpE) 39 Tryz.func41 (.n 3 (.q (.w [(9000,.po 20),(1,.str),(6,.int)] [(0,9000)] (fun m t=>zi t.2.1 m t.1 t.2.2) fun n0 => .q (.j [(9000,.po 20),(1,.str),(6,.int),(28,.bool)] [(0,9000)] (fun t=>zaO (zi t.2.1 n0) t.1 t.2.1 t.2.2.1 t.2.2.2) .e .e) .e) .e))
theorem zmJ:zd 118 ⟨[.po 20],[.str,.po 20],1,[0],zbL⟩:=cqG CLs.nil 15 Tryz.func118 .e
theorem zlo:zd 119 ⟨[.po 20],[.str,.po 20],1,[0],zbo⟩:=cqG CLs.nil 15 Tryz.func119 .e
theorem zu2:zd 209 ⟨[.nil],[.int],1,[],fun _=>ziW⟩:=cqG CLs.nil 10 Tryz.func209 .e
theorem zxm:zd 210 ⟨[.nil],[.int],1,[],fun _=>ziq⟩:=cqG CLs.nil 10 Tryz.func210 .e
theorem zrT:zd 211 ⟨[.nil],[.int],1,[],fun _=>zbZ⟩:=cqG CLs.nil 10 Tryz.func211 .e
theorem zqC:zd 276 ⟨[.nil],[.int],1,[],fun _=>zfu⟩:=cqG CLs.nil 10 Tryz.func276 .e
theorem zph:zd 276 ⟨[.pt 27],[.int],1,[],zeg⟩:=cqG CLs.nil 10 Tryz.func276 .e
theorem zpV:zd 211 ⟨[.pt 26],[.int],1,[],zbt⟩:=cqG ((cN1 zph).add zqC) 10 Tryz.func211 .e
theorem zqD:zd 275 ⟨[.nil],[.int],1,[],fun _=>zfv⟩:=cqG CLs.nil 10 Tryz.func275 .e
theorem zpi:zd 275 ⟨[.pt 25],[.int],1,[],zeh⟩:=cqG CLs.nil 10 Tryz.func275 .e
theorem zu3:zd 210 ⟨[.pt 24],[.int],1,[],zgq⟩:=cqG ((cN1 zpi).add zqD) 10 Tryz.func210 .e
theorem zsI:zd 209 ⟨[.pt 23],[.int],1,[],zgW⟩:=cqG CLs.nil 10 Tryz.func209 .e
theorem zt5:zd 168 ⟨[.pt 29],[.int],1,[],zfw⟩:=cqG ((((((cN1 zsI).add zu3).add zpV).add zrT).add zxm).add zu2) 20 Tryz.func168 .e
theorem zrU:zd 120 ⟨[.pt 20],[.st 58],1,[],zcT⟩:=cqG (cN1 zt5) 15 Tryz.func120 .e
theorem znN:zd 78 ⟨[.po 30],[.po 30],0,[0],zA⟩:=cqG (((cN1 zrU).add zlo).add zmJ) 58 Tryz.func78 .e
theorem zrV:zd 162 ⟨[.nil],[.st 22,.bool],2,[],fun _=>zfZ⟩:=cqG CLs.nil 13 Tryz.func162 .e
theorem zCu:zd 206 ⟨[.st 35,.int],[.st 35],1,[],fun p=>zmA p.1 p.2⟩:=cqG CLs.nil 20 Tryz.func206 .e
theorem zt6:zd 204 ⟨[.pt 32],[.st 22,.bool],2,[],zdO⟩:=cqG CLs.nil 18 Tryz.func204 .e
theorem zpW:zd 162 ⟨[.pt 21],[.st 22,.bool],2,[],zaI⟩:=cqG (cN1 zt6) 13 Tryz.func162 .e
theorem zt7:zd 117 ⟨[.nil],[.bool],1,[],fun _=>zhG⟩:=cqG CLs.nil 11 Tryz.func117 .e
theorem zm4:zd 163 ⟨[.po 20,.st 33,.st 22],[.int,.po 20],1,[0],fun p=>za3 p.1 p.2.1 p.2.2⟩:=cqG ((((cN1 zju).add zb4).add zm1).add znI) 58 Tryz.func163 (.n 4 (.j [(9000,.po 20),(8,.int)] [(0,9000)] (fun t=>zal t.1 t.2) (.j [(9000,.po 20),(8,.int),(9,.str),(43,.bool)] [(0,9000)] (fun t=>zam t.1 t.2.1 t.2.2.1 t.2.2.2) .e .e) .e))
theorem zyS:zd 207 ⟨[.st 33,.bool,.int],[.st 34],1,[],fun p=>zl6 p.1 p.2.1 p.2.2⟩:=cqG CLs.nil 30 Tryz.func207 (.n 2 (.j [(3,.po 34),(6,.po 34)] [] (fun t=>zgr t.1) .e .e))
theorem zrW:COk Tryz.prog G 117 ztg:=ztv zBf hNm tyk CLs.nil (.nd 204 (.lf 167 (fnS Tryz.func167)) (.lf 204 (fnS Tryz.func204))) 11 60 Tryz.func117 (by kernel_rfl) (hn := .e) (by unfold zt8 opJ zxI; kernel_rfl)
theorem zdQ:zd 75 ⟨[.po 20],[.po 20],0,[0],zL⟩:=cqG (((((((((cN1 zks).add zkr).add zrW).add zbR).add zju).add zt7).add zb4).add zmc).add zmb) 59 Tryz.func75 (.j [(9000,.po 20),(2,.str)] [(0,9000)] (fun t=>zQ t.1 t.2) .e (.n 1 (.j [(9000,.po 20)] [(0,9000)] (fun t=>zah t) .e (.n 1 (.j [(9000,.po 20)] [(0,9000)] (fun t=>zag t) .e .e)))))
theorem zoj:zd 164 ⟨[.po 20,.st 33,.st 22],[.int,.po 20],1,[0],fun p=>zbe p.1 p.2.1 p.2.2⟩:=cqG ((((((((((((cN1 znL).add zdQ).add zpR).add zuC).add zAe).add zb4).add zm1).add zyS).add zyd).add znI).add zCu).add zot) 126 Tryz.func164 (.n 6 (.j [(9000,.po 20),(4,.po 33),(5,.po 22),(7,.po 35),(9,.po 35),(10,.po 34)] [(0,9000)] (fun t=>zaW t.1 t.2.1 t.2.2.1 t.2.2.2.1 t.2.2.2.2.1 t.2.2.2.2.2) .e (.j [(9000,.po 20),(5,.po 22),(7,.po 35),(9,.po 35),(10,.po 34)] [(0,9000)] (fun t=>zaF t.1 t.2.1 t.2.2.1 t.2.2.2.1 t.2.2.2.2) .e (.n 4 (.j [(9000,.po 20),(9,.po 35)] [(0,9000)] (fun t=>zaE t.1 t.2) .e (.j [(9000,.po 20)] [(0,9000)] (fun t=>zaD t) .e (.q (.j [(9000,.po 20),(123,.bool)] [(0,9000)] (fun t=>zaC t.1 t.2) .e .e) .e)))))))
theorem zm5:zd 113 ⟨[.po 20],[.po 20],0,[0],zaL⟩:=cqG (((((((cN1 zhL).add zpW).add zoj).add zm4).add zfA).add zrV).add zjN) 44 Tryz.func113 (.j [(9000,.po 20),(2,.po 34)] [(0,9000)] (fun t=>zac t.1 t.2) .e (.j [(9000,.po 20),(2,.po 34),(4,.po 22)] [(0,9000)] (fun t=>zan t.1 t.2.1 t.2.2) .e (.n 1 (.j [(9000,.po 20),(6,.int)] [(0,9000)] (fun t=>zab t.1 t.2) .e .e))))
theorem zmK:zd 73 ⟨[.po 20,.str],[.int,.po 20],1,[0],fun p=>zj p.1 p.2⟩:=cqG (((((((((((cN1 znM).add zku).add zdQ).add zbR).add zb4).add zma).add zpO).add zmd).add zm5).add zfA).add znG) 73 Tryz.func73 (.n 1 (.q (.j [(9000,.po 20),(1,.str),(19,.bool)] [(0,9000)] (fun t=>zH t.1 t.2.1 t.2.2) .e (.q (.j [(9000,.po 20),(5,.int),(6,.bool),(7,.int)] [(0,9000)] (fun t=>zm t.1 t.2.1 t.2.2.1 t.2.2.2) .e .e) .e)) (.j [(9000,.po 20),(8,.int),(9,.str),(10,.bool),(11,.int)] [(0,9000)] (fun t=>zR t.1 t.2.1 t.2.2.1 t.2.2.2.1 t.2.2.2.2) .e (.j [(9000,.po 20),(8,.int),(10,.bool),(11,.int),(12,.str)] [(0,9000)] (fun t=>zu t.1 t.2.1 t.2.2.1 t.2.2.2.1 t.2.2.2.2) .e .e))))
theorem zg0:zd 43 ⟨[.po 20,.str],[.int,.int,.po 20],2,[0],fun p=>zr p.1 p.2⟩:=cqG ((((cN1 zlg).add zcw).add zmK).add zmQ) 57 Tryz.func43 (.n 3 (.q (.w [(9000,.po 20),(1,.str),(6,.int)] [(0,9000)] (fun m t=>za t.2.1 m t.1 t.2.2) fun n0 => .q (.j [(9000,.po 20),(1,.str),(6,.int),(46,.bool)] [(0,9000)] (fun t=>zw (za t.2.1 n0) t.1 t.2.1 t.2.2.1 t.2.2.2) .e .e) .e) .e))
theorem zgw:zd 42 ⟨[.po 20],[.int,.po 20],1,[0],zG⟩:=cqG (cN1 zcw) 29 Tryz.func42 .e
theorem zyT:zd 74 ⟨[.nil],[.bool,.int],2,[],fun _=>zjo⟩:=cqG CLs.nil 23 Tryz.func74 .e
theorem zv4:zd 74 ⟨[.po 24],[.bool,.int,.po 24],2,[0],zfc⟩:=cqG CLs.nil 23 Tryz.func74 (.n 1 (.j [(9000,.po 24)] [] (fun t=>zgX t) .e .e))
theorem zfO:zd 44 ⟨[.po 20],[.int,.po 20],1,[0],zn⟩:=cqG (((((cN1 zv4).add zbR).add zcw).add zdQ).add zyT) 42 Tryz.func44 (.n 3 (.q (.n 1 (.q (.j [(9000,.po 20),(3,.bool)] [(0,9000)] (fun t=>zP t.1 t.2) .e .e) .e)) .e))
theorem zAg:COk Tryz.prog G 29 zC1:=ztv zBf hNm tyk ((((((cN1 zfO).add zgw).add zg0).add znN).add zhN).add zsq) (.nd 46 (.lf 45 (fnS Tryz.func45)) (.nd 77 (.lf 46 (fnS Tryz.func46)) (.lf 77 (fnS Tryz.func77)))) 50 60 Tryz.func29 (by kernel_rfl) (hn := .n 3 (.q (.n 2 (.q .e (.n 1 (.q .e (.n 1 (.q (.j [(9000,.po 30),(4,.int),(5,.int)] [] (fun t=>zhh t.1 t.2.1 t.2.2) .e .e) .e)))))) .e)) (by unfold zt8 opJ zxI; kernel_rfl)
theorem zjb:zd 47 ⟨[.pt 20],[.bool],1,[],zbm⟩:=cqG CLs.nil 11 Tryz.func47 .e
theorem zu4:COk Tryz.prog G 30 zwI:=ztv zBf hNm tyk ((((((cN1 zgw).add zfO).add zg0).add znN).add zhN).add zjb) (.nd 48 (.nd 46 (.lf 45 (fnS Tryz.func45)) (.lf 46 (fnS Tryz.func46))) (.nd 77 (.lf 48 (fnS Tryz.func48)) (.lf 77 (fnS Tryz.func77)))) 45 60 Tryz.func30 (by kernel_rfl) (hn := .n 3 (.q (.n 1 (.w [(9000,.po 30),(3,.int),(4,.int)] [(0,9000)] (fun m t=>zcU m t.1 t.2.1 t.2.2) fun n0 => .n 2 (.q .e (.q .e (.q .e .e))))) .e)) (by unfold zt8 opJ zxI; kernel_rfl)
theorem zu5:zd 31 ⟨[.pn 30],[.st 31,.pn 30],1,[0],zly⟩:=cqG (cN1 zjb) 38 Tryz.func31 .e
theorem zIR:zd 20 ⟨[.st 0],[.st 31,.int],2,[],zoc⟩:=cqG ((((cN1 zu5).add zu4).add zAg).add zIF) 32 Tryz.func20 (.n 1 (.j [(1,.po 0),(2,.po 31),(4,.pn 30),(5,.int)] [] (fun t=>zir t.1 t.2.2.1 t.2.2.2) .e (.n 1 (.q (.n 1 (.w [(2,.po 31),(4,.pn 30),(18,.sl (.st 4)),(19,.int),(20,.int)] [] (fun m t=>zkd t.2.2.1 t.2.2.2.1 m t.2.1 t.2.2.2.2) fun n0 => .e)) .e))))
theorem zv5:zd 9 ⟨[.st 0,.sl (.st 4),.sl (.st 4)],[.bool,.int],2,[],fun p=>zis p.1 p.2.1 p.2.2⟩:=cqG ((cN1 zIR).add zGm) 72 Tryz.func9 (.n 5 (.j [(8,.po 31),(10,.po 31),(11,.bool)] [] (fun t=>zjp t.1 t.2.1 t.2.2) .e (.j [(8,.po 31),(11,.bool),(12,.bool)] [] (fun t=>zhu t.1 t.2.1 t.2.2) .e .e)))
theorem zyU:zd 22 ⟨[.st 4],[.bool],1,[],zpu⟩:=cqG CLs.nil 6 Tryz.func22 .e
theorem zyV:zd 13 ⟨[.sl (.st 4),.fc 22],[.so 47 (.st 4)],1,[],fun p=>zpv p.1⟩:=cqG (cN1 zyU) 23 Tryz.func13 (.n 2 (.q (.n 1 (.w [(1,.fc 22),(5,.so 47 (.st 4)),(8,.sl (.st 4)),(9,.int),(10,.int)] [] (fun m t=>zev t.2.2.1 t.2.2.2.1 m t.2.1 t.2.2.2.2) fun n0 => .e)) .e))
theorem zuD:zd 10 ⟨[.st 0],[.so 47 (.st 4)],1,[],zo1⟩:=cqG (cN1 zyV) 17 Tryz.func10 .e
end
end Go.Proofs
end
section
namespace Go.Proofs
open Go.Dk Go.Dm Go.RowKit Go.Rk
noncomputable section
noncomputable def Cz:Bt (CLs Tryz.prog G) := .nd 9 (.lf 7 (cN1 zx6)) (.nd 10 (.lf 9 (cN1 zv5)) (.lf 10 (cN1 zuD)))
noncomputable def Bz:Bt (FnS Tryz.prog) := .lf 4 (fnS Tryz.func4)
noncomputable def Xz:Cx tau:=⟨Tryz.prog,G,tyl,[],0,fun _ => .bool false⟩
end
end Go.Proofs
end
section
namespace Go.Proofs
open Go.Dk Go.Dm Go.RowKit Go.Rk
noncomputable section
theorem zLj:zrun Xz ⟨(ctOf Cz),Bz⟩ 100000000 4 []=some true:=by kernel_rfl
theorem zLk:COk Tryz.prog G 4 zOn:=zQi (X:=Xz) zBf hNm (tyk [] 0) fpok rfl zQh ⟨_,Tryz.func4,by kernel_rfl,by kernel_rfl⟩ zLj
theorem zuY:zd 3 ⟨[.st 0,.int],[.bool],1,[],fun p=>ziX p.1 p.2⟩:=cqG (((((((cN1 zuD).add zv5).add zB6).add zx6).add zGi).add zGh).add zLk) 101 Tryz.func3 (.n 5 (.j [(2,.po 9),(5,.so 47 (.st 4)),(6,.so 47 (.st 4))] [] (fun t=>zd1 t.1 t.2.1 t.2.2) .e .e))
end
end Go.Proofs
end
