/- Contracts of a program's functions: the facts that show them, written by a program (wip/gen). What whole runs are made w -/
import Derived.Test.YtlehfmpjckapdaaGreatDoorYF0
import Derived.Test.YtlehfmpjckapdaaGreatDoorYTr
set_option linter.unusedVariables false
set_option linter.unusedSimpArgs false
set_option linter.unusedVariables false
set_option maxRecDepth 100000
section
namespace Go.Proofs
open Go.Dk Go.Dm Go.RowKit Go.Rk
noncomputable section
def cN1 {τ:Nat→Type} {P:Program} {G:Sig τ} {f:FuncId} {k:Con τ} (h:COk P G f k):=(CLs.nil:CLs P G).add h
theorem zwM:zd 261 ⟨[.st 33],[.int],1,[],zn7⟩:=cqG (((cN1 zvK).add zko).add zpQ) 31 Tryz.func261 (.n 2 (.q (.n 1 (.w [(1,.po 33),(17,.sl (.st 15)),(18,.int),(19,.int)] [] (fun m t=>zji t.1 t.2.1 t.2.2.1 m t.2.2.2) fun n0 => .e)) .e))
theorem zHH:zd 262 ⟨[.int],[.po 53],1,[],ztI⟩:=cqG CLs.nil 7 Tryz.func262 .e
theorem zvh:zd 429 ⟨[.pt 53],[.int],1,[],ziQ⟩:=cqG CLs.nil 15 Tryz.func429 .e
theorem zuf:zd 387 ⟨[.po 53,.sl .str],[.int,.po 53],1,[0],fun p=>zhD p.1 p.2⟩:=cqG (cN1 zvh) 45 Tryz.func387 (.n 3 (.q (.n 1 (.w [(9000,.po 53),(1,.sl .str),(5,.int),(14,.sl .str),(15,.int),(16,.int)] [(0,9000)] (fun m t=>zdB t.1 t.2.1 t.2.2.2.1 t.2.2.2.2.1 m t.2.2.1 t.2.2.2.2.2) fun n0 => .e)) (.q (.n 1 (.w [(9000,.po 53),(29,.sl .str),(30,.int),(31,.int)] [(0,9000)] (fun m t=>zdA t.2.1 t.2.2.1 m t.1 t.2.2.2) fun a => .e)) .e)))
theorem ztd:zd 340 ⟨[.po 53,.sl .str],[.int,.po 53],1,[0],fun p=>zgO p.1 p.2⟩:=cqG (cN1 zuf) 12 Tryz.func340 .e
theorem zsf:zd 264 ⟨[.po 54,.str],[.po 54],0,[0],fun p=>zcR p.1 p.2⟩:=cqG (cN1 ztd) 21 Tryz.func264 .e
theorem zql:zd 265 ⟨[.st 15],[.str,.int],2,[],zic⟩:=cqG (cN1 zko) 22 Tryz.func265 .e
theorem zvi:zd 266 ⟨[.pt 53],[.str],1,[],ziR⟩:=cqG CLs.nil 10 Tryz.func266 .e
theorem zld:zd 186 ⟨[.st 33,.int],[.str,.int],2,[],fun p=>zjV p.1 p.2⟩:=cqG ((((((cN1 zvi).add zql).add zsf).add zpQ).add zHH).add zwM) 58 Tryz.func186 (.n 5 (.q (.n 1 (.w [(7,.po 54),(32,.sl (.st 15)),(33,.int),(34,.int)] [] (fun m t=>zjj t.2.1 t.2.2.1 m t.1 t.2.2.2) fun n0 => .e)) .e))
theorem zpx:zd 126 ⟨[.pt 20,.st 33],[.str,.st 35,.int],3,[],fun p=>zbP p.1 p.2⟩:=cqG (((cN1 zld).add zkq).add zlz) 55 Tryz.func126 .e
theorem zCI:zd 187 ⟨[.int],[.pn 25,.int],2,[],zkd⟩:=cqG CLs.nil 13 Tryz.func187 .e
theorem zvj:zd 127 ⟨[.st 35,.int],[.pn 24,.int],2,[],fun p=>zn8 p.1 p.2⟩:=cqG (cN1 zCI) 65 Tryz.func127 (.n 1 (.j [(2,.po 35),(6,.pn 25),(7,.int)] [] (fun t=>zke t.1 t.2.1 t.2.2) .e (.n 2 (.j [(2,.po 35),(8,.po 24)] [] (fun t=>zmJ t.1 t.2) .e (.j [(8,.po 24)] [] (fun t=>zmI t) .e .e)))))
theorem zfv:zd 125 ⟨[.pt 23],[.st 34,.bool],2,[],zbG⟩:=cqG CLs.nil 25 Tryz.func125 .e
theorem zlN:zd 81 ⟨[.nil,.str],[.int,.str,.bool,.int],4,[],fun p=>zid p.2⟩:=cqG CLs.nil 87 Tryz.func81 .e
theorem zle:zd 131 ⟨[.nil],[.int],1,[],fun _=>zdC⟩:=cqG CLs.nil 11 Tryz.func131 .e
theorem zik:zd 82 ⟨[.nil,.str],[.str,.int],2,[],fun p=>zeG p.2⟩:=cqG (cN1 zle) 47 Tryz.func82 .e
theorem zil:zd 89 ⟨[.nil],[.so 255 (.st 15)],1,[],fun _=>zcf⟩:=cqG CLs.nil 10 Tryz.func89 .e
theorem zim:zd 88 ⟨[.nil,.sl (.st 15)],[.str,.int],2,[],fun p=>zcg p.2⟩:=cqG (cN1 zle) 43 Tryz.func88 .e
theorem zFs:zd 273 ⟨[.str,.sl .str],[.bool],1,[],fun p=>zn9 p.1 p.2⟩:=cqG ((cN1 zd2).add zmW) 34 Tryz.func273 (.n 1 (.q (.n 1 (.w [(0,.str),(11,.sl .str),(12,.int),(13,.int)] [] (fun m t=>zhq t.1 t.2.1 t.2.2.1 m t.2.2.2) fun n0 => .n 2 (.q (.n 3 (.w [(0,.str),(11,.sl .str),(12,.int),(13,.int),(23,.so 9 .str),(24,.int),(25,.int)] [] (fun m t=>zjk (zhq t.1 t.2.1 t.2.2.1 n0) t.1 t.2.2.2.1 t.2.2.2.2.1 t.2.2.2.2.2.1 m t.2.2.2.2.2.2) fun a => .e)) .e))) .e))
theorem zte:zd 191 ⟨[.st 33],[.bool],1,[],zpZ⟩:=cqG (((cN1 zFs).add zf1).add ze4) 16 Tryz.func191 .e
theorem zwN:zd 133 ⟨[.st 33],[.st 22],1,[],zqZ⟩:=cqG (cN1 zte) 10 Tryz.func133 .e
theorem zmO:zd 134 ⟨[.nil,.sl (.st 22)],[.int],1,[],fun p=>zgP p.2⟩:=cqG CLs.nil 44 Tryz.func134 .e
theorem zwO:zd 275 ⟨[.st 22],[.bool],1,[],zjI⟩:=cqG CLs.nil 5 Tryz.func275 .e
theorem zeM:zd 274 ⟨[.sl (.st 22),.fc 275],[.int],1,[],fun p=>zao p.1⟩:=cqG (cN1 zwO) 19 Tryz.func274 (.n 1 (.q (.n 1 (.w [(0,.sl (.st 22)),(1,.fc 275),(7,.int),(8,.int)] [] (fun m t=>zS t.1 t.2.2.1 m t.2.2.2) fun n0 => .e)) .e))
theorem zy3:zd 192 ⟨[.sl (.st 22)],[.bool],1,[],zmk⟩:=cqG (cN1 zeM) 15 Tryz.func192 .e
theorem zoo:zd 140 ⟨[.nil],[.so 255 (.st 15)],1,[],fun _=>zdq⟩:=cqG CLs.nil 11 Tryz.func140 .e
theorem zm0:zd 140 ⟨[.pt 25],[.so 255 (.st 15)],1,[],zcC⟩:=cqG CLs.nil 11 Tryz.func140 .e
theorem zgW:zd 89 ⟨[.pt 24],[.so 255 (.st 15)],1,[],zbH⟩:=cqG ((cN1 zm0).add zoo) 10 Tryz.func89 .e
theorem zjq:zd 131 ⟨[.pt 26],[.int],1,[],za5⟩:=cqG CLs.nil 11 Tryz.func131 .e
theorem zkg:zd 189 ⟨[.nil],[.int],1,[],fun _=>zc4⟩:=cqG CLs.nil 11 Tryz.func189 .e
theorem ziV:zd 200 ⟨[.sl (.st 15)],[.str,.int],2,[],zeH⟩:=cqG ((cN1 zb7).add zql) 36 Tryz.func200 (.n 2 (.q (.n 1 (.w [(0,.sl (.st 15)),(4,.so 9 .str),(10,.sl (.st 15)),(11,.int),(12,.int)] [] (fun m t=>zfm t.1 t.2.2.1 t.2.2.2.1 m t.2.1 t.2.2.2.2) fun n0 => .e)) .e))
theorem zlp:zd 139 ⟨[.nil,.sl (.st 15)],[.str,.int],2,[],fun p=>zfS p.2⟩:=cqG ((cN1 ziV).add zkg) 37 Tryz.func139 .e
theorem ziY:zd 189 ⟨[.pt 27],[.int],1,[],zbB⟩:=cqG CLs.nil 11 Tryz.func189 .e
theorem zwP:zd 343 ⟨[.int],[.str],1,[],zjJ⟩:=cqG (cN1 zsn) 5 Tryz.func343 .e
theorem zxQ:zd 270 ⟨[.int],[.str],1,[],zk2⟩:=cqG (cN1 zwP) 5 Tryz.func270 .e
theorem zhF:zd 190 ⟨[.str],[.str],1,[],zaI⟩:=cqG ((cN1 zb7).add zxQ) 11 Tryz.func190 .e
theorem zlq:zd 132 ⟨[.nil,.str],[.str,.int],2,[],fun p=>zfT p.2⟩:=cqG (cN1 zkg) 58 Tryz.func132 .e
theorem zrB:zd 130 ⟨[.nil,.str],[.int,.str,.bool,.int],4,[],fun p=>zfn p.2⟩:=cqG CLs.nil 63 Tryz.func130 .e
theorem zi7:zd 55 ⟨[.nil],[.int],1,[],fun _=>zfo⟩:=cqG CLs.nil 11 Tryz.func55 .e
theorem zFt:COk Tryz.prog G 194 zHd:=ztO zAR hNm tyk CLs.nil (.lf 276 (fnS Tryz.func276)) 27 60 Tryz.func194 (by kernel_rfl) (hn := .e) (by unfold zui opJ zxI; kernel_rfl)
theorem zwQ:zd 279 ⟨[.str,.int],[.bool],1,[],fun p=>zjK p.1 p.2⟩:=cqG CLs.nil 27 Tryz.func279 .e
theorem zlf:zd 197 ⟨[.str,.st 33],[.st 35,.int],2,[],fun p=>zdR p.1 p.2⟩:=cqG ((cN1 zx1).add zwQ) 15 Tryz.func197 .e
theorem zrN:zd 143 ⟨[.str,.st 33],[.st 35,.int],2,[],fun p=>zux p.1 p.2⟩:=cqG ((cN1 zlf).add zlz) 18 Tryz.func143 .e
theorem zA8:zd 347 ⟨[.st 55],[.bool],1,[],zv4⟩:=cqG CLs.nil 38 Tryz.func347 .e
theorem zy4:zd 277 ⟨[.str,.st 55],[.int],1,[],fun p=>zuy p.1 p.2⟩:=cqG ((((cN1 ziV).add zA8).add zrN).add zwM) 42 Tryz.func277 .e
theorem ziZ:zd 189 ⟨[.pn 27],[.int,.pn 27],1,[0],zgg⟩:=cqG CLs.nil 11 Tryz.func189 .e
theorem zqm:zd 132 ⟨[.pn 27,.str],[.str,.int,.pn 27],2,[0],fun p=>zln p.1 p.2⟩:=cqG (((cN1 zb7).add zhF).add ziZ) 58 Tryz.func132 (.n 4 (.q (.w [(9000,.po 27),(7,.so 9 .str)] [(0,9000)] (fun m t=>zfJ m t.1 t.2) fun n0 => .e) .e))
theorem zqn:zd 139 ⟨[.pn 27,.sl (.st 15)],[.str,.int,.pn 27],2,[0],fun p=>zlo p.1 p.2⟩:=cqG (((cN1 zhF).add ziV).add ziZ) 37 Tryz.func139 .e
theorem zCJ:zd 278 ⟨[.int,.str,.sl (.st 15)],[.str,.int],2,[],fun p=>zx7 p.1 p.2.1 p.2.2⟩:=cqG (((((cN1 zqn).add zqm).add zlp).add zlq).add zlR) 39 Tryz.func278 (.n 1 (.j [(1,.str),(2,.sl (.st 15)),(8,.pn 27),(9,.int)] [] (fun t=>zoa t.1 t.2.1 t.2.2.1 t.2.2.2) .e .e))
theorem zy5:zd 195 ⟨[.str,.st 55,.int,.int],[.str,.int],2,[],fun p=>zuz p.1 p.2.1 p.2.2.1 p.2.2.2⟩:=cqG (((cN1 zCJ).add zld).add zy4) 51 Tryz.func195 (.n 5 (.j [(11,.str),(12,.int),(13,.str)] [] (fun t=>zlD t.1 t.2.1 t.2.2) .e .e))
theorem zwR:zd 135 ⟨[.int],[.str],1,[],zq0⟩:=cqG ((cN1 zy5).add zFt) 20 Tryz.func135 .e
theorem zhv:zd 55 ⟨[.pt 21],[.int],1,[],zd0⟩:=cqG CLs.nil 11 Tryz.func55 .e
theorem zin:zd 79 ⟨[.po 20,.int],[.po 20],0,[0],fun p=>zV p.1 p.2⟩:=cqG (cN1 zvF) 16 Tryz.func79 .e
theorem zeg:zd 83 ⟨[.po 20,.sl .str],[.po 20],0,[0],fun p=>zae p.1 p.2⟩:=cqG CLs.nil 22 Tryz.func83 (.n 1 (.w [(9000,.po 20),(6,.sl .str),(7,.int),(8,.int)] [(0,9000)] (fun m t=>zD t.2.1 t.2.2.1 m t.1 t.2.2.2) fun n0 => .e))
theorem zpy:zd 128 ⟨[.st 35,.int],[.pn 26,.int],2,[],fun p=>zie p.1 p.2⟩:=cqG (cN1 zlR) 50 Tryz.func128 (.n 1 (.j [(2,.po 35),(6,.pn 27),(7,.int)] [] (fun t=>zgh t.1 t.2.1 t.2.2) .e .e))
theorem zlO:zd 129 ⟨[.nil],[.bool],1,[],fun _=>zif⟩:=cqG CLs.nil 11 Tryz.func129 .e
theorem zlg:COk Tryz.prog G 134 zr8:=ztO zAR hNm tyk (cN1 zy3) (.nd 193 (.lf 122 (fnS Tryz.func122)) (.lf 193 (fnS Tryz.func193))) 44 60 Tryz.func134 (by kernel_rfl) (hn := .n 3 (.j [(9000,.po 21)] [] (fun t=>zdG t) .e .e)) (by unfold zui opJ zxI; kernel_rfl)
theorem zqo:zd 139 ⟨[.po 27,.sl (.st 15)],[.str,.int,.po 27],2,[0],fun p=>zeX p.1 p.2⟩:=cqG (((cN1 zhF).add ziV).add ziY) 37 Tryz.func139 .e
theorem zgX:zd 88 ⟨[.po 26,.sl (.st 15)],[.str,.int,.po 26],2,[0],fun p=>zbJ p.1 p.2⟩:=cqG (((cN1 zqo).add zlp).add zjq) 43 Tryz.func88 (.n 3 (.j [(9000,.po 26),(6,.int),(7,.str)] [(0,9000)] (fun t=>zbC t.1 t.2.1 t.2.2) .e .e))
theorem zi0:zd 84 ⟨[.po 20],[.po 20],0,[0],zan⟩:=cqG (((((((((((cN1 zgX).add zgW).add zfv).add zlg).add zju).add zmO).add zwN).add zgx).add zeg).add zim).add zil) 58 Tryz.func84 (.j [(9000,.po 20),(2,.str)] [(0,9000)] (fun t=>z8 t.1 t.2) .e (.n 1 (.j [(9000,.po 20),(4,.po 34)] [(0,9000)] (fun t=>zaw t.1 t.2) .e (.n 1 (.j [(9000,.po 20),(6,.po 22)] [(0,9000)] (fun t=>zav t.1 t.2) .e .e)))))
theorem zj1:zd 129 ⟨[.pt 24],[.bool],1,[],zgi⟩:=cqG CLs.nil 11 Tryz.func129 .e
theorem zox:zd 80 ⟨[.po 20],[.po 20],0,[0],zaX⟩:=cqG ((((((((((cN1 zfv).add zj1).add zi0).add zlO).add zpy).add zvj).add zeg).add zin).add zpx).add zgx) 68 Tryz.func80 (.j [(9000,.po 20),(2,.po 34)] [(0,9000)] (fun t=>zaA t.1 t.2) .e (.n 3 (.j [(9000,.po 20),(5,.po 35)] [(0,9000)] (fun t=>zaz t.1 t.2) .e (.j [(9000,.po 20)] [(0,9000)] (fun t=>zay t) .e (.j [(9000,.po 20),(65,.bool)] [(0,9000)] (fun t=>zax t.1 t.2) .e .e)))))
theorem zvk:zd 182 ⟨[.pt 23],[.bool],1,[],ziS⟩:=cqG CLs.nil 34 Tryz.func182 (.n 2 (.j [(0,.pt 23),(3,.int),(4,.bool)] [] (fun t=>zfU t.1 t.2.1 t.2.2) .e .e))
theorem zqp:zd 321 ⟨[.po 18],[.str,.po 18],1,[0],zc5⟩:=cqG (cN1 zaL) 5 Tryz.func321 .e
theorem zlh:zd 253 ⟨[.str],[.st 15,.int],2,[],ze9⟩:=cqG ((((((((cN1 zfY).add zb0).add zdV).add zX).add zbi).add zqp).add zgw).add zeO) 49 Tryz.func253 .e
theorem zFu:zd 254 ⟨[.int,.str,.int],[.st 34,.int],2,[],fun p=>zq1 p.1 p.2.1 p.2.2⟩:=cqG (((((cN1 zvK).add zlh).add zmT).add zym).add zks) 93 Tryz.func254 (.n 7 (.q (.n 1 (.w [(6,.po 34),(12,.po 34),(64,.sl .str),(65,.int),(66,.int)] [] (fun m t=>zjl t.2.2.1 t.2.2.2.1 m t.2.1 t.2.2.2.2) fun n0 => .e)) .e))
theorem ztf:zd 183 ⟨[.po 23,.str],[.bool,.int,.po 23],2,[0],fun p=>zeI p.1 p.2⟩:=cqG (((cN1 zFu).add zlh).add zks) 62 Tryz.func183 (.n 2 (.j [(9000,.po 23),(6,.int)] [(0,9000)] (fun t=>zeY t.1 t.2) .e .e))
theorem ztg:zd 123 ⟨[.po 23,.u8],[.bool,.int,.po 23],2,[0],fun p=>zch p.1 p.2⟩:=cqG ((cN1 ztf).add zvk) 50 Tryz.func123 .e
theorem zio:zd 78 ⟨[.po 23,.str],[.int,.bool,.int,.po 23],3,[0],fun p=>zaT p.1 p.2⟩:=cqG (cN1 ztg) 72 Tryz.func78 (.n 2 (.q (.n 1 (.w [(9000,.po 23),(1,.str),(24,.int),(25,.int)] [(0,9000)] (fun m t=>zaG t.2.1 t.2.2.1 m t.1 t.2.2.2) fun n0 => .n 2 (.q (.n 3 (.j [(9000,.po 23),(1,.str),(7,.int),(24,.int),(25,.int),(55,.bool)] [(0,9000)] (fun t=>zc6 (zaG t.2.1 t.2.2.2.1 n0) t.1 t.2.2.1 t.2.2.2.2.1 t.2.2.2.2.2) .e .e)) .e))) .e))
theorem zqq:zd 132 ⟨[.po 27,.str],[.str,.int,.po 27],2,[0],fun p=>zbr p.1 p.2⟩:=cqG (((cN1 zb7).add zhF).add ziY) 58 Tryz.func132 (.n 4 (.q (.w [(9000,.po 27),(7,.so 9 .str)] [(0,9000)] (fun m t=>zaS m t.1 t.2) fun n0 => .e) .e))
theorem zgY:zd 82 ⟨[.po 26,.str],[.str,.int,.po 26],2,[0],fun p=>zk p.1 p.2⟩:=cqG (((cN1 zqq).add zlq).add zjq) 47 Tryz.func82 (.n 2 (.j [(9000,.po 26),(1,.str)] [] (fun t=>zdI t.1 t.2) (.n 2 (.q (.j [(9000,.po 26),(4,.str),(5,.int)] [] (fun t=>zdH t.1 t.2.1 t.2.2) .e .e) (.j [(9000,.po 26),(1,.str),(27,.bool)] [(0,9000)] (fun t=>zbD t.1 t.2.1 t.2.2) .e .e))) .e))
theorem zpz:zd 267 ⟨[.po 25,.str],[.str,.po 25],1,[0],fun p=>zcD p.1 p.2⟩:=cqG CLs.nil 35 Tryz.func267 (.n 3 (.j [(9000,.po 25),(1,.str),(5,.int)] [] (fun t=>zbR t.1 t.2.1 t.2.2) .e .e))
theorem zoy:zd 268 ⟨[.po 25,.u8],[.int,.po 25],1,[0],fun p=>zdJ p.1 p.2⟩:=cqG CLs.nil 29 Tryz.func268 (.n 2 (.j [(9000,.po 25),(1,.u8),(5,.u8)] [(0,9000)] (fun t=>zcF t.1 t.2.1 t.2.2) .e (.n 2 (.j [(9000,.po 25)] [] (fun t=>zcE t) .e .e))))
theorem zCK:zd 430 ⟨[.str,.int],[.int,.int],2,[],fun p=>zpa p.1 p.2⟩:=cqG (cN1 zsm) 11 Tryz.func430 .e
theorem zy6:zd 462 ⟨[.po 18],[.str,.bool,.po 18],2,[0],zml⟩:=cqG ((cN1 zrJ).add zbi) 17 Tryz.func462 .e
theorem zrC:zd 431 ⟨[.st 57],[.st 44,.bool,.po 18],2,[32],zfp⟩:=cqG (((cN1 zy6).add zX).add zbi) 35 Tryz.func431 .e
theorem zwS:zd 388 ⟨[.str],[.int,.so 492 (.st 44),.int],3,[],zjL⟩:=cqG ((((((cN1 zbE).add zrC).add zX).add zCK).add zaL).add zgw) 52 Tryz.func388 (.n 5 (.q (.w [(5,.po 57),(7,.int),(8,.int),(9,.so 492 (.st 44))] [] (fun m t=>zeJ t.2.1 t.2.2.1 m t.1 t.2.2.2) fun n0 => .e) .e))
theorem zpA:zd 341 ⟨[.po 25,.str],[.int,.po 25],1,[0],fun p=>zec p.1 p.2⟩:=cqG (cN1 zwS) 47 Tryz.func341 .e
theorem znG:zd 342 ⟨[.po 25,.str],[.bool,.int,.po 25],2,[0],fun p=>zcZ p.1 p.2⟩:=cqG (cN1 zlh) 36 Tryz.func342 .e
theorem zoz:zd 269 ⟨[.po 25,.u8],[.bool,.int,.po 25],2,[0],fun p=>zdK p.1 p.2⟩:=cqG ((cN1 znG).add zpA) 95 Tryz.func269 (.n 1 (.j [(9000,.po 25),(1,.u8)] [(0,9000)] (fun t=>zcI t.1 t.2) .e (.n 1 (.j [(9000,.po 25),(1,.u8),(6,.int),(7,.bool)] [(0,9000)] (fun t=>zcH t.1 t.2.1 t.2.2.1 t.2.2.2) .e (.q (.j [(9000,.po 25),(1,.u8),(6,.int),(7,.bool),(39,.bool)] [(0,9000)] (fun t=>zcG t.1 t.2.1 t.2.2.1 t.2.2.2.1 t.2.2.2.2) .e .e) .e)))))
theorem zpB:zd 188 ⟨[.po 25,.str],[.int,.str,.bool,.int,.po 25],4,[0],fun p=>zt p.1 p.2⟩:=cqG (((cN1 zoz).add zoy).add zpz) 35 Tryz.func188 .e
theorem zpC:zd 130 ⟨[.po 25,.str],[.int,.str,.bool,.int,.po 25],4,[0],fun p=>za6 p.1 p.2⟩:=cqG (cN1 zpB) 63 Tryz.func130 (.n 3 (.q (.w [(9000,.po 25),(1,.str),(4,.int),(6,.bool),(7,.int),(8,.so 5 .u8)] [(0,9000)] (fun m t=>zq t.2.1 m t.1 t.2.2.1 t.2.2.2.1 t.2.2.2.2.1 t.2.2.2.2.2) fun n0 => .q (.j [(9000,.po 25),(1,.str),(4,.int),(6,.bool),(7,.int),(8,.so 5 .u8),(30,.bool)] [(0,9000)] (fun t=>zaJ (zq t.2.1 n0) t.1 t.2.1 t.2.2.1 t.2.2.2.1 t.2.2.2.2.1 t.2.2.2.2.2.1 t.2.2.2.2.2.2) .e .e) .e) (.j [(9000,.po 25),(4,.int),(6,.bool),(7,.int),(8,.so 5 .u8)] [] (fun t=>zbS t.1 t.2.1 t.2.2.1 t.2.2.2.1 t.2.2.2.2) (.j [(9000,.po 25),(4,.int),(6,.bool),(7,.int),(8,.so 5 .u8),(51,.bool)] [(0,9000)] (fun t=>zbT t.1 t.2.1 t.2.2.1 t.2.2.2.1 t.2.2.2.2.1 t.2.2.2.2.2) .e .e) .e)))
theorem zj2:zd 81 ⟨[.po 24,.str],[.int,.str,.bool,.int,.po 24],4,[0],fun p=>zo p.1 p.2⟩:=cqG ((cN1 zpC).add zrB) 87 Tryz.func81 (.n 3 (.j [(9000,.po 24),(1,.str),(4,.int)] [(0,9000)] (fun t=>zfW t.1 t.2.1 t.2.2) (.n 2 (.q (.j [(9000,.po 24),(4,.int),(5,.str),(6,.bool),(7,.int)] [(0,9000)] (fun t=>zfV t.1 t.2.1 t.2.2.1 t.2.2.2.1 t.2.2.2.2) .e .e) .e)) .e))
theorem znH:zd 53 ⟨[.po 20,.str],[.int,.po 20],1,[0],fun p=>ze p.1 p.2⟩:=cqG ((((((((((cN1 zj2).add zgY).add zi0).add zeg).add zik).add zlN).add zio).add zox).add zin).add zjO) 75 Tryz.func53 (.n 1 (.q (.j [(9000,.po 20),(1,.str),(19,.bool)] [(0,9000)] (fun t=>zK t.1 t.2.1 t.2.2) .e (.q (.j [(9000,.po 20),(5,.int),(6,.bool),(7,.int)] [(0,9000)] (fun t=>zp t.1 t.2.1 t.2.2.1 t.2.2.2) .e .e) .e)) (.j [(9000,.po 20),(8,.int),(9,.str),(10,.bool),(11,.int)] [(0,9000)] (fun t=>zW t.1 t.2.1 t.2.2.1 t.2.2.2.1 t.2.2.2.2) .e (.j [(9000,.po 20),(8,.int),(10,.bool),(11,.int),(12,.str)] [(0,9000)] (fun t=>zA t.1 t.2.1 t.2.2.1 t.2.2.2.1 t.2.2.2.2) .e .e))))
theorem zb6:zd 87 ⟨[.po 20,.sl .str],[.po 20],0,[0],fun p=>zY p.1 p.2⟩:=cqG CLs.nil 22 Tryz.func87 (.n 1 (.w [(9000,.po 20),(6,.sl .str),(7,.int),(8,.int)] [(0,9000)] (fun m t=>zC t.2.1 t.2.2.1 m t.1 t.2.2.2) fun n0 => .e))
theorem zbU:zd 59 ⟨[.po 20],[.po 20],0,[0],zT⟩:=cqG CLs.nil 13 Tryz.func59 .e
theorem zfL:zd 85 ⟨[.po 20,.int],[.po 20],0,[0],fun p=>zO p.1 p.2⟩:=cqG (((cN1 zbU).add zb6).add zwR) 11 Tryz.func85 .e
theorem zcM:zd 54 ⟨[.po 20],[.po 20],0,[0],zg⟩:=cqG ((((cN1 zhv).add zbU).add zfL).add zi7) 53 Tryz.func54 (.j [(9000,.po 20),(2,.int)] [(0,9000)] (fun t=>zaf t.1 t.2) .e (.n 1 (.q .e (.j [(9000,.po 20),(2,.int),(13,.bool)] [(0,9000)] (fun t=>zaq t.1 t.2.1 t.2.2) .e .e))))
theorem ziq:zd 28 ⟨[.po 20,.str],[.int,.int,.po 20],2,[0],fun p=>zM p.1 p.2⟩:=cqG (((cN1 zcM).add znH).add zpL) 39 Tryz.func28 (.n 3 (.q (.w [(9000,.po 20),(1,.str),(6,.int)] [(0,9000)] (fun m t=>zh t.2.1 m t.1 t.2.2) fun n0 => .q (.j [(9000,.po 20),(1,.str),(6,.int),(28,.bool)] [(0,9000)] (fun t=>zaN (zh t.2.1 n0) t.1 t.2.1 t.2.2.1 t.2.2.2) .e .e) .e) .e))
theorem zm1:zd 91 ⟨[.po 20],[.str,.po 20],1,[0],zbK⟩:=cqG CLs.nil 15 Tryz.func91 .e
theorem zlP:zd 92 ⟨[.po 20],[.str,.po 20],1,[0],zbm⟩:=cqG CLs.nil 15 Tryz.func92 .e
theorem zop:zd 201 ⟨[.nil],[.int],1,[],fun _=>ziT⟩:=cqG CLs.nil 10 Tryz.func201 .e
theorem zqr:zd 202 ⟨[.nil],[.int],1,[],fun _=>zig⟩:=cqG CLs.nil 10 Tryz.func202 .e
theorem zlr:zd 203 ⟨[.nil],[.int],1,[],fun _=>zbY⟩:=cqG CLs.nil 10 Tryz.func203 .e
theorem zrD:zd 281 ⟨[.nil],[.int],1,[],fun _=>zfq⟩:=cqG CLs.nil 10 Tryz.func281 .e
theorem zpD:zd 281 ⟨[.pt 27],[.int],1,[],zed⟩:=cqG CLs.nil 10 Tryz.func281 .e
theorem zkh:zd 203 ⟨[.pt 26],[.int],1,[],zbs⟩:=cqG ((cN1 zpD).add zrD) 10 Tryz.func203 .e
theorem zrE:zd 280 ⟨[.nil],[.int],1,[],fun _=>zfr⟩:=cqG CLs.nil 10 Tryz.func280 .e
theorem zpE:zd 280 ⟨[.pt 25],[.int],1,[],zee⟩:=cqG CLs.nil 10 Tryz.func280 .e
theorem zoq:zd 202 ⟨[.pt 24],[.int],1,[],zgj⟩:=cqG ((cN1 zpE).add zrE) 10 Tryz.func202 .e
theorem zmP:zd 201 ⟨[.pt 23],[.int],1,[],zgQ⟩:=cqG CLs.nil 10 Tryz.func201 .e
theorem zug:zd 142 ⟨[.pt 29],[.int],1,[],zfs⟩:=cqG ((((((cN1 zmP).add zoq).add zkh).add zlr).add zqr).add zop) 20 Tryz.func142 .e
theorem zsg:zd 93 ⟨[.pt 20],[.st 58],1,[],zcS⟩:=cqG (cN1 zug) 15 Tryz.func93 .e
theorem zor:zd 61 ⟨[.po 30],[.po 30],0,[0],zu⟩:=cqG (((cN1 zsg).add zlP).add zm1) 58 Tryz.func61 .e
theorem zls:zd 136 ⟨[.nil],[.st 22,.bool],2,[],fun _=>zfX⟩:=cqG CLs.nil 13 Tryz.func136 .e
theorem zuE:zd 198 ⟨[.st 35,.int],[.st 35],1,[],fun p=>zmK p.1 p.2⟩:=cqG CLs.nil 20 Tryz.func198 .e
theorem zuh:zd 196 ⟨[.pt 32],[.st 22,.bool],2,[],zdL⟩:=cqG CLs.nil 18 Tryz.func196 .e
theorem zki:zd 136 ⟨[.pt 21],[.st 22,.bool],2,[],zaH⟩:=cqG (cN1 zuh) 13 Tryz.func136 .e
theorem zm9:zd 90 ⟨[.nil],[.bool],1,[],fun _=>zhE⟩:=cqG CLs.nil 11 Tryz.func90 .e
theorem znI:zd 137 ⟨[.po 20,.st 33,.st 22],[.int,.po 20],1,[0],fun p=>za2 p.1 p.2.1 p.2.2⟩:=cqG ((((cN1 zju).add zb6).add zld).add zkq) 58 Tryz.func137 (.n 4 (.j [(9000,.po 20),(8,.int)] [(0,9000)] (fun t=>zak t.1 t.2) (.j [(9000,.po 20),(8,.int),(9,.str),(43,.bool)] [(0,9000)] (fun t=>zal t.1 t.2.1 t.2.2.1 t.2.2.2) .e .e) .e))
theorem zrO:zd 199 ⟨[.st 33,.bool,.int],[.st 34],1,[],fun p=>zmm p.1 p.2.1 p.2.2⟩:=cqG CLs.nil 30 Tryz.func199 (.n 2 (.j [(3,.po 34),(6,.po 34)] [] (fun t=>zgk t.1) .e .e))
theorem zlt:COk Tryz.prog G 90 zs4:=ztO zAR hNm tyk CLs.nil (.nd 196 (.lf 141 (fnS Tryz.func141)) (.lf 196 (fnS Tryz.func196))) 11 60 Tryz.func90 (by kernel_rfl) (hn := .e) (by unfold zui opJ zxI; kernel_rfl)
theorem zdT:zd 58 ⟨[.po 20],[.po 20],0,[0],zL⟩:=cqG (((((((((cN1 zgX).add zgW).add zlt).add zbU).add zju).add zm9).add zb6).add zim).add zil) 59 Tryz.func58 (.j [(9000,.po 20),(2,.str)] [(0,9000)] (fun t=>zQ t.1 t.2) .e (.n 1 (.j [(9000,.po 20)] [(0,9000)] (fun t=>zah t) .e (.n 1 (.j [(9000,.po 20)] [(0,9000)] (fun t=>zag t) .e .e)))))
theorem zoA:zd 138 ⟨[.po 20,.st 33,.st 22],[.int,.po 20],1,[0],fun p=>zbd p.1 p.2.1 p.2.2⟩:=cqG ((((((((((((cN1 zj1).add zdT).add zlO).add zpy).add zvj).add zb6).add zld).add zrO).add zte).add zkq).add zuE).add zlf) 126 Tryz.func138 (.n 6 (.j [(9000,.po 20),(4,.po 33),(5,.po 22),(7,.po 35),(9,.po 35),(10,.po 34)] [(0,9000)] (fun t=>zaU t.1 t.2.1 t.2.2.1 t.2.2.2.1 t.2.2.2.2.1 t.2.2.2.2.2) .e (.j [(9000,.po 20),(5,.po 22),(7,.po 35),(9,.po 35),(10,.po 34)] [(0,9000)] (fun t=>zaE t.1 t.2.1 t.2.2.1 t.2.2.2.1 t.2.2.2.2) .e (.n 4 (.j [(9000,.po 20),(9,.po 35)] [(0,9000)] (fun t=>zaD t.1 t.2) .e (.j [(9000,.po 20)] [(0,9000)] (fun t=>zaC t) .e (.q (.j [(9000,.po 20),(123,.bool)] [(0,9000)] (fun t=>zaB t.1 t.2) .e .e) .e)))))))
theorem znJ:zd 86 ⟨[.po 20],[.po 20],0,[0],zaK⟩:=cqG (((((((cN1 zfv).add zki).add zoA).add znI).add zfL).add zls).add zgx) 44 Tryz.func86 (.j [(9000,.po 20),(2,.po 34)] [(0,9000)] (fun t=>zac t.1 t.2) .e (.j [(9000,.po 20),(2,.po 34),(4,.po 22)] [(0,9000)] (fun t=>zam t.1 t.2.1 t.2.2) .e (.n 1 (.j [(9000,.po 20),(6,.int)] [(0,9000)] (fun t=>zab t.1 t.2) .e .e))))
theorem zm2:zd 56 ⟨[.po 20,.str],[.int,.po 20],1,[0],fun p=>zj p.1 p.2⟩:=cqG (((((((((((cN1 zj2).add zgY).add zdT).add zbU).add zb6).add zik).add zlN).add zio).add znJ).add zfL).add zjO) 73 Tryz.func56 (.n 1 (.q (.j [(9000,.po 20),(1,.str),(19,.bool)] [(0,9000)] (fun t=>zH t.1 t.2.1 t.2.2) .e (.q (.j [(9000,.po 20),(5,.int),(6,.bool),(7,.int)] [(0,9000)] (fun t=>zm t.1 t.2.1 t.2.2.1 t.2.2.2) .e .e) .e)) (.j [(9000,.po 20),(8,.int),(9,.str),(10,.bool),(11,.int)] [(0,9000)] (fun t=>zR t.1 t.2.1 t.2.2.1 t.2.2.2.1 t.2.2.2.2) .e (.j [(9000,.po 20),(8,.int),(10,.bool),(11,.int),(12,.str)] [(0,9000)] (fun t=>zw t.1 t.2.1 t.2.2.1 t.2.2.2.1 t.2.2.2.2) .e .e))))
theorem zhh:zd 30 ⟨[.po 20,.str],[.int,.int,.po 20],2,[0],fun p=>zr p.1 p.2⟩:=cqG ((((cN1 zhv).add zcM).add zm2).add zi7) 57 Tryz.func30 (.n 3 (.q (.w [(9000,.po 20),(1,.str),(6,.int)] [(0,9000)] (fun m t=>za t.2.1 m t.1 t.2.2) fun n0 => .q (.j [(9000,.po 20),(1,.str),(6,.int),(46,.bool)] [(0,9000)] (fun t=>zx (za t.2.1 n0) t.1 t.2.1 t.2.2.1 t.2.2.2) .e .e) .e) .e))
theorem zgv:zd 29 ⟨[.po 20],[.int,.po 20],1,[0],zG⟩:=cqG (cN1 zcM) 29 Tryz.func29 .e
theorem zrP:zd 57 ⟨[.nil],[.bool,.int],2,[],fun _=>zjm⟩:=cqG CLs.nil 23 Tryz.func57 .e
theorem zpc:zd 57 ⟨[.po 24],[.bool,.int,.po 24],2,[0],zfa⟩:=cqG CLs.nil 23 Tryz.func57 (.n 1 (.j [(9000,.po 24)] [] (fun t=>zgR t) .e .e))
theorem zfM:zd 31 ⟨[.po 20],[.int,.po 20],1,[0],zn⟩:=cqG (((((cN1 zpc).add zbU).add zcM).add zdT).add zrP) 42 Tryz.func31 (.n 3 (.q (.n 1 (.q (.j [(9000,.po 20),(3,.bool)] [(0,9000)] (fun t=>zP t.1 t.2) .e .e) .e)) .e))
theorem zA9:COk Tryz.prog G 16 zCz:=ztO zAR hNm tyk ((((((cN1 zfM).add zgv).add zhh).add zor).add ziq).add zsr) (.nd 34 (.lf 33 (fnS Tryz.func33)) (.nd 60 (.lf 34 (fnS Tryz.func34)) (.lf 60 (fnS Tryz.func60)))) 50 60 Tryz.func16 (by kernel_rfl) (hn := .n 3 (.q (.n 2 (.q .e (.n 1 (.q .e (.n 1 (.q (.j [(9000,.po 30),(4,.int),(5,.int)] [] (fun t=>zhe t.1 t.2.1 t.2.2) .e .e) .e)))))) .e)) (by unfold zui opJ zxI; kernel_rfl)
theorem zjr:zd 35 ⟨[.pt 20],[.bool],1,[],zbk⟩:=cqG CLs.nil 11 Tryz.func35 .e
theorem zvl:COk Tryz.prog G 17 zwC:=ztO zAR hNm tyk ((((((cN1 zgv).add zfM).add zhh).add zor).add ziq).add zjr) (.nd 36 (.nd 34 (.lf 33 (fnS Tryz.func33)) (.lf 34 (fnS Tryz.func34))) (.nd 60 (.lf 36 (fnS Tryz.func36)) (.lf 60 (fnS Tryz.func60)))) 45 60 Tryz.func17 (by kernel_rfl) (hn := .n 3 (.q (.n 1 (.w [(9000,.po 30),(3,.int),(4,.int)] [(0,9000)] (fun m t=>zbq m t.1 t.2.1 t.2.2) fun n0 => .n 2 (.q .e (.q .e (.q .e .e))))) .e)) (by unfold zui opJ zxI; kernel_rfl)
theorem zvm:zd 18 ⟨[.pn 30],[.st 31,.pn 30],1,[0],zlE⟩:=cqG (cN1 zjr) 38 Tryz.func18 .e
theorem zJs:zd 8 ⟨[.st 0],[.st 31,.int],2,[],zob⟩:=cqG ((((cN1 zvm).add zvl).add zA9).add zH4) 32 Tryz.func8 (.n 1 (.j [(1,.po 0),(2,.po 31),(4,.pn 30),(5,.int)] [] (fun t=>zih t.1 t.2.2.1 t.2.2.2) .e (.n 1 (.q (.n 1 (.w [(2,.po 31),(4,.pn 30),(18,.sl (.st 4)),(19,.int),(20,.int)] [] (fun m t=>zkf t.2.2.1 t.2.2.2.1 m t.2.1 t.2.2.2.2) fun n0 => .e)) .e))))
theorem zFv:zd 7 ⟨[.st 0,.sl (.st 4),.sl (.st 4)],[.bool,.int],2,[],fun p=>zeK p.1 p.2.1 p.2.2⟩:=cqG ((cN1 zJs).add zFX) 72 Tryz.func7 (.n 5 (.j [(8,.po 31),(10,.po 31),(11,.bool)] [] (fun t=>zjn t.1 t.2.1 t.2.2) .e (.j [(8,.po 31),(11,.bool),(12,.bool)] [] (fun t=>zhr t.1 t.2.1 t.2.2) .e .e)))
end
end Go.Proofs
end
section
namespace Go.Proofs
open Go.Dk Go.Dm Go.RowKit Go.Rk
noncomputable section
noncomputable def Cz:Bt (CLs Tryz.prog G) := .nd 125 (.nd 75 (.nd 48 (.nd 46 (.nd 45 (.lf 32 (cN1 zsr)) (.lf 45 (cN1 zus))) (.nd 47 (.lf 46 (cN1 zlR)) (.lf 47 (cN1 zut)))) (.nd 50 (.nd 49 (.lf 48 (cN1 zph)) (.lf 49 (cN1 zpF))) (.nd 55 (.lf 50 (cN1 zlu)) (.nd 57 (.lf 55 ((cN1 zhv).add zi7)) (.lf 57 ((cN1 zpc).add zrP)))))) (.nd 88 (.nd 78 (.nd 77 (.lf 75 (cN1 zx0)) (.lf 77 ((cN1 zkp).add zmq))) (.nd 81 (.lf 78 ((cN1 zio).add zjO)) (.nd 82 (.lf 81 ((cN1 zj2).add zlN)) (.lf 82 ((cN1 zgY).add zik))))) (.nd 90 (.nd 89 (.lf 88 ((cN1 zgX).add zim)) (.lf 89 ((cN1 zgW).add zil))) (.nd 121 (.lf 90 ((cN1 zlt).add zm9)) (.nd 124 (.lf 121 ((cN1 zll).add zm5)) (.lf 124 (cN1 zvF))))))) (.nd 184 (.nd 133 (.nd 128 (.nd 127 (.lf 125 ((cN1 zfv).add zgx)) (.lf 127 (cN1 zvj))) (.nd 129 (.lf 128 (cN1 zpy)) (.lf 129 ((cN1 zj1).add zlO)))) (.nd 135 (.nd 134 (.lf 133 (cN1 zwN)) (.lf 134 ((cN1 zlg).add zmO))) (.nd 136 (.lf 135 (cN1 zwR)) (.nd 143 (.lf 136 ((cN1 zki).add zls)) (.lf 143 (cN1 zrN)))))) (.nd 198 (.nd 186 (.nd 185 (.lf 184 (cN1 zlz)) (.lf 185 (cN1 zkq))) (.nd 191 (.lf 186 (cN1 zld)) (.nd 197 (.lf 191 (cN1 zte)) (.lf 197 (cN1 zlf))))) (.nd 201 (.nd 199 (.lf 198 (cN1 zuE)) (.lf 199 (cN1 zrO))) (.nd 202 (.lf 201 ((cN1 zmP).add zop)) (.nd 203 (.lf 202 ((cN1 zoq).add zqr)) (.lf 203 ((cN1 zkh).add zlr)))))))
noncomputable def Bz:Bt (FnS Tryz.prog) := .nd 53 (.nd 28 (.nd 17 (.nd 10 (.nd 8 (.lf 4 (fnS Tryz.func4)) (.nd 9 (.lf 8 (fnS Tryz.func8)) (.lf 9 (fnS Tryz.func9)))) (.nd 15 (.lf 10 (fnS Tryz.func10)) (.nd 16 (.lf 15 (fnS Tryz.func15)) (.lf 16 (fnS Tryz.func16))))) (.nd 20 (.nd 18 (.lf 17 (fnS Tryz.func17)) (.nd 19 (.lf 18 (fnS Tryz.func18)) (.lf 19 (fnS Tryz.func19)))) (.nd 21 (.lf 20 (fnS Tryz.func20)) (.nd 27 (.lf 21 (fnS Tryz.func21)) (.lf 27 (fnS Tryz.func27)))))) (.nd 35 (.nd 31 (.nd 29 (.lf 28 (fnS Tryz.func28)) (.nd 30 (.lf 29 (fnS Tryz.func29)) (.lf 30 (fnS Tryz.func30)))) (.nd 33 (.lf 31 (fnS Tryz.func31)) (.nd 34 (.lf 33 (fnS Tryz.func33)) (.lf 34 (fnS Tryz.func34))))) (.nd 38 (.nd 36 (.lf 35 (fnS Tryz.func35)) (.nd 37 (.lf 36 (fnS Tryz.func36)) (.lf 37 (fnS Tryz.func37)))) (.nd 51 (.nd 39 (.lf 38 (fnS Tryz.func38)) (.lf 39 (fnS Tryz.func39))) (.nd 52 (.lf 51 (fnS Tryz.func51)) (.lf 52 (fnS Tryz.func52))))))) (.nd 84 (.nd 61 (.nd 58 (.nd 54 (.lf 53 (fnS Tryz.func53)) (.nd 56 (.lf 54 (fnS Tryz.func54)) (.lf 56 (fnS Tryz.func56)))) (.nd 59 (.lf 58 (fnS Tryz.func58)) (.nd 60 (.lf 59 (fnS Tryz.func59)) (.lf 60 (fnS Tryz.func60))))) (.nd 79 (.nd 62 (.lf 61 (fnS Tryz.func61)) (.nd 76 (.lf 62 (fnS Tryz.func62)) (.lf 76 (fnS Tryz.func76)))) (.nd 80 (.lf 79 (fnS Tryz.func79)) (.nd 83 (.lf 80 (fnS Tryz.func80)) (.lf 83 (fnS Tryz.func83)))))) (.nd 93 (.nd 87 (.nd 85 (.lf 84 (fnS Tryz.func84)) (.nd 86 (.lf 85 (fnS Tryz.func85)) (.lf 86 (fnS Tryz.func86)))) (.nd 91 (.lf 87 (fnS Tryz.func87)) (.nd 92 (.lf 91 (fnS Tryz.func91)) (.lf 92 (fnS Tryz.func92))))) (.nd 137 (.nd 94 (.lf 93 (fnS Tryz.func93)) (.nd 126 (.lf 94 (fnS Tryz.func94)) (.lf 126 (fnS Tryz.func126)))) (.nd 142 (.nd 138 (.lf 137 (fnS Tryz.func137)) (.lf 138 (fnS Tryz.func138))) (.nd 144 (.lf 142 (fnS Tryz.func142)) (.lf 144 (fnS Tryz.func144)))))))
noncomputable def Xz:Cx tau:=⟨Tryz.prog,G,tyl,[],0,fun _ => .bool false⟩
end
end Go.Proofs
end
section
namespace Go.Proofs
open Go.Dk Go.Dm Go.RowKit Go.Rk
noncomputable section
theorem zLb:zrun Xz ⟨(ctOf Cz),Bz⟩ 100000000 4 []=some true:=by kernel_rfl
theorem zLc:COk Tryz.prog G 4 zM5:=zPZ (X:=Xz) zAR hNm (tyk [] 0) fpok rfl zPY ⟨_,Tryz.func4,by kernel_rfl,by kernel_rfl⟩ zLb
theorem zCE:zd 3 ⟨[.st 0,.u8],[.bool],1,[],fun p=>zmL p.1 p.2⟩:=cqG ((((cN1 zFv).add zFW).add zKJ).add zLc) 83 Tryz.func3 .e
end
end Go.Proofs
end
