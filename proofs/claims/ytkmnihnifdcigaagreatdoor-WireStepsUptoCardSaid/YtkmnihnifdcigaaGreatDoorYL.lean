/-
 Contracts of a program's functions: the facts that show them, written by a program (wip/gen).
 What whole runs are made with.
 The law by contracts.
-/
import Derived.Test.YtkmnihnifdcigaaGreatDoorYF0
import Derived.Test.YtkmnihnifdcigaaGreatDoorYTr
set_option linter.unusedVariables false
set_option linter.unusedSimpArgs false
section
set_option linter.unusedVariables false
set_option maxRecDepth 100000
namespace Go.Proofs
open Go.Dk Go.Dm Go.RowKit Go.Rk
noncomputable section
-- (*doorstep/quill.Quill).Left
theorem zuH:za 415 zwr:=cqG CLs.nil 15 Tryz.func415 .e
-- (*doorstep/quill.Quill).Put
theorem ztF:za 373 zu7:=cqG (CLs.nil.add zuH) 45 Tryz.func373 (.n 3 (.q (.n 1 (.w [(9000, .po 52),(1, .sl .str),(5, .int),(14, .sl .str),(15, .int),(16, .int)] [(0,9000)] (fun m t=>zda t.1 t.2.1 t.2.2.2.1 t.2.2.2.2.1 m t.2.2.1 t.2.2.2.2.2) fun n0 => .e)) (.q (.n 1 (.w [(9000, .po 52),(29, .sl .str),(30, .int),(31, .int)] [(0,9000)] (fun m t=>zc9 t.2.1 t.2.2.1 m t.1 t.2.2.2) fun n1 => .e)) .e)))
-- (*doorstep/quill.Quill).Line
theorem zsl:za 323 ztT:=cqG (CLs.nil.add ztF) 12 Tryz.func323 .e
-- (*doorstep/head.printer).line
theorem zrw:za 236 zsY:=cqG (CLs.nil.add zsl) 21 Tryz.func236 .e
-- doorstep/fieldline.Text
theorem zpq:za 237 zyL:=cqG (CLs.nil.add zkE) 22 Tryz.func237 .e
-- (*doorstep/quill.Quill).Text
theorem zuI:za 238 zws:=cqG CLs.nil 10 Tryz.func238 .e
-- doorstep/head.Print
theorem zkw:za 153 zHp:=cqG ((((((CLs.nil.add zuI).add zpq).add zrw).add zpK).add zGH).add zv5) 58 Tryz.func153 (.n 5 (.q (.n 1 (.w [(7, .po 53),(32, .sl (.st 20)),(33, .int),(34, .int)] [] (fun m t=>ziS t.2.1 t.2.2.1 m t.1 t.2.2.2) fun n0 => .e)) .e))
-- (*doorstep/gateway.Gateway).onward
theorem zoJ:za 101 zpS:=cqG (((CLs.nil.add zkw).add zkF).add zlf) 55 Tryz.func101 .e
-- doorstep/dechunk.New
theorem zBm:za 154 zFl:=cqG CLs.nil 13 Tryz.func154 .e
-- doorstep/body.New
theorem zuJ:za 102 zLa:=cqG (CLs.nil.add zBm) 65 Tryz.func102 (.n 1 (.j [(2, .po 34),(6, .pn 22),(7, .int)] [] (fun t=>zot t.1 t.2.1 t.2.2) .e (.n 2 (.j [(2, .po 34),(8, .po 21)] [] (fun t=>zos t.1 t.2) .e (.j [(8, .po 21)] [] (fun t=>zl9 t) .e .e)))))
-- (*doorstep/accum.Accum).Head
theorem ze5:za 100 ztU:=cqG CLs.nil 25 Tryz.func100 .e
-- (*doorstep/body.Body).Feed
theorem zk7:za 64 zyM:=cqG CLs.nil 87 Tryz.func64 .e
-- (*doorstep/reframe.Writer).ready
theorem zkx:za 106 zrM:=cqG CLs.nil 11 Tryz.func106 .e
-- (*doorstep/reframe.Writer).Put
theorem zhZ:za 65 ztV:=cqG (CLs.nil.add zkx) 47 Tryz.func65 .e
-- (*doorstep/body.Body).Trailers
theorem zh0:za 72 ztW:=cqG CLs.nil 10 Tryz.func72 .e
-- (*doorstep/reframe.Writer).End
theorem zh1:za 71 ztX:=cqG (CLs.nil.add zkx) 43 Tryz.func71 .e
-- doorstep/commas.Has
theorem zDP:za 245 zHq:=cqG ((CLs.nil.add zdV).add zmq) 34 Tryz.func245 (.n 1 (.q (.n 1 (.w [(0, .str),(11, .sl .str),(12, .int),(13, .int)] [] (fun m t=>zg8 t.1 t.2.1 t.2.2.1 m t.2.2.2) fun n0 => .n 2 (.q (.n 3 (.w [(0, .str),(11, .sl .str),(12, .int),(13, .int),(23, .so 9 .str),(24, .int),(25, .int)] [] (fun m t=>ziT (zg8 t.1 t.2.1 t.2.2.1 n0) t.1 t.2.2.2.1 t.2.2.2.2.1 t.2.2.2.2.2.1 m t.2.2.2.2.2.2) fun n1 => .e)) .e))) .e))
-- doorstep/hop.Close
theorem zsm:za 158 zJc:=cqG (((CLs.nil.add zDP).add zf3).add zeO) 16 Tryz.func158 .e
-- doorstep/pairing.Of
theorem zDQ:za 108 zHr:=cqG (CLs.nil.add zsm) 10 Tryz.func108 .e
-- (*doorstep/pairing.Queue).Push
theorem zsn:za 109 ztY:=cqG CLs.nil 44 Tryz.func109 .e
-- doorstep/pairing.early$1
theorem zvI:za 247 zxq:=cqG CLs.nil 5 Tryz.func247 .e
-- slices.IndexFunc[[]doorstep/pairing.Ticket,doorstep/pairing.Ticket]
theorem zet:za 246 zeG:=cqG (CLs.nil.add zvI) 19 Tryz.func246 (.n 1 (.q (.n 1 (.w [(0, .sl (.st 18)),(1, .fc 247),(7, .int),(8, .int)] [] (fun m t=>zt t.1 t.2.2.1 m t.2.2.2) fun n0 => .e)) .e))
-- doorstep/pairing.early
theorem zyb:za 159 zAQ:=cqG (CLs.nil.add zet) 15 Tryz.func159 .e
-- (*doorstep/dechunk.Decoder).Trailers
theorem znx:za 115 znT:=cqG CLs.nil 11 Tryz.func115 .e
-- (*doorstep/dechunk.Decoder).Trailers
theorem zmk:za 115 zm7:=cqG CLs.nil 11 Tryz.func115 .e
-- (*doorstep/body.Body).Trailers
theorem zgx:za 72 zrN:=cqG ((CLs.nil.add zmk).add znx) 10 Tryz.func72 .e
-- (*doorstep/reframe.Writer).ready
theorem ziX:za 106 zpT:=cqG CLs.nil 11 Tryz.func106 .e
-- (*doorstep/enchunk.Encoder).ready
theorem zjL:za 156 zq9:=cqG CLs.nil 11 Tryz.func156 .e
-- doorstep/chunkline.Last
theorem ziz:za 167 zyN:=cqG ((CLs.nil.add zbK).add zpq) 36 Tryz.func167 (.n 2 (.q (.n 1 (.w [(0, .sl (.st 20)),(4, .so 9 .str),(10, .sl (.st 20)),(11, .int),(12, .int)] [] (fun m t=>zeX t.1 t.2.2.1 t.2.2.2.1 m t.2.1 t.2.2.2.2) fun n0 => .e)) .e))
-- (*doorstep/enchunk.Encoder).End
theorem zkO:za 114 zsZ:=cqG ((CLs.nil.add ziz).add zjL) 37 Tryz.func114 .e
-- (*doorstep/enchunk.Encoder).ready
theorem ziC:za 156 zo0:=cqG CLs.nil 11 Tryz.func156 .e
-- doorstep/numeral.HexText
theorem zvJ:za 326 zxr:=cqG (CLs.nil.add zsy) 5 Tryz.func326 .e
-- doorstep/chunkline.Text
theorem zw6:za 242 zyO:=cqG (CLs.nil.add zvJ) 5 Tryz.func242 .e
-- doorstep/chunkline.Piece
theorem zhl:za 157 zxs:=cqG ((CLs.nil.add zbK).add zw6) 11 Tryz.func157 .e
-- (*doorstep/enchunk.Encoder).Put
theorem zkP:za 107 zs0:=cqG (CLs.nil.add zjL) 58 Tryz.func107 .e
-- (*doorstep/dechunk.Decoder).Feed
theorem zqH:za 105 zrO:=cqG CLs.nil 63 Tryz.func105 .e
-- (*doorstep/pairing.Queue).Len
theorem zmw:za 43 zu8:=cqG CLs.nil 11 Tryz.func43 .e
-- doorstep/reply.Make
theorem zDR:COk Tryz.prog G 161 zHs:=zp5 zyR hNm tyk CLs.nil (.lf 248 (fnS Tryz.func248)) 27 60 Tryz.func161 (by kernel_rfl) (hn := .e) (by unfold zsh opJ zxI; kernel_rfl)
-- doorstep/length.bodiless
theorem zvK:za 251 zxt:=cqG CLs.nil 27 Tryz.func251 .e
-- doorstep/length.Response
theorem zky:za 164 zxu:=cqG ((CLs.nil.add zxP).add zvK) 15 Tryz.func164 .e
-- doorstep/message.frame
theorem zyc:za 330 zAR:=cqG ((CLs.nil.add zky).add zlf) 18 Tryz.func330 .e
-- doorstep/message.fits
theorem zzY:za 331 zCA:=cqG CLs.nil 38 Tryz.func331 .e
-- doorstep/message.Check
theorem zyd:za 249 zAS:=cqG ((((CLs.nil.add ziz).add zzY).add zyc).add zv5) 42 Tryz.func249 .e
-- (*doorstep/enchunk.Encoder).ready
theorem ziD:za 156 zo1:=cqG CLs.nil 11 Tryz.func156 .e
-- (*doorstep/enchunk.Encoder).Put
theorem zpr:za 107 zra:=cqG (((CLs.nil.add zbK).add zhl).add ziD) 58 Tryz.func107 (.n 4 (.q (.w [(9000, .po 24),(7, .so 9 .str)] [(0,9000)] (fun m t=>zfi m t.1 t.2) fun n0 => .e) .e))
-- (*doorstep/enchunk.Encoder).End
theorem zps:za 114 zrb:=cqG (((CLs.nil.add zhl).add ziz).add ziD) 37 Tryz.func114 .e
-- doorstep/enchunk.All
theorem zBn:za 250 zFm:=cqG (((((CLs.nil.add zps).add zpr).add zkO).add zkP).add zlO) 39 Tryz.func250 (.n 1 (.j [(1, .str),(2, .sl (.st 20)),(8, .pn 24),(9, .int)] [] (fun t=>znu t.1 t.2.1 t.2.2.1 t.2.2.2) .e .e))
-- doorstep/message.Print
theorem zye:za 162 zAT:=cqG (((CLs.nil.add zBn).add zkw).add zyd) 51 Tryz.func162 (.n 5 (.j [(11, .str),(12, .int),(13, .str)] [] (fun t=>zk0 t.1 t.2.1 t.2.2) .e .e))
-- doorstep/reply.Text
theorem zvL:za 110 zHt:=cqG ((CLs.nil.add zye).add zDR) 20 Tryz.func110 .e
-- (*doorstep/pairing.Queue).Len
theorem zkQ:za 43 zs1:=cqG CLs.nil 11 Tryz.func43 .e
-- (*doorstep/gateway.Gateway).refuse
theorem zh2:za 62 znU:=cqG (CLs.nil.add zvZ) 16 Tryz.func62 .e
-- (*doorstep/gateway.Gateway).forward
theorem zdT:za 66 znK:=cqG CLs.nil 22 Tryz.func66 (.n 1 (.w [(9000, .po 16),(6, .sl .str),(7, .int),(8, .int)] [(0,9000)] (fun m t=>zaH t.2.1 t.2.2.1 m t.1 t.2.2.2) fun n0 => .e))
-- doorstep/reframe.New
theorem zoK:za 103 zFn:=cqG (CLs.nil.add zlO) 50 Tryz.func103 (.n 1 (.j [(2, .po 34),(6, .pn 24),(7, .int)] [] (fun t=>zkn t.1 t.2.1 t.2.2) .e .e))
-- (*doorstep/body.Body).Done
theorem zk8:za 104 zyP:=cqG CLs.nil 11 Tryz.func104 .e
-- (*doorstep/pairing.Queue).Push
theorem zqI:COk Tryz.prog G 109 zrP:=zp5 zyR hNm tyk (CLs.nil.add zyb) (.nd 160 (.lf 97 (fnS Tryz.func97)) (.lf 160 (fnS Tryz.func160))) 44 60 Tryz.func109 (by kernel_rfl) (hn := .n 3 (.j [(9000, .po 17)] [] (fun t=>zdg t) .e .e)) (by unfold zsh opJ zxI; kernel_rfl)
-- (*doorstep/enchunk.Encoder).End
theorem zpt:za 114 zrc:=cqG (((CLs.nil.add zhl).add ziz).add ziC) 37 Tryz.func114 .e
-- (*doorstep/reframe.Writer).End
theorem zgy:za 71 zrQ:=cqG (((CLs.nil.add zpt).add zkO).add ziX) 43 Tryz.func71 (.n 3 (.j [(9000, .po 23),(6, .int),(7, .str)] [(0,9000)] (fun t=>za5 t.1 t.2.1 t.2.2) .e .e))
-- (*doorstep/gateway.Gateway).whole
theorem ziE:za 67 zo2:=cqG (((((((((((CLs.nil.add zgy).add zgx).add ze5).add zqI).add zjm).add zsn).add zDQ).add zgC).add zdT).add zh1).add zh0) 58 Tryz.func67 (.j [(9000, .po 16),(2, .str)] [(0,9000)] (fun t=>z6 t.1 t.2) .e (.n 1 (.j [(9000, .po 16),(4, .po 33)] [(0,9000)] (fun t=>zba t.1 t.2) .e (.n 1 (.j [(9000, .po 16),(6, .po 18)] [(0,9000)] (fun t=>za9 t.1 t.2) .e .e)))))
-- (*doorstep/body.Body).Done
theorem zjv:za 104 zwt:=cqG CLs.nil 11 Tryz.func104 .e
-- (*doorstep/gateway.Gateway).asked
theorem znP:za 63 zo3:=cqG ((((((((((CLs.nil.add ze5).add zjv).add ziE).add zk8).add zoK).add zuJ).add zdT).add zh2).add zoJ).add zgC) 68 Tryz.func63 (.j [(9000, .po 16),(2, .po 33)] [(0,9000)] (fun t=>zbe t.1 t.2) .e (.n 3 (.j [(9000, .po 16),(5, .po 34)] [(0,9000)] (fun t=>zbd t.1 t.2) .e (.j [(9000, .po 16)] [(0,9000)] (fun t=>zbc t) .e (.j [(9000, .po 16),(65, .bool)] [(0,9000)] (fun t=>zbb t.1 t.2) .e .e)))))
-- (*doorstep/accum.Accum).bare
theorem zuK:za 149 zwu:=cqG CLs.nil 34 Tryz.func149 (.n 2 (.j [(0, .pt 19),(3, .int),(4, .bool)] [] (fun t=>zfw t.1 t.2.1 t.2.2) .e .e))
-- (*doorstep/scan.Scanner).Blanks
theorem zpu:za 304 zrd:=cqG (CLs.nil.add zU) 5 Tryz.func304 .e
-- doorstep/fieldline.Parse
theorem zkz:za 225 zxv:=cqG ((((((((CLs.nil.add zf0).add zby).add zdB).add zy).add zaG).add zpu).add zgB).add zeF) 49 Tryz.func225 .e
-- doorstep/head.Parse
theorem zDS:za 226 zHu:=cqG (((((CLs.nil.add zv4).add zkz).add zmn).add zyg).add zkH) 93 Tryz.func226 (.n 7 (.q (.n 1 (.w [(6, .po 33),(12, .po 33),(64, .sl .str),(65, .int),(66, .int)] [] (fun m t=>ziU t.2.2.1 t.2.2.2.1 m t.2.1 t.2.2.2.2) fun n0 => .e)) .e))
-- (*doorstep/accum.Accum).line
theorem zso:za 150 ztZ:=cqG (((CLs.nil.add zDS).add zkz).add zkH) 62 Tryz.func150 (.n 2 (.j [(9000, .po 19),(6, .int)] [(0,9000)] (fun t=>zeA t.1 t.2) .e .e))
-- (*doorstep/accum.Accum).take
theorem zsp:za 98 zt0:=cqG ((CLs.nil.add zso).add zuK) 50 Tryz.func98 .e
-- (*doorstep/accum.Accum).Feed
theorem zh3:za 61 zt1:=cqG (CLs.nil.add zsp) 72 Tryz.func61 (.n 2 (.q (.n 1 (.w [(9000, .po 19),(1, .str),(24, .int),(25, .int)] [(0,9000)] (fun m t=>zaV t.2.1 t.2.2.1 m t.1 t.2.2.2) fun n0 => .n 2 (.q (.n 3 (.j [(9000, .po 19),(1, .str),(7, .int),(24, .int),(25, .int),(55, .bool)] [(0,9000)] (fun t=>zeB (zaV t.2.1 t.2.2.2.1 n0) t.1 t.2.2.1 t.2.2.2.2.1 t.2.2.2.2.2) .e .e)) .e))) .e))
-- (*doorstep/enchunk.Encoder).Put
theorem zpv:za 107 zre:=cqG (((CLs.nil.add zbK).add zhl).add ziC) 58 Tryz.func107 (.n 4 (.q (.w [(9000, .po 24),(7, .so 9 .str)] [(0,9000)] (fun m t=>zbC m t.1 t.2) fun n0 => .e) .e))
-- (*doorstep/reframe.Writer).Put
theorem zgz:za 65 zrR:=cqG (((CLs.nil.add zpv).add zkP).add ziX) 47 Tryz.func65 (.n 2 (.j [(9000, .po 23),(1, .str)] [] (fun t=>zdj t.1 t.2) (.n 2 (.q (.j [(9000, .po 23),(4, .str),(5, .int)] [] (fun t=>zdi t.1 t.2.1 t.2.2) .e .e) (.j [(9000, .po 23),(1, .str),(27, .bool)] [(0,9000)] (fun t=>zdk t.1 t.2.1 t.2.2) .e .e))) .e))
-- (*doorstep/dechunk.Decoder).data
theorem zoL:za 239 zpU:=cqG CLs.nil 35 Tryz.func239 (.n 3 (.j [(9000, .po 22),(1, .str),(5, .int)] [] (fun t=>zcw t.1 t.2.1 t.2.2) .e .e))
-- (*doorstep/dechunk.Decoder).ended
theorem znQ:za 240 zo4:=cqG CLs.nil 29 Tryz.func240 (.n 2 (.j [(9000, .po 22),(1, .u8),(5, .u8)] [(0,9000)] (fun t=>zca t.1 t.2.1 t.2.2) .e (.n 2 (.j [(9000, .po 22)] [] (fun t=>zb9 t) .e .e))))
-- doorstep/numeral.Hex
theorem zBo:za 416 zFo:=cqG (CLs.nil.add zsx) 11 Tryz.func416 .e
-- doorstep/quoted.Word
theorem zyf:za 448 zAU:=cqG ((CLs.nil.add zrq).add zaG) 17 Tryz.func448 .e
-- (doorstep/chunkline.reader).one
theorem zqJ:za 417 zrS:=cqG (((CLs.nil.add zyf).add zy).add zaG) 35 Tryz.func417 .e
-- doorstep/chunkline.Parse
theorem zvM:za 374 zxw:=cqG ((((((CLs.nil.add zbl).add zqJ).add zy).add zBo).add zU).add zgB) 52 Tryz.func374 (.n 5 (.q (.w [(5, .po 56),(7, .int),(8, .int),(9, .so 460 (.st 43))] [] (fun m t=>zer t.2.1 t.2.2.1 m t.1 t.2.2.2) fun n0 => .e) .e))
-- (*doorstep/dechunk.Decoder).size
theorem zoM:za 324 zpV:=cqG (CLs.nil.add zvM) 47 Tryz.func324 .e
-- (*doorstep/dechunk.Decoder).trailer
theorem zm2:za 325 znL:=cqG (CLs.nil.add zkz) 36 Tryz.func325 .e
-- (*doorstep/dechunk.Decoder).lined
theorem znR:za 241 zo5:=cqG ((CLs.nil.add zm2).add zoM) 95 Tryz.func241 (.n 1 (.j [(9000, .po 22),(1, .u8)] [(0,9000)] (fun t=>zcd t.1 t.2) .e (.n 1 (.j [(9000, .po 22),(1, .u8),(6, .int),(7, .bool)] [(0,9000)] (fun t=>zcc t.1 t.2.1 t.2.2.1 t.2.2.2) .e (.q (.j [(9000, .po 22),(1, .u8),(6, .int),(7, .bool),(39, .bool)] [(0,9000)] (fun t=>zcb t.1 t.2.1 t.2.2.1 t.2.2.2.1 t.2.2.2.2) .e .e) .e)))))
-- (*doorstep/dechunk.Decoder).step
theorem zoN:za 155 zpW:=cqG (((CLs.nil.add znR).add znQ).add zoL) 35 Tryz.func155 .e
-- (*doorstep/dechunk.Decoder).Feed
theorem zoO:za 105 zpX:=cqG (CLs.nil.add zoN) 63 Tryz.func105 (.n 3 (.q (.w [(9000, .po 22),(1, .str),(4, .int),(6, .bool),(7, .int),(8, .so 5 .u8)] [(0,9000)] (fun m t=>zT t.2.1 m t.1 t.2.2.1 t.2.2.2.1 t.2.2.2.2.1 t.2.2.2.2.2) fun n0 => .q (.j [(9000, .po 22),(1, .str),(4, .int),(6, .bool),(7, .int),(8, .so 5 .u8),(30, .bool)] [(0,9000)] (fun t=>zbq (zT t.2.1 n0) t.1 t.2.1 t.2.2.1 t.2.2.2.1 t.2.2.2.2.1 t.2.2.2.2.2.1 t.2.2.2.2.2.2) .e .e) .e) (.j [(9000, .po 22),(4, .int),(6, .bool),(7, .int),(8, .so 5 .u8)] [] (fun t=>zcy t.1 t.2.1 t.2.2.1 t.2.2.2.1 t.2.2.2.2) (.j [(9000, .po 22),(4, .int),(6, .bool),(7, .int),(8, .so 5 .u8),(51, .bool)] [(0,9000)] (fun t=>zcz t.1 t.2.1 t.2.2.1 t.2.2.2.1 t.2.2.2.2.1 t.2.2.2.2.2) .e .e) .e)))
-- (*doorstep/body.Body).Feed
theorem zjw:za 64 zwv:=cqG ((CLs.nil.add zoO).add zqH) 87 Tryz.func64 (.n 3 (.j [(9000, .po 21),(1, .str),(4, .int)] [(0,9000)] (fun t=>zfy t.1 t.2.1 t.2.2) (.n 2 (.q (.j [(9000, .po 21),(4, .int),(5, .str),(6, .bool),(7, .int)] [(0,9000)] (fun t=>zfx t.1 t.2.1 t.2.2.1 t.2.2.2.1 t.2.2.2.2) .e .e) .e)) .e))
-- (*doorstep/gateway.Gateway).request
theorem zm3:za 41 znM:=cqG ((((((((((CLs.nil.add zjw).add zgz).add ziE).add zdT).add zhZ).add zk7).add zh3).add znP).add zh2).add zjz) 75 Tryz.func41 (.n 1 (.q (.j [(9000, .po 16),(1, .str),(19, .bool)] [(0,9000)] (fun t=>zaL t.1 t.2.1 t.2.2) .e (.q (.j [(9000, .po 16),(5, .int),(6, .bool),(7, .int)] [(0,9000)] (fun t=>zaI t.1 t.2.1 t.2.2.1 t.2.2.2) .e .e) .e)) (.j [(9000, .po 16),(8, .int),(9, .str),(10, .bool),(11, .int)] [(0,9000)] (fun t=>zaK t.1 t.2.1 t.2.2.1 t.2.2.2.1 t.2.2.2.2) .e (.j [(9000, .po 16),(8, .int),(10, .bool),(11, .int),(12, .str)] [(0,9000)] (fun t=>zaJ t.1 t.2.1 t.2.2.1 t.2.2.2.1 t.2.2.2.2) .e .e))))
-- (*doorstep/gateway.Gateway).send
theorem zbE:za 70 zpY:=cqG CLs.nil 22 Tryz.func70 (.n 1 (.w [(9000, .po 16),(6, .sl .str),(7, .int),(8, .int)] [(0,9000)] (fun m t=>zbr t.2.1 t.2.2.1 m t.1 t.2.2.2) fun n0 => .e))
-- (*doorstep/gateway.Gateway).close
theorem zbs:za 47 zo6:=cqG CLs.nil 13 Tryz.func47 .e
-- (*doorstep/gateway.Gateway).tell
theorem zfl:za 68 zpZ:=cqG (((CLs.nil.add zbs).add zbE).add zvL) 11 Tryz.func68 .e
-- (*doorstep/gateway.Gateway).settle
theorem zci:za 42 znV:=cqG ((((CLs.nil.add zkQ).add zbs).add zfl).add zmw) 53 Tryz.func42 (.j [(9000, .po 16),(2, .int)] [(0,9000)] (fun t=>za0 t.1 t.2) .e (.n 1 (.q .e (.j [(9000, .po 16),(2, .int),(13, .bool)] [(0,9000)] (fun t=>zaj t.1 t.2.1 t.2.2) .e .e))))
-- (*doorstep/gateway.Gateway).Client
theorem zh4:za 19 znW:=cqG (((CLs.nil.add zci).add zm3).add zpF) 39 Tryz.func19 (.n 3 (.q (.w [(9000, .po 16),(1, .str),(6, .int)] [(0,9000)] (fun m t=>zA t.2.1 m t.1 t.2.2) fun n0 => .q (.j [(9000, .po 16),(1, .str),(6, .int),(28, .bool)] [(0,9000)] (fun t=>zak (zA t.2.1 n0) t.1 t.2.1 t.2.2.1 t.2.2.2) .e .e) .e) .e))
-- (*doorstep/gateway.Gateway).ToClient
theorem zml:za 79 zm8:=cqG CLs.nil 15 Tryz.func79 .e
-- (*doorstep/gateway.Gateway).ToUpstream
theorem zk9:za 80 zmi:=cqG CLs.nil 15 Tryz.func80 .e
-- (*doorstep/accum.Accum).Kept
theorem zny:za 186 zww:=cqG CLs.nil 10 Tryz.func186 .e
-- (*doorstep/body.Body).Kept
theorem zpw:za 187 zyQ:=cqG CLs.nil 10 Tryz.func187 .e
-- (*doorstep/reframe.Writer).Kept
theorem zkR:za 188 zs2:=cqG CLs.nil 10 Tryz.func188 .e
-- (*doorstep/enchunk.Encoder).Kept
theorem zqK:za 266 zrT:=cqG CLs.nil 10 Tryz.func266 .e
-- (*doorstep/enchunk.Encoder).Kept
theorem zoP:za 266 zp0:=cqG CLs.nil 10 Tryz.func266 .e
-- (*doorstep/reframe.Writer).Kept
theorem zjM:za 188 zrf:=cqG ((CLs.nil.add zoP).add zqK) 10 Tryz.func188 .e
-- (*doorstep/dechunk.Decoder).Kept
theorem zqL:za 265 zrU:=cqG CLs.nil 10 Tryz.func265 .e
-- (*doorstep/dechunk.Decoder).Kept
theorem zoQ:za 265 zp1:=cqG CLs.nil 10 Tryz.func265 .e
-- (*doorstep/body.Body).Kept
theorem znz:za 187 zwx:=cqG ((CLs.nil.add zoQ).add zqL) 10 Tryz.func187 .e
-- (*doorstep/accum.Accum).Kept
theorem zmd:za 186 zt2:=cqG CLs.nil 10 Tryz.func186 .e
-- (*doorstep/gateway.side).kept
theorem ztG:za 129 zu9:=cqG ((((((CLs.nil.add zmd).add znz).add zjM).add zkR).add zpw).add zny) 20 Tryz.func129 .e
-- (*doorstep/gateway.Gateway).Use
theorem zrx:za 81 zs3:=cqG (CLs.nil.add ztG) 15 Tryz.func81 .e
-- (*doorstep/wire.Wire).take
theorem znA:za 50 zwy:=cqG (((CLs.nil.add zrx).add zk9).add zml) 58 Tryz.func50 .e
-- (*doorstep/pairing.Queue).Front
theorem zry:za 111 zs4:=cqG CLs.nil 13 Tryz.func111 .e
-- doorstep/reframe.Out
theorem zt9:za 165 zFp:=cqG CLs.nil 20 Tryz.func165 .e
-- (*doorstep/pairing.row[doorstep/pairing.Ticket]).first
theorem ztH:za 163 zva:=cqG CLs.nil 18 Tryz.func163 .e
-- (*doorstep/pairing.Queue).Front
theorem zpx:za 111 zrg:=cqG (CLs.nil.add ztH) 13 Tryz.func111 .e
-- (*doorstep/pairing.Queue).Pop
theorem ztI:za 73 zvb:=cqG CLs.nil 11 Tryz.func73 .e
-- (*doorstep/gateway.Gateway).interim
theorem zm4:za 112 znN:=cqG ((((CLs.nil.add zjm).add zbE).add zkw).add zkF) 58 Tryz.func112 (.n 4 (.j [(9000, .po 16),(8, .int)] [(0,9000)] (fun t=>zaN t.1 t.2) (.j [(9000, .po 16),(8, .int),(9, .str),(43, .bool)] [(0,9000)] (fun t=>zaO t.1 t.2.1 t.2.2.1 t.2.2.2) .e .e) .e))
-- doorstep/rewrite.Close
theorem zrk:za 166 zAV:=cqG CLs.nil 30 Tryz.func166 (.n 2 (.j [(3, .po 33),(6, .po 33)] [] (fun t=>zfX t.1) .e .e))
-- (*doorstep/pairing.Queue).Pop
theorem zrz:COk Tryz.prog G 73 zs5:=zp5 zyR hNm tyk CLs.nil (.nd 163 (.lf 116 (fnS Tryz.func116)) (.lf 163 (fnS Tryz.func163))) 11 60 Tryz.func73 (by kernel_rfl) (hn := .e) (by unfold zsh opJ zxI; kernel_rfl)
-- (*doorstep/gateway.Gateway).answered
theorem zdv:za 46 zm9:=cqG (((((((((CLs.nil.add zgy).add zgx).add zrz).add zbs).add zjm).add ztI).add zbE).add zh1).add zh0) 59 Tryz.func46 (.j [(9000, .po 16),(2, .str)] [(0,9000)] (fun t=>zR t.1 t.2) .e (.n 1 (.j [(9000, .po 16)] [(0,9000)] (fun t=>zax t) .e (.n 1 (.j [(9000, .po 16)] [(0,9000)] (fun t=>zaw t) .e .e)))))
-- (*doorstep/gateway.Gateway).final
theorem znS:za 113 zo7:=cqG ((((((((((((CLs.nil.add zjv).add zdv).add zk8).add zoK).add zuJ).add zbE).add zkw).add zrk).add zsm).add zkF).add zt9).add zky) 126 Tryz.func113 (.n 6 (.j [(9000, .po 16),(4, .po 32),(5, .po 18),(7, .po 34),(9, .po 34),(10, .po 33)] [(0,9000)] (fun t=>zbk t.1 t.2.1 t.2.2.1 t.2.2.2.1 t.2.2.2.2.1 t.2.2.2.2.2) .e (.j [(9000, .po 16),(5, .po 18),(7, .po 34),(9, .po 34),(10, .po 33)] [(0,9000)] (fun t=>zbj t.1 t.2.1 t.2.2.1 t.2.2.2.1 t.2.2.2.2) .e (.n 4 (.j [(9000, .po 16),(9, .po 34)] [(0,9000)] (fun t=>zbi t.1 t.2) .e (.j [(9000, .po 16)] [(0,9000)] (fun t=>zbh t) .e (.q (.j [(9000, .po 16),(123, .bool)] [(0,9000)] (fun t=>zbg t.1 t.2) .e .e) .e)))))))
-- (*doorstep/gateway.Gateway).answers
theorem zm5:za 69 znO:=cqG (((((((CLs.nil.add ze5).add zpx).add znS).add zm4).add zfl).add zry).add zgC) 44 Tryz.func69 (.j [(9000, .po 16),(2, .po 33)] [(0,9000)] (fun t=>zaQ t.1 t.2) .e (.j [(9000, .po 16),(2, .po 33),(4, .po 18)] [(0,9000)] (fun t=>zaP t.1 t.2.1 t.2.2) .e (.n 1 (.j [(9000, .po 16),(6, .int)] [(0,9000)] (fun t=>zac t.1 t.2) .e .e))))
-- (*doorstep/gateway.Gateway).response
theorem zmm:za 44 zna:=cqG (((((((((((CLs.nil.add zjw).add zgz).add zdv).add zbs).add zbE).add zhZ).add zk7).add zh3).add zm5).add zfl).add zjz) 73 Tryz.func44 (.n 1 (.q (.j [(9000, .po 16),(1, .str),(19, .bool)] [(0,9000)] (fun t=>zaB t.1 t.2.1 t.2.2) .e (.q (.j [(9000, .po 16),(5, .int),(6, .bool),(7, .int)] [(0,9000)] (fun t=>zay t.1 t.2.1 t.2.2.1 t.2.2.2) .e .e) .e)) (.j [(9000, .po 16),(8, .int),(9, .str),(10, .bool),(11, .int)] [(0,9000)] (fun t=>zaA t.1 t.2.1 t.2.2.1 t.2.2.2.1 t.2.2.2.2) .e (.j [(9000, .po 16),(8, .int),(10, .bool),(11, .int),(12, .str)] [(0,9000)] (fun t=>zaz t.1 t.2.1 t.2.2.1 t.2.2.2.1 t.2.2.2.2) .e .e))))
-- (*doorstep/gateway.Gateway).Upstream
theorem zgX:za 21 znb:=cqG ((((CLs.nil.add zkQ).add zci).add zmm).add zmw) 57 Tryz.func21 (.n 3 (.q (.w [(9000, .po 16),(1, .str),(6, .int)] [(0,9000)] (fun m t=>zh t.2.1 m t.1 t.2.2) fun n0 => .q (.j [(9000, .po 16),(1, .str),(6, .int),(46, .bool)] [(0,9000)] (fun t=>zq (zh t.2.1 n0) t.1 t.2.1 t.2.2.1 t.2.2.2) .e .e) .e) .e))
-- (*doorstep/gateway.Gateway).ClientEnd
theorem zga:za 20 zms:=cqG (CLs.nil.add zci) 29 Tryz.func20 .e
-- (*doorstep/body.Body).End
theorem zrl:za 45 zAW:=cqG CLs.nil 23 Tryz.func45 .e
-- (*doorstep/body.Body).End
theorem zoB:za 45 zxx:=cqG CLs.nil 23 Tryz.func45 (.n 1 (.j [(9000, .po 21)] [] (fun t=>zgv t) .e .e))
-- (*doorstep/gateway.Gateway).UpstreamEnd
theorem zfo:za 22 zlg:=cqG (((((CLs.nil.add zoB).add zbs).add zci).add zdv).add zrl) 42 Tryz.func22 (.n 3 (.q (.n 1 (.q (.j [(9000, .po 16),(3, .bool)] [(0,9000)] (fun t=>zH t.1 t.2) .e .e) .e)) .e))
-- (*doorstep/wire.Wire).Do
theorem zzZ:COk Tryz.prog G 10 zCB:=zp5 zyR hNm tyk ((((((CLs.nil.add zfo).add zga).add zgX).add znA).add zh4).add znG) (.nd 27 (.lf 26 (fnS Tryz.func26)) (.nd 28 (.lf 27 (fnS Tryz.func27)) (.lf 28 (fnS Tryz.func28)))) 50 60 Tryz.func10 (by kernel_rfl) (hn := .n 3 (.q (.n 2 (.q .e (.n 1 (.q .e (.n 1 (.q (.j [(9000, .po 28),(4, .int),(5, .int)] [] (fun t=>zgU t.1 t.2.1 t.2.2) .e .e) .e)))))) .e)) (by unfold zsh opJ zxI; kernel_rfl)
-- doorstep/doorstepref02.Begins
theorem zz0:za 11 zCC:=cqG CLs.nil 18 Tryz.func11 .e
-- doorstep/doorstepref45.Check
theorem zBp:za 12 zFq:=cqG CLs.nil 36 Tryz.func12 .e
-- (*doorstep/wire.Wire).Finish
theorem zuL:COk Tryz.prog G 14 zwz:=zp5 zyR hNm tyk ((((((CLs.nil.add zga).add zfo).add zgX).add znA).add zh4).add zi0) (.nd 28 (.nd 27 (.lf 26 (fnS Tryz.func26)) (.lf 27 (fnS Tryz.func27))) (.nd 29 (.lf 28 (fnS Tryz.func28)) (.lf 29 (fnS Tryz.func29)))) 45 60 Tryz.func14 (by kernel_rfl) (hn := .n 3 (.q (.n 1 (.w [(9000, .po 28),(3, .int),(4, .int)] [(0,9000)] (fun m t=>zJ m t.1 t.2.1 t.2.2) fun n0 => .n 2 (.q .e (.q .e (.q .e .e))))) .e)) (by unfold zsh opJ zxI; kernel_rfl)
end
end Go.Proofs
end
section
set_option linter.unusedVariables false
set_option maxRecDepth 100000
namespace Go.Proofs
open Go.Dk Go.Dm Go.RowKit Go.Rk
noncomputable section
noncomputable def Cz:Bt (CLs Tryz.prog G) := .nd 100 (.nd 58 (.nd 36 (.nd 33 (.lf 13 (CLs.nil.add znG)) (.nd 34 (.lf 33 (CLs.nil.add zuf)) (.lf 34 (CLs.nil.add zlO)))) (.nd 38 (.nd 37 (.lf 36 (CLs.nil.add zoS)) (.lf 37 (CLs.nil.add zpz))) (.nd 45 (.lf 38 (CLs.nil.add zla)) (.lf 45 ((CLs.nil.add zoB).add zrl))))) (.nd 71 (.nd 64 (.nd 61 (.lf 58 (CLs.nil.add zxN)) (.lf 61 ((CLs.nil.add zh3).add zjz))) (.nd 65 (.lf 64 ((CLs.nil.add zjw).add zk7)) (.lf 65 ((CLs.nil.add zgz).add zhZ)))) (.nd 96 (.nd 72 (.lf 71 ((CLs.nil.add zgy).add zh1)) (.lf 72 ((CLs.nil.add zgx).add zh0))) (.nd 99 (.lf 96 ((CLs.nil.add zkU).add zmA)) (.lf 99 (CLs.nil.add zvZ)))))) (.nd 153 (.nd 104 (.nd 102 (.lf 100 ((CLs.nil.add ze5).add zgC)) (.nd 103 (.lf 102 (CLs.nil.add zuJ)) (.lf 103 (CLs.nil.add zoK)))) (.nd 151 (.nd 110 (.lf 104 ((CLs.nil.add zjv).add zk8)) (.lf 110 (CLs.nil.add zvL))) (.nd 152 (.lf 151 (CLs.nil.add zlf)) (.lf 152 (CLs.nil.add zkF))))) (.nd 166 (.nd 164 (.nd 158 (.lf 153 (CLs.nil.add zkw)) (.lf 158 (CLs.nil.add zsm))) (.nd 165 (.lf 164 (CLs.nil.add zky)) (.lf 165 (CLs.nil.add zt9)))) (.nd 187 (.nd 186 (.lf 166 (CLs.nil.add zrk)) (.lf 186 ((CLs.nil.add zmd).add zny))) (.nd 188 (.lf 187 ((CLs.nil.add znz).add zpw)) (.lf 188 ((CLs.nil.add zjM).add zkR))))))
noncomputable def Bz:Bt (FnS Tryz.prog) := .nd 59 (.nd 27 (.nd 18 (.nd 10 (.nd 6 (.lf 4 (fnS Tryz.func4)) (.nd 8 (.lf 6 (fnS Tryz.func6)) (.lf 8 (fnS Tryz.func8)))) (.nd 14 (.lf 10 (fnS Tryz.func10)) (.nd 15 (.lf 14 (fnS Tryz.func14)) (.lf 15 (fnS Tryz.func15))))) (.nd 21 (.nd 19 (.lf 18 (fnS Tryz.func18)) (.nd 20 (.lf 19 (fnS Tryz.func19)) (.lf 20 (fnS Tryz.func20)))) (.nd 25 (.nd 22 (.lf 21 (fnS Tryz.func21)) (.lf 22 (fnS Tryz.func22))) (.nd 26 (.lf 25 (fnS Tryz.func25)) (.lf 26 (fnS Tryz.func26)))))) (.nd 41 (.nd 35 (.nd 28 (.lf 27 (fnS Tryz.func27)) (.nd 29 (.lf 28 (fnS Tryz.func28)) (.lf 29 (fnS Tryz.func29)))) (.nd 39 (.lf 35 (fnS Tryz.func35)) (.nd 40 (.lf 39 (fnS Tryz.func39)) (.lf 40 (fnS Tryz.func40))))) (.nd 44 (.nd 42 (.lf 41 (fnS Tryz.func41)) (.nd 43 (.lf 42 (fnS Tryz.func42)) (.lf 43 (fnS Tryz.func43)))) (.nd 47 (.nd 46 (.lf 44 (fnS Tryz.func44)) (.lf 46 (fnS Tryz.func46))) (.nd 50 (.lf 47 (fnS Tryz.func47)) (.lf 50 (fnS Tryz.func50))))))) (.nd 97 (.nd 68 (.nd 63 (.nd 60 (.lf 59 (fnS Tryz.func59)) (.nd 62 (.lf 60 (fnS Tryz.func60)) (.lf 62 (fnS Tryz.func62)))) (.nd 66 (.lf 63 (fnS Tryz.func63)) (.nd 67 (.lf 66 (fnS Tryz.func66)) (.lf 67 (fnS Tryz.func67))))) (.nd 73 (.nd 69 (.lf 68 (fnS Tryz.func68)) (.nd 70 (.lf 69 (fnS Tryz.func69)) (.lf 70 (fnS Tryz.func70)))) (.nd 80 (.nd 79 (.lf 73 (fnS Tryz.func73)) (.lf 79 (fnS Tryz.func79))) (.nd 81 (.lf 80 (fnS Tryz.func80)) (.lf 81 (fnS Tryz.func81)))))) (.nd 116 (.nd 109 (.nd 101 (.lf 97 (fnS Tryz.func97)) (.nd 108 (.lf 101 (fnS Tryz.func101)) (.lf 108 (fnS Tryz.func108)))) (.nd 112 (.nd 111 (.lf 109 (fnS Tryz.func109)) (.lf 111 (fnS Tryz.func111))) (.nd 113 (.lf 112 (fnS Tryz.func112)) (.lf 113 (fnS Tryz.func113))))) (.nd 160 (.nd 129 (.lf 116 (fnS Tryz.func116)) (.nd 159 (.lf 129 (fnS Tryz.func129)) (.lf 159 (fnS Tryz.func159)))) (.nd 246 (.nd 163 (.lf 160 (fnS Tryz.func160)) (.lf 163 (fnS Tryz.func163))) (.nd 247 (.lf 246 (fnS Tryz.func246)) (.lf 247 (fnS Tryz.func247)))))))
noncomputable def Xz:Cx tau:=⟨Tryz.prog,G,tyl,[],0,fun _ => .bool false⟩
end
end Go.Proofs
end
section
set_option linter.unusedVariables false
set_option maxRecDepth 100000
namespace Go.Proofs
open Go.Dk Go.Dm Go.RowKit Go.Rk
noncomputable section
theorem zKR:zrun Xz ⟨(ctOf Cz),Bz⟩ 100000000 4 []=some true:=by kernel_rfl
theorem zKS:COk Tryz.prog G 4 zNR:=zOg (X:=Xz) zyR hNm (tyk [] 0) fpok rfl zOf ⟨_,Tryz.func4,by kernel_rfl,by kernel_rfl⟩ zKR
-- doorstep/doorsteplaw46.WireSteps
theorem zvN:za 3 zxy:=cqG (((((((((((CLs.nil.add zuL).add znG).add zBp).add zz0).add zzZ).add zw8).add zuP).add zBX).add zIA).add zGu).add zKS) 215 Tryz.func3 (.n 3 (.j [(1, .po 0),(3, .pn 28),(4, .int)] [] (fun t=>zbP t.1 t.2.1 t.2.2) .e (.n 1 (.q (.n 1 (.w [(1, .po 0),(3, .pn 28),(5, .int)] [] (fun m t=>zp m t.1 t.2.1 t.2.2) fun n0 => .n 1 (.q (.n 6 (.q (.j [(1, .po 0),(3, .pn 28),(5, .int),(6, .po 4),(7, .po 30),(11, .int),(12, .po 30),(13, .int),(14, .int),(114, .bool)] [] (fun t=>zI (zp n0) t.1 t.2.1 t.2.2.1 t.2.2.2.1 t.2.2.2.2.1 t.2.2.2.2.2.1 t.2.2.2.2.2.2.1 t.2.2.2.2.2.2.2.1 t.2.2.2.2.2.2.2.2.1 t.2.2.2.2.2.2.2.2.2) .e .e) (.q (.j [(1, .po 0),(3, .pn 28),(5, .int),(6, .po 4),(11, .int),(13, .int),(14, .int),(155, .bool)] [] (fun t=>zx (zp n0) t.1 t.2.1 t.2.2.1 t.2.2.2.1 t.2.2.2.2.1 t.2.2.2.2.2.1 t.2.2.2.2.2.2.1 t.2.2.2.2.2.2.2) .e .e) (.j [(1, .po 0),(3, .pn 28),(5, .int),(188, .bool)] [] (fun t=>zg (zp n0) t.1 t.2.1 t.2.2.1 t.2.2.2) .e .e)))) .e))) .e))))
end
end Go.Proofs
end
