/-
 Contracts of a program's functions: the facts that show them, written by a program (wip/gen).
 What whole runs are made with.
 The law by contracts.
-/
import Derived.Test.YtlgjcjonmfcacaaGreatDoorYF0
import Derived.Test.YtlgjcjonmfcacaaGreatDoorYTr
set_option linter.unusedVariables false
set_option linter.unusedSimpArgs false
set_option linter.unusedVariables false
set_option linter.unusedSimpArgs false
section
set_option linter.unusedVariables false
set_option maxRecDepth 100000
namespace Go.Proofs
open Go.Dk Go.Dm Go.RowKit Go.Rk
noncomputable section
-- (*doorstep/quill.Quill).Line
theorem zr2:za 333 ztM:=cqG (CLs.nil.add zt3) 12 Tryz.func333 .e
-- (*doorstep/head.printer).line
theorem zrr:za 247 zsu:=cqG (CLs.nil.add zr2) 21 Tryz.func247 .e
-- doorstep/fieldline.Text
theorem zpd:za 248 zyn:=cqG (CLs.nil.add zkF) 22 Tryz.func248 .e
-- (*doorstep/quill.Quill).Text
theorem zut:za 249 zvU:=cqG CLs.nil 10 Tryz.func249 .e
-- doorstep/head.Print
theorem zjT:za 162 zGA:=cqG ((((((CLs.nil.add zut).add zpd).add zrr).add zp1).add zHq).add zwG) 58 Tryz.func162 (.n 5 (.q (.n 1 (.w [(7, .po 53),(32, .sl (.st 20)),(33, .int),(34, .int)] [] (fun m t=>ziU t.2.1 t.2.2.1 m t.1 t.2.2.2) fun n0 => .e)) .e))
-- (*doorstep/gateway.Gateway).onward
theorem zoI:za 109 zpu:=cqG (((CLs.nil.add zjT).add zkG).add zlh) 55 Tryz.func109 .e
-- doorstep/dechunk.New
theorem zA9:za 163 zEw:=cqG CLs.nil 13 Tryz.func163 .e
-- doorstep/body.New
theorem zuu:za 110 zKG:=cqG (CLs.nil.add zA9) 65 Tryz.func110 (.n 1 (.j [(2, .po 34),(6, .pn 22),(7, .int)] [] (fun t=>zoz t.1 t.2.1 t.2.2) .e (.n 2 (.j [(2, .po 34),(8, .po 21)] [] (fun t=>zoy t.1 t.2) .e (.j [(8, .po 21)] [] (fun t=>zmf t) .e .e)))))
-- (*doorstep/accum.Accum).Head
theorem zeL:za 108 ztN:=cqG CLs.nil 25 Tryz.func108 .e
-- (*doorstep/body.Body).Feed
theorem zkX:za 71 zyo:=cqG CLs.nil 87 Tryz.func71 .e
-- (*doorstep/reframe.Writer).ready
theorem zjU:za 114 zrF:=cqG CLs.nil 11 Tryz.func114 .e
-- (*doorstep/reframe.Writer).Put
theorem zhl:za 72 ztO:=cqG (CLs.nil.add zjU) 47 Tryz.func72 .e
-- (*doorstep/body.Body).Trailers
theorem zhm:za 79 ztP:=cqG CLs.nil 10 Tryz.func79 .e
-- (*doorstep/reframe.Writer).End
theorem zhn:za 78 ztQ:=cqG (CLs.nil.add zjU) 43 Tryz.func78 .e
-- doorstep/commas.Has
theorem zDd:za 256 zGB:=cqG ((CLs.nil.add zdT).add zmw) 34 Tryz.func256 (.n 1 (.q (.n 1 (.w [(0, .str),(11, .sl .str),(12, .int),(13, .int)] [] (fun m t=>zg4 t.1 t.2.1 t.2.2.1 m t.2.2.2) fun n0 => .n 2 (.q (.n 3 (.w [(0, .str),(11, .sl .str),(12, .int),(13, .int),(23, .so 9 .str),(24, .int),(25, .int)] [] (fun m t=>ziV (zg4 t.1 t.2.1 t.2.2.1 n0) t.1 t.2.2.2.1 t.2.2.2.2.1 t.2.2.2.2.2.1 m t.2.2.2.2.2.2) fun n1 => .e)) .e))) .e))
-- doorstep/hop.Close
theorem zr3:za 167 zIC:=cqG (((CLs.nil.add zDd).add zf0).add zeK) 16 Tryz.func167 .e
-- doorstep/pairing.Of
theorem zDe:za 116 zGC:=cqG (CLs.nil.add zr3) 10 Tryz.func116 .e
-- (*doorstep/pairing.Queue).Push
theorem zr4:za 117 ztR:=cqG CLs.nil 44 Tryz.func117 .e
-- doorstep/pairing.early$1
theorem zvl:za 258 zxb:=cqG CLs.nil 5 Tryz.func258 .e
-- slices.IndexFunc[[]doorstep/pairing.Ticket,doorstep/pairing.Ticket]
theorem zd7:za 257 zeB:=cqG (CLs.nil.add zvl) 19 Tryz.func257 (.n 1 (.q (.n 1 (.w [(0, .sl (.st 18)),(1, .fc 258),(7, .int),(8, .int)] [] (fun m t=>zn t.1 t.2.2.1 m t.2.2.2) fun n0 => .e)) .e))
-- doorstep/pairing.early
theorem zx5:za 168 zz8:=cqG (CLs.nil.add zd7) 15 Tryz.func168 .e
-- (*doorstep/dechunk.Decoder).Trailers
theorem znk:za 123 znU:=cqG CLs.nil 11 Tryz.func123 .e
-- (*doorstep/dechunk.Decoder).Trailers
theorem zmo:za 123 zmQ:=cqG CLs.nil 11 Tryz.func123 .e
-- (*doorstep/body.Body).Trailers
theorem zf7:za 79 zrG:=cqG ((CLs.nil.add zmo).add znk) 10 Tryz.func79 .e
-- (*doorstep/reframe.Writer).ready
theorem ziG:za 114 zpv:=cqG CLs.nil 11 Tryz.func114 .e
-- (*doorstep/enchunk.Encoder).ready
theorem zjA:za 165 zqv:=cqG CLs.nil 11 Tryz.func165 .e
-- doorstep/chunkline.Last
theorem zh1:za 176 zyp:=cqG ((CLs.nil.add zbH).add zpd) 36 Tryz.func176 (.n 2 (.q (.n 1 (.w [(0, .sl (.st 20)),(4, .so 9 .str),(10, .sl (.st 20)),(11, .int),(12, .int)] [] (fun m t=>zeT t.1 t.2.2.1 t.2.2.2.1 m t.2.1 t.2.2.2.2) fun n0 => .e)) .e))
-- (*doorstep/enchunk.Encoder).End
theorem zkM:za 122 zsv:=cqG ((CLs.nil.add zh1).add zjA) 37 Tryz.func122 .e
-- (*doorstep/enchunk.Encoder).ready
theorem ziy:za 165 zoQ:=cqG CLs.nil 11 Tryz.func165 .e
-- doorstep/numeral.HexText
theorem zvm:za 336 zxc:=cqG (CLs.nil.add zsX) 5 Tryz.func336 .e
-- doorstep/chunkline.Text
theorem zwL:za 253 zyq:=cqG (CLs.nil.add zvm) 5 Tryz.func253 .e
-- doorstep/chunkline.Piece
theorem zg8:za 166 zxd:=cqG ((CLs.nil.add zbH).add zwL) 11 Tryz.func166 .e
-- (*doorstep/enchunk.Encoder).Put
theorem zkN:za 115 zsw:=cqG (CLs.nil.add zjA) 58 Tryz.func115 .e
-- (*doorstep/dechunk.Decoder).Feed
theorem zp6:za 113 zrH:=cqG CLs.nil 63 Tryz.func113 .e
-- (*doorstep/pairing.Queue).Len
theorem zmy:za 44 zuQ:=cqG CLs.nil 11 Tryz.func44 .e
-- doorstep/reply.Make
theorem zDf:COk Tryz.prog G 170 zGD:=ztb zAf hNm tyk CLs.nil (.lf 259 (fnS Tryz.func259)) 27 60 Tryz.func170 (by kernel_rfl) (hn := .e) (by unfold ztX opJ zxI; kernel_rfl)
-- doorstep/length.bodiless
theorem zvn:za 262 zxe:=cqG CLs.nil 27 Tryz.func262 .e
-- doorstep/length.Response
theorem zjV:za 173 zxf:=cqG ((CLs.nil.add zxR).add zvn) 15 Tryz.func173 .e
-- doorstep/message.frame
theorem zrg:za 198 zz9:=cqG ((CLs.nil.add zjV).add zlh) 18 Tryz.func198 .e
-- doorstep/message.fits
theorem zzk:za 340 zBD:=cqG CLs.nil 38 Tryz.func340 .e
-- doorstep/message.Check
theorem zx6:za 260 zAa:=cqG ((((CLs.nil.add zh1).add zzk).add zrg).add zwG) 42 Tryz.func260 .e
-- (*doorstep/enchunk.Encoder).ready
theorem ziz:za 165 zoR:=cqG CLs.nil 11 Tryz.func165 .e
-- (*doorstep/enchunk.Encoder).Put
theorem zpe:za 115 zqw:=cqG (((CLs.nil.add zbH).add zg8).add ziz) 58 Tryz.func115 (.n 4 (.q (.w [(9000, .po 24),(7, .so 9 .str)] [(0,9000)] (fun m t=>zff m t.1 t.2) fun n0 => .e) .e))
-- (*doorstep/enchunk.Encoder).End
theorem zpf:za 122 zqx:=cqG (((CLs.nil.add zg8).add zh1).add ziz) 37 Tryz.func122 .e
-- doorstep/enchunk.All
theorem zBa:za 261 zEx:=cqG (((((CLs.nil.add zpf).add zpe).add zkM).add zkN).add zlQ) 39 Tryz.func261 (.n 1 (.j [(1, .str),(2, .sl (.st 20)),(8, .pn 24),(9, .int)] [] (fun t=>znI t.1 t.2.1 t.2.2.1 t.2.2.2) .e .e))
-- doorstep/message.Print
theorem zx7:za 171 zAb:=cqG (((CLs.nil.add zBa).add zjT).add zx6) 51 Tryz.func171 (.n 5 (.j [(11, .str),(12, .int),(13, .str)] [] (fun t=>zk7 t.1 t.2.1 t.2.2) .e .e))
-- doorstep/reply.Text
theorem zvo:za 118 zGE:=cqG ((CLs.nil.add zx7).add zDf) 20 Tryz.func118 .e
-- (*doorstep/pairing.Queue).Len
theorem zkO:za 44 zsx:=cqG CLs.nil 11 Tryz.func44 .e
-- (*doorstep/gateway.Gateway).refuse
theorem zho:za 69 znV:=cqG (CLs.nil.add zwA) 16 Tryz.func69 .e
-- (*doorstep/gateway.Gateway).forward
theorem zdB:za 73 znr:=cqG CLs.nil 22 Tryz.func73 (.n 1 (.w [(9000, .po 16),(6, .sl .str),(7, .int),(8, .int)] [(0,9000)] (fun m t=>zaA t.2.1 t.2.2.1 m t.1 t.2.2.2) fun n0 => .e))
-- doorstep/reframe.New
theorem zoJ:za 111 zEy:=cqG (CLs.nil.add zlQ) 50 Tryz.func111 (.n 1 (.j [(2, .po 34),(6, .pn 24),(7, .int)] [] (fun t=>zkx t.1 t.2.1 t.2.2) .e .e))
-- (*doorstep/body.Body).Done
theorem zkY:za 112 zyr:=cqG CLs.nil 11 Tryz.func112 .e
-- (*doorstep/pairing.Queue).Push
theorem zp7:COk Tryz.prog G 117 zrI:=ztb zAf hNm tyk (CLs.nil.add zx5) (.nd 169 (.lf 105 (fnS Tryz.func105)) (.lf 169 (fnS Tryz.func169))) 44 60 Tryz.func117 (by kernel_rfl) (hn := .n 3 (.j [(9000, .po 17)] [] (fun t=>zdh t) .e .e)) (by unfold ztX opJ zxI; kernel_rfl)
-- (*doorstep/enchunk.Encoder).End
theorem zpg:za 122 zqy:=cqG (((CLs.nil.add zg8).add zh1).add ziy) 37 Tryz.func122 .e
-- (*doorstep/reframe.Writer).End
theorem zf8:za 78 zrJ:=cqG (((CLs.nil.add zpg).add zkM).add ziG) 43 Tryz.func78 (.n 3 (.j [(9000, .po 23),(6, .int),(7, .str)] [(0,9000)] (fun t=>zaW t.1 t.2.1 t.2.2) .e .e))
-- (*doorstep/gateway.Gateway).whole
theorem ziA:za 74 zoS:=cqG (((((((((((CLs.nil.add zf8).add zf7).add zeL).add zp7).add zji).add zr4).add zDe).add zgA).add zdB).add zhn).add zhm) 58 Tryz.func74 (.j [(9000, .po 16),(2, .str)] [(0,9000)] (fun t=>zQ t.1 t.2) .e (.n 1 (.j [(9000, .po 16),(4, .po 33)] [(0,9000)] (fun t=>za1 t.1 t.2) .e (.n 1 (.j [(9000, .po 16),(6, .po 18)] [(0,9000)] (fun t=>za0 t.1 t.2) .e .e)))))
-- (*doorstep/body.Body).Done
theorem zjk:za 112 zvV:=cqG CLs.nil 11 Tryz.func112 .e
-- (*doorstep/gateway.Gateway).asked
theorem znQ:za 70 zoT:=cqG ((((((((((CLs.nil.add zeL).add zjk).add ziA).add zkY).add zoJ).add zuu).add zdB).add zho).add zoI).add zgA) 68 Tryz.func70 (.j [(9000, .po 16),(2, .po 33)] [(0,9000)] (fun t=>za5 t.1 t.2) .e (.n 3 (.j [(9000, .po 16),(5, .po 34)] [(0,9000)] (fun t=>za4 t.1 t.2) .e (.j [(9000, .po 16)] [(0,9000)] (fun t=>za3 t) .e (.j [(9000, .po 16),(65, .bool)] [(0,9000)] (fun t=>za2 t.1 t.2) .e .e)))))
-- (*doorstep/accum.Accum).bare
theorem zuv:za 158 zvW:=cqG CLs.nil 34 Tryz.func158 (.n 2 (.j [(0, .pt 19),(3, .int),(4, .bool)] [] (fun t=>zfs t.1 t.2.1 t.2.2) .e .e))
-- (*doorstep/scan.Scanner).Blanks
theorem zph:za 314 zqz:=cqG (CLs.nil.add zL) 5 Tryz.func314 .e
-- doorstep/fieldline.Parse
theorem zjW:za 236 zxg:=cqG ((((((((CLs.nil.add zfX).add zbr).add zdA).add zp).add zaz).add zph).add zgz).add zeA) 49 Tryz.func236 .e
-- doorstep/head.Parse
theorem zDg:za 237 zGF:=cqG (((((CLs.nil.add zwF).add zjW).add zmt).add zyy).add zkI) 93 Tryz.func237 (.n 7 (.q (.n 1 (.w [(6, .po 33),(12, .po 33),(64, .sl .str),(65, .int),(66, .int)] [] (fun m t=>ziW t.2.2.1 t.2.2.2.1 m t.2.1 t.2.2.2.2) fun n0 => .e)) .e))
-- (*doorstep/accum.Accum).line
theorem zr5:za 159 ztS:=cqG (((CLs.nil.add zDg).add zjW).add zkI) 62 Tryz.func159 (.n 2 (.j [(9000, .po 19),(6, .int)] [(0,9000)] (fun t=>zew t.1 t.2) .e .e))
-- (*doorstep/accum.Accum).take
theorem zr6:za 106 ztT:=cqG ((CLs.nil.add zr5).add zuv) 50 Tryz.func106 .e
-- (*doorstep/accum.Accum).Feed
theorem zhp:za 68 ztU:=cqG (CLs.nil.add zr6) 72 Tryz.func68 (.n 2 (.q (.n 1 (.w [(9000, .po 19),(1, .str),(24, .int),(25, .int)] [(0,9000)] (fun m t=>zaN t.2.1 t.2.2.1 m t.1 t.2.2.2) fun n0 => .n 2 (.q (.n 3 (.j [(9000, .po 19),(1, .str),(7, .int),(24, .int),(25, .int),(55, .bool)] [(0,9000)] (fun t=>zex (zaN t.2.1 t.2.2.2.1 n0) t.1 t.2.2.1 t.2.2.2.2.1 t.2.2.2.2.2) .e .e)) .e))) .e))
-- (*doorstep/enchunk.Encoder).Put
theorem zpi:za 115 zqA:=cqG (((CLs.nil.add zbH).add zg8).add ziy) 58 Tryz.func115 (.n 4 (.q (.w [(9000, .po 24),(7, .so 9 .str)] [(0,9000)] (fun m t=>zbz m t.1 t.2) fun n0 => .e) .e))
-- (*doorstep/reframe.Writer).Put
theorem zf9:za 72 zrK:=cqG (((CLs.nil.add zpi).add zkN).add ziG) 47 Tryz.func72 (.n 2 (.j [(9000, .po 23),(1, .str)] [] (fun t=>zdk t.1 t.2) (.n 2 (.q (.j [(9000, .po 23),(4, .str),(5, .int)] [] (fun t=>zdj t.1 t.2.1 t.2.2) .e .e) (.j [(9000, .po 23),(1, .str),(27, .bool)] [(0,9000)] (fun t=>zdl t.1 t.2.1 t.2.2) .e .e))) .e))
-- (*doorstep/dechunk.Decoder).data
theorem zoK:za 250 zpw:=cqG CLs.nil 35 Tryz.func250 (.n 3 (.j [(9000, .po 22),(1, .str),(5, .int)] [] (fun t=>zcv t.1 t.2.1 t.2.2) .e .e))
-- (*doorstep/dechunk.Decoder).ended
theorem znR:za 251 zoU:=cqG CLs.nil 29 Tryz.func251 (.n 2 (.j [(9000, .po 22),(1, .u8),(5, .u8)] [(0,9000)] (fun t=>zcb t.1 t.2.1 t.2.2) .e (.n 2 (.j [(9000, .po 22)] [] (fun t=>zca t) .e .e))))
-- doorstep/numeral.Hex
theorem zBb:za 424 zEz:=cqG (CLs.nil.add zsW) 11 Tryz.func424 .e
-- doorstep/quoted.Word
theorem zx8:za 456 zAc:=cqG ((CLs.nil.add zrp).add zaz) 17 Tryz.func456 .e
-- (doorstep/chunkline.reader).one
theorem zp8:za 425 zrL:=cqG (((CLs.nil.add zx8).add zp).add zaz) 35 Tryz.func425 .e
-- doorstep/chunkline.Parse
theorem zvp:za 382 zxh:=cqG ((((((CLs.nil.add zbb).add zp8).add zp).add zBb).add zL).add zgz) 52 Tryz.func382 (.n 5 (.q (.w [(5, .po 56),(7, .int),(8, .int),(9, .so 484 (.st 43))] [] (fun m t=>zeo t.2.1 t.2.2.1 m t.1 t.2.2.2) fun n0 => .e) .e))
-- (*doorstep/dechunk.Decoder).size
theorem zoL:za 334 zpx:=cqG (CLs.nil.add zvp) 47 Tryz.func334 .e
-- (*doorstep/dechunk.Decoder).trailer
theorem zmL:za 335 zns:=cqG (CLs.nil.add zjW) 36 Tryz.func335 .e
-- (*doorstep/dechunk.Decoder).lined
theorem znS:za 252 zoV:=cqG ((CLs.nil.add zmL).add zoL) 95 Tryz.func252 (.n 1 (.j [(9000, .po 22),(1, .u8)] [(0,9000)] (fun t=>zce t.1 t.2) .e (.n 1 (.j [(9000, .po 22),(1, .u8),(6, .int),(7, .bool)] [(0,9000)] (fun t=>zcd t.1 t.2.1 t.2.2.1 t.2.2.2) .e (.q (.j [(9000, .po 22),(1, .u8),(6, .int),(7, .bool),(39, .bool)] [(0,9000)] (fun t=>zcc t.1 t.2.1 t.2.2.1 t.2.2.2.1 t.2.2.2.2) .e .e) .e)))))
-- (*doorstep/dechunk.Decoder).step
theorem zoM:za 164 zpy:=cqG (((CLs.nil.add znS).add znR).add zoK) 35 Tryz.func164 .e
-- (*doorstep/dechunk.Decoder).Feed
theorem zoN:za 113 zpz:=cqG (CLs.nil.add zoM) 63 Tryz.func113 (.n 3 (.q (.w [(9000, .po 22),(1, .str),(4, .int),(6, .bool),(7, .int),(8, .so 5 .u8)] [(0,9000)] (fun m t=>zI t.2.1 m t.1 t.2.2.1 t.2.2.2.1 t.2.2.2.2.1 t.2.2.2.2.2) fun n0 => .q (.j [(9000, .po 22),(1, .str),(4, .int),(6, .bool),(7, .int),(8, .so 5 .u8),(30, .bool)] [(0,9000)] (fun t=>zbh (zI t.2.1 n0) t.1 t.2.1 t.2.2.1 t.2.2.2.1 t.2.2.2.2.1 t.2.2.2.2.2.1 t.2.2.2.2.2.2) .e .e) .e) (.j [(9000, .po 22),(4, .int),(6, .bool),(7, .int),(8, .so 5 .u8)] [] (fun t=>zcx t.1 t.2.1 t.2.2.1 t.2.2.2.1 t.2.2.2.2) (.j [(9000, .po 22),(4, .int),(6, .bool),(7, .int),(8, .so 5 .u8),(51, .bool)] [(0,9000)] (fun t=>zcy t.1 t.2.1 t.2.2.1 t.2.2.2.1 t.2.2.2.2.1 t.2.2.2.2.2) .e .e) .e)))
-- (*doorstep/body.Body).Feed
theorem zjl:za 71 zvX:=cqG ((CLs.nil.add zoN).add zp6) 87 Tryz.func71 (.n 3 (.j [(9000, .po 21),(1, .str),(4, .int)] [(0,9000)] (fun t=>zfu t.1 t.2.1 t.2.2) (.n 2 (.q (.j [(9000, .po 21),(4, .int),(5, .str),(6, .bool),(7, .int)] [(0,9000)] (fun t=>zft t.1 t.2.1 t.2.2.1 t.2.2.2.1 t.2.2.2.2) .e .e) .e)) .e))
-- (*doorstep/gateway.Gateway).request
theorem zmM:za 42 znt:=cqG ((((((((((CLs.nil.add zjl).add zf9).add ziA).add zdB).add zhl).add zkX).add zhp).add znQ).add zho).add zju) 75 Tryz.func42 (.n 1 (.q (.j [(9000, .po 16),(1, .str),(19, .bool)] [(0,9000)] (fun t=>zaE t.1 t.2.1 t.2.2) .e (.q (.j [(9000, .po 16),(5, .int),(6, .bool),(7, .int)] [(0,9000)] (fun t=>zaB t.1 t.2.1 t.2.2.1 t.2.2.2) .e .e) .e)) (.j [(9000, .po 16),(8, .int),(9, .str),(10, .bool),(11, .int)] [(0,9000)] (fun t=>zaD t.1 t.2.1 t.2.2.1 t.2.2.2.1 t.2.2.2.2) .e (.j [(9000, .po 16),(8, .int),(10, .bool),(11, .int),(12, .str)] [(0,9000)] (fun t=>zaC t.1 t.2.1 t.2.2.1 t.2.2.2.1 t.2.2.2.2) .e .e))))
-- (*doorstep/gateway.Gateway).send
theorem zbt:za 77 zpA:=cqG CLs.nil 22 Tryz.func77 (.n 1 (.w [(9000, .po 16),(6, .sl .str),(7, .int),(8, .int)] [(0,9000)] (fun m t=>zbi t.2.1 t.2.2.1 m t.1 t.2.2.2) fun n0 => .e))
-- (*doorstep/gateway.Gateway).close
theorem zbf:za 48 zoW:=cqG CLs.nil 13 Tryz.func48 .e
-- (*doorstep/gateway.Gateway).tell
theorem ze3:za 75 zpB:=cqG (((CLs.nil.add zbf).add zbt).add zvo) 11 Tryz.func75 .e
-- (*doorstep/gateway.Gateway).settle
theorem zb3:za 43 znW:=cqG ((((CLs.nil.add zkO).add zbf).add ze3).add zmy) 53 Tryz.func43 (.j [(9000, .po 16),(2, .int)] [(0,9000)] (fun t=>zaT t.1 t.2) .e (.n 1 (.q .e (.j [(9000, .po 16),(2, .int),(13, .bool)] [(0,9000)] (fun t=>zaa t.1 t.2.1 t.2.2) .e .e))))
-- (*doorstep/gateway.Gateway).Client
theorem zhq:za 16 znX:=cqG (((CLs.nil.add zb3).add zmM).add zpW) 39 Tryz.func16 (.n 3 (.q (.w [(9000, .po 16),(1, .str),(6, .int)] [(0,9000)] (fun m t=>zK t.2.1 m t.1 t.2.2) fun n0 => .q (.j [(9000, .po 16),(1, .str),(6, .int),(28, .bool)] [(0,9000)] (fun t=>zbW (zK t.2.1 n0) t.1 t.2.1 t.2.2.1 t.2.2.2) .e .e) .e) .e))
-- (*doorstep/gateway.Gateway).ToClient
theorem zmp:za 86 zmR:=cqG CLs.nil 15 Tryz.func86 .e
-- (*doorstep/gateway.Gateway).ToUpstream
theorem zkZ:za 87 zlW:=cqG CLs.nil 15 Tryz.func87 .e
-- (*doorstep/accum.Accum).Kept
theorem znl:za 195 zvY:=cqG CLs.nil 10 Tryz.func195 .e
-- (*doorstep/body.Body).Kept
theorem zpj:za 196 zys:=cqG CLs.nil 10 Tryz.func196 .e
-- (*doorstep/reframe.Writer).Kept
theorem zkP:za 197 zsy:=cqG CLs.nil 10 Tryz.func197 .e
-- (*doorstep/enchunk.Encoder).Kept
theorem zp9:za 277 zrM:=cqG CLs.nil 10 Tryz.func277 .e
-- (*doorstep/enchunk.Encoder).Kept
theorem zoO:za 277 zpC:=cqG CLs.nil 10 Tryz.func277 .e
-- (*doorstep/reframe.Writer).Kept
theorem zjB:za 197 zqB:=cqG ((CLs.nil.add zoO).add zp9) 10 Tryz.func197 .e
-- (*doorstep/dechunk.Decoder).Kept
theorem zqa:za 276 zrN:=cqG CLs.nil 10 Tryz.func276 .e
-- (*doorstep/dechunk.Decoder).Kept
theorem zoP:za 276 zpD:=cqG CLs.nil 10 Tryz.func276 .e
-- (*doorstep/body.Body).Kept
theorem znm:za 196 zvZ:=cqG ((CLs.nil.add zoP).add zqa) 10 Tryz.func196 .e
-- (*doorstep/accum.Accum).Kept
theorem zlR:za 195 ztV:=cqG CLs.nil 10 Tryz.func195 .e
-- (*doorstep/gateway.side).kept
theorem ztE:za 137 zuR:=cqG ((((((CLs.nil.add zlR).add znm).add zjB).add zkP).add zpj).add znl) 20 Tryz.func137 .e
-- (*doorstep/gateway.Gateway).Use
theorem zrs:za 88 zsz:=cqG (CLs.nil.add ztE) 15 Tryz.func88 .e
-- (*doorstep/wire.Wire).take
theorem znn:za 52 zv0:=cqG (((CLs.nil.add zrs).add zkZ).add zmp) 58 Tryz.func52 .e
-- (*doorstep/pairing.Queue).Front
theorem zrt:za 119 zsA:=cqG CLs.nil 13 Tryz.func119 .e
-- doorstep/reframe.Out
theorem zt4:za 174 zEA:=cqG CLs.nil 20 Tryz.func174 .e
-- (*doorstep/pairing.row[doorstep/pairing.Ticket]).first
theorem ztF:za 172 zuS:=cqG CLs.nil 18 Tryz.func172 .e
-- (*doorstep/pairing.Queue).Front
theorem zpk:za 119 zqC:=cqG (CLs.nil.add ztF) 13 Tryz.func119 .e
-- (*doorstep/pairing.Queue).Pop
theorem ztG:za 80 zuT:=cqG CLs.nil 11 Tryz.func80 .e
-- (*doorstep/gateway.Gateway).interim
theorem zmN:za 120 znu:=cqG ((((CLs.nil.add zji).add zbt).add zjT).add zkG) 58 Tryz.func120 (.n 4 (.j [(9000, .po 16),(8, .int)] [(0,9000)] (fun t=>zaF t.1 t.2) (.j [(9000, .po 16),(8, .int),(9, .str),(43, .bool)] [(0,9000)] (fun t=>zaG t.1 t.2.1 t.2.2.1 t.2.2.2) .e .e) .e))
-- doorstep/rewrite.Close
theorem zrh:za 175 zAd:=cqG CLs.nil 30 Tryz.func175 (.n 2 (.j [(3, .po 33),(6, .po 33)] [] (fun t=>zfU t.1) .e .e))
-- (*doorstep/pairing.Queue).Pop
theorem zru:COk Tryz.prog G 80 zsB:=ztb zAf hNm tyk CLs.nil (.nd 172 (.lf 124 (fnS Tryz.func124)) (.lf 172 (fnS Tryz.func172))) 11 60 Tryz.func80 (by kernel_rfl) (hn := .e) (by unfold ztX opJ zxI; kernel_rfl)
-- (*doorstep/gateway.Gateway).answered
theorem zdq:za 47 zmS:=cqG (((((((((CLs.nil.add zf8).add zf7).add zru).add zbf).add zji).add ztG).add zbt).add zhn).add zhm) 59 Tryz.func47 (.j [(9000, .po 16),(2, .str)] [(0,9000)] (fun t=>zF t.1 t.2) .e (.n 1 (.j [(9000, .po 16)] [(0,9000)] (fun t=>zap t) .e (.n 1 (.j [(9000, .po 16)] [(0,9000)] (fun t=>zao t) .e .e)))))
-- (*doorstep/gateway.Gateway).final
theorem znT:za 121 zoX:=cqG ((((((((((((CLs.nil.add zjk).add zdq).add zkY).add zoJ).add zuu).add zbt).add zjT).add zrh).add zr3).add zkG).add zt4).add zjV) 126 Tryz.func121 (.n 6 (.j [(9000, .po 16),(4, .po 32),(5, .po 18),(7, .po 34),(9, .po 34),(10, .po 33)] [(0,9000)] (fun t=>zba t.1 t.2.1 t.2.2.1 t.2.2.2.1 t.2.2.2.2.1 t.2.2.2.2.2) .e (.j [(9000, .po 16),(5, .po 18),(7, .po 34),(9, .po 34),(10, .po 33)] [(0,9000)] (fun t=>za9 t.1 t.2.1 t.2.2.1 t.2.2.2.1 t.2.2.2.2) .e (.n 4 (.j [(9000, .po 16),(9, .po 34)] [(0,9000)] (fun t=>za8 t.1 t.2) .e (.j [(9000, .po 16)] [(0,9000)] (fun t=>za7 t) .e (.q (.j [(9000, .po 16),(123, .bool)] [(0,9000)] (fun t=>za6 t.1 t.2) .e .e) .e)))))))
-- (*doorstep/gateway.Gateway).answers
theorem zmO:za 76 znv:=cqG (((((((CLs.nil.add zeL).add zpk).add znT).add zmN).add ze3).add zrt).add zgA) 44 Tryz.func76 (.j [(9000, .po 16),(2, .po 33)] [(0,9000)] (fun t=>zaI t.1 t.2) .e (.j [(9000, .po 16),(2, .po 33),(4, .po 18)] [(0,9000)] (fun t=>zaH t.1 t.2.1 t.2.2) .e (.n 1 (.j [(9000, .po 16),(6, .int)] [(0,9000)] (fun t=>zW t.1 t.2) .e .e))))
-- (*doorstep/gateway.Gateway).response
theorem zmq:za 45 zmT:=cqG (((((((((((CLs.nil.add zjl).add zf9).add zdq).add zbf).add zbt).add zhl).add zkX).add zhp).add zmO).add ze3).add zju) 73 Tryz.func45 (.n 1 (.q (.j [(9000, .po 16),(1, .str),(19, .bool)] [(0,9000)] (fun t=>zat t.1 t.2.1 t.2.2) .e (.q (.j [(9000, .po 16),(5, .int),(6, .bool),(7, .int)] [(0,9000)] (fun t=>zaq t.1 t.2.1 t.2.2.1 t.2.2.2) .e .e) .e)) (.j [(9000, .po 16),(8, .int),(9, .str),(10, .bool),(11, .int)] [(0,9000)] (fun t=>zas t.1 t.2.1 t.2.2.1 t.2.2.2.1 t.2.2.2.2) .e (.j [(9000, .po 16),(8, .int),(10, .bool),(11, .int),(12, .str)] [(0,9000)] (fun t=>zar t.1 t.2.1 t.2.2.1 t.2.2.2.1 t.2.2.2.2) .e .e))))
-- (*doorstep/gateway.Gateway).Upstream
theorem zgD:za 18 zmU:=cqG ((((CLs.nil.add zkO).add zb3).add zmq).add zmy) 57 Tryz.func18 (.n 3 (.q (.w [(9000, .po 16),(1, .str),(6, .int)] [(0,9000)] (fun m t=>zm t.2.1 m t.1 t.2.2) fun n0 => .q (.j [(9000, .po 16),(1, .str),(6, .int),(46, .bool)] [(0,9000)] (fun t=>zG (zm t.2.1 n0) t.1 t.2.1 t.2.2.1 t.2.2.2) .e .e) .e) .e))
-- (*doorstep/gateway.Gateway).ClientEnd
theorem zf2:za 17 zms:=cqG (CLs.nil.add zb3) 29 Tryz.func17 .e
-- (*doorstep/body.Body).End
theorem zri:za 46 zAe:=cqG CLs.nil 23 Tryz.func46 .e
-- (*doorstep/body.Body).End
theorem znY:za 46 zxi:=cqG CLs.nil 23 Tryz.func46 (.n 1 (.j [(9000, .po 21)] [] (fun t=>zgx t) .e .e))
-- (*doorstep/gateway.Gateway).UpstreamEnd
theorem zfk:za 19 zk1:=cqG (((((CLs.nil.add znY).add zbf).add zb3).add zdq).add zri) 42 Tryz.func19 (.n 3 (.q (.n 1 (.q (.j [(9000, .po 16),(3, .bool)] [(0,9000)] (fun t=>z6 t.1 t.2) .e .e) .e)) .e))
-- (*doorstep/wire.Wire).Do
theorem zr7:COk Tryz.prog G 9 zBE:=ztb zAf hNm tyk ((((((CLs.nil.add zfk).add zf2).add zgD).add znn).add zhq).add zs2) (.nd 25 (.lf 24 (fnS Tryz.func24)) (.nd 51 (.lf 25 (fnS Tryz.func25)) (.lf 51 (fnS Tryz.func51)))) 50 60 Tryz.func9 (by kernel_rfl) (hn := .n 3 (.q (.n 2 (.q .e (.n 1 (.q .e (.n 1 (.q (.j [(9000, .po 28),(4, .int),(5, .int)] [] (fun t=>zgU t.1 t.2.1 t.2.2) .e .e) .e)))))) .e)) (by unfold ztX opJ zxI; kernel_rfl)
-- (*doorstep/gateway.Gateway).Closed
theorem ziH:za 22 zpE:=cqG CLs.nil 11 Tryz.func22 .e
-- (*doorstep/wire.Wire).Result
theorem zlS:za 8 ztW:=cqG (CLs.nil.add ziH) 38 Tryz.func8 .e
-- doorstep/audit.Begins
theorem zzl:za 10 zBF:=cqG (CLs.nil.add zbp) 17 Tryz.func10 .e
-- (*doorstep/wire.Wire).Finish
theorem zuw:COk Tryz.prog G 27 zv1:=ztb zAf hNm tyk ((((((CLs.nil.add zf2).add zfk).add zgD).add znn).add zhq).add ziH) (.nd 51 (.nd 25 (.lf 24 (fnS Tryz.func24)) (.lf 25 (fnS Tryz.func25))) (.nd 54 (.lf 51 (fnS Tryz.func51)) (.lf 54 (fnS Tryz.func54)))) 45 60 Tryz.func27 (by kernel_rfl) (hn := .n 3 (.q (.n 1 (.w [(9000, .po 28),(3, .int),(4, .int)] [(0,9000)] (fun m t=>zbn m t.1 t.2.1 t.2.2) fun n0 => .n 2 (.q .e (.q .e (.q .e .e))))) .e)) (by unfold ztX opJ zxI; kernel_rfl)
-- doorstep/wire.Run
theorem zHO:za 11 zKH:=cqG ((((CLs.nil.add zlS).add zuw).add zr7).add zAU) 32 Tryz.func11 (.n 1 (.j [(1, .po 0),(2, .po 30),(4, .pn 28),(5, .int)] [] (fun t=>zmi t.1 t.2.2.1 t.2.2.2) .e (.n 1 (.q (.n 1 (.w [(2, .po 30),(4, .pn 28),(18, .sl (.st 4)),(19, .int),(20, .int)] [] (fun m t=>zmh t.2.2.1 t.2.2.2.1 m t.2.1 t.2.2.2.2) fun n0 => .e)) .e))))
end
end Go.Proofs
end
section
set_option linter.unusedVariables false
set_option maxRecDepth 100000
namespace Go.Proofs
open Go.Dk Go.Dm Go.RowKit Go.Rk
noncomputable section
noncomputable def Cz:Bt (CLs Tryz.prog G) := .nd 108 (.nd 65 (.nd 37 (.nd 34 (.nd 26 (.lf 23 (CLs.nil.add zs2)) (.lf 26 (CLs.nil.add zbp))) (.nd 35 (.lf 34 (CLs.nil.add zuh)) (.lf 35 (CLs.nil.add zlQ)))) (.nd 39 (.nd 38 (.lf 37 (CLs.nil.add zo0)) (.lf 38 (CLs.nil.add zpQ))) (.nd 46 (.lf 39 (CLs.nil.add zlc)) (.lf 46 ((CLs.nil.add znY).add zri))))) (.nd 78 (.nd 71 (.nd 68 (.lf 65 (CLs.nil.add zxP)) (.lf 68 ((CLs.nil.add zhp).add zju))) (.nd 72 (.lf 71 ((CLs.nil.add zjl).add zkX)) (.lf 72 ((CLs.nil.add zf9).add zhl)))) (.nd 104 (.nd 79 (.lf 78 ((CLs.nil.add zf8).add zhn)) (.lf 79 ((CLs.nil.add zf7).add zhm))) (.nd 107 (.lf 104 ((CLs.nil.add zkV).add zmF)) (.lf 107 (CLs.nil.add zwA)))))) (.nd 167 (.nd 118 (.nd 111 (.nd 110 (.lf 108 ((CLs.nil.add zeL).add zgA)) (.lf 110 (CLs.nil.add zuu))) (.nd 112 (.lf 111 (CLs.nil.add zoJ)) (.lf 112 ((CLs.nil.add zjk).add zkY)))) (.nd 161 (.nd 160 (.lf 118 (CLs.nil.add zvo)) (.lf 160 (CLs.nil.add zlh))) (.nd 162 (.lf 161 (CLs.nil.add zkG)) (.lf 162 (CLs.nil.add zjT))))) (.nd 195 (.nd 174 (.nd 173 (.lf 167 (CLs.nil.add zr3)) (.lf 173 (CLs.nil.add zjV))) (.nd 175 (.lf 174 (CLs.nil.add zt4)) (.lf 175 (CLs.nil.add zrh)))) (.nd 197 (.nd 196 (.lf 195 ((CLs.nil.add zlR).add znl)) (.lf 196 ((CLs.nil.add znm).add zpj))) (.nd 198 (.lf 197 ((CLs.nil.add zjB).add zkP)) (.lf 198 (CLs.nil.add zrg))))))
noncomputable def Bz:Bt (FnS Tryz.prog) := .nd 56 (.nd 28 (.nd 16 (.nd 10 (.nd 8 (.nd 6 (.lf 4 (fnS Tryz.func4)) (.lf 6 (fnS Tryz.func6))) (.nd 9 (.lf 8 (fnS Tryz.func8)) (.lf 9 (fnS Tryz.func9)))) (.nd 12 (.nd 11 (.lf 10 (fnS Tryz.func10)) (.lf 11 (fnS Tryz.func11))) (.nd 15 (.lf 12 (fnS Tryz.func12)) (.lf 15 (fnS Tryz.func15))))) (.nd 22 (.nd 18 (.nd 17 (.lf 16 (fnS Tryz.func16)) (.lf 17 (fnS Tryz.func17))) (.nd 19 (.lf 18 (fnS Tryz.func18)) (.lf 19 (fnS Tryz.func19)))) (.nd 25 (.nd 24 (.lf 22 (fnS Tryz.func22)) (.lf 24 (fnS Tryz.func24))) (.nd 27 (.lf 25 (fnS Tryz.func25)) (.lf 27 (fnS Tryz.func27)))))) (.nd 44 (.nd 40 (.nd 30 (.nd 29 (.lf 28 (fnS Tryz.func28)) (.lf 29 (fnS Tryz.func29))) (.nd 36 (.lf 30 (fnS Tryz.func30)) (.lf 36 (fnS Tryz.func36)))) (.nd 42 (.nd 41 (.lf 40 (fnS Tryz.func40)) (.lf 41 (fnS Tryz.func41))) (.nd 43 (.lf 42 (fnS Tryz.func42)) (.lf 43 (fnS Tryz.func43))))) (.nd 51 (.nd 47 (.nd 45 (.lf 44 (fnS Tryz.func44)) (.lf 45 (fnS Tryz.func45))) (.nd 48 (.lf 47 (fnS Tryz.func47)) (.lf 48 (fnS Tryz.func48)))) (.nd 54 (.nd 52 (.lf 51 (fnS Tryz.func51)) (.lf 52 (fnS Tryz.func52))) (.nd 55 (.lf 54 (fnS Tryz.func54)) (.lf 55 (fnS Tryz.func55))))))) (.nd 105 (.nd 75 (.nd 69 (.nd 66 (.nd 57 (.lf 56 (fnS Tryz.func56)) (.lf 57 (fnS Tryz.func57))) (.nd 67 (.lf 66 (fnS Tryz.func66)) (.lf 67 (fnS Tryz.func67)))) (.nd 73 (.nd 70 (.lf 69 (fnS Tryz.func69)) (.lf 70 (fnS Tryz.func70))) (.nd 74 (.lf 73 (fnS Tryz.func73)) (.lf 74 (fnS Tryz.func74))))) (.nd 86 (.nd 77 (.nd 76 (.lf 75 (fnS Tryz.func75)) (.lf 76 (fnS Tryz.func76))) (.nd 80 (.lf 77 (fnS Tryz.func77)) (.lf 80 (fnS Tryz.func80)))) (.nd 88 (.nd 87 (.lf 86 (fnS Tryz.func86)) (.lf 87 (fnS Tryz.func87))) (.nd 89 (.lf 88 (fnS Tryz.func88)) (.lf 89 (fnS Tryz.func89)))))) (.nd 137 (.nd 119 (.nd 116 (.nd 109 (.lf 105 (fnS Tryz.func105)) (.lf 109 (fnS Tryz.func109))) (.nd 117 (.lf 116 (fnS Tryz.func116)) (.lf 117 (fnS Tryz.func117)))) (.nd 121 (.nd 120 (.lf 119 (fnS Tryz.func119)) (.lf 120 (fnS Tryz.func120))) (.nd 124 (.lf 121 (fnS Tryz.func121)) (.lf 124 (fnS Tryz.func124))))) (.nd 172 (.nd 168 (.nd 138 (.lf 137 (fnS Tryz.func137)) (.lf 138 (fnS Tryz.func138))) (.nd 169 (.lf 168 (fnS Tryz.func168)) (.lf 169 (fnS Tryz.func169)))) (.nd 257 (.nd 199 (.lf 172 (fnS Tryz.func172)) (.lf 199 (fnS Tryz.func199))) (.nd 258 (.lf 257 (fnS Tryz.func257)) (.lf 258 (fnS Tryz.func258)))))))
noncomputable def Xz:Cx tau:=⟨Tryz.prog,G,tyl,[],0,fun _ => .bool false⟩
end
end Go.Proofs
end
section
set_option linter.unusedVariables false
set_option maxRecDepth 100000
namespace Go.Proofs
open Go.Dk Go.Dm Go.RowKit Go.Rk
noncomputable section
theorem zKq:zrun Xz ⟨(ctOf Cz),Bz⟩ 100000000 4 []=some true:=by kernel_rfl
theorem zKr:COk Tryz.prog G 4 zMZ:=zOy (X:=Xz) zAf hNm (tyk [] 0) fpok rfl zOx ⟨_,Tryz.func4,by kernel_rfl,by kernel_rfl⟩ zKq
-- doorstep/doorsteplaw48.AuditGrows
theorem zuB:za 3 zv2:=cqG (((((((((CLs.nil.add zHO).add zzl).add zlS).add zr7).add zu8).add zCn).add zAU).add zHd).add zKr) 87 Tryz.func3 (.n 3 (.j [(1, .po 0),(3, .pn 28),(4, .int)] [] (fun t=>zbo t.1 t.2.1 t.2.2) .e (.n 2 (.q (.n 1 (.w [(1, .po 0),(3, .pn 28),(5, .po 30),(6, .int)] [] (fun m t=>zJ m t.1 t.2.1 t.2.2.1 t.2.2.2) fun n0 => .n 1 (.q (.n 2 (.q (.j [(1, .po 0),(3, .pn 28),(5, .po 30),(6, .int),(7, .po 30),(73, .bool)] [] (fun t=>zae (zJ n0) t.1 t.2.1 t.2.2.2.1 t.2.2.2.2.1 t.2.2.2.2.2) .e .e) .e)) .e))) .e))))
end
end Go.Proofs
end
