/-
  Facts on the types and functions of this translation, one by one, by evaluation. Written by a program (wip/gen).
  The library functions that the walks call. Over this translation.
-/
import Derived.Test.YtoofmjmnhgdloaaGreatDoorSim
import Derived.Test.YtoofmjmnhgdloaaGreatDoorT16
import Derived.Test.YtoofmjmnhgdloaaGreatDoorProg
import Derived.KernelRfl
import Derived.Laws.StructEq
import Derived.Lib.LaidTab
import Derived.Lib.ItoaNum
import Derived.Shelf.Strings.SlTrimAscii
import Derived.Lib.AppendIntMem
section
set_option linter.unusedVariables false
set_option linter.unusedSimpArgs false
namespace Go.Proofs
open Go.Dk Go.Dm Go.RowKit

theorem zhN {P : Program} {w0 w : World} {n : String} {g : Nat} (hg : P.globalNamed n = some g) (h : w.heap[g]? = w0.heap[g]?) : w.var? P n = w0.var? P n := by
  unfold World.var?
  rw [hg]
  simp only [Option.bind_some, h]
def zr (w : World) : Prop := 6 ≤ w.heap.size ∧ (∃ m, w.cell? ⟨0, 0, none⟩ = some (.int .i64 m))
def zx (F : List Nat) : Prop := ∀ b ∈ F, 6 ≤ b
theorem zg : zx [] := fun b hb => by cases hb
theorem zr.same {w0 w : World} (h : zr w0) (hs : w0.heap.size ≤ w.heap.size) (hf : ∀ g, g < 6 → w.heap[g]? = w0.heap[g]?) : zr w := by
  obtain ⟨h0, ⟨m, hm0⟩⟩ := h
  exact ⟨Nat.le_trans h0 hs, ⟨m, (World.cell?_of_block (w := w0) (a := ⟨0, 0, none⟩) (hf 0 (by omega))).trans hm0⟩⟩
theorem zr.low {w0 w : World} {B : Nat} (h : zr w0) (hB : 6 ≤ B) (hb : Below B w0 w) : zr w :=
  h.same hb.size fun g hg => hb.block g (by omega)
theorem zr.size {w : World} (h : zr w) : 6 ≤ w.heap.size := h.1
theorem zr.max {w : World} (h : zr w) : (∃ m, w.cell? ⟨0, 0, none⟩ = some (.int .i64 m)) := h.2
theorem zr.own {w0 w : World} {F : List Nat} {L : List Res} (h : zr w0) (hF : zx F) (hO : Own w0 F w L) : zr w :=
  h.same hO.size fun g hg => hO.frame g (by have := h.size; omega) (fun hm => absurd (hF g hm) (by omega))
def zU (w : World) : Prop := zr w ∧ Go.Lib.TabIs Tryz.prog w "internal/strconv.uint64pow10" .u64 Go.Lib.pow10Tab
theorem zU.same {w0 w : World} (h : zU w0) (hs : w0.heap.size ≤ w.heap.size) (hf : ∀ g, g < 6 → w.heap[g]? = w0.heap[g]?) : zU w := by
  obtain ⟨h, hp⟩ := h
  exact ⟨h.same hs hf, by unfold Go.Lib.TabIs at hp ⊢; rw [← hp]; exact zhN (show Tryz.prog.globalNamed "internal/strconv.uint64pow10" = some 3 by kernel_rfl) (hf 3 (by omega))⟩
theorem zU.low {w0 w : World} {B : Nat} (h : zU w0) (hB : 6 ≤ B) (hb : Below B w0 w) : zU w :=
  h.same hb.size fun g hg => hb.block g (by omega)
theorem zU.size {w : World} (h : zU w) : 6 ≤ w.heap.size := h.1.size
theorem zU.own {w0 w : World} {F : List Nat} {L : List Res} (h : zU w0) (hF : zx F) (hO : Own w0 F w L) : zU w :=
  h.same hO.size fun g hg => hO.frame g (by have := h.size; omega) (fun hm => absurd (hF g hm) (by omega))
def za (x : api_Field) : List Value := [str x.Name, str x.Value]
def zh (x : UInt8) : List Value := [zH x]
def zC (x : Str) : List Value := [str x]
theorem zhO : zcX Tryz.prog 105 = some false := by kernel_rfl
theorem zcF : zcX Tryz.prog 107 = some true := by kernel_rfl
theorem zax : zcX Tryz.prog 109 = some true := by kernel_rfl
theorem zeH : zcX Tryz.prog 125 = some true := by kernel_rfl
theorem zfN : zcX Tryz.prog 22 = some false := by kernel_rfl
theorem zdU : zcX Tryz.prog 23 = some false := by kernel_rfl
theorem zhP : zcX Tryz.prog 26 = some false := by kernel_rfl
theorem zdz : zcX Tryz.prog 3 = some false := by kernel_rfl
theorem zfp : zcX Tryz.prog 33 = some false := by kernel_rfl
theorem zav : zcX Tryz.prog 35 = some true := by kernel_rfl
theorem ag_4 : zcX Tryz.prog 4 = some false := by kernel_rfl
theorem ag_5 : zcX Tryz.prog 5 = some false := by kernel_rfl
theorem zdV : zcX Tryz.prog 69 = some true := by kernel_rfl
theorem zdk : zcX Tryz.prog 9 = some false := by kernel_rfl
theorem zcG : zcX Tryz.prog 95 = some false := by kernel_rfl
theorem zdG : ∀ w, (Instr.alloc 107 true (.tuple #[])).run Tryz.prog w = .ok (ptr w.heap.size 0) (w.alloc (.cells [int 0, str [], int 0].toArray 107)) := fun w => by kernel_rfl
theorem zdH : ∀ w, (Instr.alloc 109 true (.tuple #[])).run Tryz.prog w = .ok (ptr w.heap.size 0) (w.alloc (.cells [int 0, str [], int 0, str [], int 0, str [], str [], .bool false].toArray 109)) := fun w => by kernel_rfl
theorem zgM : ∀ w, (Instr.alloc 125 true (.tuple #[])).run Tryz.prog w = .ok (ptr w.heap.size 0) (w.alloc (.cells [.pointer none].toArray 125)) := fun w => by kernel_rfl
theorem zdv : ∀ w, (Instr.alloc 35 true (.tuple #[])).run Tryz.prog w = .ok (ptr w.heap.size 0) (w.alloc (.cells [int 0, str [], str [], int 0, str [], int 0, .slice none 0 0].toArray 35)) := fun w => by kernel_rfl
theorem zhQ : ∀ w, (Instr.alloc 69 true (.tuple #[])).run Tryz.prog w = .ok (ptr w.heap.size 0) (w.alloc (.cells [str [], str []].toArray 69)) := fun w => by kernel_rfl
theorem ei_23 : (Tryz.prog.info? 5).map (fun i => (i.zero, i.size, i.bytes)) = some (some (zH 0), 1, 1) := by kernel_rfl
theorem el_23 : Elem Tryz.prog 23 5 1 1 := ⟨Tryz.underlying23, by obtain ⟨i, h0, h1, h2, h3⟩ := info_parts ei_23; exact ⟨i, _, h0, h1, h2, h3, rfl⟩, by decide⟩
theorem ei_31 : (Tryz.prog.info? 9).map (fun i => (i.zero, i.size, i.bytes)) = some (some (str []), 1, 16) := by kernel_rfl
theorem el_31 : Elem Tryz.prog 31 9 1 16 := ⟨Tryz.underlying31, by obtain ⟨i, h0, h1, h2, h3⟩ := info_parts ei_31; exact ⟨i, _, h0, h1, h2, h3, rfl⟩, by decide⟩
theorem ei_33 : (Tryz.prog.info? 69).map (fun i => (i.zero, i.size, i.bytes)) = some (some (.agg #[str [], str []]), 2, 32) := by kernel_rfl
theorem zhR : Elem Tryz.prog 33 69 2 32 := ⟨Tryz.underlying33, by obtain ⟨i, h0, h1, h2, h3⟩ := info_parts ei_33; exact ⟨i, _, h0, h1, h2, h3, rfl⟩, by decide⟩
theorem eqd_69 (d : Nat) (x y : api_Field) (w : World) : (Op.equalIn (d + 2) 69 (.agg #[str x.Name, str x.Value]) (.agg #[str y.Name, str y.Value])).run Tryz.prog w = .ok (x == y) w := by
  obtain ⟨x0, x1⟩ := x
  obtain ⟨y0, y1⟩ := y
  show (Op.equalIn (d + 1 + 1) 69 _ _).run _ _ = _
  rw [run_equalIn_struct w (d + 1) 69 _ _ (by kernel_rfl) (by kernel_rfl)]
  have e : ((⟨x0, x1⟩ : api_Field) == ⟨y0, y1⟩) = decide (x0 = y0 ∧ x1 = y1) := by
    show decide (_ = _) = _
    exact decide_eq_decide.2 (by simp)
  rw [e]
  simp only [Program.fieldsOf, Tryz.underlying69, Op.eqFields]
  simp [part, Tryz.isAgg9, Tryz.underlying9, run_equalIn_string, run_equalIn_bool', run_equalIn_int, zgV, Result.andThen, zgf]
  by_cases h0 : x0 = y0 <;> by_cases h1 : x1 = y1 <;> simp [h0, h1]
theorem eq_69 (x y : api_Field) (w : World) : (Op.equalIn 10000 69 (.agg #[str x.Name, str x.Value]) (.agg #[str y.Name, str y.Value])).run Tryz.prog w = .ok (x == y) w := eqd_69 9998 x y w
theorem zfq : ∀ b o w, (Instr.fieldAt 107 (ptr b o) 0).run Tryz.prog w = .ok (ptr b (o + 0)) w := fun b o w => by kernel_rfl
theorem zgv : ∀ b o w, (Instr.fieldAt 107 (ptr b o) 1).run Tryz.prog w = .ok (ptr b (o + 1)) w := fun b o w => by kernel_rfl
theorem zhS : ∀ b o w, (Instr.fieldAt 107 (ptr b o) 2).run Tryz.prog w = .ok (ptr b (o + 2)) w := fun b o w => by kernel_rfl
theorem zhT : ∀ b o w, (Instr.fieldAt 109 (ptr b o) 1).run Tryz.prog w = .ok (ptr b (o + 1)) w := fun b o w => by kernel_rfl
theorem zhU : ∀ b o w, (Instr.fieldAt 109 (ptr b o) 2).run Tryz.prog w = .ok (ptr b (o + 2)) w := fun b o w => by kernel_rfl
theorem zhV : ∀ b o w, (Instr.fieldAt 109 (ptr b o) 3).run Tryz.prog w = .ok (ptr b (o + 5)) w := fun b o w => by kernel_rfl
theorem zhW : ∀ b o w, (Instr.fieldAt 109 (ptr b o) 4).run Tryz.prog w = .ok (ptr b (o + 6)) w := fun b o w => by kernel_rfl
theorem zhX : ∀ b o w, (Instr.fieldAt 109 (ptr b o) 5).run Tryz.prog w = .ok (ptr b (o + 7)) w := fun b o w => by kernel_rfl
theorem zhY : ∀ b o w, (Instr.fieldAt 115 (ptr b o) 0).run Tryz.prog w = .ok (ptr b (o + 0)) w := fun b o w => by kernel_rfl
theorem zhZ : ∀ b o w, (Instr.fieldAt 115 (ptr b o) 1).run Tryz.prog w = .ok (ptr b (o + 1)) w := fun b o w => by kernel_rfl
theorem zh0 : ∀ b o w, (Instr.fieldAt 125 (ptr b o) 0).run Tryz.prog w = .ok (ptr b (o + 0)) w := fun b o w => by kernel_rfl
theorem zen : ∀ b o w, (Instr.fieldAt 139 (ptr b o) 0).run Tryz.prog w = .ok (ptr b (o + 0)) w := fun b o w => by kernel_rfl
theorem zeo : ∀ b o w, (Instr.fieldAt 139 (ptr b o) 1).run Tryz.prog w = .ok (ptr b (o + 1)) w := fun b o w => by kernel_rfl
theorem zh1 : ∀ b o w, (Instr.fieldAt 177 (ptr b o) 0).run Tryz.prog w = .ok (ptr b (o + 0)) w := fun b o w => by kernel_rfl
theorem ziB : ∀ b o w, (Instr.fieldAt 35 (ptr b o) 0).run Tryz.prog w = .ok (ptr b (o + 0)) w := fun b o w => by kernel_rfl
theorem ziC : ∀ b o w, (Instr.fieldAt 35 (ptr b o) 1).run Tryz.prog w = .ok (ptr b (o + 1)) w := fun b o w => by kernel_rfl
theorem ziD : ∀ b o w, (Instr.fieldAt 35 (ptr b o) 2).run Tryz.prog w = .ok (ptr b (o + 2)) w := fun b o w => by kernel_rfl
theorem ziE : ∀ b o w, (Instr.fieldAt 35 (ptr b o) 3).run Tryz.prog w = .ok (ptr b (o + 3)) w := fun b o w => by kernel_rfl
theorem ziF : ∀ b o w, (Instr.fieldAt 35 (ptr b o) 4).run Tryz.prog w = .ok (ptr b (o + 4)) w := fun b o w => by kernel_rfl
theorem ziG : ∀ b o w, (Instr.fieldAt 35 (ptr b o) 5).run Tryz.prog w = .ok (ptr b (o + 5)) w := fun b o w => by kernel_rfl
theorem ziH : ∀ b o w, (Instr.fieldAt 35 (ptr b o) 6).run Tryz.prog w = .ok (ptr b (o + 6)) w := fun b o w => by kernel_rfl
theorem ziI : ∀ b o w, (Instr.fieldAt 44 (ptr b o) 0).run Tryz.prog w = .ok (ptr b (o + 0)) w := fun b o w => by kernel_rfl
theorem ziJ : ∀ b o w, (Instr.fieldAt 44 (ptr b o) 1).run Tryz.prog w = .ok (ptr b (o + 1)) w := fun b o w => by kernel_rfl
theorem ziK : ∀ b o w, (Instr.fieldAt 44 (ptr b o) 2).run Tryz.prog w = .ok (ptr b (o + 2)) w := fun b o w => by kernel_rfl
theorem zg1 : ∀ b o w, (Instr.fieldAt 61 (ptr b o) 0).run Tryz.prog w = .ok (ptr b (o + 0)) w := fun b o w => by kernel_rfl
theorem zgc : ∀ b o w, (Instr.fieldAt 61 (ptr b o) 1).run Tryz.prog w = .ok (ptr b (o + 1)) w := fun b o w => by kernel_rfl
theorem zep : ∀ b o w, (Instr.fieldAt 61 (ptr b o) 2).run Tryz.prog w = .ok (ptr b (o + 2)) w := fun b o w => by kernel_rfl
theorem zg2 : ∀ b o w, (Instr.fieldAt 61 (ptr b o) 3).run Tryz.prog w = .ok (ptr b (o + 3)) w := fun b o w => by kernel_rfl
theorem ziL : ∀ b o w, (Instr.fieldAt 61 (ptr b o) 4).run Tryz.prog w = .ok (ptr b (o + 4)) w := fun b o w => by kernel_rfl
theorem zg3 : ∀ b o w, (Instr.fieldAt 61 (ptr b o) 5).run Tryz.prog w = .ok (ptr b (o + 5)) w := fun b o w => by kernel_rfl
theorem zg4 : ∀ b o w, (Instr.fieldAt 61 (ptr b o) 6).run Tryz.prog w = .ok (ptr b (o + 6)) w := fun b o w => by kernel_rfl
theorem zg5 : ∀ b o w, (Instr.fieldAt 61 (ptr b o) 7).run Tryz.prog w = .ok (ptr b (o + 7)) w := fun b o w => by kernel_rfl
theorem ziM : ∀ b o w, (Instr.fieldAt 69 (ptr b o) 0).run Tryz.prog w = .ok (ptr b (o + 0)) w := fun b o w => by kernel_rfl
theorem ziN : ∀ b o w, (Instr.fieldAt 69 (ptr b o) 1).run Tryz.prog w = .ok (ptr b (o + 1)) w := fun b o w => by kernel_rfl
theorem ziO : ∀ b o w, (Instr.fieldAt 80 (ptr b o) 0).run Tryz.prog w = .ok (ptr b (o + 0)) w := fun b o w => by kernel_rfl
theorem ziP : ∀ b o w, (Instr.fieldAt 80 (ptr b o) 1).run Tryz.prog w = .ok (ptr b (o + 1)) w := fun b o w => by kernel_rfl
theorem zgN : zay Tryz.prog 105 = some 1 := by kernel_rfl
theorem zam : zay Tryz.prog 107 = some 3 := by kernel_rfl
theorem zF : zay Tryz.prog 109 = some 8 := by kernel_rfl
theorem zdl : zay Tryz.prog 125 = some 1 := by kernel_rfl
theorem sz_23 : zay Tryz.prog 23 = some 1 := by kernel_rfl
theorem sz_26 : zay Tryz.prog 26 = some 1 := by kernel_rfl
theorem sz_3 : zay Tryz.prog 3 = some 1 := by kernel_rfl
theorem sz_33 : zay Tryz.prog 33 = some 1 := by kernel_rfl
theorem zt : zay Tryz.prog 35 = some 7 := by kernel_rfl
theorem sz_4 : zay Tryz.prog 4 = some 1 := by kernel_rfl
theorem sz_5 : zay Tryz.prog 5 = some 1 := by kernel_rfl
theorem zbw : zay Tryz.prog 69 = some 2 := by kernel_rfl
theorem zeW : zay Tryz.prog 9 = some 1 := by kernel_rfl
def tb : Tab := ⟨[(9, .string), (23, .slice 5), (31, .slice 9), (33, .slice 69)], [(35, 0, 0), (35, 1, 1), (35, 2, 2), (35, 3, 3), (35, 4, 4), (35, 5, 5), (35, 6, 6), (44, 0, 0), (44, 1, 1), (44, 2, 2), (61, 0, 0), (61, 1, 1), (61, 2, 2), (61, 3, 3), (61, 4, 4), (61, 5, 5), (61, 6, 6), (61, 7, 7), (69, 0, 0), (69, 1, 1), (80, 0, 0), (80, 1, 1), (107, 0, 0), (107, 1, 1), (107, 2, 2), (109, 1, 1), (109, 2, 2), (109, 3, 5), (109, 4, 6), (109, 5, 7), (115, 0, 0), (115, 1, 1), (125, 0, 0), (139, 0, 0), (139, 1, 1), (177, 0, 0)]⟩
instance : TabOk Tryz.prog tb := ⟨ze2 ⟨Tryz.underlying9, ⟨Tryz.underlying23, ⟨Tryz.underlying31, ⟨Tryz.underlying33, trivial⟩⟩⟩⟩, ze2 ⟨ziB, ⟨ziC, ⟨ziD, ⟨ziE, ⟨ziF, ⟨ziG, ⟨ziH, ⟨ziI, ⟨ziJ, ⟨ziK, ⟨zg1, ⟨zgc, ⟨zep, ⟨zg2, ⟨ziL, ⟨zg3, ⟨zg4, ⟨zg5, ⟨ziM, ⟨ziN, ⟨ziO, ⟨ziP, ⟨zfq, ⟨zgv, ⟨zhS, ⟨zhT, ⟨zhU, ⟨zhV, ⟨zhW, ⟨zhX, ⟨zhY, ⟨zhZ, ⟨zh0, ⟨zen, ⟨zeo, ⟨zh1, trivial⟩⟩⟩⟩⟩⟩⟩⟩⟩⟩⟩⟩⟩⟩⟩⟩⟩⟩⟩⟩⟩⟩⟩⟩⟩⟩⟩⟩⟩⟩⟩⟩⟩⟩⟩⟩⟩
theorem c_8 : zb Tryz.prog 8 := ⟨Tryz.f8, Tryz.func8, rfl, by kernel_rfl⟩
theorem c_9 : zb Tryz.prog 9 := ⟨Tryz.f9, Tryz.func9, rfl, by kernel_rfl⟩
theorem c_10 : zb Tryz.prog 10 := ⟨Tryz.f10, Tryz.func10, rfl, by kernel_rfl⟩
theorem c_12 : zb Tryz.prog 12 := ⟨Tryz.f12, Tryz.func12, rfl, by kernel_rfl⟩
theorem c_13 : zb Tryz.prog 13 := ⟨Tryz.f13, Tryz.func13, rfl, by kernel_rfl⟩
theorem c_14 : zb Tryz.prog 14 := ⟨Tryz.f14, Tryz.func14, rfl, by kernel_rfl⟩
theorem c_15 : zb Tryz.prog 15 := ⟨Tryz.f15, Tryz.func15, rfl, by kernel_rfl⟩
theorem c_17 : zb Tryz.prog 17 := ⟨Tryz.f17, Tryz.func17, rfl, by kernel_rfl⟩
theorem c_27 : zb Tryz.prog 27 := ⟨Tryz.f27, Tryz.func27, rfl, by kernel_rfl⟩
theorem c_28 : zb Tryz.prog 28 := ⟨Tryz.f28, Tryz.func28, rfl, by kernel_rfl⟩
theorem c_29 : zb Tryz.prog 29 := ⟨Tryz.f29, Tryz.func29, rfl, by kernel_rfl⟩
theorem c_30 : zb Tryz.prog 30 := ⟨Tryz.f30, Tryz.func30, rfl, by kernel_rfl⟩
theorem c_31 : zb Tryz.prog 31 := ⟨Tryz.f31, Tryz.func31, rfl, by kernel_rfl⟩
theorem c_32 : zb Tryz.prog 32 := ⟨Tryz.f32, Tryz.func32, rfl, by kernel_rfl⟩
theorem c_33 : zb Tryz.prog 33 := ⟨Tryz.f33, Tryz.func33, rfl, by kernel_rfl⟩
theorem c_34 : zb Tryz.prog 34 := ⟨Tryz.f34, Tryz.func34, rfl, by kernel_rfl⟩
theorem c_50 : zb Tryz.prog 50 := ⟨Tryz.f50, Tryz.func50, rfl, by kernel_rfl⟩
theorem c_51 : zb Tryz.prog 51 := ⟨Tryz.f51, Tryz.func51, rfl, by kernel_rfl⟩
theorem c_52 : zb Tryz.prog 52 := ⟨Tryz.f52, Tryz.func52, rfl, by kernel_rfl⟩
theorem c_53 : zb Tryz.prog 53 := ⟨Tryz.f53, Tryz.func53, rfl, by kernel_rfl⟩
theorem c_54 : zb Tryz.prog 54 := ⟨Tryz.f54, Tryz.func54, rfl, by kernel_rfl⟩
theorem c_57 : zb Tryz.prog 57 := ⟨Tryz.f57, Tryz.func57, rfl, by kernel_rfl⟩
theorem c_58 : zb Tryz.prog 58 := ⟨Tryz.f58, Tryz.func58, rfl, by kernel_rfl⟩
theorem c_59 : zb Tryz.prog 59 := ⟨Tryz.f59, Tryz.func59, rfl, by kernel_rfl⟩
theorem zgO : zb Tryz.prog 60 := ⟨Tryz.f60, Tryz.func60, rfl, by kernel_rfl⟩
theorem c_61 : zb Tryz.prog 61 := ⟨Tryz.f61, Tryz.func61, rfl, by kernel_rfl⟩
theorem c_62 : zb Tryz.prog 62 := ⟨Tryz.f62, Tryz.func62, rfl, by kernel_rfl⟩
theorem c_63 : zb Tryz.prog 63 := ⟨Tryz.f63, Tryz.func63, rfl, by kernel_rfl⟩
theorem c_64 : zb Tryz.prog 64 := ⟨Tryz.f64, Tryz.func64, rfl, by kernel_rfl⟩
theorem c_65 : zb Tryz.prog 65 := ⟨Tryz.f65, Tryz.func65, rfl, by kernel_rfl⟩
theorem c_75 : zb Tryz.prog 75 := ⟨Tryz.f75, Tryz.func75, rfl, by kernel_rfl⟩
theorem c_82 : zb Tryz.prog 82 := ⟨Tryz.f82, Tryz.func82, rfl, by kernel_rfl⟩
theorem c_83 : zb Tryz.prog 83 := ⟨Tryz.f83, Tryz.func83, rfl, by kernel_rfl⟩
theorem c_84 : zb Tryz.prog 84 := ⟨Tryz.f84, Tryz.func84, rfl, by kernel_rfl⟩
theorem c_85 : zb Tryz.prog 85 := ⟨Tryz.f85, Tryz.func85, rfl, by kernel_rfl⟩
theorem c_86 : zb Tryz.prog 86 := ⟨Tryz.f86, Tryz.func86, rfl, by kernel_rfl⟩
theorem c_87 : zb Tryz.prog 87 := ⟨Tryz.f87, Tryz.func87, rfl, by kernel_rfl⟩
theorem c_88 : zb Tryz.prog 88 := ⟨Tryz.f88, Tryz.func88, rfl, by kernel_rfl⟩
theorem c_89 : zb Tryz.prog 89 := ⟨Tryz.f89, Tryz.func89, rfl, by kernel_rfl⟩
theorem c_90 : zb Tryz.prog 90 := ⟨Tryz.f90, Tryz.func90, rfl, by kernel_rfl⟩
theorem zgP : zb Tryz.prog 91 := ⟨Tryz.f91, Tryz.func91, rfl, by kernel_rfl⟩
theorem c_92 : zb Tryz.prog 92 := ⟨Tryz.f92, Tryz.func92, rfl, by kernel_rfl⟩
theorem c_99 : zb Tryz.prog 99 := ⟨Tryz.f99, Tryz.func99, rfl, by kernel_rfl⟩
theorem c_100 : zb Tryz.prog 100 := ⟨Tryz.f100, Tryz.func100, rfl, by kernel_rfl⟩
theorem zh2 : zb Tryz.prog 101 := ⟨Tryz.f101, Tryz.func101, rfl, by kernel_rfl⟩
theorem c_102 : zb Tryz.prog 102 := ⟨Tryz.f102, Tryz.func102, rfl, by kernel_rfl⟩
theorem c_110 : zb Tryz.prog 110 := ⟨Tryz.f110, Tryz.func110, rfl, by kernel_rfl⟩
theorem c_111 : zb Tryz.prog 111 := ⟨Tryz.f111, Tryz.func111, rfl, by kernel_rfl⟩
theorem zh3 : zb Tryz.prog 112 := ⟨Tryz.f112, Tryz.func112, rfl, by kernel_rfl⟩
theorem c_122 : zb Tryz.prog 122 := ⟨Tryz.f122, Tryz.func122, rfl, by kernel_rfl⟩
theorem c_131 : zb Tryz.prog 131 := ⟨Tryz.f131, Tryz.func131, rfl, by kernel_rfl⟩
theorem c_132 : zb Tryz.prog 132 := ⟨Tryz.f132, Tryz.func132, rfl, by kernel_rfl⟩
theorem c_133 : zb Tryz.prog 133 := ⟨Tryz.f133, Tryz.func133, rfl, by kernel_rfl⟩
theorem c_134 : zb Tryz.prog 134 := ⟨Tryz.f134, Tryz.func134, rfl, by kernel_rfl⟩
theorem c_136 : zb Tryz.prog 136 := ⟨Tryz.f136, Tryz.func136, rfl, by kernel_rfl⟩
theorem c_142 : zb Tryz.prog 142 := ⟨Tryz.f142, Tryz.func142, rfl, by kernel_rfl⟩
theorem zg6 : zb Tryz.prog 143 := ⟨Tryz.f143, Tryz.func143, rfl, by kernel_rfl⟩
theorem c_146 : zb Tryz.prog 146 := ⟨Tryz.f146, Tryz.func146, rfl, by kernel_rfl⟩
theorem c_147 : zb Tryz.prog 147 := ⟨Tryz.f147, Tryz.func147, rfl, by kernel_rfl⟩
theorem c_148 : zb Tryz.prog 148 := ⟨Tryz.f148, Tryz.func148, rfl, by kernel_rfl⟩
theorem c_149 : zb Tryz.prog 149 := ⟨Tryz.f149, Tryz.func149, rfl, by kernel_rfl⟩
theorem c_150 : zb Tryz.prog 150 := ⟨Tryz.f150, Tryz.func150, rfl, by kernel_rfl⟩
theorem c_155 : zb Tryz.prog 155 := ⟨Tryz.f155, Tryz.func155, rfl, by kernel_rfl⟩
theorem c_163 : zb Tryz.prog 163 := ⟨Tryz.f163, Tryz.func163, rfl, by kernel_rfl⟩
theorem c_165 : zb Tryz.prog 165 := ⟨Tryz.f165, Tryz.func165, rfl, by kernel_rfl⟩
theorem c_166 : zb Tryz.prog 166 := ⟨Tryz.f166, Tryz.func166, rfl, by kernel_rfl⟩
theorem zh4 : zb Tryz.prog 167 := ⟨Tryz.f167, Tryz.func167, rfl, by kernel_rfl⟩
theorem c_168 : zb Tryz.prog 168 := ⟨Tryz.f168, Tryz.func168, rfl, by kernel_rfl⟩
theorem c_169 : zb Tryz.prog 169 := ⟨Tryz.f169, Tryz.func169, rfl, by kernel_rfl⟩
theorem c_170 : zb Tryz.prog 170 := ⟨Tryz.f170, Tryz.func170, rfl, by kernel_rfl⟩
theorem zgw : zb Tryz.prog 172 := ⟨Tryz.f172, Tryz.func172, rfl, by kernel_rfl⟩
theorem zh5 : zb Tryz.prog 174 := ⟨Tryz.f174, Tryz.func174, rfl, by kernel_rfl⟩
theorem c_175 : zb Tryz.prog 175 := ⟨Tryz.f175, Tryz.func175, rfl, by kernel_rfl⟩
theorem c_176 : zb Tryz.prog 176 := ⟨Tryz.f176, Tryz.func176, rfl, by kernel_rfl⟩
theorem c_177 : zb Tryz.prog 177 := ⟨Tryz.f177, Tryz.func177, rfl, by kernel_rfl⟩
theorem c_186 : zb Tryz.prog 186 := ⟨Tryz.f186, Tryz.func186, rfl, by kernel_rfl⟩
theorem c_187 : zb Tryz.prog 187 := ⟨Tryz.f187, Tryz.func187, rfl, by kernel_rfl⟩
theorem zh6 : zb Tryz.prog 188 := ⟨Tryz.f188, Tryz.func188, rfl, by kernel_rfl⟩
theorem c_190 : zb Tryz.prog 190 := ⟨Tryz.f190, Tryz.func190, rfl, by kernel_rfl⟩
theorem c_191 : zb Tryz.prog 191 := ⟨Tryz.f191, Tryz.func191, rfl, by kernel_rfl⟩
theorem c_192 : zb Tryz.prog 192 := ⟨Tryz.f192, Tryz.func192, rfl, by kernel_rfl⟩
theorem c_199 : zb Tryz.prog 199 := ⟨Tryz.f199, Tryz.func199, rfl, by kernel_rfl⟩
theorem c_200 : zb Tryz.prog 200 := ⟨Tryz.f200, Tryz.func200, rfl, by kernel_rfl⟩
theorem zh7 : zb Tryz.prog 201 := ⟨Tryz.f201, Tryz.func201, rfl, by kernel_rfl⟩
theorem c_208 : zb Tryz.prog 208 := ⟨Tryz.f208, Tryz.func208, rfl, by kernel_rfl⟩
theorem c_212 : zb Tryz.prog 212 := ⟨Tryz.f212, Tryz.func212, rfl, by kernel_rfl⟩
end Go.Proofs
end
section
namespace Go.Proofs
open Go.Dk Go.Dm Go.RowKit
theorem zct (s : Str) (c : UInt8) (R : Int) (w0 : World) (hG : zr w0) (hm : strings_IndexByte s c = some R) :
    Calls Tryz.prog 163 #[str s, zH c] w0 fun e w' => e = .returned (int R) ∧ Below w0.heap.size w0 w' := by
  refine (Tryz.strings_IndexByte ⟨s.toArray⟩ c.toNat w0).mono fun e w' ⟨he, hw⟩ => ?_
  subst he hw
  refine ⟨?_, Below.refl _ _⟩
  unfold strings_IndexByte at hm
  rw [zgl] at hm
  cases hm
  simp
theorem zco (s t : Str) (R : Int) (w0 : World) (hG : zr w0) (hm : strings_Index s t = some R) :
    Calls Tryz.prog 31 #[str s, str t] w0 fun e w' => e = .returned (int R) ∧ Below w0.heap.size w0 w' := by
  unfold strings_Index at hm
  split at hm
  · rename_i hs
    obtain ⟨m, hg⟩ := hG.max
    refine (Tryz.strings_Index ⟨s.toArray⟩ ⟨t.toArray⟩ m w0 hs hg).mono fun e w' ⟨he, hw⟩ => ?_
    subst he hw
    rw [zgI] at hm
    cases hm
    exact ⟨rfl, Below.refl _ _⟩
  · cases hm
theorem zcb (s t : Str) (R : Str × Str × Bool) (w0 : World) (hG : zr w0) (hm : strings_Cut s t = some R) :
    Calls Tryz.prog 90 #[str s, str t] w0 fun e w' => e = .returned (.tuple #[str R.1, str R.2.1, .bool R.2.2]) ∧ Below w0.heap.size w0 w' := by
  unfold strings_Cut at hm
  split at hm
  · rename_i hs
    obtain ⟨m, hg⟩ := hG.max
    refine (Tryz.strings_Cut ⟨s.toArray⟩ ⟨t.toArray⟩ m w0 hs hg).mono fun e w' ⟨he, n, hw⟩ => ?_
    subst he hw
    cases hm
    exact ⟨rfl, ⟨rfl, rfl, rfl, Nat.le_refl _, fun _ _ => rfl⟩⟩
  · cases hm
theorem zcx (s cs : Str) (R : Int) (w0 : World) (hG : zr w0) (hm : strings_IndexAny s cs = some R) :
    Calls Tryz.prog 82 #[str s, str cs] w0 fun e w' => e = .returned (int R) ∧ Below w0.heap.size w0 w' := by
  unfold strings_IndexAny at hm
  split at hm
  · rename_i hs
    refine (zfR Tryz.lays153 (by kernel_rfl) ⟨s.toArray⟩ ⟨cs.toArray⟩ w0 hs.1 hs.2.1 (fun j b hb => ?_)).mono fun e w' ⟨he, hw⟩ => ?_
    · have := List.all_eq_true.1 hs.2.2 b (List.mem_of_getElem? hb)
      simpa using this
    · subst he
      rw [zgJ] at hm
      cases hm
      exact ⟨rfl, hw⟩
  · cases hm
theorem zdN (n b : Int) (R : Str) (w0 : World) (hG : zU w0) (hm : zbM n b = some R) :
    Calls Tryz.prog 155 #[int n, int b] w0 fun e w' => e = .returned (str R) ∧ Below w0.heap.size w0 w' := by
  unfold zbM at hm
  split at hm
  · rename_i h
    obtain ⟨h1, rfl⟩ := h
    obtain ⟨h2, h3⟩ := zf2.1 h1
    cases hm
    refine (Tryz.strconv_FormatInt_10 n h2 h3 w0 hG.2).mono fun e w' ⟨he, k, os, hw⟩ => ?_
    subst he hw
    exact ⟨rfl, Lib.below_grow _ _ (Nat.le_refl _) _ _⟩
  · cases hm
theorem zdr (s sep : Str) (R : List Str) (w0 : World) (hG : zr w0) (hm : strings_Split s sep = some R) :
    Calls Tryz.prog 32 #[str s, str sep] w0 fun e w' => ∃ (p0 : Option Addr) (c0 : Nat), e = .returned (.slice p0 R.length c0) ∧ Own w0 [] w' [.row (.slice p0 R.length c0) 9 1 R.length (cells zC R)] := by
  unfold strings_Split at hm
  split at hm
  · rename_i hs
    obtain ⟨m, hg⟩ := hG.max
    refine (Tryz.strings_Split ⟨s.toArray⟩ ⟨sep.toArray⟩ m w0 hs.1 hg hs.2).mono fun e w' ⟨he, hw⟩ => ?_
    subst he hw
    have hlen := Go.Lib.splitB_all ⟨sep.toArray⟩ hs.2 0 _ ⟨s.toArray⟩ rfl
    have hdat := Go.Lib.splitB_data ⟨sep.toArray⟩ 0 (Go.Lib.countB ⟨s.toArray⟩ ⟨sep.toArray⟩) ⟨s.toArray⟩
    have hR : R = (Go.Lib.splitB ⟨sep.toArray⟩ 0 (Go.Lib.countB ⟨s.toArray⟩ ⟨sep.toArray⟩) ⟨s.toArray⟩).map (·.data.toList) := by
      rw [hdat]; exact (Option.some.inj hm).symm
    have hRl : R.length = Go.Lib.countB ⟨s.toArray⟩ ⟨sep.toArray⟩ + 1 := by rw [hR, List.length_map, hlen]
    have hcells : (Go.Lib.splitB ⟨sep.toArray⟩ 0 (Go.Lib.countB ⟨s.toArray⟩ ⟨sep.toArray⟩) ⟨s.toArray⟩).map Value.string = cells zC R := by
      rw [hR]
      generalize Go.Lib.splitB _ _ _ _ = l
      induction l with
      | nil => rfl
      | cons x l ih => obtain ⟨⟨x⟩⟩ := x; rw [List.map_cons, List.map_cons, ih]; rfl
    have hle := Go.Lib.countB_le ⟨sep.toArray⟩ hs.2 _ ⟨s.toArray⟩ (Nat.le_refl _)
    have hsz : (⟨s.toArray⟩ : ByteArray).size = s.length := rfl
    have hO := (Own.refl w0).newRow (cells zC R) 9 1 R.length (zbi (enc := zC) (sz := 1) (fun _ => rfl) R) (by unfold maxLen; omega)
    rw [hcells, ← hRl]
    exact ⟨_, _, rfl, hO⟩
  · cases hm
theorem zfc (s cs : Str) (R : Str) (w0 : World) (hG : zr w0) (hm : zdb s cs = some R) :
    Calls Tryz.prog 64 #[str s, str cs] w0 fun e w' => e = .returned (str R) ∧ Below w0.heap.size w0 w' := by
  unfold zdb at hm
  split at hm
  · rename_i hs
    refine (Any.strings_Trim_laid Tryz.lays160 (by kernel_rfl) ⟨s.toArray⟩ ⟨cs.toArray⟩ w0 (Nat.le_trans (Nat.le_of_lt hs.1) (by decide)) hs.2.1 (fun j b hb => ?_)).mono fun e w' ⟨he, hw⟩ => ?_
    · have := List.all_eq_true.1 hs.2.2 b (List.mem_of_getElem? hb)
      simpa using this
    · subst he
      cases hm
      exact ⟨rfl, hw⟩
  · cases hm
end Go.Proofs
end
