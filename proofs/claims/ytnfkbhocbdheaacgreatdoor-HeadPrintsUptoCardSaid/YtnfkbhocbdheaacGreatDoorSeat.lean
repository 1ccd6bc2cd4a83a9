/-
  Facts on the types and functions of this translation, one by one, by evaluation. Written by a program (wip/gen).
-/
import Derived.Test.YtnfkbhocbdheaacGreatDoorMox
import Derived.Test.YtnfkbhocbdheaacGreatDoorMdl
import Derived.Test.YtnfkbhocbdheaacGreatDoorProg
import Derived.KernelRfl
import Derived.Laws.StructEq
import Derived.Lib.LaidTab
import Derived.Lib.ItoaNum
set_option linter.unusedVariables false
set_option linter.unusedSimpArgs false
namespace Go.Proofs
open Go.Dk Go.Dm Go.RowKit

theorem var_same {P : Program} {w0 w : World} {n : String} {g : Nat} (hg : P.globalNamed n = some g) (h : w.heap[g]? = w0.heap[g]?) : w.var? P n = w0.var? P n := by
  unfold World.var?
  rw [hg]
  simp only [Option.bind_some, h]
/-- What is known of the package-level variables. -/
def Glob (w : World) : Prop := 6 ≤ w.heap.size ∧ (∃ m, w.cell? ⟨0, 0, none⟩ = some (.int .i64 m))
/-- Away from the package-level variables. -/
def Away (F : List Nat) : Prop := ∀ b ∈ F, 6 ≤ b
theorem away_nil : Away [] := fun b hb => by cases hb
theorem Glob.same {w0 w : World} (h : Glob w0) (hs : w0.heap.size ≤ w.heap.size) (hf : ∀ g, g < 6 → w.heap[g]? = w0.heap[g]?) : Glob w := by
  obtain ⟨h0, ⟨m, hm0⟩⟩ := h
  exact ⟨Nat.le_trans h0 hs, ⟨m, (World.cell?_of_block (w := w0) (a := ⟨0, 0, none⟩) (hf 0 (by omega))).trans hm0⟩⟩
theorem Glob.low {w0 w : World} {B : Nat} (h : Glob w0) (hB : 6 ≤ B) (hb : Below B w0 w) : Glob w :=
  h.same hb.size fun g hg => hb.block g (by omega)
theorem Glob.size {w : World} (h : Glob w) : 6 ≤ w.heap.size := h.1
theorem Glob.max {w : World} (h : Glob w) : (∃ m, w.cell? ⟨0, 0, none⟩ = some (.int .i64 m)) := h.2
theorem Glob.own {w0 w : World} {F : List Nat} {L : List Res} (h : Glob w0) (hF : Away F) (hO : Own w0 F w L) : Glob w :=
  h.same hO.size fun g hg => hO.frame g (by have := h.size; omega) (fun hm => absurd (hF g hm) (by omega))
/-- And of the table of tens. -/
def GlobT (w : World) : Prop := Glob w ∧ Go.Lib.TabIs Tryz.prog w "internal/strconv.uint64pow10" .u64 Go.Lib.pow10Tab
theorem GlobT.same {w0 w : World} (h : GlobT w0) (hs : w0.heap.size ≤ w.heap.size) (hf : ∀ g, g < 6 → w.heap[g]? = w0.heap[g]?) : GlobT w := by
  obtain ⟨h, hp⟩ := h
  exact ⟨h.same hs hf, by unfold Go.Lib.TabIs at hp ⊢; rw [← hp]; exact var_same (show Tryz.prog.globalNamed "internal/strconv.uint64pow10" = some 3 by kernel_rfl) (hf 3 (by omega))⟩
theorem GlobT.low {w0 w : World} {B : Nat} (h : GlobT w0) (hB : 6 ≤ B) (hb : Below B w0 w) : GlobT w :=
  h.same hb.size fun g hg => hb.block g (by omega)
theorem GlobT.size {w : World} (h : GlobT w) : 6 ≤ w.heap.size := h.1.size
theorem GlobT.own {w0 w : World} {F : List Nat} {L : List Res} (h : GlobT w0) (hF : Away F) (hO : Own w0 F w L) : GlobT w :=
  h.same hO.size fun g hg => hO.frame g (by have := h.size; omega) (fun hm => absurd (hF g hm) (by omega))
def enc_api_Field (x : api_Field) : List Value := [str x.Name, str x.Value]
def enc_byte (x : UInt8) : List Value := [byte x]
def enc_str (x : Str) : List Value := [str x]
theorem ag_121 : aggO Tryz.prog 121 = some true := by kernel_rfl
theorem ag_22 : aggO Tryz.prog 22 = some false := by kernel_rfl
theorem ag_23 : aggO Tryz.prog 23 = some false := by kernel_rfl
theorem ag_25 : aggO Tryz.prog 25 = some true := by kernel_rfl
theorem ag_3 : aggO Tryz.prog 3 = some false := by kernel_rfl
theorem ag_4 : aggO Tryz.prog 4 = some false := by kernel_rfl
theorem ag_44 : aggO Tryz.prog 44 = some true := by kernel_rfl
theorem ag_46 : aggO Tryz.prog 46 = some false := by kernel_rfl
theorem ag_66 : aggO Tryz.prog 66 = some false := by kernel_rfl
theorem ag_79 : aggO Tryz.prog 79 = some false := by kernel_rfl
theorem ag_81 : aggO Tryz.prog 81 = some true := by kernel_rfl
theorem ag_9 : aggO Tryz.prog 9 = some false := by kernel_rfl
theorem ag_91 : aggO Tryz.prog 91 = some false := by kernel_rfl
theorem ag_98 : aggO Tryz.prog 98 = some true := by kernel_rfl
theorem al_121 : ∀ w, (Instr.alloc 121 true (.tuple #[])).run Tryz.prog w = .ok (ptr w.heap.size 0) (w.alloc (.cells [.pointer none].toArray 121)) := fun w => by kernel_rfl
theorem al_25 : ∀ w, (Instr.alloc 25 true (.tuple #[])).run Tryz.prog w = .ok (ptr w.heap.size 0) (w.alloc (.cells [int 0, str [], str [], int 0, str [], int 0, .slice none 0 0].toArray 25)) := fun w => by kernel_rfl
theorem al_44 : ∀ w, (Instr.alloc 44 true (.tuple #[])).run Tryz.prog w = .ok (ptr w.heap.size 0) (w.alloc (.cells [str [], str []].toArray 44)) := fun w => by kernel_rfl
theorem al_81 : ∀ w, (Instr.alloc 81 true (.tuple #[])).run Tryz.prog w = .ok (ptr w.heap.size 0) (w.alloc (.cells [int 0, str [], int 0].toArray 81)) := fun w => by kernel_rfl
theorem al_98 : ∀ w, (Instr.alloc 98 true (.tuple #[])).run Tryz.prog w = .ok (ptr w.heap.size 0) (w.alloc (.cells [int 0, str [], int 0, str [], int 0, str [], str [], .bool false].toArray 98)) := fun w => by kernel_rfl
theorem ei_b66 : (Tryz.prog.info? 5).map (fun i => (i.zero, i.size, i.bytes)) = some (some (.int .u8 0), 1, 1) := by kernel_rfl
theorem eb_66_9 : ElemB Tryz.prog 66 9 5 := ⟨Tryz.underlying66, Tryz.underlying9, by obtain ⟨i, h0, h1, h2, h3⟩ := info_parts ei_b66; exact ⟨i, h0, h1, h2, h3⟩⟩
theorem ei_23 : (Tryz.prog.info? 44).map (fun i => (i.zero, i.size, i.bytes)) = some (some (.agg #[str [], str []]), 2, 32) := by kernel_rfl
theorem el_23 : Elem Tryz.prog 23 44 2 32 := ⟨Tryz.underlying23, by obtain ⟨i, h0, h1, h2, h3⟩ := info_parts ei_23; exact ⟨i, _, h0, h1, h2, h3, rfl⟩, by decide⟩
theorem ei_61 : (Tryz.prog.info? 9).map (fun i => (i.zero, i.size, i.bytes)) = some (some (str []), 1, 16) := by kernel_rfl
theorem el_61 : Elem Tryz.prog 61 9 1 16 := ⟨Tryz.underlying61, by obtain ⟨i, h0, h1, h2, h3⟩ := info_parts ei_61; exact ⟨i, _, h0, h1, h2, h3, rfl⟩, by decide⟩
theorem ei_66 : (Tryz.prog.info? 5).map (fun i => (i.zero, i.size, i.bytes)) = some (some (byte 0), 1, 1) := by kernel_rfl
theorem el_66 : Elem Tryz.prog 66 5 1 1 := ⟨Tryz.underlying66, by obtain ⟨i, h0, h1, h2, h3⟩ := info_parts ei_66; exact ⟨i, _, h0, h1, h2, h3, rfl⟩, by decide⟩
theorem eqd_44 (d : Nat) (x y : api_Field) (w : World) : (Op.equalIn (d + 2) 44 (.agg #[str x.Name, str x.Value]) (.agg #[str y.Name, str y.Value])).run Tryz.prog w = .ok (x == y) w := by
  obtain ⟨x0, x1⟩ := x
  obtain ⟨y0, y1⟩ := y
  show (Op.equalIn (d + 1 + 1) 44 _ _).run _ _ = _
  rw [run_equalIn_struct w (d + 1) 44 _ _ (by kernel_rfl) (by kernel_rfl)]
  have e : ((⟨x0, x1⟩ : api_Field) == ⟨y0, y1⟩) = decide (x0 = y0 ∧ x1 = y1) := by
    show decide (_ = _) = _
    exact decide_eq_decide.2 (by simp)
  rw [e]
  simp only [Program.fieldsOf, Tryz.underlying44, Op.eqFields]
  simp [part, Tryz.isAgg9, Tryz.underlying9, run_equalIn_string, run_equalIn_bool', run_equalIn_int, str_toList, Result.andThen, byte_eq]
  by_cases h0 : x0 = y0 <;> by_cases h1 : x1 = y1 <;> simp [h0, h1]
theorem eq_44 (x y : api_Field) (w : World) : (Op.equalIn 10000 44 (.agg #[str x.Name, str x.Value]) (.agg #[str y.Name, str y.Value])).run Tryz.prog w = .ok (x == y) w := eqd_44 9998 x y w
theorem fa_121_0 : ∀ b o w, (Instr.fieldAt 121 (ptr b o) 0).run Tryz.prog w = .ok (ptr b (o + 0)) w := fun b o w => by kernel_rfl
theorem fa_135_0 : ∀ b o w, (Instr.fieldAt 135 (ptr b o) 0).run Tryz.prog w = .ok (ptr b (o + 0)) w := fun b o w => by kernel_rfl
theorem fa_135_1 : ∀ b o w, (Instr.fieldAt 135 (ptr b o) 1).run Tryz.prog w = .ok (ptr b (o + 1)) w := fun b o w => by kernel_rfl
theorem fa_158_0 : ∀ b o w, (Instr.fieldAt 158 (ptr b o) 0).run Tryz.prog w = .ok (ptr b (o + 0)) w := fun b o w => by kernel_rfl
theorem fa_25_0 : ∀ b o w, (Instr.fieldAt 25 (ptr b o) 0).run Tryz.prog w = .ok (ptr b (o + 0)) w := fun b o w => by kernel_rfl
theorem fa_25_1 : ∀ b o w, (Instr.fieldAt 25 (ptr b o) 1).run Tryz.prog w = .ok (ptr b (o + 1)) w := fun b o w => by kernel_rfl
theorem fa_25_2 : ∀ b o w, (Instr.fieldAt 25 (ptr b o) 2).run Tryz.prog w = .ok (ptr b (o + 2)) w := fun b o w => by kernel_rfl
theorem fa_25_3 : ∀ b o w, (Instr.fieldAt 25 (ptr b o) 3).run Tryz.prog w = .ok (ptr b (o + 3)) w := fun b o w => by kernel_rfl
theorem fa_25_4 : ∀ b o w, (Instr.fieldAt 25 (ptr b o) 4).run Tryz.prog w = .ok (ptr b (o + 4)) w := fun b o w => by kernel_rfl
theorem fa_25_5 : ∀ b o w, (Instr.fieldAt 25 (ptr b o) 5).run Tryz.prog w = .ok (ptr b (o + 5)) w := fun b o w => by kernel_rfl
theorem fa_25_6 : ∀ b o w, (Instr.fieldAt 25 (ptr b o) 6).run Tryz.prog w = .ok (ptr b (o + 6)) w := fun b o w => by kernel_rfl
theorem fa_44_0 : ∀ b o w, (Instr.fieldAt 44 (ptr b o) 0).run Tryz.prog w = .ok (ptr b (o + 0)) w := fun b o w => by kernel_rfl
theorem fa_44_1 : ∀ b o w, (Instr.fieldAt 44 (ptr b o) 1).run Tryz.prog w = .ok (ptr b (o + 1)) w := fun b o w => by kernel_rfl
theorem fa_49_0 : ∀ b o w, (Instr.fieldAt 49 (ptr b o) 0).run Tryz.prog w = .ok (ptr b (o + 0)) w := fun b o w => by kernel_rfl
theorem fa_49_1 : ∀ b o w, (Instr.fieldAt 49 (ptr b o) 1).run Tryz.prog w = .ok (ptr b (o + 1)) w := fun b o w => by kernel_rfl
theorem fa_72_0 : ∀ b o w, (Instr.fieldAt 72 (ptr b o) 0).run Tryz.prog w = .ok (ptr b (o + 0)) w := fun b o w => by kernel_rfl
theorem fa_72_1 : ∀ b o w, (Instr.fieldAt 72 (ptr b o) 1).run Tryz.prog w = .ok (ptr b (o + 1)) w := fun b o w => by kernel_rfl
theorem fa_81_0 : ∀ b o w, (Instr.fieldAt 81 (ptr b o) 0).run Tryz.prog w = .ok (ptr b (o + 0)) w := fun b o w => by kernel_rfl
theorem fa_81_1 : ∀ b o w, (Instr.fieldAt 81 (ptr b o) 1).run Tryz.prog w = .ok (ptr b (o + 1)) w := fun b o w => by kernel_rfl
theorem fa_81_2 : ∀ b o w, (Instr.fieldAt 81 (ptr b o) 2).run Tryz.prog w = .ok (ptr b (o + 2)) w := fun b o w => by kernel_rfl
theorem fa_98_1 : ∀ b o w, (Instr.fieldAt 98 (ptr b o) 1).run Tryz.prog w = .ok (ptr b (o + 1)) w := fun b o w => by kernel_rfl
theorem fa_98_2 : ∀ b o w, (Instr.fieldAt 98 (ptr b o) 2).run Tryz.prog w = .ok (ptr b (o + 2)) w := fun b o w => by kernel_rfl
theorem fa_98_3 : ∀ b o w, (Instr.fieldAt 98 (ptr b o) 3).run Tryz.prog w = .ok (ptr b (o + 5)) w := fun b o w => by kernel_rfl
theorem fa_98_4 : ∀ b o w, (Instr.fieldAt 98 (ptr b o) 4).run Tryz.prog w = .ok (ptr b (o + 6)) w := fun b o w => by kernel_rfl
theorem fa_98_5 : ∀ b o w, (Instr.fieldAt 98 (ptr b o) 5).run Tryz.prog w = .ok (ptr b (o + 7)) w := fun b o w => by kernel_rfl
theorem sz_121 : sizeO Tryz.prog 121 = some 1 := by kernel_rfl
theorem sz_23 : sizeO Tryz.prog 23 = some 1 := by kernel_rfl
theorem sz_25 : sizeO Tryz.prog 25 = some 7 := by kernel_rfl
theorem sz_3 : sizeO Tryz.prog 3 = some 1 := by kernel_rfl
theorem sz_4 : sizeO Tryz.prog 4 = some 1 := by kernel_rfl
theorem sz_44 : sizeO Tryz.prog 44 = some 2 := by kernel_rfl
theorem sz_66 : sizeO Tryz.prog 66 = some 1 := by kernel_rfl
theorem sz_79 : sizeO Tryz.prog 79 = some 1 := by kernel_rfl
theorem sz_81 : sizeO Tryz.prog 81 = some 3 := by kernel_rfl
theorem sz_9 : sizeO Tryz.prog 9 = some 1 := by kernel_rfl
theorem sz_98 : sizeO Tryz.prog 98 = some 8 := by kernel_rfl
theorem c_7 : Callable Tryz.prog 7 := ⟨Tryz.f7, Tryz.func7, rfl, by kernel_rfl⟩
theorem c_9 : Callable Tryz.prog 9 := ⟨Tryz.f9, Tryz.func9, rfl, by kernel_rfl⟩
theorem c_11 : Callable Tryz.prog 11 := ⟨Tryz.f11, Tryz.func11, rfl, by kernel_rfl⟩
theorem c_13 : Callable Tryz.prog 13 := ⟨Tryz.f13, Tryz.func13, rfl, by kernel_rfl⟩
theorem c_14 : Callable Tryz.prog 14 := ⟨Tryz.f14, Tryz.func14, rfl, by kernel_rfl⟩
theorem c_15 : Callable Tryz.prog 15 := ⟨Tryz.f15, Tryz.func15, rfl, by kernel_rfl⟩
theorem c_19 : Callable Tryz.prog 19 := ⟨Tryz.f19, Tryz.func19, rfl, by kernel_rfl⟩
theorem c_20 : Callable Tryz.prog 20 := ⟨Tryz.f20, Tryz.func20, rfl, by kernel_rfl⟩
theorem c_21 : Callable Tryz.prog 21 := ⟨Tryz.f21, Tryz.func21, rfl, by kernel_rfl⟩
theorem c_22 : Callable Tryz.prog 22 := ⟨Tryz.f22, Tryz.func22, rfl, by kernel_rfl⟩
theorem c_23 : Callable Tryz.prog 23 := ⟨Tryz.f23, Tryz.func23, rfl, by kernel_rfl⟩
theorem c_27 : Callable Tryz.prog 27 := ⟨Tryz.f27, Tryz.func27, rfl, by kernel_rfl⟩
theorem c_28 : Callable Tryz.prog 28 := ⟨Tryz.f28, Tryz.func28, rfl, by kernel_rfl⟩
theorem c_30 : Callable Tryz.prog 30 := ⟨Tryz.f30, Tryz.func30, rfl, by kernel_rfl⟩
theorem c_31 : Callable Tryz.prog 31 := ⟨Tryz.f31, Tryz.func31, rfl, by kernel_rfl⟩
theorem c_32 : Callable Tryz.prog 32 := ⟨Tryz.f32, Tryz.func32, rfl, by kernel_rfl⟩
theorem c_33 : Callable Tryz.prog 33 := ⟨Tryz.f33, Tryz.func33, rfl, by kernel_rfl⟩
theorem c_34 : Callable Tryz.prog 34 := ⟨Tryz.f34, Tryz.func34, rfl, by kernel_rfl⟩
theorem c_35 : Callable Tryz.prog 35 := ⟨Tryz.f35, Tryz.func35, rfl, by kernel_rfl⟩
theorem c_40 : Callable Tryz.prog 40 := ⟨Tryz.f40, Tryz.func40, rfl, by kernel_rfl⟩
theorem c_41 : Callable Tryz.prog 41 := ⟨Tryz.f41, Tryz.func41, rfl, by kernel_rfl⟩
theorem c_42 : Callable Tryz.prog 42 := ⟨Tryz.f42, Tryz.func42, rfl, by kernel_rfl⟩
theorem c_49 : Callable Tryz.prog 49 := ⟨Tryz.f49, Tryz.func49, rfl, by kernel_rfl⟩
theorem c_50 : Callable Tryz.prog 50 := ⟨Tryz.f50, Tryz.func50, rfl, by kernel_rfl⟩
theorem c_51 : Callable Tryz.prog 51 := ⟨Tryz.f51, Tryz.func51, rfl, by kernel_rfl⟩
theorem c_52 : Callable Tryz.prog 52 := ⟨Tryz.f52, Tryz.func52, rfl, by kernel_rfl⟩
theorem c_53 : Callable Tryz.prog 53 := ⟨Tryz.f53, Tryz.func53, rfl, by kernel_rfl⟩
theorem c_54 : Callable Tryz.prog 54 := ⟨Tryz.f54, Tryz.func54, rfl, by kernel_rfl⟩
theorem c_55 : Callable Tryz.prog 55 := ⟨Tryz.f55, Tryz.func55, rfl, by kernel_rfl⟩
theorem c_56 : Callable Tryz.prog 56 := ⟨Tryz.f56, Tryz.func56, rfl, by kernel_rfl⟩
theorem c_59 : Callable Tryz.prog 59 := ⟨Tryz.f59, Tryz.func59, rfl, by kernel_rfl⟩
theorem c_60 : Callable Tryz.prog 60 := ⟨Tryz.f60, Tryz.func60, rfl, by kernel_rfl⟩
theorem c_61 : Callable Tryz.prog 61 := ⟨Tryz.f61, Tryz.func61, rfl, by kernel_rfl⟩
theorem c_62 : Callable Tryz.prog 62 := ⟨Tryz.f62, Tryz.func62, rfl, by kernel_rfl⟩
theorem c_63 : Callable Tryz.prog 63 := ⟨Tryz.f63, Tryz.func63, rfl, by kernel_rfl⟩
theorem c_70 : Callable Tryz.prog 70 := ⟨Tryz.f70, Tryz.func70, rfl, by kernel_rfl⟩
theorem c_71 : Callable Tryz.prog 71 := ⟨Tryz.f71, Tryz.func71, rfl, by kernel_rfl⟩
theorem c_72 : Callable Tryz.prog 72 := ⟨Tryz.f72, Tryz.func72, rfl, by kernel_rfl⟩
theorem c_78 : Callable Tryz.prog 78 := ⟨Tryz.f78, Tryz.func78, rfl, by kernel_rfl⟩
theorem c_79 : Callable Tryz.prog 79 := ⟨Tryz.f79, Tryz.func79, rfl, by kernel_rfl⟩
theorem c_80 : Callable Tryz.prog 80 := ⟨Tryz.f80, Tryz.func80, rfl, by kernel_rfl⟩
theorem c_88 : Callable Tryz.prog 88 := ⟨Tryz.f88, Tryz.func88, rfl, by kernel_rfl⟩
theorem c_89 : Callable Tryz.prog 89 := ⟨Tryz.f89, Tryz.func89, rfl, by kernel_rfl⟩
theorem c_90 : Callable Tryz.prog 90 := ⟨Tryz.f90, Tryz.func90, rfl, by kernel_rfl⟩
theorem c_91 : Callable Tryz.prog 91 := ⟨Tryz.f91, Tryz.func91, rfl, by kernel_rfl⟩
theorem c_92 : Callable Tryz.prog 92 := ⟨Tryz.f92, Tryz.func92, rfl, by kernel_rfl⟩
theorem c_93 : Callable Tryz.prog 93 := ⟨Tryz.f93, Tryz.func93, rfl, by kernel_rfl⟩
theorem c_94 : Callable Tryz.prog 94 := ⟨Tryz.f94, Tryz.func94, rfl, by kernel_rfl⟩
theorem c_95 : Callable Tryz.prog 95 := ⟨Tryz.f95, Tryz.func95, rfl, by kernel_rfl⟩
theorem c_96 : Callable Tryz.prog 96 := ⟨Tryz.f96, Tryz.func96, rfl, by kernel_rfl⟩
theorem c_97 : Callable Tryz.prog 97 := ⟨Tryz.f97, Tryz.func97, rfl, by kernel_rfl⟩
theorem c_98 : Callable Tryz.prog 98 := ⟨Tryz.f98, Tryz.func98, rfl, by kernel_rfl⟩
theorem c_99 : Callable Tryz.prog 99 := ⟨Tryz.f99, Tryz.func99, rfl, by kernel_rfl⟩
theorem c_100 : Callable Tryz.prog 100 := ⟨Tryz.f100, Tryz.func100, rfl, by kernel_rfl⟩
theorem c_101 : Callable Tryz.prog 101 := ⟨Tryz.f101, Tryz.func101, rfl, by kernel_rfl⟩
theorem c_108 : Callable Tryz.prog 108 := ⟨Tryz.f108, Tryz.func108, rfl, by kernel_rfl⟩
theorem c_116 : Callable Tryz.prog 116 := ⟨Tryz.f116, Tryz.func116, rfl, by kernel_rfl⟩
theorem c_120 : Callable Tryz.prog 120 := ⟨Tryz.f120, Tryz.func120, rfl, by kernel_rfl⟩
theorem c_125 : Callable Tryz.prog 125 := ⟨Tryz.f125, Tryz.func125, rfl, by kernel_rfl⟩
theorem c_126 : Callable Tryz.prog 126 := ⟨Tryz.f126, Tryz.func126, rfl, by kernel_rfl⟩
theorem c_131 : Callable Tryz.prog 131 := ⟨Tryz.f131, Tryz.func131, rfl, by kernel_rfl⟩
theorem c_132 : Callable Tryz.prog 132 := ⟨Tryz.f132, Tryz.func132, rfl, by kernel_rfl⟩
theorem c_133 : Callable Tryz.prog 133 := ⟨Tryz.f133, Tryz.func133, rfl, by kernel_rfl⟩
theorem c_134 : Callable Tryz.prog 134 := ⟨Tryz.f134, Tryz.func134, rfl, by kernel_rfl⟩
theorem c_135 : Callable Tryz.prog 135 := ⟨Tryz.f135, Tryz.func135, rfl, by kernel_rfl⟩
theorem c_138 : Callable Tryz.prog 138 := ⟨Tryz.f138, Tryz.func138, rfl, by kernel_rfl⟩
theorem c_139 : Callable Tryz.prog 139 := ⟨Tryz.f139, Tryz.func139, rfl, by kernel_rfl⟩
theorem c_140 : Callable Tryz.prog 140 := ⟨Tryz.f140, Tryz.func140, rfl, by kernel_rfl⟩
theorem c_141 : Callable Tryz.prog 141 := ⟨Tryz.f141, Tryz.func141, rfl, by kernel_rfl⟩
theorem c_143 : Callable Tryz.prog 143 := ⟨Tryz.f143, Tryz.func143, rfl, by kernel_rfl⟩
theorem c_158 : Callable Tryz.prog 158 := ⟨Tryz.f158, Tryz.func158, rfl, by kernel_rfl⟩
theorem c_159 : Callable Tryz.prog 159 := ⟨Tryz.f159, Tryz.func159, rfl, by kernel_rfl⟩
theorem c_162 : Callable Tryz.prog 162 := ⟨Tryz.f162, Tryz.func162, rfl, by kernel_rfl⟩
theorem c_163 : Callable Tryz.prog 163 := ⟨Tryz.f163, Tryz.func163, rfl, by kernel_rfl⟩
theorem c_164 : Callable Tryz.prog 164 := ⟨Tryz.f164, Tryz.func164, rfl, by kernel_rfl⟩
theorem c_165 : Callable Tryz.prog 165 := ⟨Tryz.f165, Tryz.func165, rfl, by kernel_rfl⟩
theorem c_167 : Callable Tryz.prog 167 := ⟨Tryz.f167, Tryz.func167, rfl, by kernel_rfl⟩
theorem c_168 : Callable Tryz.prog 168 := ⟨Tryz.f168, Tryz.func168, rfl, by kernel_rfl⟩
theorem c_169 : Callable Tryz.prog 169 := ⟨Tryz.f169, Tryz.func169, rfl, by kernel_rfl⟩
theorem c_170 : Callable Tryz.prog 170 := ⟨Tryz.f170, Tryz.func170, rfl, by kernel_rfl⟩
theorem c_171 : Callable Tryz.prog 171 := ⟨Tryz.f171, Tryz.func171, rfl, by kernel_rfl⟩
theorem c_172 : Callable Tryz.prog 172 := ⟨Tryz.f172, Tryz.func172, rfl, by kernel_rfl⟩
theorem c_180 : Callable Tryz.prog 180 := ⟨Tryz.f180, Tryz.func180, rfl, by kernel_rfl⟩
theorem c_182 : Callable Tryz.prog 182 := ⟨Tryz.f182, Tryz.func182, rfl, by kernel_rfl⟩
theorem c_183 : Callable Tryz.prog 183 := ⟨Tryz.f183, Tryz.func183, rfl, by kernel_rfl⟩
theorem c_184 : Callable Tryz.prog 184 := ⟨Tryz.f184, Tryz.func184, rfl, by kernel_rfl⟩
theorem c_185 : Callable Tryz.prog 185 := ⟨Tryz.f185, Tryz.func185, rfl, by kernel_rfl⟩
theorem c_186 : Callable Tryz.prog 186 := ⟨Tryz.f186, Tryz.func186, rfl, by kernel_rfl⟩
theorem c_192 : Callable Tryz.prog 192 := ⟨Tryz.f192, Tryz.func192, rfl, by kernel_rfl⟩
theorem c_194 : Callable Tryz.prog 194 := ⟨Tryz.f194, Tryz.func194, rfl, by kernel_rfl⟩
theorem c_195 : Callable Tryz.prog 195 := ⟨Tryz.f195, Tryz.func195, rfl, by kernel_rfl⟩
theorem c_199 : Callable Tryz.prog 199 := ⟨Tryz.f199, Tryz.func199, rfl, by kernel_rfl⟩
theorem c_200 : Callable Tryz.prog 200 := ⟨Tryz.f200, Tryz.func200, rfl, by kernel_rfl⟩
end Go.Proofs
