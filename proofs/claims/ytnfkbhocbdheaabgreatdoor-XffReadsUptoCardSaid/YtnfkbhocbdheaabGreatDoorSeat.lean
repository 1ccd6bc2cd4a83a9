/-
  Facts on the types and functions of this translation, one by one, by evaluation. Written by a program (wip/gen).
-/
import Derived.Test.YtnfkbhocbdheaabGreatDoorMox
import Derived.Test.YtnfkbhocbdheaabGreatDoorMdl
import Derived.Test.YtnfkbhocbdheaabGreatDoorProg
import Derived.KernelRfl
import Derived.Laws.StructEq
import Derived.Lib.LaidTab
import Derived.Lib.ItoaNum
set_option linter.unusedVariables false
set_option linter.unusedSimpArgs false
namespace Go.Proofs
open Go.Dk Go.Dm Go.RowKit

theorem var_same {P : Program} {w0 w : World} {n : String} {g : Nat} (hg : P.globalNamed n = some g) (h : w.heap[g]? = w0.heap[g]?) : w.var? P n = w0.var? P n := by
  unfold World.var?
  rw [hg]
  simp only [Option.bind_some, h]
/-- What is known of the package-level variables. -/
def Glob (w : World) : Prop := 6 ≤ w.heap.size ∧ (∃ m, w.cell? ⟨0, 0, none⟩ = some (.int .i64 m))
/-- Away from the package-level variables. -/
def Away (F : List Nat) : Prop := ∀ b ∈ F, 6 ≤ b
theorem away_nil : Away [] := fun b hb => by cases hb
theorem Glob.same {w0 w : World} (h : Glob w0) (hs : w0.heap.size ≤ w.heap.size) (hf : ∀ g, g < 6 → w.heap[g]? = w0.heap[g]?) : Glob w := by
  obtain ⟨h0, ⟨m, hm0⟩⟩ := h
  exact ⟨Nat.le_trans h0 hs, ⟨m, (World.cell?_of_block (w := w0) (a := ⟨0, 0, none⟩) (hf 0 (by omega))).trans hm0⟩⟩
theorem Glob.low {w0 w : World} {B : Nat} (h : Glob w0) (hB : 6 ≤ B) (hb : Below B w0 w) : Glob w :=
  h.same hb.size fun g hg => hb.block g (by omega)
theorem Glob.size {w : World} (h : Glob w) : 6 ≤ w.heap.size := h.1
theorem Glob.max {w : World} (h : Glob w) : (∃ m, w.cell? ⟨0, 0, none⟩ = some (.int .i64 m)) := h.2
theorem Glob.own {w0 w : World} {F : List Nat} {L : List Res} (h : Glob w0) (hF : Away F) (hO : Own w0 F w L) : Glob w :=
  h.same hO.size fun g hg => hO.frame g (by have := h.size; omega) (fun hm => absurd (hF g hm) (by omega))
/-- And of the table of tens. -/
def GlobT (w : World) : Prop := Glob w ∧ Go.Lib.TabIs Tryz.prog w "internal/strconv.uint64pow10" .u64 Go.Lib.pow10Tab
theorem GlobT.same {w0 w : World} (h : GlobT w0) (hs : w0.heap.size ≤ w.heap.size) (hf : ∀ g, g < 6 → w.heap[g]? = w0.heap[g]?) : GlobT w := by
  obtain ⟨h, hp⟩ := h
  exact ⟨h.same hs hf, by unfold Go.Lib.TabIs at hp ⊢; rw [← hp]; exact var_same (show Tryz.prog.globalNamed "internal/strconv.uint64pow10" = some 1 by kernel_rfl) (hf 1 (by omega))⟩
theorem GlobT.low {w0 w : World} {B : Nat} (h : GlobT w0) (hB : 6 ≤ B) (hb : Below B w0 w) : GlobT w :=
  h.same hb.size fun g hg => hb.block g (by omega)
theorem GlobT.size {w : World} (h : GlobT w) : 6 ≤ w.heap.size := h.1.size
theorem GlobT.own {w0 w : World} {F : List Nat} {L : List Res} (h : GlobT w0) (hF : Away F) (hO : Own w0 F w L) : GlobT w :=
  h.same hO.size fun g hg => hO.frame g (by have := h.size; omega) (fun hm => absurd (hF g hm) (by omega))
def enc_api_Field (x : api_Field) : List Value := [str x.Name, str x.Value]
def enc_byte (x : UInt8) : List Value := [byte x]
def enc_str (x : Str) : List Value := [str x]
theorem ag_105 : aggO Tryz.prog 105 = some false := by kernel_rfl
theorem ag_25 : aggO Tryz.prog 25 = some false := by kernel_rfl
theorem ag_3 : aggO Tryz.prog 3 = some false := by kernel_rfl
theorem ag_40 : aggO Tryz.prog 40 = some false := by kernel_rfl
theorem ag_49 : aggO Tryz.prog 49 = some false := by kernel_rfl
theorem ag_86 : aggO Tryz.prog 86 = some true := by kernel_rfl
theorem ag_9 : aggO Tryz.prog 9 = some false := by kernel_rfl
theorem ei_25 : (Tryz.prog.info? 86).map (fun i => (i.zero, i.size, i.bytes)) = some (some (.agg #[str [], str []]), 2, 32) := by kernel_rfl
theorem el_25 : Elem Tryz.prog 25 86 2 32 := ⟨Tryz.underlying25, by obtain ⟨i, h0, h1, h2, h3⟩ := info_parts ei_25; exact ⟨i, _, h0, h1, h2, h3, rfl⟩, by decide⟩
theorem ei_40 : (Tryz.prog.info? 9).map (fun i => (i.zero, i.size, i.bytes)) = some (some (str []), 1, 16) := by kernel_rfl
theorem el_40 : Elem Tryz.prog 40 9 1 16 := ⟨Tryz.underlying40, by obtain ⟨i, h0, h1, h2, h3⟩ := info_parts ei_40; exact ⟨i, _, h0, h1, h2, h3, rfl⟩, by decide⟩
theorem ei_49 : (Tryz.prog.info? 5).map (fun i => (i.zero, i.size, i.bytes)) = some (some (byte 0), 1, 1) := by kernel_rfl
theorem el_49 : Elem Tryz.prog 49 5 1 1 := ⟨Tryz.underlying49, by obtain ⟨i, h0, h1, h2, h3⟩ := info_parts ei_49; exact ⟨i, _, h0, h1, h2, h3, rfl⟩, by decide⟩
theorem eqd_86 (d : Nat) (x y : api_Field) (w : World) : (Op.equalIn (d + 2) 86 (.agg #[str x.Name, str x.Value]) (.agg #[str y.Name, str y.Value])).run Tryz.prog w = .ok (x == y) w := by
  obtain ⟨x0, x1⟩ := x
  obtain ⟨y0, y1⟩ := y
  show (Op.equalIn (d + 1 + 1) 86 _ _).run _ _ = _
  rw [run_equalIn_struct w (d + 1) 86 _ _ (by kernel_rfl) (by kernel_rfl)]
  have e : ((⟨x0, x1⟩ : api_Field) == ⟨y0, y1⟩) = decide (x0 = y0 ∧ x1 = y1) := by
    show decide (_ = _) = _
    exact decide_eq_decide.2 (by simp)
  rw [e]
  simp only [Program.fieldsOf, Tryz.underlying86, Op.eqFields]
  simp [part, Tryz.isAgg9, Tryz.underlying9, run_equalIn_string, run_equalIn_bool', run_equalIn_int, str_toList, Result.andThen, byte_eq]
  by_cases h0 : x0 = y0 <;> by_cases h1 : x1 = y1 <;> simp [h0, h1]
theorem eq_86 (x y : api_Field) (w : World) : (Op.equalIn 10000 86 (.agg #[str x.Name, str x.Value]) (.agg #[str y.Name, str y.Value])).run Tryz.prog w = .ok (x == y) w := eqd_86 9998 x y w
theorem fa_134_0 : ∀ b o w, (Instr.fieldAt 134 (ptr b o) 0).run Tryz.prog w = .ok (ptr b (o + 0)) w := fun b o w => by kernel_rfl
theorem fa_134_1 : ∀ b o w, (Instr.fieldAt 134 (ptr b o) 1).run Tryz.prog w = .ok (ptr b (o + 1)) w := fun b o w => by kernel_rfl
theorem fa_134_2 : ∀ b o w, (Instr.fieldAt 134 (ptr b o) 2).run Tryz.prog w = .ok (ptr b (o + 2)) w := fun b o w => by kernel_rfl
theorem fa_134_3 : ∀ b o w, (Instr.fieldAt 134 (ptr b o) 3).run Tryz.prog w = .ok (ptr b (o + 3)) w := fun b o w => by kernel_rfl
theorem fa_151_0 : ∀ b o w, (Instr.fieldAt 151 (ptr b o) 0).run Tryz.prog w = .ok (ptr b (o + 0)) w := fun b o w => by kernel_rfl
theorem fa_151_1 : ∀ b o w, (Instr.fieldAt 151 (ptr b o) 1).run Tryz.prog w = .ok (ptr b (o + 1)) w := fun b o w => by kernel_rfl
theorem fa_170_0 : ∀ b o w, (Instr.fieldAt 170 (ptr b o) 0).run Tryz.prog w = .ok (ptr b (o + 0)) w := fun b o w => by kernel_rfl
theorem fa_195_0 : ∀ b o w, (Instr.fieldAt 195 (ptr b o) 0).run Tryz.prog w = .ok (ptr b (o + 0)) w := fun b o w => by kernel_rfl
theorem fa_195_1 : ∀ b o w, (Instr.fieldAt 195 (ptr b o) 1).run Tryz.prog w = .ok (ptr b (o + 1)) w := fun b o w => by kernel_rfl
theorem fa_86_0 : ∀ b o w, (Instr.fieldAt 86 (ptr b o) 0).run Tryz.prog w = .ok (ptr b (o + 0)) w := fun b o w => by kernel_rfl
theorem fa_86_1 : ∀ b o w, (Instr.fieldAt 86 (ptr b o) 1).run Tryz.prog w = .ok (ptr b (o + 1)) w := fun b o w => by kernel_rfl
theorem sz_25 : sizeO Tryz.prog 25 = some 1 := by kernel_rfl
theorem sz_3 : sizeO Tryz.prog 3 = some 1 := by kernel_rfl
theorem sz_40 : sizeO Tryz.prog 40 = some 1 := by kernel_rfl
theorem sz_49 : sizeO Tryz.prog 49 = some 1 := by kernel_rfl
theorem sz_86 : sizeO Tryz.prog 86 = some 2 := by kernel_rfl
theorem sz_9 : sizeO Tryz.prog 9 = some 1 := by kernel_rfl
theorem c_16 : Callable Tryz.prog 16 := ⟨Tryz.f16, Tryz.func16, rfl, by kernel_rfl⟩
theorem c_17 : Callable Tryz.prog 17 := ⟨Tryz.f17, Tryz.func17, rfl, by kernel_rfl⟩
theorem c_18 : Callable Tryz.prog 18 := ⟨Tryz.f18, Tryz.func18, rfl, by kernel_rfl⟩
theorem c_19 : Callable Tryz.prog 19 := ⟨Tryz.f19, Tryz.func19, rfl, by kernel_rfl⟩
theorem c_20 : Callable Tryz.prog 20 := ⟨Tryz.f20, Tryz.func20, rfl, by kernel_rfl⟩
theorem c_21 : Callable Tryz.prog 21 := ⟨Tryz.f21, Tryz.func21, rfl, by kernel_rfl⟩
theorem c_22 : Callable Tryz.prog 22 := ⟨Tryz.f22, Tryz.func22, rfl, by kernel_rfl⟩
theorem c_37 : Callable Tryz.prog 37 := ⟨Tryz.f37, Tryz.func37, rfl, by kernel_rfl⟩
theorem c_41 : Callable Tryz.prog 41 := ⟨Tryz.f41, Tryz.func41, rfl, by kernel_rfl⟩
theorem c_42 : Callable Tryz.prog 42 := ⟨Tryz.f42, Tryz.func42, rfl, by kernel_rfl⟩
theorem c_43 : Callable Tryz.prog 43 := ⟨Tryz.f43, Tryz.func43, rfl, by kernel_rfl⟩
theorem c_44 : Callable Tryz.prog 44 := ⟨Tryz.f44, Tryz.func44, rfl, by kernel_rfl⟩
theorem c_45 : Callable Tryz.prog 45 := ⟨Tryz.f45, Tryz.func45, rfl, by kernel_rfl⟩
theorem c_46 : Callable Tryz.prog 46 := ⟨Tryz.f46, Tryz.func46, rfl, by kernel_rfl⟩
theorem c_47 : Callable Tryz.prog 47 := ⟨Tryz.f47, Tryz.func47, rfl, by kernel_rfl⟩
theorem c_48 : Callable Tryz.prog 48 := ⟨Tryz.f48, Tryz.func48, rfl, by kernel_rfl⟩
theorem c_49 : Callable Tryz.prog 49 := ⟨Tryz.f49, Tryz.func49, rfl, by kernel_rfl⟩
theorem c_50 : Callable Tryz.prog 50 := ⟨Tryz.f50, Tryz.func50, rfl, by kernel_rfl⟩
theorem c_51 : Callable Tryz.prog 51 := ⟨Tryz.f51, Tryz.func51, rfl, by kernel_rfl⟩
theorem c_52 : Callable Tryz.prog 52 := ⟨Tryz.f52, Tryz.func52, rfl, by kernel_rfl⟩
theorem c_53 : Callable Tryz.prog 53 := ⟨Tryz.f53, Tryz.func53, rfl, by kernel_rfl⟩
theorem c_54 : Callable Tryz.prog 54 := ⟨Tryz.f54, Tryz.func54, rfl, by kernel_rfl⟩
theorem c_55 : Callable Tryz.prog 55 := ⟨Tryz.f55, Tryz.func55, rfl, by kernel_rfl⟩
theorem c_56 : Callable Tryz.prog 56 := ⟨Tryz.f56, Tryz.func56, rfl, by kernel_rfl⟩
theorem c_60 : Callable Tryz.prog 60 := ⟨Tryz.f60, Tryz.func60, rfl, by kernel_rfl⟩
theorem c_68 : Callable Tryz.prog 68 := ⟨Tryz.f68, Tryz.func68, rfl, by kernel_rfl⟩
theorem c_70 : Callable Tryz.prog 70 := ⟨Tryz.f70, Tryz.func70, rfl, by kernel_rfl⟩
theorem c_75 : Callable Tryz.prog 75 := ⟨Tryz.f75, Tryz.func75, rfl, by kernel_rfl⟩
theorem c_76 : Callable Tryz.prog 76 := ⟨Tryz.f76, Tryz.func76, rfl, by kernel_rfl⟩
theorem c_77 : Callable Tryz.prog 77 := ⟨Tryz.f77, Tryz.func77, rfl, by kernel_rfl⟩
theorem c_78 : Callable Tryz.prog 78 := ⟨Tryz.f78, Tryz.func78, rfl, by kernel_rfl⟩
theorem c_79 : Callable Tryz.prog 79 := ⟨Tryz.f79, Tryz.func79, rfl, by kernel_rfl⟩
theorem c_80 : Callable Tryz.prog 80 := ⟨Tryz.f80, Tryz.func80, rfl, by kernel_rfl⟩
theorem c_81 : Callable Tryz.prog 81 := ⟨Tryz.f81, Tryz.func81, rfl, by kernel_rfl⟩
theorem c_87 : Callable Tryz.prog 87 := ⟨Tryz.f87, Tryz.func87, rfl, by kernel_rfl⟩
theorem c_88 : Callable Tryz.prog 88 := ⟨Tryz.f88, Tryz.func88, rfl, by kernel_rfl⟩
theorem c_89 : Callable Tryz.prog 89 := ⟨Tryz.f89, Tryz.func89, rfl, by kernel_rfl⟩
theorem c_90 : Callable Tryz.prog 90 := ⟨Tryz.f90, Tryz.func90, rfl, by kernel_rfl⟩
theorem c_91 : Callable Tryz.prog 91 := ⟨Tryz.f91, Tryz.func91, rfl, by kernel_rfl⟩
theorem c_92 : Callable Tryz.prog 92 := ⟨Tryz.f92, Tryz.func92, rfl, by kernel_rfl⟩
theorem c_93 : Callable Tryz.prog 93 := ⟨Tryz.f93, Tryz.func93, rfl, by kernel_rfl⟩
theorem c_94 : Callable Tryz.prog 94 := ⟨Tryz.f94, Tryz.func94, rfl, by kernel_rfl⟩
theorem c_95 : Callable Tryz.prog 95 := ⟨Tryz.f95, Tryz.func95, rfl, by kernel_rfl⟩
theorem c_96 : Callable Tryz.prog 96 := ⟨Tryz.f96, Tryz.func96, rfl, by kernel_rfl⟩
theorem c_97 : Callable Tryz.prog 97 := ⟨Tryz.f97, Tryz.func97, rfl, by kernel_rfl⟩
theorem c_98 : Callable Tryz.prog 98 := ⟨Tryz.f98, Tryz.func98, rfl, by kernel_rfl⟩
theorem c_99 : Callable Tryz.prog 99 := ⟨Tryz.f99, Tryz.func99, rfl, by kernel_rfl⟩
theorem c_100 : Callable Tryz.prog 100 := ⟨Tryz.f100, Tryz.func100, rfl, by kernel_rfl⟩
theorem c_101 : Callable Tryz.prog 101 := ⟨Tryz.f101, Tryz.func101, rfl, by kernel_rfl⟩
theorem c_102 : Callable Tryz.prog 102 := ⟨Tryz.f102, Tryz.func102, rfl, by kernel_rfl⟩
theorem c_103 : Callable Tryz.prog 103 := ⟨Tryz.f103, Tryz.func103, rfl, by kernel_rfl⟩
theorem c_104 : Callable Tryz.prog 104 := ⟨Tryz.f104, Tryz.func104, rfl, by kernel_rfl⟩
theorem c_105 : Callable Tryz.prog 105 := ⟨Tryz.f105, Tryz.func105, rfl, by kernel_rfl⟩
theorem c_106 : Callable Tryz.prog 106 := ⟨Tryz.f106, Tryz.func106, rfl, by kernel_rfl⟩
theorem c_112 : Callable Tryz.prog 112 := ⟨Tryz.f112, Tryz.func112, rfl, by kernel_rfl⟩
theorem c_114 : Callable Tryz.prog 114 := ⟨Tryz.f114, Tryz.func114, rfl, by kernel_rfl⟩
theorem c_125 : Callable Tryz.prog 125 := ⟨Tryz.f125, Tryz.func125, rfl, by kernel_rfl⟩
theorem c_126 : Callable Tryz.prog 126 := ⟨Tryz.f126, Tryz.func126, rfl, by kernel_rfl⟩
theorem c_130 : Callable Tryz.prog 130 := ⟨Tryz.f130, Tryz.func130, rfl, by kernel_rfl⟩
theorem c_131 : Callable Tryz.prog 131 := ⟨Tryz.f131, Tryz.func131, rfl, by kernel_rfl⟩
theorem c_132 : Callable Tryz.prog 132 := ⟨Tryz.f132, Tryz.func132, rfl, by kernel_rfl⟩
theorem c_133 : Callable Tryz.prog 133 := ⟨Tryz.f133, Tryz.func133, rfl, by kernel_rfl⟩
theorem c_138 : Callable Tryz.prog 138 := ⟨Tryz.f138, Tryz.func138, rfl, by kernel_rfl⟩
theorem c_142 : Callable Tryz.prog 142 := ⟨Tryz.f142, Tryz.func142, rfl, by kernel_rfl⟩
theorem c_143 : Callable Tryz.prog 143 := ⟨Tryz.f143, Tryz.func143, rfl, by kernel_rfl⟩
theorem c_144 : Callable Tryz.prog 144 := ⟨Tryz.f144, Tryz.func144, rfl, by kernel_rfl⟩
theorem c_145 : Callable Tryz.prog 145 := ⟨Tryz.f145, Tryz.func145, rfl, by kernel_rfl⟩
theorem c_146 : Callable Tryz.prog 146 := ⟨Tryz.f146, Tryz.func146, rfl, by kernel_rfl⟩
theorem c_147 : Callable Tryz.prog 147 := ⟨Tryz.f147, Tryz.func147, rfl, by kernel_rfl⟩
theorem c_148 : Callable Tryz.prog 148 := ⟨Tryz.f148, Tryz.func148, rfl, by kernel_rfl⟩
theorem c_149 : Callable Tryz.prog 149 := ⟨Tryz.f149, Tryz.func149, rfl, by kernel_rfl⟩
theorem c_152 : Callable Tryz.prog 152 := ⟨Tryz.f152, Tryz.func152, rfl, by kernel_rfl⟩
theorem c_153 : Callable Tryz.prog 153 := ⟨Tryz.f153, Tryz.func153, rfl, by kernel_rfl⟩
theorem c_154 : Callable Tryz.prog 154 := ⟨Tryz.f154, Tryz.func154, rfl, by kernel_rfl⟩
theorem c_179 : Callable Tryz.prog 179 := ⟨Tryz.f179, Tryz.func179, rfl, by kernel_rfl⟩
theorem c_185 : Callable Tryz.prog 185 := ⟨Tryz.f185, Tryz.func185, rfl, by kernel_rfl⟩
theorem c_186 : Callable Tryz.prog 186 := ⟨Tryz.f186, Tryz.func186, rfl, by kernel_rfl⟩
theorem c_187 : Callable Tryz.prog 187 := ⟨Tryz.f187, Tryz.func187, rfl, by kernel_rfl⟩
theorem c_188 : Callable Tryz.prog 188 := ⟨Tryz.f188, Tryz.func188, rfl, by kernel_rfl⟩
end Go.Proofs
