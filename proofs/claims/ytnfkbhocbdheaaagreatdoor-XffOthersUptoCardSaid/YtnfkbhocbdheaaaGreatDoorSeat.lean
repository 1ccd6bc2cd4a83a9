/-
  Facts on the types and functions of this translation, one by one, by evaluation. Written by a program (wip/gen).
-/
import Derived.Test.YtnfkbhocbdheaaaGreatDoorMox
import Derived.Test.YtnfkbhocbdheaaaGreatDoorMdl
import Derived.Test.YtnfkbhocbdheaaaGreatDoorProg
import Derived.KernelRfl
import Derived.Laws.StructEq
import Derived.Lib.LaidTab
import Derived.Lib.ItoaNum
set_option linter.unusedVariables false
set_option linter.unusedSimpArgs false
namespace Go.Proofs
open Go.Dk Go.Dm Go.RowKit

theorem var_same {P : Program} {w0 w : World} {n : String} {g : Nat} (hg : P.globalNamed n = some g) (h : w.heap[g]? = w0.heap[g]?) : w.var? P n = w0.var? P n := by
  unfold World.var?
  rw [hg]
  simp only [Option.bind_some, h]
/-- What is known of the package-level variables. -/
def Glob (w : World) : Prop := 6 ≤ w.heap.size ∧ (∃ m, w.cell? ⟨0, 0, none⟩ = some (.int .i64 m))
/-- Away from the package-level variables. -/
def Away (F : List Nat) : Prop := ∀ b ∈ F, 6 ≤ b
theorem away_nil : Away [] := fun b hb => by cases hb
theorem Glob.same {w0 w : World} (h : Glob w0) (hs : w0.heap.size ≤ w.heap.size) (hf : ∀ g, g < 6 → w.heap[g]? = w0.heap[g]?) : Glob w := by
  obtain ⟨h0, ⟨m, hm0⟩⟩ := h
  exact ⟨Nat.le_trans h0 hs, ⟨m, (World.cell?_of_block (w := w0) (a := ⟨0, 0, none⟩) (hf 0 (by omega))).trans hm0⟩⟩
theorem Glob.low {w0 w : World} {B : Nat} (h : Glob w0) (hB : 6 ≤ B) (hb : Below B w0 w) : Glob w :=
  h.same hb.size fun g hg => hb.block g (by omega)
theorem Glob.size {w : World} (h : Glob w) : 6 ≤ w.heap.size := h.1
theorem Glob.max {w : World} (h : Glob w) : (∃ m, w.cell? ⟨0, 0, none⟩ = some (.int .i64 m)) := h.2
theorem Glob.own {w0 w : World} {F : List Nat} {L : List Res} (h : Glob w0) (hF : Away F) (hO : Own w0 F w L) : Glob w :=
  h.same hO.size fun g hg => hO.frame g (by have := h.size; omega) (fun hm => absurd (hF g hm) (by omega))
/-- And of the table of tens. -/
def GlobT (w : World) : Prop := Glob w ∧ Go.Lib.TabIs Tryz.prog w "internal/strconv.uint64pow10" .u64 Go.Lib.pow10Tab
theorem GlobT.same {w0 w : World} (h : GlobT w0) (hs : w0.heap.size ≤ w.heap.size) (hf : ∀ g, g < 6 → w.heap[g]? = w0.heap[g]?) : GlobT w := by
  obtain ⟨h, hp⟩ := h
  exact ⟨h.same hs hf, by unfold Go.Lib.TabIs at hp ⊢; rw [← hp]; exact var_same (show Tryz.prog.globalNamed "internal/strconv.uint64pow10" = some 1 by kernel_rfl) (hf 1 (by omega))⟩
theorem GlobT.low {w0 w : World} {B : Nat} (h : GlobT w0) (hB : 6 ≤ B) (hb : Below B w0 w) : GlobT w :=
  h.same hb.size fun g hg => hb.block g (by omega)
theorem GlobT.size {w : World} (h : GlobT w) : 6 ≤ w.heap.size := h.1.size
theorem GlobT.own {w0 w : World} {F : List Nat} {L : List Res} (h : GlobT w0) (hF : Away F) (hO : Own w0 F w L) : GlobT w :=
  h.same hO.size fun g hg => hO.frame g (by have := h.size; omega) (fun hm => absurd (hF g hm) (by omega))
def enc_api_Field (x : api_Field) : List Value := [str x.Name, str x.Value]
def enc_byte (x : UInt8) : List Value := [byte x]
def enc_str (x : Str) : List Value := [str x]
theorem ag_129 : aggO Tryz.prog 129 = some false := by kernel_rfl
theorem ag_3 : aggO Tryz.prog 3 = some false := by kernel_rfl
theorem ag_43 : aggO Tryz.prog 43 = some false := by kernel_rfl
theorem ag_45 : aggO Tryz.prog 45 = some true := by kernel_rfl
theorem ag_54 : aggO Tryz.prog 54 = some false := by kernel_rfl
theorem ag_63 : aggO Tryz.prog 63 = some true := by kernel_rfl
theorem ag_9 : aggO Tryz.prog 9 = some false := by kernel_rfl
theorem ag_99 : aggO Tryz.prog 99 = some false := by kernel_rfl
theorem al_45 : ∀ w, (Instr.alloc 45 true (.tuple #[])).run Tryz.prog w = .ok (ptr w.heap.size 0) (w.alloc (.cells [int 0, str [], str [], int 0, str [], int 0, .slice none 0 0].toArray 45)) := fun w => by kernel_rfl
theorem ei_129 : (Tryz.prog.info? 5).map (fun i => (i.zero, i.size, i.bytes)) = some (some (byte 0), 1, 1) := by kernel_rfl
theorem el_129 : Elem Tryz.prog 129 5 1 1 := ⟨Tryz.underlying129, by obtain ⟨i, h0, h1, h2, h3⟩ := info_parts ei_129; exact ⟨i, _, h0, h1, h2, h3, rfl⟩, by decide⟩
theorem ei_43 : (Tryz.prog.info? 63).map (fun i => (i.zero, i.size, i.bytes)) = some (some (.agg #[str [], str []]), 2, 32) := by kernel_rfl
theorem el_43 : Elem Tryz.prog 43 63 2 32 := ⟨Tryz.underlying43, by obtain ⟨i, h0, h1, h2, h3⟩ := info_parts ei_43; exact ⟨i, _, h0, h1, h2, h3, rfl⟩, by decide⟩
theorem ei_54 : (Tryz.prog.info? 9).map (fun i => (i.zero, i.size, i.bytes)) = some (some (str []), 1, 16) := by kernel_rfl
theorem el_54 : Elem Tryz.prog 54 9 1 16 := ⟨Tryz.underlying54, by obtain ⟨i, h0, h1, h2, h3⟩ := info_parts ei_54; exact ⟨i, _, h0, h1, h2, h3, rfl⟩, by decide⟩
theorem eqd_63 (d : Nat) (x y : api_Field) (w : World) : (Op.equalIn (d + 2) 63 (.agg #[str x.Name, str x.Value]) (.agg #[str y.Name, str y.Value])).run Tryz.prog w = .ok (x == y) w := by
  obtain ⟨x0, x1⟩ := x
  obtain ⟨y0, y1⟩ := y
  show (Op.equalIn (d + 1 + 1) 63 _ _).run _ _ = _
  rw [run_equalIn_struct w (d + 1) 63 _ _ (by kernel_rfl) (by kernel_rfl)]
  have e : ((⟨x0, x1⟩ : api_Field) == ⟨y0, y1⟩) = decide (x0 = y0 ∧ x1 = y1) := by
    show decide (_ = _) = _
    exact decide_eq_decide.2 (by simp)
  rw [e]
  simp only [Program.fieldsOf, Tryz.underlying63, Op.eqFields]
  simp [part, Tryz.isAgg9, Tryz.underlying9, run_equalIn_string, run_equalIn_bool', run_equalIn_int, str_toList, Result.andThen, byte_eq]
  by_cases h0 : x0 = y0 <;> by_cases h1 : x1 = y1 <;> simp [h0, h1]
theorem eq_63 (x y : api_Field) (w : World) : (Op.equalIn 10000 63 (.agg #[str x.Name, str x.Value]) (.agg #[str y.Name, str y.Value])).run Tryz.prog w = .ok (x == y) w := eqd_63 9998 x y w
theorem fa_114_0 : ∀ b o w, (Instr.fieldAt 114 (ptr b o) 0).run Tryz.prog w = .ok (ptr b (o + 0)) w := fun b o w => by kernel_rfl
theorem fa_119_0 : ∀ b o w, (Instr.fieldAt 119 (ptr b o) 0).run Tryz.prog w = .ok (ptr b (o + 0)) w := fun b o w => by kernel_rfl
theorem fa_119_1 : ∀ b o w, (Instr.fieldAt 119 (ptr b o) 1).run Tryz.prog w = .ok (ptr b (o + 1)) w := fun b o w => by kernel_rfl
theorem fa_119_2 : ∀ b o w, (Instr.fieldAt 119 (ptr b o) 2).run Tryz.prog w = .ok (ptr b (o + 2)) w := fun b o w => by kernel_rfl
theorem fa_119_3 : ∀ b o w, (Instr.fieldAt 119 (ptr b o) 3).run Tryz.prog w = .ok (ptr b (o + 3)) w := fun b o w => by kernel_rfl
theorem fa_145_0 : ∀ b o w, (Instr.fieldAt 145 (ptr b o) 0).run Tryz.prog w = .ok (ptr b (o + 0)) w := fun b o w => by kernel_rfl
theorem fa_145_1 : ∀ b o w, (Instr.fieldAt 145 (ptr b o) 1).run Tryz.prog w = .ok (ptr b (o + 1)) w := fun b o w => by kernel_rfl
theorem fa_171_0 : ∀ b o w, (Instr.fieldAt 171 (ptr b o) 0).run Tryz.prog w = .ok (ptr b (o + 0)) w := fun b o w => by kernel_rfl
theorem fa_171_1 : ∀ b o w, (Instr.fieldAt 171 (ptr b o) 1).run Tryz.prog w = .ok (ptr b (o + 1)) w := fun b o w => by kernel_rfl
theorem fa_45_1 : ∀ b o w, (Instr.fieldAt 45 (ptr b o) 1).run Tryz.prog w = .ok (ptr b (o + 1)) w := fun b o w => by kernel_rfl
theorem fa_45_2 : ∀ b o w, (Instr.fieldAt 45 (ptr b o) 2).run Tryz.prog w = .ok (ptr b (o + 2)) w := fun b o w => by kernel_rfl
theorem fa_45_4 : ∀ b o w, (Instr.fieldAt 45 (ptr b o) 4).run Tryz.prog w = .ok (ptr b (o + 4)) w := fun b o w => by kernel_rfl
theorem fa_45_6 : ∀ b o w, (Instr.fieldAt 45 (ptr b o) 6).run Tryz.prog w = .ok (ptr b (o + 6)) w := fun b o w => by kernel_rfl
theorem fa_63_0 : ∀ b o w, (Instr.fieldAt 63 (ptr b o) 0).run Tryz.prog w = .ok (ptr b (o + 0)) w := fun b o w => by kernel_rfl
theorem fa_63_1 : ∀ b o w, (Instr.fieldAt 63 (ptr b o) 1).run Tryz.prog w = .ok (ptr b (o + 1)) w := fun b o w => by kernel_rfl
theorem sz_129 : sizeO Tryz.prog 129 = some 1 := by kernel_rfl
theorem sz_3 : sizeO Tryz.prog 3 = some 1 := by kernel_rfl
theorem sz_43 : sizeO Tryz.prog 43 = some 1 := by kernel_rfl
theorem sz_45 : sizeO Tryz.prog 45 = some 7 := by kernel_rfl
theorem sz_54 : sizeO Tryz.prog 54 = some 1 := by kernel_rfl
theorem sz_63 : sizeO Tryz.prog 63 = some 2 := by kernel_rfl
theorem sz_9 : sizeO Tryz.prog 9 = some 1 := by kernel_rfl
theorem c_20 : Callable Tryz.prog 20 := ⟨Tryz.f20, Tryz.func20, rfl, by kernel_rfl⟩
theorem c_21 : Callable Tryz.prog 21 := ⟨Tryz.f21, Tryz.func21, rfl, by kernel_rfl⟩
theorem c_22 : Callable Tryz.prog 22 := ⟨Tryz.f22, Tryz.func22, rfl, by kernel_rfl⟩
theorem c_24 : Callable Tryz.prog 24 := ⟨Tryz.f24, Tryz.func24, rfl, by kernel_rfl⟩
theorem c_26 : Callable Tryz.prog 26 := ⟨Tryz.f26, Tryz.func26, rfl, by kernel_rfl⟩
theorem c_28 : Callable Tryz.prog 28 := ⟨Tryz.f28, Tryz.func28, rfl, by kernel_rfl⟩
theorem c_29 : Callable Tryz.prog 29 := ⟨Tryz.f29, Tryz.func29, rfl, by kernel_rfl⟩
theorem c_30 : Callable Tryz.prog 30 := ⟨Tryz.f30, Tryz.func30, rfl, by kernel_rfl⟩
theorem c_35 : Callable Tryz.prog 35 := ⟨Tryz.f35, Tryz.func35, rfl, by kernel_rfl⟩
theorem c_39 : Callable Tryz.prog 39 := ⟨Tryz.f39, Tryz.func39, rfl, by kernel_rfl⟩
theorem c_44 : Callable Tryz.prog 44 := ⟨Tryz.f44, Tryz.func44, rfl, by kernel_rfl⟩
theorem c_45 : Callable Tryz.prog 45 := ⟨Tryz.f45, Tryz.func45, rfl, by kernel_rfl⟩
theorem c_46 : Callable Tryz.prog 46 := ⟨Tryz.f46, Tryz.func46, rfl, by kernel_rfl⟩
theorem c_47 : Callable Tryz.prog 47 := ⟨Tryz.f47, Tryz.func47, rfl, by kernel_rfl⟩
theorem c_48 : Callable Tryz.prog 48 := ⟨Tryz.f48, Tryz.func48, rfl, by kernel_rfl⟩
theorem c_51 : Callable Tryz.prog 51 := ⟨Tryz.f51, Tryz.func51, rfl, by kernel_rfl⟩
theorem c_53 : Callable Tryz.prog 53 := ⟨Tryz.f53, Tryz.func53, rfl, by kernel_rfl⟩
theorem c_54 : Callable Tryz.prog 54 := ⟨Tryz.f54, Tryz.func54, rfl, by kernel_rfl⟩
theorem c_55 : Callable Tryz.prog 55 := ⟨Tryz.f55, Tryz.func55, rfl, by kernel_rfl⟩
theorem c_56 : Callable Tryz.prog 56 := ⟨Tryz.f56, Tryz.func56, rfl, by kernel_rfl⟩
theorem c_57 : Callable Tryz.prog 57 := ⟨Tryz.f57, Tryz.func57, rfl, by kernel_rfl⟩
theorem c_61 : Callable Tryz.prog 61 := ⟨Tryz.f61, Tryz.func61, rfl, by kernel_rfl⟩
theorem c_70 : Callable Tryz.prog 70 := ⟨Tryz.f70, Tryz.func70, rfl, by kernel_rfl⟩
theorem c_71 : Callable Tryz.prog 71 := ⟨Tryz.f71, Tryz.func71, rfl, by kernel_rfl⟩
theorem c_75 : Callable Tryz.prog 75 := ⟨Tryz.f75, Tryz.func75, rfl, by kernel_rfl⟩
theorem c_77 : Callable Tryz.prog 77 := ⟨Tryz.f77, Tryz.func77, rfl, by kernel_rfl⟩
theorem c_81 : Callable Tryz.prog 81 := ⟨Tryz.f81, Tryz.func81, rfl, by kernel_rfl⟩
theorem c_82 : Callable Tryz.prog 82 := ⟨Tryz.f82, Tryz.func82, rfl, by kernel_rfl⟩
theorem c_83 : Callable Tryz.prog 83 := ⟨Tryz.f83, Tryz.func83, rfl, by kernel_rfl⟩
theorem c_84 : Callable Tryz.prog 84 := ⟨Tryz.f84, Tryz.func84, rfl, by kernel_rfl⟩
theorem c_85 : Callable Tryz.prog 85 := ⟨Tryz.f85, Tryz.func85, rfl, by kernel_rfl⟩
theorem c_86 : Callable Tryz.prog 86 := ⟨Tryz.f86, Tryz.func86, rfl, by kernel_rfl⟩
theorem c_87 : Callable Tryz.prog 87 := ⟨Tryz.f87, Tryz.func87, rfl, by kernel_rfl⟩
theorem c_88 : Callable Tryz.prog 88 := ⟨Tryz.f88, Tryz.func88, rfl, by kernel_rfl⟩
theorem c_89 : Callable Tryz.prog 89 := ⟨Tryz.f89, Tryz.func89, rfl, by kernel_rfl⟩
theorem c_90 : Callable Tryz.prog 90 := ⟨Tryz.f90, Tryz.func90, rfl, by kernel_rfl⟩
theorem c_95 : Callable Tryz.prog 95 := ⟨Tryz.f95, Tryz.func95, rfl, by kernel_rfl⟩
theorem c_96 : Callable Tryz.prog 96 := ⟨Tryz.f96, Tryz.func96, rfl, by kernel_rfl⟩
theorem c_97 : Callable Tryz.prog 97 := ⟨Tryz.f97, Tryz.func97, rfl, by kernel_rfl⟩
theorem c_98 : Callable Tryz.prog 98 := ⟨Tryz.f98, Tryz.func98, rfl, by kernel_rfl⟩
theorem c_99 : Callable Tryz.prog 99 := ⟨Tryz.f99, Tryz.func99, rfl, by kernel_rfl⟩
theorem c_100 : Callable Tryz.prog 100 := ⟨Tryz.f100, Tryz.func100, rfl, by kernel_rfl⟩
theorem c_103 : Callable Tryz.prog 103 := ⟨Tryz.f103, Tryz.func103, rfl, by kernel_rfl⟩
theorem c_104 : Callable Tryz.prog 104 := ⟨Tryz.f104, Tryz.func104, rfl, by kernel_rfl⟩
theorem c_111 : Callable Tryz.prog 111 := ⟨Tryz.f111, Tryz.func111, rfl, by kernel_rfl⟩
theorem c_122 : Callable Tryz.prog 122 := ⟨Tryz.f122, Tryz.func122, rfl, by kernel_rfl⟩
theorem c_123 : Callable Tryz.prog 123 := ⟨Tryz.f123, Tryz.func123, rfl, by kernel_rfl⟩
theorem c_125 : Callable Tryz.prog 125 := ⟨Tryz.f125, Tryz.func125, rfl, by kernel_rfl⟩
theorem c_126 : Callable Tryz.prog 126 := ⟨Tryz.f126, Tryz.func126, rfl, by kernel_rfl⟩
theorem c_128 : Callable Tryz.prog 128 := ⟨Tryz.f128, Tryz.func128, rfl, by kernel_rfl⟩
theorem c_129 : Callable Tryz.prog 129 := ⟨Tryz.f129, Tryz.func129, rfl, by kernel_rfl⟩
theorem c_130 : Callable Tryz.prog 130 := ⟨Tryz.f130, Tryz.func130, rfl, by kernel_rfl⟩
theorem c_131 : Callable Tryz.prog 131 := ⟨Tryz.f131, Tryz.func131, rfl, by kernel_rfl⟩
theorem c_132 : Callable Tryz.prog 132 := ⟨Tryz.f132, Tryz.func132, rfl, by kernel_rfl⟩
theorem c_133 : Callable Tryz.prog 133 := ⟨Tryz.f133, Tryz.func133, rfl, by kernel_rfl⟩
theorem c_134 : Callable Tryz.prog 134 := ⟨Tryz.f134, Tryz.func134, rfl, by kernel_rfl⟩
theorem c_135 : Callable Tryz.prog 135 := ⟨Tryz.f135, Tryz.func135, rfl, by kernel_rfl⟩
theorem c_136 : Callable Tryz.prog 136 := ⟨Tryz.f136, Tryz.func136, rfl, by kernel_rfl⟩
theorem c_140 : Callable Tryz.prog 140 := ⟨Tryz.f140, Tryz.func140, rfl, by kernel_rfl⟩
theorem c_148 : Callable Tryz.prog 148 := ⟨Tryz.f148, Tryz.func148, rfl, by kernel_rfl⟩
theorem c_167 : Callable Tryz.prog 167 := ⟨Tryz.f167, Tryz.func167, rfl, by kernel_rfl⟩
theorem c_168 : Callable Tryz.prog 168 := ⟨Tryz.f168, Tryz.func168, rfl, by kernel_rfl⟩
end Go.Proofs
