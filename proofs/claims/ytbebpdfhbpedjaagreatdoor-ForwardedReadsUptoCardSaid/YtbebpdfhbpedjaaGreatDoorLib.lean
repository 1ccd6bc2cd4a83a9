/-
  Facts on the types and functions of this translation, one by one, by evaluation. Written by a program (wip/gen).
  The library functions that the walks call. Over this translation.
-/
import Derived.Test.YtbebpdfhbpedjaaGreatDoorNst
import Derived.Test.YtbebpdfhbpedjaaGreatDoorT26F
import Derived.Test.YtbebpdfhbpedjaaGreatDoorProg
import Derived.KernelRfl
import Derived.Laws.StructEq
import Derived.Lib.LaidTab
import Derived.Lib.ItoaNum
import Derived.Shelf.Strings.IndexAnyAll
import Derived.Laws.RangeAny
import Derived.Laws.Runes
import Derived.Below
import Derived.Lib.OthersKept
import Derived.Shelf.RegionOpenPlain
import Derived.Shelf.Small.Utf8
import Derived.Shelf.Strings.SlTrimAscii
import Derived.Lib.AppendIntMem
section
set_option linter.unusedVariables false
set_option linter.unusedSimpArgs false
namespace Go.Proofs
open Go.Dk Go.Dm Go.RowKit

theorem zkt {P : Program} {w0 w : World} {n : String} {g : Nat} (hg : P.globalNamed n = some g) (h : w.heap[g]? = w0.heap[g]?) : w.var? P n = w0.var? P n := by
  unfold World.var?
  rw [hg]
  simp only [Option.bind_some, h]
def zr (w : World) : Prop := 6 ≤ w.heap.size ∧ (∃ m, w.cell? ⟨0, 0, none⟩ = some (.int .i64 m))
def zC (F : List Nat) : Prop := ∀ b ∈ F, 6 ≤ b
theorem ze : zC [] := fun b hb => by cases hb
theorem zr.same {w0 w : World} (h : zr w0) (hs : w0.heap.size ≤ w.heap.size) (hf : ∀ g, g < 6 → w.heap[g]? = w0.heap[g]?) : zr w := by
  obtain ⟨h0, ⟨m, hm0⟩⟩ := h
  exact ⟨Nat.le_trans h0 hs, ⟨m, (World.cell?_of_block (w := w0) (a := ⟨0, 0, none⟩) (hf 0 (by omega))).trans hm0⟩⟩
theorem zr.low {w0 w : World} {B : Nat} (h : zr w0) (hB : 6 ≤ B) (hb : Below B w0 w) : zr w :=
  h.same hb.size fun g hg => hb.block g (by omega)
theorem zr.size {w : World} (h : zr w) : 6 ≤ w.heap.size := h.1
theorem zr.max {w : World} (h : zr w) : (∃ m, w.cell? ⟨0, 0, none⟩ = some (.int .i64 m)) := h.2
theorem zr.own {w0 w : World} {F : List Nat} {L : List Res} (h : zr w0) (hF : zC F) (hO : Own w0 F w L) : zr w :=
  h.same hO.size fun g hg => hO.frame g (by have := h.size; omega) (fun hm => absurd (hF g hm) (by omega))
def za6 (w : World) : Prop := zr w ∧ Go.Lib.TabIs Tryz.prog w "internal/strconv.uint64pow10" .u64 Go.Lib.pow10Tab
theorem za6.same {w0 w : World} (h : za6 w0) (hs : w0.heap.size ≤ w.heap.size) (hf : ∀ g, g < 6 → w.heap[g]? = w0.heap[g]?) : za6 w := by
  obtain ⟨h, hp⟩ := h
  exact ⟨h.same hs hf, by unfold Go.Lib.TabIs at hp ⊢; rw [← hp]; exact zkt (show Tryz.prog.globalNamed "internal/strconv.uint64pow10" = some 3 by kernel_rfl) (hf 3 (by omega))⟩
theorem za6.low {w0 w : World} {B : Nat} (h : za6 w0) (hB : 6 ≤ B) (hb : Below B w0 w) : za6 w :=
  h.same hb.size fun g hg => hb.block g (by omega)
theorem za6.size {w : World} (h : za6 w) : 6 ≤ w.heap.size := h.1.size
theorem za6.own {w0 w : World} {F : List Nat} {L : List Res} (h : za6 w0) (hF : zC F) (hO : Own w0 F w L) : za6 w :=
  h.same hO.size fun g hg => hO.frame g (by have := h.size; omega) (fun hm => absurd (hF g hm) (by omega))
def za (x : api_Field) : List Value := [str x.Name, str x.Value]
def zc (x : api_Param) : List Value := [str x.Name, str x.Value]
def zbL (x : api_Swap) : List Value := [str x.From, str x.To]
def zK (x : UInt8) : List Value := [zH x]
def zd (x : Str) : List Value := [str x]
theorem ag_103 : zcW Tryz.prog 103 = some false := by kernel_rfl
theorem ag_105 : zcW Tryz.prog 105 = some true := by kernel_rfl
theorem ag_110 : zcW Tryz.prog 110 = some false := by kernel_rfl
theorem ag_116 : zcW Tryz.prog 116 = some true := by kernel_rfl
theorem ag_119 : zcW Tryz.prog 119 = some true := by kernel_rfl
theorem ag_159 : zcW Tryz.prog 159 = some false := by kernel_rfl
theorem ag_23 : zcW Tryz.prog 23 = some true := by kernel_rfl
theorem zfr : zcW Tryz.prog 24 = some false := by kernel_rfl
theorem ag_29 : zcW Tryz.prog 29 = some true := by kernel_rfl
theorem ag_3 : zcW Tryz.prog 3 = some false := by kernel_rfl
theorem ag_41 : zcW Tryz.prog 41 = some false := by kernel_rfl
theorem ag_45 : zcW Tryz.prog 45 = some false := by kernel_rfl
theorem ag_47 : zcW Tryz.prog 47 = some true := by kernel_rfl
theorem ag_49 : zcW Tryz.prog 49 = some false := by kernel_rfl
theorem zgd : zcW Tryz.prog 57 = some true := by kernel_rfl
theorem zkv : zcW Tryz.prog 71 = some true := by kernel_rfl
theorem zdE : zcW Tryz.prog 9 = some false := by kernel_rfl
theorem al_119 : ∀ w, (Instr.alloc 119 true (.tuple #[])).run Tryz.prog w = .ok (ptr w.heap.size 0) (w.alloc (.cells [.pointer none].toArray 119)) := fun w => by kernel_rfl
theorem zix : ∀ w, (Instr.alloc 57 true (.tuple #[])).run Tryz.prog w = .ok (ptr w.heap.size 0) (w.alloc (.cells [str [], str []].toArray 57)) := fun w => by kernel_rfl
theorem ei_159 : (Tryz.prog.info? 5).map (fun i => (i.zero, i.size, i.bytes)) = some (some (zH 0), 1, 1) := by kernel_rfl
theorem zh2 : Elem Tryz.prog 159 5 1 1 := ⟨Tryz.underlying159, by obtain ⟨i, h0, h1, h2, h3⟩ := info_parts ei_159; exact ⟨i, _, h0, h1, h2, h3, rfl⟩, by decide⟩
theorem ei_24 : (Tryz.prog.info? 71).map (fun i => (i.zero, i.size, i.bytes)) = some (some (.agg #[str [], str []]), 2, 32) := by kernel_rfl
theorem el_24 : Elem Tryz.prog 24 71 2 32 := ⟨Tryz.underlying24, by obtain ⟨i, h0, h1, h2, h3⟩ := info_parts ei_24; exact ⟨i, _, h0, h1, h2, h3, rfl⟩, by decide⟩
theorem ei_41 : (Tryz.prog.info? 9).map (fun i => (i.zero, i.size, i.bytes)) = some (some (str []), 1, 16) := by kernel_rfl
theorem zhP : Elem Tryz.prog 41 9 1 16 := ⟨Tryz.underlying41, by obtain ⟨i, h0, h1, h2, h3⟩ := info_parts ei_41; exact ⟨i, _, h0, h1, h2, h3, rfl⟩, by decide⟩
theorem ei_49 : (Tryz.prog.info? 57).map (fun i => (i.zero, i.size, i.bytes)) = some (some (.agg #[str [], str []]), 2, 32) := by kernel_rfl
theorem zjd : Elem Tryz.prog 49 57 2 32 := ⟨Tryz.underlying49, by obtain ⟨i, h0, h1, h2, h3⟩ := info_parts ei_49; exact ⟨i, _, h0, h1, h2, h3, rfl⟩, by decide⟩
theorem ei_61 : (Tryz.prog.info? 49).map (fun i => (i.zero, i.size, i.bytes)) = some (some (.slice none 0 0), 1, 24) := by kernel_rfl
theorem el_61 : Elem Tryz.prog 61 49 1 24 := ⟨Tryz.underlying61, by obtain ⟨i, h0, h1, h2, h3⟩ := info_parts ei_61; exact ⟨i, _, h0, h1, h2, h3, rfl⟩, by decide⟩
theorem eqd_57 (d : Nat) (x y : api_Param) (w : World) : (Op.equalIn (d + 2) 57 (.agg #[str x.Name, str x.Value]) (.agg #[str y.Name, str y.Value])).run Tryz.prog w = .ok (x == y) w := by
  obtain ⟨x0, x1⟩ := x
  obtain ⟨y0, y1⟩ := y
  show (Op.equalIn (d + 1 + 1) 57 _ _).run _ _ = _
  rw [run_equalIn_struct w (d + 1) 57 _ _ (by kernel_rfl) (by kernel_rfl)]
  have e : ((⟨x0, x1⟩ : api_Param) == ⟨y0, y1⟩) = decide (x0 = y0 ∧ x1 = y1) := by
    show decide (_ = _) = _
    exact decide_eq_decide.2 (by simp)
  rw [e]
  simp only [Program.fieldsOf, Tryz.underlying57, Op.eqFields]
  simp [part, Tryz.isAgg9, Tryz.underlying9, run_equalIn_string, run_equalIn_bool', run_equalIn_int, zgZ, Result.andThen, zgw]
  by_cases h0 : x0 = y0 <;> by_cases h1 : x1 = y1 <;> simp [h0, h1]
theorem eq_57 (x y : api_Param) (w : World) : (Op.equalIn 10000 57 (.agg #[str x.Name, str x.Value]) (.agg #[str y.Name, str y.Value])).run Tryz.prog w = .ok (x == y) w := eqd_57 9998 x y w
theorem eqd_71 (d : Nat) (x y : api_Field) (w : World) : (Op.equalIn (d + 2) 71 (.agg #[str x.Name, str x.Value]) (.agg #[str y.Name, str y.Value])).run Tryz.prog w = .ok (x == y) w := by
  obtain ⟨x0, x1⟩ := x
  obtain ⟨y0, y1⟩ := y
  show (Op.equalIn (d + 1 + 1) 71 _ _).run _ _ = _
  rw [run_equalIn_struct w (d + 1) 71 _ _ (by kernel_rfl) (by kernel_rfl)]
  have e : ((⟨x0, x1⟩ : api_Field) == ⟨y0, y1⟩) = decide (x0 = y0 ∧ x1 = y1) := by
    show decide (_ = _) = _
    exact decide_eq_decide.2 (by simp)
  rw [e]
  simp only [Program.fieldsOf, Tryz.underlying71, Op.eqFields]
  simp [part, Tryz.isAgg9, Tryz.underlying9, run_equalIn_string, run_equalIn_bool', run_equalIn_int, zgZ, Result.andThen, zgw]
  by_cases h0 : x0 = y0 <;> by_cases h1 : x1 = y1 <;> simp [h0, h1]
theorem eq_71 (x y : api_Field) (w : World) : (Op.equalIn 10000 71 (.agg #[str x.Name, str x.Value]) (.agg #[str y.Name, str y.Value])).run Tryz.prog w = .ok (x == y) w := eqd_71 9998 x y w
theorem zg8 : ∀ b o w, (Instr.fieldAt 100 (ptr b o) 0).run Tryz.prog w = .ok (ptr b (o + 0)) w := fun b o w => by kernel_rfl
theorem zkw : ∀ b o w, (Instr.fieldAt 105 (ptr b o) 0).run Tryz.prog w = .ok (ptr b (o + 0)) w := fun b o w => by kernel_rfl
theorem zkx : ∀ b o w, (Instr.fieldAt 105 (ptr b o) 1).run Tryz.prog w = .ok (ptr b (o + 1)) w := fun b o w => by kernel_rfl
theorem zky : ∀ b o w, (Instr.fieldAt 105 (ptr b o) 2).run Tryz.prog w = .ok (ptr b (o + 2)) w := fun b o w => by kernel_rfl
theorem zkz : ∀ b o w, (Instr.fieldAt 113 (ptr b o) 0).run Tryz.prog w = .ok (ptr b (o + 0)) w := fun b o w => by kernel_rfl
theorem zkA : ∀ b o w, (Instr.fieldAt 113 (ptr b o) 1).run Tryz.prog w = .ok (ptr b (o + 1)) w := fun b o w => by kernel_rfl
theorem ziy : ∀ b o w, (Instr.fieldAt 113 (ptr b o) 2).run Tryz.prog w = .ok (ptr b (o + 2)) w := fun b o w => by kernel_rfl
theorem ziz : ∀ b o w, (Instr.fieldAt 113 (ptr b o) 3).run Tryz.prog w = .ok (ptr b (o + 3)) w := fun b o w => by kernel_rfl
theorem zkB : ∀ b o w, (Instr.fieldAt 116 (ptr b o) 0).run Tryz.prog w = .ok (ptr b (o + 0)) w := fun b o w => by kernel_rfl
theorem zkC : ∀ b o w, (Instr.fieldAt 119 (ptr b o) 0).run Tryz.prog w = .ok (ptr b (o + 0)) w := fun b o w => by kernel_rfl
theorem zfs : ∀ b o w, (Instr.fieldAt 137 (ptr b o) 0).run Tryz.prog w = .ok (ptr b (o + 0)) w := fun b o w => by kernel_rfl
theorem zft : ∀ b o w, (Instr.fieldAt 137 (ptr b o) 1).run Tryz.prog w = .ok (ptr b (o + 1)) w := fun b o w => by kernel_rfl
theorem zkD : ∀ b o w, (Instr.fieldAt 176 (ptr b o) 0).run Tryz.prog w = .ok (ptr b (o + 0)) w := fun b o w => by kernel_rfl
theorem zkE : ∀ b o w, (Instr.fieldAt 176 (ptr b o) 1).run Tryz.prog w = .ok (ptr b (o + 1)) w := fun b o w => by kernel_rfl
theorem zk7 : ∀ b o w, (Instr.fieldAt 23 (ptr b o) 0).run Tryz.prog w = .ok (ptr b (o + 0)) w := fun b o w => by kernel_rfl
theorem zk8 : ∀ b o w, (Instr.fieldAt 23 (ptr b o) 1).run Tryz.prog w = .ok (ptr b (o + 1)) w := fun b o w => by kernel_rfl
theorem zk9 : ∀ b o w, (Instr.fieldAt 23 (ptr b o) 2).run Tryz.prog w = .ok (ptr b (o + 2)) w := fun b o w => by kernel_rfl
theorem zla : ∀ b o w, (Instr.fieldAt 23 (ptr b o) 3).run Tryz.prog w = .ok (ptr b (o + 3)) w := fun b o w => by kernel_rfl
theorem zlb : ∀ b o w, (Instr.fieldAt 29 (ptr b o) 1).run Tryz.prog w = .ok (ptr b (o + 1)) w := fun b o w => by kernel_rfl
theorem zlc : ∀ b o w, (Instr.fieldAt 29 (ptr b o) 2).run Tryz.prog w = .ok (ptr b (o + 2)) w := fun b o w => by kernel_rfl
theorem zld : ∀ b o w, (Instr.fieldAt 29 (ptr b o) 4).run Tryz.prog w = .ok (ptr b (o + 4)) w := fun b o w => by kernel_rfl
theorem zle : ∀ b o w, (Instr.fieldAt 29 (ptr b o) 6).run Tryz.prog w = .ok (ptr b (o + 6)) w := fun b o w => by kernel_rfl
theorem zlf : ∀ b o w, (Instr.fieldAt 47 (ptr b o) 0).run Tryz.prog w = .ok (ptr b (o + 0)) w := fun b o w => by kernel_rfl
theorem zlg : ∀ b o w, (Instr.fieldAt 47 (ptr b o) 1).run Tryz.prog w = .ok (ptr b (o + 1)) w := fun b o w => by kernel_rfl
theorem zlh : ∀ b o w, (Instr.fieldAt 47 (ptr b o) 2).run Tryz.prog w = .ok (ptr b (o + 2)) w := fun b o w => by kernel_rfl
theorem zli : ∀ b o w, (Instr.fieldAt 47 (ptr b o) 3).run Tryz.prog w = .ok (ptr b (o + 3)) w := fun b o w => by kernel_rfl
theorem zlj : ∀ b o w, (Instr.fieldAt 47 (ptr b o) 4).run Tryz.prog w = .ok (ptr b (o + 4)) w := fun b o w => by kernel_rfl
theorem zlk : ∀ b o w, (Instr.fieldAt 47 (ptr b o) 5).run Tryz.prog w = .ok (ptr b (o + 5)) w := fun b o w => by kernel_rfl
theorem zje : ∀ b o w, (Instr.fieldAt 57 (ptr b o) 0).run Tryz.prog w = .ok (ptr b (o + 0)) w := fun b o w => by kernel_rfl
theorem zll : ∀ b o w, (Instr.fieldAt 57 (ptr b o) 1).run Tryz.prog w = .ok (ptr b (o + 1)) w := fun b o w => by kernel_rfl
theorem zlm : ∀ b o w, (Instr.fieldAt 71 (ptr b o) 0).run Tryz.prog w = .ok (ptr b (o + 0)) w := fun b o w => by kernel_rfl
theorem zh3 : ∀ b o w, (Instr.fieldAt 71 (ptr b o) 1).run Tryz.prog w = .ok (ptr b (o + 1)) w := fun b o w => by kernel_rfl
theorem zln : ∀ b o w, (Instr.fieldAt 87 (ptr b o) 0).run Tryz.prog w = .ok (ptr b (o + 0)) w := fun b o w => by kernel_rfl
theorem zlo : ∀ b o w, (Instr.fieldAt 87 (ptr b o) 1).run Tryz.prog w = .ok (ptr b (o + 1)) w := fun b o w => by kernel_rfl
theorem sz_103 : zaQ Tryz.prog 103 = some 1 := by kernel_rfl
theorem sz_105 : zaQ Tryz.prog 105 = some 3 := by kernel_rfl
theorem sz_116 : zaQ Tryz.prog 116 = some 1 := by kernel_rfl
theorem sz_119 : zaQ Tryz.prog 119 = some 1 := by kernel_rfl
theorem sz_159 : zaQ Tryz.prog 159 = some 1 := by kernel_rfl
theorem sz_23 : zaQ Tryz.prog 23 = some 4 := by kernel_rfl
theorem sz_24 : zaQ Tryz.prog 24 = some 1 := by kernel_rfl
theorem sz_29 : zaQ Tryz.prog 29 = some 7 := by kernel_rfl
theorem sz_3 : zaQ Tryz.prog 3 = some 1 := by kernel_rfl
theorem sz_41 : zaQ Tryz.prog 41 = some 1 := by kernel_rfl
theorem sz_47 : zaQ Tryz.prog 47 = some 6 := by kernel_rfl
theorem sz_49 : zaQ Tryz.prog 49 = some 1 := by kernel_rfl
theorem zcU : zaQ Tryz.prog 57 = some 2 := by kernel_rfl
theorem sz_70 : zaQ Tryz.prog 70 = some 4 := by kernel_rfl
theorem zge : zaQ Tryz.prog 71 = some 2 := by kernel_rfl
theorem zhq : zaQ Tryz.prog 9 = some 1 := by kernel_rfl
def tb : Tab := ⟨[(9, .string), (24, .slice 71), (38, .slice 23), (41, .slice 9), (45, .slice 87), (49, .slice 57), (61, .slice 49)], [(23, 0, 0), (23, 1, 1), (23, 2, 2), (23, 3, 3), (29, 1, 1), (29, 2, 2), (29, 4, 4), (29, 6, 6), (47, 0, 0), (47, 1, 1), (47, 2, 2), (47, 3, 3), (47, 4, 4), (47, 5, 5), (57, 0, 0), (57, 1, 1), (71, 0, 0), (71, 1, 1), (87, 0, 0), (87, 1, 1), (100, 0, 0), (105, 0, 0), (105, 1, 1), (105, 2, 2), (113, 0, 0), (113, 1, 1), (113, 2, 2), (113, 3, 3), (116, 0, 0), (119, 0, 0), (137, 0, 0), (137, 1, 1), (176, 0, 0), (176, 1, 1)], [(3, false), (9, false), (23, true), (24, false), (29, true), (41, false), (45, false), (47, true), (57, true), (71, true), (103, false), (105, true), (110, false), (116, true), (119, true), (159, false)], [(3, 1), (9, 1), (23, 4), (24, 1), (29, 7), (41, 1), (47, 6), (57, 2), (70, 4), (71, 2), (103, 1), (105, 3), (116, 1), (119, 1), (159, 1)]⟩
instance : TabOk Tryz.prog tb := ⟨zen ⟨Tryz.underlying9, ⟨Tryz.underlying24, ⟨Tryz.underlying38, ⟨Tryz.underlying41, ⟨Tryz.underlying45, ⟨Tryz.underlying49, ⟨Tryz.underlying61, trivial⟩⟩⟩⟩⟩⟩⟩, zen ⟨zk7, ⟨zk8, ⟨zk9, ⟨zla, ⟨zlb, ⟨zlc, ⟨zld, ⟨zle, ⟨zlf, ⟨zlg, ⟨zlh, ⟨zli, ⟨zlj, ⟨zlk, ⟨zje, ⟨zll, ⟨zlm, ⟨zh3, ⟨zln, ⟨zlo, ⟨zg8, ⟨zkw, ⟨zkx, ⟨zky, ⟨zkz, ⟨zkA, ⟨ziy, ⟨ziz, ⟨zkB, ⟨zkC, ⟨zfs, ⟨zft, ⟨zkD, ⟨zkE, trivial⟩⟩⟩⟩⟩⟩⟩⟩⟩⟩⟩⟩⟩⟩⟩⟩⟩⟩⟩⟩⟩⟩⟩⟩⟩⟩⟩⟩⟩⟩⟩⟩⟩⟩, zen ⟨ag_3, ⟨zdE, ⟨ag_23, ⟨zfr, ⟨ag_29, ⟨ag_41, ⟨ag_45, ⟨ag_47, ⟨zgd, ⟨zkv, ⟨ag_103, ⟨ag_105, ⟨ag_110, ⟨ag_116, ⟨ag_119, ⟨ag_159, trivial⟩⟩⟩⟩⟩⟩⟩⟩⟩⟩⟩⟩⟩⟩⟩⟩, zen ⟨sz_3, ⟨zhq, ⟨sz_23, ⟨sz_24, ⟨sz_29, ⟨sz_41, ⟨sz_47, ⟨zcU, ⟨sz_70, ⟨zge, ⟨sz_103, ⟨sz_105, ⟨sz_116, ⟨sz_119, ⟨sz_159, trivial⟩⟩⟩⟩⟩⟩⟩⟩⟩⟩⟩⟩⟩⟩⟩⟩
theorem c_12 : zb Tryz.prog 12 := ⟨Tryz.f12, Tryz.func12, rfl, by kernel_rfl⟩
theorem c_17 : zb Tryz.prog 17 := ⟨Tryz.f17, Tryz.func17, rfl, by kernel_rfl⟩
theorem c_19 : zb Tryz.prog 19 := ⟨Tryz.f19, Tryz.func19, rfl, by kernel_rfl⟩
theorem c_21 : zb Tryz.prog 21 := ⟨Tryz.f21, Tryz.func21, rfl, by kernel_rfl⟩
theorem c_22 : zb Tryz.prog 22 := ⟨Tryz.f22, Tryz.func22, rfl, by kernel_rfl⟩
theorem c_24 : zb Tryz.prog 24 := ⟨Tryz.f24, Tryz.func24, rfl, by kernel_rfl⟩
theorem c_25 : zb Tryz.prog 25 := ⟨Tryz.f25, Tryz.func25, rfl, by kernel_rfl⟩
theorem c_26 : zb Tryz.prog 26 := ⟨Tryz.f26, Tryz.func26, rfl, by kernel_rfl⟩
theorem c_27 : zb Tryz.prog 27 := ⟨Tryz.f27, Tryz.func27, rfl, by kernel_rfl⟩
theorem c_28 : zb Tryz.prog 28 := ⟨Tryz.f28, Tryz.func28, rfl, by kernel_rfl⟩
theorem c_29 : zb Tryz.prog 29 := ⟨Tryz.f29, Tryz.func29, rfl, by kernel_rfl⟩
theorem c_32 : zb Tryz.prog 32 := ⟨Tryz.f32, Tryz.func32, rfl, by kernel_rfl⟩
theorem c_33 : zb Tryz.prog 33 := ⟨Tryz.f33, Tryz.func33, rfl, by kernel_rfl⟩
theorem c_34 : zb Tryz.prog 34 := ⟨Tryz.f34, Tryz.func34, rfl, by kernel_rfl⟩
theorem c_38 : zb Tryz.prog 38 := ⟨Tryz.f38, Tryz.func38, rfl, by kernel_rfl⟩
theorem c_43 : zb Tryz.prog 43 := ⟨Tryz.f43, Tryz.func43, rfl, by kernel_rfl⟩
theorem c_44 : zb Tryz.prog 44 := ⟨Tryz.f44, Tryz.func44, rfl, by kernel_rfl⟩
theorem c_47 : zb Tryz.prog 47 := ⟨Tryz.f47, Tryz.func47, rfl, by kernel_rfl⟩
theorem c_48 : zb Tryz.prog 48 := ⟨Tryz.f48, Tryz.func48, rfl, by kernel_rfl⟩
theorem c_49 : zb Tryz.prog 49 := ⟨Tryz.f49, Tryz.func49, rfl, by kernel_rfl⟩
theorem c_50 : zb Tryz.prog 50 := ⟨Tryz.f50, Tryz.func50, rfl, by kernel_rfl⟩
theorem c_51 : zb Tryz.prog 51 := ⟨Tryz.f51, Tryz.func51, rfl, by kernel_rfl⟩
theorem c_52 : zb Tryz.prog 52 := ⟨Tryz.f52, Tryz.func52, rfl, by kernel_rfl⟩
theorem c_53 : zb Tryz.prog 53 := ⟨Tryz.f53, Tryz.func53, rfl, by kernel_rfl⟩
theorem c_54 : zb Tryz.prog 54 := ⟨Tryz.f54, Tryz.func54, rfl, by kernel_rfl⟩
theorem c_55 : zb Tryz.prog 55 := ⟨Tryz.f55, Tryz.func55, rfl, by kernel_rfl⟩
theorem c_56 : zb Tryz.prog 56 := ⟨Tryz.f56, Tryz.func56, rfl, by kernel_rfl⟩
theorem c_57 : zb Tryz.prog 57 := ⟨Tryz.f57, Tryz.func57, rfl, by kernel_rfl⟩
theorem c_62 : zb Tryz.prog 62 := ⟨Tryz.f62, Tryz.func62, rfl, by kernel_rfl⟩
theorem c_64 : zb Tryz.prog 64 := ⟨Tryz.f64, Tryz.func64, rfl, by kernel_rfl⟩
theorem c_65 : zb Tryz.prog 65 := ⟨Tryz.f65, Tryz.func65, rfl, by kernel_rfl⟩
theorem c_66 : zb Tryz.prog 66 := ⟨Tryz.f66, Tryz.func66, rfl, by kernel_rfl⟩
theorem c_67 : zb Tryz.prog 67 := ⟨Tryz.f67, Tryz.func67, rfl, by kernel_rfl⟩
theorem c_68 : zb Tryz.prog 68 := ⟨Tryz.f68, Tryz.func68, rfl, by kernel_rfl⟩
theorem zg9 : zb Tryz.prog 70 := ⟨Tryz.f70, Tryz.func70, rfl, by kernel_rfl⟩
theorem c_74 : zb Tryz.prog 74 := ⟨Tryz.f74, Tryz.func74, rfl, by kernel_rfl⟩
theorem c_75 : zb Tryz.prog 75 := ⟨Tryz.f75, Tryz.func75, rfl, by kernel_rfl⟩
theorem c_76 : zb Tryz.prog 76 := ⟨Tryz.f76, Tryz.func76, rfl, by kernel_rfl⟩
theorem c_81 : zb Tryz.prog 81 := ⟨Tryz.f81, Tryz.func81, rfl, by kernel_rfl⟩
theorem c_82 : zb Tryz.prog 82 := ⟨Tryz.f82, Tryz.func82, rfl, by kernel_rfl⟩
theorem c_83 : zb Tryz.prog 83 := ⟨Tryz.f83, Tryz.func83, rfl, by kernel_rfl⟩
theorem c_84 : zb Tryz.prog 84 := ⟨Tryz.f84, Tryz.func84, rfl, by kernel_rfl⟩
theorem c_85 : zb Tryz.prog 85 := ⟨Tryz.f85, Tryz.func85, rfl, by kernel_rfl⟩
theorem c_86 : zb Tryz.prog 86 := ⟨Tryz.f86, Tryz.func86, rfl, by kernel_rfl⟩
theorem c_87 : zb Tryz.prog 87 := ⟨Tryz.f87, Tryz.func87, rfl, by kernel_rfl⟩
theorem c_88 : zb Tryz.prog 88 := ⟨Tryz.f88, Tryz.func88, rfl, by kernel_rfl⟩
theorem c_89 : zb Tryz.prog 89 := ⟨Tryz.f89, Tryz.func89, rfl, by kernel_rfl⟩
theorem c_90 : zb Tryz.prog 90 := ⟨Tryz.f90, Tryz.func90, rfl, by kernel_rfl⟩
theorem c_91 : zb Tryz.prog 91 := ⟨Tryz.f91, Tryz.func91, rfl, by kernel_rfl⟩
theorem c_92 : zb Tryz.prog 92 := ⟨Tryz.f92, Tryz.func92, rfl, by kernel_rfl⟩
theorem c_93 : zb Tryz.prog 93 := ⟨Tryz.f93, Tryz.func93, rfl, by kernel_rfl⟩
theorem c_95 : zb Tryz.prog 95 := ⟨Tryz.f95, Tryz.func95, rfl, by kernel_rfl⟩
theorem c_96 : zb Tryz.prog 96 := ⟨Tryz.f96, Tryz.func96, rfl, by kernel_rfl⟩
theorem c_97 : zb Tryz.prog 97 := ⟨Tryz.f97, Tryz.func97, rfl, by kernel_rfl⟩
theorem c_98 : zb Tryz.prog 98 := ⟨Tryz.f98, Tryz.func98, rfl, by kernel_rfl⟩
theorem c_99 : zb Tryz.prog 99 := ⟨Tryz.f99, Tryz.func99, rfl, by kernel_rfl⟩
theorem c_100 : zb Tryz.prog 100 := ⟨Tryz.f100, Tryz.func100, rfl, by kernel_rfl⟩
theorem c_101 : zb Tryz.prog 101 := ⟨Tryz.f101, Tryz.func101, rfl, by kernel_rfl⟩
theorem c_102 : zb Tryz.prog 102 := ⟨Tryz.f102, Tryz.func102, rfl, by kernel_rfl⟩
theorem c_109 : zb Tryz.prog 109 := ⟨Tryz.f109, Tryz.func109, rfl, by kernel_rfl⟩
theorem c_110 : zb Tryz.prog 110 := ⟨Tryz.f110, Tryz.func110, rfl, by kernel_rfl⟩
theorem c_111 : zb Tryz.prog 111 := ⟨Tryz.f111, Tryz.func111, rfl, by kernel_rfl⟩
theorem c_116 : zb Tryz.prog 116 := ⟨Tryz.f116, Tryz.func116, rfl, by kernel_rfl⟩
theorem c_117 : zb Tryz.prog 117 := ⟨Tryz.f117, Tryz.func117, rfl, by kernel_rfl⟩
theorem c_119 : zb Tryz.prog 119 := ⟨Tryz.f119, Tryz.func119, rfl, by kernel_rfl⟩
theorem zjf : zb Tryz.prog 120 := ⟨Tryz.f120, Tryz.func120, rfl, by kernel_rfl⟩
theorem c_121 : zb Tryz.prog 121 := ⟨Tryz.f121, Tryz.func121, rfl, by kernel_rfl⟩
theorem c_122 : zb Tryz.prog 122 := ⟨Tryz.f122, Tryz.func122, rfl, by kernel_rfl⟩
theorem c_123 : zb Tryz.prog 123 := ⟨Tryz.f123, Tryz.func123, rfl, by kernel_rfl⟩
theorem c_124 : zb Tryz.prog 124 := ⟨Tryz.f124, Tryz.func124, rfl, by kernel_rfl⟩
theorem ziA : zb Tryz.prog 128 := ⟨Tryz.f128, Tryz.func128, rfl, by kernel_rfl⟩
theorem c_137 : zb Tryz.prog 137 := ⟨Tryz.f137, Tryz.func137, rfl, by kernel_rfl⟩
theorem c_138 : zb Tryz.prog 138 := ⟨Tryz.f138, Tryz.func138, rfl, by kernel_rfl⟩
theorem c_144 : zb Tryz.prog 144 := ⟨Tryz.f144, Tryz.func144, rfl, by kernel_rfl⟩
theorem c_145 : zb Tryz.prog 145 := ⟨Tryz.f145, Tryz.func145, rfl, by kernel_rfl⟩
theorem c_153 : zb Tryz.prog 153 := ⟨Tryz.f153, Tryz.func153, rfl, by kernel_rfl⟩
theorem zjg : zb Tryz.prog 154 := ⟨Tryz.f154, Tryz.func154, rfl, by kernel_rfl⟩
theorem c_155 : zb Tryz.prog 155 := ⟨Tryz.f155, Tryz.func155, rfl, by kernel_rfl⟩
theorem c_158 : zb Tryz.prog 158 := ⟨Tryz.f158, Tryz.func158, rfl, by kernel_rfl⟩
theorem c_159 : zb Tryz.prog 159 := ⟨Tryz.f159, Tryz.func159, rfl, by kernel_rfl⟩
theorem c_173 : zb Tryz.prog 173 := ⟨Tryz.f173, Tryz.func173, rfl, by kernel_rfl⟩
theorem c_175 : zb Tryz.prog 175 := ⟨Tryz.f175, Tryz.func175, rfl, by kernel_rfl⟩
theorem c_176 : zb Tryz.prog 176 := ⟨Tryz.f176, Tryz.func176, rfl, by kernel_rfl⟩
theorem c_183 : zb Tryz.prog 183 := ⟨Tryz.f183, Tryz.func183, rfl, by kernel_rfl⟩
end Go.Proofs
end
section
namespace Go.Proofs
open Go.Dk Go.Dm Go.RowKit
theorem zeG (s : Str) (c : UInt8) (R : Int) (w0 : World) (hG : zr w0) (hm : strings_IndexByte s c = some R) :
    Calls Tryz.prog 183 #[str s, zH c] w0 fun e w' => e = .returned (int R) ∧ Below w0.heap.size w0 w' := by
  refine (Tryz.strings_IndexByte ⟨s.toArray⟩ c.toNat w0).mono fun e w' ⟨he, hw⟩ => ?_
  subst he hw
  refine ⟨?_, Below.refl _ _⟩
  unfold strings_IndexByte at hm
  rw [zii] at hm
  cases hm
  simp
theorem zd9 (s t : Str) (R : Int) (w0 : World) (hG : zr w0) (hm : strings_Index s t = some R) :
    Calls Tryz.prog 152 #[str s, str t] w0 fun e w' => e = .returned (int R) ∧ Below w0.heap.size w0 w' := by
  unfold strings_Index at hm
  split at hm
  · rename_i hs
    obtain ⟨m, hg⟩ := hG.max
    refine (Tryz.strings_Index ⟨s.toArray⟩ ⟨t.toArray⟩ m w0 hs hg).mono fun e w' ⟨he, hw⟩ => ?_
    subst he hw
    rw [ziN] at hm
    cases hm
    exact ⟨rfl, Below.refl _ _⟩
  · cases hm
theorem zhz (s t : Str) (R : Str × Str × Bool) (w0 : World) (hG : zr w0) (hm : strings_Cut s t = some R) :
    Calls Tryz.prog 81 #[str s, str t] w0 fun e w' => e = .returned (.tuple #[str R.1, str R.2.1, .bool R.2.2]) ∧ Below w0.heap.size w0 w' := by
  unfold strings_Cut at hm
  split at hm
  · rename_i hs
    obtain ⟨m, hg⟩ := hG.max
    refine (Tryz.strings_Cut ⟨s.toArray⟩ ⟨t.toArray⟩ m w0 hs hg).mono fun e w' ⟨he, n, hw⟩ => ?_
    subst he hw
    cases hm
    exact ⟨rfl, ⟨rfl, rfl, rfl, Nat.le_refl _, fun _ _ => rfl⟩⟩
  · cases hm
theorem zeH (n b : Int) (R : Str) (w0 : World) (hG : za6 w0) (hm : zci n b = some R) :
    Calls Tryz.prog 176 #[int n, int b] w0 fun e w' => e = .returned (str R) ∧ Below w0.heap.size w0 w' := by
  unfold zci at hm
  split at hm
  · rename_i h
    obtain ⟨h1, rfl⟩ := h
    obtain ⟨h2, h3⟩ := zhT.1 h1
    cases hm
    refine (Tryz.strconv_FormatInt_10 n h2 h3 w0 hG.2).mono fun e w' ⟨he, k, os, hw⟩ => ?_
    subst he hw
    exact ⟨rfl, Lib.below_grow _ _ (Nat.le_refl _) _ _⟩
  · cases hm
theorem zgs (s sep : Str) (R : List Str) (w0 : World) (hG : zr w0) (hm : strings_Split s sep = some R) :
    Calls Tryz.prog 119 #[str s, str sep] w0 fun e w' => ∃ (p0 : Option Addr) (c0 : Nat), e = .returned (.slice p0 R.length c0) ∧ Own w0 [] w' [.row (.slice p0 R.length c0) 9 1 R.length (cells zd R)] := by
  unfold strings_Split at hm
  split at hm
  · rename_i hs
    obtain ⟨m, hg⟩ := hG.max
    refine (Tryz.strings_Split ⟨s.toArray⟩ ⟨sep.toArray⟩ m w0 hs.1 hg hs.2).mono fun e w' ⟨he, hw⟩ => ?_
    subst he hw
    have hlen := Go.Lib.splitB_all ⟨sep.toArray⟩ hs.2 0 _ ⟨s.toArray⟩ rfl
    have hdat := Go.Lib.splitB_data ⟨sep.toArray⟩ 0 (Go.Lib.countB ⟨s.toArray⟩ ⟨sep.toArray⟩) ⟨s.toArray⟩
    have hR : R = (Go.Lib.splitB ⟨sep.toArray⟩ 0 (Go.Lib.countB ⟨s.toArray⟩ ⟨sep.toArray⟩) ⟨s.toArray⟩).map (·.data.toList) := by
      rw [hdat]; exact (Option.some.inj hm).symm
    have hRl : R.length = Go.Lib.countB ⟨s.toArray⟩ ⟨sep.toArray⟩ + 1 := by rw [hR, List.length_map, hlen]
    have hcells : (Go.Lib.splitB ⟨sep.toArray⟩ 0 (Go.Lib.countB ⟨s.toArray⟩ ⟨sep.toArray⟩) ⟨s.toArray⟩).map Value.string = cells zd R := by
      rw [hR]
      generalize Go.Lib.splitB _ _ _ _ = l
      induction l with
      | nil => rfl
      | cons x l ih => obtain ⟨⟨x⟩⟩ := x; rw [List.map_cons, List.map_cons, ih]; rfl
    have hle := Go.Lib.countB_le ⟨sep.toArray⟩ hs.2 _ ⟨s.toArray⟩ (Nat.le_refl _)
    have hsz : (⟨s.toArray⟩ : ByteArray).size = s.length := rfl
    have hO := (Own.refl w0).newRow (cells zd R) 9 1 R.length (zaS (enc := zd) (sz := 1) (fun _ => rfl) R) (by unfold maxLen; omega)
    rw [hcells, ← hRl]
    exact ⟨_, _, rfl, hO⟩
  · cases hm
theorem zev (s cs : Str) (R : Str) (w0 : World) (hG : zr w0) (hm : zbk s cs = some R) :
    Calls Tryz.prog 91 #[str s, str cs] w0 fun e w' => e = .returned (str R) ∧ Below w0.heap.size w0 w' := by
  unfold zbk at hm
  split at hm
  · rename_i hs
    refine (Any.strings_Trim_laid Tryz.lays160 (by kernel_rfl) ⟨s.toArray⟩ ⟨cs.toArray⟩ w0 (Nat.le_trans (Nat.le_of_lt hs.1) (by decide)) hs.2.1 (fun j b hb => ?_)).mono fun e w' ⟨he, hw⟩ => ?_
    · have := List.all_eq_true.1 hs.2.2 b (List.mem_of_getElem? hb)
      simpa using this
    · subst he
      cases hm
      exact ⟨rfl, hw⟩
  · cases hm
theorem zeI (s cs : Str) (R : Str) (w0 : World) (hG : zr w0) (hm : zcj s cs = some R) :
    Calls Tryz.prog 93 #[str s, str cs] w0 fun e w' => e = .returned (str R) ∧ Below w0.heap.size w0 w' := by
  unfold zcj at hm
  split at hm
  · rename_i hs
    refine (Any.strings_TrimRight_laid Tryz.lays162 (by kernel_rfl) ⟨s.toArray⟩ ⟨cs.toArray⟩ w0 (Nat.le_trans (Nat.le_of_lt hs.1) (by decide)) hs.2.1 (fun j b hb => ?_)).mono fun e w' ⟨he, hw⟩ => ?_
    · have := List.all_eq_true.1 hs.2.2 b (List.mem_of_getElem? hb)
      simpa using this
    · subst he
      cases hm
      exact ⟨rfl, hw⟩
  · cases hm
theorem zhd (l : List Str) (sep : Str) (R : Str) (w0 : World) (hG : zr w0) {x_p : Option Addr} {x_c : Nat} (hs0 : zF w0 x_p (cells zd l)) (hc0 : l.length ≤ x_c) (hm : strings_Join l sep = some R) :
    Calls Tryz.prog 89 #[.slice x_p l.length x_c, str sep] w0 fun e w' => e = .returned (str R) ∧ Below w0.heap.size w0 w' := by
  unfold strings_Join at hm
  split at hm
  · rename_i hb
    cases hm
    have hmap : (l.map fun x => (⟨x.toArray⟩ : ByteArray)).map (·.data.toList) = l := by
      rw [List.map_map]; exact List.map_id' l
    cases x_p with
    | none =>
      have hnil : cells zd l = [] := hs0
      have : l = [] := by
        cases l with
        | nil => rfl
        | cons x l => simp [cells, zd] at hnil
      subst this
      exact (Tryz.strings_Join_none none x_c ⟨sep.toArray⟩ w0).mono fun e w' h => by
        obtain ⟨he, hw⟩ := h
        subst he hw
        exact ⟨rfl, Below.refl _ _⟩
    | some a =>
      obtain ⟨bk, o, spot⟩ := a
      obtain ⟨h1, h2, h3⟩ := hs0
      simp only at h1; subst h1
      have := Tryz.strings_Join bk o x_c (l.map fun x => (⟨x.toArray⟩ : ByteArray)) ⟨sep.toArray⟩ w0 (fun j x hx => ?_) h2 (by simpa using hb.1) (by simpa using hc0) (by rw [hmap]; exact hb.2)
      · rw [hmap, List.length_map] at this
        exact this
      · rw [List.getElem?_map] at hx
        obtain ⟨y, hy, rfl⟩ := Option.map_eq_some_iff.1 hx
        refine h3 j _ ?_
        have := zeD (enc := zd) (sz := 1) (fun _ => rfl) l j 0 y hy (by omega)
        rw [Nat.mul_one, Nat.add_zero] at this
        exact this
  · cases hm
end Go.Proofs
end
