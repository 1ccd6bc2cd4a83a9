/-
  Facts on the types and functions of this translation, one by one, by evaluation. Written by a program (wip/gen).
  The library functions that the walks call. Over this translation.
-/
import Derived.Test.YtoofmjmnhgdloaaGreatDoorSim
import Derived.Test.YtoofmjmnhgdloaaGreatDoorT14P
import Derived.Test.YtoofmjmnhgdloaaGreatDoorProg
import Derived.KernelRfl
import Derived.Laws.StructEq
import Derived.Lib.LaidTab
import Derived.Lib.ItoaNum
import Derived.Shelf.Strings.SlTrimAscii
import Derived.Lib.AppendIntMem
section
set_option linter.unusedVariables false
set_option linter.unusedSimpArgs false
namespace Go.Proofs
open Go.Dk Go.Dm Go.RowKit

theorem zsc {P : Program} {w0 w : World} {n : String} {g : Nat} (hg : P.globalNamed n = some g) (h : w.heap[g]? = w0.heap[g]?) : w.var? P n = w0.var? P n := by
  unfold World.var?
  rw [hg]
  simp only [Option.bind_some, h]
def zx (w : World) : Prop := 6 ≤ w.heap.size ∧ (∃ m, w.cell? ⟨0, 0, none⟩ = some (.int .i64 m))
def zz (F : List Nat) : Prop := ∀ b ∈ F, 6 ≤ b
theorem zf : zz [] := fun b hb => by cases hb
theorem zx.same {w0 w : World} (h : zx w0) (hs : w0.heap.size ≤ w.heap.size) (hf : ∀ g, g < 6 → w.heap[g]? = w0.heap[g]?) : zx w := by
  obtain ⟨h0, ⟨m, hm0⟩⟩ := h
  exact ⟨Nat.le_trans h0 hs, ⟨m, (World.cell?_of_block (w := w0) (a := ⟨0, 0, none⟩) (hf 0 (by omega))).trans hm0⟩⟩
theorem zx.low {w0 w : World} {B : Nat} (h : zx w0) (hB : 6 ≤ B) (hb : Below B w0 w) : zx w :=
  h.same hb.size fun g hg => hb.block g (by omega)
theorem zx.size {w : World} (h : zx w) : 6 ≤ w.heap.size := h.1
theorem zx.max {w : World} (h : zx w) : (∃ m, w.cell? ⟨0, 0, none⟩ = some (.int .i64 m)) := h.2
theorem zx.own {w0 w : World} {F : List Nat} {L : List Res} (h : zx w0) (hF : zz F) (hO : Own w0 F w L) : zx w :=
  h.same hO.size fun g hg => hO.frame g (by have := h.size; omega) (fun hm => absurd (hF g hm) (by omega))
def zbh (w : World) : Prop := zx w ∧ Go.Lib.TabIs Tryz.prog w "internal/strconv.uint64pow10" .u64 Go.Lib.pow10Tab
theorem zbh.same {w0 w : World} (h : zbh w0) (hs : w0.heap.size ≤ w.heap.size) (hf : ∀ g, g < 6 → w.heap[g]? = w0.heap[g]?) : zbh w := by
  obtain ⟨h, hp⟩ := h
  exact ⟨h.same hs hf, by unfold Go.Lib.TabIs at hp ⊢; rw [← hp]; exact zsc (show Tryz.prog.globalNamed "internal/strconv.uint64pow10" = some 3 by kernel_rfl) (hf 3 (by omega))⟩
theorem zbh.low {w0 w : World} {B : Nat} (h : zbh w0) (hB : 6 ≤ B) (hb : Below B w0 w) : zbh w :=
  h.same hb.size fun g hg => hb.block g (by omega)
theorem zbh.size {w : World} (h : zbh w) : 6 ≤ w.heap.size := h.1.size
theorem zbh.own {w0 w : World} {F : List Nat} {L : List Res} (h : zbh w0) (hF : zz F) (hO : Own w0 F w L) : zbh w :=
  h.same hO.size fun g hg => hO.frame g (by have := h.size; omega) (fun hm => absurd (hF g hm) (by omega))
def za (x : api_Field) : List Value := [str x.Name, str x.Value]
def zaL (x : UInt8) : List Value := [z7 x]
def zh (x : Str) : List Value := [str x]
theorem zoP : zhS Tryz.prog 105 = some false := by kernel_rfl
theorem zci : zhS Tryz.prog 107 = some true := by kernel_rfl
theorem zZ : zhS Tryz.prog 109 = some true := by kernel_rfl
theorem zk2 : zhS Tryz.prog 125 = some true := by kernel_rfl
theorem zlv : zhS Tryz.prog 22 = some false := by kernel_rfl
theorem zsd : zhS Tryz.prog 23 = some false := by kernel_rfl
theorem zfl : zhS Tryz.prog 3 = some false := by kernel_rfl
theorem zhT : zhS Tryz.prog 33 = some false := by kernel_rfl
theorem zae : zhS Tryz.prog 35 = some true := by kernel_rfl
theorem ag_4 : zhS Tryz.prog 4 = some false := by kernel_rfl
theorem zdc : zhS Tryz.prog 69 = some true := by kernel_rfl
theorem ag_77 : zhS Tryz.prog 77 = some false := by kernel_rfl
theorem zR : zhS Tryz.prog 9 = some false := by kernel_rfl
theorem zg4 : zhS Tryz.prog 95 = some false := by kernel_rfl
theorem zfm : ∀ w, (Instr.alloc 107 true (.tuple #[])).run Tryz.prog w = .ok (ptr w.heap.size 0) (w.alloc (.cells [int 0, str [], int 0].toArray 107)) := fun w => by kernel_rfl
theorem zfN : ∀ w, (Instr.alloc 109 true (.tuple #[])).run Tryz.prog w = .ok (ptr w.heap.size 0) (w.alloc (.cells [int 0, str [], int 0, str [], int 0, str [], str [], .bool false].toArray 109)) := fun w => by kernel_rfl
theorem zqs : ∀ w, (Instr.alloc 125 true (.tuple #[])).run Tryz.prog w = .ok (ptr w.heap.size 0) (w.alloc (.cells [.pointer none].toArray 125)) := fun w => by kernel_rfl
theorem zg5 : ∀ w, (Instr.alloc 35 true (.tuple #[])).run Tryz.prog w = .ok (ptr w.heap.size 0) (w.alloc (.cells [int 0, str [], str [], int 0, str [], int 0, .slice none 0 0].toArray 35)) := fun w => by kernel_rfl
theorem zmK : ∀ w, (Instr.alloc 69 true (.tuple #[])).run Tryz.prog w = .ok (ptr w.heap.size 0) (w.alloc (.cells [str [], str []].toArray 69)) := fun w => by kernel_rfl
theorem ei_b23 : (Tryz.prog.info? 5).map (fun i => (i.zero, i.size, i.bytes)) = some (some (.int .u8 0), 1, 1) := by kernel_rfl
theorem zs9 : ElemB Tryz.prog 23 9 5 := ⟨Tryz.underlying23, Tryz.underlying9, by obtain ⟨i, h0, h1, h2, h3⟩ := info_parts ei_b23; exact ⟨i, h0, h1, h2, h3⟩⟩
theorem ei_31 : (Tryz.prog.info? 9).map (fun i => (i.zero, i.size, i.bytes)) = some (some (str []), 1, 16) := by kernel_rfl
theorem znX : Elem Tryz.prog 31 9 1 16 := ⟨Tryz.underlying31, by obtain ⟨i, h0, h1, h2, h3⟩ := info_parts ei_31; exact ⟨i, _, h0, h1, h2, h3, rfl⟩, by decide⟩
theorem ei_33 : (Tryz.prog.info? 69).map (fun i => (i.zero, i.size, i.bytes)) = some (some (.agg #[str [], str []]), 2, 32) := by kernel_rfl
theorem zse : Elem Tryz.prog 33 69 2 32 := ⟨Tryz.underlying33, by obtain ⟨i, h0, h1, h2, h3⟩ := info_parts ei_33; exact ⟨i, _, h0, h1, h2, h3, rfl⟩, by decide⟩
theorem eqd_69 (d : Nat) (x y : api_Field) (w : World) : (Op.equalIn (d + 2) 69 (.agg #[str x.Name, str x.Value]) (.agg #[str y.Name, str y.Value])).run Tryz.prog w = .ok (x == y) w := by
  obtain ⟨x0, x1⟩ := x
  obtain ⟨y0, y1⟩ := y
  show (Op.equalIn (d + 1 + 1) 69 _ _).run _ _ = _
  rw [run_equalIn_struct w (d + 1) 69 _ _ (by kernel_rfl) (by kernel_rfl)]
  have e : ((⟨x0, x1⟩ : api_Field) == ⟨y0, y1⟩) = decide (x0 = y0 ∧ x1 = y1) := by
    show decide (_ = _) = _
    exact decide_eq_decide.2 (by simp)
  rw [e]
  simp only [Program.fieldsOf, Tryz.underlying69, Op.eqFields]
  simp [part, Tryz.isAgg9, Tryz.underlying9, run_equalIn_string, run_equalIn_bool', run_equalIn_int, zm4, Result.andThen, zo1]
  by_cases h0 : x0 = y0 <;> by_cases h1 : x1 = y1 <;> simp [h0, h1]
theorem eq_69 (x y : api_Field) (w : World) : (Op.equalIn 10000 69 (.agg #[str x.Name, str x.Value]) (.agg #[str y.Name, str y.Value])).run Tryz.prog w = .ok (x == y) w := eqd_69 9998 x y w
theorem zmL : ∀ b o w, (Instr.fieldAt 107 (ptr b o) 0).run Tryz.prog w = .ok (ptr b (o + 0)) w := fun b o w => by kernel_rfl
theorem zpH : ∀ b o w, (Instr.fieldAt 107 (ptr b o) 1).run Tryz.prog w = .ok (ptr b (o + 1)) w := fun b o w => by kernel_rfl
theorem zsf : ∀ b o w, (Instr.fieldAt 107 (ptr b o) 2).run Tryz.prog w = .ok (ptr b (o + 2)) w := fun b o w => by kernel_rfl
theorem zsg : ∀ b o w, (Instr.fieldAt 109 (ptr b o) 1).run Tryz.prog w = .ok (ptr b (o + 1)) w := fun b o w => by kernel_rfl
theorem zsh : ∀ b o w, (Instr.fieldAt 109 (ptr b o) 2).run Tryz.prog w = .ok (ptr b (o + 2)) w := fun b o w => by kernel_rfl
theorem zmM : ∀ b o w, (Instr.fieldAt 109 (ptr b o) 3).run Tryz.prog w = .ok (ptr b (o + 5)) w := fun b o w => by kernel_rfl
theorem zpI : ∀ b o w, (Instr.fieldAt 109 (ptr b o) 4).run Tryz.prog w = .ok (ptr b (o + 6)) w := fun b o w => by kernel_rfl
theorem zsi : ∀ b o w, (Instr.fieldAt 109 (ptr b o) 5).run Tryz.prog w = .ok (ptr b (o + 7)) w := fun b o w => by kernel_rfl
theorem zpJ : ∀ b o w, (Instr.fieldAt 115 (ptr b o) 0).run Tryz.prog w = .ok (ptr b (o + 0)) w := fun b o w => by kernel_rfl
theorem zpK : ∀ b o w, (Instr.fieldAt 115 (ptr b o) 1).run Tryz.prog w = .ok (ptr b (o + 1)) w := fun b o w => by kernel_rfl
theorem zsj : ∀ b o w, (Instr.fieldAt 125 (ptr b o) 0).run Tryz.prog w = .ok (ptr b (o + 0)) w := fun b o w => by kernel_rfl
theorem zkx : ∀ b o w, (Instr.fieldAt 139 (ptr b o) 0).run Tryz.prog w = .ok (ptr b (o + 0)) w := fun b o w => by kernel_rfl
theorem zky : ∀ b o w, (Instr.fieldAt 139 (ptr b o) 1).run Tryz.prog w = .ok (ptr b (o + 1)) w := fun b o w => by kernel_rfl
theorem zsk : ∀ b o w, (Instr.fieldAt 177 (ptr b o) 0).run Tryz.prog w = .ok (ptr b (o + 0)) w := fun b o w => by kernel_rfl
theorem zta : ∀ b o w, (Instr.fieldAt 35 (ptr b o) 0).run Tryz.prog w = .ok (ptr b (o + 0)) w := fun b o w => by kernel_rfl
theorem ztb : ∀ b o w, (Instr.fieldAt 35 (ptr b o) 1).run Tryz.prog w = .ok (ptr b (o + 1)) w := fun b o w => by kernel_rfl
theorem ztc : ∀ b o w, (Instr.fieldAt 35 (ptr b o) 2).run Tryz.prog w = .ok (ptr b (o + 2)) w := fun b o w => by kernel_rfl
theorem zqU : ∀ b o w, (Instr.fieldAt 35 (ptr b o) 3).run Tryz.prog w = .ok (ptr b (o + 3)) w := fun b o w => by kernel_rfl
theorem zqV : ∀ b o w, (Instr.fieldAt 35 (ptr b o) 4).run Tryz.prog w = .ok (ptr b (o + 4)) w := fun b o w => by kernel_rfl
theorem ztd : ∀ b o w, (Instr.fieldAt 35 (ptr b o) 5).run Tryz.prog w = .ok (ptr b (o + 5)) w := fun b o w => by kernel_rfl
theorem zte : ∀ b o w, (Instr.fieldAt 35 (ptr b o) 6).run Tryz.prog w = .ok (ptr b (o + 6)) w := fun b o w => by kernel_rfl
theorem ztf : ∀ b o w, (Instr.fieldAt 44 (ptr b o) 0).run Tryz.prog w = .ok (ptr b (o + 0)) w := fun b o w => by kernel_rfl
theorem ztg : ∀ b o w, (Instr.fieldAt 44 (ptr b o) 1).run Tryz.prog w = .ok (ptr b (o + 1)) w := fun b o w => by kernel_rfl
theorem zth : ∀ b o w, (Instr.fieldAt 44 (ptr b o) 2).run Tryz.prog w = .ok (ptr b (o + 2)) w := fun b o w => by kernel_rfl
theorem zti : ∀ b o w, (Instr.fieldAt 61 (ptr b o) 0).run Tryz.prog w = .ok (ptr b (o + 0)) w := fun b o w => by kernel_rfl
theorem ztj : ∀ b o w, (Instr.fieldAt 61 (ptr b o) 1).run Tryz.prog w = .ok (ptr b (o + 1)) w := fun b o w => by kernel_rfl
theorem ztk : ∀ b o w, (Instr.fieldAt 61 (ptr b o) 2).run Tryz.prog w = .ok (ptr b (o + 2)) w := fun b o w => by kernel_rfl
theorem ztl : ∀ b o w, (Instr.fieldAt 61 (ptr b o) 3).run Tryz.prog w = .ok (ptr b (o + 3)) w := fun b o w => by kernel_rfl
theorem ztm : ∀ b o w, (Instr.fieldAt 61 (ptr b o) 4).run Tryz.prog w = .ok (ptr b (o + 4)) w := fun b o w => by kernel_rfl
theorem ztn : ∀ b o w, (Instr.fieldAt 61 (ptr b o) 5).run Tryz.prog w = .ok (ptr b (o + 5)) w := fun b o w => by kernel_rfl
theorem zto : ∀ b o w, (Instr.fieldAt 61 (ptr b o) 6).run Tryz.prog w = .ok (ptr b (o + 6)) w := fun b o w => by kernel_rfl
theorem ztp : ∀ b o w, (Instr.fieldAt 61 (ptr b o) 7).run Tryz.prog w = .ok (ptr b (o + 7)) w := fun b o w => by kernel_rfl
theorem ztq : ∀ b o w, (Instr.fieldAt 69 (ptr b o) 0).run Tryz.prog w = .ok (ptr b (o + 0)) w := fun b o w => by kernel_rfl
theorem zkz : ∀ b o w, (Instr.fieldAt 69 (ptr b o) 1).run Tryz.prog w = .ok (ptr b (o + 1)) w := fun b o w => by kernel_rfl
theorem ztr : ∀ b o w, (Instr.fieldAt 80 (ptr b o) 0).run Tryz.prog w = .ok (ptr b (o + 0)) w := fun b o w => by kernel_rfl
theorem zts : ∀ b o w, (Instr.fieldAt 80 (ptr b o) 1).run Tryz.prog w = .ok (ptr b (o + 1)) w := fun b o w => by kernel_rfl
theorem zqt : zdv Tryz.prog 105 = some 1 := by kernel_rfl
theorem zP : zdv Tryz.prog 107 = some 3 := by kernel_rfl
theorem zu : zdv Tryz.prog 109 = some 8 := by kernel_rfl
theorem zij : zdv Tryz.prog 125 = some 1 := by kernel_rfl
theorem sz_23 : zdv Tryz.prog 23 = some 1 := by kernel_rfl
theorem sz_3 : zdv Tryz.prog 3 = some 1 := by kernel_rfl
theorem sz_33 : zdv Tryz.prog 33 = some 1 := by kernel_rfl
theorem zv : zdv Tryz.prog 35 = some 7 := by kernel_rfl
theorem sz_4 : zdv Tryz.prog 4 = some 1 := by kernel_rfl
theorem zal : zdv Tryz.prog 69 = some 2 := by kernel_rfl
theorem zd1 : zdv Tryz.prog 9 = some 1 := by kernel_rfl
def tb : Tab := ⟨[(9, .string), (23, .slice 5), (31, .slice 9), (33, .slice 69)], [(35, 0, 0), (35, 1, 1), (35, 2, 2), (35, 3, 3), (35, 4, 4), (35, 5, 5), (35, 6, 6), (44, 0, 0), (44, 1, 1), (44, 2, 2), (61, 0, 0), (61, 1, 1), (61, 2, 2), (61, 3, 3), (61, 4, 4), (61, 5, 5), (61, 6, 6), (61, 7, 7), (69, 0, 0), (69, 1, 1), (80, 0, 0), (80, 1, 1), (107, 0, 0), (107, 1, 1), (107, 2, 2), (109, 1, 1), (109, 2, 2), (109, 3, 5), (109, 4, 6), (109, 5, 7), (115, 0, 0), (115, 1, 1), (125, 0, 0), (139, 0, 0), (139, 1, 1), (177, 0, 0)]⟩
instance : TabOk Tryz.prog tb := ⟨zlU ⟨Tryz.underlying9, ⟨Tryz.underlying23, ⟨Tryz.underlying31, ⟨Tryz.underlying33, trivial⟩⟩⟩⟩, zlU ⟨zta, ⟨ztb, ⟨ztc, ⟨zqU, ⟨zqV, ⟨ztd, ⟨zte, ⟨ztf, ⟨ztg, ⟨zth, ⟨zti, ⟨ztj, ⟨ztk, ⟨ztl, ⟨ztm, ⟨ztn, ⟨zto, ⟨ztp, ⟨ztq, ⟨zkz, ⟨ztr, ⟨zts, ⟨zmL, ⟨zpH, ⟨zsf, ⟨zsg, ⟨zsh, ⟨zmM, ⟨zpI, ⟨zsi, ⟨zpJ, ⟨zpK, ⟨zsj, ⟨zkx, ⟨zky, ⟨zsk, trivial⟩⟩⟩⟩⟩⟩⟩⟩⟩⟩⟩⟩⟩⟩⟩⟩⟩⟩⟩⟩⟩⟩⟩⟩⟩⟩⟩⟩⟩⟩⟩⟩⟩⟩⟩⟩⟩
theorem c_13 : zc Tryz.prog 13 := ⟨Tryz.f13, Tryz.func13, rfl, by kernel_rfl⟩
theorem c_14 : zc Tryz.prog 14 := ⟨Tryz.f14, Tryz.func14, rfl, by kernel_rfl⟩
theorem c_19 : zc Tryz.prog 19 := ⟨Tryz.f19, Tryz.func19, rfl, by kernel_rfl⟩
theorem c_21 : zc Tryz.prog 21 := ⟨Tryz.f21, Tryz.func21, rfl, by kernel_rfl⟩
theorem c_23 : zc Tryz.prog 23 := ⟨Tryz.f23, Tryz.func23, rfl, by kernel_rfl⟩
theorem c_25 : zc Tryz.prog 25 := ⟨Tryz.f25, Tryz.func25, rfl, by kernel_rfl⟩
theorem c_26 : zc Tryz.prog 26 := ⟨Tryz.f26, Tryz.func26, rfl, by kernel_rfl⟩
theorem c_28 : zc Tryz.prog 28 := ⟨Tryz.f28, Tryz.func28, rfl, by kernel_rfl⟩
theorem c_29 : zc Tryz.prog 29 := ⟨Tryz.f29, Tryz.func29, rfl, by kernel_rfl⟩
theorem c_30 : zc Tryz.prog 30 := ⟨Tryz.f30, Tryz.func30, rfl, by kernel_rfl⟩
theorem c_31 : zc Tryz.prog 31 := ⟨Tryz.f31, Tryz.func31, rfl, by kernel_rfl⟩
theorem c_32 : zc Tryz.prog 32 := ⟨Tryz.f32, Tryz.func32, rfl, by kernel_rfl⟩
theorem c_33 : zc Tryz.prog 33 := ⟨Tryz.f33, Tryz.func33, rfl, by kernel_rfl⟩
theorem c_34 : zc Tryz.prog 34 := ⟨Tryz.f34, Tryz.func34, rfl, by kernel_rfl⟩
theorem c_35 : zc Tryz.prog 35 := ⟨Tryz.f35, Tryz.func35, rfl, by kernel_rfl⟩
theorem c_36 : zc Tryz.prog 36 := ⟨Tryz.f36, Tryz.func36, rfl, by kernel_rfl⟩
theorem c_38 : zc Tryz.prog 38 := ⟨Tryz.f38, Tryz.func38, rfl, by kernel_rfl⟩
theorem c_39 : zc Tryz.prog 39 := ⟨Tryz.f39, Tryz.func39, rfl, by kernel_rfl⟩
theorem c_40 : zc Tryz.prog 40 := ⟨Tryz.f40, Tryz.func40, rfl, by kernel_rfl⟩
theorem c_41 : zc Tryz.prog 41 := ⟨Tryz.f41, Tryz.func41, rfl, by kernel_rfl⟩
theorem c_42 : zc Tryz.prog 42 := ⟨Tryz.f42, Tryz.func42, rfl, by kernel_rfl⟩
theorem c_45 : zc Tryz.prog 45 := ⟨Tryz.f45, Tryz.func45, rfl, by kernel_rfl⟩
theorem c_46 : zc Tryz.prog 46 := ⟨Tryz.f46, Tryz.func46, rfl, by kernel_rfl⟩
theorem c_48 : zc Tryz.prog 48 := ⟨Tryz.f48, Tryz.func48, rfl, by kernel_rfl⟩
theorem c_49 : zc Tryz.prog 49 := ⟨Tryz.f49, Tryz.func49, rfl, by kernel_rfl⟩
theorem c_52 : zc Tryz.prog 52 := ⟨Tryz.f52, Tryz.func52, rfl, by kernel_rfl⟩
theorem c_53 : zc Tryz.prog 53 := ⟨Tryz.f53, Tryz.func53, rfl, by kernel_rfl⟩
theorem c_54 : zc Tryz.prog 54 := ⟨Tryz.f54, Tryz.func54, rfl, by kernel_rfl⟩
theorem c_57 : zc Tryz.prog 57 := ⟨Tryz.f57, Tryz.func57, rfl, by kernel_rfl⟩
theorem c_58 : zc Tryz.prog 58 := ⟨Tryz.f58, Tryz.func58, rfl, by kernel_rfl⟩
theorem c_59 : zc Tryz.prog 59 := ⟨Tryz.f59, Tryz.func59, rfl, by kernel_rfl⟩
theorem zqu : zc Tryz.prog 60 := ⟨Tryz.f60, Tryz.func60, rfl, by kernel_rfl⟩
theorem zoQ : zc Tryz.prog 61 := ⟨Tryz.f61, Tryz.func61, rfl, by kernel_rfl⟩
theorem c_62 : zc Tryz.prog 62 := ⟨Tryz.f62, Tryz.func62, rfl, by kernel_rfl⟩
theorem c_63 : zc Tryz.prog 63 := ⟨Tryz.f63, Tryz.func63, rfl, by kernel_rfl⟩
theorem c_64 : zc Tryz.prog 64 := ⟨Tryz.f64, Tryz.func64, rfl, by kernel_rfl⟩
theorem c_65 : zc Tryz.prog 65 := ⟨Tryz.f65, Tryz.func65, rfl, by kernel_rfl⟩
theorem c_66 : zc Tryz.prog 66 := ⟨Tryz.f66, Tryz.func66, rfl, by kernel_rfl⟩
theorem c_67 : zc Tryz.prog 67 := ⟨Tryz.f67, Tryz.func67, rfl, by kernel_rfl⟩
theorem c_68 : zc Tryz.prog 68 := ⟨Tryz.f68, Tryz.func68, rfl, by kernel_rfl⟩
theorem c_69 : zc Tryz.prog 69 := ⟨Tryz.f69, Tryz.func69, rfl, by kernel_rfl⟩
theorem c_70 : zc Tryz.prog 70 := ⟨Tryz.f70, Tryz.func70, rfl, by kernel_rfl⟩
theorem c_71 : zc Tryz.prog 71 := ⟨Tryz.f71, Tryz.func71, rfl, by kernel_rfl⟩
theorem c_72 : zc Tryz.prog 72 := ⟨Tryz.f72, Tryz.func72, rfl, by kernel_rfl⟩
theorem c_73 : zc Tryz.prog 73 := ⟨Tryz.f73, Tryz.func73, rfl, by kernel_rfl⟩
theorem c_74 : zc Tryz.prog 74 := ⟨Tryz.f74, Tryz.func74, rfl, by kernel_rfl⟩
theorem c_75 : zc Tryz.prog 75 := ⟨Tryz.f75, Tryz.func75, rfl, by kernel_rfl⟩
theorem c_76 : zc Tryz.prog 76 := ⟨Tryz.f76, Tryz.func76, rfl, by kernel_rfl⟩
theorem c_77 : zc Tryz.prog 77 := ⟨Tryz.f77, Tryz.func77, rfl, by kernel_rfl⟩
theorem c_78 : zc Tryz.prog 78 := ⟨Tryz.f78, Tryz.func78, rfl, by kernel_rfl⟩
theorem c_79 : zc Tryz.prog 79 := ⟨Tryz.f79, Tryz.func79, rfl, by kernel_rfl⟩
theorem c_80 : zc Tryz.prog 80 := ⟨Tryz.f80, Tryz.func80, rfl, by kernel_rfl⟩
theorem c_81 : zc Tryz.prog 81 := ⟨Tryz.f81, Tryz.func81, rfl, by kernel_rfl⟩
theorem c_82 : zc Tryz.prog 82 := ⟨Tryz.f82, Tryz.func82, rfl, by kernel_rfl⟩
theorem c_83 : zc Tryz.prog 83 := ⟨Tryz.f83, Tryz.func83, rfl, by kernel_rfl⟩
theorem c_84 : zc Tryz.prog 84 := ⟨Tryz.f84, Tryz.func84, rfl, by kernel_rfl⟩
theorem c_85 : zc Tryz.prog 85 := ⟨Tryz.f85, Tryz.func85, rfl, by kernel_rfl⟩
theorem c_86 : zc Tryz.prog 86 := ⟨Tryz.f86, Tryz.func86, rfl, by kernel_rfl⟩
theorem c_87 : zc Tryz.prog 87 := ⟨Tryz.f87, Tryz.func87, rfl, by kernel_rfl⟩
theorem c_88 : zc Tryz.prog 88 := ⟨Tryz.f88, Tryz.func88, rfl, by kernel_rfl⟩
theorem c_89 : zc Tryz.prog 89 := ⟨Tryz.f89, Tryz.func89, rfl, by kernel_rfl⟩
theorem c_90 : zc Tryz.prog 90 := ⟨Tryz.f90, Tryz.func90, rfl, by kernel_rfl⟩
theorem zqv : zc Tryz.prog 91 := ⟨Tryz.f91, Tryz.func91, rfl, by kernel_rfl⟩
theorem c_92 : zc Tryz.prog 92 := ⟨Tryz.f92, Tryz.func92, rfl, by kernel_rfl⟩
theorem c_99 : zc Tryz.prog 99 := ⟨Tryz.f99, Tryz.func99, rfl, by kernel_rfl⟩
theorem c_100 : zc Tryz.prog 100 := ⟨Tryz.f100, Tryz.func100, rfl, by kernel_rfl⟩
theorem zsm : zc Tryz.prog 101 := ⟨Tryz.f101, Tryz.func101, rfl, by kernel_rfl⟩
theorem c_102 : zc Tryz.prog 102 := ⟨Tryz.f102, Tryz.func102, rfl, by kernel_rfl⟩
theorem c_110 : zc Tryz.prog 110 := ⟨Tryz.f110, Tryz.func110, rfl, by kernel_rfl⟩
theorem c_111 : zc Tryz.prog 111 := ⟨Tryz.f111, Tryz.func111, rfl, by kernel_rfl⟩
theorem zsn : zc Tryz.prog 112 := ⟨Tryz.f112, Tryz.func112, rfl, by kernel_rfl⟩
theorem c_113 : zc Tryz.prog 113 := ⟨Tryz.f113, Tryz.func113, rfl, by kernel_rfl⟩
theorem c_114 : zc Tryz.prog 114 := ⟨Tryz.f114, Tryz.func114, rfl, by kernel_rfl⟩
theorem c_115 : zc Tryz.prog 115 := ⟨Tryz.f115, Tryz.func115, rfl, by kernel_rfl⟩
theorem zso : zc Tryz.prog 116 := ⟨Tryz.f116, Tryz.func116, rfl, by kernel_rfl⟩
theorem c_117 : zc Tryz.prog 117 := ⟨Tryz.f117, Tryz.func117, rfl, by kernel_rfl⟩
theorem c_118 : zc Tryz.prog 118 := ⟨Tryz.f118, Tryz.func118, rfl, by kernel_rfl⟩
theorem c_119 : zc Tryz.prog 119 := ⟨Tryz.f119, Tryz.func119, rfl, by kernel_rfl⟩
theorem zqW : zc Tryz.prog 120 := ⟨Tryz.f120, Tryz.func120, rfl, by kernel_rfl⟩
theorem c_121 : zc Tryz.prog 121 := ⟨Tryz.f121, Tryz.func121, rfl, by kernel_rfl⟩
theorem c_122 : zc Tryz.prog 122 := ⟨Tryz.f122, Tryz.func122, rfl, by kernel_rfl⟩
theorem c_123 : zc Tryz.prog 123 := ⟨Tryz.f123, Tryz.func123, rfl, by kernel_rfl⟩
theorem c_124 : zc Tryz.prog 124 := ⟨Tryz.f124, Tryz.func124, rfl, by kernel_rfl⟩
theorem c_125 : zc Tryz.prog 125 := ⟨Tryz.f125, Tryz.func125, rfl, by kernel_rfl⟩
theorem c_126 : zc Tryz.prog 126 := ⟨Tryz.f126, Tryz.func126, rfl, by kernel_rfl⟩
theorem c_127 : zc Tryz.prog 127 := ⟨Tryz.f127, Tryz.func127, rfl, by kernel_rfl⟩
theorem c_131 : zc Tryz.prog 131 := ⟨Tryz.f131, Tryz.func131, rfl, by kernel_rfl⟩
theorem c_132 : zc Tryz.prog 132 := ⟨Tryz.f132, Tryz.func132, rfl, by kernel_rfl⟩
theorem c_133 : zc Tryz.prog 133 := ⟨Tryz.f133, Tryz.func133, rfl, by kernel_rfl⟩
theorem c_134 : zc Tryz.prog 134 := ⟨Tryz.f134, Tryz.func134, rfl, by kernel_rfl⟩
theorem c_136 : zc Tryz.prog 136 := ⟨Tryz.f136, Tryz.func136, rfl, by kernel_rfl⟩
theorem c_142 : zc Tryz.prog 142 := ⟨Tryz.f142, Tryz.func142, rfl, by kernel_rfl⟩
theorem zqX : zc Tryz.prog 143 := ⟨Tryz.f143, Tryz.func143, rfl, by kernel_rfl⟩
theorem c_146 : zc Tryz.prog 146 := ⟨Tryz.f146, Tryz.func146, rfl, by kernel_rfl⟩
theorem c_147 : zc Tryz.prog 147 := ⟨Tryz.f147, Tryz.func147, rfl, by kernel_rfl⟩
theorem c_148 : zc Tryz.prog 148 := ⟨Tryz.f148, Tryz.func148, rfl, by kernel_rfl⟩
theorem c_149 : zc Tryz.prog 149 := ⟨Tryz.f149, Tryz.func149, rfl, by kernel_rfl⟩
theorem c_150 : zc Tryz.prog 150 := ⟨Tryz.f150, Tryz.func150, rfl, by kernel_rfl⟩
theorem znY : zc Tryz.prog 151 := ⟨Tryz.f151, Tryz.func151, rfl, by kernel_rfl⟩
theorem c_152 : zc Tryz.prog 152 := ⟨Tryz.f152, Tryz.func152, rfl, by kernel_rfl⟩
theorem c_153 : zc Tryz.prog 153 := ⟨Tryz.f153, Tryz.func153, rfl, by kernel_rfl⟩
theorem zpL : zc Tryz.prog 154 := ⟨Tryz.f154, Tryz.func154, rfl, by kernel_rfl⟩
theorem c_155 : zc Tryz.prog 155 := ⟨Tryz.f155, Tryz.func155, rfl, by kernel_rfl⟩
theorem c_159 : zc Tryz.prog 159 := ⟨Tryz.f159, Tryz.func159, rfl, by kernel_rfl⟩
theorem c_160 : zc Tryz.prog 160 := ⟨Tryz.f160, Tryz.func160, rfl, by kernel_rfl⟩
theorem c_161 : zc Tryz.prog 161 := ⟨Tryz.f161, Tryz.func161, rfl, by kernel_rfl⟩
theorem c_162 : zc Tryz.prog 162 := ⟨Tryz.f162, Tryz.func162, rfl, by kernel_rfl⟩
theorem c_163 : zc Tryz.prog 163 := ⟨Tryz.f163, Tryz.func163, rfl, by kernel_rfl⟩
theorem c_165 : zc Tryz.prog 165 := ⟨Tryz.f165, Tryz.func165, rfl, by kernel_rfl⟩
theorem c_166 : zc Tryz.prog 166 := ⟨Tryz.f166, Tryz.func166, rfl, by kernel_rfl⟩
theorem zsp : zc Tryz.prog 167 := ⟨Tryz.f167, Tryz.func167, rfl, by kernel_rfl⟩
theorem c_168 : zc Tryz.prog 168 := ⟨Tryz.f168, Tryz.func168, rfl, by kernel_rfl⟩
theorem c_169 : zc Tryz.prog 169 := ⟨Tryz.f169, Tryz.func169, rfl, by kernel_rfl⟩
theorem c_170 : zc Tryz.prog 170 := ⟨Tryz.f170, Tryz.func170, rfl, by kernel_rfl⟩
theorem zpM : zc Tryz.prog 172 := ⟨Tryz.f172, Tryz.func172, rfl, by kernel_rfl⟩
theorem zsq : zc Tryz.prog 174 := ⟨Tryz.f174, Tryz.func174, rfl, by kernel_rfl⟩
theorem c_175 : zc Tryz.prog 175 := ⟨Tryz.f175, Tryz.func175, rfl, by kernel_rfl⟩
theorem c_176 : zc Tryz.prog 176 := ⟨Tryz.f176, Tryz.func176, rfl, by kernel_rfl⟩
theorem c_177 : zc Tryz.prog 177 := ⟨Tryz.f177, Tryz.func177, rfl, by kernel_rfl⟩
theorem zpN : zc Tryz.prog 178 := ⟨Tryz.f178, Tryz.func178, rfl, by kernel_rfl⟩
theorem c_179 : zc Tryz.prog 179 := ⟨Tryz.f179, Tryz.func179, rfl, by kernel_rfl⟩
theorem c_183 : zc Tryz.prog 183 := ⟨Tryz.f183, Tryz.func183, rfl, by kernel_rfl⟩
theorem c_184 : zc Tryz.prog 184 := ⟨Tryz.f184, Tryz.func184, rfl, by kernel_rfl⟩
theorem c_185 : zc Tryz.prog 185 := ⟨Tryz.f185, Tryz.func185, rfl, by kernel_rfl⟩
theorem c_186 : zc Tryz.prog 186 := ⟨Tryz.f186, Tryz.func186, rfl, by kernel_rfl⟩
theorem c_187 : zc Tryz.prog 187 := ⟨Tryz.f187, Tryz.func187, rfl, by kernel_rfl⟩
theorem zsr : zc Tryz.prog 188 := ⟨Tryz.f188, Tryz.func188, rfl, by kernel_rfl⟩
theorem c_190 : zc Tryz.prog 190 := ⟨Tryz.f190, Tryz.func190, rfl, by kernel_rfl⟩
theorem c_191 : zc Tryz.prog 191 := ⟨Tryz.f191, Tryz.func191, rfl, by kernel_rfl⟩
theorem c_192 : zc Tryz.prog 192 := ⟨Tryz.f192, Tryz.func192, rfl, by kernel_rfl⟩
theorem c_199 : zc Tryz.prog 199 := ⟨Tryz.f199, Tryz.func199, rfl, by kernel_rfl⟩
theorem c_200 : zc Tryz.prog 200 := ⟨Tryz.f200, Tryz.func200, rfl, by kernel_rfl⟩
theorem zss : zc Tryz.prog 201 := ⟨Tryz.f201, Tryz.func201, rfl, by kernel_rfl⟩
theorem c_208 : zc Tryz.prog 208 := ⟨Tryz.f208, Tryz.func208, rfl, by kernel_rfl⟩
theorem c_212 : zc Tryz.prog 212 := ⟨Tryz.f212, Tryz.func212, rfl, by kernel_rfl⟩
end Go.Proofs
end
section
namespace Go.Proofs
open Go.Dk Go.Dm Go.RowKit
theorem zgs (s : Str) (c : UInt8) (R : Int) (w0 : World) (hG : zx w0) (hm : strings_IndexByte s c = some R) :
    Calls Tryz.prog 163 #[str s, z7 c] w0 fun e w' => e = .returned (int R) ∧ Below w0.heap.size w0 w' := by
  refine (Tryz.strings_IndexByte ⟨s.toArray⟩ c.toNat w0).mono fun e w' ⟨he, hw⟩ => ?_
  subst he hw
  refine ⟨?_, Below.refl _ _⟩
  unfold strings_IndexByte at hm
  rw [zpc] at hm
  cases hm
  simp
theorem zgm (s t : Str) (R : Int) (w0 : World) (hG : zx w0) (hm : strings_Index s t = some R) :
    Calls Tryz.prog 31 #[str s, str t] w0 fun e w' => e = .returned (int R) ∧ Below w0.heap.size w0 w' := by
  unfold strings_Index at hm
  split at hm
  · rename_i hs
    obtain ⟨m, hg⟩ := hG.max
    refine (Tryz.strings_Index ⟨s.toArray⟩ ⟨t.toArray⟩ m w0 hs hg).mono fun e w' ⟨he, hw⟩ => ?_
    subst he hw
    rw [zl7] at hm
    cases hm
    exact ⟨rfl, Below.refl _ _⟩
  · cases hm
theorem zfU (s t : Str) (R : Str × Str × Bool) (w0 : World) (hG : zx w0) (hm : strings_Cut s t = some R) :
    Calls Tryz.prog 90 #[str s, str t] w0 fun e w' => e = .returned (.tuple #[str R.1, str R.2.1, .bool R.2.2]) ∧ Below w0.heap.size w0 w' := by
  unfold strings_Cut at hm
  split at hm
  · rename_i hs
    obtain ⟨m, hg⟩ := hG.max
    refine (Tryz.strings_Cut ⟨s.toArray⟩ ⟨t.toArray⟩ m w0 hs hg).mono fun e w' ⟨he, n, hw⟩ => ?_
    subst he hw
    cases hm
    exact ⟨rfl, ⟨rfl, rfl, rfl, Nat.le_refl _, fun _ _ => rfl⟩⟩
  · cases hm
theorem zgG (s cs : Str) (R : Int) (w0 : World) (hG : zx w0) (hm : strings_IndexAny s cs = some R) :
    Calls Tryz.prog 82 #[str s, str cs] w0 fun e w' => e = .returned (int R) ∧ Below w0.heap.size w0 w' := by
  unfold strings_IndexAny at hm
  split at hm
  · rename_i hs
    refine (zod Tryz.lays153 (by kernel_rfl) ⟨s.toArray⟩ ⟨cs.toArray⟩ w0 hs.1 hs.2.1 (fun j b hb => ?_)).mono fun e w' ⟨he, hw⟩ => ?_
    · have := List.all_eq_true.1 hs.2.2 b (List.mem_of_getElem? hb)
      simpa using this
    · subst he
      rw [zqd] at hm
      cases hm
      exact ⟨rfl, hw⟩
  · cases hm
theorem zjp (n b : Int) (R : Str) (w0 : World) (hG : zbh w0) (hm : zds n b = some R) :
    Calls Tryz.prog 155 #[int n, int b] w0 fun e w' => e = .returned (str R) ∧ Below w0.heap.size w0 w' := by
  unfold zds at hm
  split at hm
  · rename_i h
    obtain ⟨h1, rfl⟩ := h
    obtain ⟨h2, h3⟩ := zhc.1 h1
    cases hm
    refine (Tryz.strconv_FormatInt_10 n h2 h3 w0 hG.2).mono fun e w' ⟨he, k, os, hw⟩ => ?_
    subst he hw
    exact ⟨rfl, Lib.below_grow _ _ (Nat.le_refl _) _ _⟩
  · cases hm
theorem zis (s sep : Str) (R : List Str) (w0 : World) (hG : zx w0) (hm : strings_Split s sep = some R) :
    Calls Tryz.prog 32 #[str s, str sep] w0 fun e w' => ∃ (p0 : Option Addr) (c0 : Nat), e = .returned (.slice p0 R.length c0) ∧ Own w0 [] w' [.row (.slice p0 R.length c0) 9 1 R.length (cells zh R)] := by
  unfold strings_Split at hm
  split at hm
  · rename_i hs
    obtain ⟨m, hg⟩ := hG.max
    refine (Tryz.strings_Split ⟨s.toArray⟩ ⟨sep.toArray⟩ m w0 hs.1 hg hs.2).mono fun e w' ⟨he, hw⟩ => ?_
    subst he hw
    have hlen := Go.Lib.splitB_all ⟨sep.toArray⟩ hs.2 0 _ ⟨s.toArray⟩ rfl
    have hdat := Go.Lib.splitB_data ⟨sep.toArray⟩ 0 (Go.Lib.countB ⟨s.toArray⟩ ⟨sep.toArray⟩) ⟨s.toArray⟩
    have hR : R = (Go.Lib.splitB ⟨sep.toArray⟩ 0 (Go.Lib.countB ⟨s.toArray⟩ ⟨sep.toArray⟩) ⟨s.toArray⟩).map (·.data.toList) := by
      rw [hdat]; exact (Option.some.inj hm).symm
    have hRl : R.length = Go.Lib.countB ⟨s.toArray⟩ ⟨sep.toArray⟩ + 1 := by rw [hR, List.length_map, hlen]
    have hcells : (Go.Lib.splitB ⟨sep.toArray⟩ 0 (Go.Lib.countB ⟨s.toArray⟩ ⟨sep.toArray⟩) ⟨s.toArray⟩).map Value.string = cells zh R := by
      rw [hR]
      generalize Go.Lib.splitB _ _ _ _ = l
      induction l with
      | nil => rfl
      | cons x l ih => obtain ⟨⟨x⟩⟩ := x; rw [List.map_cons, List.map_cons, ih]; rfl
    have hle := Go.Lib.countB_le ⟨sep.toArray⟩ hs.2 _ ⟨s.toArray⟩ (Nat.le_refl _)
    have hsz : (⟨s.toArray⟩ : ByteArray).size = s.length := rfl
    have hO := (Own.refl w0).newRow (cells zh R) 9 1 R.length (zeg (enc := zh) (sz := 1) (fun _ => rfl) R) (by unfold maxLen; omega)
    rw [hcells, ← hRl]
    exact ⟨_, _, rfl, hO⟩
  · cases hm
theorem ziI (s cs : Str) (R : Str) (w0 : World) (hG : zx w0) (hm : zd3 s cs = some R) :
    Calls Tryz.prog 64 #[str s, str cs] w0 fun e w' => e = .returned (str R) ∧ Below w0.heap.size w0 w' := by
  unfold zd3 at hm
  split at hm
  · rename_i hs
    refine (Any.strings_Trim_laid Tryz.lays160 (by kernel_rfl) ⟨s.toArray⟩ ⟨cs.toArray⟩ w0 (Nat.le_trans (Nat.le_of_lt hs.1) (by decide)) hs.2.1 (fun j b hb => ?_)).mono fun e w' ⟨he, hw⟩ => ?_
    · have := List.all_eq_true.1 hs.2.2 b (List.mem_of_getElem? hb)
      simpa using this
    · subst he
      cases hm
      exact ⟨rfl, hw⟩
  · cases hm
theorem zl8 (l : List Str) (sep : Str) (R : Str) (w0 : World) (hG : zx w0) {x_p : Option Addr} {x_c : Nat} (hs0 : zas w0 x_p (cells zh l)) (hc0 : l.length ≤ x_c) (hm : strings_Join l sep = some R) :
    Calls Tryz.prog 123 #[.slice x_p l.length x_c, str sep] w0 fun e w' => e = .returned (str R) ∧ Below w0.heap.size w0 w' := by
  unfold strings_Join at hm
  split at hm
  · rename_i hb
    cases hm
    have hmap : (l.map fun x => (⟨x.toArray⟩ : ByteArray)).map (·.data.toList) = l := by
      rw [List.map_map]; exact List.map_id' l
    cases x_p with
    | none =>
      have hnil : cells zh l = [] := hs0
      have : l = [] := by
        cases l with
        | nil => rfl
        | cons x l => simp [cells, zh] at hnil
      subst this
      exact (Tryz.strings_Join_none none x_c ⟨sep.toArray⟩ w0).mono fun e w' h => by
        obtain ⟨he, hw⟩ := h
        subst he hw
        exact ⟨rfl, Below.refl _ _⟩
    | some a =>
      obtain ⟨bk, o, spot⟩ := a
      obtain ⟨h1, h2, h3⟩ := hs0
      simp only at h1; subst h1
      have := Tryz.strings_Join bk o x_c (l.map fun x => (⟨x.toArray⟩ : ByteArray)) ⟨sep.toArray⟩ w0 (fun j x hx => ?_) h2 (by simpa using hb.1) (by simpa using hc0) (by rw [hmap]; exact hb.2)
      · rw [hmap, List.length_map] at this
        exact this
      · rw [List.getElem?_map] at hx
        obtain ⟨y, hy, rfl⟩ := Option.map_eq_some_iff.1 hx
        refine h3 j _ ?_
        have := zjl (enc := zh) (sz := 1) (fun _ => rfl) l j 0 y hy (by omega)
        rw [Nat.mul_one, Nat.add_zero] at this
        exact this
  · cases hm
end Go.Proofs
end
