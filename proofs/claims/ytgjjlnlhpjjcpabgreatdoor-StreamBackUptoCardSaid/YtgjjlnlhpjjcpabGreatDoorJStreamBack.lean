/-
  StreamBack returns true for all arguments that together are of bulk at most 1048576, and leaves them as they were (the second form's tied card). Conditions: the bulk alone.
-/
import Derived.Test.YtgjjlnlhpjjcpabGreatDoorLib
import Derived.Test.YtgjjlnlhpjjcpabGreatDoorW18
import Derived.Test.YtgjjlnlhpjjcpabGreatDoorT23B
import Derived.Test.YtgjjlnlhpjjcpabGreatDoorCards
import Derived.Test.YtgjjlnlhpjjcpabGreatDoorTie
import Derived.Shelf.Vars
import Derived.LaidLaws
import Derived.MakeChecks
import Derived.SevenTiedAt
import Derived.Lib.TrailingZeros
set_option linter.unusedVariables false
set_option linter.unusedSimpArgs false
set_option maxRecDepth 100000
namespace Go.Proofs.YtgjjlnlhpjjcpabGreatDoor.jStreamBack
open Go.Dk Go.Dm Go.ChangeShapes Go.WideShapes Go.ChangeAt Go.RowKit Go.Deep
open Go.ChangeMaps (open_string shut_string)

theorem inI_wf {n : Int} (h : (Lit.int .i64 n).wf = true) : inI n = true := h

theorem own : ownKnob Tryz.prog.godebug = none := by kernel_rfl
theorem laidOut : laidOutB Tryz.prog = true := by kernel_rfl

theorem cells3 : Tryz.prog.cellsOf 3 = 1 := by kernel_rfl
theorem cells9 : Tryz.prog.cellsOf 9 = 1 := by kernel_rfl
theorem cells22 : Tryz.prog.cellsOf 22 = 1 := by kernel_rfl
theorem cells23 : Tryz.prog.cellsOf 23 = 1 := by kernel_rfl
theorem cells25 : Tryz.prog.cellsOf 25 = 7 := by kernel_rfl
theorem cells26 : Tryz.prog.cellsOf 26 = 1 := by kernel_rfl
theorem cells28 : Tryz.prog.cellsOf 28 = 2 := by kernel_rfl
theorem cells30 : Tryz.prog.cellsOf 30 = 11 := by kernel_rfl
theorem cells41 : Tryz.prog.cellsOf 41 = 1 := by kernel_rfl
theorem cells43 : Tryz.prog.cellsOf 43 = 1 := by kernel_rfl
theorem cells86 : Tryz.prog.cellsOf 86 = 2 := by kernel_rfl

theorem list2 {α : Type} {l : List α} (h : l.length = 2) : ∃ x0 x1, l = [x0, x1] := by
  match l, h with
  | [x0, x1], _ => exact ⟨_, _, rfl⟩
theorem list4 {α : Type} {l : List α} (h : l.length = 4) : ∃ x0 x1 x2 x3, l = [x0, x1, x2, x3] := by
  match l, h with
  | [x0, x1, x2, x3], _ => exact ⟨_, _, _, _, rfl⟩
theorem list7 {α : Type} {l : List α} (h : l.length = 7) : ∃ x0 x1 x2 x3 x4 x5 x6, l = [x0, x1, x2, x3, x4, x5, x6] := by
  match l, h with
  | [x0, x1, x2, x3, x4, x5, x6], _ => exact ⟨_, _, _, _, _, _, _, rfl⟩
theorem list11 {α : Type} {l : List α} (h : l.length = 11) : ∃ x0 x1 x2 x3 x4 x5 x6 x7 x8 x9 x10, l = [x0, x1, x2, x3, x4, x5, x6, x7, x8, x9, x10] := by
  match l, h with
  | [x0, x1, x2, x3, x4, x5, x6, x7, x8, x9, x10], _ => exact ⟨_, _, _, _, _, _, _, _, _, _, _, rfl⟩

theorem length_le {H : Type} (l : List (DataW H)) : l.length ≤ Rows.uptoBulkAll l := by
  induction l with
  | nil => simp [Rows.uptoBulkAll]
  | cons x r ih =>
    have : 1 ≤ Rows.uptoBulk x := by
      cases x with
      | lit l => cases l <;> simp [Rows.uptoBulk]
      | nil => simp [Rows.uptoBulk]
      | ptr d => simp [Rows.uptoBulk]
      | slice elems spare => simp [Rows.uptoBulk]
      | agg parts => simp [Rows.uptoBulk]
      | iface t d => simp [Rows.uptoBulk]
      | map entries => simp [Rows.uptoBulk]
      | held h => simp [Rows.uptoBulk]
    simp only [Rows.uptoBulkAll, List.length_cons]; omega
theorem list_bulk {H α : Type} {d : DataW H} {xs : List α} (h : (∃ E S, d = .slice E S ∧ E.length = xs.length) ∨ xs = []) : xs.length ≤ Rows.uptoBulk d := by
  rcases h with ⟨E, S, rfl, he⟩ | rfl
  · have := length_le E
    simp only [Rows.uptoBulk]; omega
  · simp
theorem slice_bulk {H : Type} {y : DataW H} {E S : List (DataW H)} (h : y ∈ E) : Rows.uptoBulk y ≤ Rows.uptoBulk (.slice E S) := by
  have : Rows.uptoBulk y ≤ Rows.uptoBulkAll E := by
    induction E with
    | nil => cases h
    | cons x r ih =>
      simp only [Rows.uptoBulkAll]
      rcases List.mem_cons.1 h with rfl | h
      · omega
      · have := ih h; omega
  simp only [Rows.uptoBulk]; omega
theorem bulk_mem {H : Type} {y : DataW H} {ys : List (DataW H)} (h : y ∈ ys) : Rows.uptoBulk y ≤ Rows.uptoBulk (.agg ys) := by
  have : Rows.uptoBulk y ≤ Rows.uptoBulkAll ys := by
    induction ys with
    | nil => cases h
    | cons x r ih =>
      simp only [Rows.uptoBulkAll]
      rcases List.mem_cons.1 h with rfl | h
      · omega
      · have := ih h; omega
  simp only [Rows.uptoBulk]; omega

theorem opens_api_Field : zxq Tryz.prog 86 zb (fun _ => True) := by
  intro H enc w base spare held fuel cs x h
  have hl := (DataW.trod_struct Tryz.underlying86 h).choose_spec.choose_spec.2.2.1
  rw [cells86] at hl
  obtain ⟨c0, c1, rfl⟩ := list2 hl
  obtain ⟨xs, n, _, hx, _, hxl, hf⟩ := DataW.trod_struct Tryz.underlying86 h
  obtain ⟨y0, y1, rfl⟩ := list2 hxl
  have h0 : DataW.trod enc Tryz.prog w base spare held n 9 [c0] = some y0 := by have := hf 0 _ rfl; simpa [cells9] using this
  obtain ⟨v0, e0, _⟩ := zhx Tryz.underlying9 _ _ _ _ _ _ _ _ h0
  simp only [List.cons.injEq, and_true] at e0
  subst e0
  have h1 : DataW.trod enc Tryz.prog w base spare held n 9 [c1] = some y1 := by have := hf 1 _ rfl; simpa [cells9] using this
  obtain ⟨v1, e1, _⟩ := zhx Tryz.underlying9 _ _ _ _ _ _ _ _ h1
  simp only [List.cons.injEq, and_true] at e1
  subst e1
  exact ⟨⟨v0, v1⟩, rfl, trivial⟩

theorem opensD_api_Message {H : Type} {enc : TypeId × Value → H} {w : World} (fuel : Nat) (cs : List Value) (x : DataW H × List MemPlace) (h : DataW.trod enc Tryz.prog w 0 (fun _ => true) true fuel 30 cs = some x) :
    ∃ (z : api_Message) (a : (Option Addr × Nat) × (Option Addr × Nat)), cs = zn.enc z a ∧ zn.ok w z a ∧ (inI z.Head.Kind = true ∧ inI z.Head.Code = true ∧ inI z.Head.Minor = true ∧ z.Head.Fields.length ≤ Rows.uptoBulk x.1 ∧ inI z.Frame.Kind = true ∧ inI z.Frame.N = true ∧ z.Trailers.length ≤ Rows.uptoBulk x.1) := by
  have hl := (DataW.trod_struct Tryz.underlying30 h).choose_spec.choose_spec.2.2.1
  rw [cells30] at hl
  obtain ⟨c0, c1, c2, c3, c4, c5, c6, c7, c8, c9, c10, rfl⟩ := list11 hl
  obtain ⟨xs, n, _, hx, _, hxl, hf⟩ := DataW.trod_struct Tryz.underlying30 h
  obtain ⟨y0, y1, y2, y3, rfl⟩ := list4 hxl
  have h0 : DataW.trod enc Tryz.prog w 0 (fun _ => true) true n 25 [c0, c1, c2, c3, c4, c5, c6] = some y0 := by have := hf 0 _ rfl; simpa [cells25] using this
  obtain ⟨n0_xs, n0_n, _, n0_hx, _, n0_hxl, n0_hf⟩ := DataW.trod_struct Tryz.underlying25 h0
  obtain ⟨n0_y0, n0_y1, n0_y2, n0_y3, n0_y4, n0_y5, n0_y6, rfl⟩ := list7 n0_hxl
  have n0_h0 : DataW.trod enc Tryz.prog w 0 (fun _ => true) true n0_n 22 [c0] = some n0_y0 := by have := n0_hf 0 _ rfl; simpa [cells22] using this
  obtain ⟨n0_v0, n0_e0, _, n0_v0_w⟩ := DataW.trod_int Tryz.underlying22 n0_h0
  simp only [List.cons.injEq, and_true] at n0_e0
  subst n0_e0
  have n0_h1 : DataW.trod enc Tryz.prog w 0 (fun _ => true) true n0_n 9 [c1] = some n0_y1 := by have := n0_hf 1 _ rfl; simpa [cells9] using this
  obtain ⟨n0_v1, n0_e1, _⟩ := zhx Tryz.underlying9 _ _ _ _ _ _ _ _ n0_h1
  simp only [List.cons.injEq, and_true] at n0_e1
  subst n0_e1
  have n0_h2 : DataW.trod enc Tryz.prog w 0 (fun _ => true) true n0_n 9 [c2] = some n0_y2 := by have := n0_hf 2 _ rfl; simpa [cells9] using this
  obtain ⟨n0_v2, n0_e2, _⟩ := zhx Tryz.underlying9 _ _ _ _ _ _ _ _ n0_h2
  simp only [List.cons.injEq, and_true] at n0_e2
  subst n0_e2
  have n0_h3 : DataW.trod enc Tryz.prog w 0 (fun _ => true) true n0_n 3 [c3] = some n0_y3 := by have := n0_hf 3 _ rfl; simpa [cells3] using this
  obtain ⟨n0_v3, n0_e3, _, n0_v3_w⟩ := DataW.trod_int Tryz.underlying3 n0_h3
  simp only [List.cons.injEq, and_true] at n0_e3
  subst n0_e3
  have n0_h4 : DataW.trod enc Tryz.prog w 0 (fun _ => true) true n0_n 9 [c4] = some n0_y4 := by have := n0_hf 4 _ rfl; simpa [cells9] using this
  obtain ⟨n0_v4, n0_e4, _⟩ := zhx Tryz.underlying9 _ _ _ _ _ _ _ _ n0_h4
  simp only [List.cons.injEq, and_true] at n0_e4
  subst n0_e4
  have n0_h5 : DataW.trod enc Tryz.prog w 0 (fun _ => true) true n0_n 3 [c5] = some n0_y5 := by have := n0_hf 5 _ rfl; simpa [cells3] using this
  obtain ⟨n0_v5, n0_e5, _, n0_v5_w⟩ := DataW.trod_int Tryz.underlying3 n0_h5
  simp only [List.cons.injEq, and_true] at n0_e5
  subst n0_e5
  have n0_h6 : DataW.trod enc Tryz.prog w 0 (fun _ => true) true n0_n 23 [c6] = some n0_y6 := by have := n0_hf 6 _ rfl; simpa [cells23] using this
  have h1 : DataW.trod enc Tryz.prog w 0 (fun _ => true) true n 28 [c7, c8] = some y1 := by have := hf 1 _ rfl; simpa [cells28] using this
  obtain ⟨n1_xs, n1_n, _, n1_hx, _, n1_hxl, n1_hf⟩ := DataW.trod_struct Tryz.underlying28 h1
  obtain ⟨n1_y0, n1_y1, rfl⟩ := list2 n1_hxl
  have n1_h0 : DataW.trod enc Tryz.prog w 0 (fun _ => true) true n1_n 26 [c7] = some n1_y0 := by have := n1_hf 0 _ rfl; simpa [cells26] using this
  obtain ⟨n1_v0, n1_e0, _, n1_v0_w⟩ := DataW.trod_int Tryz.underlying26 n1_h0
  simp only [List.cons.injEq, and_true] at n1_e0
  subst n1_e0
  have n1_h1 : DataW.trod enc Tryz.prog w 0 (fun _ => true) true n1_n 3 [c8] = some n1_y1 := by have := n1_hf 1 _ rfl; simpa [cells3] using this
  obtain ⟨n1_v1, n1_e1, _, n1_v1_w⟩ := DataW.trod_int Tryz.underlying3 n1_h1
  simp only [List.cons.injEq, and_true] at n1_e1
  subst n1_e1
  have h2 : DataW.trod enc Tryz.prog w 0 (fun _ => true) true n 9 [c9] = some y2 := by have := hf 2 _ rfl; simpa [cells9] using this
  obtain ⟨v2, e2, _⟩ := zhx Tryz.underlying9 _ _ _ _ _ _ _ _ h2
  simp only [List.cons.injEq, and_true] at e2
  subst e2
  have h3 : DataW.trod enc Tryz.prog w 0 (fun _ => true) true n 23 [c10] = some y3 := by have := hf 3 _ rfl; simpa [cells23] using this
  obtain ⟨ad0, l0, cp0, e_0, hS0, hC0, _, hb0⟩ := zqL (x := n0_y6) Tryz.underlying23 cells86 (fun _ => rfl) (by decide) opens_api_Field n0_h6
  have hB0 : l0.length ≤ Rows.uptoBulk x.1 := by
    have h1 : l0.length ≤ Rows.uptoBulk n0_y6.1 := list_bulk hb0
    have k0 : Rows.uptoBulk n0_y6.1 ≤ Rows.uptoBulk y0.1 := by rw [n0_hx]; exact bulk_mem (by simp)
    have k1 : Rows.uptoBulk y0.1 ≤ Rows.uptoBulk x.1 := by rw [hx]; exact bulk_mem (by simp)
    omega
  obtain ⟨ad1, l1, cp1, e_1, hS1, hC1, _, hb1⟩ := zqL (x := y3) Tryz.underlying23 cells86 (fun _ => rfl) (by decide) opens_api_Field h3
  have hB1 : l1.length ≤ Rows.uptoBulk x.1 := by
    have h1 : l1.length ≤ Rows.uptoBulk y3.1 := list_bulk hb1
    have k0 : Rows.uptoBulk y3.1 ≤ Rows.uptoBulk x.1 := by rw [hx]; exact bulk_mem (by simp)
    omega
  exact ⟨⟨⟨n0_v0, n0_v1, n0_v2, n0_v3, n0_v4, n0_v5, l0⟩, ⟨n1_v0, n1_v1⟩, v2, l1⟩, ((ad0, cp0), (ad1, cp1)), by rw [e_0, e_1]; rfl, ⟨⟨hS0, hC0⟩, ⟨hS1, hC1⟩⟩, inI_wf n0_v0_w, inI_wf n0_v3_w, inI_wf n0_v5_w, hB0, inI_wf n1_v0_w, inI_wf n1_v1_w, hB1⟩

theorem glob_size (W : World) (h : W.ShapedOpen Tryz.prog) : 6 ≤ W.heap.size := by
  have h0 : (((begin Tryz.prog (fun _ _ => 0) default).world.heap[5]?).bind Obj.row?).isSome = true := by kernel_rfl
  obtain ⟨⟨zero, t⟩, hz⟩ := Option.isSome_iff_exists.1 h0
  obtain ⟨cs, hh, _, _⟩ := h.1 5 zero t (of_decide_eq_true (by kernel_rfl)) hz
  have := (Array.getElem?_eq_some_iff.1 hh).1
  omega
theorem glob0 (W : World) (h : W.ShapedOpen Tryz.prog) : zj W :=
  ⟨glob_size W h, Go.Proofs.cell_of_shapedOpen_int (zero := #[.int .i64 0]) (t := 3) (g := 0) h (of_decide_eq_true (by kernel_rfl)) (by kernel_rfl) rfl (by kernel_rfl) (by kernel_rfl) Tryz.underlying3⟩
theorem glob (W : World) (h : W.ShapedOpen Tryz.prog) (hL : laidMetH Tryz.prog Rows.streamBackUptoRow.laid W) : zV W := by
  refine ⟨glob0 W h, ?_, ?_⟩
  rw [MakeChecks.laidMetH_plain _ _ _ (by kernel_rfl)] at hL
  have e : (Rows.laid_internal_strconv_uint64pow10 : DataW Unit) = Go.Lib.tabData .u64 Go.Lib.pow10Tab := by kernel_rfl
  have h1 : laidMet Tryz.prog [("math/bits.deBruijn32tab", Rows.laid_math_bits_deBruijn32tab), ("math/bits.deBruijn64tab", Rows.laid_math_bits_deBruijn64tab), ("internal/strconv.uint64pow10", Rows.laid_internal_strconv_uint64pow10), ("unicode/utf8.acceptRanges", Rows.laid_unicode_utf8_acceptRanges), ("unicode/utf8.first", Rows.laid_unicode_utf8_first)] W := hL
  have h2 := (zjq (zjq h1))
  rw [e] at h2
  exact Go.Lib.tabIs_of_head (g := 3) (t := 279) (e := 255) (n := 20) (by kernel_rfl) (by kernel_rfl) Tryz.underlying279 Tryz.underlying255 (by kernel_rfl) (by kernel_rfl) h2
  have h1 : laidMet Tryz.prog [("math/bits.deBruijn32tab", Rows.laid_math_bits_deBruijn32tab), ("math/bits.deBruijn64tab", Rows.laid_math_bits_deBruijn64tab), ("internal/strconv.uint64pow10", Rows.laid_internal_strconv_uint64pow10), ("unicode/utf8.acceptRanges", Rows.laid_unicode_utf8_acceptRanges), ("unicode/utf8.first", Rows.laid_unicode_utf8_first)] W := by
    rw [MakeChecks.laidMetH_plain _ _ _ (by kernel_rfl)] at hL
    exact hL
  have e : (Rows.laid_math_bits_deBruijn64tab : DataW Unit) = Go.Lib.tabData .u8 (Go.Lib.deBruijn64tab.map Int.ofNat) := by kernel_rfl
  have h2 := (zjq h1)
  rw [e] at h2
  have h4 := Go.Lib.tabIs_of_head (g := 5) (t := 298) (e := 5) (n := 64) (by kernel_rfl) (by kernel_rfl) Tryz.underlying298 Tryz.underlying5 (by kernel_rfl) (by kernel_rfl) h2
  exact (h4.cell (by kernel_rfl) 15 (by decide)).trans rfl

theorem contract (H : Type) (enc : TypeId × Value → H) (W : World) (base : Nat) (args : Array Value) (ds gs : List (DataW H)) (before : List MemPlace)
    (hval : ∀ (j : Nat) t v, Tryz.f5.params[j]? = some t → args[j]? = some v → Value.okWide Tryz.prog W .any base t v)
    (hW : DataW.Whole enc Tryz.prog Tryz.f5.params.toList Rows.streamBackSpec.vars false W args.toList ds gs before)
    (hk : Rows.uptoSmall H (ds ++ gs) = true) (hsh : W.ShapedOpen Tryz.prog) (hL : laidMetH Tryz.prog Rows.streamBackUptoRow.laid W) :
    Calls Tryz.prog 5 args W fun e W' => ∃ v, e = .returned v ∧ Rows.streamBackSpec.post enc Tryz.prog Tryz.f5 false true false false W args v W' := by
  have hW' := hW
  obtain ⟨p, q, hA0, hV, rfl, hfz, hnd⟩ := hW
  have hA : DataW.TrodAll enc Tryz.prog W 0 (fun _ => true) true Tryz.f5.params.toList args.toList ds p := hA0
  rw [Tryz.params5] at hA hval
  obtain ⟨v0, vs0, d0, ds0, p0, q0, hargs, rfl, rfl, h0, r0⟩ := trodAll_cons hA
  obtain ⟨v1, vs1, d1, ds1, p1, q1, rfl, rfl, rfl, h1, r1⟩ := trodAll_cons r0
  obtain ⟨rfl, rfl, rfl⟩ := trodAll_nil r1
  obtain rfl : args = #[v0, v1] := by cases args; simp_all
  obtain ⟨rfl, rfl⟩ := trodVars_none hV
  have hb : Rows.uptoBulkAll [d0, d1] ≤ 1048576 := of_decide_eq_true hk
  simp only [Rows.uptoBulkAll] at hb
  obtain ⟨ad0, a0, as0, cp0, rfl, s0, b0⟩ := ztH (d := zn) (Q := fun D z => inI z.Head.Kind = true ∧ inI z.Head.Code = true ∧ inI z.Head.Minor = true ∧ z.Head.Fields.length ≤ Rows.uptoBulk D ∧ inI z.Frame.Kind = true ∧ inI z.Frame.N = true ∧ z.Trailers.length ≤ Rows.uptoBulk D) Tryz.underlying43 cells30 (fun _ _ => rfl) opensD_api_Message (hval 0 43 v0 rfl rfl) h0
  have hl0 : a0.length ≤ Rows.uptoBulk d0 := list_bulk (by rcases b0 with ⟨E, S, h1, h2, _⟩ | h; exact .inl ⟨E, S, h1, h2⟩; exact .inr h)
  have hq0 : ∀ z ∈ a0, inI z.Head.Kind = true ∧ inI z.Head.Code = true ∧ inI z.Head.Minor = true ∧ z.Head.Fields.length < 1000000000 ∧ inI z.Frame.Kind = true ∧ inI z.Frame.N = true ∧ z.Trailers.length < 1000000000 := by
    intro z hz
    rcases b0 with ⟨E, S, h1, h2, hq⟩ | h1
    · obtain ⟨i, hi, rfl⟩ := List.mem_iff_getElem.1 hz
      obtain ⟨q0, q1, q2, q3, q4, q5, q6⟩ := hq i _ E[i] (List.getElem?_eq_getElem hi) (List.getElem?_eq_getElem (by omega))
      have hB : Rows.uptoBulk E[i] ≤ Rows.uptoBulk d0 := by rw [h1]; exact slice_bulk (List.getElem_mem (by omega))
      exact ⟨q0, q1, q2, by omega, q4, q5, by omega⟩
    · rw [h1] at hz; cases hz
  obtain ⟨m1, rfl, _, _, w1⟩ := open_int Tryz.underlying41 (hval 1 41 v1 rfl rfl) h1
  obtain ⟨a1, rfl⟩ := zyE w1
  refine (zlA a0 a1 true W (glob W hsh hL) s0 (znP a0 a1 (by omega) hq0)).mono fun e W' ⟨he, bel⟩ => ?_
  subst he
  exact ⟨_, rfl, _, _, _, [], _, [], hW', trodAll_mk1 (shut_bool Tryz.underlying4 _), zlo laidOut bel (by kernel_rfl) hA0, rfl, bel.frame _, fun h => by cases h⟩

/-- The cells of a table that is laid. -/
def flatD : DataW Unit → List Value
  | .lit (.int k n) => [.int k n]
  | .lit (.bool b) => [.bool b]
  | .agg l => flatL l
  | _ => []
where flatL : List (DataW Unit) → List Value
  | [] => []
  | d :: l => flatD d ++ flatL l
def layInto (cs : List Value) : Obj → Obj
  | .cells _ t frozen => .cells cs.toArray t frozen
  | o => o
noncomputable def laidWorld (os : Os) (args : Array Value) : World :=
  { World.holding Tryz.prog os ⟨#[], args, []⟩ with heap := ((((((World.holding Tryz.prog os ⟨#[], args, []⟩).heap.modify 4 (layInto (flatD Rows.laid_math_bits_deBruijn32tab))).modify 5 (layInto (flatD Rows.laid_math_bits_deBruijn64tab))).modify 3 (layInto (flatD Rows.laid_internal_strconv_uint64pow10))).modify 2 (layInto (flatD Rows.laid_unicode_utf8_acceptRanges))).modify 1 (layInto (flatD Rows.laid_unicode_utf8_first))) }
abbrev wit : Array Value := #[.slice none 0 0, .int .u16 0]
theorem laid_met (os : Os) : laidMetH Tryz.prog Rows.streamBackUptoRow.laid ((laidWorld os wit).forCall (fun _ _ => 0) ⟨#[], wit, []⟩).memory := by
  rw [MakeChecks.laidMetH_plain _ _ _ (by kernel_rfl)]
  exact laidMet_of_run' 8 (by kernel_rfl) (by kernel_rfl)
theorem lifted (os : Os) (started : os.Started) (H : Type) (enc : TypeId × Value → H) (F : Stop.Interp) :
    ReturnsInHanded {} Tryz.checked os 5 .any (fun w args => ((Rows.OpenSpec.upto Rows.streamBackSpec).pre enc Tryz.prog Tryz.f5 Rows.streamBackUptoRow.domain false w args ∧ laidMetH Tryz.prog Rows.streamBackUptoRow.laid w) ∧ sizedMet enc Tryz.prog Tryz.f5 (Rows.OpenSpec.upto Rows.streamBackSpec) false w args) (((Rows.OpenSpec.upto Rows.streamBackSpec).at F).post enc Tryz.prog Tryz.f5 false true false false) := by
  refine zmK (C := Tryz.checked) (s := Rows.OpenSpec.upto Rows.streamBackSpec) (k := Rows.uptoSmall) (X := laidMetH Tryz.prog Rows.streamBackUptoRow.laid) rfl (fun w tape i h => laidMetH.of_heap (w' := w.forCall tape i) (by rfl) h) own started (by kernel_rfl) Tryz.func5 (zmJ (enc := enc) (C := Tryz.checked) (os := os) (f := 5) (fn := Tryz.f5) (s := Rows.OpenSpec.upto Rows.streamBackSpec) (k := Rows.uptoSmall) rfl (conds := Rows.streamBackUptoRow.domain) (apart := false) (X := laidMetH Tryz.prog Rows.streamBackUptoRow.laid) false (laidWorld os wit) wit 8 rfl
      (World.shaped_of_RefB (by kernel_rfl) (by kernel_rfl)) (by kernel_rfl) (x := ([.nil, .lit (.int .u16 0)], [], [])) (by kernel_rfl) rfl (by kernel_rfl) (by kernel_rfl) (laid_met os)) ?_
  intro W base args ds gs before hval hW hk hsh hL
  exact contract H enc W base args ds gs before hval hW hk hsh hL
theorem jf1 : laidOutB Tryz.prog = true := by kernel_rfl
theorem jf2 : mapsRowed Tryz.prog = true := by kernel_rfl
theorem jf3 : (Rows.streamBackUptoRow.inPlace == Tryz.prog.inPlace 5) = true := by kernel_rfl
theorem jf4 : (Rows.streamBackUptoRow.unfollowed == Tryz.prog.unfollowed 5) = true := by kernel_rfl
theorem jf5 : (Rows.streamBackUptoRow.recurses == Tryz.prog.recurses 5) = true := by kernel_rfl
theorem jf6 : (Rows.streamBackUptoRow.named == Tryz.prog.varsNamed 5) = true := by kernel_rfl
theorem jf7 : Tryz.prog.stopsHeard = true := by kernel_rfl
theorem jf8 : Tryz.prog.mayEnter = true := by kernel_rfl
theorem jf9 : (Rows.streamBackUptoRow.lifted == Tryz.prog.liftsFinal) = true := by kernel_rfl
theorem jf10 : (Tryz.prog.make == some Rows.streamBackUptoRow.make) = true := by kernel_rfl
theorem jf11 : (Rows.streamBackUptoRow.plainKeys == Tryz.prog.plainKeys) = true := by kernel_rfl
theorem closed : joinedFacts Tryz.prog 5 Tryz.f5 (Rows.OpenSpec.upto Rows.streamBackSpec).bare Rows.streamBackUptoRow = true := by
  unfold joinedFacts
  rw [jf1, jf2, jf3, jf4, jf5, jf6, jf7, jf8, jf9, jf10, jf11]
  kernel_rfl
theorem over : Rows.streamBackUptoRow.holds Tryz.pinned (Rows.OpenSpec.upto Rows.streamBackSpec) :=
  OpenClaim.holds_of_cond 5 Tryz.f5 rfl rfl rfl rfl rfl rfl rfl ⟨rfl, rfl, rfl, rfl, rfl⟩ rfl rfl rfl rfl rfl (by kernel_rfl) Tryz.func5 closed
    (of_decide_eq_true (by kernel_rfl)) (by unfold Func.isWrapper; first | (rw [if_pos (by decide +kernel)]; kernel_rfl) | (rw [if_neg (by decide +kernel)]; exact ⟨rfl, rfl⟩))
    (fun os started H enc _ F => lifted os started H enc F)
theorem proved : Rows.StreamBackUptoCardSaid :=
  Claim7.holds_tied_plain_at .later [] [.data, .data, .data, .data, .pinned] true (true, "5e7df312d25f408d4ecf17ecad677d8660bff2d417b41264050f147f53621c0d") false over (fun _ h => by cases h) (by kernel_rfl) (fun _ h => by cases h) streamBackUpto_row_tie rfl ⟨rfl, rfl⟩ (by kernel_rfl) rfl
    (fun f fn hf hfn => by
      obtain rfl : f = 5 := Option.some.inj ((show Tryz.prog.funcNamed "doorstep/doorsteplaw23.StreamBack" = some 5 by kernel_rfl).symm.trans hf) |>.symm
      obtain rfl : fn = Tryz.f5 := (Option.some.inj (Tryz.func5.symm.trans hfn)).symm
      exact ⟨by kernel_rfl, fun j t ht => by
        rw [Tryz.params5] at ht
        have hm : t ∈ [43, 41] := by simpa using Array.mem_of_getElem? ht
        have hall : ([43, 41].all fun u => !Tryz.prog.wantsStandIn u) = true := by kernel_rfl
        exact (show Tryz.prog.wantsStandIn t = false by simpa using List.all_eq_true.1 hall t hm)⟩)
    (by kernel_rfl)
#print axioms proved
end Go.Proofs.YtgjjlnlhpjjcpabGreatDoor.jStreamBack
