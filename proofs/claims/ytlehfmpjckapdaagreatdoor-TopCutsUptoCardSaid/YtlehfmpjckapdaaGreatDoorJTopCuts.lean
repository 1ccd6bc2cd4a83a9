/-
  TopCuts returns true for all arguments that together are of bulk at most 1048576, and leaves them as they were (the second form's tied card). Conditions: the bulk alone.
-/
import Derived.Test.YtlehfmpjckapdaaGreatDoorP0
import Derived.Test.YtlehfmpjckapdaaGreatDoorYL
import Derived.Test.YtlehfmpjckapdaaGreatDoorYF0
import Derived.Test.YtlehfmpjckapdaaGreatDoorCards
import Derived.Test.YtlehfmpjckapdaaGreatDoorTie
import Derived.Shelf.Vars
import Derived.LaidLaws
import Derived.MakeChecks
import Derived.SevenTiedAt
import Derived.Lib.TrailingZeros
set_option linter.unusedVariables false
set_option linter.unusedSimpArgs false
set_option linter.unusedVariables false
set_option linter.unusedSimpArgs false
set_option maxRecDepth 100000
namespace Go.Proofs.YtlehfmpjckapdaaGreatDoor.jTopCuts
open Go.Dk Go.Dm Go.ChangeShapes Go.WideShapes Go.ChangeAt Go.RowKit Go.Deep
open Go.ChangeMaps (open_string shut_string)

theorem inI_wf {n : Int} (h : (Lit.int .i64 n).wf = true) : inI n = true := h

theorem own : ownKnob Tryz.prog.godebug = none := by kernel_rfl
theorem laidOut : laidOutB Tryz.prog = true := by kernel_rfl

theorem length_le {H : Type} (l : List (DataW H)) : l.length ≤ Rows.uptoBulkAll l := by
  induction l with
  | nil => simp [Rows.uptoBulkAll]
  | cons x r ih =>
    have : 1 ≤ Rows.uptoBulk x := by
      cases x with
      | lit l => cases l <;> simp [Rows.uptoBulk]
      | nil => simp [Rows.uptoBulk]
      | ptr d => simp [Rows.uptoBulk]
      | slice elems spare => simp [Rows.uptoBulk]
      | agg parts => simp [Rows.uptoBulk]
      | iface t d => simp [Rows.uptoBulk]
      | map entries => simp [Rows.uptoBulk]
      | held h => simp [Rows.uptoBulk]
    simp only [Rows.uptoBulkAll, List.length_cons]; omega
theorem list_bulk {H α : Type} {d : DataW H} {xs : List α} (h : (∃ E S, d = .slice E S ∧ E.length = xs.length) ∨ xs = []) : xs.length ≤ Rows.uptoBulk d := by
  rcases h with ⟨E, S, rfl, he⟩ | rfl
  · have := length_le E
    simp only [Rows.uptoBulk]; omega
  · simp
theorem slice_bulk {H : Type} {y : DataW H} {E S : List (DataW H)} (h : y ∈ E) : Rows.uptoBulk y ≤ Rows.uptoBulk (.slice E S) := by
  have : Rows.uptoBulk y ≤ Rows.uptoBulkAll E := by
    induction E with
    | nil => cases h
    | cons x r ih =>
      simp only [Rows.uptoBulkAll]
      rcases List.mem_cons.1 h with rfl | h
      · omega
      · have := ih h; omega
  simp only [Rows.uptoBulk]; omega
theorem bulk_mem {H : Type} {y : DataW H} {ys : List (DataW H)} (h : y ∈ ys) : Rows.uptoBulk y ≤ Rows.uptoBulk (.agg ys) := by
  have : Rows.uptoBulk y ≤ Rows.uptoBulkAll ys := by
    induction ys with
    | nil => cases h
    | cons x r ih =>
      simp only [Rows.uptoBulkAll]
      rcases List.mem_cons.1 h with rfl | h
      · omega
      · have := ih h; omega
  simp only [Rows.uptoBulk]; omega

theorem glob_size (W : World) (h : W.ShapedOpen Tryz.prog) : 6 ≤ W.heap.size := by
  have h0 : (((begin Tryz.prog (fun _ _ => 0) default).world.heap[5]?).bind Obj.row?).isSome = true := by kernel_rfl
  obtain ⟨⟨zero, t⟩, hz⟩ := Option.isSome_iff_exists.1 h0
  obtain ⟨cs, hh, _, _⟩ := h.1 5 zero t (of_decide_eq_true (by kernel_rfl)) hz
  have := (Array.getElem?_eq_some_iff.1 hh).1
  omega
theorem glob0 (W : World) (h : W.ShapedOpen Tryz.prog) : zi6 W :=
  ⟨glob_size W h, Go.Proofs.cell_of_shapedOpen_int (zero := #[.int .i64 0]) (t := 3) (g := 0) h (of_decide_eq_true (by kernel_rfl)) (by kernel_rfl) rfl (by kernel_rfl) (by kernel_rfl) Tryz.underlying3⟩
theorem glob (W : World) (h : W.ShapedOpen Tryz.prog) (hL : laidMetH Tryz.prog Rows.topCutsUptoRow.laid W) : zlb W := by
  refine ⟨glob0 W h, ?_, ?_⟩
  rw [MakeChecks.laidMetH_plain _ _ _ (by kernel_rfl)] at hL
  have e : (Rows.laid_internal_strconv_uint64pow10 : DataW Unit) = Go.Lib.tabData .u64 Go.Lib.pow10Tab := by kernel_rfl
  have h1 : laidMet Tryz.prog [("math/bits.deBruijn32tab", Rows.laid_math_bits_deBruijn32tab), ("math/bits.deBruijn64tab", Rows.laid_math_bits_deBruijn64tab), ("internal/strconv.uint64pow10", Rows.laid_internal_strconv_uint64pow10), ("unicode/utf8.acceptRanges", Rows.laid_unicode_utf8_acceptRanges), ("unicode/utf8.first", Rows.laid_unicode_utf8_first)] W := hL
  have h2 := (zru (zru h1))
  rw [e] at h2
  exact Go.Lib.tabIs_of_head (g := 3) (t := 503) (e := 457) (n := 20) (by kernel_rfl) (by kernel_rfl) Tryz.underlying503 Tryz.underlying457 (by kernel_rfl) (by kernel_rfl) h2
  have h1 : laidMet Tryz.prog [("math/bits.deBruijn32tab", Rows.laid_math_bits_deBruijn32tab), ("math/bits.deBruijn64tab", Rows.laid_math_bits_deBruijn64tab), ("internal/strconv.uint64pow10", Rows.laid_internal_strconv_uint64pow10), ("unicode/utf8.acceptRanges", Rows.laid_unicode_utf8_acceptRanges), ("unicode/utf8.first", Rows.laid_unicode_utf8_first)] W := by
    rw [MakeChecks.laidMetH_plain _ _ _ (by kernel_rfl)] at hL
    exact hL
  have e : (Rows.laid_math_bits_deBruijn64tab : DataW Unit) = Go.Lib.tabData .u8 (Go.Lib.deBruijn64tab.map Int.ofNat) := by kernel_rfl
  have h2 := (zru h1)
  rw [e] at h2
  have h4 := Go.Lib.tabIs_of_head (g := 5) (t := 525) (e := 5) (n := 64) (by kernel_rfl) (by kernel_rfl) Tryz.underlying525 Tryz.underlying5 (by kernel_rfl) (by kernel_rfl) h2
  exact (h4.cell (by kernel_rfl) 15 (by decide)).trans rfl

theorem contract (H : Type) (enc : TypeId × Value → H) (W : World) (base : Nat) (args : Array Value) (ds gs : List (DataW H)) (before : List MemPlace)
    (hval : ∀ (j : Nat) t v, Tryz.f3.params[j]? = some t → args[j]? = some v → Value.okWide Tryz.prog W .any base t v)
    (hW : DataW.Whole enc Tryz.prog Tryz.f3.params.toList Rows.topCutsSpec.vars false W args.toList ds gs before)
    (hk : Rows.uptoSmall H (ds ++ gs) = true) (hsh : W.ShapedOpen Tryz.prog) (hL : laidMetH Tryz.prog Rows.topCutsUptoRow.laid W) :
    Calls Tryz.prog 3 args W fun e W' => ∃ v, e = .returned v ∧ Rows.topCutsSpec.post enc Tryz.prog Tryz.f3 false true false false W args v W' := by
  have hW' := hW
  obtain ⟨p, q, hA0, hV, rfl, hfz, hnd⟩ := hW
  have hA : DataW.TrodAll enc Tryz.prog W 0 (fun _ => true) true Tryz.f3.params.toList args.toList ds p := hA0
  rw [Tryz.params3] at hA hval
  obtain ⟨v0, vs0, d0, ds0, p0, q0, hargs, rfl, rfl, h0, r0⟩ := trodAll_cons hA
  obtain ⟨v1, vs1, d1, ds1, p1, q1, rfl, rfl, rfl, h1, r1⟩ := trodAll_cons r0
  obtain ⟨rfl, rfl, rfl⟩ := trodAll_nil r1
  obtain rfl : args = #[v0, v1] := by cases args; simp_all
  obtain ⟨rfl, rfl⟩ := trodVars_none hV
  refine (Go.Rk.law_ok (G := G) (d := 20) (ts := [30, 5]) zCE zD5 (by kernel_rfl) (zJ7 (glob W hsh hL)) fpok (fun j t v h1 h2 => hval j t v (by simpa using h1) h2) hA).mono fun e W' ⟨he, bel⟩ => ?_
  subst he
  exact ⟨_, rfl, _, _, _, [], _, [], hW', trodAll_mk1 (shut_bool Tryz.underlying4 _), zuD laidOut bel (by kernel_rfl) hA0, rfl, bel.frame _, fun h => by cases h⟩

/-- The cells of a table that is laid. -/
def flatD : DataW Unit → List Value
  | .lit (.int k n) => [.int k n]
  | .lit (.bool b) => [.bool b]
  | .agg l => flatL l
  | _ => []
where flatL : List (DataW Unit) → List Value
  | [] => []
  | d :: l => flatD d ++ flatL l
def layInto (cs : List Value) : Obj → Obj
  | .cells _ t frozen => .cells cs.toArray t frozen
  | o => o
noncomputable def laidWorld (os : Os) (args : Array Value) : World :=
  { World.holding Tryz.prog os ⟨#[], args, []⟩ with heap := ((((((World.holding Tryz.prog os ⟨#[], args, []⟩).heap.modify 4 (layInto (flatD Rows.laid_math_bits_deBruijn32tab))).modify 5 (layInto (flatD Rows.laid_math_bits_deBruijn64tab))).modify 3 (layInto (flatD Rows.laid_internal_strconv_uint64pow10))).modify 2 (layInto (flatD Rows.laid_unicode_utf8_acceptRanges))).modify 1 (layInto (flatD Rows.laid_unicode_utf8_first))) }
abbrev wit : Array Value := #[.agg #[.string ⟨#[]⟩, .string ⟨#[]⟩, .string ⟨#[]⟩, .string ⟨#[]⟩, .slice none 0 0, .slice none 0 0, .int .i64 0, .int .i64 0, .int .i64 0, .slice none 0 0, .string ⟨#[]⟩, .string ⟨#[]⟩, .bool false, .bool false, .slice none 0 0], .int .u8 0]
theorem laid_met (os : Os) : laidMetH Tryz.prog Rows.topCutsUptoRow.laid ((laidWorld os wit).forCall (fun _ _ => 0) ⟨#[], wit, []⟩).memory := by
  rw [MakeChecks.laidMetH_plain _ _ _ (by kernel_rfl)]
  exact laidMet_of_run' 8 (by kernel_rfl) (by kernel_rfl)
theorem lifted (os : Os) (started : os.Started) (H : Type) (enc : TypeId × Value → H) (F : Stop.Interp) :
    ReturnsInHanded {} Tryz.checked os 3 .any (fun w args => ((Rows.OpenSpec.upto Rows.topCutsSpec).pre enc Tryz.prog Tryz.f3 Rows.topCutsUptoRow.domain false w args ∧ laidMetH Tryz.prog Rows.topCutsUptoRow.laid w) ∧ sizedMet enc Tryz.prog Tryz.f3 (Rows.OpenSpec.upto Rows.topCutsSpec) false w args) (((Rows.OpenSpec.upto Rows.topCutsSpec).at F).post enc Tryz.prog Tryz.f3 false true false false) := by
  refine zwK (C := Tryz.checked) (s := Rows.OpenSpec.upto Rows.topCutsSpec) (k := Rows.uptoSmall) (X := laidMetH Tryz.prog Rows.topCutsUptoRow.laid) rfl (fun w tape i h => laidMetH.of_heap (w' := w.forCall tape i) (by rfl) h) own started (by kernel_rfl) Tryz.func3 (zwJ (enc := enc) (C := Tryz.checked) (os := os) (f := 3) (fn := Tryz.f3) (s := Rows.OpenSpec.upto Rows.topCutsSpec) (k := Rows.uptoSmall) rfl (conds := Rows.topCutsUptoRow.domain) (apart := false) (X := laidMetH Tryz.prog Rows.topCutsUptoRow.laid) false (laidWorld os wit) wit 8 rfl
      (World.shaped_of_RefB (by kernel_rfl) (by kernel_rfl)) (by kernel_rfl) (x := ([.agg [.agg [.lit (.string []), .lit (.string []), .lit (.string []), .lit (.string []), .nil, .nil], .agg [.lit (.int .i64 0), .lit (.int .i64 0), .lit (.int .i64 0)], .nil, .lit (.string []), .lit (.string []), .lit (.bool false), .lit (.bool false), .nil], .lit (.int .u8 0)], [], [])) (by kernel_rfl) rfl (by kernel_rfl) (by kernel_rfl) (laid_met os)) ?_
  intro W base args ds gs before hval hW hk hsh hL
  exact contract H enc W base args ds gs before hval hW hk hsh hL
theorem jf1 : laidOutB Tryz.prog = true := by kernel_rfl
theorem jf2 : mapsRowed Tryz.prog = true := by kernel_rfl
theorem jf3 : (Rows.topCutsUptoRow.inPlace == Tryz.prog.inPlace 3) = true := by kernel_rfl
theorem jf4 : (Rows.topCutsUptoRow.unfollowed == Tryz.prog.unfollowed 3) = true := by kernel_rfl
theorem jf5 : (Rows.topCutsUptoRow.recurses == Tryz.prog.recurses 3) = true := by kernel_rfl
theorem jf6 : (Rows.topCutsUptoRow.named == Tryz.prog.varsNamed 3) = true := by kernel_rfl
theorem jf7 : Tryz.prog.stopsHeard = true := by kernel_rfl
theorem jf8 : Tryz.prog.mayEnter = true := by kernel_rfl
theorem jf9 : (Rows.topCutsUptoRow.lifted == Tryz.prog.liftsFinal) = true := by kernel_rfl
theorem jf10 : (Tryz.prog.make == some Rows.topCutsUptoRow.make) = true := by kernel_rfl
theorem jf11 : (Rows.topCutsUptoRow.plainKeys == Tryz.prog.plainKeys) = true := by kernel_rfl
theorem closed : joinedFacts Tryz.prog 3 Tryz.f3 (Rows.OpenSpec.upto Rows.topCutsSpec).bare Rows.topCutsUptoRow = true := by
  unfold joinedFacts
  rw [jf1, jf2, jf3, jf4, jf5, jf6, jf7, jf8, jf9, jf10, jf11]
  kernel_rfl
theorem over : Rows.topCutsUptoRow.holds Tryz.pinned (Rows.OpenSpec.upto Rows.topCutsSpec) :=
  OpenClaim.holds_of_cond 3 Tryz.f3 rfl rfl rfl rfl rfl rfl rfl ⟨rfl, rfl, rfl, rfl, rfl⟩ rfl rfl rfl rfl rfl (by kernel_rfl) Tryz.func3 closed
    (of_decide_eq_true (by kernel_rfl)) (by unfold Func.isWrapper; first | (rw [if_pos (by decide +kernel)]; kernel_rfl) | (rw [if_neg (by decide +kernel)]; exact ⟨rfl, rfl⟩))
    (fun os started H enc _ F => lifted os started H enc F)
theorem pf1 : Rows.topCutsUptoRow.wfByText (Rows.OpenSpec.upto Rows.topCutsSpec) = true := by kernel_rfl
theorem pf2 : Tryz.prog.mainIs = some ((true, "aeb229ff6787dd2fb1f540eec25023d216d8c66548b2502e6c0fe7a6fa48ef90").1, (true, "aeb229ff6787dd2fb1f540eec25023d216d8c66548b2502e6c0fe7a6fa48ef90").2.toList) := by kernel_rfl
theorem pf3 : Tryz.prog.funcNamed "doorstep/doorsteptop.TopCuts" = some 3 := by kernel_rfl
theorem pf4 : false = Tryz.prog.looks [] := by kernel_rfl
theorem pf5 : ([30, 5].all fun u => !Tryz.prog.wantsStandIn u) = true := by kernel_rfl
theorem pf7 : Tryz.prog.funcs.any Func.goes = false := by kernel_rfl
theorem goes_none {P : Program} (h : P.funcs.any Func.goes = false) (f : FuncId) : P.goes f = false := by
  unfold Program.goes
  rw [h, Bool.and_false, Bool.or_false]
  cases hc : ((P.closure f).any fun g => (P.funcs[g]?).any Func.goes) with
  | false => rfl
  | true =>
    obtain ⟨g, _, hg⟩ := List.any_eq_true.1 hc
    cases hf : P.funcs[g]? with
    | none => rw [hf] at hg; cases hg
    | some fn =>
      rw [hf] at hg
      have : P.funcs.any Func.goes = true := Array.any_eq_true'.2 ⟨fn, Array.mem_of_getElem? hf, hg⟩
      rw [h] at this; cases this
theorem pf6 : false = Rows.topCutsUptoRow.goesBy Tryz.prog := by
  unfold OpenClaim.goesBy Program.goesAt Program.goesFrom
  rw [show Tryz.prog.goes = fun _ => false from funext (goes_none pf7)]
  cases Tryz.prog.funcNamed Rows.topCutsUptoRow.func <;> rfl
theorem proved : Rows.TopCutsUptoCardSaid :=
  Claim7.holds_tied_plain_at .later [] [.data, .data, .data, .data, .pinned] true (true, "aeb229ff6787dd2fb1f540eec25023d216d8c66548b2502e6c0fe7a6fa48ef90") false over (fun _ h => by cases h) pf1 (fun _ h => by cases h) topCutsUpto_row_tie rfl ⟨rfl, rfl⟩ pf2 rfl
    (fun f fn hf hfn => by
      obtain rfl : f = 3 := Option.some.inj (pf3.symm.trans hf) |>.symm
      obtain rfl : fn = Tryz.f3 := (Option.some.inj (Tryz.func3.symm.trans hfn)).symm
      exact ⟨pf4, fun j t ht => by
        rw [Tryz.params3] at ht
        have hm : t ∈ [30, 5] := by simpa using Array.mem_of_getElem? ht
        exact (show Tryz.prog.wantsStandIn t = false by simpa using List.all_eq_true.1 pf5 t hm)⟩)
    pf6
#print axioms proved
end Go.Proofs.YtlehfmpjckapdaaGreatDoor.jTopCuts
