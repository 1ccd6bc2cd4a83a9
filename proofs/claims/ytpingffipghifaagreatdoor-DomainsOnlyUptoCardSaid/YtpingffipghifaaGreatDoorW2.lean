/-
  Walks, written by a program (wip/gen): what its model says, the function returns; what was there before is as it was.
-/
import Derived.Test.YtpingffipghifaaGreatDoorLib
import Derived.Test.YtpingffipghifaaGreatDoorW0
import Derived.Test.YtpingffipghifaaGreatDoorW1
set_option linter.unusedVariables false
set_option linter.unusedSimpArgs false
set_option maxRecDepth 100000
namespace Go.Proofs
open Go.Dk Go.Dm Go.RowKit

set_option maxHeartbeats 1000000 in
set_option maxHeartbeats 4000000 in
set_option maxRecDepth 100000 in
theorem fold_walk (s : ByteArray) (R : Str) (w0 : World) (hG : Glob w0) (hsz : s.size < 4294967281) (hm : s.data.toList.mapM octet_Lower = some R)
    (hlow : ∀ b c w, octet_Lower b = some c → Glob w → Calls Tryz.prog 81 #[.int .u8 (b.toNat : Int)] w fun e w' => e = .returned (.int .u8 (c.toNat : Int)) ∧ Below w.heap.size w w') :
    Calls Tryz.prog 46 #[.string s] w0 fun e w' => e = .returned (.string ⟨R.toArray⟩) ∧ Below w0.heap.size w0 w' := by
  obtain ⟨hlen, hat⟩ := mapM_at hm
  have HL : Aside (R.length = s.size) := hlen.trans (Lib.size_eq s).symm
  have HT : Aside (∀ (i : Nat) (a : UInt8), s.data.toList[i]? = some a → ∃ b, R[i]? = some b ∧ octet_Lower a = some b) := hat
  clear hlen hat hm
  have hcv := fun w => run_bytes_of_string (P := Tryz.prog) w 9 92 5 s Tryz.underlying9 Tryz.underlying92 Tryz.underlying5
  go_enter Tryz.func46, Tryz.ntmps46
  go_wp2
  go_loopg [4, 5, 10] s.size (fun g _ _ v wx => ∃ i : Nat, i + g = s.size ∧ v = .int .i64 (i : Int) ∧ Below w0.heap.size w0 wx ∧ ∃ (cur : Array Value) (fz : Nat × Nat), wx.heap[w0.heap.size]? = some (.cells cur 5 fz) ∧ cur.size ≤ fz.1 ∧ s.size ≤ cur.size ∧ ∀ j, j < s.size → cur[j]? = ((if j < i then R[j]? else s.data.toList[j]?).map byte))
  case atStart =>
    have hrow : (bytesRow s (grownCap w0 s.size 0 5)).size = s.size + (grownCap w0 s.size 0 5 - s.size) := by
      have := Lib.size_eq s
      unfold bytesRow
      rw [Array.size_append, Array.size_map, Array.size_replicate]
      rfl
    refine ⟨0, by omega, rfl, ((Below.refl _ _).alloc (Nat.le_refl _) _).drew, _, _, heap_new _, Nat.le_refl _, ?_, fun j hj => ?_⟩
    · omega
    · rw [if_neg (by omega)]
      unfold bytesRow
      rw [Array.getElem?_append_left (by simp [← Lib.size_eq]; exact hj), Array.getElem?_map]
      congr 1
      exact (Array.getElem?_toList ..).symm
  case round =>
    obtain ⟨i, hig, rfl, hB, cur, fz, hcur, hfz, hsc, hcell⟩ := hrel
    have HG : Aside (Glob wr) := hG.own away_nil ((Dk.Own.refl w0).grow hB)
    have HB : Aside (Below w0.heap.size w0 wr) := hB
    have HC : Aside (wr.heap[w0.heap.size]? = some (.cells cur 5 fz)) := hcur
    have HF : Aside (cur.size ≤ fz.1 ∧ s.size ≤ cur.size) := ⟨hfz, hsc⟩
    have HX : Aside (∀ j, j < s.size → cur[j]? = ((if j < i then R[j]? else s.data.toList[j]?).map byte)) := hcell
    clear hB hcell hfz hsc hcur
    by_cases hi : i < s.size
    · obtain ⟨x, hx⟩ : ∃ x, s.data.toList[i]? = some x := ⟨_, Lib.data_getElem? s i hi⟩
      obtain ⟨y, hyR, hy⟩ := HT.out i x hx
      have hcx : wr.cell? ⟨w0.heap.size, i, none⟩ = some (.int .u8 (x.toNat : Int)) := by
        have := HX.out i hi
        rw [if_neg (by omega), hx] at this
        simp [World.cell?, HC.out, this]
      have hfr : wr.frozen? ⟨w0.heap.size, i, none⟩ = false := by
        have := HF.out
        simp [World.frozen?, HC.out]; omega
      have hii : (i : Int) < (s.size : Int) := by omega
      have HY : Aside (R[i]? = some y) := hyR
      have HO : Aside (octet_Lower x = some y) := hy
      clear hyR hy hx
      go_wp2_with (go_at_call 81; refine (hlow x y _ HO.out HG.out).mono ?_; rintro e w' ⟨rfl, hb⟩; have hcx' : w'.cell? ⟨w0.heap.size, i, none⟩ = some (.int .u8 (x.toNat : Int)) := (hb.cell (p := ⟨w0.heap.size, i, none⟩) (Array.getElem?_eq_some_iff.1 HC.out).1).trans hcx; have hfr' : w'.frozen? ⟨w0.heap.size, i, none⟩ = false := (hb.frozen (p := ⟨w0.heap.size, i, none⟩) (Array.getElem?_eq_some_iff.1 HC.out).1).trans hfr)
      go_roundg (gk - 1)
      case measure => omega
      case rel =>
        have hlt := (Array.getElem?_eq_some_iff.1 HC.out).1
        have hcw : w'.heap[w0.heap.size]? = some (.cells cur 5 fz) := (hb.block _ hlt).trans HC.out
        refine ⟨i + 1, by omega, rfl, ?_, cur.setIfInBounds i (.int .u8 (y.toNat : Int)), fz, ?_, ?_, ?_, fun j hj => ?_⟩
        · exact (HB.out.trans (hb.mono HB.out.size)).setCell (p := ⟨w0.heap.size, i, none⟩) (Nat.le_refl _) _
        · simp [World.setCell, Array.getElem?_modify, hcw]
        · have := HF.out; simp; omega
        · have := HF.out; simp; omega
        · by_cases hji : j = i
          · subst hji
            have := HF.out
            rw [if_pos (by omega), HY.out, Array.getElem?_setIfInBounds_self_of_lt (by omega)]
            rfl
          · rw [Array.getElem?_setIfInBounds_ne (Ne.symm hji), HX.out j hj]
            by_cases h2 : j < i
            · rw [if_pos h2, if_pos (by omega)]
            · rw [if_neg h2, if_neg (by omega)]
    · have hsi : i = s.size := by omega
      have hbk : ∀ w, wr.heap = w.heap → (convert 92 9 (.slice (some ⟨w0.heap.size, 0, none⟩) s.size (grownCap w0 s.size 0 5))).run Tryz.prog w = .ok (.string ⟨R.toArray⟩) w := by
        intro w hw
        have := run_convert_bytes_back (P := Tryz.prog) w 92 9 5 ⟨w0.heap.size, 0, none⟩ (grownCap w0 s.size 0 5) R Tryz.underlying92 Tryz.underlying5 Tryz.underlying9 (fun j hj => by
          have hjs : j < s.size := by rw [← HL.out]; exact hj
          have h1 := HX.out j hjs
          rw [if_pos (by omega), List.getElem?_eq_getElem hj] at h1
          rw [add_none0]
          simp [World.cell?, ← hw, HC.out, h1])
        rw [HL.out] at this
        exact this
      have hni : ¬ ((i : Int) < (s.size : Int)) := by omega
      have hbk1 := hbk wr rfl
      go_wp2
      go_ret
      exact ⟨rfl, HB.out⟩

theorem w_octet_Fold (x_s : Str) (R : Str) (w0 : World) (hG : Glob w0) (hm : octet_Fold x_s = some R) :
    Calls Tryz.prog 46 #[str x_s] w0 fun e w' => e = .returned (str R) ∧ Below w0.heap.size w0 w' := by
  unfold octet_Fold at hm
  split at hm
  · rename_i h
    exact fold_walk ⟨x_s.toArray⟩ R w0 hG h hm fun b c w hbc hGw => w_octet_Lower b c w hGw hbc
  · cases hm

set_option maxHeartbeats 1000000 in
theorem w_stringslite_HasSuffix (x_s : Str) (x_suffix : Str) (R : Bool) (w0 : World) (hG : Glob w0) (hm : stringslite_HasSuffix x_s x_suffix = some R) :
    Calls Tryz.prog 120 #[str x_s, str x_suffix] w0 fun e w' => e = .returned (.bool R) ∧ Below w0.heap.size w0 w' := by
  rw [stringslite_HasSuffix] at hm
  refine calls_enter (vs := [str x_s, str x_suffix]) Tryz.func120 rfl Tryz.ntmps120 rfl fun a hf => ?_
  have hF : Away [] := away_nil
  have hO : Dk.Own w0 [] w0 [] := Dk.Own.refl w0
  refine wp_seq_k fun _ hK1 => ?_
  refine wp_region_list ?_
  refine op_val (ex_assign hf rfl) rfl hf rfl rfl fun a hf => ?_
  refine wpList_nil ?_
  refine nor_then (hK1 _ _ ?_)
  refine wp_seq_cut (fun a w => ∃ (t5 : Bool), Fits 21 [(4, .bool t5)] a ∧ Dk.Own w0 [] w [] ∧ stringslite_HasSuffix_j1 t5 = some R) ?_ ?_
  · refine wp_region_list ?_
    refine op_val (ex_move hf rfl) rfl hf rfl rfl fun a hf => ?_
    refine op_val (ex_len_s (l := x_s) Tryz.underlying9 hf rfl) rfl hf rfl rfl fun a hf => ?_
    refine op_val (ex_move hf rfl) rfl hf rfl rfl fun a hf => ?_
    refine op_val (ex_len_s (l := x_suffix) Tryz.underlying9 hf rfl) rfl hf rfl rfl fun a hf => ?_
    refine op_val (ex_geq (m := (x_s.length : Int)) (n := (x_suffix.length : Int)) hf rfl rfl) rfl hf rfl rfl fun a hf => ?_
    refine op_val (ex_move hf rfl) rfl hf rfl rfl fun a hf => ?_
    rcases bcase (decide ((x_suffix.length : Int) ≤ (x_s.length : Int))) with hc2 | hc2
    · have hm := it hc2 hm
      refine op_guard rfl hf rfl rfl (hc2) ?_
      refine op_val (ex_move hf rfl) rfl hf rfl rfl fun a hf => ?_
      refine op_guard rfl hf rfl rfl (hc2) ?_
      refine op_val (ex_move hf rfl) rfl hf rfl rfl fun a hf => ?_
      refine op_guard rfl hf rfl rfl (hc2) ?_
      refine op_val (ex_len_s (l := x_s) Tryz.underlying9 hf rfl) rfl hf rfl rfl fun a hf => ?_
      refine op_guard rfl hf rfl rfl (hc2) ?_
      refine op_val (ex_move hf rfl) rfl hf rfl rfl fun a hf => ?_
      refine op_guard rfl hf rfl rfl (hc2) ?_
      refine op_val (ex_len_s (l := x_suffix) Tryz.underlying9 hf rfl) rfl hf rfl rfl fun a hf => ?_
      refine op_guard rfl hf rfl rfl (hc2) ?_
      obtain ⟨i3, hi3, hm⟩ := ob hm
      refine op_val (ex_sub hf rfl rfl hi3) rfl hf rfl rfl fun a hf => ?_
      refine op_guard rfl hf rfl rfl (hc2) ?_
      obtain ⟨s4, hs4, hm⟩ := ob hm
      refine op_val (ex_from_s (l := x_s) Tryz.underlying9 hf rfl rfl hs4) rfl hf rfl rfl fun a hf => ?_
      refine op_guard rfl hf rfl rfl (hc2) ?_
      refine op_val (ex_move hf rfl) rfl hf rfl rfl fun a hf => ?_
      refine op_guard rfl hf rfl rfl (hc2) ?_
      refine op_val (ex_eql_s (l := s4) (m := x_suffix) hf rfl rfl) rfl hf rfl rfl fun a hf => ?_
      refine op_val (ex_pick_t hf rfl hc2 rfl) rfl hf rfl rfl fun a hf => ?_
      refine op_val (ex_assign hf rfl) rfl hf rfl rfl fun a hf => ?_
      refine wpList_nil ?_
      refine nor_then ?_
      exact ⟨s4 == x_suffix, (hf.cons rfl hf.nil), hO, hm⟩
    · have hm := ie hc2 hm
      refine op_pass rfl hf rfl rfl (hc2) rfl rfl fun a hf => ?_
      refine op_pass rfl hf rfl rfl (hc2) rfl rfl fun a hf => ?_
      refine op_pass rfl hf rfl rfl (hc2) rfl rfl fun a hf => ?_
      refine op_pass rfl hf rfl rfl (hc2) rfl rfl fun a hf => ?_
      refine op_pass rfl hf rfl rfl (hc2) rfl rfl fun a hf => ?_
      refine op_pass rfl hf rfl rfl (hc2) rfl rfl fun a hf => ?_
      refine op_pass rfl hf rfl rfl (hc2) rfl rfl fun a hf => ?_
      refine op_pass rfl hf rfl rfl (hc2) rfl rfl fun a hf => ?_
      refine op_pass rfl hf rfl rfl (hc2) rfl rfl fun a hf => ?_
      refine op_val (ex_pick_f hf rfl hc2 rfl) rfl hf rfl rfl fun a hf => ?_
      refine op_val (ex_assign hf rfl) rfl hf rfl rfl fun a hf => ?_
      refine wpList_nil ?_
      refine nor_then ?_
      exact ⟨false, (hf.cons rfl hf.nil), hO, hm⟩
  · rintro a w ⟨t5, hf, hO, hm⟩
    rw [stringslite_HasSuffix_j1] at hm
    refine wp_ret ?_
    obtain rfl := Option.some.inj hm
    exact post_ret Tryz.results120 hf (.tmp rfl .nil) ⟨rfl, hO.below⟩

set_option maxHeartbeats 1000000 in
theorem w_strings_HasSuffix (x_s : Str) (x_suffix : Str) (R : Bool) (w0 : World) (hG : Glob w0) (hm : strings_HasSuffix x_s x_suffix = some R) :
    Calls Tryz.prog 78 #[str x_s, str x_suffix] w0 fun e w' => e = .returned (.bool R) ∧ Below w0.heap.size w0 w' := by
  rw [strings_HasSuffix] at hm
  refine calls_enter (vs := [str x_s, str x_suffix]) Tryz.func78 rfl Tryz.ntmps78 rfl fun a hf => ?_
  have hF : Away [] := away_nil
  have hO : Dk.Own w0 [] w0 [] := Dk.Own.refl w0
  refine wp_seq_k fun _ hK1 => ?_
  refine wp_region_list ?_
  refine op_val (ex_assign hf rfl) rfl hf rfl rfl fun a hf => ?_
  refine wpList_nil ?_
  refine nor_then (hK1 _ _ ?_)
  refine wp_seq_k fun _ hK3 => ?_
  refine wp_region_list ?_
  refine op_val (ex_move hf rfl) rfl hf rfl rfl fun a hf => ?_
  refine op_val (ex_move hf rfl) rfl hf rfl rfl fun a hf => ?_
  obtain ⟨r2, hr2, hm⟩ := ob hm
  refine op_enter (ex_call c_120 hf (vs := [str x_s, str x_suffix]) rfl) rfl hf rfl rfl (w_stringslite_HasSuffix x_s x_suffix r2 _ (hG.own hF hO) hr2) ?_
  rintro e w' ⟨he, hb⟩
  refine ⟨_, he, fun a hf => ?_⟩
  have hO := hO.grow hb
  refine op_val (ex_assign hf rfl) rfl hf rfl rfl fun a hf => ?_
  refine wpList_nil ?_
  refine nor_then (hK3 _ _ ?_)
  refine wp_ret ?_
  obtain rfl := Option.some.inj hm
  exact post_ret Tryz.results78 hf (.tmp rfl .nil) ⟨rfl, hO.below⟩

set_option maxHeartbeats 1000000 in
theorem w_hostport_Under (x_name : Str) (x_domain : Str) (R : Bool) (w0 : World) (hG : GlobT w0) (hm : hostport_Under x_name x_domain = some R) :
    Calls Tryz.prog 41 #[str x_name, str x_domain] w0 fun e w' => e = .returned (.bool R) ∧ Below w0.heap.size w0 w' := by
  rw [hostport_Under] at hm
  refine calls_enter (vs := [str x_name, str x_domain]) Tryz.func41 rfl Tryz.ntmps41 rfl fun a hf => ?_
  have hF : Away [] := away_nil
  have hO : Dk.Own w0 [] w0 [] := Dk.Own.refl w0
  refine wp_seq_k fun _ hK1 => ?_
  refine wp_region_list ?_
  refine op_val (ex_assign hf rfl) rfl hf rfl rfl fun a hf => ?_
  refine wpList_nil ?_
  refine nor_then (hK1 _ _ ?_)
  refine wp_seq_k fun _ hK12 => ?_
  refine wp_seq_cut (fun a w => ∃ (t9 : Bool), Fits 36 [(0, str x_name), (1, str x_domain), (22, .bool t9)] a ∧ Dk.Own w0 [] w [] ∧ hostport_Under_j1 x_name x_domain t9 = some R) ?_ ?_
  · refine wp_region_list ?_
    refine op_val (ex_move hf rfl) rfl hf rfl rfl fun a hf => ?_
    obtain ⟨r2, hr2, hm⟩ := ob hm
    refine op_enter (ex_call c_57 hf (vs := [str x_name]) rfl) rfl hf rfl rfl (w_hostport_Name x_name r2 _ (hG.own hF hO).1 hr2) ?_
    rintro e w' ⟨he, hb⟩
    refine ⟨_, he, fun a hf => ?_⟩
    have hO := hO.grow hb
    refine op_val (ex_not hf rfl) rfl hf rfl rfl fun a hf => ?_
    refine op_val (ex_move hf rfl) rfl hf rfl rfl fun a hf => ?_
    rcases bcase (!r2) with hc3 | hc3
    · have hm := it hc3 hm
      refine op_pass rfl hf rfl rfl (hc3) rfl rfl fun a hf => ?_
      refine op_pass rfl hf rfl rfl (hc3) rfl rfl fun a hf => ?_
      refine op_pass rfl hf rfl rfl (hc3) rfl rfl fun a hf => ?_
      refine op_val (ex_pick_t hf rfl hc3 rfl) rfl hf rfl rfl fun a hf => ?_
      refine op_val (ex_move hf rfl) rfl hf rfl rfl fun a hf => ?_
      refine op_pass rfl hf rfl rfl (rfl) rfl rfl fun a hf => ?_
      refine op_pass rfl hf rfl rfl (rfl) rfl rfl fun a hf => ?_
      refine op_val (ex_pick_t hf rfl rfl rfl) rfl hf rfl rfl fun a hf => ?_
      refine op_val (ex_move hf rfl) rfl hf rfl rfl fun a hf => ?_
      refine op_pass rfl hf rfl rfl (rfl) rfl rfl fun a hf => ?_
      refine op_pass rfl hf rfl rfl (rfl) rfl rfl fun a hf => ?_
      refine op_val (ex_pick_t hf rfl rfl rfl) rfl hf rfl rfl fun a hf => ?_
      refine wpList_nil ?_
      refine nor_then ?_
      exact ⟨true, (hf.cons rfl (hf.cons rfl (hf.cons rfl hf.nil))), hO, hm⟩
    · have hm := ie hc3 hm
      refine op_guard rfl hf rfl rfl (hc3) ?_
      refine op_val (ex_move hf rfl) rfl hf rfl rfl fun a hf => ?_
      refine op_guard rfl hf rfl rfl (hc3) ?_
      obtain ⟨r4, hr4, hm⟩ := ob hm
      refine op_enter (ex_call c_57 hf (vs := [str x_domain]) rfl) rfl hf rfl rfl (w_hostport_Name x_domain r4 _ (hG.own hF hO).1 hr4) ?_
      rintro e w' ⟨he, hb⟩
      refine ⟨_, he, fun a hf => ?_⟩
      have hO := hO.grow hb
      refine op_guard rfl hf rfl rfl (hc3) ?_
      refine op_val (ex_not hf rfl) rfl hf rfl rfl fun a hf => ?_
      refine op_val (ex_pick_f hf rfl hc3 rfl) rfl hf rfl rfl fun a hf => ?_
      refine op_val (ex_move hf rfl) rfl hf rfl rfl fun a hf => ?_
      rcases bcase (!r4) with hc5 | hc5
      · have hm := it hc5 hm
        refine op_pass rfl hf rfl rfl (hc5) rfl rfl fun a hf => ?_
        refine op_pass rfl hf rfl rfl (hc5) rfl rfl fun a hf => ?_
        refine op_val (ex_pick_t hf rfl hc5 rfl) rfl hf rfl rfl fun a hf => ?_
        refine op_val (ex_move hf rfl) rfl hf rfl rfl fun a hf => ?_
        refine op_pass rfl hf rfl rfl (rfl) rfl rfl fun a hf => ?_
        refine op_pass rfl hf rfl rfl (rfl) rfl rfl fun a hf => ?_
        refine op_val (ex_pick_t hf rfl rfl rfl) rfl hf rfl rfl fun a hf => ?_
        refine wpList_nil ?_
        refine nor_then ?_
        exact ⟨true, (hf.cons rfl (hf.cons rfl (hf.cons rfl hf.nil))), hO, hm⟩
      · have hm := ie hc5 hm
        refine op_guard rfl hf rfl rfl (hc5) ?_
        refine op_val (ex_move hf rfl) rfl hf rfl rfl fun a hf => ?_
        refine op_guard rfl hf rfl rfl (hc5) ?_
        obtain ⟨r6, hr6, hm⟩ := ob hm
        refine op_enter (ex_call c_58 hf (vs := [str x_name]) rfl) rfl hf rfl rfl (w_hostport_Four x_name r6 _ (hG.own hF hO) hr6) ?_
        rintro e w' ⟨he, hb⟩
        refine ⟨_, he, fun a hf => ?_⟩
        have hO := hO.grow hb
        refine op_val (ex_pick_f hf rfl hc5 rfl) rfl hf rfl rfl fun a hf => ?_
        refine op_val (ex_move hf rfl) rfl hf rfl rfl fun a hf => ?_
        rcases bcase (r6) with hc7 | hc7
        · have hm := it hc7 hm
          refine op_pass rfl hf rfl rfl (hc7) rfl rfl fun a hf => ?_
          refine op_pass rfl hf rfl rfl (hc7) rfl rfl fun a hf => ?_
          refine op_val (ex_pick_t hf rfl hc7 rfl) rfl hf rfl rfl fun a hf => ?_
          refine wpList_nil ?_
          refine nor_then ?_
          exact ⟨true, (hf.cons rfl (hf.cons rfl (hf.cons rfl hf.nil))), hO, hm⟩
        · have hm := ie hc7 hm
          refine op_guard rfl hf rfl rfl (hc7) ?_
          refine op_val (ex_move hf rfl) rfl hf rfl rfl fun a hf => ?_
          refine op_guard rfl hf rfl rfl (hc7) ?_
          obtain ⟨r8, hr8, hm⟩ := ob hm
          refine op_enter (ex_call c_58 hf (vs := [str x_domain]) rfl) rfl hf rfl rfl (w_hostport_Four x_domain r8 _ (hG.own hF hO) hr8) ?_
          rintro e w' ⟨he, hb⟩
          refine ⟨_, he, fun a hf => ?_⟩
          have hO := hO.grow hb
          refine op_val (ex_pick_f hf rfl hc7 rfl) rfl hf rfl rfl fun a hf => ?_
          refine wpList_nil ?_
          refine nor_then ?_
          exact ⟨r8, (hf.cons rfl (hf.cons rfl (hf.cons rfl hf.nil))), hO, hm⟩
  · rintro a w ⟨t9, hf, hO, hm⟩
    rw [hostport_Under_j1] at hm
    refine wp_cond_cut hf rfl (fun hc10 => ?_) (fun hc10 => ?_)
    · have hm := it hc10 hm
      refine wp_seq_k fun _ hK11 => ?_
      refine wp_region_list ?_
      refine op_val (ex_assign hf rfl) rfl hf rfl rfl fun a hf => ?_
      refine wpList_nil ?_
      refine nor_then (hK11 _ _ ?_)
      refine wp_ret ?_
      refine ret_then ?_
      obtain rfl := Option.some.inj hm
      exact post_ret Tryz.results41 hf (.tmp rfl .nil) ⟨rfl, hO.below⟩
    · have hm := ie hc10 hm
      refine wp_skip ?_
      refine nor_then (hK12 _ _ ?_)
      refine wp_seq_k fun _ hK15 => ?_
      refine wp_region_list ?_
      refine op_val (ex_move hf rfl) rfl hf rfl rfl fun a hf => ?_
      obtain ⟨r13, hr13, hm⟩ := ob hm
      refine op_enter (ex_call c_46 hf (vs := [str x_name]) rfl) rfl hf rfl rfl (w_octet_Fold x_name r13 _ (hG.own hF hO).1 hr13) ?_
      rintro e w' ⟨he, hb⟩
      refine ⟨_, he, fun a hf => ?_⟩
      have hO := hO.grow hb
      refine op_val (ex_move hf rfl) rfl hf rfl rfl fun a hf => ?_
      obtain ⟨r14, hr14, hm⟩ := ob hm
      refine op_enter (ex_call c_46 hf (vs := [str x_domain]) rfl) rfl hf rfl rfl (w_octet_Fold x_domain r14 _ (hG.own hF hO).1 hr14) ?_
      rintro e w' ⟨he, hb⟩
      refine ⟨_, he, fun a hf => ?_⟩
      have hO := hO.grow hb
      refine op_val (ex_assign hf rfl) rfl hf rfl rfl fun a hf => ?_
      refine op_val (ex_assign hf rfl) rfl hf rfl rfl fun a hf => ?_
      refine wpList_nil ?_
      refine nor_then (hK15 _ _ ?_)
      refine wp_seq_cut (fun a w => ∃ (t19 : Bool), Fits 36 [(4, .bool t19)] a ∧ Dk.Own w0 [] w [] ∧ hostport_Under_j2 t19 = some R) ?_ ?_
      · refine wp_region_list ?_
        refine op_val (ex_move hf rfl) rfl hf rfl rfl fun a hf => ?_
        refine op_val (ex_move hf rfl) rfl hf rfl rfl fun a hf => ?_
        refine op_val (ex_eql_s (l := r13) (m := r14) hf rfl rfl) rfl hf rfl rfl fun a hf => ?_
        refine op_val (ex_move hf rfl) rfl hf rfl rfl fun a hf => ?_
        rcases bcase (r13 == r14) with hc16 | hc16
        · have hm := it hc16 hm
          refine op_pass rfl hf rfl rfl (hc16) rfl rfl fun a hf => ?_
          refine op_pass rfl hf rfl rfl (hc16) rfl rfl fun a hf => ?_
          refine op_pass rfl hf rfl rfl (hc16) rfl rfl fun a hf => ?_
          refine op_pass rfl hf rfl rfl (hc16) rfl rfl fun a hf => ?_
          refine op_val (ex_pick_t hf rfl hc16 rfl) rfl hf rfl rfl fun a hf => ?_
          refine op_val (ex_assign hf rfl) rfl hf rfl rfl fun a hf => ?_
          refine wpList_nil ?_
          refine nor_then ?_
          exact ⟨true, (hf.cons rfl hf.nil), hO, hm⟩
        · have hm := ie hc16 hm
          refine op_guard rfl hf rfl rfl (hc16) ?_
          refine op_val (ex_move hf rfl) rfl hf rfl rfl fun a hf => ?_
          refine op_guard rfl hf rfl rfl (hc16) ?_
          refine op_val (ex_move hf rfl) rfl hf rfl rfl fun a hf => ?_
          refine op_guard rfl hf rfl rfl (hc16) ?_
          obtain ⟨s17, hs17, hm⟩ := ob hm
          refine op_val (ex_cat (l := [46]) (m := r14) hf rfl rfl hs17) rfl hf rfl rfl fun a hf => ?_
          refine op_guard rfl hf rfl rfl (hc16) ?_
          obtain ⟨r18, hr18, hm⟩ := ob hm
          refine op_enter (ex_call c_78 hf (vs := [str r13, str s17]) rfl) rfl hf rfl rfl (w_strings_HasSuffix r13 s17 r18 _ (hG.own hF hO).1 hr18) ?_
          rintro e w' ⟨he, hb⟩
          refine ⟨_, he, fun a hf => ?_⟩
          have hO := hO.grow hb
          refine op_val (ex_pick_f hf rfl hc16 rfl) rfl hf rfl rfl fun a hf => ?_
          refine op_val (ex_assign hf rfl) rfl hf rfl rfl fun a hf => ?_
          refine wpList_nil ?_
          refine nor_then ?_
          exact ⟨r18, (hf.cons rfl hf.nil), hO, hm⟩
      · rintro a w ⟨t19, hf, hO, hm⟩
        rw [hostport_Under_j2] at hm
        refine wp_ret ?_
        obtain rfl := Option.some.inj hm
        exact post_ret Tryz.results41 hf (.tmp rfl .nil) ⟨rfl, hO.below⟩

set_option maxHeartbeats 1000000 in
theorem w_domains_Map (x_name : Str) (x_l : List api_Swap) (R : Str × Bool) (w0 : World) (hG : GlobT w0) {x_l_p0 : Option Addr} {x_l_c0 : Nat} (hs0 : Sees w0 x_l_p0 (cells enc_api_Swap x_l)) (hc0 : x_l.length ≤ x_l_c0) (hm : domains_Map x_name x_l = some R) :
    Calls Tryz.prog 15 #[str x_name, .slice x_l_p0 x_l.length x_l_c0] w0 fun e w' => e = .returned (.tuple #[str R.1, .bool R.2]) ∧ Below w0.heap.size w0 w' := by
  rw [domains_Map] at hm
  refine calls_enter (vs := [str x_name, .slice x_l_p0 x_l.length x_l_c0]) Tryz.func15 rfl Tryz.ntmps15 rfl fun a hf => ?_
  have hF : Away [] := away_nil
  have hO : Dk.Own w0 [] w0 [] := Dk.Own.refl w0
  have hO := hO.addShr hs0 (by simp [Res.shared])
  refine wp_seq_k fun _ hK1 => ?_
  refine wp_region_list ?_
  refine op_val (ex_assign hf rfl) rfl hf rfl rfl fun a hf => ?_
  refine op_val (ex_assign hf rfl) rfl hf rfl rfl fun a hf => ?_
  refine wpList_nil ?_
  refine nor_then (hK1 _ _ ?_)
  refine wp_seq_k fun _ hK3 => ?_
  refine wp_region_list ?_
  refine op_val (ex_move hf rfl) rfl hf rfl rfl fun a hf => ?_
  obtain ⟨r2, hr2, hm⟩ := ob hm
  refine op_enter (ex_call c_40 hf (vs := [str x_name, str [46]]) rfl) rfl hf rfl rfl (w_strings_TrimPrefix x_name [46] r2 _ (hG.own hF hO).1 hr2) ?_
  rintro e w' ⟨he, hb⟩
  refine ⟨_, he, fun a hf => ?_⟩
  have hO := hO.grow hb
  refine op_val (ex_assign hf rfl) rfl hf rfl rfl fun a hf => ?_
  refine wpList_nil ?_
  refine nor_then (hK3 _ _ ?_)
  refine wp_seq_k fun _ hK23 => ?_
  refine wp_seq_k fun _ hK4 => ?_
  refine wp_region_list ?_
  refine op_val (ex_move hf rfl) rfl hf rfl rfl fun a hf => ?_
  refine op_val (ex_len_l Tryz.underlying22 hf rfl) rfl hf rfl rfl fun a hf => ?_
  refine op_val (ex_move hf rfl) rfl hf rfl rfl fun a hf => ?_
  refine wpList_nil ?_
  refine nor_then (hK4 _ _ ?_)
  refine wp_block ?_
  refine wp_loop_n (fun k a w => ∃ (i5 : Int), Fits 34 [(0, str x_name), (6, str r2), (11, .slice x_l_p0 x_l.length x_l_c0), (12, int (x_l.length : Int)), (13, int i5)] a ∧ Dk.Own w0 [] w [.shr x_l_p0 (cells enc_api_Swap x_l)] ∧ domains_Map_L1 x_name x_l r2 k i5 = some R) ?_ fuel ?_
  · rintro n1 a w ⟨i5, hf, hO, hm⟩
    obtain _ | n1 := n1
    · rw [domains_Map_L1] at hm
      cases hm
    · rw [domains_Map_L1] at hm
      refine wp_seq_k fun _ hK6 => ?_
      refine wp_region_list ?_
      refine op_val (ex_lss (m := i5) (n := (x_l.length : Int)) hf rfl rfl) rfl hf rfl rfl fun a hf => ?_
      refine wpList_nil ?_
      refine nor_then (hK6 _ _ ?_)
      refine wp_seq_k fun _ hK8 => ?_
      refine wp_cond_cut hf rfl (fun hc7 => ?_) (fun hc7 => ?_)
      · have hm := it hc7 hm
        refine wp_skip ?_
        refine nor_then (hK8 _ _ ?_)
        refine wp_seq_k fun _ hK21 => ?_
        refine wp_block ?_
        refine wp_seq_k fun _ hK13 => ?_
        refine wp_region_list ?_
        obtain ⟨x9, hx9, hm⟩ := ob hm
        obtain ⟨b10, o11, hix9, hSx9⟩ := elemAt (enc := enc_api_Swap) (sz := 2) (xs := x_l) 22 Tryz.underlying22 sz_57 (by decide) (fun _ => rfl) (hO.sees (i := 0) rfl) hx9
        refine op_val (ex_indexAddr hix9 hf rfl rfl) rfl hf rfl rfl fun a hf => ?_
        refine op_val (ex_loadN (o := 0) (vs := [str x9.From, str x9.To]) ag_57 sz_57 (hSx9 _ (hO.sees (i := 0) rfl)) rfl rfl hf rfl) rfl hf rfl rfl fun a hf => ?_
        refine op_alloc al_57 hf rfl hO fun a b12 w hf hO => ?_
        refine op_storeN (i := 0) (n := 2) sz_57 rfl rfl rfl (by simp [Value.oneCell']) hf rfl rfl hO fun w hO => ?_
        refine wpList_nil ?_
        refine nor_then (hK13 _ _ ?_)
        refine wp_seq_k fun _ hK15 => ?_
        refine wp_region_list ?_
        refine op_val (ex_move hf rfl) rfl hf rfl rfl fun a hf => ?_
        refine op_val (ex_field fa_57_0 hf rfl) rfl hf rfl rfl fun a hf => ?_
        refine op_val (ex_load1 (o := 0) ag_9 (hO.blkSees (i := 0) rfl) rfl hf rfl) rfl hf rfl rfl fun a hf => ?_
        obtain ⟨r14, hr14, hm⟩ := ob hm
        refine op_enter (ex_call c_41 hf (vs := [str r2, str x9.From]) rfl) rfl hf rfl rfl (w_hostport_Under r2 x9.From r14 _ (hG.own hF hO) hr14) ?_
        rintro e w' ⟨he, hb⟩
        refine ⟨_, he, fun a hf => ?_⟩
        have hO := hO.grow hb
        refine wpList_nil ?_
        refine nor_then (hK15 _ _ ?_)
        refine wp_cond_cut hf rfl (fun hc16 => ?_) (fun hc16 => ?_)
        · have hm := it hc16 hm
          refine wp_seq_k fun _ hK20 => ?_
          refine wp_quiet (by kernel_rfl) (by kernel_rfl) hO ?_
          refine q_val (fun w hO => ex_move hf rfl) rfl hf rfl rfl fun a hf => ?_
          refine q_val (fun w hO => ex_move hf rfl) rfl hf rfl rfl fun a hf => ?_
          refine q_val (fun w hO => ex_len_s (l := r2) Tryz.underlying9 hf rfl) rfl hf rfl rfl fun a hf => ?_
          refine q_val (fun w hO => ex_field fa_57_0 hf rfl) rfl hf rfl rfl fun a hf => ?_
          refine q_val (fun w hO => ex_load1 (o := 0) ag_9 (hO.blkSees (i := 0) rfl) rfl hf rfl) rfl hf rfl rfl fun a hf => ?_
          refine q_val (fun w hO => ex_len_s (l := x9.From) Tryz.underlying9 hf rfl) rfl hf rfl rfl fun a hf => ?_
          obtain ⟨i17, hi17, hm⟩ := ob hm
          refine q_val (fun w hO => ex_sub hf rfl rfl hi17) rfl hf rfl rfl fun a hf => ?_
          obtain ⟨s18, hs18, hm⟩ := ob hm
          refine q_val (fun w hO => ex_to_s (l := r2) Tryz.underlying9 hf rfl rfl hs18) rfl hf rfl rfl fun a hf => ?_
          refine q_val (fun w hO => ex_field fa_57_1 hf rfl) rfl hf rfl rfl fun a hf => ?_
          refine q_val (fun w hO => ex_load1 (o := 1) ag_9 (hO.blkSees (i := 0) rfl) rfl hf rfl) rfl hf rfl rfl fun a hf => ?_
          obtain ⟨s19, hs19, hm⟩ := ob hm
          refine q_val (fun w hO => ex_cat (l := s18) (m := x9.To) hf rfl rfl hs19) rfl hf rfl rfl fun a hf => ?_
          refine q_val (fun w hO => ex_assign hf rfl) rfl hf rfl rfl fun a hf => ?_
          refine q_val (fun w hO => ex_assign hf rfl) rfl hf rfl rfl fun a hf => ?_
          refine wpQuiet_nil ?_
          intro w hO
          refine nor_then (hK20 _ _ ?_)
          refine wp_ret ?_
          refine ret_block ?_
          refine ret_then ?_
          refine ret_then ?_
          refine ret_block ?_
          refine ret_then ?_
          obtain rfl := Option.some.inj hm
          exact post_ret Tryz.results15 hf (.tmp rfl (.tmp rfl .nil)) ⟨rfl, hO.below⟩
        · have hm := ie hc16 hm
          refine wp_skip ?_
          refine nor_block ?_
          refine nor_then (hK21 _ _ ?_)
          refine wp_region_list ?_
          obtain ⟨i22, hi22, hm⟩ := ob hm
          refine op_val (ex_add hf rfl rfl hi22) rfl hf rfl rfl fun a hf => ?_
          refine op_val (ex_move hf rfl) rfl hf rfl rfl fun a hf => ?_
          refine wpList_nil ?_
          refine nor_then ?_
          exact ⟨_, Nat.lt_succ_self _, i22, (hf.cons rfl (hf.cons rfl (hf.cons rfl (hf.cons rfl (hf.cons rfl hf.nil))))), (hO.sub (.cons _ (.cons_cons _ .slnil))), hm⟩
      · have hm := ie hc7 hm
        refine wp_exit ?_
        refine exit_then ?_
        refine exit_then ?_
        refine exit_here ?_
        refine nor_then (hK23 _ _ ?_)
        refine wp_seq_k fun _ hK24 => ?_
        refine wp_region_list ?_
        refine op_val (ex_move hf rfl) rfl hf rfl rfl fun a hf => ?_
        refine op_val (ex_assign hf rfl) rfl hf rfl rfl fun a hf => ?_
        refine op_val (ex_assign hf rfl) rfl hf rfl rfl fun a hf => ?_
        refine wpList_nil ?_
        refine nor_then (hK24 _ _ ?_)
        refine wp_ret ?_
        obtain rfl := Option.some.inj hm
        exact post_ret Tryz.results15 hf (.tmp rfl (.tmp rfl .nil)) ⟨rfl, hO.below⟩
  · exact ⟨0, (hf.cons rfl (hf.cons rfl (hf.cons rfl (hf.cons rfl (hf.cons rfl hf.nil))))), hO, hm⟩

set_option maxHeartbeats 1000000 in
theorem w_domains_name (x_s : Str) (R : Bool) (w0 : World) (hG : GlobT w0) (hm : domains_name x_s = some R) :
    Calls Tryz.prog 32 #[str x_s] w0 fun e w' => e = .returned (.bool R) ∧ Below w0.heap.size w0 w' := by
  rw [domains_name] at hm
  refine calls_enter (vs := [str x_s]) Tryz.func32 rfl Tryz.ntmps32 rfl fun a hf => ?_
  have hF : Away [] := away_nil
  have hO : Dk.Own w0 [] w0 [] := Dk.Own.refl w0
  refine wp_seq_k fun _ hK1 => ?_
  refine wp_region_list ?_
  refine op_val (ex_assign hf rfl) rfl hf rfl rfl fun a hf => ?_
  refine wpList_nil ?_
  refine nor_then (hK1 _ _ ?_)
  refine wp_seq_cut (fun a w => ∃ (t5 : Bool), Fits 10 [(2, .bool t5)] a ∧ Dk.Own w0 [] w [] ∧ domains_name_j1 t5 = some R) ?_ ?_
  · refine wp_region_list ?_
    refine op_val (ex_move hf rfl) rfl hf rfl rfl fun a hf => ?_
    obtain ⟨r2, hr2, hm⟩ := ob hm
    refine op_enter (ex_call c_57 hf (vs := [str x_s]) rfl) rfl hf rfl rfl (w_hostport_Name x_s r2 _ (hG.own hF hO).1 hr2) ?_
    rintro e w' ⟨he, hb⟩
    refine ⟨_, he, fun a hf => ?_⟩
    have hO := hO.grow hb
    refine op_val (ex_move hf rfl) rfl hf rfl rfl fun a hf => ?_
    rcases bcase (r2) with hc3 | hc3
    · have hm := it hc3 hm
      refine op_guard rfl hf rfl rfl (hc3) ?_
      refine op_val (ex_move hf rfl) rfl hf rfl rfl fun a hf => ?_
      refine op_guard rfl hf rfl rfl (hc3) ?_
      obtain ⟨r4, hr4, hm⟩ := ob hm
      refine op_enter (ex_call c_58 hf (vs := [str x_s]) rfl) rfl hf rfl rfl (w_hostport_Four x_s r4 _ (hG.own hF hO) hr4) ?_
      rintro e w' ⟨he, hb⟩
      refine ⟨_, he, fun a hf => ?_⟩
      have hO := hO.grow hb
      refine op_guard rfl hf rfl rfl (hc3) ?_
      refine op_val (ex_not hf rfl) rfl hf rfl rfl fun a hf => ?_
      refine op_val (ex_pick_t hf rfl hc3 rfl) rfl hf rfl rfl fun a hf => ?_
      refine op_val (ex_assign hf rfl) rfl hf rfl rfl fun a hf => ?_
      refine wpList_nil ?_
      refine nor_then ?_
      exact ⟨!r4, (hf.cons rfl hf.nil), hO, hm⟩
    · have hm := ie hc3 hm
      refine op_pass rfl hf rfl rfl (hc3) rfl rfl fun a hf => ?_
      refine op_pass rfl hf rfl rfl (hc3) rfl rfl fun a hf => ?_
      refine op_pass rfl hf rfl rfl (hc3) rfl rfl fun a hf => ?_
      refine op_val (ex_pick_f hf rfl hc3 rfl) rfl hf rfl rfl fun a hf => ?_
      refine op_val (ex_assign hf rfl) rfl hf rfl rfl fun a hf => ?_
      refine wpList_nil ?_
      refine nor_then ?_
      exact ⟨false, (hf.cons rfl hf.nil), hO, hm⟩
  · rintro a w ⟨t5, hf, hO, hm⟩
    rw [domains_name_j1] at hm
    refine wp_ret ?_
    obtain rfl := Option.some.inj hm
    exact post_ret Tryz.results32 hf (.tmp rfl .nil) ⟨rfl, hO.below⟩

set_option maxHeartbeats 1000000 in
theorem w_strings_ContainsAny (x_s : Str) (x_chars : Str) (R : Bool) (w0 : World) (hG : Glob w0) (hm : strings_ContainsAny x_s x_chars = some R) :
    Calls Tryz.prog 33 #[str x_s, str x_chars] w0 fun e w' => e = .returned (.bool R) ∧ Below w0.heap.size w0 w' := by
  rw [strings_ContainsAny] at hm
  refine calls_enter (vs := [str x_s, str x_chars]) Tryz.func33 rfl Tryz.ntmps33 rfl fun a hf => ?_
  have hF : Away [] := away_nil
  have hO : Dk.Own w0 [] w0 [] := Dk.Own.refl w0
  refine wp_seq_k fun _ hK1 => ?_
  refine wp_region_list ?_
  refine op_val (ex_assign hf rfl) rfl hf rfl rfl fun a hf => ?_
  refine wpList_nil ?_
  refine nor_then (hK1 _ _ ?_)
  refine wp_seq_k fun _ hK3 => ?_
  refine wp_region_list ?_
  refine op_val (ex_move hf rfl) rfl hf rfl rfl fun a hf => ?_
  refine op_val (ex_move hf rfl) rfl hf rfl rfl fun a hf => ?_
  obtain ⟨r2, hr2, hm⟩ := ob hm
  refine op_enter (ex_call c_59 hf (vs := [str x_s, str x_chars]) rfl) rfl hf rfl rfl (w_strings_IndexAny x_s x_chars r2 _ (hG.own hF hO) hr2) ?_
  rintro e w' ⟨he, hb⟩
  refine ⟨_, he, fun a hf => ?_⟩
  have hO := hO.grow hb
  refine op_val (ex_geq (m := r2) (n := 0) hf rfl rfl) rfl hf rfl rfl fun a hf => ?_
  refine op_val (ex_assign hf rfl) rfl hf rfl rfl fun a hf => ?_
  refine wpList_nil ?_
  refine nor_then (hK3 _ _ ?_)
  refine wp_ret ?_
  obtain rfl := Option.some.inj hm
  exact post_ret Tryz.results33 hf (.tmp rfl .nil) ⟨rfl, hO.below⟩

set_option maxHeartbeats 1000000 in
theorem w_domains_Check (x_l : List api_Swap) (R : Int) (w0 : World) (hG : GlobT w0) {x_l_p0 : Option Addr} {x_l_c0 : Nat} (hs0 : Sees w0 x_l_p0 (cells enc_api_Swap x_l)) (hc0 : x_l.length ≤ x_l_c0) (hm : domains_Check x_l = some R) :
    Calls Tryz.prog 11 #[.slice x_l_p0 x_l.length x_l_c0] w0 fun e w' => e = .returned (int R) ∧ Below w0.heap.size w0 w' := by
  rw [domains_Check] at hm
  refine calls_enter (vs := [.slice x_l_p0 x_l.length x_l_c0]) Tryz.func11 rfl Tryz.ntmps11 rfl fun a hf => ?_
  have hF : Away [] := away_nil
  have hO : Dk.Own w0 [] w0 [] := Dk.Own.refl w0
  have hO := hO.addShr hs0 (by simp [Res.shared])
  refine wp_seq_k fun _ hK1 => ?_
  refine wp_region_list ?_
  refine op_val (ex_assign hf rfl) rfl hf rfl rfl fun a hf => ?_
  refine wpList_nil ?_
  refine nor_then (hK1 _ _ ?_)
  refine wp_seq_k fun _ hK22 => ?_
  refine wp_seq_k fun _ hK2 => ?_
  refine wp_region_list ?_
  refine op_val (ex_move hf rfl) rfl hf rfl rfl fun a hf => ?_
  refine op_val (ex_len_l Tryz.underlying22 hf rfl) rfl hf rfl rfl fun a hf => ?_
  refine op_val (ex_move hf rfl) rfl hf rfl rfl fun a hf => ?_
  refine wpList_nil ?_
  refine nor_then (hK2 _ _ ?_)
  refine wp_block ?_
  refine wp_loop_n (fun k a w => ∃ (i3 : Int), Fits 30 [(0, .slice x_l_p0 x_l.length x_l_c0), (5, .slice x_l_p0 x_l.length x_l_c0), (6, int (x_l.length : Int)), (7, int i3)] a ∧ Dk.Own w0 [] w [.shr x_l_p0 (cells enc_api_Swap x_l)] ∧ domains_Check_L1 x_l k i3 = some R) ?_ fuel ?_
  · rintro n1 a w ⟨i3, hf, hO, hm⟩
    obtain _ | n1 := n1
    · rw [domains_Check_L1] at hm
      cases hm
    · rw [domains_Check_L1] at hm
      refine wp_seq_k fun _ hK4 => ?_
      refine wp_region_list ?_
      refine op_val (ex_lss (m := i3) (n := (x_l.length : Int)) hf rfl rfl) rfl hf rfl rfl fun a hf => ?_
      refine wpList_nil ?_
      refine nor_then (hK4 _ _ ?_)
      refine wp_seq_k fun _ hK6 => ?_
      refine wp_cond_cut hf rfl (fun hc5 => ?_) (fun hc5 => ?_)
      · have hm := it hc5 hm
        refine wp_skip ?_
        refine nor_then (hK6 _ _ ?_)
        refine wp_seq_k fun _ hK20 => ?_
        refine wp_block ?_
        refine wp_seq_k fun _ hK11 => ?_
        refine wp_region_list ?_
        obtain ⟨x7, hx7, hm⟩ := ob hm
        obtain ⟨b8, o9, hix7, hSx7⟩ := elemAt (enc := enc_api_Swap) (sz := 2) (xs := x_l) 22 Tryz.underlying22 sz_57 (by decide) (fun _ => rfl) (hO.sees (i := 0) rfl) hx7
        refine op_val (ex_indexAddr hix7 hf rfl rfl) rfl hf rfl rfl fun a hf => ?_
        refine op_val (ex_loadN (o := 0) (vs := [str x7.From, str x7.To]) ag_57 sz_57 (hSx7 _ (hO.sees (i := 0) rfl)) rfl rfl hf rfl) rfl hf rfl rfl fun a hf => ?_
        refine op_alloc al_57 hf rfl hO fun a b10 w hf hO => ?_
        refine op_storeN (i := 0) (n := 2) sz_57 rfl rfl rfl (by simp [Value.oneCell']) hf rfl rfl hO fun w hO => ?_
        refine wpList_nil ?_
        refine nor_then (hK11 _ _ ?_)
        refine wp_seq_cut (fun a w => ∃ (t17 : Bool), Fits 30 [(0, .slice x_l_p0 x_l.length x_l_c0), (5, .slice x_l_p0 x_l.length x_l_c0), (6, int (x_l.length : Int)), (7, int i3), (25, .bool t17)] a ∧ Dk.Own w0 [] w [.blk b10 [str x7.From, str x7.To] 57, .shr x_l_p0 (cells enc_api_Swap x_l)] ∧ domains_Check_j2 (domains_Check_L1 x_l n1) i3 t17 = some R) ?_ ?_
        · refine wp_region_list ?_
          refine op_val (ex_field fa_57_0 hf rfl) rfl hf rfl rfl fun a hf => ?_
          refine op_val (ex_load1 (o := 0) ag_9 (hO.blkSees (i := 0) rfl) rfl hf rfl) rfl hf rfl rfl fun a hf => ?_
          obtain ⟨r12, hr12, hm⟩ := ob hm
          refine op_enter (ex_call c_32 hf (vs := [str x7.From]) rfl) rfl hf rfl rfl (w_domains_name x7.From r12 _ (hG.own hF hO) hr12) ?_
          rintro e w' ⟨he, hb⟩
          refine ⟨_, he, fun a hf => ?_⟩
          have hO := hO.grow hb
          refine op_val (ex_not hf rfl) rfl hf rfl rfl fun a hf => ?_
          refine op_val (ex_move hf rfl) rfl hf rfl rfl fun a hf => ?_
          rcases bcase (!r12) with hc13 | hc13
          · have hm := it hc13 hm
            refine op_pass rfl hf rfl rfl (hc13) rfl rfl fun a hf => ?_
            refine op_pass rfl hf rfl rfl (hc13) rfl rfl fun a hf => ?_
            refine op_pass rfl hf rfl rfl (hc13) rfl rfl fun a hf => ?_
            refine op_pass rfl hf rfl rfl (hc13) rfl rfl fun a hf => ?_
            refine op_val (ex_pick_t hf rfl hc13 rfl) rfl hf rfl rfl fun a hf => ?_
            refine op_val (ex_move hf rfl) rfl hf rfl rfl fun a hf => ?_
            refine op_pass rfl hf rfl rfl (rfl) rfl rfl fun a hf => ?_
            refine op_pass rfl hf rfl rfl (rfl) rfl rfl fun a hf => ?_
            refine op_pass rfl hf rfl rfl (rfl) rfl rfl fun a hf => ?_
            refine op_val (ex_pick_t hf rfl rfl rfl) rfl hf rfl rfl fun a hf => ?_
            refine wpList_nil ?_
            refine nor_then ?_
            exact ⟨true, (hf.cons rfl (hf.cons rfl (hf.cons rfl (hf.cons rfl (hf.cons rfl hf.nil))))), hO, hm⟩
          · have hm := ie hc13 hm
            refine op_guard rfl hf rfl rfl (hc13) ?_
            refine op_val (ex_field fa_57_1 hf rfl) rfl hf rfl rfl fun a hf => ?_
            refine op_guard rfl hf rfl rfl (hc13) ?_
            refine op_val (ex_load1 (o := 1) ag_9 (hO.blkSees (i := 0) rfl) rfl hf rfl) rfl hf rfl rfl fun a hf => ?_
            refine op_guard rfl hf rfl rfl (hc13) ?_
            obtain ⟨r14, hr14, hm⟩ := ob hm
            refine op_enter (ex_call c_32 hf (vs := [str x7.To]) rfl) rfl hf rfl rfl (w_domains_name x7.To r14 _ (hG.own hF hO) hr14) ?_
            rintro e w' ⟨he, hb⟩
            refine ⟨_, he, fun a hf => ?_⟩
            have hO := hO.grow hb
            refine op_guard rfl hf rfl rfl (hc13) ?_
            refine op_val (ex_not hf rfl) rfl hf rfl rfl fun a hf => ?_
            refine op_val (ex_pick_f hf rfl hc13 rfl) rfl hf rfl rfl fun a hf => ?_
            refine op_val (ex_move hf rfl) rfl hf rfl rfl fun a hf => ?_
            rcases bcase (!r14) with hc15 | hc15
            · have hm := it hc15 hm
              refine op_pass rfl hf rfl rfl (hc15) rfl rfl fun a hf => ?_
              refine op_pass rfl hf rfl rfl (hc15) rfl rfl fun a hf => ?_
              refine op_pass rfl hf rfl rfl (hc15) rfl rfl fun a hf => ?_
              refine op_val (ex_pick_t hf rfl hc15 rfl) rfl hf rfl rfl fun a hf => ?_
              refine wpList_nil ?_
              refine nor_then ?_
              exact ⟨true, (hf.cons rfl (hf.cons rfl (hf.cons rfl (hf.cons rfl (hf.cons rfl hf.nil))))), hO, hm⟩
            · have hm := ie hc15 hm
              refine op_guard rfl hf rfl rfl (hc15) ?_
              refine op_val (ex_field fa_57_1 hf rfl) rfl hf rfl rfl fun a hf => ?_
              refine op_guard rfl hf rfl rfl (hc15) ?_
              refine op_val (ex_load1 (o := 1) ag_9 (hO.blkSees (i := 0) rfl) rfl hf rfl) rfl hf rfl rfl fun a hf => ?_
              refine op_guard rfl hf rfl rfl (hc15) ?_
              obtain ⟨r16, hr16, hm⟩ := ob hm
              refine op_enter (ex_call c_33 hf (vs := [str x7.To, str [44, 59]]) rfl) rfl hf rfl rfl (w_strings_ContainsAny x7.To [44, 59] r16 _ (hG.own hF hO).1 hr16) ?_
              rintro e w' ⟨he, hb⟩
              refine ⟨_, he, fun a hf => ?_⟩
              have hO := hO.grow hb
              refine op_val (ex_pick_f hf rfl hc15 rfl) rfl hf rfl rfl fun a hf => ?_
              refine wpList_nil ?_
              refine nor_then ?_
              exact ⟨r16, (hf.cons rfl (hf.cons rfl (hf.cons rfl (hf.cons rfl (hf.cons rfl hf.nil))))), hO, hm⟩
        · rintro a w ⟨t17, hf, hO, hm⟩
          rw [domains_Check_j2] at hm
          refine wp_cond_cut hf rfl (fun hc18 => ?_) (fun hc18 => ?_)
          · have hm := it hc18 hm
            refine wp_seq_k fun _ hK19 => ?_
            refine wp_region_list ?_
            refine op_val (ex_assign hf rfl) rfl hf rfl rfl fun a hf => ?_
            refine wpList_nil ?_
            refine nor_then (hK19 _ _ ?_)
            refine wp_ret ?_
            refine ret_block ?_
            refine ret_then ?_
            refine ret_then ?_
            refine ret_block ?_
            refine ret_then ?_
            obtain rfl := Option.some.inj hm
            exact post_ret Tryz.results11 hf (.tmp rfl .nil) ⟨rfl, hO.below⟩
          · have hm := ie hc18 hm
            refine wp_skip ?_
            refine nor_block ?_
            refine nor_then (hK20 _ _ ?_)
            refine wp_region_list ?_
            obtain ⟨i21, hi21, hm⟩ := ob hm
            refine op_val (ex_add hf rfl rfl hi21) rfl hf rfl rfl fun a hf => ?_
            refine op_val (ex_move hf rfl) rfl hf rfl rfl fun a hf => ?_
            refine wpList_nil ?_
            refine nor_then ?_
            exact ⟨_, Nat.lt_succ_self _, i21, (hf.cons rfl (hf.cons rfl (hf.cons rfl (hf.cons rfl hf.nil)))), (hO.sub (.cons _ (.cons_cons _ .slnil))), hm⟩
      · have hm := ie hc5 hm
        refine wp_exit ?_
        refine exit_then ?_
        refine exit_then ?_
        refine exit_here ?_
        refine nor_then (hK22 _ _ ?_)
        refine wp_seq_k fun _ hK26 => ?_
        refine wp_seq_k fun _ hK23 => ?_
        refine wp_region_list ?_
        refine op_val (ex_move hf rfl) rfl hf rfl rfl fun a hf => ?_
        refine op_val (ex_len_l Tryz.underlying22 hf rfl) rfl hf rfl rfl fun a hf => ?_
        refine op_val (ex_gtr (m := (x_l.length : Int)) (n := 64) hf rfl rfl) rfl hf rfl rfl fun a hf => ?_
        refine wpList_nil ?_
        refine nor_then (hK23 _ _ ?_)
        refine wp_cond_cut hf rfl (fun hc24 => ?_) (fun hc24 => ?_)
        · have hm := it hc24 hm
          refine wp_seq_k fun _ hK25 => ?_
          refine wp_region_list ?_
          refine op_val (ex_assign hf rfl) rfl hf rfl rfl fun a hf => ?_
          refine wpList_nil ?_
          refine nor_then (hK25 _ _ ?_)
          refine wp_ret ?_
          refine ret_then ?_
          obtain rfl := Option.some.inj hm
          exact post_ret Tryz.results11 hf (.tmp rfl .nil) ⟨rfl, hO.below⟩
        · have hm := ie hc24 hm
          refine wp_skip ?_
          refine nor_then (hK26 _ _ ?_)
          refine wp_seq_k fun _ hK27 => ?_
          refine wp_region_list ?_
          refine op_val (ex_assign hf rfl) rfl hf rfl rfl fun a hf => ?_
          refine wpList_nil ?_
          refine nor_then (hK27 _ _ ?_)
          refine wp_ret ?_
          obtain rfl := Option.some.inj hm
          exact post_ret Tryz.results11 hf (.tmp rfl .nil) ⟨rfl, hO.below⟩
  · exact ⟨0, (hf.cons rfl (hf.cons rfl (hf.cons rfl (hf.cons rfl hf.nil)))), hO, hm⟩

set_option maxHeartbeats 1000000 in
theorem w_law29_awake (R : Bool) (w0 : World) (hG : GlobT w0) (hm : law29_awake = some R) :
    Calls Tryz.prog 7 #[] w0 fun e w' => e = .returned (.bool R) ∧ Below w0.heap.size w0 w' := by
  rw [law29_awake] at hm
  refine calls_enter (vs := []) Tryz.func7 rfl Tryz.ntmps7 rfl fun a hf => ?_
  have hF : Away [] := away_nil
  have hO : Dk.Own w0 [] w0 [] := Dk.Own.refl w0
  refine wp_seq_k fun _ hK1 => ?_
  refine wp_region_list ?_
  refine op_val (ex_assign hf rfl) rfl hf rfl rfl fun a hf => ?_
  refine wpList_nil ?_
  refine nor_then (hK1 _ _ ?_)
  refine wp_seq_k fun _ hK4 => ?_
  refine wp_region_list ?_
  refine op_val (ex_build (vs := [(0, str [117, 112, 46, 101, 120, 97, 109, 112, 108, 101]), (1, str [98, 46, 100, 101])]) (v := .agg #[str [117, 112, 46, 101, 120, 97, 109, 112, 108, 101], str [98, 46, 100, 101]]) hf rfl (by kernel_rfl)) rfl hf rfl rfl fun a hf => ?_
  refine op_buildSlice (vs := [(0, .agg #[str [117, 112, 46, 101, 120, 97, 109, 112, 108, 101], str [98, 46, 100, 101]])]) (cs := [str [117, 112, 46, 101, 120, 97, 109, 112, 108, 101], str [98, 46, 100, 101]]) (e := 57) (sz := 2) hf rfl rfl (fun w => by kernel_rfl) rfl rfl hO fun a b2 w hf hO => ?_
  obtain ⟨r3, hr3, hm⟩ := ob hm
  refine op_enter (ex_call c_15 hf (vs := [str [46, 97, 46, 117, 112, 46, 101, 120, 97, 109, 112, 108, 101], .slice (some ⟨b2, 0, none⟩) (([(⟨[117, 112, 46, 101, 120, 97, 109, 112, 108, 101], [98, 46, 100, 101]⟩ : api_Swap)]).length) 1]) rfl) rfl hf rfl rfl (w_domains_Map [46, 97, 46, 117, 112, 46, 101, 120, 97, 109, 112, 108, 101] ([(⟨[117, 112, 46, 101, 120, 97, 109, 112, 108, 101], [98, 46, 100, 101]⟩ : api_Swap)]) r3 _ (hG.own hF hO) (hO.rowSees (i := 0) rfl) (hO.rowCap (i := 0) rfl) hr3) ?_
  rintro e w' ⟨he, hb⟩
  refine ⟨_, he, fun a hf => ?_⟩
  have hO := hO.grow hb
  refine op_val (ex_move hf rfl) rfl hf rfl rfl fun a hf => ?_
  refine op_val (ex_extract hf rfl rfl) rfl hf rfl rfl fun a hf => ?_
  refine op_val (ex_extract hf rfl rfl) rfl hf rfl rfl fun a hf => ?_
  refine op_val (ex_assign hf rfl) rfl hf rfl rfl fun a hf => ?_
  refine op_val (ex_assign hf rfl) rfl hf rfl rfl fun a hf => ?_
  refine wpList_nil ?_
  refine nor_then (hK4 _ _ ?_)
  refine wp_seq_cut (fun a w => ∃ (t9 : Bool), Fits 20 [(0, .bool t9)] a ∧ Dk.Own w0 [] w [.row (.slice (some ⟨b2, 0, none⟩) (([(⟨[117, 112, 46, 101, 120, 97, 109, 112, 108, 101], [98, 46, 100, 101]⟩ : api_Swap)]).length) 1) 57 2 (([(⟨[117, 112, 46, 101, 120, 97, 109, 112, 108, 101], [98, 46, 100, 101]⟩ : api_Swap)]).length) (cells enc_api_Swap ([(⟨[117, 112, 46, 101, 120, 97, 109, 112, 108, 101], [98, 46, 100, 101]⟩ : api_Swap)]))] ∧ law29_awake_j1 t9 = some R) ?_ ?_
  · refine wp_region_list ?_
    refine op_val (ex_move hf rfl) rfl hf rfl rfl fun a hf => ?_
    refine op_val (ex_move hf rfl) rfl hf rfl rfl fun a hf => ?_
    rcases bcase (r3.2) with hc5 | hc5
    · have hm := it hc5 hm
      refine op_guard rfl hf rfl rfl (hc5) ?_
      refine op_val (ex_move hf rfl) rfl hf rfl rfl fun a hf => ?_
      refine op_guard rfl hf rfl rfl (hc5) ?_
      refine op_val (ex_eql_s (l := r3.1) (m := [97, 46, 98, 46, 100, 101]) hf rfl rfl) rfl hf rfl rfl fun a hf => ?_
      refine op_val (ex_pick_t hf rfl hc5 rfl) rfl hf rfl rfl fun a hf => ?_
      refine op_val (ex_move hf rfl) rfl hf rfl rfl fun a hf => ?_
      rcases bcase (r3.1 == [97, 46, 98, 46, 100, 101]) with hc6 | hc6
      · have hm := it hc6 hm
        refine op_guard rfl hf rfl rfl (hc6) ?_
        refine op_val (ex_build (vs := [(0, str [117, 112, 46, 101, 120, 97, 109, 112, 108, 101]), (1, str [98, 46, 100, 101])]) (v := .agg #[str [117, 112, 46, 101, 120, 97, 109, 112, 108, 101], str [98, 46, 100, 101]]) hf rfl (by kernel_rfl)) rfl hf rfl rfl fun a hf => ?_
        refine op_guard rfl hf rfl rfl (hc6) ?_
        refine op_buildSlice (vs := [(0, .agg #[str [117, 112, 46, 101, 120, 97, 109, 112, 108, 101], str [98, 46, 100, 101]])]) (cs := [str [117, 112, 46, 101, 120, 97, 109, 112, 108, 101], str [98, 46, 100, 101]]) (e := 57) (sz := 2) hf rfl rfl (fun w => by kernel_rfl) rfl rfl hO fun a b7 w hf hO => ?_
        refine op_guard rfl hf rfl rfl (hc6) ?_
        obtain ⟨r8, hr8, hm⟩ := ob hm
        refine op_enter (ex_call c_11 hf (vs := [.slice (some ⟨b7, 0, none⟩) (([(⟨[117, 112, 46, 101, 120, 97, 109, 112, 108, 101], [98, 46, 100, 101]⟩ : api_Swap)]).length) 1]) rfl) rfl hf rfl rfl (w_domains_Check ([(⟨[117, 112, 46, 101, 120, 97, 109, 112, 108, 101], [98, 46, 100, 101]⟩ : api_Swap)]) r8 _ (hG.own hF hO) (hO.rowSees (i := 0) rfl) (hO.rowCap (i := 0) rfl) hr8) ?_
        rintro e w' ⟨he, hb⟩
        refine ⟨_, he, fun a hf => ?_⟩
        have hO := hO.grow hb
        refine op_guard rfl hf rfl rfl (hc6) ?_
        refine op_val (ex_eql (m := r8) (n := 0) hf rfl rfl) rfl hf rfl rfl fun a hf => ?_
        refine op_val (ex_pick_t hf rfl hc6 rfl) rfl hf rfl rfl fun a hf => ?_
        refine op_val (ex_assign hf rfl) rfl hf rfl rfl fun a hf => ?_
        refine wpList_nil ?_
        refine nor_then ?_
        exact ⟨r8 == 0, (hf.cons rfl hf.nil), (hO.sub (.cons _ (.cons_cons _ .slnil))), hm⟩
      · have hm := ie hc6 hm
        refine op_pass rfl hf rfl rfl (hc6) rfl rfl fun a hf => ?_
        refine op_pass rfl hf rfl rfl (hc6) rfl rfl fun a hf => ?_
        refine op_pass rfl hf rfl rfl (hc6) rfl rfl fun a hf => ?_
        refine op_pass rfl hf rfl rfl (hc6) rfl rfl fun a hf => ?_
        refine op_val (ex_pick_f hf rfl hc6 rfl) rfl hf rfl rfl fun a hf => ?_
        refine op_val (ex_assign hf rfl) rfl hf rfl rfl fun a hf => ?_
        refine wpList_nil ?_
        refine nor_then ?_
        exact ⟨false, (hf.cons rfl hf.nil), hO, hm⟩
    · have hm := ie hc5 hm
      refine op_pass rfl hf rfl rfl (hc5) rfl rfl fun a hf => ?_
      refine op_pass rfl hf rfl rfl (hc5) rfl rfl fun a hf => ?_
      refine op_val (ex_pick_f hf rfl hc5 rfl) rfl hf rfl rfl fun a hf => ?_
      refine op_val (ex_move hf rfl) rfl hf rfl rfl fun a hf => ?_
      refine op_pass rfl hf rfl rfl (rfl) rfl rfl fun a hf => ?_
      refine op_pass rfl hf rfl rfl (rfl) rfl rfl fun a hf => ?_
      refine op_pass rfl hf rfl rfl (rfl) rfl rfl fun a hf => ?_
      refine op_pass rfl hf rfl rfl (rfl) rfl rfl fun a hf => ?_
      refine op_val (ex_pick_f hf rfl rfl rfl) rfl hf rfl rfl fun a hf => ?_
      refine op_val (ex_assign hf rfl) rfl hf rfl rfl fun a hf => ?_
      refine wpList_nil ?_
      refine nor_then ?_
      exact ⟨false, (hf.cons rfl hf.nil), hO, hm⟩
  · rintro a w ⟨t9, hf, hO, hm⟩
    rw [law29_awake_j1] at hm
    refine wp_ret ?_
    obtain rfl := Option.some.inj hm
    exact post_ret Tryz.results7 hf (.tmp rfl .nil) ⟨rfl, hO.below⟩

set_option maxHeartbeats 1000000 in
theorem w_law29_Few (x_l : List api_Swap) (R : List api_Swap) (w0 : World) (hG : Glob w0) {x_l_p0 : Option Addr} {x_l_c0 : Nat} (hs0 : Sees w0 x_l_p0 (cells enc_api_Swap x_l)) (hc0 : x_l.length ≤ x_l_c0) (hm : law29_Few x_l = some R) :
    Calls Tryz.prog 8 #[.slice x_l_p0 x_l.length x_l_c0] w0 fun e w' => ∃ (p0 : Option Addr) (c0 : Nat), e = .returned (.slice p0 R.length c0) ∧ Dk.Own w0 [] w' [.row (.slice p0 R.length c0) 57 2 R.length (cells enc_api_Swap R)] := by
  rw [law29_Few] at hm
  refine calls_enter (vs := [.slice x_l_p0 x_l.length x_l_c0]) Tryz.func8 rfl Tryz.ntmps8 rfl fun a hf => ?_
  have hF : Away [] := away_nil
  have hO : Dk.Own w0 [] w0 [] := Dk.Own.refl w0
  have hO := hO.addShr hs0 (by simp [Res.shared])
  refine wp_seq_k fun _ hK1 => ?_
  refine wp_region_list ?_
  have hO := hO.nilRow 57 2
  refine op_val (ex_assign hf rfl) rfl hf rfl rfl fun a hf => ?_
  refine wpList_nil ?_
  refine nor_then (hK1 _ _ ?_)
  refine wp_seq_k fun _ hK2 => ?_
  refine wp_region_list ?_
  have hO := hO.nilRow 57 2
  refine op_val (ex_assign hf rfl) rfl hf rfl rfl fun a hf => ?_
  refine wpList_nil ?_
  refine nor_then (hK2 _ _ ?_)
  refine wp_seq_k fun _ hK32 => ?_
  refine wp_seq_k fun _ hK3 => ?_
  refine wp_region_list ?_
  refine op_val (ex_assign hf rfl) rfl hf rfl rfl fun a hf => ?_
  refine wpList_nil ?_
  refine nor_then (hK3 _ _ ?_)
  refine wp_block ?_
  refine wp_loop_n (fun k a w => ∃ (p4 : Option Addr) (c5 : Nat) (l6 : List api_Swap) (i7 : Int), Fits 46 [(0, .slice x_l_p0 x_l.length x_l_c0), (3, .slice p4 l6.length c5), (4, int i7)] a ∧ Dk.Own w0 [] w [.row (.slice p4 l6.length c5) 57 2 l6.length (cells enc_api_Swap l6), .row (.slice none 0 0) 57 2 0 (cells enc_api_Swap []), .shr x_l_p0 (cells enc_api_Swap x_l)] ∧ law29_Few_L1 x_l k l6 i7 = some R) ?_ fuel ?_
  · rintro n1 a w ⟨p4, c5, l6, i7, hf, hO, hm⟩
    obtain _ | n1 := n1
    · rw [law29_Few_L1] at hm
      cases hm
    · rw [law29_Few_L1] at hm
      refine wp_seq_k fun _ hK11 => ?_
      refine wp_seq_cut (fun a w => ∃ (t9 : Bool), Fits 46 [(0, .slice x_l_p0 x_l.length x_l_c0), (3, .slice p4 l6.length c5), (4, int i7), (12, .bool t9)] a ∧ Dk.Own w0 [] w [.row (.slice p4 l6.length c5) 57 2 l6.length (cells enc_api_Swap l6), .row (.slice none 0 0) 57 2 0 (cells enc_api_Swap []), .shr x_l_p0 (cells enc_api_Swap x_l)] ∧ law29_Few_j2 (law29_Few_L1 x_l n1) x_l l6 i7 t9 = some R) ?_ ?_
      · refine wp_region_list ?_
        refine op_val (ex_move hf rfl) rfl hf rfl rfl fun a hf => ?_
        refine op_val (ex_move hf rfl) rfl hf rfl rfl fun a hf => ?_
        refine op_val (ex_len_l Tryz.underlying22 hf rfl) rfl hf rfl rfl fun a hf => ?_
        refine op_val (ex_lss (m := i7) (n := (x_l.length : Int)) hf rfl rfl) rfl hf rfl rfl fun a hf => ?_
        refine op_val (ex_move hf rfl) rfl hf rfl rfl fun a hf => ?_
        rcases bcase (decide (i7 < (x_l.length : Int))) with hc8 | hc8
        · have hm := it hc8 hm
          refine op_guard rfl hf rfl rfl (hc8) ?_
          refine op_val (ex_move hf rfl) rfl hf rfl rfl fun a hf => ?_
          refine op_guard rfl hf rfl rfl (hc8) ?_
          refine op_val (ex_lss (m := i7) (n := 70) hf rfl rfl) rfl hf rfl rfl fun a hf => ?_
          refine op_val (ex_pick_t hf rfl hc8 rfl) rfl hf rfl rfl fun a hf => ?_
          refine wpList_nil ?_
          refine nor_then ?_
          exact ⟨decide (i7 < 70), (hf.cons rfl (hf.cons rfl (hf.cons rfl (hf.cons rfl hf.nil)))), hO, hm⟩
        · have hm := ie hc8 hm
          refine op_pass rfl hf rfl rfl (hc8) rfl rfl fun a hf => ?_
          refine op_pass rfl hf rfl rfl (hc8) rfl rfl fun a hf => ?_
          refine op_val (ex_pick_f hf rfl hc8 rfl) rfl hf rfl rfl fun a hf => ?_
          refine wpList_nil ?_
          refine nor_then ?_
          exact ⟨false, (hf.cons rfl (hf.cons rfl (hf.cons rfl (hf.cons rfl hf.nil)))), hO, hm⟩
      · rintro a w ⟨t9, hf, hO, hm⟩
        rw [law29_Few_j2] at hm
        refine wp_cond_cut hf rfl (fun hc10 => ?_) (fun hc10 => ?_)
        · have hm := it hc10 hm
          refine wp_skip ?_
          refine nor_then (hK11 _ _ ?_)
          refine wp_seq_k fun _ hK30 => ?_
          refine wp_block ?_
          obtain ⟨x12, hx12, hm⟩ := ob hm
          obtain ⟨b13, o14, hix12, hSx12⟩ := elemAt (enc := enc_api_Swap) (sz := 2) (xs := x_l) 22 Tryz.underlying22 sz_57 (by decide) (fun _ => rfl) (hO.sees (i := 2) rfl) hx12
          obtain ⟨x15, hx15, hm⟩ := ob hm
          obtain ⟨b16, o17, hix15, hSx15⟩ := elemAt (enc := enc_api_Swap) (sz := 2) (xs := x_l) 22 Tryz.underlying22 sz_57 (by decide) (fun _ => rfl) (hO.sees (i := 2) rfl) hx15
          obtain ⟨s18, hs18, hm⟩ := ob hm
          obtain ⟨x19, hx19, hm⟩ := ob hm
          obtain ⟨b20, o21, hix19, hSx19⟩ := elemAt (enc := enc_api_Swap) (sz := 2) (xs := x_l) 22 Tryz.underlying22 sz_57 (by decide) (fun _ => rfl) (hO.sees (i := 2) rfl) hx19
          obtain ⟨x22, hx22, hm⟩ := ob hm
          obtain ⟨b23, o24, hix22, hSx22⟩ := elemAt (enc := enc_api_Swap) (sz := 2) (xs := x_l) 22 Tryz.underlying22 sz_57 (by decide) (fun _ => rfl) (hO.sees (i := 2) rfl) hx22
          obtain ⟨s25, hs25, hm⟩ := ob hm
          obtain ⟨hg29, hm⟩ := og hm
          refine wp_drawS' (S := Nat × Option Addr × Nat) (E0 := [(0, .slice x_l_p0 x_l.length x_l_c0), (3, .slice p4 l6.length c5), (4, int i7)]) (by kernel_rfl) (fun k σ w => match k with | 0 => Dk.Own w0 [] w [.row (.slice p4 l6.length c5) 57 2 l6.length (cells enc_api_Swap l6), .row (.slice none 0 0) 57 2 0 (cells enc_api_Swap []), .shr x_l_p0 (cells enc_api_Swap x_l)] | 1 => Dk.Own w0 [] w [.row (.slice (some ⟨(σ.1), 0, none⟩) (([(⟨s18, s25⟩ : api_Swap)]).length) 1) 57 2 (([(⟨s18, s25⟩ : api_Swap)]).length) (cells enc_api_Swap ([(⟨s18, s25⟩ : api_Swap)])), .row (.slice p4 l6.length c5) 57 2 l6.length (cells enc_api_Swap l6), .row (.slice none 0 0) 57 2 0 (cells enc_api_Swap []), .shr x_l_p0 (cells enc_api_Swap x_l)] | _ => Dk.Own w0 [] w [.row (.slice (some ⟨(σ.1), 0, none⟩) (([(⟨s18, s25⟩ : api_Swap)]).length) 1) 57 2 (([(⟨s18, s25⟩ : api_Swap)]).length) (cells enc_api_Swap ([(⟨s18, s25⟩ : api_Swap)])), .row (.slice (σ.2.1) ((l6 ++ [(⟨s18, s25⟩ : api_Swap)]).length) (σ.2.2)) 57 2 ((l6 ++ [(⟨s18, s25⟩ : api_Swap)]).length) (cells enc_api_Swap (l6 ++ [(⟨s18, s25⟩ : api_Swap)])), .row (.slice none 0 0) 57 2 0 (cells enc_api_Swap []), .shr x_l_p0 (cells enc_api_Swap x_l)]) (fun σ => ⟨[(3, .slice p4 l6.length c5)], some (15, .slice p4 l6.length c5)⟩ :: ⟨[(0, .slice x_l_p0 x_l.length x_l_c0)], some (16, .slice x_l_p0 x_l.length x_l_c0)⟩ :: ⟨[(4, int i7)], some (17, int i7)⟩ :: ⟨[(16, .slice x_l_p0 x_l.length x_l_c0), (17, int i7)], some (18, ptr b13 o14)⟩ :: ⟨[(18, ptr b13 o14)], some (19, ptr b13 o14)⟩ :: ⟨[(19, ptr b13 o14)], some (20, str x12.From)⟩ :: ⟨[(0, .slice x_l_p0 x_l.length x_l_c0)], some (21, .slice x_l_p0 x_l.length x_l_c0)⟩ :: ⟨[(4, int i7)], some (22, int i7)⟩ :: ⟨[(21, .slice x_l_p0 x_l.length x_l_c0), (22, int i7)], some (23, ptr b16 o17)⟩ :: ⟨[(23, ptr b16 o17)], some (24, ptr b16 o17)⟩ :: ⟨[(24, ptr b16 o17)], some (25, str x15.From)⟩ :: ⟨[(25, str x15.From)], some (26, int (x15.From.length : Int))⟩ :: ⟨[(26, int (x15.From.length : Int))], some (27, int (min (x15.From.length : Int) 60))⟩ :: ⟨[(20, str x12.From), (27, int (min (x15.From.length : Int) 60))], some (28, str s18)⟩ :: ⟨[(0, .slice x_l_p0 x_l.length x_l_c0)], some (29, .slice x_l_p0 x_l.length x_l_c0)⟩ :: ⟨[(4, int i7)], some (30, int i7)⟩ :: ⟨[(29, .slice x_l_p0 x_l.length x_l_c0), (30, int i7)], some (31, ptr b20 o21)⟩ :: ⟨[(31, ptr b20 o21)], some (32, ptr b20 (o21 + 1))⟩ :: ⟨[(32, ptr b20 (o21 + 1))], some (33, str x19.To)⟩ :: ⟨[(0, .slice x_l_p0 x_l.length x_l_c0)], some (34, .slice x_l_p0 x_l.length x_l_c0)⟩ :: ⟨[(4, int i7)], some (35, int i7)⟩ :: ⟨[(34, .slice x_l_p0 x_l.length x_l_c0), (35, int i7)], some (36, ptr b23 o24)⟩ :: ⟨[(36, ptr b23 o24)], some (37, ptr b23 (o24 + 1))⟩ :: ⟨[(37, ptr b23 (o24 + 1))], some (38, str x22.To)⟩ :: ⟨[(38, str x22.To)], some (39, int (x22.To.length : Int))⟩ :: ⟨[(39, int (x22.To.length : Int))], some (40, int (min (x22.To.length : Int) 60))⟩ :: ⟨[(33, str x19.To), (40, int (min (x22.To.length : Int) 60))], some (41, str s25)⟩ :: ⟨[(28, str s18), (41, str s25)], some (42, .agg #[str s18, str s25])⟩ :: ⟨[(42, .agg #[str s18, str s25])], some (43, .slice (some ⟨(σ.1), 0, none⟩) (([(⟨s18, s25⟩ : api_Swap)]).length) 1)⟩ :: ⟨[(15, .slice p4 l6.length c5), (43, .slice (some ⟨(σ.1), 0, none⟩) (([(⟨s18, s25⟩ : api_Swap)]).length) 1)], some (44, .slice (σ.2.1) ((l6 ++ [(⟨s18, s25⟩ : api_Swap)]).length) (σ.2.2))⟩ :: ⟨[(44, .slice (σ.2.1) ((l6 ++ [(⟨s18, s25⟩ : api_Swap)]).length) (σ.2.2))], some (3, .slice (σ.2.1) ((l6 ++ [(⟨s18, s25⟩ : api_Swap)]).length) (σ.2.2))⟩ :: []) (0, none, 0) [28, 29] rfl (fun _ => rfl) (fun _ => rfl) (fun _ => rfl) rfl rfl (by decide) rfl hO.drew (hf.cons rfl (hf.cons rfl (hf.cons rfl hf.nil))) (fun σ => ⟨⟨rfl, trivial⟩, ⟨⟨rfl, trivial⟩, ⟨⟨rfl, trivial⟩, ⟨⟨rfl, ⟨rfl, trivial⟩⟩, ⟨⟨rfl, trivial⟩, ⟨⟨rfl, trivial⟩, ⟨⟨rfl, trivial⟩, ⟨⟨rfl, trivial⟩, ⟨⟨rfl, ⟨rfl, trivial⟩⟩, ⟨⟨rfl, trivial⟩, ⟨⟨rfl, trivial⟩, ⟨⟨rfl, trivial⟩, ⟨⟨rfl, trivial⟩, ⟨⟨rfl, ⟨rfl, trivial⟩⟩, ⟨⟨rfl, trivial⟩, ⟨⟨rfl, trivial⟩, ⟨⟨rfl, ⟨rfl, trivial⟩⟩, ⟨⟨rfl, trivial⟩, ⟨⟨rfl, trivial⟩, ⟨⟨rfl, trivial⟩, ⟨⟨rfl, trivial⟩, ⟨⟨rfl, ⟨rfl, trivial⟩⟩, ⟨⟨rfl, trivial⟩, ⟨⟨rfl, trivial⟩, ⟨⟨rfl, trivial⟩, ⟨⟨rfl, trivial⟩, ⟨⟨rfl, ⟨rfl, trivial⟩⟩, ⟨⟨rfl, ⟨rfl, trivial⟩⟩, ⟨⟨rfl, trivial⟩, ⟨⟨rfl, ⟨rfl, trivial⟩⟩, ⟨⟨rfl, trivial⟩, trivial⟩⟩⟩⟩⟩⟩⟩⟩⟩⟩⟩⟩⟩⟩⟩⟩⟩⟩⟩⟩⟩⟩⟩⟩⟩⟩⟩⟩⟩⟩⟩) ⟨sS_pure rfl (fun σ => rfl) (fun σ => rfl) (fun σ a w k _ _ _ _ hf => ex_move hf rfl), ⟨sS_pure rfl (fun σ => rfl) (fun σ => rfl) (fun σ a w k _ _ _ _ hf => ex_move hf rfl), ⟨sS_pure rfl (fun σ => rfl) (fun σ => rfl) (fun σ a w k _ _ _ _ hf => ex_move hf rfl), ⟨sS_pure rfl (fun σ => rfl) (fun σ => rfl) (fun σ a w k _ _ _ _ hf => ex_indexAddr hix12 hf rfl rfl), ⟨sS_pure rfl (fun σ => rfl) (fun σ => rfl) (fun σ a w k _ _ _ _ hf => ex_field fa_57_0 hf rfl), ⟨sS_pure rfl (fun σ => rfl) (fun σ => rfl) (fun σ a w k hk hlo hup hst hf => match k, hk, hlo, hup, hst, hf with | 0, _, _, _, hst, hf => have hO : Dk.Own w0 [] w [.row (.slice p4 l6.length c5) 57 2 l6.length (cells enc_api_Swap l6), .row (.slice none 0 0) 57 2 0 (cells enc_api_Swap []), .shr x_l_p0 (cells enc_api_Swap x_l)] := hst; ex_load1 (o := 0) ag_9 (hSx12 _ (hO.sees (i := 2) rfl)) rfl hf rfl | 1, _, _, _, hst, hf => have hO : Dk.Own w0 [] w [.row (.slice (some ⟨(σ.1), 0, none⟩) (([(⟨s18, s25⟩ : api_Swap)]).length) 1) 57 2 (([(⟨s18, s25⟩ : api_Swap)]).length) (cells enc_api_Swap ([(⟨s18, s25⟩ : api_Swap)])), .row (.slice p4 l6.length c5) 57 2 l6.length (cells enc_api_Swap l6), .row (.slice none 0 0) 57 2 0 (cells enc_api_Swap []), .shr x_l_p0 (cells enc_api_Swap x_l)] := hst; ex_load1 (o := 0) ag_9 (hSx12 _ (hO.sees (i := 3) rfl)) rfl hf rfl | 2, _, _, _, hst, hf => have hO : Dk.Own w0 [] w [.row (.slice (some ⟨(σ.1), 0, none⟩) (([(⟨s18, s25⟩ : api_Swap)]).length) 1) 57 2 (([(⟨s18, s25⟩ : api_Swap)]).length) (cells enc_api_Swap ([(⟨s18, s25⟩ : api_Swap)])), .row (.slice (σ.2.1) ((l6 ++ [(⟨s18, s25⟩ : api_Swap)]).length) (σ.2.2)) 57 2 ((l6 ++ [(⟨s18, s25⟩ : api_Swap)]).length) (cells enc_api_Swap (l6 ++ [(⟨s18, s25⟩ : api_Swap)])), .row (.slice none 0 0) 57 2 0 (cells enc_api_Swap []), .shr x_l_p0 (cells enc_api_Swap x_l)] := hst; ex_load1 (o := 0) ag_9 (hSx12 _ (hO.sees (i := 3) rfl)) rfl hf rfl | k + 3, hk, _, _, _, _ => absurd hk (by simp)), ⟨sS_pure rfl (fun σ => rfl) (fun σ => rfl) (fun σ a w k _ _ _ _ hf => ex_move hf rfl), ⟨sS_pure rfl (fun σ => rfl) (fun σ => rfl) (fun σ a w k _ _ _ _ hf => ex_move hf rfl), ⟨sS_pure rfl (fun σ => rfl) (fun σ => rfl) (fun σ a w k _ _ _ _ hf => ex_indexAddr hix15 hf rfl rfl), ⟨sS_pure rfl (fun σ => rfl) (fun σ => rfl) (fun σ a w k _ _ _ _ hf => ex_field fa_57_0 hf rfl), ⟨sS_pure rfl (fun σ => rfl) (fun σ => rfl) (fun σ a w k hk hlo hup hst hf => match k, hk, hlo, hup, hst, hf with | 0, _, _, _, hst, hf => have hO : Dk.Own w0 [] w [.row (.slice p4 l6.length c5) 57 2 l6.length (cells enc_api_Swap l6), .row (.slice none 0 0) 57 2 0 (cells enc_api_Swap []), .shr x_l_p0 (cells enc_api_Swap x_l)] := hst; ex_load1 (o := 0) ag_9 (hSx15 _ (hO.sees (i := 2) rfl)) rfl hf rfl | 1, _, _, _, hst, hf => have hO : Dk.Own w0 [] w [.row (.slice (some ⟨(σ.1), 0, none⟩) (([(⟨s18, s25⟩ : api_Swap)]).length) 1) 57 2 (([(⟨s18, s25⟩ : api_Swap)]).length) (cells enc_api_Swap ([(⟨s18, s25⟩ : api_Swap)])), .row (.slice p4 l6.length c5) 57 2 l6.length (cells enc_api_Swap l6), .row (.slice none 0 0) 57 2 0 (cells enc_api_Swap []), .shr x_l_p0 (cells enc_api_Swap x_l)] := hst; ex_load1 (o := 0) ag_9 (hSx15 _ (hO.sees (i := 3) rfl)) rfl hf rfl | 2, _, _, _, hst, hf => have hO : Dk.Own w0 [] w [.row (.slice (some ⟨(σ.1), 0, none⟩) (([(⟨s18, s25⟩ : api_Swap)]).length) 1) 57 2 (([(⟨s18, s25⟩ : api_Swap)]).length) (cells enc_api_Swap ([(⟨s18, s25⟩ : api_Swap)])), .row (.slice (σ.2.1) ((l6 ++ [(⟨s18, s25⟩ : api_Swap)]).length) (σ.2.2)) 57 2 ((l6 ++ [(⟨s18, s25⟩ : api_Swap)]).length) (cells enc_api_Swap (l6 ++ [(⟨s18, s25⟩ : api_Swap)])), .row (.slice none 0 0) 57 2 0 (cells enc_api_Swap []), .shr x_l_p0 (cells enc_api_Swap x_l)] := hst; ex_load1 (o := 0) ag_9 (hSx15 _ (hO.sees (i := 3) rfl)) rfl hf rfl | k + 3, hk, _, _, _, _ => absurd hk (by simp)), ⟨sS_pure rfl (fun σ => rfl) (fun σ => rfl) (fun σ a w k _ _ _ _ hf => ex_len_s (l := x15.From) Tryz.underlying9 hf rfl), ⟨sS_pure rfl (fun σ => rfl) (fun σ => rfl) (fun σ a w k _ _ _ _ hf => ex_min (m := (x15.From.length : Int)) (n := 60) hf rfl rfl), ⟨sS_pure rfl (fun σ => rfl) (fun σ => rfl) (fun σ a w k _ _ _ _ hf => ex_to_s (l := x12.From) Tryz.underlying9 hf rfl rfl hs18), ⟨sS_pure rfl (fun σ => rfl) (fun σ => rfl) (fun σ a w k _ _ _ _ hf => ex_move hf rfl), ⟨sS_pure rfl (fun σ => rfl) (fun σ => rfl) (fun σ a w k _ _ _ _ hf => ex_move hf rfl), ⟨sS_pure rfl (fun σ => rfl) (fun σ => rfl) (fun σ a w k _ _ _ _ hf => ex_indexAddr hix19 hf rfl rfl), ⟨sS_pure rfl (fun σ => rfl) (fun σ => rfl) (fun σ a w k _ _ _ _ hf => ex_field fa_57_1 hf rfl), ⟨sS_pure rfl (fun σ => rfl) (fun σ => rfl) (fun σ a w k hk hlo hup hst hf => match k, hk, hlo, hup, hst, hf with | 0, _, _, _, hst, hf => have hO : Dk.Own w0 [] w [.row (.slice p4 l6.length c5) 57 2 l6.length (cells enc_api_Swap l6), .row (.slice none 0 0) 57 2 0 (cells enc_api_Swap []), .shr x_l_p0 (cells enc_api_Swap x_l)] := hst; ex_load1 (o := 1) ag_9 (hSx19 _ (hO.sees (i := 2) rfl)) rfl hf rfl | 1, _, _, _, hst, hf => have hO : Dk.Own w0 [] w [.row (.slice (some ⟨(σ.1), 0, none⟩) (([(⟨s18, s25⟩ : api_Swap)]).length) 1) 57 2 (([(⟨s18, s25⟩ : api_Swap)]).length) (cells enc_api_Swap ([(⟨s18, s25⟩ : api_Swap)])), .row (.slice p4 l6.length c5) 57 2 l6.length (cells enc_api_Swap l6), .row (.slice none 0 0) 57 2 0 (cells enc_api_Swap []), .shr x_l_p0 (cells enc_api_Swap x_l)] := hst; ex_load1 (o := 1) ag_9 (hSx19 _ (hO.sees (i := 3) rfl)) rfl hf rfl | 2, _, _, _, hst, hf => have hO : Dk.Own w0 [] w [.row (.slice (some ⟨(σ.1), 0, none⟩) (([(⟨s18, s25⟩ : api_Swap)]).length) 1) 57 2 (([(⟨s18, s25⟩ : api_Swap)]).length) (cells enc_api_Swap ([(⟨s18, s25⟩ : api_Swap)])), .row (.slice (σ.2.1) ((l6 ++ [(⟨s18, s25⟩ : api_Swap)]).length) (σ.2.2)) 57 2 ((l6 ++ [(⟨s18, s25⟩ : api_Swap)]).length) (cells enc_api_Swap (l6 ++ [(⟨s18, s25⟩ : api_Swap)])), .row (.slice none 0 0) 57 2 0 (cells enc_api_Swap []), .shr x_l_p0 (cells enc_api_Swap x_l)] := hst; ex_load1 (o := 1) ag_9 (hSx19 _ (hO.sees (i := 3) rfl)) rfl hf rfl | k + 3, hk, _, _, _, _ => absurd hk (by simp)), ⟨sS_pure rfl (fun σ => rfl) (fun σ => rfl) (fun σ a w k _ _ _ _ hf => ex_move hf rfl), ⟨sS_pure rfl (fun σ => rfl) (fun σ => rfl) (fun σ a w k _ _ _ _ hf => ex_move hf rfl), ⟨sS_pure rfl (fun σ => rfl) (fun σ => rfl) (fun σ a w k _ _ _ _ hf => ex_indexAddr hix22 hf rfl rfl), ⟨sS_pure rfl (fun σ => rfl) (fun σ => rfl) (fun σ a w k _ _ _ _ hf => ex_field fa_57_1 hf rfl), ⟨sS_pure rfl (fun σ => rfl) (fun σ => rfl) (fun σ a w k hk hlo hup hst hf => match k, hk, hlo, hup, hst, hf with | 0, _, _, _, hst, hf => have hO : Dk.Own w0 [] w [.row (.slice p4 l6.length c5) 57 2 l6.length (cells enc_api_Swap l6), .row (.slice none 0 0) 57 2 0 (cells enc_api_Swap []), .shr x_l_p0 (cells enc_api_Swap x_l)] := hst; ex_load1 (o := 1) ag_9 (hSx22 _ (hO.sees (i := 2) rfl)) rfl hf rfl | 1, _, _, _, hst, hf => have hO : Dk.Own w0 [] w [.row (.slice (some ⟨(σ.1), 0, none⟩) (([(⟨s18, s25⟩ : api_Swap)]).length) 1) 57 2 (([(⟨s18, s25⟩ : api_Swap)]).length) (cells enc_api_Swap ([(⟨s18, s25⟩ : api_Swap)])), .row (.slice p4 l6.length c5) 57 2 l6.length (cells enc_api_Swap l6), .row (.slice none 0 0) 57 2 0 (cells enc_api_Swap []), .shr x_l_p0 (cells enc_api_Swap x_l)] := hst; ex_load1 (o := 1) ag_9 (hSx22 _ (hO.sees (i := 3) rfl)) rfl hf rfl | 2, _, _, _, hst, hf => have hO : Dk.Own w0 [] w [.row (.slice (some ⟨(σ.1), 0, none⟩) (([(⟨s18, s25⟩ : api_Swap)]).length) 1) 57 2 (([(⟨s18, s25⟩ : api_Swap)]).length) (cells enc_api_Swap ([(⟨s18, s25⟩ : api_Swap)])), .row (.slice (σ.2.1) ((l6 ++ [(⟨s18, s25⟩ : api_Swap)]).length) (σ.2.2)) 57 2 ((l6 ++ [(⟨s18, s25⟩ : api_Swap)]).length) (cells enc_api_Swap (l6 ++ [(⟨s18, s25⟩ : api_Swap)])), .row (.slice none 0 0) 57 2 0 (cells enc_api_Swap []), .shr x_l_p0 (cells enc_api_Swap x_l)] := hst; ex_load1 (o := 1) ag_9 (hSx22 _ (hO.sees (i := 3) rfl)) rfl hf rfl | k + 3, hk, _, _, _, _ => absurd hk (by simp)), ⟨sS_pure rfl (fun σ => rfl) (fun σ => rfl) (fun σ a w k _ _ _ _ hf => ex_len_s (l := x22.To) Tryz.underlying9 hf rfl), ⟨sS_pure rfl (fun σ => rfl) (fun σ => rfl) (fun σ a w k _ _ _ _ hf => ex_min (m := (x22.To.length : Int)) (n := 60) hf rfl rfl), ⟨sS_pure rfl (fun σ => rfl) (fun σ => rfl) (fun σ a w k _ _ _ _ hf => ex_to_s (l := x19.To) Tryz.underlying9 hf rfl rfl hs25), ⟨sS_pure rfl (fun σ => rfl) (fun σ => rfl) (fun σ a w k _ _ _ _ hf => ex_build (vs := [(0, str s18), (1, str s25)]) (v := .agg #[str s18, str s25]) hf rfl (by kernel_rfl)), ⟨sS_val rfl (fun σ => rfl) (fun σ => rfl) rfl (fun σ w (hO : Dk.Own w0 [] w [.row (.slice p4 l6.length c5) 57 2 l6.length (cells enc_api_Swap l6), .row (.slice none 0 0) 57 2 0 (cells enc_api_Swap []), .shr x_l_p0 (cells enc_api_Swap x_l)]) => by obtain ⟨b26, w', hO', hr⟩ := ef_buildSlice (E := [(42, .agg #[str s18, str s25])]) (parts := #[(0, (.tmp 42))]) (t' := 22) (n := 1) (vs := [(0, .agg #[str s18, str s25])]) (cs := [str s18, str s25]) (e := 57) (sz := 2) (fun w => by kernel_rfl) rfl rfl hO rfl; exact ⟨(b26, (σ.2.1), (σ.2.2)), w', hO', ⟨.inr rfl, ⟨.inr rfl, ⟨.inr rfl, ⟨.inr rfl, ⟨.inr rfl, ⟨.inr rfl, ⟨.inr rfl, ⟨.inr rfl, ⟨.inr rfl, ⟨.inr rfl, ⟨.inr rfl, ⟨.inr rfl, ⟨.inr rfl, ⟨.inr rfl, ⟨.inr rfl, ⟨.inr rfl, ⟨.inr rfl, ⟨.inr rfl, ⟨.inr rfl, ⟨.inr rfl, ⟨.inr rfl, ⟨.inr rfl, ⟨.inr rfl, ⟨.inr rfl, ⟨.inr rfl, ⟨.inr rfl, ⟨.inr rfl, ⟨.inr rfl, ⟨.inl rfl, ⟨.inl rfl, ⟨.inr rfl, trivial⟩⟩⟩⟩⟩⟩⟩⟩⟩⟩⟩⟩⟩⟩⟩⟩⟩⟩⟩⟩⟩⟩⟩⟩⟩⟩⟩⟩⟩⟩⟩, hr⟩), ⟨sS_val rfl (fun σ => rfl) (fun σ => rfl) rfl (fun σ w (hO : Dk.Own w0 [] w [.row (.slice (some ⟨(σ.1), 0, none⟩) (([(⟨s18, s25⟩ : api_Swap)]).length) 1) 57 2 (([(⟨s18, s25⟩ : api_Swap)]).length) (cells enc_api_Swap ([(⟨s18, s25⟩ : api_Swap)])), .row (.slice p4 l6.length c5) 57 2 l6.length (cells enc_api_Swap l6), .row (.slice none 0 0) 57 2 0 (cells enc_api_Swap []), .shr x_l_p0 (cells enc_api_Swap x_l)]) => by obtain ⟨p27, c28, w', hO', hr⟩ := ef_append (E := [(15, .slice p4 l6.length c5), (43, .slice (some ⟨(σ.1), 0, none⟩) (([(⟨s18, s25⟩ : api_Swap)]).length) 1)]) (x := (.tmp 15)) (y := (.tmp 43)) el_22 (enc := enc_api_Swap) (xs := l6) (ys := [(⟨s18, s25⟩ : api_Swap)]) (i := 1) (fun _ => rfl) rfl (hO.rowSees (i := 0) rfl) (by simp [cells, enc_api_Swap, Value.oneCell']) hg29 hO rfl rfl; exact ⟨((σ.1), p27, c28), w', hO', ⟨.inr rfl, ⟨.inr rfl, ⟨.inr rfl, ⟨.inr rfl, ⟨.inr rfl, ⟨.inr rfl, ⟨.inr rfl, ⟨.inr rfl, ⟨.inr rfl, ⟨.inr rfl, ⟨.inr rfl, ⟨.inr rfl, ⟨.inr rfl, ⟨.inr rfl, ⟨.inr rfl, ⟨.inr rfl, ⟨.inr rfl, ⟨.inr rfl, ⟨.inr rfl, ⟨.inr rfl, ⟨.inr rfl, ⟨.inr rfl, ⟨.inr rfl, ⟨.inr rfl, ⟨.inr rfl, ⟨.inr rfl, ⟨.inr rfl, ⟨.inr rfl, ⟨.inr rfl, ⟨.inl rfl, ⟨.inl rfl, trivial⟩⟩⟩⟩⟩⟩⟩⟩⟩⟩⟩⟩⟩⟩⟩⟩⟩⟩⟩⟩⟩⟩⟩⟩⟩⟩⟩⟩⟩⟩⟩, hr⟩), ⟨sS_pure rfl (fun σ => rfl) (fun σ => rfl) (fun σ a w k _ _ _ _ hf => ex_assign hf rfl), trivial⟩⟩⟩⟩⟩⟩⟩⟩⟩⟩⟩⟩⟩⟩⟩⟩⟩⟩⟩⟩⟩⟩⟩⟩⟩⟩⟩⟩⟩⟩⟩ ?_
          rintro ⟨b26, p27, c28⟩ a w hf hO
          have hO : Dk.Own w0 [] w [.row (.slice (some ⟨b26, 0, none⟩) (([(⟨s18, s25⟩ : api_Swap)]).length) 1) 57 2 (([(⟨s18, s25⟩ : api_Swap)]).length) (cells enc_api_Swap ([(⟨s18, s25⟩ : api_Swap)])), .row (.slice p27 ((l6 ++ [(⟨s18, s25⟩ : api_Swap)]).length) c28) 57 2 ((l6 ++ [(⟨s18, s25⟩ : api_Swap)]).length) (cells enc_api_Swap (l6 ++ [(⟨s18, s25⟩ : api_Swap)])), .row (.slice none 0 0) 57 2 0 (cells enc_api_Swap []), .shr x_l_p0 (cells enc_api_Swap x_l)] := hO
          have hf : Fits 46 [(0, .slice x_l_p0 x_l.length x_l_c0), (3, .slice p27 ((l6 ++ [(⟨s18, s25⟩ : api_Swap)]).length) c28), (4, int i7)] a := (hf.cons rfl (hf.cons rfl (hf.cons rfl hf.nil)))
          refine nor_block ?_
          refine nor_then (hK30 _ _ ?_)
          refine wp_region_list ?_
          refine op_val (ex_move hf rfl) rfl hf rfl rfl fun a hf => ?_
          obtain ⟨i31, hi31, hm⟩ := ob hm
          refine op_val (ex_add hf rfl rfl hi31) rfl hf rfl rfl fun a hf => ?_
          refine op_val (ex_assign hf rfl) rfl hf rfl rfl fun a hf => ?_
          refine wpList_nil ?_
          refine nor_then ?_
          exact ⟨_, Nat.lt_succ_self _, p27, c28, l6 ++ [(⟨s18, s25⟩ : api_Swap)], i31, (hf.cons rfl (hf.cons rfl (hf.cons rfl hf.nil))), (hO.sub (.cons _ (.cons_cons _ (.cons_cons _ (.cons_cons _ .slnil))))), hm⟩
        · have hm := ie hc10 hm
          refine wp_exit ?_
          refine exit_then ?_
          refine exit_then ?_
          refine exit_here ?_
          refine nor_then (hK32 _ _ ?_)
          refine wp_seq_k fun _ hK33 => ?_
          refine wp_region_list ?_
          refine op_val (ex_move hf rfl) rfl hf rfl rfl fun a hf => ?_
          refine op_val (ex_assign hf rfl) rfl hf rfl rfl fun a hf => ?_
          refine wpList_nil ?_
          refine nor_then (hK33 _ _ ?_)
          refine wp_ret ?_
          obtain rfl := Option.some.inj hm
          exact post_ret Tryz.results8 hf (.tmp rfl .nil) ⟨p4, c5, rfl, (hO.sub (.cons_cons _ (.cons _ (.cons _ .slnil))))⟩
  · exact ⟨none, 0, [], 0, (hf.cons rfl (hf.cons rfl (hf.cons rfl hf.nil))), hO, hm⟩

end Go.Proofs
