/-
  Walks, written by a program (wip/gen): what its model says, the function returns; what was there before is as it was.
-/
import Derived.Test.YtplennfgaknlkaaGreatDoorYRw
import Derived.Test.YtplennfgaknlkaaGreatDoorSq
set_option linter.unusedVariables false
set_option maxHeartbeats 1000000
set_option linter.unusedSimpArgs false
set_option maxRecDepth 100000
namespace Go.Proofs
open Go.Dk Go.Dm Go.RowKit

theorem w_octet_Lower (x_b : UInt8) (R : UInt8) (w0 : World) (hG : Glob w0) (hm : octet_Lower x_b = some R) :
    Calls Tryz.prog 239 #[byte x_b] w0 (Ret w0 (fun R => byte R) R) := by
 rw [octet_Lower] at hm
 refine S.ent0 tb Tryz.func239 rfl Tryz.ntmps239 rfl hm ?_
 refine jv 1 [0] [] (fun J E L => ∃ t3, J ((8, .bool t3) :: E) (L) (octet_Lower_j1 x_b t3)) rfl ?_ ?_
 refine vl rfl rfl (fun a w hf hO => ex_geq_b (b := x_b) (c := 65) hf rfl rfl) <| br0 rfl ?_ ?_
 exact vl rfl rfl (fun a w hf hO => ex_leq_b (b := x_b) (c := 90) hf rfl rfl) <| en0 rfl
 exact en0 rfl
 refine oJ1 tb fun t3 => ?_
 rw [octet_Lower_j1]
 refine br0 rfl ?_ ?_
 exact vl rfl rfl (fun a w hf hO => ex_add_b (b := x_b) (c := 32) hf rfl rfl) <| rt Tryz.results239 rfl
 exact rt Tryz.results239 rfl

set_option maxHeartbeats 4000000 in
set_option maxRecDepth 100000 in
theorem fold_walk (s : ByteArray) (R : Str) (w0 : World) (hG : Glob w0) (hsz : s.size < 4294967281) (hm : s.data.toList.mapM octet_Lower = some R)
    (hlow : ∀ b c w, octet_Lower b = some c → Glob w → Calls Tryz.prog 239 #[.int .u8 (b.toNat : Int)] w fun e w' => e = .returned (.int .u8 (c.toNat : Int)) ∧ Below w.heap.size w w') :
    Calls Tryz.prog 194 #[.string s] w0 fun e w' => e = .returned (.string ⟨R.toArray⟩) ∧ Below w0.heap.size w0 w' := by
  obtain ⟨hlen, hat⟩ := mapM_at hm
  have HL : Aside (R.length = s.size) := hlen.trans (Lib.size_eq s).symm
  have HT : Aside (∀ (i : Nat) (a : UInt8), s.data.toList[i]? = some a → ∃ b, R[i]? = some b ∧ octet_Lower a = some b) := hat
  clear hlen hat hm
  have hcv := fun w => run_bytes_of_string (P := Tryz.prog) w 9 91 5 s Tryz.underlying9 Tryz.underlying91 Tryz.underlying5
  go_enter Tryz.func194, Tryz.ntmps194
  go_wp2
  go_loopg [4, 5, 10] s.size (fun g _ _ v wx => ∃ i : Nat, i + g = s.size ∧ v = .int .i64 (i : Int) ∧ Below w0.heap.size w0 wx ∧ ∃ (cur : Array Value) (fz : Nat × Nat), wx.heap[w0.heap.size]? = some (.cells cur 5 fz) ∧ cur.size ≤ fz.1 ∧ s.size ≤ cur.size ∧ ∀ j, j < s.size → cur[j]? = ((if j < i then R[j]? else s.data.toList[j]?).map byte))
  case atStart =>
    have hrow : (bytesRow s (grownCap w0 s.size 0 5)).size = s.size + (grownCap w0 s.size 0 5 - s.size) := by
      have := Lib.size_eq s
      unfold bytesRow
      rw [Array.size_append, Array.size_map, Array.size_replicate]
      rfl
    refine ⟨0, by omega, rfl, ((Below.refl _ _).alloc (Nat.le_refl _) _).drew, _, _, heap_new _, Nat.le_refl _, ?_, fun j hj => ?_⟩
    · omega
    · rw [if_neg (by omega)]
      unfold bytesRow
      rw [Array.getElem?_append_left (by simp [← Lib.size_eq]; exact hj), Array.getElem?_map]
      congr 1
      exact (Array.getElem?_toList ..).symm
  case round =>
    obtain ⟨i, hig, rfl, hB, cur, fz, hcur, hfz, hsc, hcell⟩ := hrel
    have HG : Aside (Glob wr) := hG.own away_nil ((Dk.Own.refl w0).grow hB)
    have HB : Aside (Below w0.heap.size w0 wr) := hB
    have HC : Aside (wr.heap[w0.heap.size]? = some (.cells cur 5 fz)) := hcur
    have HF : Aside (cur.size ≤ fz.1 ∧ s.size ≤ cur.size) := ⟨hfz, hsc⟩
    have HX : Aside (∀ j, j < s.size → cur[j]? = ((if j < i then R[j]? else s.data.toList[j]?).map byte)) := hcell
    clear hB hcell hfz hsc hcur
    by_cases hi : i < s.size
    · obtain ⟨x, hx⟩ : ∃ x, s.data.toList[i]? = some x := ⟨_, Lib.data_getElem? s i hi⟩
      obtain ⟨y, hyR, hy⟩ := HT.out i x hx
      have hcx : wr.cell? ⟨w0.heap.size, i, none⟩ = some (.int .u8 (x.toNat : Int)) := by
        have := HX.out i hi
        rw [if_neg (by omega), hx] at this
        simp [World.cell?, HC.out, this]
      have hfr : wr.frozen? ⟨w0.heap.size, i, none⟩ = false := by
        have := HF.out
        simp [World.frozen?, HC.out]; omega
      have hii : (i : Int) < (s.size : Int) := by omega
      have HY : Aside (R[i]? = some y) := hyR
      have HO : Aside (octet_Lower x = some y) := hy
      clear hyR hy hx
      go_wp2_with (go_at_call 239; refine (hlow x y _ HO.out HG.out).mono ?_; rintro e w' ⟨rfl, hb⟩; have hcx' : w'.cell? ⟨w0.heap.size, i, none⟩ = some (.int .u8 (x.toNat : Int)) := (hb.cell (p := ⟨w0.heap.size, i, none⟩) (Array.getElem?_eq_some_iff.1 HC.out).1).trans hcx; have hfr' : w'.frozen? ⟨w0.heap.size, i, none⟩ = false := (hb.frozen (p := ⟨w0.heap.size, i, none⟩) (Array.getElem?_eq_some_iff.1 HC.out).1).trans hfr)
      go_roundg (gk - 1)
      case measure => omega
      case rel =>
        have hlt := (Array.getElem?_eq_some_iff.1 HC.out).1
        have hcw : w'.heap[w0.heap.size]? = some (.cells cur 5 fz) := (hb.block _ hlt).trans HC.out
        refine ⟨i + 1, by omega, rfl, ?_, cur.setIfInBounds i (.int .u8 (y.toNat : Int)), fz, ?_, ?_, ?_, fun j hj => ?_⟩
        · exact (HB.out.trans (hb.mono HB.out.size)).setCell (p := ⟨w0.heap.size, i, none⟩) (Nat.le_refl _) _
        · simp [World.setCell, Array.getElem?_modify, hcw]
        · have := HF.out; simp; omega
        · have := HF.out; simp; omega
        · by_cases hji : j = i
          · subst hji
            have := HF.out
            rw [if_pos (by omega), HY.out, Array.getElem?_setIfInBounds_self_of_lt (by omega)]
            rfl
          · rw [Array.getElem?_setIfInBounds_ne (Ne.symm hji), HX.out j hj]
            by_cases h2 : j < i
            · rw [if_pos h2, if_pos (by omega)]
            · rw [if_neg h2, if_neg (by omega)]
    · have hsi : i = s.size := by omega
      have hbk : ∀ w, wr.heap = w.heap → (convert 91 9 (.slice (some ⟨w0.heap.size, 0, none⟩) s.size (grownCap w0 s.size 0 5))).run Tryz.prog w = .ok (.string ⟨R.toArray⟩) w := by
        intro w hw
        have := run_convert_bytes_back (P := Tryz.prog) w 91 9 5 ⟨w0.heap.size, 0, none⟩ (grownCap w0 s.size 0 5) R Tryz.underlying91 Tryz.underlying5 Tryz.underlying9 (fun j hj => by
          have hjs : j < s.size := by rw [← HL.out]; exact hj
          have h1 := HX.out j hjs
          rw [if_pos (by omega), List.getElem?_eq_getElem hj] at h1
          rw [add_none0]
          simp [World.cell?, ← hw, HC.out, h1])
        rw [HL.out] at this
        exact this
      have hni : ¬ ((i : Int) < (s.size : Int)) := by omega
      have hbk1 := hbk wr rfl
      go_wp2
      go_ret
      exact ⟨rfl, HB.out⟩

theorem w_octet_Fold (x_s : Str) (R : Str) (w0 : World) (hG : Glob w0) (hm : octet_Fold x_s = some R) :
    Calls Tryz.prog 194 #[str x_s] w0 fun e w' => e = .returned (str R) ∧ Below w0.heap.size w0 w' := by
  unfold octet_Fold at hm
  split at hm
  · rename_i h
    exact fold_walk ⟨x_s.toArray⟩ R w0 hG h hm fun b c w hbc hGw => w_octet_Lower b c w hGw hbc
  · cases hm

theorem w_octet_All (x_is : UInt8 → Option Bool) (x_l : List Str) (R : Bool) (w0 : World) (hG : Glob w0) {x_is_f : Nat} {x_is_p x_is_c : Array Value} (x_is_k : Callable Tryz.prog x_is_f) (x_is_h : ∀ (y0 : UInt8) (r : Bool) (w : World), Glob w → x_is y0 = some r → Calls Tryz.prog x_is_f (x_is_p ++ [byte y0].toArray ++ x_is_c) w fun e w' => e = .returned (.bool r) ∧ Below w.heap.size w w') {x_l_p0 : Option Addr} {x_l_c0 : Nat} (hs0 : Sees w0 x_l_p0 (cells enc_str x_l)) (hc0 : x_l.length ≤ x_l_c0) (hm : octet_All x_is x_l = some R) :
    Calls Tryz.prog 181 #[.func (.func x_is_f) x_is_p x_is_c, .slice x_l_p0 x_l.length x_l_c0] w0 (Ret w0 (fun R => .bool R) R) := by
 rw [octet_All] at hm
 have hO : Dk.Own w0 [] w0 [] := Dk.Own.refl w0
 have hO := hO.addS hs0
 refine S.enter tb Tryz.func181 rfl Tryz.ntmps181 rfl ?_ hO hm
 refine lw [0, 8, 9] [0] (fun J E L k => ∃ i3, J ((10, int i3) :: E) (L) (octet_All_L1 x_is x_l k i3)) rfl ?_
 refine lJ1 tb fun n1 i3 => ?_
 rw [octet_All_L1]
 refine br0 rfl ?_ ?_
 refine rw_ rfl fun a w hf hO hm => ?_
 obtain ⟨x7, hx7, hm⟩ := ob hm
 obtain ⟨b8, o9, hix7, hSx7⟩ := elemAt (enc := enc_str) (sz := 1) (xs := x_l) 163 Tryz.underlying163 sz_9 (by decide) (fun _ => rfl) (hO.sees (i := 0) rfl) hx7
 refine op_val (ex_indexAddr hix7 hf rfl rfl) rfl hf rfl rfl fun a hf => ?_
 refine S.op tb ?_ hf hO hm
 refine vl rfl rfl (fun a w hf hO => ex_load1 (o := 0) ag_9 (hSx7 _ (hO.sees (i := 0) rfl)) rfl hf rfl) <| lw [0, 6, 8, 9, 10, 15] [0] (fun J E L k => ∃ i12, J ((16, int i12) :: E) (L) (octet_All_L2 (octet_All_L1 x_is x_l n1) x_is i3 x7 k i12)) rfl ?_
 refine lJ1 tb fun n2 i12 => ?_
 rw [octet_All_L2]
 refine br0 rfl ?_ ?_
 refine bi rfl fun b17 hb17 => rw_ rfl fun a w hf hO hm => ?_
 obtain ⟨r18, hr18, hm⟩ := ob hm
 refine oc (ex_callv x_is_k hf rfl (vs := [byte b17]) rfl) hf rfl (x_is_h b17 r18 _ (hG.o hO) hr18) hO fun a w' hf hO => ?_
 refine S.op tb ?_ hf hO hm
 refine br0 rfl ?_ ?_
 exact rt Tryz.results181 rfl
 exact bi rfl fun i23 hi23 => el0 rfl
 exact bi rfl fun i25 hi25 => el0 rfl
 exact rt Tryz.results181 rfl

theorem w_octet_IsDigit (x_b : UInt8) (R : Bool) (w0 : World) (hG : Glob w0) (hm : octet_IsDigit x_b = some R) :
    Calls Tryz.prog 133 #[byte x_b] w0 (Ret w0 (fun R => .bool R) R) := by
 rw [octet_IsDigit] at hm
 refine S.ent0 tb Tryz.func133 rfl Tryz.ntmps133 rfl hm ?_
 refine jv 0 [] [] (fun J E L => ∃ t3, J ((2, .bool t3) :: E) (L) (octet_IsDigit_j1 t3)) rfl ?_ ?_
 refine vl rfl rfl (fun a w hf hO => ex_geq_b (b := x_b) (c := 48) hf rfl rfl) <| br0 rfl ?_ ?_
 exact vl rfl rfl (fun a w hf hO => ex_leq_b (b := x_b) (c := 57) hf rfl rfl) <| en0 rfl
 exact en0 rfl
 refine oJ1 tb fun t3 => ?_
 rw [octet_IsDigit_j1]
 exact rt Tryz.results133 rfl

theorem w_numeral_worth (x_b : UInt8) (R : Int) (w0 : World) (hG : Glob w0) (hm : numeral_worth x_b = some R) :
    Calls Tryz.prog 182 #[byte x_b] w0 (Ret w0 (fun R => int R) R) := by
 rw [numeral_worth] at hm
 refine S.ent0 tb Tryz.func182 rfl Tryz.ntmps182 rfl hm ?_
 refine clg c_133 hG.o rfl (w_octet_IsDigit x_b) fun r2 hr2 => br0 rfl ?_ ?_
 exact vl rfl rfl (fun a w hf hO => ex_sub_b (b := x_b) (c := 48) hf rfl rfl) <| vl rfl rfl (fun a w hf hO => ex_conv_i Tryz.underlying3 Tryz.underlying5 (byte_inI _) hf (kd := .u8) rfl) <| rt Tryz.results182 rfl
 exact clg c_239 hG.o rfl (w_octet_Lower x_b) fun r7 hr7 => vl rfl rfl (fun a w hf hO => ex_sub_b (b := r7) (c := 97) hf rfl rfl) <| vl rfl rfl (fun a w hf hO => ex_conv_i Tryz.underlying3 Tryz.underlying5 (byte_inI _) hf (kd := .u8) rfl) <| bi rfl fun i8 hi8 => rt Tryz.results182 rfl

theorem w_numeral_read (x_s : Str) (x_base : Int) (x_most : Int) (x_is : UInt8 → Option Bool) (R : Int × Int) (w0 : World) (hG : Glob w0) {x_is_f : Nat} {x_is_p x_is_c : Array Value} (x_is_k : Callable Tryz.prog x_is_f) (x_is_h : ∀ (y0 : UInt8) (r : Bool) (w : World), Glob w → x_is y0 = some r → Calls Tryz.prog x_is_f (x_is_p ++ [byte y0].toArray ++ x_is_c) w fun e w' => e = .returned (.bool r) ∧ Below w.heap.size w w') (hm : numeral_read x_s x_base x_most x_is = some R) :
    Calls Tryz.prog 132 #[str x_s, int x_base, int x_most, .func (.func x_is_f) x_is_p x_is_c] w0 (Ret w0 (fun R => .tuple #[int R.1, int R.2]) R) := by
 rw [numeral_read] at hm
 refine S.ent0 tb Tryz.func132 rfl Tryz.ntmps132 rfl hm ?_
 refine jv 1 [0, 1, 2] [] (fun J E L => ∃ t5, J ((21, .bool t5) :: E) (L) (numeral_read_j1 x_s x_base x_most t5)) rfl ?_ ?_
 refine br rfl (fun hc2 => ?_) fun hc2 => ?_
 exact en0 rfl
 refine rw_ rfl fun a w hf hO hm => ?_
 refine op_buildSlice (vs := [(0, str x_s)]) (cs := [str x_s]) (e := 9) (sz := 1) hf rfl rfl (fun w => by kernel_rfl) rfl rfl hO fun a b3 w hf hO => ?_
 refine S.op tb ?_ hf hO hm
 refine kn (b' := false) hc2 rfl ?_
 exact cl c_181 rfl (fun r4 w hr4 hO => w_octet_All x_is ([x_s] : List Str) r4 _ (hG.o hO) x_is_k x_is_h (hO.rowSees (i := 0) rfl) (hO.rowCap (i := 0) rfl) hr4) fun r4 hr4 => ec0 [] rfl rfl rfl
 refine oJ1 tb fun t5 => ?_
 rw [numeral_read_j1]
 refine br0 rfl ?_ ?_
 exact rt Tryz.results132 rfl
 refine lw [0, 1, 2, 23] [] (fun J E L k => ∃ i11 i12, J ((10, int i11) :: (24, int i12) :: E) (L) (numeral_read_L2 x_s x_base x_most k i11 i12)) rfl ?_
 refine lJ2 tb fun n2 i11 i12 => ?_
 rw [numeral_read_L2]
 refine br0 rfl ?_ ?_
 refine bi rfl fun b17 hb17 => clg c_182 hG.o rfl (w_numeral_worth b17) fun r18 hr18 => jv 6 [0, 1, 2, 10, 12, 23, 24] [] (fun J E L => ∃ t23, J ((42, .bool t23) :: E) (L) (numeral_read_j3 (numeral_read_L2 x_s x_base x_most n2) x_base i11 i12 r18 t23)) rfl ?_ ?_
 refine br0 rfl ?_ ?_
 exact en0 rfl
 exact bi rfl fun i21 hi21 => bi rfl fun i22 hi22 => en0 rfl
 refine oJ1 tb fun t23 => ?_
 rw [numeral_read_j3]
 refine br0 rfl ?_ ?_
 exact rt Tryz.results132 rfl
 exact bi rfl fun i27 hi27 => bi rfl fun i28 hi28 => bi rfl fun i30 hi30 => el0 rfl
 exact rt Tryz.results132 rfl

theorem w_numeral_Decimal (x_s : Str) (x_most : Int) (R : Int × Int) (w0 : World) (hG : Glob w0) (hm : numeral_Decimal x_s x_most = some R) :
    Calls Tryz.prog 91 #[str x_s, int x_most] w0 (Ret w0 (fun R => .tuple #[int R.1, int R.2]) R) := by
 rw [numeral_Decimal] at hm
 refine S.ent0 tb Tryz.func91 rfl Tryz.ntmps91 rfl hm ?_
 exact cl c_132 rfl (fun r2 w hr2 hO => w_numeral_read x_s 10 x_most octet_IsDigit r2 _ (hG.o hO) c_133 (fun y0 r w hG h => callsE (w_octet_IsDigit y0 r w hG h)) hr2) fun r2 hr2 => rt Tryz.results91 rfl

theorem w_numeral_text (x_n : Int) (x_base : Int) (R : Str) (w0 : World) (hG : GlobT w0) (hm : numeral_text x_n x_base = some R) :
    Calls Tryz.prog 180 #[int x_n, int x_base] w0 (Ret w0 (fun R => str R) R) := by
 rw [numeral_text] at hm
 refine S.ent0 tb Tryz.func180 rfl Tryz.ntmps180 rfl hm ?_
 refine br0 rfl ?_ ?_
 exact rt Tryz.results180 rfl
 exact clg c_238 hG.o rfl (w_strconv_FormatInt x_n x_base) fun r6 hr6 => rt Tryz.results180 rfl

theorem w_numeral_Text (x_n : Int) (R : Str) (w0 : World) (hG : GlobT w0) (hm : numeral_Text x_n = some R) :
    Calls Tryz.prog 131 #[int x_n] w0 (Ret w0 (fun R => str R) R) := by
 rw [numeral_Text] at hm
 refine S.ent0 tb Tryz.func131 rfl Tryz.ntmps131 rfl hm ?_
 exact clg c_180 hG.o rfl (w_numeral_text x_n 10) fun r2 hr2 => rt Tryz.results131 rfl

theorem w_hostport_small (x_s : Str) (x_most : Int) (R : Bool) (w0 : World) (hG : GlobT w0) (hm : hostport_small x_s x_most = some R) :
    Calls Tryz.prog 90 #[str x_s, int x_most] w0 (Ret w0 (fun R => .bool R) R) := by
 rw [hostport_small] at hm
 refine S.ent0 tb Tryz.func90 rfl Tryz.ntmps90 rfl hm ?_
 refine clg c_91 (fun h => (hG.o h).1) rfl (w_numeral_Decimal x_s x_most) fun r2 hr2 => jv 0 [] [] (fun J E L => ∃ t6, J ((4, .bool t6) :: E) (L) (hostport_small_j1 t6)) rfl ?_ ?_
 refine br0 rfl ?_ ?_
 exact clg c_131 hG.o rfl (w_numeral_Text r2.1) fun r5 hr5 => en0 rfl
 exact en0 rfl
 refine oJ1 tb fun t6 => ?_
 rw [hostport_small_j1]
 exact rt Tryz.results90 rfl

theorem w_hostport_Four (x_s : Str) (R : Bool) (w0 : World) (hG : GlobT w0) (hm : hostport_Four x_s = some R) :
    Calls Tryz.prog 128 #[str x_s] w0 fun e w' => e = .returned (.bool R) ∧ Below w0.heap.size w0 w' := by
  unfold hostport_Four at hm
  split at hm
  · rename_i hs
    obtain ⟨bs, hbs, hm⟩ := ob hm
    cases hm
    exact Four_in (fun x => hostport_small x 255) (fun x b W hG h => w_hostport_small x 255 b W hG h) x_s hs bs hbs w0 hG
  · cases hm

theorem w_slices_Clone_gapi_Event_api_Event_ (x_s : List api_Event) (R : List api_Event) (w0 : World) (hG : Glob w0) {x_s_p0 : Option Addr} {x_s_c0 : Nat} (hs0 : Sees w0 x_s_p0 (cells enc_api_Event x_s)) (hc0 : x_s.length ≤ x_s_c0) (hm : slices_Clone_gapi_Event_api_Event_ x_s = some R) :
    Calls Tryz.prog 21 #[.slice x_s_p0 x_s.length x_s_c0] w0 fun e w' => ∃ p0 c0, e = .returned (.slice p0 R.length c0) ∧ Dk.Own w0 [] w' [.row (.slice p0 R.length c0) 53 2 R.length (cells enc_api_Event R)] := by
 rw [slices_Clone_gapi_Event_api_Event_] at hm
 have hO : Dk.Own w0 [] w0 [] := Dk.Own.refl w0
 have hO := hO.addS hs0
 refine S.enter tb Tryz.func21 rfl Tryz.ntmps21 rfl ?_ hO hm
 refine nl 53 2 <| vl rfl rfl (fun a w hf hO => ex_eql_sn (ad := x_s_p0) Tryz.underlying28 hf rfl rfl) <| rc_ rfl fun a w hf hO hm => ?_
 rcases bcase (x_s_p0.isNone) with hc3 | hc3
 have hxhc3 : x_s = [] := nil_cells (enc := enc_api_Event) (sz := 2) (fun _ => rfl) (by decide) (hO.sees (i := 1) rfl) hc3
 rw [hxhc3] at hm
 have hm : some [] = some R := by first | exact hm | (rw [hxhc3]; exact hm) | simpa [hxhc3] using hm
 refine wp_cond_t hf rfl hc3 ?_
 refine S.co tb ?_ hf hO hm
 exact nl 53 2 <| rm0 Tryz.results21 [0] [] rfl
 refine wp_cond_f hf rfl hc3 ?_
 refine S.co tb ?_ hf hO hm
 refine rw_ rfl fun a w hf hO hm => ?_
 refine op_buildSlice (vs := []) (cs := []) (e := 53) (sz := 2) hf rfl rfl (fun w => by kernel_rfl) rfl rfl hO fun a b6 w hf hO => ?_
 refine S.op tb ?_ hf hO hm
 refine rw_ rfl fun a w hf hO hm => ?_
 obtain ⟨hg9, hm⟩ := og hm
 refine op_appendS el_28 (enc := enc_api_Event) (xs := []) (ys := x_s) (i := 0) (fun _ => rfl) rfl (hO.sees (i := 2) rfl) (by simp [enc_api_Event, Value.oneCell']) hg9 hf rfl rfl rfl hO fun a p7 c8 w hf hO => ?_
 refine S.op tb ?_ hf hO hm
 exact rm0 Tryz.results21 [0] [] rfl

theorem w_slices_Clone_gapi_Swap_api_Swap_ (x_s : List api_Swap) (R : List api_Swap) (w0 : World) (hG : Glob w0) {x_s_p0 : Option Addr} {x_s_c0 : Nat} (hs0 : Sees w0 x_s_p0 (cells enc_api_Swap x_s)) (hc0 : x_s.length ≤ x_s_c0) (hm : slices_Clone_gapi_Swap_api_Swap_ x_s = some R) :
    Calls Tryz.prog 49 #[.slice x_s_p0 x_s.length x_s_c0] w0 fun e w' => ∃ p0 c0, e = .returned (.slice p0 R.length c0) ∧ Dk.Own w0 [] w' [.row (.slice p0 R.length c0) 83 2 R.length (cells enc_api_Swap R)] := by
 rw [slices_Clone_gapi_Swap_api_Swap_] at hm
 have hO : Dk.Own w0 [] w0 [] := Dk.Own.refl w0
 have hO := hO.addS hs0
 refine S.enter tb Tryz.func49 rfl Tryz.ntmps49 rfl ?_ hO hm
 refine nl 83 2 <| vl rfl rfl (fun a w hf hO => ex_eql_sn (ad := x_s_p0) Tryz.underlying22 hf rfl rfl) <| rc_ rfl fun a w hf hO hm => ?_
 rcases bcase (x_s_p0.isNone) with hc3 | hc3
 have hxhc3 : x_s = [] := nil_cells (enc := enc_api_Swap) (sz := 2) (fun _ => rfl) (by decide) (hO.sees (i := 1) rfl) hc3
 rw [hxhc3] at hm
 have hm : some [] = some R := by first | exact hm | (rw [hxhc3]; exact hm) | simpa [hxhc3] using hm
 refine wp_cond_t hf rfl hc3 ?_
 refine S.co tb ?_ hf hO hm
 exact nl 83 2 <| rm0 Tryz.results49 [0] [] rfl
 refine wp_cond_f hf rfl hc3 ?_
 refine S.co tb ?_ hf hO hm
 refine rw_ rfl fun a w hf hO hm => ?_
 refine op_buildSlice (vs := []) (cs := []) (e := 83) (sz := 2) hf rfl rfl (fun w => by kernel_rfl) rfl rfl hO fun a b6 w hf hO => ?_
 refine S.op tb ?_ hf hO hm
 refine rw_ rfl fun a w hf hO hm => ?_
 obtain ⟨hg9, hm⟩ := og hm
 refine op_appendS el_22 (enc := enc_api_Swap) (xs := []) (ys := x_s) (i := 0) (fun _ => rfl) rfl (hO.sees (i := 2) rfl) (by simp [enc_api_Swap, Value.oneCell']) hg9 hf rfl rfl rfl hO fun a p7 c8 w hf hO => ?_
 refine S.op tb ?_ hf hO hm
 exact rm0 Tryz.results49 [0] [] rfl

theorem w_slices_Clone_gapi_Part_api_Part_ (x_s : List api_Part) (R : List api_Part) (w0 : World) (hG : Glob w0) {x_s_p0 : Option Addr} {x_s_c0 : Nat} (hs0 : Sees w0 x_s_p0 (cells enc_api_Part x_s)) (hc0 : x_s.length ≤ x_s_c0) (hm : slices_Clone_gapi_Part_api_Part_ x_s = some R) :
    Calls Tryz.prog 50 #[.slice x_s_p0 x_s.length x_s_c0] w0 fun e w' => ∃ p0 c0, e = .returned (.slice p0 R.length c0) ∧ Dk.Own w0 [] w' [.row (.slice p0 R.length c0) 120 2 R.length (cells enc_api_Part R)] := by
 rw [slices_Clone_gapi_Part_api_Part_] at hm
 have hO : Dk.Own w0 [] w0 [] := Dk.Own.refl w0
 have hO := hO.addS hs0
 refine S.enter tb Tryz.func50 rfl Tryz.ntmps50 rfl ?_ hO hm
 refine nl 120 2 <| vl rfl rfl (fun a w hf hO => ex_eql_sn (ad := x_s_p0) Tryz.underlying66 hf rfl rfl) <| rc_ rfl fun a w hf hO hm => ?_
 rcases bcase (x_s_p0.isNone) with hc3 | hc3
 have hxhc3 : x_s = [] := nil_cells (enc := enc_api_Part) (sz := 2) (fun _ => rfl) (by decide) (hO.sees (i := 1) rfl) hc3
 rw [hxhc3] at hm
 have hm : some [] = some R := by first | exact hm | (rw [hxhc3]; exact hm) | simpa [hxhc3] using hm
 refine wp_cond_t hf rfl hc3 ?_
 refine S.co tb ?_ hf hO hm
 exact nl 120 2 <| rm0 Tryz.results50 [0] [] rfl
 refine wp_cond_f hf rfl hc3 ?_
 refine S.co tb ?_ hf hO hm
 refine rw_ rfl fun a w hf hO hm => ?_
 refine op_buildSlice (vs := []) (cs := []) (e := 120) (sz := 2) hf rfl rfl (fun w => by kernel_rfl) rfl rfl hO fun a b6 w hf hO => ?_
 refine S.op tb ?_ hf hO hm
 refine rw_ rfl fun a w hf hO hm => ?_
 obtain ⟨hg9, hm⟩ := og hm
 refine op_appendS el_66 (enc := enc_api_Part) (xs := []) (ys := x_s) (i := 0) (fun _ => rfl) rfl (hO.sees (i := 2) rfl) (by simp [enc_api_Part, Value.oneCell']) hg9 hf rfl rfl rfl hO fun a p7 c8 w hf hO => ?_
 refine S.op tb ?_ hf hO hm
 exact rm0 Tryz.results50 [0] [] rfl

theorem w_slices_Clone_gapi_Field_api_Field_ (x_s : List api_Field) (R : List api_Field) (w0 : World) (hG : Glob w0) {x_s_p0 : Option Addr} {x_s_c0 : Nat} (hs0 : Sees w0 x_s_p0 (cells enc_api_Field x_s)) (hc0 : x_s.length ≤ x_s_c0) (hm : slices_Clone_gapi_Field_api_Field_ x_s = some R) :
    Calls Tryz.prog 287 #[.slice x_s_p0 x_s.length x_s_c0] w0 fun e w' => ∃ p0 c0, e = .returned (.slice p0 R.length c0) ∧ Dk.Own w0 [] w' [.row (.slice p0 R.length c0) 218 2 R.length (cells enc_api_Field R)] := by
 rw [slices_Clone_gapi_Field_api_Field_] at hm
 have hO : Dk.Own w0 [] w0 [] := Dk.Own.refl w0
 have hO := hO.addS hs0
 refine S.enter tb Tryz.func287 rfl Tryz.ntmps287 rfl ?_ hO hm
 refine nl 218 2 <| vl rfl rfl (fun a w hf hO => ex_eql_sn (ad := x_s_p0) Tryz.underlying160 hf rfl rfl) <| rc_ rfl fun a w hf hO hm => ?_
 rcases bcase (x_s_p0.isNone) with hc3 | hc3
 have hxhc3 : x_s = [] := nil_cells (enc := enc_api_Field) (sz := 2) (fun _ => rfl) (by decide) (hO.sees (i := 1) rfl) hc3
 rw [hxhc3] at hm
 have hm : some [] = some R := by first | exact hm | (rw [hxhc3]; exact hm) | simpa [hxhc3] using hm
 refine wp_cond_t hf rfl hc3 ?_
 refine S.co tb ?_ hf hO hm
 exact nl 218 2 <| rm0 Tryz.results287 [0] [] rfl
 refine wp_cond_f hf rfl hc3 ?_
 refine S.co tb ?_ hf hO hm
 refine rw_ rfl fun a w hf hO hm => ?_
 refine op_buildSlice (vs := []) (cs := []) (e := 218) (sz := 2) hf rfl rfl (fun w => by kernel_rfl) rfl rfl hO fun a b6 w hf hO => ?_
 refine S.op tb ?_ hf hO hm
 refine rw_ rfl fun a w hf hO hm => ?_
 obtain ⟨hg9, hm⟩ := og hm
 refine op_appendS el_160 (enc := enc_api_Field) (xs := []) (ys := x_s) (i := 0) (fun _ => rfl) rfl (hO.sees (i := 2) rfl) (by simp [enc_api_Field, Value.oneCell']) hg9 hf rfl rfl rfl hO fun a p7 c8 w hf hO => ?_
 refine S.op tb ?_ hf hO hm
 exact rm0 Tryz.results287 [0] [] rfl

end Go.Proofs
