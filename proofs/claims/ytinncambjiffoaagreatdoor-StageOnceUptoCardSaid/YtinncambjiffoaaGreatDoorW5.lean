/-
  Walks, written by a program (wip/gen): what its model says, the function returns; what was there before is as it was.
  Walks, written by a program (wip/gen): what its model says, the function returns; what was there before is as it was.
  Walks, written by a program (wip/gen): what its model says, the function returns; what was there before is as it was.
  Walks, written by a program (wip/gen): what its model says, the function returns; what was there before is as it was.
  Walks, written by a program (wip/gen): what its model says, the function returns; what was there before is as it was.

-/
import Derived.Test.YtinncambjiffoaaGreatDoorLib
import Derived.Test.YtinncambjiffoaaGreatDoorSq
section
set_option linter.unusedVariables false
set_option maxHeartbeats 1000000
set_option linter.unusedSimpArgs false
set_option maxRecDepth 100000
namespace Go.Proofs
open Go.Dk Go.Dm Go.RowKit

theorem zcs (x_s : List api_Field) (R : List api_Field) (w0 : World) (hG : zt w0) {x_s_p0 : Option Addr} {x_s_c0 : Nat} (hs0 : zy w0 x_s_p0 (cells za x_s)) (hc0 : x_s.length ≤ x_s_c0) (hm : zL x_s = some R) :
    Calls Tryz.prog 51 #[.slice x_s_p0 x_s.length x_s_c0] w0 fun e w' => ∃ (p0 : Option Addr) (c0 : Nat), e = .returned (.slice p0 R.length c0) ∧ Dk.Own w0 [] w' [.row (.slice p0 R.length c0) 54 2 R.length (cells za R)] := by
 rw [zL] at hm
 have hF : zu [] := zf
 have hO : Dk.Own w0 [] w0 [] := Dk.Own.refl w0
 have hO := hO.addShr hs0 (by simp [Res.shared])
 refine S.enter tb Tryz.func51 rfl Tryz.ntmps51 rfl ?_ hO hm
 refine nl 54 2 ?_
 refine vl rfl rfl (fun a w hf hO => zuo (ad := x_s_p0) Tryz.underlying26 hf rfl rfl) ?_
 refine rc_ rfl fun a w hf hO hm => ?_
 rcases zga (x_s_p0.isNone) with hc3 | hc3
 have hxhc3 : x_s = [] := zup (enc := za) (sz := 2) (fun _ => rfl) (by decide) (hO.sees (i := 1) rfl) hc3
 rw [hxhc3] at hm
 have hm : some [] = some R := by first | exact hm | (rw [hxhc3]; exact hm) | simpa [hxhc3] using hm
 refine zuW hf rfl hc3 ?_
 refine S.co tb ?_ hf hO hm
 refine nl 54 2 ?_
 refine re_ rfl fun a w hf hO hm => ?_
 obtain rfl := Option.some.inj hm
 exact zi Tryz.results51 hf (.tmp rfl .nil) ⟨none, 0, rfl, (hO.sub (.cons_cons _ (.cons _ (.cons _ .slnil))))⟩
 refine zuX hf rfl hc3 ?_
 refine S.co tb ?_ hf hO hm
 refine rw_ rfl fun a w hf hO hm => ?_
 refine zm (vs := []) (cs := []) (e := 54) (sz := 2) hf rfl rfl (fun w => by kernel_rfl) rfl rfl hO fun a b6 w hf hO => ?_
 refine S.op tb ?_ hf hO hm
 refine rw_ rfl fun a w hf hO hm => ?_
 obtain ⟨hg9, hm⟩ := og hm
 refine zfH zss (enc := za) (xs := []) (ys := x_s) (i := 0) (fun _ => rfl) rfl (hO.sees (i := 2) rfl) (by simp [za, Value.oneCell']) hg9 hf rfl rfl rfl hO fun a p7 c8 w hf hO => ?_
 refine S.op tb ?_ hf hO hm
 refine re_ rfl fun a w hf hO hm => ?_
 obtain rfl := Option.some.inj hm
 exact zi Tryz.results51 hf (.tmp rfl .nil) ⟨p7, c8, rfl, (hO.sub (.cons_cons _ (.cons _ (.cons _ .slnil))))⟩

theorem zfJ (x_l : List api_Field) (R : bag_Bag) (w0 : World) (hG : zt w0) {x_l_p0 : Option Addr} {x_l_c0 : Nat} (hs0 : zy w0 x_l_p0 (cells za x_l)) (hc0 : x_l.length ≤ x_l_c0) (hm : zej x_l = some R) :
    Calls Tryz.prog 24 #[.slice x_l_p0 x_l.length x_l_c0] w0 fun e w' => ∃ (b0 : Nat) (p1 : Option Addr) (c1 : Nat), e = .returned (ptr b0 0) ∧ Dk.Own w0 [] w' [.blk b0 [.slice p1 R.f_l.length c1] 107, .row (.slice p1 R.f_l.length c1) 54 2 R.f_l.length (cells za R.f_l)] := by
 rw [zej] at hm
 have hF : zu [] := zf
 have hO : Dk.Own w0 [] w0 [] := Dk.Own.refl w0
 have hO := hO.addShr hs0 (by simp [Res.shared])
 refine S.enter tb Tryz.func24 rfl Tryz.ntmps24 rfl ?_ hO hm
 refine rw_ rfl fun a w hf hO hm => ?_
 obtain ⟨r2, hr2, hm⟩ := ob hm
 refine zj (zh c_51 hf (vs := [.slice x_l_p0 x_l.length x_l_c0]) rfl) rfl hf rfl rfl (zcs x_l r2 _ (hG.own hF hO) (hO.sees (i := 0) rfl) hc0 hr2) ?_
 rintro e w' ⟨p3, c4, he, hO'⟩
 refine ⟨_, he, fun a hf => ?_⟩
 have hO := hO.call hO' (by simp [Res.shared])
 refine S.op tb ?_ hf hO hm
 refine vl rfl rfl (fun a w hf hO => zB (vs := [(0, .slice p3 r2.length c4)]) (v := .agg #[.slice p3 r2.length c4]) hf rfl (by kernel_rfl)) ?_
 refine bo rfl fun b5 => ?_
 refine re_ rfl fun a w hf hO hm => ?_
 obtain rfl := Option.some.inj hm
 exact zi Tryz.results24 hf (.tmp rfl .nil) ⟨b5, p3, c4, rfl, (hO.sub (.cons_cons _ (.cons_cons _ (.cons _ .slnil))))⟩

theorem zcL (x_b : bag_Bag) (R : List api_Field) (w0 : World) (hG : zt w0) {x_b_b0 : Nat} {x_b_p1 : Option Addr} {x_b_c1 : Nat} (hs0 : zy w0 (some ⟨x_b_b0, 0, none⟩) [.slice x_b_p1 x_b.f_l.length x_b_c1]) (hs1 : zy w0 x_b_p1 (cells za x_b.f_l)) (hc1 : x_b.f_l.length ≤ x_b_c1) (hm : zaW x_b = some R) :
    Calls Tryz.prog 43 #[ptr x_b_b0 0] w0 fun e w' => ∃ (p0 : Option Addr) (c0 : Nat), e = .returned (.slice p0 R.length c0) ∧ Dk.Own w0 [] w' [.row (.slice p0 R.length c0) 54 2 R.length (cells za R)] := by
 rw [zaW] at hm
 have hF : zu [] := zf
 have hO : Dk.Own w0 [] w0 [] := Dk.Own.refl w0
 have hO := hO.addShr hs0 (by simp [Res.shared])
 have hO := hO.addShr hs1 (by simp [Res.shared])
 refine S.enter tb Tryz.func43 rfl Tryz.ntmps43 rfl ?_ hO hm
 refine nl 54 2 ?_
 refine vl rfl rfl (fun a w hf hO => zgF Tryz.underlying63 hf rfl rfl) ?_
 refine kn (b' := false) rfl rfl ?_
 refine ld 2 rfl rfl ?_
 refine rw_ rfl fun a w hf hO hm => ?_
 obtain ⟨r4, hr4, hm⟩ := ob hm
 refine zj (zh c_51 hf (vs := [.slice x_b_p1 x_b.f_l.length x_b_c1]) rfl) rfl hf rfl rfl (zcs x_b.f_l r4 _ (hG.own hF hO) (hO.sees (i := 1) rfl) hc1 hr4) ?_
 rintro e w' ⟨p5, c6, he, hO'⟩
 refine ⟨_, he, fun a hf => ?_⟩
 have hO := hO.call hO' (by simp [Res.shared])
 refine S.op tb ?_ hf hO hm
 refine re_ rfl fun a w hf hO hm => ?_
 obtain rfl := Option.some.inj hm
 exact zi Tryz.results43 hf (.tmp rfl .nil) ⟨p5, c6, rfl, (hO.sub (.cons_cons _ (.cons _ (.cons _ (.cons _ .slnil)))))⟩

theorem zeb (x_b : UInt8) (R : UInt8) (w0 : World) (hG : zt w0) (hm : zaY x_b = some R) :
    Calls Tryz.prog 136 #[zak x_b] w0 (Ret w0 (fun R => zak R) R) := by
 rw [zaY] at hm
 have hF : zu [] := zf
 have hO : Dk.Own w0 [] w0 [] := Dk.Own.refl w0
 refine S.enter tb Tryz.func136 rfl Tryz.ntmps136 rfl ?_ hO hm
 refine jv 1 [0] [] (fun J E L => ∃ (t3 : Bool), J ((8, .bool t3) :: E) (L) (zgc x_b t3)) rfl ?_ ?_
 refine vl rfl rfl (fun a w hf hO => zl2 (b := x_b) (c := 65) hf rfl rfl) ?_
 refine br rfl (fun hc2 => ?_) fun hc2 => ?_
 refine vl rfl rfl (fun a w hf hO => zl1 (b := x_b) (c := 90) hf rfl rfl) ?_
 exact en rfl fun _ _ j => ⟨decide (x_b ≤ 90), j rfl⟩
 exact en rfl fun _ _ j => ⟨false, j rfl⟩
 rintro a w ⟨t3, hf, hO, hm⟩
 rw [zgc] at hm
 refine S.co tb ?_ hf hO hm
 refine br rfl (fun hc4 => ?_) fun hc4 => ?_
 refine vl rfl rfl (fun a w hf hO => zvm (b := x_b) (c := 32) hf rfl rfl) ?_
 exact rt Tryz.results136 rfl
 exact rt Tryz.results136 rfl

set_option maxHeartbeats 4000000 in
set_option maxRecDepth 100000 in
theorem zue (s : ByteArray) (R : Str) (w0 : World) (hG : zt w0) (hsz : s.size < 4294967281) (hm : s.data.toList.mapM zaY = some R)
    (hlow : ∀ b c w, zaY b = some c → zt w → Calls Tryz.prog 136 #[.int .u8 (b.toNat : Int)] w fun e w' => e = .returned (.int .u8 (c.toNat : Int)) ∧ Below w.heap.size w w') :
    Calls Tryz.prog 83 #[.string s] w0 fun e w' => e = .returned (.string ⟨R.toArray⟩) ∧ Below w0.heap.size w0 w' := by
  obtain ⟨hlen, hat⟩ := mapM_at hm
  have HL : Aside (R.length = s.size) := hlen.trans (Lib.size_eq s).symm
  have HT : Aside (∀ (i : Nat) (a : UInt8), s.data.toList[i]? = some a → ∃ b, R[i]? = some b ∧ zaY a = some b) := hat
  clear hlen hat hm
  have hcv := fun w => run_bytes_of_string (P := Tryz.prog) w 9 178 5 s Tryz.underlying9 Tryz.underlying178 Tryz.underlying5
  go_enter Tryz.func83, Tryz.ntmps83
  go_wp2
  go_loopg [4, 5, 10] s.size (fun g _ _ v wx => ∃ i : Nat, i + g = s.size ∧ v = .int .i64 (i : Int) ∧ Below w0.heap.size w0 wx ∧ ∃ (cur : Array Value) (fz : Nat × Nat), wx.heap[w0.heap.size]? = some (.cells cur 5 fz) ∧ cur.size ≤ fz.1 ∧ s.size ≤ cur.size ∧ ∀ j, j < s.size → cur[j]? = ((if j < i then R[j]? else s.data.toList[j]?).map zak))
  case atStart =>
    have hrow : (bytesRow s (grownCap w0 s.size 0 5)).size = s.size + (grownCap w0 s.size 0 5 - s.size) := by
      have := Lib.size_eq s
      unfold bytesRow
      rw [Array.size_append, Array.size_map, Array.size_replicate]
      rfl
    refine ⟨0, by omega, rfl, ((Below.refl _ _).alloc (Nat.le_refl _) _).drew, _, _, zoC _, Nat.le_refl _, ?_, fun j hj => ?_⟩
    · omega
    · rw [if_neg (by omega)]
      unfold bytesRow
      rw [Array.getElem?_append_left (by simp [← Lib.size_eq]; exact hj), Array.getElem?_map]
      congr 1
      exact (Array.getElem?_toList ..).symm
  case round =>
    obtain ⟨i, hig, rfl, hB, cur, fz, hcur, hfz, hsc, hcell⟩ := hrel
    have HG : Aside (zt wr) := hG.own zf ((Dk.Own.refl w0).grow hB)
    have HB : Aside (Below w0.heap.size w0 wr) := hB
    have HC : Aside (wr.heap[w0.heap.size]? = some (.cells cur 5 fz)) := hcur
    have HF : Aside (cur.size ≤ fz.1 ∧ s.size ≤ cur.size) := ⟨hfz, hsc⟩
    have HX : Aside (∀ j, j < s.size → cur[j]? = ((if j < i then R[j]? else s.data.toList[j]?).map zak)) := hcell
    clear hB hcell hfz hsc hcur
    by_cases hi : i < s.size
    · obtain ⟨x, hx⟩ : ∃ x, s.data.toList[i]? = some x := ⟨_, Lib.data_getElem? s i hi⟩
      obtain ⟨y, hyR, hy⟩ := HT.out i x hx
      have hcx : wr.cell? ⟨w0.heap.size, i, none⟩ = some (.int .u8 (x.toNat : Int)) := by
        have := HX.out i hi
        rw [if_neg (by omega), hx] at this
        simp [World.cell?, HC.out, this]
      have hfr : wr.frozen? ⟨w0.heap.size, i, none⟩ = false := by
        have := HF.out
        simp [World.frozen?, HC.out]; omega
      have hii : (i : Int) < (s.size : Int) := by omega
      have HY : Aside (R[i]? = some y) := hyR
      have HO : Aside (zaY x = some y) := hy
      clear hyR hy hx
      go_wp2_with (go_at_call 136; refine (hlow x y _ HO.out HG.out).mono ?_; rintro e w' ⟨rfl, hb⟩; have hcx' : w'.cell? ⟨w0.heap.size, i, none⟩ = some (.int .u8 (x.toNat : Int)) := (hb.cell (p := ⟨w0.heap.size, i, none⟩) (Array.getElem?_eq_some_iff.1 HC.out).1).trans hcx; have hfr' : w'.frozen? ⟨w0.heap.size, i, none⟩ = false := (hb.frozen (p := ⟨w0.heap.size, i, none⟩) (Array.getElem?_eq_some_iff.1 HC.out).1).trans hfr)
      go_roundg (gk - 1)
      case measure => omega
      case rel =>
        have hlt := (Array.getElem?_eq_some_iff.1 HC.out).1
        have hcw : w'.heap[w0.heap.size]? = some (.cells cur 5 fz) := (hb.block _ hlt).trans HC.out
        refine ⟨i + 1, by omega, rfl, ?_, cur.setIfInBounds i (.int .u8 (y.toNat : Int)), fz, ?_, ?_, ?_, fun j hj => ?_⟩
        · exact (HB.out.trans (hb.mono HB.out.size)).setCell (p := ⟨w0.heap.size, i, none⟩) (Nat.le_refl _) _
        · simp [World.setCell, Array.getElem?_modify, hcw]
        · have := HF.out; simp; omega
        · have := HF.out; simp; omega
        · by_cases hji : j = i
          · subst hji
            have := HF.out
            rw [if_pos (by omega), HY.out, Array.getElem?_setIfInBounds_self_of_lt (by omega)]
            rfl
          · rw [Array.getElem?_setIfInBounds_ne (Ne.symm hji), HX.out j hj]
            by_cases h2 : j < i
            · rw [if_pos h2, if_pos (by omega)]
            · rw [if_neg h2, if_neg (by omega)]
    · have hsi : i = s.size := by omega
      have hbk : ∀ w, wr.heap = w.heap → (convert 178 9 (.slice (some ⟨w0.heap.size, 0, none⟩) s.size (grownCap w0 s.size 0 5))).run Tryz.prog w = .ok (.string ⟨R.toArray⟩) w := by
        intro w hw
        have := run_convert_bytes_back (P := Tryz.prog) w 178 9 5 ⟨w0.heap.size, 0, none⟩ (grownCap w0 s.size 0 5) R Tryz.underlying178 Tryz.underlying5 Tryz.underlying9 (fun j hj => by
          have hjs : j < s.size := by rw [← HL.out]; exact hj
          have h1 := HX.out j hjs
          rw [if_pos (by omega), List.getElem?_eq_getElem hj] at h1
          rw [zuk]
          simp [World.cell?, ← hw, HC.out, h1])
        rw [HL.out] at this
        exact this
      have hni : ¬ ((i : Int) < (s.size : Int)) := by omega
      have hbk1 := hbk wr rfl
      go_wp2
      go_ret
      exact ⟨rfl, HB.out⟩

theorem zdM (x_s : Str) (R : Str) (w0 : World) (hG : zt w0) (hm : zcN x_s = some R) :
    Calls Tryz.prog 83 #[str x_s] w0 fun e w' => e = .returned (str R) ∧ Below w0.heap.size w0 w' := by
  unfold zcN at hm
  split at hm
  · rename_i h
    exact zue ⟨x_s.toArray⟩ R w0 hG h hm fun b c w hbc hGw => zeb b c w hGw hbc
  · cases hm

theorem zbZ (x_a : Str) (x_b : Str) (R : Bool) (w0 : World) (hG : zt w0) (hm : zaq x_a x_b = some R) :
    Calls Tryz.prog 72 #[str x_a, str x_b] w0 (Ret w0 (fun R => .bool R) R) := by
 rw [zaq] at hm
 have hF : zu [] := zf
 have hO : Dk.Own w0 [] w0 [] := Dk.Own.refl w0
 refine S.enter tb Tryz.func72 rfl Tryz.ntmps72 rfl ?_ hO hm
 refine cl zty rfl (fun r2 w hr2 hO => zdM x_a r2 _ (hG.own hF hO) hr2) fun r2 hr2 => ?_
 refine cl zty rfl (fun r3 w hr3 hO => zdM x_b r3 _ (hG.own hF hO) hr3) fun r3 hr3 => ?_
 exact rt Tryz.results72 rfl

theorem ziX (x_b : bag_Bag) (x_name : Str) (R : List Str) (w0 : World) (hG : zt w0) {x_b_b0 : Nat} {x_b_p1 : Option Addr} {x_b_c1 : Nat} (hs0 : zy w0 (some ⟨x_b_b0, 0, none⟩) [.slice x_b_p1 x_b.f_l.length x_b_c1]) (hs1 : zy w0 x_b_p1 (cells za x_b.f_l)) (hc1 : x_b.f_l.length ≤ x_b_c1) (hm : zgd x_b x_name = some R) :
    Calls Tryz.prog 123 #[ptr x_b_b0 0, str x_name] w0 fun e w' => ∃ (p0 : Option Addr) (c0 : Nat), e = .returned (.slice p0 R.length c0) ∧ Dk.Own w0 [] w' [.row (.slice p0 R.length c0) 9 1 R.length (cells zg R)] := by
 rw [zgd] at hm
 have hF : zu [] := zf
 have hO : Dk.Own w0 [] w0 [] := Dk.Own.refl w0
 have hO := hO.addShr hs0 (by simp [Res.shared])
 have hO := hO.addShr hs1 (by simp [Res.shared])
 refine S.enter tb Tryz.func123 rfl Tryz.ntmps123 rfl ?_ hO hm
 refine nl 9 1 ?_
 refine nl 9 1 ?_
 refine rw_ rfl fun a w hf hO hm => ?_
 obtain ⟨r3, hr3, hm⟩ := ob hm
 refine zj (zh ztw hf (vs := [ptr x_b_b0 0]) rfl) rfl hf rfl rfl (zcL x_b r3 _ (hG.own hF hO) (hO.sees (i := 3) rfl) (hO.sees (i := 2) rfl) hc1 hr3) ?_
 rintro e w' ⟨p4, c5, he, hO'⟩
 refine ⟨_, he, fun a hf => ?_⟩
 have hO := hO.call hO' (by simp [Res.shared])
 refine S.op tb ?_ hf hO hm
 refine ch [1, 0, 2, 3, 4] rfl rfl ?_
 refine lv [1, 9, 10] [1, 2, 3, 4] (fun J E L k => ∃ (p7 : Option Addr) (c8 : Nat) (l9 : List Str) (i10 : Int), J ((5, .slice p7 l9.length c8) :: (11, int i10) :: E) (.row (.slice p7 l9.length c8) 9 1 l9.length (cells zg l9) :: L) (zbn x_name r3 k l9 i10)) rfl (fun _ _ j => ⟨none, 0, [], 0, j rfl⟩) ?_
 rintro n1 a w ⟨p7, c8, l9, i10, hf, hO, hm⟩
 obtain _ | n1 := n1
 rw [zbn] at hm
 cases hm
 rw [zbn] at hm
 refine S.co tb ?_ hf hO hm
 refine br rfl (fun hc12 => ?_) fun hc12 => ?_
 refine jv 3 [1, 9, 10, 11] [1, 2, 3, 4] (fun J E L => ∃ (p26 : Option Addr) (c27 : Nat) (l28 : List Str), J ((5, .slice p26 l28.length c27) :: E) (.row (.slice p26 l28.length c27) 9 1 l28.length (cells zg l28) :: L) (zek (zbn x_name r3 n1) i10 l28)) rfl ?_ ?_
 refine rw_ rfl fun a w hf hO hm => ?_
 obtain ⟨x14, hx14, hm⟩ := ob hm
 obtain ⟨b15, o16, hix14, hSx14, hAx14⟩ := zaw (enc := za) (sz := 2) (xs := r3) 26 Tryz.underlying26 zcc (by decide) (fun _ => rfl) hO (i := 1) rfl hx14
 refine zS (zk hix14 hf rfl rfl) rfl hf rfl rfl fun a hf => ?_
 refine S.op tb ?_ hf hO hm
 refine vl rfl rfl (fun a w hf hO => zo (o := 0) (vs := [str x14.Name, str x14.Value]) ziD zcc (hSx14 _ (hO.rowSees (i := 1) rfl)) rfl rfl hf rfl) ?_
 refine al ztY rfl fun b17 => ?_
 refine st 0 rfl rfl ?_
 refine ld 0 rfl rfl ?_
 refine cl zp0 rfl (fun r19 w hr19 hO => zbZ x14.Name x_name r19 _ (hG.own hF hO) hr19) fun r19 hr19 => ?_
 refine br rfl (fun hc21 => ?_) fun hc21 => ?_
 refine ld 0 rfl rfl ?_
 refine rw_ rfl fun a w hf hO hm => ?_
 refine zm (vs := [(0, str x14.Value)]) (cs := [str x14.Value]) (e := 9) (sz := 1) hf rfl rfl (fun w => by kernel_rfl) rfl rfl hO fun a b22 w hf hO => ?_
 refine S.op tb ?_ hf hO hm
 refine rw_ rfl fun a w hf hO hm => ?_
 obtain ⟨hg25, hm⟩ := og hm
 refine zae ziE (enc := zg) (xs := l9) (ys := ([x14.Value] : List Str)) (i := 2) (fun _ => rfl) rfl (hO.rowSees (i := 0) rfl) (by simp [cells, zg, Value.oneCell']) hg25 hf rfl rfl rfl hO fun a p23 c24 w hf hO => ?_
 refine S.op tb ?_ hf hO hm
 exact ec [2, 3, 4, 5, 6] rfl rfl rfl fun _ _ j => ⟨p23, c24, l9 ++ ([x14.Value] : List Str), j rfl⟩
 exact ec [1, 2, 3, 4, 5] rfl rfl rfl fun _ _ j => ⟨p7, c8, l9, j rfl⟩
 rintro a w ⟨p26, c27, l28, hf, hO, hm⟩
 rw [zek] at hm
 refine S.co tb ?_ hf hO hm
 refine bi rfl fun i29 hi29 => ?_
 exact en rfl fun _ _ j => ⟨_, Nat.lt_succ_self _, p26, c27, l28, i29, j rfl⟩
 refine re_ rfl fun a w hf hO hm => ?_
 obtain rfl := Option.some.inj hm
 exact zi Tryz.results123 hf (.tmp rfl .nil) ⟨p7, c8, rfl, (hO.sub (.cons_cons _ (.cons _ (.cons _ (.cons _ (.cons _ .slnil))))))⟩

theorem zjo (x_s : Str) (R : scan_Scanner) (w0 : World) (hG : zt w0) (hm : zh7 x_s = some R) :
    Calls Tryz.prog 58 #[str x_s] w0 fun e w' => ∃ (b0 : Nat), e = .returned (ptr b0 0) ∧ Dk.Own w0 [] w' [.blk b0 [str R.f_s, int R.f_at] 148] := by
 rw [zh7] at hm
 have hF : zu [] := zf
 have hO : Dk.Own w0 [] w0 [] := Dk.Own.refl w0
 refine S.enter tb Tryz.func58 rfl Tryz.ntmps58 rfl ?_ hO hm
 refine vl rfl rfl (fun a w hf hO => zB (vs := [(0, str x_s)]) (v := .agg #[str x_s, int 0]) hf rfl (by kernel_rfl)) ?_
 refine bo rfl fun b2 => ?_
 refine re_ rfl fun a w hf hO hm => ?_
 obtain rfl := Option.some.inj hm
 exact zi Tryz.results58 hf (.tmp rfl .nil) ⟨b2, rfl, hO⟩

theorem zhy (x_c : scan_Scanner) (R : Str) (w0 : World) (hG : zt w0) {x_c_b0 : Nat} (hs0 : zy w0 (some ⟨x_c_b0, 0, none⟩) [str x_c.f_s, int x_c.f_at]) (hm : zbo x_c = some R) :
    Calls Tryz.prog 103 #[ptr x_c_b0 0] w0 (Ret w0 (fun R => str R) R) := by
 rw [zbo] at hm
 have hF : zu [] := zf
 have hO : Dk.Own w0 [] w0 [] := Dk.Own.refl w0
 have hO := hO.addShr hs0 (by simp [Res.shared])
 refine S.enter tb Tryz.func103 rfl Tryz.ntmps103 rfl ?_ hO hm
 refine vl rfl rfl (fun a w hf hO => zgF Tryz.underlying114 hf rfl rfl) ?_
 refine kn (b' := false) rfl rfl ?_
 refine rc_ rfl fun a w hf hO hm => ?_
 refine zd1 (by kernel_rfl) (by kernel_rfl) hO ?_
 refine zn (fun w hO => zl hf rfl) rfl hf rfl rfl fun a hf => ?_
 refine zn (fun w hO => zaD hf rfl) rfl hf rfl rfl fun a hf => ?_
 refine zn (fun w hO => zw zmC hf rfl) rfl hf rfl rfl fun a hf => ?_
 refine zn (fun w hO => ze (o := 0) z7 (hO.sees (i := 0) rfl) rfl hf rfl) rfl hf rfl rfl fun a hf => ?_
 refine zn (fun w hO => zl hf rfl) rfl hf rfl rfl fun a hf => ?_
 refine zn (fun w hO => zaD hf rfl) rfl hf rfl rfl fun a hf => ?_
 refine zn (fun w hO => zw zmD hf rfl) rfl hf rfl rfl fun a hf => ?_
 refine zn (fun w hO => ze (o := 1) ag_3 (hO.sees (i := 0) rfl) rfl hf rfl) rfl hf rfl rfl fun a hf => ?_
 obtain ⟨s4, hs4, hm⟩ := ob hm
 refine zn (fun w hO => zhP (l := x_c.f_s) Tryz.underlying9 hf rfl rfl hs4) rfl hf rfl rfl fun a hf => ?_
 refine zn (fun w hO => z8 hf rfl) rfl hf rfl rfl fun a hf => ?_
 refine wpQuiet_nil ?_
 intro w hO
 refine S.no tb ?_ hf hO hm
 exact rt Tryz.results103 rfl

theorem za5 (x_c : scan_Scanner) (R : Bool) (w0 : World) (hG : zt w0) {x_c_b0 : Nat} (hs0 : zy w0 (some ⟨x_c_b0, 0, none⟩) [str x_c.f_s, int x_c.f_at]) (hm : zax x_c = some R) :
    Calls Tryz.prog 59 #[ptr x_c_b0 0] w0 (Ret w0 (fun R => .bool R) R) := by
 rw [zax] at hm
 have hF : zu [] := zf
 have hO : Dk.Own w0 [] w0 [] := Dk.Own.refl w0
 have hO := hO.addShr hs0 (by simp [Res.shared])
 refine S.enter tb Tryz.func59 rfl Tryz.ntmps59 rfl ?_ hO hm
 refine cl c_103 rfl (fun r2 w hr2 hO => zhy x_c r2 _ (hG.own hF hO) (hO.sees (i := 0) rfl) hr2) fun r2 hr2 => ?_
 exact rt Tryz.results59 rfl

theorem zc5 (x_c : scan_Scanner) (R : Int) (w0 : World) (hG : zt w0) {x_c_b0 : Nat} (hs0 : zy w0 (some ⟨x_c_b0, 0, none⟩) [str x_c.f_s, int x_c.f_at]) (hm : zbD x_c = some R) :
    Calls Tryz.prog 104 #[ptr x_c_b0 0] w0 (Ret w0 (fun R => int R) R) := by
 rw [zbD] at hm
 have hF : zu [] := zf
 have hO : Dk.Own w0 [] w0 [] := Dk.Own.refl w0
 have hO := hO.addShr hs0 (by simp [Res.shared])
 refine S.enter tb Tryz.func104 rfl Tryz.ntmps104 rfl ?_ hO hm
 refine vl rfl rfl (fun a w hf hO => zgF Tryz.underlying114 hf rfl rfl) ?_
 refine kn (b' := false) rfl rfl ?_
 refine ld 0 rfl rfl ?_
 exact rt Tryz.results104 rfl

theorem zbw (x_c : scan_Scanner) (R : UInt8 × Bool) (w0 : World) (hG : zt w0) {x_c_b0 : Nat} (hs0 : zy w0 (some ⟨x_c_b0, 0, none⟩) [str x_c.f_s, int x_c.f_at]) (hm : zI x_c = some R) :
    Calls Tryz.prog 106 #[ptr x_c_b0 0] w0 (Ret w0 (fun R => .tuple #[zak R.1, .bool R.2]) R) := by
 rw [zI] at hm
 have hF : zu [] := zf
 have hO : Dk.Own w0 [] w0 [] := Dk.Own.refl w0
 have hO := hO.addShr hs0 (by simp [Res.shared])
 refine S.enter tb Tryz.func106 rfl Tryz.ntmps106 rfl ?_ hO hm
 refine cl ztx rfl (fun r2 w hr2 hO => za5 x_c r2 _ (hG.own hF hO) (hO.sees (i := 0) rfl) hr2) fun r2 hr2 => ?_
 refine br rfl (fun hc4 => ?_) fun hc4 => ?_
 exact rt Tryz.results106 rfl
 refine rc_ rfl fun a w hf hO hm => ?_
 refine zd1 (by kernel_rfl) (by kernel_rfl) hO ?_
 refine zn (fun w hO => zl hf rfl) rfl hf rfl rfl fun a hf => ?_
 refine zn (fun w hO => zaD hf rfl) rfl hf rfl rfl fun a hf => ?_
 refine zn (fun w hO => zw zmC hf rfl) rfl hf rfl rfl fun a hf => ?_
 refine zn (fun w hO => ze (o := 0) z7 (hO.sees (i := 0) rfl) rfl hf rfl) rfl hf rfl rfl fun a hf => ?_
 refine zn (fun w hO => zl hf rfl) rfl hf rfl rfl fun a hf => ?_
 refine zn (fun w hO => zaD hf rfl) rfl hf rfl rfl fun a hf => ?_
 refine zn (fun w hO => zw zmD hf rfl) rfl hf rfl rfl fun a hf => ?_
 refine zn (fun w hO => ze (o := 1) ag_3 (hO.sees (i := 0) rfl) rfl hf rfl) rfl hf rfl rfl fun a hf => ?_
 obtain ⟨b7, hb7, hm⟩ := ob hm
 refine zn (fun w hO => zl3 (l := x_c.f_s) Tryz.underlying9 hf rfl rfl hb7) rfl hf rfl rfl fun a hf => ?_
 refine zn (fun w hO => z8 hf rfl) rfl hf rfl rfl fun a hf => ?_
 refine zn (fun w hO => z8 hf rfl) rfl hf rfl rfl fun a hf => ?_
 refine wpQuiet_nil ?_
 intro w hO
 refine S.no tb ?_ hf hO hm
 exact rt Tryz.results106 rfl

end Go.Proofs
end
section
set_option linter.unusedVariables false
set_option maxHeartbeats 1000000
set_option linter.unusedSimpArgs false
set_option maxRecDepth 100000
namespace Go.Proofs
open Go.Dk Go.Dm Go.RowKit

theorem zE (x_c : scan_Scanner) (x_b : UInt8) (R : Bool × scan_Scanner) (w0 : World) (hG : zt w0) {x_c_b0 : Nat} {F : List Nat} (hF : zu F) (hO : Dk.Own w0 F w0 [.blk x_c_b0 [str x_c.f_s, int x_c.f_at] 148]) (hm : zq x_c x_b = some R) :
    Calls Tryz.prog 63 #[ptr x_c_b0 0, zak x_b] w0 fun e w' => e = .returned (.bool R.1) ∧ Dk.Own w0 F w' [.blk x_c_b0 [str R.2.f_s, int R.2.f_at] 148] := by
 rw [zq] at hm
 refine S.enter tb Tryz.func63 rfl Tryz.ntmps63 rfl ?_ hO hm
 refine cl zqw rfl (fun r2 w hr2 hO => zbw x_c r2 _ (hG.own hF hO) (hO.blkSees (i := 0) rfl) hr2) fun r2 hr2 => ?_
 refine jv 1 [0] [0] (fun J E L => ∃ (t5 : Bool), J ((18, .bool t5) :: E) (L) (zb6 x_c t5)) rfl ?_ ?_
 refine br rfl (fun hc4 => ?_) fun hc4 => ?_
 exact en rfl fun _ _ j => ⟨true, j rfl⟩
 refine vl rfl rfl (fun a w hf hO => zrx (b := r2.1) (c := x_b) hf rfl rfl) ?_
 exact en rfl fun _ _ j => ⟨!(r2.1 == x_b), j rfl⟩
 rintro a w ⟨t5, hf, hO, hm⟩
 rw [zb6] at hm
 refine S.co tb ?_ hf hO hm
 refine br rfl (fun hc6 => ?_) fun hc6 => ?_
 refine re_ rfl fun a w hf hO hm => ?_
 obtain rfl := Option.some.inj hm
 exact zi Tryz.results63 hf (.tmp rfl .nil) ⟨rfl, hO⟩
 refine ld 0 rfl rfl ?_
 refine bi rfl fun i9 hi9 => ?_
 refine st 0 rfl rfl ?_
 refine re_ rfl fun a w hf hO hm => ?_
 obtain rfl := Option.some.inj hm
 exact zi Tryz.results63 hf (.tmp rfl .nil) ⟨rfl, hO⟩

theorem zgC (x_p : commas_splitter) (x_at : Int) (R : commas_splitter) (w0 : World) (hG : zt w0) {x_p_b0 : Nat} {x_p_b1 : Nat} {x_p_p2 : Option Addr} {x_p_c2 : Nat} {F : List Nat} (hF : zu F) (hO : Dk.Own w0 F w0 [.blk x_p_b0 [ptr x_p_b1 0, .slice x_p_p2 x_p.f_out.length x_p_c2, int x_p.f_from, str x_p.f_s] 117, .blk x_p_b1 [str x_p.Scanner.f_s, int x_p.Scanner.f_at] 148, .row (.slice x_p_p2 x_p.f_out.length x_p_c2) 9 1 x_p.f_out.length (cells zg x_p.f_out)]) (hm : zbz x_p x_at = some R) :
    Calls Tryz.prog 61 #[ptr x_p_b0 0, int x_at] w0 fun e w' => ∃ (p0 : Option Addr) (c0 : Nat), e = .returned (.tuple #[]) ∧ Dk.Own w0 F w' [.blk x_p_b0 [ptr x_p_b1 0, .slice p0 R.f_out.length c0, int R.f_from, str R.f_s] 117, .blk x_p_b1 [str R.Scanner.f_s, int R.Scanner.f_at] 148, .row (.slice p0 R.f_out.length c0) 9 1 R.f_out.length (cells zg R.f_out)] := by
 rw [zbz] at hm
 refine S.enter tb Tryz.func61 rfl Tryz.ntmps61 rfl ?_ hO hm
 refine jv 0 [0] [1] (fun J E L => ∃ (p10 : Option Addr) (c11 : Nat) (l12 : List Str), J (E) (.blk x_p_b0 [ptr x_p_b1 0, .slice p10 l12.length c11, int x_p.f_from, str x_p.f_s] 117 :: .row (.slice p10 l12.length c11) 9 1 l12.length (cells zg l12) :: L) (zbp x_p l12)) rfl ?_ ?_
 refine rc_ rfl fun a w hf hO hm => ?_
 refine zd1 (by kernel_rfl) (by kernel_rfl) hO ?_
 refine zn (fun w hO => zl hf rfl) rfl hf rfl rfl fun a hf => ?_
 refine zn (fun w hO => zaD hf rfl) rfl hf rfl rfl fun a hf => ?_
 refine zn (fun w hO => zw zsv hf rfl) rfl hf rfl rfl fun a hf => ?_
 refine zn (fun w hO => ze (o := 3) z7 (hO.blkSees (i := 0) rfl) rfl hf rfl) rfl hf rfl rfl fun a hf => ?_
 refine zn (fun w hO => zl hf rfl) rfl hf rfl rfl fun a hf => ?_
 refine zn (fun w hO => zaD hf rfl) rfl hf rfl rfl fun a hf => ?_
 refine zn (fun w hO => zw zsu hf rfl) rfl hf rfl rfl fun a hf => ?_
 refine zn (fun w hO => ze (o := 2) ag_3 (hO.blkSees (i := 0) rfl) rfl hf rfl) rfl hf rfl rfl fun a hf => ?_
 refine zn (fun w hO => zl hf rfl) rfl hf rfl rfl fun a hf => ?_
 obtain ⟨s1, hs1, hm⟩ := ob hm
 refine zn (fun w hO => zl4 (l := x_p.f_s) Tryz.underlying9 hf rfl rfl rfl hs1) rfl hf rfl rfl fun a hf => ?_
 obtain ⟨r2, hr2, hm⟩ := ob hm
 refine ztn (fun w hO => zh zt3 hf (vs := [str s1, str [32, 9]]) rfl) rfl hf rfl rfl (fun w hO => (zf3 s1 [32, 9] r2 _ (hG.own hF hO) hr2).mono fun e w' ⟨he, hb⟩ => ⟨he, hO.grow hb⟩) fun a hf => ?_
 refine zn (fun w hO => z8 hf rfl) rfl hf rfl rfl fun a hf => ?_
 refine wpQuiet_nil ?_
 intro w hO
 refine S.no tb ?_ hf hO hm
 refine br rfl (fun hc5 => ?_) fun hc5 => ?_
 refine ld 0 rfl rfl ?_
 refine rw_ rfl fun a w hf hO hm => ?_
 refine zm (vs := [(0, str r2)]) (cs := [str r2]) (e := 9) (sz := 1) hf rfl rfl (fun w => by kernel_rfl) rfl rfl hO fun a b6 w hf hO => ?_
 refine S.op tb ?_ hf hO hm
 refine rw_ rfl fun a w hf hO hm => ?_
 obtain ⟨hg9, hm⟩ := og hm
 refine zae ziE (enc := zg) (xs := x_p.f_out) (ys := ([r2] : List Str)) (i := 3) (fun _ => rfl) rfl (hO.rowSees (i := 0) rfl) (by simp [cells, zg, Value.oneCell']) hg9 hf rfl rfl rfl hO fun a p7 c8 w hf hO => ?_
 refine S.op tb ?_ hf hO hm
 refine st 1 rfl rfl ?_
 exact ec [1, 3, 2] rfl rfl rfl fun _ _ j => ⟨p7, c8, x_p.f_out ++ ([r2] : List Str), j rfl⟩
 exact ec [0, 2, 1] rfl rfl rfl fun _ _ j => ⟨x_p_p2, x_p_c2, x_p.f_out, j rfl⟩
 rintro a w ⟨p10, c11, l12, hf, hO, hm⟩
 rw [zbp] at hm
 refine S.co tb ?_ hf hO hm
 refine ld 0 rfl rfl ?_
 refine cl zsA rfl (fun r13 w hr13 hO => zc5 x_p.Scanner r13 _ (hG.own hF hO) (hO.blkSees (i := 2) rfl) hr13) fun r13 hr13 => ?_
 refine st 0 rfl rfl ?_
 refine rn_ rfl fun a w hf hO hm => ?_
 obtain rfl := Option.some.inj hm
 exact zhV Tryz.results61 hf .nil ⟨p10, c11, rfl, (hO.choose [0, 2, 1] rfl)⟩

theorem zih (x_p : commas_splitter) (R : Bool × commas_splitter) (w0 : World) (hG : zt w0) {x_p_b0 : Nat} {x_p_b1 : Nat} {x_p_p2 : Option Addr} {x_p_c2 : Nat} {F : List Nat} (hF : zu F) (hO : Dk.Own w0 F w0 [.blk x_p_b0 [ptr x_p_b1 0, .slice x_p_p2 x_p.f_out.length x_p_c2, int x_p.f_from, str x_p.f_s] 117, .blk x_p_b1 [str x_p.Scanner.f_s, int x_p.Scanner.f_at] 148, .row (.slice x_p_p2 x_p.f_out.length x_p_c2) 9 1 x_p.f_out.length (cells zg x_p.f_out)]) (hm : zbc x_p = some R) :
    Calls Tryz.prog 105 #[ptr x_p_b0 0] w0 fun e w' => ∃ (p0 : Option Addr) (c0 : Nat), e = .returned (.bool R.1) ∧ Dk.Own w0 F w' [.blk x_p_b0 [ptr x_p_b1 0, .slice p0 R.2.f_out.length c0, int R.2.f_from, str R.2.f_s] 117, .blk x_p_b1 [str R.2.Scanner.f_s, int R.2.Scanner.f_at] 148, .row (.slice p0 R.2.f_out.length c0) 9 1 R.2.f_out.length (cells zg R.2.f_out)] := by
 rw [zbc] at hm
 refine S.enter tb Tryz.func105 rfl Tryz.ntmps105 rfl ?_ hO hm
 refine jv 0 [] [0, 2] (fun J E L => ∃ (s33 : Str) (i34 : Int), J (E) (.blk x_p_b1 [str s33, int i34] 148 :: L) (zcO x_p s33 i34)) rfl ?_ ?_
 refine ch [1, 0, 2] rfl rfl ?_
 refine lv [0] [1, 2] (fun J E L k => ∃ (s3 : Str) (i4 : Int) (i5 : Int), J ((3, int i5) :: E) (.blk x_p_b1 [str s3, int i4] 148 :: L) (zr x_p k s3 i4 i5)) rfl (fun _ _ j => ⟨x_p.Scanner.f_s, x_p.Scanner.f_at, 1, j rfl⟩) ?_
 rintro n1 a w ⟨s3, i4, i5, hf, hO, hm⟩
 obtain _ | n1 := n1
 rw [zr] at hm
 cases hm
 rw [zr] at hm
 refine S.co tb ?_ hf hO hm
 refine br rfl (fun hc7 => ?_) fun hc7 => ?_
 refine ld 1 rfl rfl ?_
 refine cl zqw rfl (fun r9 w hr9 hO => zbw (⟨s3, i4⟩ : scan_Scanner) r9 _ (hG.own hF hO) (hO.blkSees (i := 0) rfl) hr9) fun r9 hr9 => ?_
 refine br rfl (fun hc12 => ?_) fun hc12 => ?_
 refine re_ rfl fun a w hf hO hm => ?_
 obtain rfl := Option.some.inj hm
 exact zi Tryz.results105 hf (.tmp rfl .nil) ⟨x_p_p2, x_p_c2, rfl, (hO.choose [1, 0, 2] rfl)⟩
 refine ld 1 rfl rfl ?_
 refine rw_ rfl fun a w hf hO hm => ?_
 obtain ⟨r15, hr15, hm⟩ := ob hm
 have hch16 := (show Dk.Own w0 F _ ([.blk x_p_b1 [str s3, int i4] 148] ++ [.blk x_p_b0 [ptr x_p_b1 0, .slice x_p_p2 x_p.f_out.length x_p_c2, int x_p.f_from, str x_p.f_s] 117, .row (.slice x_p_p2 x_p.f_out.length x_p_c2) 9 1 x_p.f_out.length (cells zg x_p.f_out)]) from hO)
 have hfar16 := Dk.Own.far hch16 rfl hF hG.size
 have hlend16 := hch16.lend (S := []) rfl trivial
 have hcl16 := zE (⟨s3, i4⟩ : scan_Scanner) r9.1 r15 _ (hG.own hF hO) hfar16 hlend16 hr15
 refine zj (zh zmH hf (vs := [ptr x_p_b1 0, zak r9.1]) rfl) rfl hf rfl rfl (hcl16) ?_
 rintro e w' ⟨he, hO'⟩
 refine ⟨_, he, fun a hf => ?_⟩
 have hO := hch16.back rfl hO' rfl
 refine S.op tb ?_ hf hO hm
 refine vl rfl rfl (fun a w hf hO => zaL (b := r9.1) (c := 40) hf rfl rfl) ?_
 refine br rfl (fun hc20 => ?_) fun hc20 => ?_
 refine bi rfl fun i21 hi21 => ?_
 exact en rfl fun _ _ j => ⟨_, Nat.lt_succ_self _, r15.2.f_s, r15.2.f_at, i21, j rfl⟩
 refine vl rfl rfl (fun a w hf hO => zaL (b := r9.1) (c := 41) hf rfl rfl) ?_
 refine br rfl (fun hc23 => ?_) fun hc23 => ?_
 refine bi rfl fun i24 hi24 => ?_
 exact en rfl fun _ _ j => ⟨_, Nat.lt_succ_self _, r15.2.f_s, r15.2.f_at, i24, j rfl⟩
 refine vl rfl rfl (fun a w hf hO => zaL (b := r9.1) (c := 92) hf rfl rfl) ?_
 refine br rfl (fun hc26 => ?_) fun hc26 => ?_
 refine ld 1 rfl rfl ?_
 refine cl zqw rfl (fun r27 w hr27 hO => zbw r15.2 r27 _ (hG.own hF hO) (hO.blkSees (i := 0) rfl) hr27) fun r27 hr27 => ?_
 refine br rfl (fun hc30 => ?_) fun hc30 => ?_
 refine ld 1 rfl rfl ?_
 refine rw_ rfl fun a w hf hO hm => ?_
 obtain ⟨r31, hr31, hm⟩ := ob hm
 have hch32 := (show Dk.Own w0 F _ ([.blk x_p_b1 [str r15.2.f_s, int r15.2.f_at] 148] ++ [.blk x_p_b0 [ptr x_p_b1 0, .slice x_p_p2 x_p.f_out.length x_p_c2, int x_p.f_from, str x_p.f_s] 117, .row (.slice x_p_p2 x_p.f_out.length x_p_c2) 9 1 x_p.f_out.length (cells zg x_p.f_out)]) from hO)
 have hfar32 := Dk.Own.far hch32 rfl hF hG.size
 have hlend32 := hch32.lend (S := []) rfl trivial
 have hcl32 := zE r15.2 r27.1 r31 _ (hG.own hF hO) hfar32 hlend32 hr31
 refine zj (zh zmH hf (vs := [ptr x_p_b1 0, zak r27.1]) rfl) rfl hf rfl rfl (hcl32) ?_
 rintro e w' ⟨he, hO'⟩
 refine ⟨_, he, fun a hf => ?_⟩
 have hO := hch32.back rfl hO' rfl
 refine S.op tb ?_ hf hO hm
 exact en rfl fun _ _ j => ⟨_, Nat.lt_succ_self _, r31.2.f_s, r31.2.f_at, i5, j rfl⟩
 exact en rfl fun _ _ j => ⟨_, Nat.lt_succ_self _, r15.2.f_s, r15.2.f_at, i5, j rfl⟩
 exact en rfl fun _ _ j => ⟨_, Nat.lt_succ_self _, r15.2.f_s, r15.2.f_at, i5, j rfl⟩
 exact en rfl fun _ _ j => ⟨s3, i4, j rfl⟩
 rintro a w ⟨s33, i34, hf, hO, hm⟩
 rw [zcO] at hm
 refine S.co tb ?_ hf hO hm
 refine re_ rfl fun a w hf hO hm => ?_
 obtain rfl := Option.some.inj hm
 exact zi Tryz.results105 hf (.tmp rfl .nil) ⟨x_p_p2, x_p_c2, rfl, (hO.choose [1, 0, 2] rfl)⟩

theorem ziB (x_b : UInt8) (R : Bool) (w0 : World) (hG : zt w0) (hm : zfl x_b = some R) :
    Calls Tryz.prog 216 #[zak x_b] w0 (Ret w0 (fun R => .bool R) R) := by
 rw [zfl] at hm
 have hF : zu [] := zf
 have hO : Dk.Own w0 [] w0 [] := Dk.Own.refl w0
 refine S.enter tb Tryz.func216 rfl Tryz.ntmps216 rfl ?_ hO hm
 refine jv 0 [] [] (fun J E L => ∃ (t3 : Bool), J ((2, .bool t3) :: E) (L) (zdQ t3)) rfl ?_ ?_
 refine vl rfl rfl (fun a w hf hO => zry (b := x_b) (c := 32) hf rfl rfl) ?_
 refine br rfl (fun hc2 => ?_) fun hc2 => ?_
 refine vl rfl rfl (fun a w hf hO => zvl (b := x_b) (c := 127) hf rfl rfl) ?_
 exact en rfl fun _ _ j => ⟨decide (x_b < 127), j rfl⟩
 exact en rfl fun _ _ j => ⟨false, j rfl⟩
 rintro a w ⟨t3, hf, hO, hm⟩
 rw [zdQ] at hm
 refine S.co tb ?_ hf hO hm
 exact rt Tryz.results216 rfl

theorem zjT (x_b : UInt8) (R : Bool) (w0 : World) (hG : zt w0) (hm : zdm x_b = some R) :
    Calls Tryz.prog 217 #[zak x_b] w0 (Ret w0 (fun R => .bool R) R) := by
 rw [zdm] at hm
 have hF : zu [] := zf
 have hO : Dk.Own w0 [] w0 [] := Dk.Own.refl w0
 refine S.enter tb Tryz.func217 rfl Tryz.ntmps217 rfl ?_ hO hm
 refine jv 0 [] [] (fun J E L => ∃ (t3 : Bool), J ((2, .bool t3) :: E) (L) (zeQ t3)) rfl ?_ ?_
 refine vl rfl rfl (fun a w hf hO => zaL (b := x_b) (c := 32) hf rfl rfl) ?_
 refine br rfl (fun hc2 => ?_) fun hc2 => ?_
 exact en rfl fun _ _ j => ⟨true, j rfl⟩
 refine vl rfl rfl (fun a w hf hO => zaL (b := x_b) (c := 9) hf rfl rfl) ?_
 exact en rfl fun _ _ j => ⟨x_b == 9, j rfl⟩
 rintro a w ⟨t3, hf, hO, hm⟩
 rw [zeQ] at hm
 refine S.co tb ?_ hf hO hm
 exact rt Tryz.results217 rfl

theorem zd9 (x_b : UInt8) (R : Bool) (w0 : World) (hG : zt w0) (hm : zaP x_b = some R) :
    Calls Tryz.prog 168 #[zak x_b] w0 (Ret w0 (fun R => .bool R) R) := by
 rw [zaP] at hm
 have hF : zu [] := zf
 have hO : Dk.Own w0 [] w0 [] := Dk.Own.refl w0
 refine S.enter tb Tryz.func168 rfl Tryz.ntmps168 rfl ?_ hO hm
 refine jv 0 [] [] (fun J E L => ∃ (t6 : Bool), J ((2, .bool t6) :: E) (L) (zdv t6)) rfl ?_ ?_
 refine cl c_216 rfl (fun r2 w hr2 hO => ziB x_b r2 _ (hG.own hF hO) hr2) fun r2 hr2 => ?_
 refine br rfl (fun hc3 => ?_) fun hc3 => ?_
 exact en rfl fun _ _ j => ⟨true, j rfl⟩
 refine cl c_217 rfl (fun r4 w hr4 hO => zjT x_b r4 _ (hG.own hF hO) hr4) fun r4 hr4 => ?_
 refine br rfl (fun hc5 => ?_) fun hc5 => ?_
 exact en rfl fun _ _ j => ⟨true, j rfl⟩
 refine vl rfl rfl (fun a w hf hO => zry (b := x_b) (c := 127) hf rfl rfl) ?_
 exact en rfl fun _ _ j => ⟨decide (127 < x_b), j rfl⟩
 rintro a w ⟨t6, hf, hO, hm⟩
 rw [zdv] at hm
 refine S.co tb ?_ hf hO hm
 exact rt Tryz.results168 rfl

theorem zkI (x_r : quoted_reader) (R : Bool × quoted_reader) (w0 : World) (hG : zt w0) {x_r_b0 : Nat} {x_r_b1 : Nat} {x_r_p2 : Option Addr} {x_r_c2 : Nat} {F : List Nat} (hF : zu F) (hO : Dk.Own w0 F w0 [.blk x_r_b0 [ptr x_r_b1 0, .slice x_r_p2 x_r.f_out.length x_r_c2] 201, .blk x_r_b1 [str x_r.Scanner.f_s, int x_r.Scanner.f_at] 148, .row (.slice x_r_p2 x_r.f_out.length x_r_c2) 5 1 x_r.f_out.length (cells zaO x_r.f_out)]) (hm : zbS x_r = some R) :
    Calls Tryz.prog 158 #[ptr x_r_b0 0] w0 fun e w' => ∃ (p0 : Option Addr) (c0 : Nat), e = .returned (.bool R.1) ∧ Dk.Own w0 F w' [.blk x_r_b0 [ptr x_r_b1 0, .slice p0 R.2.f_out.length c0] 201, .blk x_r_b1 [str R.2.Scanner.f_s, int R.2.Scanner.f_at] 148, .row (.slice p0 R.2.f_out.length c0) 5 1 R.2.f_out.length (cells zaO R.2.f_out)] := by
 rw [zbS] at hm
 refine S.enter tb Tryz.func158 rfl Tryz.ntmps158 rfl ?_ hO hm
 refine ld 0 rfl rfl ?_
 refine rw_ rfl fun a w hf hO hm => ?_
 obtain ⟨r2, hr2, hm⟩ := ob hm
 have hch3 := (show Dk.Own w0 F _ ([.blk x_r_b1 [str x_r.Scanner.f_s, int x_r.Scanner.f_at] 148] ++ [.blk x_r_b0 [ptr x_r_b1 0, .slice x_r_p2 x_r.f_out.length x_r_c2] 201, .row (.slice x_r_p2 x_r.f_out.length x_r_c2) 5 1 x_r.f_out.length (cells zaO x_r.f_out)]) from hO.choose [1, 0, 2] rfl)
 have hfar3 := Dk.Own.far hch3 rfl hF hG.size
 have hlend3 := hch3.lend (S := []) rfl trivial
 have hcl3 := zE x_r.Scanner 92 r2 _ (hG.own hF hO) hfar3 hlend3 hr2
 refine zj (zh zmH hf (vs := [ptr x_r_b1 0, zak 92]) rfl) rfl hf rfl rfl (hcl3) ?_
 rintro e w' ⟨he, hO'⟩
 refine ⟨_, he, fun a hf => ?_⟩
 have hO := hch3.back rfl hO' rfl
 refine S.op tb ?_ hf hO hm
 refine ld 1 rfl rfl ?_
 refine cl zqw rfl (fun r5 w hr5 hO => zbw r2.2 r5 _ (hG.own hF hO) (hO.blkSees (i := 0) rfl) hr5) fun r5 hr5 => ?_
 refine jv 1 [0, 3] [0, 1, 2] (fun J E L => ∃ (t9 : Bool), J ((24, .bool t9) :: E) (L) (zbO x_r r2 r5 t9)) rfl ?_ ?_
 refine br rfl (fun hc7 => ?_) fun hc7 => ?_
 exact en rfl fun _ _ j => ⟨true, j rfl⟩
 refine cl zsE rfl (fun r8 w hr8 hO => zd9 r5.1 r8 _ (hG.own hF hO) hr8) fun r8 hr8 => ?_
 exact en rfl fun _ _ j => ⟨!r8, j rfl⟩
 rintro a w ⟨t9, hf, hO, hm⟩
 rw [zbO] at hm
 refine S.co tb ?_ hf hO hm
 refine br rfl (fun hc10 => ?_) fun hc10 => ?_
 refine re_ rfl fun a w hf hO hm => ?_
 obtain rfl := Option.some.inj hm
 exact zi Tryz.results158 hf (.tmp rfl .nil) ⟨x_r_p2, x_r_c2, rfl, (hO.choose [1, 0, 2] rfl)⟩
 refine ld 1 rfl rfl ?_
 refine rw_ rfl fun a w hf hO hm => ?_
 refine zm (vs := [(0, zak r5.1)]) (cs := [zak r5.1]) (e := 5) (sz := 1) hf rfl rfl (fun w => by kernel_rfl) rfl rfl hO fun a b13 w hf hO => ?_
 refine S.op tb ?_ hf hO hm
 refine rw_ rfl fun a w hf hO hm => ?_
 obtain ⟨hg16, hm⟩ := og hm
 refine zae zre (enc := zaO) (xs := x_r.f_out) (ys := [r5.1]) (i := 3) (fun _ => rfl) rfl (hO.rowSees (i := 0) rfl) (by simp [cells, zaO, Value.oneCell']) hg16 hf rfl rfl rfl hO fun a p14 c15 w hf hO => ?_
 refine S.op tb ?_ hf hO hm
 refine st 2 rfl rfl ?_
 refine ld 2 rfl rfl ?_
 refine rw_ rfl fun a w hf hO hm => ?_
 obtain ⟨r18, hr18, hm⟩ := ob hm
 have hch19 := (show Dk.Own w0 F _ ([.blk x_r_b1 [str r2.2.f_s, int r2.2.f_at] 148] ++ [.row (.slice (some ⟨b13, 0, none⟩) ([r5.1].length) 1) 5 1 ([r5.1].length) (cells zaO [r5.1]), .blk x_r_b0 [ptr x_r_b1 0, .slice p14 ((x_r.f_out ++ [r5.1]).length) c15] 201, .row (.slice p14 ((x_r.f_out ++ [r5.1]).length) c15) 5 1 ((x_r.f_out ++ [r5.1]).length) (cells zaO (x_r.f_out ++ [r5.1]))]) from hO.choose [1, 0, 2, 3] rfl)
 have hfar19 := Dk.Own.far hch19 rfl hF hG.size
 have hlend19 := hch19.lend (S := []) rfl trivial
 have hcl19 := zE r2.2 r5.1 r18 _ (hG.own hF hO) hfar19 hlend19 hr18
 refine zj (zh zmH hf (vs := [ptr x_r_b1 0, zak r5.1]) rfl) rfl hf rfl rfl (hcl19) ?_
 rintro e w' ⟨he, hO'⟩
 refine ⟨_, he, fun a hf => ?_⟩
 have hO := hch19.back rfl hO' rfl
 refine S.op tb ?_ hf hO hm
 refine re_ rfl fun a w hf hO hm => ?_
 obtain rfl := Option.some.inj hm
 exact zi Tryz.results158 hf (.tmp rfl .nil) ⟨p14, c15, rfl, (hO.choose [2, 0, 3] rfl)⟩

theorem zlb (x_c : scan_Scanner) (x_at : Int) (R : Bool × scan_Scanner) (w0 : World) (hG : zt w0) {x_c_b0 : Nat} {F : List Nat} (hF : zu F) (hO : Dk.Own w0 F w0 [.blk x_c_b0 [str x_c.f_s, int x_c.f_at] 148]) (hm : zc9 x_c x_at = some R) :
    Calls Tryz.prog 159 #[ptr x_c_b0 0, int x_at] w0 fun e w' => e = .returned (.bool R.1) ∧ Dk.Own w0 F w' [.blk x_c_b0 [str R.2.f_s, int R.2.f_at] 148] := by
 rw [zc9] at hm
 refine S.enter tb Tryz.func159 rfl Tryz.ntmps159 rfl ?_ hO hm
 refine jv 1 [0, 1] [0] (fun J E L => ∃ (t4 : Bool), J ((12, .bool t4) :: E) (L) (zb7 x_c x_at t4)) rfl ?_ ?_
 refine br rfl (fun hc2 => ?_) fun hc2 => ?_
 exact en rfl fun _ _ j => ⟨true, j rfl⟩
 refine cl zsA rfl (fun r3 w hr3 hO => zc5 x_c r3 _ (hG.own hF hO) (hO.blkSees (i := 0) rfl) hr3) fun r3 hr3 => ?_
 exact en rfl fun _ _ j => ⟨decide (r3 < x_at), j rfl⟩
 rintro a w ⟨t4, hf, hO, hm⟩
 rw [zb7] at hm
 refine S.co tb ?_ hf hO hm
 refine br rfl (fun hc5 => ?_) fun hc5 => ?_
 refine re_ rfl fun a w hf hO hm => ?_
 obtain rfl := Option.some.inj hm
 exact zi Tryz.results159 hf (.tmp rfl .nil) ⟨rfl, hO⟩
 refine vl rfl rfl (fun a w hf hO => zqb Tryz.underlying114 hf rfl rfl) ?_
 refine kn (b' := true) rfl rfl ?_
 refine st 0 rfl rfl ?_
 refine re_ rfl fun a w hf hO hm => ?_
 obtain rfl := Option.some.inj hm
 exact zi Tryz.results159 hf (.tmp rfl .nil) ⟨rfl, hO⟩

theorem zlp (x_c : scan_Scanner) (R : Str × Bool × scan_Scanner) (w0 : World) (hG : zt w0) {x_c_b0 : Nat} {F : List Nat} (hF : zu F) (hO : Dk.Own w0 F w0 [.blk x_c_b0 [str x_c.f_s, int x_c.f_at] 148]) (hm : zes x_c = some R) :
    Calls Tryz.prog 107 #[ptr x_c_b0 0] w0 fun e w' => e = .returned (.tuple #[str R.1, .bool R.2.1]) ∧ Dk.Own w0 F w' [.blk x_c_b0 [str R.2.2.f_s, int R.2.2.f_at] 148] := by
 rw [zes] at hm
 refine S.enter tb Tryz.func107 rfl Tryz.ntmps107 rfl ?_ hO hm
 refine cl zsA rfl (fun r2 w hr2 hO => zc5 x_c r2 _ (hG.own hF hO) (hO.blkSees (i := 0) rfl) hr2) fun r2 hr2 => ?_
 refine vl rfl rfl (fun a w hf hO => zB (vs := [(0, ptr x_c_b0 0)]) (v := .agg #[ptr x_c_b0 0, .slice none 0 0]) hf rfl (by kernel_rfl)) ?_
 refine bo rfl fun b4 => ?_
 refine nl 5 1 ?_
 refine ld 1 rfl rfl ?_
 refine rw_ rfl fun a w hf hO hm => ?_
 obtain ⟨r6, hr6, hm⟩ := ob hm
 have hch7 := (show Dk.Own w0 F _ ([.blk x_c_b0 [str x_c.f_s, int x_c.f_at] 148] ++ [.row (.slice none 0 0) 5 1 0 (cells zaO []), .blk b4 [ptr x_c_b0 0, .slice none 0 0] 201]) from hO.choose [2, 0, 1] rfl)
 have hfar7 := Dk.Own.far hch7 rfl hF hG.size
 have hlend7 := hch7.lend (S := []) rfl trivial
 have hcl7 := zE x_c 34 r6 _ (hG.own hF hO) hfar7 hlend7 hr6
 refine zj (zh zmH hf (vs := [ptr x_c_b0 0, zak 34]) rfl) rfl hf rfl rfl (hcl7) ?_
 rintro e w' ⟨he, hO'⟩
 refine ⟨_, he, fun a hf => ?_⟩
 have hO := hch7.back rfl hO' rfl
 refine S.op tb ?_ hf hO hm
 refine jv 0 [4, 5] [] (fun J E L => ∃ (t27 : Bool) (s28 : Str) (i29 : Int) (p30 : Option Addr) (c31 : Nat) (l32 : List UInt8), J ((6, .bool t27) :: E) (.blk x_c_b0 [str s28, int i29] 148 :: .row (.slice p30 l32.length c31) 5 1 l32.length (cells zaO l32) :: .blk b4 [ptr x_c_b0 0, .slice p30 l32.length c31] 201 :: L) (zer r2 t27 s28 i29 l32)) rfl ?_ ?_
 refine lv [4, 5] [] (fun J E L k => ∃ (s9 : Str) (i10 : Int) (p11 : Option Addr) (c12 : Nat) (l13 : List UInt8) (t14 : Bool), J ((6, .bool t14) :: E) (.blk x_c_b0 [str s9, int i10] 148 :: .row (.slice p11 l13.length c12) 5 1 l13.length (cells zaO l13) :: .blk b4 [ptr x_c_b0 0, .slice p11 l13.length c12] 201 :: L) (zaM r2 k s9 i10 l13 t14)) rfl (fun _ _ j => ⟨r6.2.f_s, r6.2.f_at, none, 0, [], r6.1, j rfl⟩) ?_
 rintro n1 a w ⟨s9, i10, p11, c12, l13, t14, hf, hO, hm⟩
 obtain _ | n1 := n1
 rw [zaM] at hm
 cases hm
 rw [zaM] at hm
 refine S.co tb ?_ hf hO hm
 refine jv 4 [4, 5, 6] [1, 2] (fun J E L => ∃ (t18 : Bool) (s19 : Str) (i20 : Int), J ((25, .bool t18) :: E) (.blk x_c_b0 [str s19, int i20] 148 :: L) (zdw (zaM r2 n1) r2 l13 t14 t18 s19 i20)) rfl ?_ ?_
 refine br rfl (fun hc15 => ?_) fun hc15 => ?_
 refine ld 2 rfl rfl ?_
 refine rw_ rfl fun a w hf hO hm => ?_
 obtain ⟨r16, hr16, hm⟩ := ob hm
 have hch17 := (show Dk.Own w0 F _ ([.blk x_c_b0 [str s9, int i10] 148] ++ [.row (.slice p11 l13.length c12) 5 1 l13.length (cells zaO l13), .blk b4 [ptr x_c_b0 0, .slice p11 l13.length c12] 201]) from hO)
 have hfar17 := Dk.Own.far hch17 rfl hF hG.size
 have hlend17 := hch17.lend (S := []) rfl trivial
 have hcl17 := zE (⟨s9, i10⟩ : scan_Scanner) 34 r16 _ (hG.own hF hO) hfar17 hlend17 hr16
 refine zj (zh zmH hf (vs := [ptr x_c_b0 0, zak 34]) rfl) rfl hf rfl rfl (hcl17) ?_
 rintro e w' ⟨he, hO'⟩
 refine ⟨_, he, fun a hf => ?_⟩
 have hO := hch17.back rfl hO' rfl
 refine S.op tb ?_ hf hO hm
 refine kn (b' := true) hc15 rfl ?_
 exact en rfl fun _ _ j => ⟨!r16.1, r16.2.f_s, r16.2.f_at, j rfl⟩
 exact en rfl fun _ _ j => ⟨false, s9, i10, j rfl⟩
 rintro a w ⟨t18, s19, i20, hf, hO, hm⟩
 rw [zdw] at hm
 refine S.co tb ?_ hf hO hm
 refine br rfl (fun hc21 => ?_) fun hc21 => ?_
 refine rw_ rfl fun a w hf hO hm => ?_
 obtain ⟨r23, hr23, hm⟩ := ob hm
 have hch26 := (show Dk.Own w0 F _ ([.blk b4 [ptr x_c_b0 0, .slice p11 l13.length c12] 201, .blk x_c_b0 [str s19, int i20] 148, .row (.slice p11 l13.length c12) 5 1 l13.length (cells zaO l13)] ++ []) from hO.choose [2, 0, 1] rfl)
 have hfar26 := Dk.Own.far hch26 rfl hF hG.size
 have hlend26 := hch26.lend (S := []) rfl trivial
 have hcl26 := zkI ((⟨(⟨s19, i20⟩ : scan_Scanner), l13⟩ : quoted_reader)) r23 _ (hG.own hF hO) hfar26 hlend26 hr23
 refine zj (zh c_158 hf (vs := [ptr b4 0]) rfl) rfl hf rfl rfl (hcl26) ?_
 rintro e w' ⟨p24, c25, he, hO'⟩
 refine ⟨_, he, fun a hf => ?_⟩
 have hO := hch26.back rfl hO' rfl
 refine S.op tb ?_ hf hO hm
 exact ec [1, 2, 0] rfl rfl rfl fun _ _ j => ⟨_, Nat.lt_succ_self _, r23.2.Scanner.f_s, r23.2.Scanner.f_at, p24, c25, r23.2.f_out, r23.1, j rfl⟩
 exact en rfl fun _ _ j => ⟨t14, s19, i20, p11, c12, l13, j rfl⟩
 rintro a w ⟨t27, s28, i29, p30, c31, l32, hf, hO, hm⟩
 rw [zer] at hm
 refine S.co tb ?_ hf hO hm
 refine br rfl (fun hc34 => ?_) fun hc34 => ?_
 refine ld 2 rfl rfl ?_
 refine rw_ rfl fun a w hf hO hm => ?_
 obtain ⟨r35, hr35, hm⟩ := ob hm
 have hch36 := (show Dk.Own w0 F _ ([.blk x_c_b0 [str s28, int i29] 148] ++ [.row (.slice p30 l32.length c31) 5 1 l32.length (cells zaO l32), .blk b4 [ptr x_c_b0 0, .slice p30 l32.length c31] 201]) from hO)
 have hfar36 := Dk.Own.far hch36 rfl hF hG.size
 have hlend36 := hch36.lend (S := []) rfl trivial
 have hcl36 := zlb (⟨s28, i29⟩ : scan_Scanner) r2 r35 _ (hG.own hF hO) hfar36 hlend36 hr35
 refine zj (zh c_159 hf (vs := [ptr x_c_b0 0, int r2]) rfl) rfl hf rfl rfl (hcl36) ?_
 rintro e w' ⟨he, hO'⟩
 refine ⟨_, he, fun a hf => ?_⟩
 have hO := hch36.back rfl hO' rfl
 refine S.op tb ?_ hf hO hm
 refine re_ rfl fun a w hf hO hm => ?_
 obtain rfl := Option.some.inj hm
 exact zi Tryz.results107 hf (.tmp rfl (.tmp rfl .nil)) ⟨rfl, (hO.sub (.cons_cons _ (.cons _ (.cons _ .slnil))))⟩
 refine ld 2 rfl rfl ?_
 refine vl rfl rfl (fun a w hf hO => zoG (en := zaO) (l := l32) (fun _ => rfl) Tryz.underlying9 Tryz.underlying178 Tryz.underlying5 (hO.rowSees (i := 1) rfl) hf rfl) ?_
 refine re_ rfl fun a w hf hO hm => ?_
 obtain rfl := Option.some.inj hm
 exact zi Tryz.results107 hf (.tmp rfl (.tmp rfl .nil)) ⟨rfl, (hO.sub (.cons_cons _ (.cons _ (.cons _ .slnil))))⟩

theorem zjK (x_p : commas_splitter) (R : Bool × commas_splitter) (w0 : World) (hG : zt w0) {x_p_b0 : Nat} {x_p_b1 : Nat} {x_p_p2 : Option Addr} {x_p_c2 : Nat} {F : List Nat} (hF : zu F) (hO : Dk.Own w0 F w0 [.blk x_p_b0 [ptr x_p_b1 0, .slice x_p_p2 x_p.f_out.length x_p_c2, int x_p.f_from, str x_p.f_s] 117, .blk x_p_b1 [str x_p.Scanner.f_s, int x_p.Scanner.f_at] 148, .row (.slice x_p_p2 x_p.f_out.length x_p_c2) 9 1 x_p.f_out.length (cells zg x_p.f_out)]) (hm : zao x_p = some R) :
    Calls Tryz.prog 60 #[ptr x_p_b0 0] w0 fun e w' => ∃ (p0 : Option Addr) (c0 : Nat), e = .returned (.bool R.1) ∧ Dk.Own w0 F w' [.blk x_p_b0 [ptr x_p_b1 0, .slice p0 R.2.f_out.length c0, int R.2.f_from, str R.2.f_s] 117, .blk x_p_b1 [str R.2.Scanner.f_s, int R.2.Scanner.f_at] 148, .row (.slice p0 R.2.f_out.length c0) 9 1 R.2.f_out.length (cells zg R.2.f_out)] := by
 rw [zao] at hm
 refine S.enter tb Tryz.func60 rfl Tryz.ntmps60 rfl ?_ hO hm
 refine ld 0 rfl rfl ?_
 refine cl zsA rfl (fun r2 w hr2 hO => zc5 x_p.Scanner r2 _ (hG.own hF hO) (hO.blkSees (i := 1) rfl) hr2) fun r2 hr2 => ?_
 refine jv 0 [] [] (fun J E L => ∃ (p32 : Option Addr) (c33 : Nat) (l34 : List Str) (i35 : Int) (s36 : Str) (s37 : Str) (i38 : Int), J (E) (.blk x_p_b0 [ptr x_p_b1 0, .slice p32 l34.length c33, int i35, str s36] 117 :: .blk x_p_b1 [str s37, int i38] 148 :: .row (.slice p32 l34.length c33) 9 1 l34.length (cells zg l34) :: L) (zcg l34 i35 s36 s37 i38)) rfl ?_ ?_
 refine ld 0 rfl rfl ?_
 refine rw_ rfl fun a w hf hO hm => ?_
 obtain ⟨r4, hr4, hm⟩ := ob hm
 have hch5 := (show Dk.Own w0 F _ ([.blk x_p_b1 [str x_p.Scanner.f_s, int x_p.Scanner.f_at] 148] ++ [.blk x_p_b0 [ptr x_p_b1 0, .slice x_p_p2 x_p.f_out.length x_p_c2, int x_p.f_from, str x_p.f_s] 117, .row (.slice x_p_p2 x_p.f_out.length x_p_c2) 9 1 x_p.f_out.length (cells zg x_p.f_out)]) from hO.choose [1, 0, 2] rfl)
 have hfar5 := Dk.Own.far hch5 rfl hF hG.size
 have hlend5 := hch5.lend (S := []) rfl trivial
 have hcl5 := zE x_p.Scanner 44 r4 _ (hG.own hF hO) hfar5 hlend5 hr4
 refine zj (zh zmH hf (vs := [ptr x_p_b1 0, zak 44]) rfl) rfl hf rfl rfl (hcl5) ?_
 rintro e w' ⟨he, hO'⟩
 refine ⟨_, he, fun a hf => ?_⟩
 have hO := hch5.back rfl hO' rfl
 refine S.op tb ?_ hf hO hm
 refine br rfl (fun hc7 => ?_) fun hc7 => ?_
 refine rw_ rfl fun a w hf hO hm => ?_
 obtain ⟨r8, hr8, hm⟩ := ob hm
 have hch11 := (show Dk.Own w0 F _ ([.blk x_p_b0 [ptr x_p_b1 0, .slice x_p_p2 x_p.f_out.length x_p_c2, int x_p.f_from, str x_p.f_s] 117, .blk x_p_b1 [str r4.2.f_s, int r4.2.f_at] 148, .row (.slice x_p_p2 x_p.f_out.length x_p_c2) 9 1 x_p.f_out.length (cells zg x_p.f_out)] ++ []) from hO.choose [1, 0, 2] rfl)
 have hfar11 := Dk.Own.far hch11 rfl hF hG.size
 have hlend11 := hch11.lend (S := []) rfl trivial
 have hcl11 := zgC (⟨r4.2, x_p.f_out, x_p.f_from, x_p.f_s⟩ : commas_splitter) r2 r8 _ (hG.own hF hO) hfar11 hlend11 hr8
 refine zj (zh c_61 hf (vs := [ptr x_p_b0 0, int r2]) rfl) rfl hf rfl rfl (hcl11) ?_
 rintro e w' ⟨p9, c10, he, hO'⟩
 refine ⟨_, he, fun a hf => ?_⟩
 have hO := hch11.back rfl hO' rfl
 refine S.op tb ?_ hf hO hm
 exact en rfl fun _ _ j => ⟨p9, c10, r8.f_out, r8.f_from, r8.f_s, r8.Scanner.f_s, r8.Scanner.f_at, j rfl⟩
 refine ld 1 rfl rfl ?_
 refine rw_ rfl fun a w hf hO hm => ?_
 obtain ⟨r12, hr12, hm⟩ := ob hm
 have hch13 := (show Dk.Own w0 F _ ([.blk x_p_b1 [str r4.2.f_s, int r4.2.f_at] 148] ++ [.blk x_p_b0 [ptr x_p_b1 0, .slice x_p_p2 x_p.f_out.length x_p_c2, int x_p.f_from, str x_p.f_s] 117, .row (.slice x_p_p2 x_p.f_out.length x_p_c2) 9 1 x_p.f_out.length (cells zg x_p.f_out)]) from hO)
 have hfar13 := Dk.Own.far hch13 rfl hF hG.size
 have hlend13 := hch13.lend (S := []) rfl trivial
 have hcl13 := zE r4.2 40 r12 _ (hG.own hF hO) hfar13 hlend13 hr12
 refine zj (zh zmH hf (vs := [ptr x_p_b1 0, zak 40]) rfl) rfl hf rfl rfl (hcl13) ?_
 rintro e w' ⟨he, hO'⟩
 refine ⟨_, he, fun a hf => ?_⟩
 have hO := hch13.back rfl hO' rfl
 refine S.op tb ?_ hf hO hm
 refine br rfl (fun hc15 => ?_) fun hc15 => ?_
 refine rw_ rfl fun a w hf hO hm => ?_
 obtain ⟨r16, hr16, hm⟩ := ob hm
 have hch19 := (show Dk.Own w0 F _ ([.blk x_p_b0 [ptr x_p_b1 0, .slice x_p_p2 x_p.f_out.length x_p_c2, int x_p.f_from, str x_p.f_s] 117, .blk x_p_b1 [str r12.2.f_s, int r12.2.f_at] 148, .row (.slice x_p_p2 x_p.f_out.length x_p_c2) 9 1 x_p.f_out.length (cells zg x_p.f_out)] ++ []) from hO.choose [1, 0, 2] rfl)
 have hfar19 := Dk.Own.far hch19 rfl hF hG.size
 have hlend19 := hch19.lend (S := []) rfl trivial
 have hcl19 := zih (⟨r12.2, x_p.f_out, x_p.f_from, x_p.f_s⟩ : commas_splitter) r16 _ (hG.own hF hO) hfar19 hlend19 hr16
 refine zj (zh c_105 hf (vs := [ptr x_p_b0 0]) rfl) rfl hf rfl rfl (hcl19) ?_
 rintro e w' ⟨p17, c18, he, hO'⟩
 refine ⟨_, he, fun a hf => ?_⟩
 have hO := hch19.back rfl hO' rfl
 refine S.op tb ?_ hf hO hm
 refine re_ rfl fun a w hf hO hm => ?_
 obtain rfl := Option.some.inj hm
 exact zi Tryz.results60 hf (.tmp rfl .nil) ⟨p17, c18, rfl, hO⟩
 refine ld 1 rfl rfl ?_
 refine cl zqw rfl (fun r21 w hr21 hO => zbw r12.2 r21 _ (hG.own hF hO) (hO.blkSees (i := 0) rfl) hr21) fun r21 hr21 => ?_
 refine vl rfl rfl (fun a w hf hO => zaL (b := r21.1) (c := 34) hf rfl rfl) ?_
 refine br rfl (fun hc24 => ?_) fun hc24 => ?_
 refine ld 1 rfl rfl ?_
 refine rw_ rfl fun a w hf hO hm => ?_
 obtain ⟨r25, hr25, hm⟩ := ob hm
 have hch26 := (show Dk.Own w0 F _ ([.blk x_p_b1 [str r12.2.f_s, int r12.2.f_at] 148] ++ [.blk x_p_b0 [ptr x_p_b1 0, .slice x_p_p2 x_p.f_out.length x_p_c2, int x_p.f_from, str x_p.f_s] 117, .row (.slice x_p_p2 x_p.f_out.length x_p_c2) 9 1 x_p.f_out.length (cells zg x_p.f_out)]) from hO)
 have hfar26 := Dk.Own.far hch26 rfl hF hG.size
 have hlend26 := hch26.lend (S := []) rfl trivial
 have hcl26 := zlp r12.2 r25 _ (hG.own hF hO) hfar26 hlend26 hr25
 refine zj (zh c_107 hf (vs := [ptr x_p_b1 0]) rfl) rfl hf rfl rfl (hcl26) ?_
 rintro e w' ⟨he, hO'⟩
 refine ⟨_, he, fun a hf => ?_⟩
 have hO := hch26.back rfl hO' rfl
 refine S.op tb ?_ hf hO hm
 refine re_ rfl fun a w hf hO hm => ?_
 obtain rfl := Option.some.inj hm
 exact zi Tryz.results60 hf (.tmp rfl .nil) ⟨x_p_p2, x_p_c2, rfl, (hO.choose [1, 0, 2] rfl)⟩
 refine ld 1 rfl rfl ?_
 refine rw_ rfl fun a w hf hO hm => ?_
 obtain ⟨r30, hr30, hm⟩ := ob hm
 have hch31 := (show Dk.Own w0 F _ ([.blk x_p_b1 [str r12.2.f_s, int r12.2.f_at] 148] ++ [.blk x_p_b0 [ptr x_p_b1 0, .slice x_p_p2 x_p.f_out.length x_p_c2, int x_p.f_from, str x_p.f_s] 117, .row (.slice x_p_p2 x_p.f_out.length x_p_c2) 9 1 x_p.f_out.length (cells zg x_p.f_out)]) from hO)
 have hfar31 := Dk.Own.far hch31 rfl hF hG.size
 have hlend31 := hch31.lend (S := []) rfl trivial
 have hcl31 := zE r12.2 r21.1 r30 _ (hG.own hF hO) hfar31 hlend31 hr30
 refine zj (zh zmH hf (vs := [ptr x_p_b1 0, zak r21.1]) rfl) rfl hf rfl rfl (hcl31) ?_
 rintro e w' ⟨he, hO'⟩
 refine ⟨_, he, fun a hf => ?_⟩
 have hO := hch31.back rfl hO' rfl
 refine S.op tb ?_ hf hO hm
 exact ec [1, 0, 2] rfl rfl rfl fun _ _ j => ⟨x_p_p2, x_p_c2, x_p.f_out, x_p.f_from, x_p.f_s, r30.2.f_s, r30.2.f_at, j rfl⟩
 rintro a w ⟨p32, c33, l34, i35, s36, s37, i38, hf, hO, hm⟩
 rw [zcg] at hm
 refine S.co tb ?_ hf hO hm
 refine re_ rfl fun a w hf hO hm => ?_
 obtain rfl := Option.some.inj hm
 exact zi Tryz.results60 hf (.tmp rfl .nil) ⟨p32, c33, rfl, hO⟩

theorem zgy (x_s : Str) (R : List Str × Int) (w0 : World) (hG : zt w0) (hm : zda x_s = some R) :
    Calls Tryz.prog 33 #[str x_s] w0 fun e w' => ∃ (p0 : Option Addr) (c0 : Nat), e = .returned (.tuple #[.slice p0 R.1.length c0, int R.2]) ∧ Dk.Own w0 [] w' [.row (.slice p0 R.1.length c0) 9 1 R.1.length (cells zg R.1)] := by
 rw [zda] at hm
 have hF : zu [] := zf
 have hO : Dk.Own w0 [] w0 [] := Dk.Own.refl w0
 refine S.enter tb Tryz.func33 rfl Tryz.ntmps33 rfl ?_ hO hm
 refine nl 9 1 ?_
 refine rw_ rfl fun a w hf hO hm => ?_
 obtain ⟨r2, hr2, hm⟩ := ob hm
 refine zj (zh c_58 hf (vs := [str x_s]) rfl) rfl hf rfl rfl (zjo x_s r2 _ (hG.own hF hO) hr2) ?_
 rintro e w' ⟨b3, he, hO'⟩
 refine ⟨_, he, fun a hf => ?_⟩
 have hO := hO.call hO' (by simp [Res.shared])
 refine S.op tb ?_ hf hO hm
 refine vl rfl rfl (fun a w hf hO => zB (vs := [(0, ptr b3 0), (3, str x_s)]) (v := .agg #[ptr b3 0, .slice none 0 0, int 0, str x_s]) hf rfl (by kernel_rfl)) ?_
 refine bo rfl fun b4 => ?_
 refine nl 9 1 ?_
 refine jv 0 [0, 4] [3] (fun J E L => ∃ (p24 : Option Addr) (c25 : Nat) (l26 : List Str) (i27 : Int) (s28 : Str) (s29 : Str) (i30 : Int), J (E) (.row (.slice p24 l26.length c25) 9 1 l26.length (cells zg l26) :: .blk b4 [ptr b3 0, .slice p24 l26.length c25, int i27, str s28] 117 :: .blk b3 [str s29, int i30] 148 :: L) (zfm x_s l26 i27 s28 s29 i30)) rfl ?_ ?_
 refine lv [0, 4] [3] (fun J E L k => ∃ (p6 : Option Addr) (c7 : Nat) (l8 : List Str) (i9 : Int) (s10 : Str) (s11 : Str) (i12 : Int), J (E) (.row (.slice p6 l8.length c7) 9 1 l8.length (cells zg l8) :: .blk b4 [ptr b3 0, .slice p6 l8.length c7, int i9, str s10] 117 :: .blk b3 [str s11, int i12] 148 :: L) (zbE x_s k l8 i9 s10 s11 i12)) rfl (fun _ _ j => ⟨none, 0, [], 0, x_s, r2.f_s, r2.f_at, j rfl⟩) ?_
 rintro n1 a w ⟨p6, c7, l8, i9, s10, s11, i12, hf, hO, hm⟩
 obtain _ | n1 := n1
 rw [zbE] at hm
 cases hm
 rw [zbE] at hm
 refine S.co tb ?_ hf hO hm
 refine ld 1 rfl rfl ?_
 refine cl ztx rfl (fun r13 w hr13 hO => za5 (⟨s11, i12⟩ : scan_Scanner) r13 _ (hG.own hF hO) (hO.blkSees (i := 2) rfl) hr13) fun r13 hr13 => ?_
 refine br rfl (fun hc15 => ?_) fun hc15 => ?_
 refine rw_ rfl fun a w hf hO hm => ?_
 obtain ⟨r17, hr17, hm⟩ := ob hm
 have hch20 := (show Dk.Own w0 [] _ ([.blk b4 [ptr b3 0, .slice p6 l8.length c7, int i9, str s10] 117, .blk b3 [str s11, int i12] 148, .row (.slice p6 l8.length c7) 9 1 l8.length (cells zg l8)] ++ [.row (.slice none 0 0) 9 1 0 (cells zg [])]) from hO.choose [1, 2, 0, 3] rfl)
 have hfar20 := Dk.Own.far hch20 rfl hF hG.size
 have hlend20 := hch20.lend (S := []) rfl trivial
 have hcl20 := zjK ((⟨(⟨s11, i12⟩ : scan_Scanner), l8, i9, s10⟩ : commas_splitter)) r17 _ (hG.own hF hO) hfar20 hlend20 hr17
 refine zj (zh c_60 hf (vs := [ptr b4 0]) rfl) rfl hf rfl rfl (hcl20) ?_
 rintro e w' ⟨p18, c19, he, hO'⟩
 refine ⟨_, he, fun a hf => ?_⟩
 have hO := hch20.back rfl hO' rfl
 refine S.op tb ?_ hf hO hm
 refine br rfl (fun hc22 => ?_) fun hc22 => ?_
 refine nl 9 1 ?_
 refine re_ rfl fun a w hf hO hm => ?_
 obtain rfl := Option.some.inj hm
 exact zi Tryz.results33 hf (.tmp rfl (.tmp rfl .nil)) ⟨none, 0, rfl, (hO.sub (.cons_cons _ (.cons _ (.cons _ (.cons _ (.cons _ .slnil))))))⟩
 exact ec [2, 0, 1, 3] rfl rfl rfl fun _ _ j => ⟨_, Nat.lt_succ_self _, p18, c19, r17.2.f_out, r17.2.f_from, r17.2.f_s, r17.2.Scanner.f_s, r17.2.Scanner.f_at, j rfl⟩
 exact en rfl fun _ _ j => ⟨p6, c7, l8, i9, s10, s11, i12, j rfl⟩
 rintro a w ⟨p24, c25, l26, i27, s28, s29, i30, hf, hO, hm⟩
 rw [zfm] at hm
 refine S.co tb ?_ hf hO hm
 refine rw_ rfl fun a w hf hO hm => ?_
 obtain ⟨r31, hr31, hm⟩ := ob hm
 have hch34 := (show Dk.Own w0 [] _ ([.blk b4 [ptr b3 0, .slice p24 l26.length c25, int i27, str s28] 117, .blk b3 [str s29, int i30] 148, .row (.slice p24 l26.length c25) 9 1 l26.length (cells zg l26)] ++ [.row (.slice none 0 0) 9 1 0 (cells zg [])]) from hO.choose [1, 2, 0, 3] rfl)
 have hfar34 := Dk.Own.far hch34 rfl hF hG.size
 have hlend34 := hch34.lend (S := []) rfl trivial
 have hcl34 := zgC ((⟨(⟨s29, i30⟩ : scan_Scanner), l26, i27, s28⟩ : commas_splitter)) (x_s.length : Int) r31 _ (hG.own hF hO) hfar34 hlend34 hr31
 refine zj (zh c_61 hf (vs := [ptr b4 0, int (x_s.length : Int)]) rfl) rfl hf rfl rfl (hcl34) ?_
 rintro e w' ⟨p32, c33, he, hO'⟩
 refine ⟨_, he, fun a hf => ?_⟩
 have hO := hch34.back rfl hO' rfl
 refine S.op tb ?_ hf hO hm
 refine ld 0 rfl rfl ?_
 refine re_ rfl fun a w hf hO hm => ?_
 obtain rfl := Option.some.inj hm
 exact zi Tryz.results33 hf (.tmp rfl (.tmp rfl .nil)) ⟨p32, c33, rfl, (hO.sub (.cons _ (.cons _ (.cons_cons _ (.cons _ .slnil)))))⟩

theorem zbI (x_is : UInt8 → Option Bool) (x_l : List Str) (R : Bool) (w0 : World) (hG : zt w0) {x_is_f : Nat} {x_is_p x_is_c : Array Value} (x_is_k : zd Tryz.prog x_is_f) (x_is_h : ∀ (y0 : UInt8) (r : Bool) (w : World), zt w → x_is y0 = some r → Calls Tryz.prog x_is_f (x_is_p ++ [zak y0].toArray ++ x_is_c) w fun e w' => e = .returned (.bool r) ∧ Below w.heap.size w w') {x_l_p0 : Option Addr} {x_l_c0 : Nat} (hs0 : zy w0 x_l_p0 (cells zg x_l)) (hc0 : x_l.length ≤ x_l_c0) (hm : zbT x_is x_l = some R) :
    Calls Tryz.prog 149 #[.func (.func x_is_f) x_is_p x_is_c, .slice x_l_p0 x_l.length x_l_c0] w0 (Ret w0 (fun R => .bool R) R) := by
 rw [zbT] at hm
 have hF : zu [] := zf
 have hO : Dk.Own w0 [] w0 [] := Dk.Own.refl w0
 have hO := hO.addShr hs0 (by simp [Res.shared])
 refine S.enter tb Tryz.func149 rfl Tryz.ntmps149 rfl ?_ hO hm
 refine lv [0, 8, 9] [0] (fun J E L k => ∃ (i3 : Int), J ((10, int i3) :: E) (L) (zcx x_is x_l k i3)) rfl (fun _ _ j => ⟨0, j rfl⟩) ?_
 rintro n1 a w ⟨i3, hf, hO, hm⟩
 obtain _ | n1 := n1
 rw [zcx] at hm
 cases hm
 rw [zcx] at hm
 refine S.co tb ?_ hf hO hm
 refine br rfl (fun hc5 => ?_) fun hc5 => ?_
 refine rw_ rfl fun a w hf hO hm => ?_
 obtain ⟨x7, hx7, hm⟩ := ob hm
 obtain ⟨b8, o9, hix7, hSx7⟩ := zaK (enc := zg) (sz := 1) (xs := x_l) 42 Tryz.underlying42 zfZ (by decide) (fun _ => rfl) (hO.sees (i := 0) rfl) hx7
 refine zS (zk hix7 hf rfl rfl) rfl hf rfl rfl fun a hf => ?_
 refine S.op tb ?_ hf hO hm
 refine vl rfl rfl (fun a w hf hO => ze (o := 0) z7 (hSx7 _ (hO.sees (i := 0) rfl)) rfl hf rfl) ?_
 refine lv [0, 6, 8, 9, 10, 15] [0] (fun J E L k => ∃ (i12 : Int), J ((16, int i12) :: E) (L) (zcw (zcx x_is x_l n1) x_is i3 x7 k i12)) rfl (fun _ _ j => ⟨0, j rfl⟩) ?_
 rintro n2 a w ⟨i12, hf, hO, hm⟩
 obtain _ | n2 := n2
 rw [zcw] at hm
 cases hm
 rw [zcw] at hm
 refine S.co tb ?_ hf hO hm
 refine br rfl (fun hc14 => ?_) fun hc14 => ?_
 refine bi rfl fun b17 hb17 => ?_
 refine rw_ rfl fun a w hf hO hm => ?_
 obtain ⟨r18, hr18, hm⟩ := ob hm
 refine oc (ziZ x_is_k hf rfl (vs := [zak b17]) rfl) hf rfl (x_is_h b17 r18 _ (hG.own hF hO) hr18) hO fun a w' hf hO => ?_
 refine S.op tb ?_ hf hO hm
 refine br rfl (fun hc20 => ?_) fun hc20 => ?_
 exact rt Tryz.results149 rfl
 refine bi rfl fun i23 hi23 => ?_
 exact en rfl fun _ _ j => ⟨_, Nat.lt_succ_self _, i23, j rfl⟩
 refine bi rfl fun i25 hi25 => ?_
 exact en rfl fun _ _ j => ⟨_, Nat.lt_succ_self _, i25, j rfl⟩
 exact rt Tryz.results149 rfl

end Go.Proofs
end
section
set_option linter.unusedVariables false
set_option maxHeartbeats 1000000
set_option linter.unusedSimpArgs false
set_option maxRecDepth 100000
namespace Go.Proofs
open Go.Dk Go.Dm Go.RowKit

theorem zfA (x_b : UInt8) (R : Bool) (w0 : World) (hG : zt w0) (hm : zef x_b = some R) :
    Calls Tryz.prog 202 #[zak x_b] w0 (Ret w0 (fun R => .bool R) R) := by
 rw [zef] at hm
 have hF : zu [] := zf
 have hO : Dk.Own w0 [] w0 [] := Dk.Own.refl w0
 refine S.enter tb Tryz.func202 rfl Tryz.ntmps202 rfl ?_ hO hm
 refine jv 0 [] [] (fun J E L => ∃ (t5 : Bool), J ((2, .bool t5) :: E) (L) (zeR t5)) rfl ?_ ?_
 refine cl zsD rfl (fun r2 w hr2 hO => zeb x_b r2 _ (hG.own hF hO) hr2) fun r2 hr2 => ?_
 refine vl rfl rfl (fun a w hf hO => zl2 (b := r2) (c := 97) hf rfl rfl) ?_
 refine br rfl (fun hc3 => ?_) fun hc3 => ?_
 refine cl zsD rfl (fun r4 w hr4 hO => zeb x_b r4 _ (hG.own hF hO) hr4) fun r4 hr4 => ?_
 refine vl rfl rfl (fun a w hf hO => zl1 (b := r4) (c := 122) hf rfl rfl) ?_
 exact en rfl fun _ _ j => ⟨decide (r4 ≤ 122), j rfl⟩
 exact en rfl fun _ _ j => ⟨false, j rfl⟩
 rintro a w ⟨t5, hf, hO, hm⟩
 rw [zeR] at hm
 refine S.co tb ?_ hf hO hm
 exact rt Tryz.results202 rfl

theorem zc4 (x_b : UInt8) (R : Bool) (w0 : World) (hG : zt w0) (hm : zaQ x_b = some R) :
    Calls Tryz.prog 182 #[zak x_b] w0 (Ret w0 (fun R => .bool R) R) := by
 rw [zaQ] at hm
 have hF : zu [] := zf
 have hO : Dk.Own w0 [] w0 [] := Dk.Own.refl w0
 refine S.enter tb Tryz.func182 rfl Tryz.ntmps182 rfl ?_ hO hm
 refine jv 0 [] [] (fun J E L => ∃ (t3 : Bool), J ((2, .bool t3) :: E) (L) (zeS t3)) rfl ?_ ?_
 refine vl rfl rfl (fun a w hf hO => zl2 (b := x_b) (c := 48) hf rfl rfl) ?_
 refine br rfl (fun hc2 => ?_) fun hc2 => ?_
 refine vl rfl rfl (fun a w hf hO => zl1 (b := x_b) (c := 57) hf rfl rfl) ?_
 exact en rfl fun _ _ j => ⟨decide (x_b ≤ 57), j rfl⟩
 exact en rfl fun _ _ j => ⟨false, j rfl⟩
 rintro a w ⟨t3, hf, hO, hm⟩
 rw [zeS] at hm
 refine S.co tb ?_ hf hO hm
 exact rt Tryz.results182 rfl

theorem ziC (x_b : UInt8) (x_l : Str) (R : Bool) (w0 : World) (hG : zt w0) (hm : zhQ x_b x_l = some R) :
    Calls Tryz.prog 203 #[zak x_b, str x_l] w0 (Ret w0 (fun R => .bool R) R) := by
 rw [zhQ] at hm
 have hF : zu [] := zf
 have hO : Dk.Own w0 [] w0 [] := Dk.Own.refl w0
 refine S.enter tb Tryz.func203 rfl Tryz.ntmps203 rfl ?_ hO hm
 refine cl zqy rfl (fun r2 w hr2 hO => zbx x_l x_b r2 _ (hG.own hF hO) hr2) fun r2 hr2 => ?_
 exact rt Tryz.results203 rfl

theorem zjU (x_b : UInt8) (R : Bool) (w0 : World) (hG : zt w0) (hm : zcD x_b = some R) :
    Calls Tryz.prog 150 #[zak x_b] w0 (Ret w0 (fun R => .bool R) R) := by
 rw [zcD] at hm
 have hF : zu [] := zf
 have hO : Dk.Own w0 [] w0 [] := Dk.Own.refl w0
 refine S.enter tb Tryz.func150 rfl Tryz.ntmps150 rfl ?_ hO hm
 refine jv 0 [] [] (fun J E L => ∃ (t7 : Bool), J ((2, .bool t7) :: E) (L) (zdx t7)) rfl ?_ ?_
 refine cl zt6 rfl (fun r2 w hr2 hO => zfA x_b r2 _ (hG.own hF hO) hr2) fun r2 hr2 => ?_
 refine br rfl (fun hc3 => ?_) fun hc3 => ?_
 exact en rfl fun _ _ j => ⟨true, j rfl⟩
 refine cl zqx rfl (fun r4 w hr4 hO => zc4 x_b r4 _ (hG.own hF hO) hr4) fun r4 hr4 => ?_
 refine br rfl (fun hc5 => ?_) fun hc5 => ?_
 exact en rfl fun _ _ j => ⟨true, j rfl⟩
 refine cl zt7 rfl (fun r6 w hr6 hO => ziC x_b [33, 35, 36, 37, 38, 39, 42, 43, 45, 46, 94, 95, 96, 124, 126] r6 _ (hG.own hF hO) hr6) fun r6 hr6 => ?_
 exact en rfl fun _ _ j => ⟨r6, j rfl⟩
 rintro a w ⟨t7, hf, hO, hm⟩
 rw [zdx] at hm
 refine S.co tb ?_ hf hO hm
 exact rt Tryz.results150 rfl

theorem zg7 (x_s : Str) (R : Bool) (w0 : World) (hG : zt w0) (hm : zdH x_s = some R) :
    Calls Tryz.prog 90 #[str x_s] w0 (Ret w0 (fun R => .bool R) R) := by
 rw [zdH] at hm
 have hF : zu [] := zf
 have hO : Dk.Own w0 [] w0 [] := Dk.Own.refl w0
 refine S.enter tb Tryz.func90 rfl Tryz.ntmps90 rfl ?_ hO hm
 refine jv 0 [] [] (fun J E L => ∃ (t5 : Bool), J ((2, .bool t5) :: E) (L) (zet t5)) rfl ?_ ?_
 refine br rfl (fun hc2 => ?_) fun hc2 => ?_
 refine rw_ rfl fun a w hf hO hm => ?_
 refine zm (vs := [(0, str x_s)]) (cs := [str x_s]) (e := 9) (sz := 1) hf rfl rfl (fun w => by kernel_rfl) rfl rfl hO fun a b3 w hf hO => ?_
 refine S.op tb ?_ hf hO hm
 refine kn (b' := true) hc2 rfl ?_
 refine cl zjW rfl (fun r4 w hr4 hO => zbI zcD ([x_s] : List Str) r4 _ (hG.own hF hO) c_150 (fun y0 r w hG h => ze5 (zjU y0 r w hG h)) (hO.rowSees (i := 0) rfl) (hO.rowCap (i := 0) rfl) hr4) fun r4 hr4 => ?_
 exact ec [] rfl rfl rfl fun _ _ j => ⟨r4, j rfl⟩
 exact en rfl fun _ _ j => ⟨false, j rfl⟩
 rintro a w ⟨t5, hf, hO, hm⟩
 rw [zet] at hm
 refine S.co tb ?_ hf hO hm
 exact rt Tryz.results90 rfl

theorem zn6 (x_l : List Str) (R : List Str × Int) (w0 : World) (hG : zt w0) {x_l_p0 : Option Addr} {x_l_c0 : Nat} (hs0 : zy w0 x_l_p0 (cells zg x_l)) (hc0 : x_l.length ≤ x_l_c0) (hm : ziO x_l = some R) :
    Calls Tryz.prog 124 #[.slice x_l_p0 x_l.length x_l_c0] w0 fun e w' => ∃ (p0 : Option Addr) (c0 : Nat), e = .returned (.tuple #[.slice p0 R.1.length c0, int R.2]) ∧ Dk.Own w0 [] w' [.row (.slice p0 R.1.length c0) 9 1 R.1.length (cells zg R.1)] := by
 rw [ziO] at hm
 have hF : zu [] := zf
 have hO : Dk.Own w0 [] w0 [] := Dk.Own.refl w0
 have hO := hO.addShr hs0 (by simp [Res.shared])
 refine S.enter tb Tryz.func124 rfl Tryz.ntmps124 rfl ?_ hO hm
 refine nl 9 1 ?_
 refine nl 9 1 ?_
 refine lv [11, 12] [1, 2] (fun J E L k => ∃ (p4 : Option Addr) (c5 : Nat) (l6 : List Str) (i7 : Int), J ((4, .slice p4 l6.length c5) :: (13, int i7) :: E) (.row (.slice p4 l6.length c5) 9 1 l6.length (cells zg l6) :: L) (zcH x_l k l6 i7)) rfl (fun _ _ j => ⟨none, 0, [], 0, j rfl⟩) ?_
 rintro n1 a w ⟨p4, c5, l6, i7, hf, hO, hm⟩
 obtain _ | n1 := n1
 rw [zcH] at hm
 cases hm
 rw [zcH] at hm
 refine S.co tb ?_ hf hO hm
 refine br rfl (fun hc9 => ?_) fun hc9 => ?_
 refine rw_ rfl fun a w hf hO hm => ?_
 obtain ⟨x11, hx11, hm⟩ := ob hm
 obtain ⟨b12, o13, hix11, hSx11⟩ := zaK (enc := zg) (sz := 1) (xs := x_l) 42 Tryz.underlying42 zfZ (by decide) (fun _ => rfl) (hO.sees (i := 2) rfl) hx11
 refine zS (zk hix11 hf rfl rfl) rfl hf rfl rfl fun a hf => ?_
 refine S.op tb ?_ hf hO hm
 refine vl rfl rfl (fun a w hf hO => ze (o := 0) z7 (hSx11 _ (hO.sees (i := 2) rfl)) rfl hf rfl) ?_
 refine rw_ rfl fun a w hf hO hm => ?_
 obtain ⟨r15, hr15, hm⟩ := ob hm
 refine zj (zh c_33 hf (vs := [str x11]) rfl) rfl hf rfl rfl (zgy x11 r15 _ (hG.own hF hO) hr15) ?_
 rintro e w' ⟨p16, c17, he, hO'⟩
 refine ⟨_, he, fun a hf => ?_⟩
 have hO := hO.call hO' (by simp [Res.shared])
 refine S.op tb ?_ hf hO hm
 refine br rfl (fun hc20 => ?_) fun hc20 => ?_
 refine nl 9 1 ?_
 refine re_ rfl fun a w hf hO hm => ?_
 obtain rfl := Option.some.inj hm
 exact zi Tryz.results124 hf (.tmp rfl (.tmp rfl .nil)) ⟨none, 0, rfl, (hO.sub (.cons_cons _ (.cons _ (.cons _ (.cons _ (.cons _ .slnil))))))⟩
 refine lv [4, 7, 11, 12, 13, 25, 26] [0, 1, 2, 3] (fun J E L k => ∃ (i24 : Int), J ((27, int i24) :: E) (L) (zdy (zcH x_l n1) l6 i7 r15 k i24)) rfl (fun _ _ j => ⟨0, j rfl⟩) ?_
 rintro n2 a w ⟨i24, hf, hO, hm⟩
 obtain _ | n2 := n2
 rw [zdy] at hm
 cases hm
 rw [zdy] at hm
 refine S.co tb ?_ hf hO hm
 refine br rfl (fun hc26 => ?_) fun hc26 => ?_
 refine rw_ rfl fun a w hf hO hm => ?_
 obtain ⟨x28, hx28, hm⟩ := ob hm
 obtain ⟨b29, o30, hix28, hSx28, hAx28⟩ := zaw (enc := zg) (sz := 1) (xs := r15.1) 42 Tryz.underlying42 zfZ (by decide) (fun _ => rfl) hO (i := 0) rfl hx28
 refine zS (zk hix28 hf rfl rfl) rfl hf rfl rfl fun a hf => ?_
 refine S.op tb ?_ hf hO hm
 refine vl rfl rfl (fun a w hf hO => ze (o := 0) z7 (hSx28 _ (hO.rowSees (i := 0) rfl)) rfl hf rfl) ?_
 refine cl c_90 rfl (fun r32 w hr32 hO => zg7 x28 r32 _ (hG.own hF hO) hr32) fun r32 hr32 => ?_
 refine br rfl (fun hc34 => ?_) fun hc34 => ?_
 refine nl 9 1 ?_
 refine re_ rfl fun a w hf hO hm => ?_
 obtain rfl := Option.some.inj hm
 exact zi Tryz.results124 hf (.tmp rfl (.tmp rfl .nil)) ⟨none, 0, rfl, (hO.sub (.cons_cons _ (.cons _ (.cons _ (.cons _ (.cons _ .slnil))))))⟩
 refine bi rfl fun i37 hi37 => ?_
 exact en rfl fun _ _ j => ⟨_, Nat.lt_succ_self _, i37, j rfl⟩
 refine rw_ rfl fun a w hf hO hm => ?_
 obtain ⟨hg41, hm⟩ := og hm
 refine zfH ziE (enc := zg) (xs := l6) (ys := r15.1) (i := 1) (fun _ => rfl) rfl (hO.rowSees (i := 0) rfl) (by simp [zg, Value.oneCell']) hg41 hf rfl rfl rfl hO fun a p39 c40 w hf hO => ?_
 refine S.op tb ?_ hf hO hm
 refine bi rfl fun i43 hi43 => ?_
 exact ec [1, 2, 3] rfl rfl rfl fun _ _ j => ⟨_, Nat.lt_succ_self _, p39, c40, l6 ++ r15.1, i43, j rfl⟩
 refine re_ rfl fun a w hf hO hm => ?_
 obtain rfl := Option.some.inj hm
 exact zi Tryz.results124 hf (.tmp rfl (.tmp rfl .nil)) ⟨p4, c5, rfl, (hO.sub (.cons_cons _ (.cons _ (.cons _ .slnil))))⟩

theorem zgW (x_s : List Str) (x_v : Str) (R : Int) (w0 : World) (hG : zt w0) {x_s_p0 : Option Addr} {x_s_c0 : Nat} (hs0 : zy w0 x_s_p0 (cells zg x_s)) (hc0 : x_s.length ≤ x_s_c0) (hm : zcn x_s x_v = some R) :
    Calls Tryz.prog 178 #[.slice x_s_p0 x_s.length x_s_c0, str x_v] w0 (Ret w0 (fun R => int R) R) := by
 rw [zcn] at hm
 have hF : zu [] := zf
 have hO : Dk.Own w0 [] w0 [] := Dk.Own.refl w0
 have hO := hO.addShr hs0 (by simp [Res.shared])
 refine S.enter tb Tryz.func178 rfl Tryz.ntmps178 rfl ?_ hO hm
 refine lv [0, 1, 7] [0] (fun J E L k => ∃ (i3 : Int), J ((8, int i3) :: E) (L) (zaf x_s x_v k i3)) rfl (fun _ _ j => ⟨0, j rfl⟩) ?_
 rintro n1 a w ⟨i3, hf, hO, hm⟩
 obtain _ | n1 := n1
 rw [zaf] at hm
 cases hm
 rw [zaf] at hm
 refine S.co tb ?_ hf hO hm
 refine br rfl (fun hc5 => ?_) fun hc5 => ?_
 refine rw_ rfl fun a w hf hO hm => ?_
 obtain ⟨x8, hx8, hm⟩ := ob hm
 obtain ⟨b9, o10, hix8, hSx8⟩ := zaK (enc := zg) (sz := 1) (xs := x_s) 42 Tryz.underlying42 zfZ (by decide) (fun _ => rfl) (hO.sees (i := 0) rfl) hx8
 refine zS (zk hix8 hf rfl rfl) rfl hf rfl rfl fun a hf => ?_
 refine S.op tb ?_ hf hO hm
 refine vl rfl rfl (fun a w hf hO => ze (o := 0) z7 (hSx8 _ (hO.sees (i := 0) rfl)) rfl hf rfl) ?_
 refine br rfl (fun hc12 => ?_) fun hc12 => ?_
 exact rt Tryz.results178 rfl
 refine bi rfl fun i15 hi15 => ?_
 exact en rfl fun _ _ j => ⟨_, Nat.lt_succ_self _, i15, j rfl⟩
 exact rt Tryz.results178 rfl

theorem zfY (x_s : List Str) (x_v : Str) (R : Bool) (w0 : World) (hG : zt w0) {x_s_p0 : Option Addr} {x_s_c0 : Nat} (hs0 : zy w0 x_s_p0 (cells zg x_s)) (hc0 : x_s.length ≤ x_s_c0) (hm : zbK x_s x_v = some R) :
    Calls Tryz.prog 125 #[.slice x_s_p0 x_s.length x_s_c0, str x_v] w0 (Ret w0 (fun R => .bool R) R) := by
 rw [zbK] at hm
 have hF : zu [] := zf
 have hO : Dk.Own w0 [] w0 [] := Dk.Own.refl w0
 have hO := hO.addShr hs0 (by simp [Res.shared])
 refine S.enter tb Tryz.func125 rfl Tryz.ntmps125 rfl ?_ hO hm
 refine cl c_178 rfl (fun r2 w hr2 hO => zgW x_s x_v r2 _ (hG.own hF hO) (hO.sees (i := 0) rfl) hc0 hr2) fun r2 hr2 => ?_
 exact rt Tryz.results125 rfl

theorem zn7 (x_l : List api_Field) (R : List Str) (w0 : World) (hG : zt w0) {x_l_p0 : Option Addr} {x_l_c0 : Nat} (hs0 : zy w0 x_l_p0 (cells za x_l)) (hc0 : x_l.length ≤ x_l_c0) (hm : ziP x_l = some R) :
    Calls Tryz.prog 74 #[.slice x_l_p0 x_l.length x_l_c0] w0 fun e w' => ∃ (p0 : Option Addr) (c0 : Nat), e = .returned (.slice p0 R.length c0) ∧ Dk.Own w0 [] w' [.row (.slice p0 R.length c0) 9 1 R.length (cells zg R)] := by
 rw [ziP] at hm
 have hF : zu [] := zf
 have hO : Dk.Own w0 [] w0 [] := Dk.Own.refl w0
 have hO := hO.addShr hs0 (by simp [Res.shared])
 refine S.enter tb Tryz.func74 rfl Tryz.ntmps74 rfl ?_ hO hm
 refine nl 9 1 ?_
 refine nl 9 1 ?_
 refine rw_ rfl fun a w hf hO hm => ?_
 obtain ⟨r3, hr3, hm⟩ := ob hm
 refine zj (zh zsz hf (vs := [.slice x_l_p0 x_l.length x_l_c0]) rfl) rfl hf rfl rfl (zfJ x_l r3 _ (hG.own hF hO) (hO.sees (i := 2) rfl) hc0 hr3) ?_
 rintro e w' ⟨b4, p5, c6, he, hO'⟩
 refine ⟨_, he, fun a hf => ?_⟩
 have hO := hO.call hO' (by simp [Res.shared])
 refine S.op tb ?_ hf hO hm
 refine rw_ rfl fun a w hf hO hm => ?_
 obtain ⟨r7, hr7, hm⟩ := ob hm
 refine zj (zh c_123 hf (vs := [ptr b4 0, str [67, 111, 110, 110, 101, 99, 116, 105, 111, 110]]) rfl) rfl hf rfl rfl (ziX r3 [67, 111, 110, 110, 101, 99, 116, 105, 111, 110] r7 _ (hG.own hF hO) (hO.blkSees (i := 0) rfl) (hO.rowSees (i := 1) rfl) (hO.rowCap (i := 1) rfl) hr7) ?_
 rintro e w' ⟨p8, c9, he, hO'⟩
 refine ⟨_, he, fun a hf => ?_⟩
 have hO := hO.call hO' (by simp [Res.shared])
 refine S.op tb ?_ hf hO hm
 refine ch [3, 0, 1, 2, 4, 5] rfl rfl ?_
 refine lv [12, 13] [1, 2, 3, 4, 5] (fun J E L k => ∃ (p11 : Option Addr) (c12 : Nat) (l13 : List Str) (i14 : Int), J ((3, .slice p11 l13.length c12) :: (14, int i14) :: E) (.row (.slice p11 l13.length c12) 9 1 l13.length (cells zg l13) :: L) (zbe r7 k l13 i14)) rfl (fun _ _ j => ⟨none, 0, [], 0, j rfl⟩) ?_
 rintro n1 a w ⟨p11, c12, l13, i14, hf, hO, hm⟩
 obtain _ | n1 := n1
 rw [zbe] at hm
 cases hm
 rw [zbe] at hm
 refine S.co tb ?_ hf hO hm
 refine br rfl (fun hc16 => ?_) fun hc16 => ?_
 refine rw_ rfl fun a w hf hO hm => ?_
 obtain ⟨x18, hx18, hm⟩ := ob hm
 obtain ⟨b19, o20, hix18, hSx18, hAx18⟩ := zaw (enc := zg) (sz := 1) (xs := r7) 42 Tryz.underlying42 zfZ (by decide) (fun _ => rfl) hO (i := 1) rfl hx18
 refine zS (zk hix18 hf rfl rfl) rfl hf rfl rfl fun a hf => ?_
 refine S.op tb ?_ hf hO hm
 refine vl rfl rfl (fun a w hf hO => ze (o := 0) z7 (hSx18 _ (hO.rowSees (i := 1) rfl)) rfl hf rfl) ?_
 refine rw_ rfl fun a w hf hO hm => ?_
 refine zm (vs := [(0, str x18)]) (cs := [str x18]) (e := 9) (sz := 1) hf rfl rfl (fun w => by kernel_rfl) rfl rfl hO fun a b22 w hf hO => ?_
 refine S.op tb ?_ hf hO hm
 refine rw_ rfl fun a w hf hO hm => ?_
 obtain ⟨r23, hr23, hm⟩ := ob hm
 refine zj (zh c_124 hf (vs := [.slice (some ⟨b22, 0, none⟩) (([x18] : List Str).length) 1]) rfl) rfl hf rfl rfl (zn6 ([x18] : List Str) r23 _ (hG.own hF hO) (hO.rowSees (i := 0) rfl) (hO.rowCap (i := 0) rfl) hr23) ?_
 rintro e w' ⟨p24, c25, he, hO'⟩
 refine ⟨_, he, fun a hf => ?_⟩
 have hO := hO.call hO' (by simp [Res.shared])
 refine S.op tb ?_ hf hO hm
 refine ch [2, 0, 1, 3, 4, 5, 6, 7] rfl rfl ?_
 refine lv [12, 13, 14, 24, 25] [1, 2, 3, 4, 5, 6, 7] (fun J E L k => ∃ (p28 : Option Addr) (c29 : Nat) (l30 : List Str) (i31 : Int), J ((3, .slice p28 l30.length c29) :: (26, int i31) :: E) (.row (.slice p28 l30.length c29) 9 1 l30.length (cells zg l30) :: L) (zbd (zbe r7 n1) i14 r23 k l30 i31)) rfl (fun _ _ j => ⟨p11, c12, l13, 0, j rfl⟩) ?_
 rintro n2 a w ⟨p28, c29, l30, i31, hf, hO, hm⟩
 obtain _ | n2 := n2
 rw [zbd] at hm
 cases hm
 rw [zbd] at hm
 refine S.co tb ?_ hf hO hm
 refine br rfl (fun hc33 => ?_) fun hc33 => ?_
 refine jv 7 [12, 13, 14, 24, 25, 26] [1, 2, 3, 4, 5, 6, 7] (fun J E L => ∃ (p49 : Option Addr) (c50 : Nat) (l51 : List Str), J ((3, .slice p49 l51.length c50) :: E) (.row (.slice p49 l51.length c50) 9 1 l51.length (cells zg l51) :: L) (zeT (zbd (zbe r7 n1) i14 r23 n2) i31 l51)) rfl ?_ ?_
 refine rw_ rfl fun a w hf hO hm => ?_
 obtain ⟨x35, hx35, hm⟩ := ob hm
 obtain ⟨b36, o37, hix35, hSx35, hAx35⟩ := zaw (enc := zg) (sz := 1) (xs := r23.1) 42 Tryz.underlying42 zfZ (by decide) (fun _ => rfl) hO (i := 1) rfl hx35
 refine zS (zk hix35 hf rfl rfl) rfl hf rfl rfl fun a hf => ?_
 refine S.op tb ?_ hf hO hm
 refine vl rfl rfl (fun a w hf hO => ze (o := 0) z7 (hSx35 _ (hO.rowSees (i := 1) rfl)) rfl hf rfl) ?_
 refine cl zty rfl (fun r39 w hr39 hO => zdM x35 r39 _ (hG.own hF hO) hr39) fun r39 hr39 => ?_
 refine jv 9 [3, 9, 12, 13, 14, 24, 25, 26] [0, 1, 2, 3, 4, 5, 6, 7] (fun J E L => ∃ (t43 : Bool), J ((39, .bool t43) :: E) (L) (zeU (zbd (zbe r7 n1) i14 r23 n2) l30 i31 r39 t43)) rfl ?_ ?_
 refine br rfl (fun hc41 => ?_) fun hc41 => ?_
 refine cl c_125 rfl (fun r42 w hr42 hO => zfY l30 r39 r42 _ (hG.own hF hO) (hO.rowSees (i := 0) rfl) (hO.rowCap (i := 0) rfl) hr42) fun r42 hr42 => ?_
 exact en rfl fun _ _ j => ⟨!r42, j rfl⟩
 exact en rfl fun _ _ j => ⟨false, j rfl⟩
 rintro a w ⟨t43, hf, hO, hm⟩
 rw [zeU] at hm
 refine S.co tb ?_ hf hO hm
 refine br rfl (fun hc44 => ?_) fun hc44 => ?_
 refine rw_ rfl fun a w hf hO hm => ?_
 refine zm (vs := [(0, str r39)]) (cs := [str r39]) (e := 9) (sz := 1) hf rfl rfl (fun w => by kernel_rfl) rfl rfl hO fun a b45 w hf hO => ?_
 refine S.op tb ?_ hf hO hm
 refine rw_ rfl fun a w hf hO hm => ?_
 obtain ⟨hg48, hm⟩ := og hm
 refine zae ziE (enc := zg) (xs := l30) (ys := ([r39] : List Str)) (i := 1) (fun _ => rfl) rfl (hO.rowSees (i := 0) rfl) (by simp [cells, zg, Value.oneCell']) hg48 hf rfl rfl rfl hO fun a p46 c47 w hf hO => ?_
 refine S.op tb ?_ hf hO hm
 exact ec [1, 2, 3, 4, 5, 6, 7, 8] rfl rfl rfl fun _ _ j => ⟨p46, c47, l30 ++ ([r39] : List Str), j rfl⟩
 exact en rfl fun _ _ j => ⟨p28, c29, l30, j rfl⟩
 rintro a w ⟨p49, c50, l51, hf, hO, hm⟩
 rw [zeT] at hm
 refine S.co tb ?_ hf hO hm
 refine bi rfl fun i52 hi52 => ?_
 exact en rfl fun _ _ j => ⟨_, Nat.lt_succ_self _, p49, c50, l51, i52, j rfl⟩
 refine bi rfl fun i54 hi54 => ?_
 exact ec [0, 3, 4, 5, 6, 7] rfl rfl rfl fun _ _ j => ⟨_, Nat.lt_succ_self _, p28, c29, l30, i54, j rfl⟩
 refine re_ rfl fun a w hf hO hm => ?_
 obtain rfl := Option.some.inj hm
 exact zi Tryz.results74 hf (.tmp rfl .nil) ⟨p11, c12, rfl, (hO.sub (.cons_cons _ (.cons _ (.cons _ (.cons _ (.cons _ (.cons _ .slnil)))))))⟩

theorem zsp (R : List Str) (w0 : World) (hG : zt w0) (hm : znb = some R) :
    Calls Tryz.prog 75 #[] w0 fun e w' => ∃ (p0 : Option Addr) (c0 : Nat), e = .returned (.slice p0 R.length c0) ∧ Dk.Own w0 [] w' [.row (.slice p0 R.length c0) 9 1 R.length (cells zg R)] := by
 rw [znb] at hm
 have hF : zu [] := zf
 have hO : Dk.Own w0 [] w0 [] := Dk.Own.refl w0
 refine S.enter tb Tryz.func75 rfl Tryz.ntmps75 rfl ?_ hO hm
 refine nl 9 1 ?_
 refine rw_ rfl fun a w hf hO hm => ?_
 refine zm (vs := [(0, str [99, 111, 110, 110, 101, 99, 116, 105, 111, 110]), (1, str [99, 111, 110, 116, 101, 110, 116, 45, 108, 101, 110, 103, 116, 104]), (2, str [107, 101, 101, 112, 45, 97, 108, 105, 118, 101]), (3, str [112, 114, 111, 120, 121, 45, 99, 111, 110, 110, 101, 99, 116, 105, 111, 110]), (4, str [116, 101]), (5, str [116, 114, 97, 105, 108, 101, 114]), (6, str [116, 114, 97, 110, 115, 102, 101, 114, 45, 101, 110, 99, 111, 100, 105, 110, 103]), (7, str [117, 112, 103, 114, 97, 100, 101])]) (cs := [str [99, 111, 110, 110, 101, 99, 116, 105, 111, 110], str [99, 111, 110, 116, 101, 110, 116, 45, 108, 101, 110, 103, 116, 104], str [107, 101, 101, 112, 45, 97, 108, 105, 118, 101], str [112, 114, 111, 120, 121, 45, 99, 111, 110, 110, 101, 99, 116, 105, 111, 110], str [116, 101], str [116, 114, 97, 105, 108, 101, 114], str [116, 114, 97, 110, 115, 102, 101, 114, 45, 101, 110, 99, 111, 100, 105, 110, 103], str [117, 112, 103, 114, 97, 100, 101]]) (e := 9) (sz := 1) hf rfl rfl (fun w => by kernel_rfl) rfl rfl hO fun a b2 w hf hO => ?_
 refine S.op tb ?_ hf hO hm
 refine re_ rfl fun a w hf hO hm => ?_
 obtain rfl := Option.some.inj hm
 exact zi Tryz.results75 hf (.tmp rfl .nil) ⟨some ⟨b2, 0, none⟩, 8, rfl, (hO.sub (.cons_cons _ (.cons _ .slnil)))⟩

end Go.Proofs
end
section
set_option linter.unusedVariables false
set_option maxHeartbeats 1000000
set_option linter.unusedSimpArgs false
set_option maxRecDepth 100000
namespace Go.Proofs
open Go.Dk Go.Dm Go.RowKit

theorem zrS (x_s : Str) (x_k0 : Str) (R : Bool) (w0 : World) (hG : zt w0) {x_k0_b0 : Nat} (hs0 : zy w0 (some ⟨x_k0_b0, 0, none⟩) [str x_k0]) (hm : znc x_s x_k0 = some R) :
    Calls Tryz.prog 177 #[str x_s, ptr x_k0_b0 0] w0 (Ret w0 (fun R => .bool R) R) := by
 rw [znc] at hm
 have hF : zu [] := zf
 have hO : Dk.Own w0 [] w0 [] := Dk.Own.refl w0
 have hO := hO.addShr hs0 (by simp [Res.shared])
 refine S.enter tb Tryz.func177 rfl Tryz.ntmps177 rfl ?_ hO hm
 refine ld 0 rfl rfl ?_
 refine cl zp0 rfl (fun r2 w hr2 hO => zbZ x_s x_k0 r2 _ (hG.own hF hO) hr2) fun r2 hr2 => ?_
 exact rt Tryz.results177 rfl

theorem zem (x_s : List Str) (x_f_k0 : Str) (R : Int) (w0 : World) (hG : zt w0) {x_s_p0 : Option Addr} {x_s_c0 : Nat} (hs0 : zy w0 x_s_p0 (cells zg x_s)) (hc0 : x_s.length ≤ x_s_c0) {x_f_k0_b1 : Nat} (hs1 : zy w0 (some ⟨x_f_k0_b1, 0, none⟩) [str x_f_k0]) (hm : zaX x_s x_f_k0 = some R) :
    Calls Tryz.prog 220 #[.slice x_s_p0 x_s.length x_s_c0, .func (.func 177) #[] #[ptr x_f_k0_b1 0]] w0 (Ret w0 (fun R => int R) R) := by
 rw [zaX] at hm
 have hF : zu [] := zf
 have hO : Dk.Own w0 [] w0 [] := Dk.Own.refl w0
 have hO := hO.addShr hs0 (by simp [Res.shared])
 have hO := hO.addShr hs1 (by simp [Res.shared])
 refine S.enter tb Tryz.func220 rfl Tryz.ntmps220 rfl ?_ hO hm
 refine lv [0, 1, 7] [0, 1] (fun J E L k => ∃ (i3 : Int), J ((8, int i3) :: E) (L) (zH x_s x_f_k0 k i3)) rfl (fun _ _ j => ⟨0, j rfl⟩) ?_
 rintro n1 a w ⟨i3, hf, hO, hm⟩
 obtain _ | n1 := n1
 rw [zH] at hm
 cases hm
 rw [zH] at hm
 refine S.co tb ?_ hf hO hm
 refine br rfl (fun hc5 => ?_) fun hc5 => ?_
 refine rw_ rfl fun a w hf hO hm => ?_
 obtain ⟨x8, hx8, hm⟩ := ob hm
 obtain ⟨b9, o10, hix8, hSx8⟩ := zaK (enc := zg) (sz := 1) (xs := x_s) 42 Tryz.underlying42 zfZ (by decide) (fun _ => rfl) (hO.sees (i := 1) rfl) hx8
 refine zS (zk hix8 hf rfl rfl) rfl hf rfl rfl fun a hf => ?_
 refine S.op tb ?_ hf hO hm
 refine vl rfl rfl (fun a w hf hO => ze (o := 0) z7 (hSx8 _ (hO.sees (i := 1) rfl)) rfl hf rfl) ?_
 refine rw_ rfl fun a w hf hO hm => ?_
 obtain ⟨r11, hr11, hm⟩ := ob hm
 refine oc (ziZ (first := #[]) (captured := #[ptr x_f_k0_b1 0]) c_177 hf rfl (vs := [str x8]) rfl) hf rfl (zoc (cs := [ptr x_f_k0_b1 0]) (zrS x8 x_f_k0 r11 _ (hG.own hF hO) (hO.sees (i := 0) rfl) hr11)) hO fun a w' hf hO => ?_
 refine S.op tb ?_ hf hO hm
 refine br rfl (fun hc13 => ?_) fun hc13 => ?_
 exact rt Tryz.results220 rfl
 refine bi rfl fun i16 hi16 => ?_
 exact en rfl fun _ _ j => ⟨_, Nat.lt_succ_self _, i16, j rfl⟩
 exact rt Tryz.results220 rfl

theorem zdN (x_s : List Str) (x_f_k0 : Str) (R : Bool) (w0 : World) (hG : zt w0) {x_s_p0 : Option Addr} {x_s_c0 : Nat} (hs0 : zy w0 x_s_p0 (cells zg x_s)) (hc0 : x_s.length ≤ x_s_c0) {x_f_k0_b1 : Nat} (hs1 : zy w0 (some ⟨x_f_k0_b1, 0, none⟩) [str x_f_k0]) (hm : zaH x_s x_f_k0 = some R) :
    Calls Tryz.prog 176 #[.slice x_s_p0 x_s.length x_s_c0, .func (.func 177) #[] #[ptr x_f_k0_b1 0]] w0 (Ret w0 (fun R => .bool R) R) := by
 rw [zaH] at hm
 have hF : zu [] := zf
 have hO : Dk.Own w0 [] w0 [] := Dk.Own.refl w0
 have hO := hO.addShr hs0 (by simp [Res.shared])
 have hO := hO.addShr hs1 (by simp [Res.shared])
 refine S.enter tb Tryz.func176 rfl Tryz.ntmps176 rfl ?_ hO hm
 refine cl c_220 rfl (fun r2 w hr2 hO => zem x_s x_f_k0 r2 _ (hG.own hF hO) (hO.sees (i := 1) rfl) hc0 (hO.sees (i := 0) rfl) hr2) fun r2 hr2 => ?_
 exact rt Tryz.results176 rfl

theorem zum (x_name : Str) (x_names : List Str) (R : Bool) (w0 : World) (hG : zt w0) {x_names_p0 : Option Addr} {x_names_c0 : Nat} (hs0 : zy w0 x_names_p0 (cells zg x_names)) (hc0 : x_names.length ≤ x_names_c0) (hm : zq7 x_name x_names = some R) :
    Calls Tryz.prog 122 #[str x_name, .slice x_names_p0 x_names.length x_names_c0] w0 (Ret w0 (fun R => .bool R) R) := by
 rw [zq7] at hm
 have hF : zu [] := zf
 have hO : Dk.Own w0 [] w0 [] := Dk.Own.refl w0
 have hO := hO.addShr hs0 (by simp [Res.shared])
 refine S.enter tb Tryz.func122 rfl Tryz.ntmps122 rfl ?_ hO hm
 refine bo rfl fun b1 => ?_
 refine vl rfl rfl (fun a w hf hO => zka hf (vs := [ptr b1 0]) rfl) ?_
 refine cl c_176 rfl (fun r3 w hr3 hO => zdN x_names x_name r3 _ (hG.own hF hO) (hO.sees (i := 1) rfl) hc0 (hO.blkSees (i := 0) rfl) hr3) fun r3 hr3 => ?_
 exact rt Tryz.results122 rfl

theorem zhY (x_f : api_Field) (x_k0 : List Str) (R : Bool) (w0 : World) (hG : zt w0) {x_k0_b0 : Nat} {x_k0_p1 : Option Addr} {x_k0_c1 : Nat} (hs0 : zy w0 (some ⟨x_k0_b0, 0, none⟩) [.slice x_k0_p1 x_k0.length x_k0_c1]) (hs1 : zy w0 x_k0_p1 (cells zg x_k0)) (hc1 : x_k0.length ≤ x_k0_c1) (hm : zeV x_f x_k0 = some R) :
    Calls Tryz.prog 121 #[.agg #[str x_f.Name, str x_f.Value], ptr x_k0_b0 0] w0 (Ret w0 (fun R => .bool R) R) := by
 rw [zeV] at hm
 have hF : zu [] := zf
 have hO : Dk.Own w0 [] w0 [] := Dk.Own.refl w0
 have hO := hO.addShr hs0 (by simp [Res.shared])
 have hO := hO.addShr hs1 (by simp [Res.shared])
 refine S.enter tb Tryz.func121 rfl Tryz.ntmps121 rfl ?_ hO hm
 refine bo rfl fun b1 => ?_
 refine ld 0 rfl rfl ?_
 refine ld 2 rfl rfl ?_
 refine cl c_122 rfl (fun r3 w hr3 hO => zum x_f.Name x_k0 r3 _ (hG.own hF hO) (hO.sees (i := 1) rfl) hc1 hr3) fun r3 hr3 => ?_
 exact rt Tryz.results121 rfl

theorem zdq (x_s : List api_Field) (x_f_k0 : List Str) (R : Int) (w0 : World) (hG : zt w0) {x_s_p0 : Option Addr} {x_s_c0 : Nat} (hs0 : zy w0 x_s_p0 (cells za x_s)) (hc0 : x_s.length ≤ x_s_c0) {x_f_k0_b1 : Nat} {x_f_k0_p2 : Option Addr} {x_f_k0_c2 : Nat} (hs1 : zy w0 (some ⟨x_f_k0_b1, 0, none⟩) [.slice x_f_k0_p2 x_f_k0.length x_f_k0_c2]) (hs2 : zy w0 x_f_k0_p2 (cells zg x_f_k0)) (hc2 : x_f_k0.length ≤ x_f_k0_c2) (hm : zal x_s x_f_k0 = some R) :
    Calls Tryz.prog 133 #[.slice x_s_p0 x_s.length x_s_c0, .func (.func 121) #[] #[ptr x_f_k0_b1 0]] w0 (Ret w0 (fun R => int R) R) := by
 rw [zal] at hm
 have hF : zu [] := zf
 have hO : Dk.Own w0 [] w0 [] := Dk.Own.refl w0
 have hO := hO.addShr hs0 (by simp [Res.shared])
 have hO := hO.addShr hs1 (by simp [Res.shared])
 have hO := hO.addShr hs2 (by simp [Res.shared])
 refine S.enter tb Tryz.func133 rfl Tryz.ntmps133 rfl ?_ hO hm
 refine lv [0, 1, 7] [0, 1, 2] (fun J E L k => ∃ (i3 : Int), J ((8, int i3) :: E) (L) (zC x_s x_f_k0 k i3)) rfl (fun _ _ j => ⟨0, j rfl⟩) ?_
 rintro n1 a w ⟨i3, hf, hO, hm⟩
 obtain _ | n1 := n1
 rw [zC] at hm
 cases hm
 rw [zC] at hm
 refine S.co tb ?_ hf hO hm
 refine br rfl (fun hc5 => ?_) fun hc5 => ?_
 refine rw_ rfl fun a w hf hO hm => ?_
 obtain ⟨x8, hx8, hm⟩ := ob hm
 obtain ⟨b9, o10, hix8, hSx8⟩ := zaK (enc := za) (sz := 2) (xs := x_s) 26 Tryz.underlying26 zcc (by decide) (fun _ => rfl) (hO.sees (i := 2) rfl) hx8
 refine zS (zk hix8 hf rfl rfl) rfl hf rfl rfl fun a hf => ?_
 refine S.op tb ?_ hf hO hm
 refine vl rfl rfl (fun a w hf hO => zo (o := 0) (vs := [str x8.Name, str x8.Value]) ziD zcc (hSx8 _ (hO.sees (i := 2) rfl)) rfl rfl hf rfl) ?_
 refine rw_ rfl fun a w hf hO hm => ?_
 obtain ⟨r11, hr11, hm⟩ := ob hm
 refine oc (ziZ (first := #[]) (captured := #[ptr x_f_k0_b1 0]) c_121 hf rfl (vs := [.agg #[str x8.Name, str x8.Value]]) rfl) hf rfl (zoc (cs := [ptr x_f_k0_b1 0]) (zhY x8 x_f_k0 r11 _ (hG.own hF hO) (hO.sees (i := 1) rfl) (hO.sees (i := 0) rfl) hc2 hr11)) hO fun a w' hf hO => ?_
 refine S.op tb ?_ hf hO hm
 refine br rfl (fun hc13 => ?_) fun hc13 => ?_
 exact rt Tryz.results133 rfl
 refine bi rfl fun i16 hi16 => ?_
 exact en rfl fun _ _ j => ⟨_, Nat.lt_succ_self _, i16, j rfl⟩
 exact rt Tryz.results133 rfl

theorem zdk (x_s : List api_Field) (x_del_k0 : List Str) (R : List api_Field) (w0 : World) (hG : zt w0) {x_s_p0 : Option Addr} {x_s_c0 : Nat} {x_del_k0_b1 : Nat} {x_del_k0_p2 : Option Addr} {x_del_k0_c2 : Nat} {F : List Nat} (hF : zu F) (hO : Dk.Own w0 F w0 [.row (.slice x_s_p0 x_s.length x_s_c0) 54 2 x_s.length (cells za x_s), .shr (some ⟨x_del_k0_b1, 0, none⟩) ([.slice x_del_k0_p2 x_del_k0.length x_del_k0_c2]), .shr x_del_k0_p2 (cells zg x_del_k0)]) (hcw1 : x_del_k0.length ≤ x_del_k0_c2) (hm : zai x_s x_del_k0 = some R) :
    Calls Tryz.prog 120 #[.slice x_s_p0 x_s.length x_s_c0, .func (.func 121) #[] #[ptr x_del_k0_b1 0]] w0 fun e w' => ∃ (p0 : Option Addr) (c0 : Nat), e = .returned (.slice p0 R.length c0) ∧ Dk.Own w0 F w' [.row (.slice p0 R.length c0) 54 2 R.length (cells za R)] := by
 rw [zai] at hm
 refine S.enter tb Tryz.func120 rfl Tryz.ntmps120 rfl ?_ hO hm
 refine nl 54 2 ?_
 refine cl c_133 rfl (fun r2 w hr2 hO => zdq x_s x_del_k0 r2 _ (hG.own hF hO) (hO.rowSees (i := 1) rfl) (hO.rowCap (i := 1) rfl) (hO.sees (i := 2) rfl) (hO.sees (i := 3) rfl) hcw1 hr2) fun r2 hr2 => ?_
 refine br rfl (fun hc5 => ?_) fun hc5 => ?_
 refine re_ rfl fun a w hf hO hm => ?_
 obtain rfl := Option.some.inj hm
 exact zi Tryz.results120 hf (.tmp rfl .nil) ⟨x_s_p0, x_s_c0, rfl, (hO.sub (.cons _ (.cons_cons _ (.cons _ (.cons _ .slnil)))))⟩
 refine jv 0 [] [0, 2, 3] (fun J E L => ∃ (p37 : Option Addr) (c38 : Nat) (l39 : List api_Field) (i40 : Int), J ((0, .slice p37 l39.length c38) :: (5, int i40) :: E) (.row (.slice p37 l39.length c38) 54 2 l39.length (cells za l39) :: L) (zab l39 i40)) rfl ?_ ?_
 refine bi rfl fun i8 hi8 => ?_
 refine ch [1, 0, 2, 3] rfl rfl ?_
 refine lv [1] [1, 2, 3] (fun J E L k => ∃ (p10 : Option Addr) (c11 : Nat) (l12 : List api_Field) (i13 : Int) (i14 : Int), J ((0, .slice p10 l12.length c11) :: (5, int i13) :: (6, int i14) :: E) (.row (.slice p10 l12.length c11) 54 2 l12.length (cells za l12) :: L) (zs x_del_k0 k l12 i13 i14)) rfl (fun _ _ j => ⟨x_s_p0, x_s_c0, x_s, r2, i8, j rfl⟩) ?_
 rintro n1 a w ⟨p10, c11, l12, i13, i14, hf, hO, hm⟩
 obtain _ | n1 := n1
 rw [zs] at hm
 cases hm
 rw [zs] at hm
 refine S.co tb ?_ hf hO hm
 refine br rfl (fun hc16 => ?_) fun hc16 => ?_
 refine jv 3 [1, 6] [1, 2, 3] (fun J E L => ∃ (p32 : Option Addr) (c33 : Nat) (l34 : List api_Field) (i35 : Int), J ((0, .slice p32 l34.length c33) :: (5, int i35) :: E) (.row (.slice p32 l34.length c33) 54 2 l34.length (cells za l34) :: L) (zJ (zs x_del_k0 n1) i14 l34 i35)) rfl ?_ ?_
 refine rw_ rfl fun a w hf hO hm => ?_
 obtain ⟨x18, hx18, hm⟩ := ob hm
 obtain ⟨b19, o20, hix18, hSx18, hAx18⟩ := zaw (enc := za) (sz := 2) (xs := l12) 26 Tryz.underlying26 zcc (by decide) (fun _ => rfl) hO (i := 0) rfl hx18
 refine zS (zk hix18 hf rfl rfl) rfl hf rfl rfl fun a hf => ?_
 refine S.op tb ?_ hf hO hm
 refine vl rfl rfl (fun a w hf hO => zo (o := 0) (vs := [str x18.Name, str x18.Value]) ziD zcc (hSx18 _ (hO.rowSees (i := 0) rfl)) rfl rfl hf rfl) ?_
 refine al ztY rfl fun b21 => ?_
 refine st 0 rfl rfl ?_
 refine ld 0 rfl rfl ?_
 refine rw_ rfl fun a w hf hO hm => ?_
 obtain ⟨r23, hr23, hm⟩ := ob hm
 refine oc (ziZ (first := #[]) (captured := #[ptr x_del_k0_b1 0]) c_121 hf rfl (vs := [.agg #[str x18.Name, str x18.Value]]) rfl) hf rfl (zoc (cs := [ptr x_del_k0_b1 0]) (zhY x18 x_del_k0 r23 _ (hG.own hF hO) (hO.sees (i := 3) rfl) (hO.sees (i := 4) rfl) hcw1 hr23)) hO fun a w' hf hO => ?_
 refine S.op tb ?_ hf hO hm
 refine br rfl (fun hc25 => ?_) fun hc25 => ?_
 refine ld 0 rfl rfl ?_
 refine rw_ rfl fun a w hf hO hm => ?_
 obtain ⟨x26, hx26, hm⟩ := ob hm
 obtain ⟨b27, o28, hix26, hSx26, hAx26⟩ := zaw (enc := za) (sz := 2) (xs := l12) 26 Tryz.underlying26 zcc (by decide) (fun _ => rfl) hO (i := 1) rfl hx26
 refine zS (zk hix26 hf rfl rfl) rfl hf rfl rfl fun a hf => ?_
 refine S.op tb ?_ hf hO hm
 refine rw_ rfl fun a w hf hO hm => ?_
 obtain ⟨l29, hl29, hm⟩ := ob hm
 refine zqT (enc := za) (i := 1) (xs := l12) (vs := [str x18.Name, str x18.Value]) zcc (fun _ => rfl) rfl hAx26 hx26 hl29 rfl (by simp [Value.oneCell']) hf rfl rfl hO fun w hlen hO => ?_
 have hf : Fits 42 [(0, .slice p10 l29.length c11), (1, .func (.func 121) #[] #[ptr x_del_k0_b1 0]), (5, int i13), (6, int i14), (7, ptr b21 0), (29, .bool (!r23)), (30, .slice p10 l29.length c11), (31, int i13), (32, .agg #[str x18.Name, str x18.Value]), (33, ptr b27 o28)] a := by rw [hlen]; exact (hf.cons rfl (hf.cons rfl (hf.cons rfl (hf.cons rfl (hf.cons rfl (hf.cons rfl (hf.cons rfl (hf.cons rfl (hf.cons rfl (hf.cons rfl hf.nil))))))))))
 refine S.op tb ?_ hf hO hm
 refine bi rfl fun i31 hi31 => ?_
 exact ec [1, 2, 3, 4] rfl rfl rfl fun _ _ j => ⟨p10, c11, l29, i31, j rfl⟩
 exact ec [1, 2, 3, 4] rfl rfl rfl fun _ _ j => ⟨p10, c11, l12, i13, j rfl⟩
 rintro a w ⟨p32, c33, l34, i35, hf, hO, hm⟩
 rw [zJ] at hm
 refine S.co tb ?_ hf hO hm
 refine bi rfl fun i36 hi36 => ?_
 exact en rfl fun _ _ j => ⟨_, Nat.lt_succ_self _, p32, c33, l34, i35, i36, j rfl⟩
 exact en rfl fun _ _ j => ⟨p10, c11, l12, i13, j rfl⟩
 rintro a w ⟨p37, c38, l39, i40, hf, hO, hm⟩
 rw [zab] at hm
 refine S.co tb ?_ hf hO hm
 refine rw_ rfl fun a w hf hO hm => ?_
 obtain ⟨l41, hl41, hm⟩ := ob hm
 refine zvB (enc := za) (z := (⟨[], []⟩ : api_Field)) (i := 0) (xs := l39) Tryz.underlying26 zcc (fun _ => rfl) (by decide) zw_54 rfl (by simp [za, Value.oneCell']) rfl hl41 hf rfl rfl rfl hO fun a w _ hlen hf hO => ?_
 have hf : Fits 42 [(0, .slice p37 l41.length c38), (5, int i40), (36, .slice p37 l41.length c38), (37, int i40)] a := by rw [hlen]; exact (hf.cons rfl (hf.cons rfl (hf.cons rfl (hf.cons rfl hf.nil))))
 refine S.op tb ?_ hf hO hm
 refine rw_ rfl fun a w hf hO hm => ?_
 obtain ⟨l43, hl43, hm⟩ := ob hm
 obtain ⟨hrl43, hO⟩ := hO.shrink (enc := za) (xs := l41) (i := 0) 26 Tryz.underlying26 zcc (fun _ => rfl) rfl hl43
 refine zS (zlI Tryz.underlying26 hrl43 hf rfl rfl) rfl hf rfl rfl fun a hf => ?_
 refine S.op tb ?_ hf hO hm
 refine re_ rfl fun a w hf hO hm => ?_
 obtain rfl := Option.some.inj hm
 exact zi Tryz.results120 hf (.tmp rfl .nil) ⟨p37, c38, rfl, (hO.sub (.cons_cons _ (.cons _ (.cons _ (.cons _ .slnil)))))⟩

theorem zi3 (x_b : bag_Bag) (x_names : List Str) (R : Int × bag_Bag) (w0 : World) (hG : zt w0) {x_b_b0 : Nat} {x_b_p1 : Option Addr} {x_b_c1 : Nat} {x_names_p2 : Option Addr} {x_names_c2 : Nat} {F : List Nat} (hF : zu F) (hO : Dk.Own w0 F w0 [.blk x_b_b0 [.slice x_b_p1 x_b.f_l.length x_b_c1] 107, .row (.slice x_b_p1 x_b.f_l.length x_b_c1) 54 2 x_b.f_l.length (cells za x_b.f_l), .shr x_names_p2 (cells zg x_names)]) (hcw0 : x_names.length ≤ x_names_c2) (hm : zge x_b x_names = some R) :
    Calls Tryz.prog 73 #[ptr x_b_b0 0, .slice x_names_p2 x_names.length x_names_c2] w0 fun e w' => ∃ (p0 : Option Addr) (c0 : Nat), e = .returned (int R.1) ∧ Dk.Own w0 F w' [.blk x_b_b0 [.slice p0 R.2.f_l.length c0] 107, .row (.slice p0 R.2.f_l.length c0) 54 2 R.2.f_l.length (cells za R.2.f_l)] := by
 rw [zge] at hm
 refine S.enter tb Tryz.func73 rfl Tryz.ntmps73 rfl ?_ hO hm
 refine bo rfl fun b1 => ?_
 refine vl rfl rfl (fun a w hf hO => zgF Tryz.underlying63 hf rfl rfl) ?_
 refine kn (b' := false) rfl rfl ?_
 refine ld 1 rfl rfl ?_
 refine ld 1 rfl rfl ?_
 refine vl rfl rfl (fun a w hf hO => zka hf (vs := [ptr b1 0]) rfl) ?_
 refine rw_ rfl fun a w hf hO hm => ?_
 obtain ⟨r6, hr6, hm⟩ := ob hm
 have hch9 := (show Dk.Own w0 F _ ([.row (.slice x_b_p1 x_b.f_l.length x_b_c1) 54 2 x_b.f_l.length (cells za x_b.f_l)] ++ [.blk b1 [.slice x_names_p2 x_names.length x_names_c2] 42, .blk x_b_b0 [.slice x_b_p1 x_b.f_l.length x_b_c1] 107, .shr x_names_p2 (cells zg x_names)]) from hO.choose [2, 0, 1, 3] rfl)
 have hfar9 := Dk.Own.far hch9 rfl hF hG.size
 have hlend9 := hch9.lend (S := [.shr (some ⟨b1, 0, none⟩) [.slice x_names_p2 x_names.length x_names_c2], .shr x_names_p2 (cells zg x_names)]) rfl ⟨zwC (hO.blkSees (i := 0) rfl) (List.mem_of_getElem? (i := 0) rfl), zie (hO.sees (i := 3) rfl) (List.mem_of_getElem? (i := 2) rfl), trivial⟩
 have hcl9 := zdk x_b.f_l x_names r6 _ (hG.own hF hO) hfar9 hlend9 hcw0 hr6
 refine zj (zh c_120 hf (vs := [.slice x_b_p1 x_b.f_l.length x_b_c1, .func (.func 121) #[] #[ptr b1 0]]) rfl) rfl hf rfl rfl (hcl9) ?_
 rintro e w' ⟨p7, c8, he, hO'⟩
 refine ⟨_, he, fun a hf => ?_⟩
 have hO := hch9.back rfl hO' rfl
 refine S.op tb ?_ hf hO hm
 refine st 2 rfl rfl ?_
 refine ld 2 rfl rfl ?_
 refine bi rfl fun i11 hi11 => ?_
 refine re_ rfl fun a w hf hO hm => ?_
 obtain rfl := Option.some.inj hm
 exact zi Tryz.results73 hf (.tmp rfl .nil) ⟨p7, c8, rfl, (hO.choose [2, 0] rfl)⟩

theorem zrT (x_l : List api_Field) (R : List api_Field) (w0 : World) (hG : zt w0) {x_l_p0 : Option Addr} {x_l_c0 : Nat} (hs0 : zy w0 x_l_p0 (cells za x_l)) (hc0 : x_l.length ≤ x_l_c0) (hm : znd x_l = some R) :
    Calls Tryz.prog 38 #[.slice x_l_p0 x_l.length x_l_c0] w0 fun e w' => ∃ (p0 : Option Addr) (c0 : Nat), e = .returned (.slice p0 R.length c0) ∧ Dk.Own w0 [] w' [.row (.slice p0 R.length c0) 54 2 R.length (cells za R)] := by
 rw [znd] at hm
 have hF : zu [] := zf
 have hO : Dk.Own w0 [] w0 [] := Dk.Own.refl w0
 have hO := hO.addShr hs0 (by simp [Res.shared])
 refine S.enter tb Tryz.func38 rfl Tryz.ntmps38 rfl ?_ hO hm
 refine nl 54 2 ?_
 refine rw_ rfl fun a w hf hO hm => ?_
 obtain ⟨r2, hr2, hm⟩ := ob hm
 refine zj (zh zsz hf (vs := [.slice x_l_p0 x_l.length x_l_c0]) rfl) rfl hf rfl rfl (zfJ x_l r2 _ (hG.own hF hO) (hO.sees (i := 1) rfl) hc0 hr2) ?_
 rintro e w' ⟨b3, p4, c5, he, hO'⟩
 refine ⟨_, he, fun a hf => ?_⟩
 have hO := hO.call hO' (by simp [Res.shared])
 refine S.op tb ?_ hf hO hm
 refine rw_ rfl fun a w hf hO hm => ?_
 obtain ⟨r7, hr7, hm⟩ := ob hm
 refine zj (zh c_74 hf (vs := [.slice x_l_p0 x_l.length x_l_c0]) rfl) rfl hf rfl rfl (zn7 x_l r7 _ (hG.own hF hO) (hO.sees (i := 3) rfl) hc0 hr7) ?_
 rintro e w' ⟨p8, c9, he, hO'⟩
 refine ⟨_, he, fun a hf => ?_⟩
 have hO := hO.call hO' (by simp [Res.shared])
 refine S.op tb ?_ hf hO hm
 refine rw_ rfl fun a w hf hO hm => ?_
 obtain ⟨r10, hr10, hm⟩ := ob hm
 refine zj (zh c_75 hf (vs := []) rfl) rfl hf rfl rfl (zsp r10 _ (hG.own hF hO) hr10) ?_
 rintro e w' ⟨p11, c12, he, hO'⟩
 refine ⟨_, he, fun a hf => ?_⟩
 have hO := hO.call hO' (by simp [Res.shared])
 refine S.op tb ?_ hf hO hm
 refine rw_ rfl fun a w hf hO hm => ?_
 obtain ⟨hg15, hm⟩ := og hm
 refine zfH ziE (enc := zg) (xs := r7) (ys := r10) (i := 1) (fun _ => rfl) rfl (hO.rowSees (i := 0) rfl) (by simp [zg, Value.oneCell']) hg15 hf rfl rfl rfl hO fun a p13 c14 w hf hO => ?_
 refine S.op tb ?_ hf hO hm
 refine rw_ rfl fun a w hf hO hm => ?_
 obtain ⟨r16, hr16, hm⟩ := ob hm
 have hch19 := (show Dk.Own w0 [] _ ([.blk b3 [.slice p4 r2.f_l.length c5] 107, .row (.slice p4 r2.f_l.length c5) 54 2 r2.f_l.length (cells za r2.f_l)] ++ [.row (.slice p11 r10.length c12) 9 1 r10.length (cells zg r10), .row (.slice p13 ((r7 ++ r10).length) c14) 9 1 ((r7 ++ r10).length) (cells zg (r7 ++ r10)), .row (.slice none 0 0) 54 2 0 (cells za []), .shr x_l_p0 (cells za x_l)]) from hO.choose [2, 3, 0, 1, 4, 5] rfl)
 have hfar19 := Dk.Own.far hch19 rfl hF hG.size
 have hlend19 := hch19.lend (S := [.shr p13 (cells zg (r7 ++ r10))]) rfl ⟨zkN (hO.rowSees (i := 1) rfl) (List.mem_of_getElem? (i := 1) rfl), trivial⟩
 have hcl19 := zi3 r2 (r7 ++ r10) r16 _ (hG.own hF hO) hfar19 hlend19 (hO.rowCap (i := 1) rfl) hr16
 refine zj (zh c_73 hf (vs := [ptr b3 0, .slice p13 ((r7 ++ r10).length) c14]) rfl) rfl hf rfl rfl (hcl19) ?_
 rintro e w' ⟨p17, c18, he, hO'⟩
 refine ⟨_, he, fun a hf => ?_⟩
 have hO := hch19.back rfl hO' rfl
 refine S.op tb ?_ hf hO hm
 refine rw_ rfl fun a w hf hO hm => ?_
 obtain ⟨r21, hr21, hm⟩ := ob hm
 refine zj (zh ztw hf (vs := [ptr b3 0]) rfl) rfl hf rfl rfl (zcL r16.2 r21 _ (hG.own hF hO) (hO.blkSees (i := 0) rfl) (hO.rowSees (i := 1) rfl) (hO.rowCap (i := 1) rfl) hr21) ?_
 rintro e w' ⟨p22, c23, he, hO'⟩
 refine ⟨_, he, fun a hf => ?_⟩
 have hO := hO.call hO' (by simp [Res.shared])
 refine S.op tb ?_ hf hO hm
 refine re_ rfl fun a w hf hO hm => ?_
 obtain rfl := Option.some.inj hm
 exact zi Tryz.results38 hf (.tmp rfl .nil) ⟨p22, c23, rfl, (hO.sub (.cons_cons _ (.cons _ (.cons _ (.cons _ (.cons _ (.cons _ (.cons _ .slnil))))))))⟩

theorem znW (x_b : UInt8) (R : Int) (w0 : World) (hG : zt w0) (hm : zfd x_b = some R) :
    Calls Tryz.prog 224 #[zak x_b] w0 (Ret w0 (fun R => int R) R) := by
 rw [zfd] at hm
 have hF : zu [] := zf
 have hO : Dk.Own w0 [] w0 [] := Dk.Own.refl w0
 refine S.enter tb Tryz.func224 rfl Tryz.ntmps224 rfl ?_ hO hm
 refine cl zqx rfl (fun r2 w hr2 hO => zc4 x_b r2 _ (hG.own hF hO) hr2) fun r2 hr2 => ?_
 refine br rfl (fun hc4 => ?_) fun hc4 => ?_
 refine vl rfl rfl (fun a w hf hO => zrz (b := x_b) (c := 48) hf rfl rfl) ?_
 refine vl rfl rfl (fun a w hf hO => zqc Tryz.underlying3 Tryz.underlying5 (zrC _) hf (kd := .u8) rfl) ?_
 exact rt Tryz.results224 rfl
 refine cl zsD rfl (fun r7 w hr7 hO => zeb x_b r7 _ (hG.own hF hO) hr7) fun r7 hr7 => ?_
 refine vl rfl rfl (fun a w hf hO => zrz (b := r7) (c := 97) hf rfl rfl) ?_
 refine vl rfl rfl (fun a w hf hO => zqc Tryz.underlying3 Tryz.underlying5 (zrC _) hf (kd := .u8) rfl) ?_
 refine bi rfl fun i8 hi8 => ?_
 exact rt Tryz.results224 rfl

theorem zoD (x_s : Str) (x_base : Int) (x_most : Int) (x_is : UInt8 → Option Bool) (R : Int × Int) (w0 : World) (hG : zt w0) {x_is_f : Nat} {x_is_p x_is_c : Array Value} (x_is_k : zd Tryz.prog x_is_f) (x_is_h : ∀ (y0 : UInt8) (r : Bool) (w : World), zt w → x_is y0 = some r → Calls Tryz.prog x_is_f (x_is_p ++ [zak y0].toArray ++ x_is_c) w fun e w' => e = .returned (.bool r) ∧ Below w.heap.size w w') (hm : zgf x_s x_base x_most x_is = some R) :
    Calls Tryz.prog 181 #[str x_s, int x_base, int x_most, .func (.func x_is_f) x_is_p x_is_c] w0 (Ret w0 (fun R => .tuple #[int R.1, int R.2]) R) := by
 rw [zgf] at hm
 have hF : zu [] := zf
 have hO : Dk.Own w0 [] w0 [] := Dk.Own.refl w0
 refine S.enter tb Tryz.func181 rfl Tryz.ntmps181 rfl ?_ hO hm
 refine jv 1 [0, 1, 2] [] (fun J E L => ∃ (t5 : Bool), J ((21, .bool t5) :: E) (L) (zc0 x_s x_base x_most t5)) rfl ?_ ?_
 refine br rfl (fun hc2 => ?_) fun hc2 => ?_
 exact en rfl fun _ _ j => ⟨true, j rfl⟩
 refine rw_ rfl fun a w hf hO hm => ?_
 refine zm (vs := [(0, str x_s)]) (cs := [str x_s]) (e := 9) (sz := 1) hf rfl rfl (fun w => by kernel_rfl) rfl rfl hO fun a b3 w hf hO => ?_
 refine S.op tb ?_ hf hO hm
 refine kn (b' := false) hc2 rfl ?_
 refine cl zjW rfl (fun r4 w hr4 hO => zbI x_is ([x_s] : List Str) r4 _ (hG.own hF hO) x_is_k x_is_h (hO.rowSees (i := 0) rfl) (hO.rowCap (i := 0) rfl) hr4) fun r4 hr4 => ?_
 exact ec [] rfl rfl rfl fun _ _ j => ⟨!r4, j rfl⟩
 rintro a w ⟨t5, hf, hO, hm⟩
 rw [zc0] at hm
 refine S.co tb ?_ hf hO hm
 refine br rfl (fun hc6 => ?_) fun hc6 => ?_
 exact rt Tryz.results181 rfl
 refine lv [0, 1, 2, 23] [] (fun J E L k => ∃ (i11 : Int) (i12 : Int), J ((10, int i11) :: (24, int i12) :: E) (L) (zaR x_s x_base x_most k i11 i12)) rfl (fun _ _ j => ⟨0, 0, j rfl⟩) ?_
 rintro n2 a w ⟨i11, i12, hf, hO, hm⟩
 obtain _ | n2 := n2
 rw [zaR] at hm
 cases hm
 rw [zaR] at hm
 refine S.co tb ?_ hf hO hm
 refine br rfl (fun hc14 => ?_) fun hc14 => ?_
 refine bi rfl fun b17 hb17 => ?_
 refine cl c_224 rfl (fun r18 w hr18 hO => znW b17 r18 _ (hG.own hF hO) hr18) fun r18 hr18 => ?_
 refine jv 6 [0, 1, 2, 10, 12, 23, 24] [] (fun J E L => ∃ (t23 : Bool), J ((42, .bool t23) :: E) (L) (zcZ (zaR x_s x_base x_most n2) x_base i11 i12 r18 t23)) rfl ?_ ?_
 refine br rfl (fun hc20 => ?_) fun hc20 => ?_
 exact en rfl fun _ _ j => ⟨true, j rfl⟩
 refine bi rfl fun i21 hi21 => ?_
 refine bi rfl fun i22 hi22 => ?_
 exact en rfl fun _ _ j => ⟨decide (i22 < i11), j rfl⟩
 rintro a w ⟨t23, hf, hO, hm⟩
 rw [zcZ] at hm
 refine S.co tb ?_ hf hO hm
 refine br rfl (fun hc24 => ?_) fun hc24 => ?_
 exact rt Tryz.results181 rfl
 refine bi rfl fun i27 hi27 => ?_
 refine bi rfl fun i28 hi28 => ?_
 refine bi rfl fun i30 hi30 => ?_
 exact en rfl fun _ _ j => ⟨_, Nat.lt_succ_self _, i28, i30, j rfl⟩
 exact rt Tryz.results181 rfl

end Go.Proofs
end
section
set_option linter.unusedVariables false
set_option maxHeartbeats 1000000
set_option linter.unusedSimpArgs false
set_option maxRecDepth 100000
namespace Go.Proofs
open Go.Dk Go.Dm Go.RowKit

theorem zil (x_s : Str) (x_most : Int) (R : Int × Int) (w0 : World) (hG : zt w0) (hm : zc1 x_s x_most = some R) :
    Calls Tryz.prog 129 #[str x_s, int x_most] w0 (Ret w0 (fun R => .tuple #[int R.1, int R.2]) R) := by
 rw [zc1] at hm
 have hF : zu [] := zf
 have hO : Dk.Own w0 [] w0 [] := Dk.Own.refl w0
 refine S.enter tb Tryz.func129 rfl Tryz.ntmps129 rfl ?_ hO hm
 refine cl c_181 rfl (fun r2 w hr2 hO => zoD x_s 10 x_most zaQ r2 _ (hG.own hF hO) zqx (fun y0 r w hG h => ze5 (zc4 y0 r w hG h)) hr2) fun r2 hr2 => ?_
 exact rt Tryz.results129 rfl

theorem zoF (x_n : Int) (x_base : Int) (R : Str) (w0 : World) (hG : zaG w0) (hm : zhH x_n x_base = some R) :
    Calls Tryz.prog 47 #[int x_n, int x_base] w0 (Ret w0 (fun R => str R) R) := by
 rw [zhH] at hm
 have hF : zu [] := zf
 have hO : Dk.Own w0 [] w0 [] := Dk.Own.refl w0
 refine S.enter tb Tryz.func47 rfl Tryz.ntmps47 rfl ?_ hO hm
 refine br rfl (fun hc3 => ?_) fun hc3 => ?_
 exact rt Tryz.results47 rfl
 refine cl c_88 rfl (fun r6 w hr6 hO => zk7 x_n x_base r6 _ (hG.own hF hO) hr6) fun r6 hr6 => ?_
 exact rt Tryz.results47 rfl

theorem zhZ (x_n : Int) (R : Str) (w0 : World) (hG : zaG w0) (hm : zdb x_n = some R) :
    Calls Tryz.prog 21 #[int x_n] w0 (Ret w0 (fun R => str R) R) := by
 rw [zdb] at hm
 have hF : zu [] := zf
 have hO : Dk.Own w0 [] w0 [] := Dk.Own.refl w0
 refine S.enter tb Tryz.func21 rfl Tryz.ntmps21 rfl ?_ hO hm
 refine cl c_47 rfl (fun r2 w hr2 hO => zoF x_n 10 r2 _ (hG.own hF hO) hr2) fun r2 hr2 => ?_
 exact rt Tryz.results21 rfl

theorem zi5 (x_s : Str) (x_most : Int) (R : Bool) (w0 : World) (hG : zaG w0) (hm : zcP x_s x_most = some R) :
    Calls Tryz.prog 128 #[str x_s, int x_most] w0 (Ret w0 (fun R => .bool R) R) := by
 rw [zcP] at hm
 have hF : zu [] := zf
 have hO : Dk.Own w0 [] w0 [] := Dk.Own.refl w0
 refine S.enter tb Tryz.func128 rfl Tryz.ntmps128 rfl ?_ hO hm
 refine cl c_129 rfl (fun r2 w hr2 hO => zil x_s x_most r2 _ (hG.own hF hO).1 hr2) fun r2 hr2 => ?_
 refine jv 0 [] [] (fun J E L => ∃ (t6 : Bool), J ((4, .bool t6) :: E) (L) (zch t6)) rfl ?_ ?_
 refine br rfl (fun hc4 => ?_) fun hc4 => ?_
 refine cl c_21 rfl (fun r5 w hr5 hO => zhZ r2.1 r5 _ (hG.own hF hO) hr5) fun r5 hr5 => ?_
 exact en rfl fun _ _ j => ⟨r5 == x_s, j rfl⟩
 exact en rfl fun _ _ j => ⟨false, j rfl⟩
 rintro a w ⟨t6, hf, hO, hm⟩
 rw [zch] at hm
 refine S.co tb ?_ hf hO hm
 exact rt Tryz.results128 rfl

theorem zcY (x_s : Str) (R : Bool) (w0 : World) (hG : zaG w0) (hm : zbi x_s = some R) :
    Calls Tryz.prog 92 #[str x_s] w0 fun e w' => e = .returned (.bool R) ∧ Below w0.heap.size w0 w' := by
  unfold zbi at hm
  split at hm
  · rename_i hs
    obtain ⟨bs, hbs, hm⟩ := ob hm
    cases hm
    exact zw0 (fun x => zcP x 255) (fun x b W hG h => zi5 x 255 b W hG h) x_s hs bs hbs w0 hG
  · cases hm

theorem zg0 (x_b : UInt8) (R : Bool) (w0 : World) (hG : zt w0) (hm : zbF x_b = some R) :
    Calls Tryz.prog 175 #[zak x_b] w0 (Ret w0 (fun R => .bool R) R) := by
 rw [zbF] at hm
 have hF : zu [] := zf
 have hO : Dk.Own w0 [] w0 [] := Dk.Own.refl w0
 refine S.enter tb Tryz.func175 rfl Tryz.ntmps175 rfl ?_ hO hm
 refine jv 0 [] [] (fun J E L => ∃ (t7 : Bool), J ((2, .bool t7) :: E) (L) (zeu t7)) rfl ?_ ?_
 refine cl zqx rfl (fun r2 w hr2 hO => zc4 x_b r2 _ (hG.own hF hO) hr2) fun r2 hr2 => ?_
 refine br rfl (fun hc3 => ?_) fun hc3 => ?_
 exact en rfl fun _ _ j => ⟨true, j rfl⟩
 refine cl zsD rfl (fun r4 w hr4 hO => zeb x_b r4 _ (hG.own hF hO) hr4) fun r4 hr4 => ?_
 refine vl rfl rfl (fun a w hf hO => zl2 (b := r4) (c := 97) hf rfl rfl) ?_
 refine br rfl (fun hc5 => ?_) fun hc5 => ?_
 refine cl zsD rfl (fun r6 w hr6 hO => zeb x_b r6 _ (hG.own hF hO) hr6) fun r6 hr6 => ?_
 refine vl rfl rfl (fun a w hf hO => zl1 (b := r6) (c := 102) hf rfl rfl) ?_
 exact en rfl fun _ _ j => ⟨decide (r6 ≤ 102), j rfl⟩
 exact en rfl fun _ _ j => ⟨false, j rfl⟩
 rintro a w ⟨t7, hf, hO, hm⟩
 rw [zeu] at hm
 refine S.co tb ?_ hf hO hm
 exact rt Tryz.results175 rfl

theorem zf5 (x_s : Str) (x_last : Bool) (R : Int) (w0 : World) (hG : zaG w0) (hm : zco x_s x_last = some R) :
    Calls Tryz.prog 119 #[str x_s, .bool x_last] w0 (Ret w0 (fun R => int R) R) := by
 rw [zco] at hm
 have hF : zu [] := zf
 have hO : Dk.Own w0 [] w0 [] := Dk.Own.refl w0
 refine S.enter tb Tryz.func119 rfl Tryz.ntmps119 rfl ?_ hO hm
 refine br rfl (fun hc3 => ?_) fun hc3 => ?_
 exact rt Tryz.results119 rfl
 refine rw_ rfl fun a w hf hO hm => ?_
 obtain ⟨r6, hr6, hm⟩ := ob hm
 refine zj (zh c_174 hf (vs := [str x_s, str [58]]) rfl) rfl hf rfl rfl (zjR x_s [58] r6 _ (hG.own hF hO).1 hr6) ?_
 rintro e w' ⟨p7, c8, he, hO'⟩
 refine ⟨_, he, fun a hf => ?_⟩
 have hO := hO.call hO' (by simp [Res.shared])
 refine S.op tb ?_ hf hO hm
 refine lv [1, 5, 13, 14] [0] (fun J E L k => ∃ (i12 : Int) (i13 : Int), J ((6, int i12) :: (15, int i13) :: E) (L) (zM x_last r6 k i12 i13)) rfl (fun _ _ j => ⟨0, 0, j rfl⟩) ?_
 rintro n1 a w ⟨i12, i13, hf, hO, hm⟩
 obtain _ | n1 := n1
 rw [zM] at hm
 cases hm
 rw [zM] at hm
 refine S.co tb ?_ hf hO hm
 refine br rfl (fun hc15 => ?_) fun hc15 => ?_
 refine jv 3 [1, 5, 13, 14, 15] [0] (fun J E L => ∃ (i36 : Int), J ((6, int i36) :: E) (L) (zbU (zM x_last r6 n1) i13 i36)) rfl ?_ ?_
 refine rw_ rfl fun a w hf hO hm => ?_
 obtain ⟨x17, hx17, hm⟩ := ob hm
 obtain ⟨b18, o19, hix17, hSx17, hAx17⟩ := zaw (enc := zg) (sz := 1) (xs := r6) 42 Tryz.underlying42 zfZ (by decide) (fun _ => rfl) hO (i := 0) rfl hx17
 refine zS (zk hix17 hf rfl rfl) rfl hf rfl rfl fun a hf => ?_
 refine S.op tb ?_ hf hO hm
 refine vl rfl rfl (fun a w hf hO => ze (o := 0) z7 (hSx17 _ (hO.rowSees (i := 0) rfl)) rfl hf rfl) ?_
 refine jv 6 [1, 5, 6, 8, 13, 14, 15] [0] (fun J E L => ∃ (t25 : Bool), J ((20, .bool t25) :: E) (L) (za8 (zM x_last r6 n1) i12 i13 x17 t25)) rfl ?_ ?_
 refine br rfl (fun hc21 => ?_) fun hc21 => ?_
 refine bi rfl fun i22 hi22 => ?_
 refine br rfl (fun hc23 => ?_) fun hc23 => ?_
 refine cl c_92 rfl (fun r24 w hr24 hO => zcY x17 r24 _ (hG.own hF hO) hr24) fun r24 hr24 => ?_
 exact en rfl fun _ _ j => ⟨r24, j rfl⟩
 exact en rfl fun _ _ j => ⟨false, j rfl⟩
 exact en rfl fun _ _ j => ⟨false, j rfl⟩
 rintro a w ⟨t25, hf, hO, hm⟩
 rw [za8] at hm
 refine S.co tb ?_ hf hO hm
 refine br rfl (fun hc26 => ?_) fun hc26 => ?_
 refine bi rfl fun i27 hi27 => ?_
 exact en rfl fun _ _ j => ⟨i27, j rfl⟩
 refine jv 6 [1, 5, 6, 13, 14, 15] [0] (fun J E L => ∃ (t32 : Bool), J ((35, .bool t32) :: E) (L) (za7 (zM x_last r6 n1) i12 i13 t32)) rfl ?_ ?_
 refine br rfl (fun hc28 => ?_) fun hc28 => ?_
 refine br rfl (fun hc29 => ?_) fun hc29 => ?_
 refine rw_ rfl fun a w hf hO hm => ?_
 refine zm (vs := [(0, str x17)]) (cs := [str x17]) (e := 9) (sz := 1) hf rfl rfl (fun w => by kernel_rfl) rfl rfl hO fun a b30 w hf hO => ?_
 refine S.op tb ?_ hf hO hm
 refine kn (b' := true) hc29 rfl ?_
 refine cl zjW rfl (fun r31 w hr31 hO => zbI zbF ([x17] : List Str) r31 _ (hG.own hF hO).1 zt5 (fun y0 r w hG h => ze5 (zg0 y0 r w hG h)) (hO.rowSees (i := 0) rfl) (hO.rowCap (i := 0) rfl) hr31) fun r31 hr31 => ?_
 exact ec [1] rfl rfl rfl fun _ _ j => ⟨r31, j rfl⟩
 exact en rfl fun _ _ j => ⟨false, j rfl⟩
 exact en rfl fun _ _ j => ⟨false, j rfl⟩
 rintro a w ⟨t32, hf, hO, hm⟩
 rw [za7] at hm
 refine S.co tb ?_ hf hO hm
 refine br rfl (fun hc33 => ?_) fun hc33 => ?_
 refine bi rfl fun i34 hi34 => ?_
 exact en rfl fun _ _ j => ⟨i34, j rfl⟩
 exact rt Tryz.results119 rfl
 rintro a w ⟨i36, hf, hO, hm⟩
 rw [zbU] at hm
 refine S.co tb ?_ hf hO hm
 refine bi rfl fun i37 hi37 => ?_
 exact en rfl fun _ _ j => ⟨_, Nat.lt_succ_self _, i36, i37, j rfl⟩
 exact rt Tryz.results119 rfl

theorem zf6 (x_s : Str) (R : Bool) (w0 : World) (hG : zaG w0) (hm : zcy x_s = some R) :
    Calls Tryz.prog 71 #[str x_s] w0 (Ret w0 (fun R => .bool R) R) := by
 rw [zcy] at hm
 have hF : zu [] := zf
 have hO : Dk.Own w0 [] w0 [] := Dk.Own.refl w0
 refine S.enter tb Tryz.func71 rfl Tryz.ntmps71 rfl ?_ hO hm
 refine cl zwv rfl (fun r2 w hr2 hO => ziH x_s [58, 58] r2 _ (hG.own hF hO).1 hr2) fun r2 hr2 => ?_
 refine br rfl (fun hc5 => ?_) fun hc5 => ?_
 refine cl zww rfl (fun r6 w hr6 hO => zf5 x_s true r6 _ (hG.own hF hO) hr6) fun r6 hr6 => ?_
 exact rt Tryz.results71 rfl
 refine cl zww rfl (fun r9 w hr9 hO => zf5 r2.1 false r9 _ (hG.own hF hO) hr9) fun r9 hr9 => ?_
 refine cl zww rfl (fun r10 w hr10 hO => zf5 r2.2.1 true r10 _ (hG.own hF hO) hr10) fun r10 hr10 => ?_
 refine jv 0 [] [] (fun J E L => ∃ (t15 : Bool), J ((2, .bool t15) :: E) (L) (zbG t15)) rfl ?_ ?_
 refine br rfl (fun hc12 => ?_) fun hc12 => ?_
 refine br rfl (fun hc13 => ?_) fun hc13 => ?_
 refine bi rfl fun i14 hi14 => ?_
 exact en rfl fun _ _ j => ⟨decide (i14 ≤ 7), j rfl⟩
 exact en rfl fun _ _ j => ⟨false, j rfl⟩
 exact en rfl fun _ _ j => ⟨false, j rfl⟩
 rintro a w ⟨t15, hf, hO, hm⟩
 rw [zbG] at hm
 refine S.co tb ?_ hf hO hm
 exact rt Tryz.results71 rfl

theorem zly (x_s : Str) (R : Bool) (w0 : World) (hG : zt w0) (hm : zeW x_s = some R) :
    Calls Tryz.prog 221 #[str x_s] w0 (Ret w0 (fun R => .bool R) R) := by
 rw [zeW] at hm
 have hF : zu [] := zf
 have hO : Dk.Own w0 [] w0 [] := Dk.Own.refl w0
 refine S.enter tb Tryz.func221 rfl Tryz.ntmps221 rfl ?_ hO hm
 refine jv 0 [] [] (fun J E L => ∃ (t8 : Bool), J ((2, .bool t8) :: E) (L) (zag t8)) rfl ?_ ?_
 refine br rfl (fun hc2 => ?_) fun hc2 => ?_
 refine bi rfl fun b3 hb3 => ?_
 refine vl rfl rfl (fun a w hf hO => zaL (b := b3) (c := 37) hf rfl rfl) ?_
 refine br rfl (fun hc4 => ?_) fun hc4 => ?_
 refine bi rfl fun s5 hs5 => ?_
 refine rw_ rfl fun a w hf hO hm => ?_
 refine zm (vs := [(0, str s5)]) (cs := [str s5]) (e := 9) (sz := 1) hf rfl rfl (fun w => by kernel_rfl) rfl rfl hO fun a b6 w hf hO => ?_
 refine S.op tb ?_ hf hO hm
 refine kn (b' := true) hc4 rfl ?_
 refine cl zjW rfl (fun r7 w hr7 hO => zbI zbF ([s5] : List Str) r7 _ (hG.own hF hO) zt5 (fun y0 r w hG h => ze5 (zg0 y0 r w hG h)) (hO.rowSees (i := 0) rfl) (hO.rowCap (i := 0) rfl) hr7) fun r7 hr7 => ?_
 exact ec [] rfl rfl rfl fun _ _ j => ⟨r7, j rfl⟩
 exact en rfl fun _ _ j => ⟨false, j rfl⟩
 exact en rfl fun _ _ j => ⟨false, j rfl⟩
 rintro a w ⟨t8, hf, hO, hm⟩
 rw [zag] at hm
 refine S.co tb ?_ hf hO hm
 exact rt Tryz.results221 rfl

theorem zhc (x_b : UInt8) (R : Bool) (w0 : World) (hG : zt w0) (hm : zbV x_b = some R) :
    Calls Tryz.prog 222 #[zak x_b] w0 (Ret w0 (fun R => .bool R) R) := by
 rw [zbV] at hm
 have hF : zu [] := zf
 have hO : Dk.Own w0 [] w0 [] := Dk.Own.refl w0
 refine S.enter tb Tryz.func222 rfl Tryz.ntmps222 rfl ?_ hO hm
 refine jv 0 [] [] (fun J E L => ∃ (t7 : Bool), J ((2, .bool t7) :: E) (L) (zbP t7)) rfl ?_ ?_
 refine cl zt6 rfl (fun r2 w hr2 hO => zfA x_b r2 _ (hG.own hF hO) hr2) fun r2 hr2 => ?_
 refine br rfl (fun hc3 => ?_) fun hc3 => ?_
 exact en rfl fun _ _ j => ⟨true, j rfl⟩
 refine cl zqx rfl (fun r4 w hr4 hO => zc4 x_b r4 _ (hG.own hF hO) hr4) fun r4 hr4 => ?_
 refine br rfl (fun hc5 => ?_) fun hc5 => ?_
 exact en rfl fun _ _ j => ⟨true, j rfl⟩
 refine cl zt7 rfl (fun r6 w hr6 hO => ziC x_b [45, 46, 95, 126] r6 _ (hG.own hF hO) hr6) fun r6 hr6 => ?_
 exact en rfl fun _ _ j => ⟨r6, j rfl⟩
 rintro a w ⟨t7, hf, hO, hm⟩
 rw [zbP] at hm
 refine S.co tb ?_ hf hO hm
 exact rt Tryz.results222 rfl

theorem zlj (x_b : UInt8) (R : Bool) (w0 : World) (hG : zt w0) (hm : zfN x_b = some R) :
    Calls Tryz.prog 223 #[zak x_b] w0 (Ret w0 (fun R => .bool R) R) := by
 rw [zfN] at hm
 have hF : zu [] := zf
 have hO : Dk.Own w0 [] w0 [] := Dk.Own.refl w0
 refine S.enter tb Tryz.func223 rfl Tryz.ntmps223 rfl ?_ hO hm
 refine cl zt7 rfl (fun r2 w hr2 hO => ziC x_b [33, 36, 38, 39, 40, 41, 42, 43, 44, 59, 61] r2 _ (hG.own hF hO) hr2) fun r2 hr2 => ?_
 exact rt Tryz.results223 rfl

theorem zhp (x_s : Str) (R : Bool) (w0 : World) (hG : zt w0) (hm : zdn x_s = some R) :
    Calls Tryz.prog 179 #[str x_s] w0 (Ret w0 (fun R => .bool R) R) := by
 rw [zdn] at hm
 have hF : zu [] := zf
 have hO : Dk.Own w0 [] w0 [] := Dk.Own.refl w0
 refine S.enter tb Tryz.func179 rfl Tryz.ntmps179 rfl ?_ hO hm
 refine br rfl (fun hc3 => ?_) fun hc3 => ?_
 exact rt Tryz.results179 rfl
 refine lv [] [] (fun J E L k => ∃ (s6 : Str), J ((0, str s6) :: E) (L) (zay k s6)) rfl (fun _ _ j => ⟨x_s, j rfl⟩) ?_
 rintro n1 a w ⟨s6, hf, hO, hm⟩
 obtain _ | n1 := n1
 rw [zay] at hm
 cases hm
 rw [zay] at hm
 refine S.co tb ?_ hf hO hm
 refine br rfl (fun hc8 => ?_) fun hc8 => ?_
 refine cl c_221 rfl (fun r10 w hr10 hO => zly s6 r10 _ (hG.own hF hO) hr10) fun r10 hr10 => ?_
 refine br rfl (fun hc12 => ?_) fun hc12 => ?_
 refine bi rfl fun s13 hs13 => ?_
 exact en rfl fun _ _ j => ⟨_, Nat.lt_succ_self _, s13, j rfl⟩
 refine jv 5 [0] [] (fun J E L => ∃ (t19 : Bool), J ((12, .bool t19) :: E) (L) (zdz (zay n1) s6 t19)) rfl ?_ ?_
 refine bi rfl fun b14 hb14 => ?_
 refine cl c_222 rfl (fun r15 w hr15 hO => zhc b14 r15 _ (hG.own hF hO) hr15) fun r15 hr15 => ?_
 refine br rfl (fun hc16 => ?_) fun hc16 => ?_
 exact en rfl fun _ _ j => ⟨true, j rfl⟩
 refine bi rfl fun b17 hb17 => ?_
 refine cl c_223 rfl (fun r18 w hr18 hO => zlj b17 r18 _ (hG.own hF hO) hr18) fun r18 hr18 => ?_
 exact en rfl fun _ _ j => ⟨r18, j rfl⟩
 rintro a w ⟨t19, hf, hO, hm⟩
 rw [zdz] at hm
 refine S.co tb ?_ hf hO hm
 refine br rfl (fun hc20 => ?_) fun hc20 => ?_
 refine bi rfl fun s21 hs21 => ?_
 exact en rfl fun _ _ j => ⟨_, Nat.lt_succ_self _, s21, j rfl⟩
 exact rt Tryz.results179 rfl
 exact rt Tryz.results179 rfl

end Go.Proofs
end
section
set_option linter.unusedVariables false
set_option maxHeartbeats 1000000
set_option linter.unusedSimpArgs false
set_option maxRecDepth 100000
namespace Go.Proofs
open Go.Dk Go.Dm Go.RowKit

theorem zlf (x_s : Str) (R : api_Host × Bool) (w0 : World) (hG : zaG w0) (hm : zfO x_s = some R) :
    Calls Tryz.prog 126 #[str x_s] w0 (Ret w0 (fun R => .tuple #[.agg #[int R.1.Kind, str R.1.Name, int R.1.Port], .bool R.2]) R) := by
 rw [zfO] at hm
 have hF : zu [] := zf
 have hO : Dk.Own w0 [] w0 [] := Dk.Own.refl w0
 refine S.enter tb Tryz.func126 rfl Tryz.ntmps126 rfl ?_ hO hm
 refine al zmB rfl fun b1 => ?_
 refine vl rfl rfl (fun a w hf hO => zB (vs := [(1, str x_s), (2, int (-1))]) (v := .agg #[int 0, str x_s, int (-1)]) hf rfl (by kernel_rfl)) ?_
 refine al zmB rfl fun b3 => ?_
 refine st 0 rfl rfl ?_
 refine jv 0 [2, 4] [1] (fun J E L => ∃ (i24 : Int) (s25 : Str), J (E) (.blk b3 [int i24, str s25, int (-1)] 87 :: L) (zcQ i24 s25)) rfl ?_ ?_
 refine jv 2 [0, 2, 4] [0, 1] (fun J E L => ∃ (t14 : Bool), J ((7, .bool t14) :: E) (L) (zb8 x_s t14)) rfl ?_ ?_
 refine br rfl (fun hc5 => ?_) fun hc5 => ?_
 refine bi rfl fun b6 hb6 => ?_
 refine vl rfl rfl (fun a w hf hO => zaL (b := b6) (c := 91) hf rfl rfl) ?_
 refine br rfl (fun hc7 => ?_) fun hc7 => ?_
 refine bi rfl fun i8 hi8 => ?_
 refine bi rfl fun b9 hb9 => ?_
 refine vl rfl rfl (fun a w hf hO => zaL (b := b9) (c := 93) hf rfl rfl) ?_
 refine br rfl (fun hc10 => ?_) fun hc10 => ?_
 refine bi rfl fun i11 hi11 => ?_
 refine bi rfl fun s12 hs12 => ?_
 refine cl c_71 rfl (fun r13 w hr13 hO => zf6 s12 r13 _ (hG.own hF hO) hr13) fun r13 hr13 => ?_
 exact en rfl fun _ _ j => ⟨r13, j rfl⟩
 exact en rfl fun _ _ j => ⟨false, j rfl⟩
 exact en rfl fun _ _ j => ⟨false, j rfl⟩
 exact en rfl fun _ _ j => ⟨false, j rfl⟩
 rintro a w ⟨t14, hf, hO, hm⟩
 rw [zb8] at hm
 refine S.co tb ?_ hf hO hm
 refine br rfl (fun hc15 => ?_) fun hc15 => ?_
 refine rc_ rfl fun a w hf hO hm => ?_
 obtain ⟨i16, hi16, hm⟩ := ob hm
 obtain ⟨s17, hs17, hm⟩ := ob hm
 refine zaV (S := Unit) (E0 := [(0, str x_s), (2, ptr b1 0), (4, ptr b3 0)]) (by kernel_rfl) (fun k σ w => match k with | 0 => Dk.Own w0 [] w [.blk b3 [int 0, str x_s, int (-1)] 87, .blk b1 [int 0, str [], int 0] 87] | 1 => Dk.Own w0 [] w [.blk b3 [int 3, str x_s, int (-1)] 87, .blk b1 [int 0, str [], int 0] 87] | _ => Dk.Own w0 [] w [.blk b3 [int 3, str s17, int (-1)] 87, .blk b1 [int 0, str [], int 0] 87]) (fun σ => [⟨[(0, str x_s)], some (32, str x_s)⟩, ⟨[(0, str x_s)], some (33, str x_s)⟩, ⟨[(33, str x_s)], some (34, int (x_s.length : Int))⟩, ⟨[(34, int (x_s.length : Int))], some (35, int i16)⟩, ⟨[(32, str x_s), (35, int i16)], some (36, str s17)⟩, ⟨[(4, ptr b3 0)], some (37, ptr b3 0)⟩, ⟨[(37, ptr b3 0)], none⟩, ⟨[(4, ptr b3 0)], some (38, ptr b3 1)⟩, ⟨[(36, str s17), (38, ptr b3 1)], none⟩]) () [6, 8] rfl (fun _ => rfl) (fun _ => rfl) (fun _ => rfl) rfl rfl (by decide) rfl hO.drew (hf.cons rfl (hf.cons rfl (hf.cons rfl hf.nil))) (fun σ => ⟨⟨rfl, trivial⟩, ⟨rfl, trivial⟩, ⟨rfl, trivial⟩, ⟨rfl, trivial⟩, ⟨rfl, rfl, trivial⟩, ⟨rfl, trivial⟩, ⟨rfl, trivial⟩, ⟨rfl, trivial⟩, ⟨rfl, rfl, trivial⟩, trivial⟩) ⟨zc rfl (fun σ => rfl) (fun σ => rfl) (fun σ a w k _ _ _ _ hf => zl hf rfl), zc rfl (fun σ => rfl) (fun σ => rfl) (fun σ a w k _ _ _ _ hf => zl hf rfl), zc rfl (fun σ => rfl) (fun σ => rfl) (fun σ a w k _ _ _ _ hf => zf1 (l := x_s) Tryz.underlying9 hf rfl), zc rfl (fun σ => rfl) (fun σ => rfl) (fun σ a w k _ _ _ _ hf => zsW hf rfl rfl hi16), zc rfl (fun σ => rfl) (fun σ => rfl) (fun σ a w k _ _ _ _ hf => zl4 (l := x_s) Tryz.underlying9 hf rfl rfl rfl hs17), zc rfl (fun σ => rfl) (fun σ => rfl) (fun σ a w k _ _ _ _ hf => zw zrg hf rfl), zce rfl (fun σ => rfl) (fun σ => rfl) rfl (fun σ w (hO : Dk.Own w0 [] w _) => by obtain ⟨w', hO', hr⟩ := zea (x := (.tmp 37)) (y := (.const (int 3))) (E := [(37, ptr b3 0)]) (i := 0) (o := 0) (v := int 3) sz_85 rfl rfl rfl rfl hO rfl rfl; exact ⟨(), w', hO', ⟨.inr rfl, .inr rfl, .inr rfl, .inr rfl, .inr rfl, .inr rfl, .inr rfl, .inr rfl, .inr rfl, trivial⟩, hr⟩), zc rfl (fun σ => rfl) (fun σ => rfl) (fun σ a w k _ _ _ _ hf => zw zt2 hf rfl), zce rfl (fun σ => rfl) (fun σ => rfl) rfl (fun σ w (hO : Dk.Own w0 [] w _) => by obtain ⟨w', hO', hr⟩ := zea (x := (.tmp 38)) (y := (.tmp 36)) (E := [(36, str s17), (38, ptr b3 1)]) (i := 0) (o := 1) (v := str s17) zfZ rfl rfl rfl rfl hO rfl rfl; exact ⟨(), w', hO', ⟨.inr rfl, .inr rfl, .inr rfl, .inr rfl, .inr rfl, .inr rfl, .inr rfl, .inr rfl, .inr rfl, trivial⟩, hr⟩), trivial⟩ ?_
 rintro _ a w hf hO
 have hO : Dk.Own w0 [] w _ := hO
 have hf : Fits 51 [(2, ptr b1 0), (4, ptr b3 0)] a := (hf.cons rfl (hf.cons rfl hf.nil))
 refine S.no tb ?_ hf hO hm
 exact en rfl fun _ _ j => ⟨3, s17, j rfl⟩
 refine cl c_92 rfl (fun r18 w hr18 hO => zcY x_s r18 _ (hG.own hF hO) hr18) fun r18 hr18 => ?_
 refine br rfl (fun hc20 => ?_) fun hc20 => ?_
 refine st 0 rfl rfl ?_
 exact en rfl fun _ _ j => ⟨2, x_s, j rfl⟩
 refine cl zwz rfl (fun r21 w hr21 hO => zhp x_s r21 _ (hG.own hF hO).1 hr21) fun r21 hr21 => ?_
 refine br rfl (fun hc23 => ?_) fun hc23 => ?_
 refine st 0 rfl rfl ?_
 exact en rfl fun _ _ j => ⟨1, x_s, j rfl⟩
 exact en rfl fun _ _ j => ⟨0, x_s, j rfl⟩
 rintro a w ⟨i24, s25, hf, hO, hm⟩
 rw [zcQ] at hm
 refine S.co tb ?_ hf hO hm
 refine rc_ rfl fun a w hf hO hm => ?_
 refine zaV (S := Unit) (E0 := [(2, ptr b1 0), (4, ptr b3 0)]) (by kernel_rfl) (fun k σ w => match k with | 0 => Dk.Own w0 [] w [.blk b3 [int i24, str s25, int (-1)] 87, .blk b1 [int 0, str [], int 0] 87] | _ => Dk.Own w0 [] w [.blk b3 [int i24, str s25, int (-1)] 87, .blk b1 [int i24, str s25, int (-1)] 87]) (fun σ => [⟨[(4, ptr b3 0)], some (47, .agg #[int i24, str s25, int (-1)])⟩, ⟨[(4, ptr b3 0)], some (48, ptr b3 0)⟩, ⟨[(48, ptr b3 0)], some (49, int i24)⟩, ⟨[(49, int i24)], some (50, .bool (!(i24 == 0)))⟩, ⟨[(2, ptr b1 0), (47, .agg #[int i24, str s25, int (-1)])], none⟩, ⟨[(50, .bool (!(i24 == 0)))], some (3, .bool (!(i24 == 0)))⟩]) () [4] rfl (fun _ => rfl) (fun _ => rfl) (fun _ => rfl) rfl rfl (by decide) rfl hO.drew (hf.cons rfl (hf.cons rfl hf.nil)) (fun σ => ⟨⟨rfl, trivial⟩, ⟨rfl, trivial⟩, ⟨rfl, trivial⟩, ⟨rfl, trivial⟩, ⟨rfl, rfl, trivial⟩, ⟨rfl, trivial⟩, trivial⟩) ⟨zc rfl (fun σ => rfl) (fun σ => rfl) (fun σ a w k hk hlo hup hst hf => match k, hk, hlo, hup, hst, hf with | 0, _, _, _, hst, hf => have hO : Dk.Own w0 [] w _ := hst; zo (o := 0) (vs := [int i24, str s25, int (-1)]) znJ zmG (hO.blkSees (i := 0) rfl) rfl rfl hf rfl | 1, _, _, _, hst, hf => have hO : Dk.Own w0 [] w _ := hst; zo (o := 0) (vs := [int i24, str s25, int (-1)]) znJ zmG (hO.blkSees (i := 0) rfl) rfl rfl hf rfl | k + 2, hk, _, _, _, _ => absurd hk (by simp)), zc rfl (fun σ => rfl) (fun σ => rfl) (fun σ a w k _ _ _ _ hf => zw zrg hf rfl), zc rfl (fun σ => rfl) (fun σ => rfl) (fun σ a w k hk hlo hup hst hf => match k, hk, hlo, hup, hst, hf with | 0, _, _, _, hst, hf => have hO : Dk.Own w0 [] w _ := hst; ze (o := 0) zv7 (hO.blkSees (i := 0) rfl) rfl hf rfl | 1, _, _, _, hst, hf => have hO : Dk.Own w0 [] w _ := hst; ze (o := 0) zv7 (hO.blkSees (i := 0) rfl) rfl hf rfl | k + 2, hk, _, _, _, _ => absurd hk (by simp)), zc rfl (fun σ => rfl) (fun σ => rfl) (fun σ a w k _ _ _ _ hf => zqG (m := i24) (n := 0) hf rfl rfl), zce rfl (fun σ => rfl) (fun σ => rfl) rfl (fun σ w (hO : Dk.Own w0 [] w _) => by obtain ⟨w', hO', hr⟩ := zeI (x := (.tmp 2)) (y := (.tmp 47)) (E := [(2, ptr b1 0), (47, .agg #[int i24, str s25, int (-1)])]) (i := 1) (n := 3) (vs := [int i24, str s25, int (-1)]) zmG rfl rfl rfl (by simp [Value.oneCell']) hO rfl rfl; exact ⟨(), w', hO', ⟨.inr rfl, .inr rfl, .inr rfl, .inr rfl, .inr rfl, .inr rfl, trivial⟩, hr⟩), zc rfl (fun σ => rfl) (fun σ => rfl) (fun σ a w k _ _ _ _ hf => z8 hf rfl), trivial⟩ ?_
 rintro _ a w hf hO
 have hO : Dk.Own w0 [] w _ := hO
 have hf : Fits 51 [(2, ptr b1 0), (3, .bool (!(i24 == 0)))] a := (hf.cons rfl (hf.cons rfl hf.nil))
 refine S.no tb ?_ hf hO hm
 refine re_ rfl fun a w hf hO hm => ?_
 obtain rfl := Option.some.inj hm
 exact zi Tryz.results126 hf (.cell rfl (zp (n := 3) (vs := [int i24, str s25, int (-1)]) znJ zmG rfl ((hO.blkSees (i := 1) rfl).cells (o := 0) (n := 3) rfl)) (.tmp rfl .nil)) ⟨rfl, hO.below⟩

theorem zhb (x_s : Str) (x_c : UInt8) (R : Int) (w0 : World) (hG : zt w0) (hm : zbh x_s x_c = some R) :
    Calls Tryz.prog 180 #[str x_s, zak x_c] w0 (Ret w0 (fun R => int R) R) := by
 rw [zbh] at hm
 have hF : zu [] := zf
 have hO : Dk.Own w0 [] w0 [] := Dk.Own.refl w0
 refine S.enter tb Tryz.func180 rfl Tryz.ntmps180 rfl ?_ hO hm
 refine bi rfl fun i2 hi2 => ?_
 refine lv [0, 1] [] (fun J E L k => ∃ (i4 : Int), J ((5, int i4) :: E) (L) (zN x_s x_c k i4)) rfl (fun _ _ j => ⟨i2, j rfl⟩) ?_
 rintro n1 a w ⟨i4, hf, hO, hm⟩
 obtain _ | n1 := n1
 rw [zN] at hm
 cases hm
 rw [zN] at hm
 refine S.co tb ?_ hf hO hm
 refine br rfl (fun hc6 => ?_) fun hc6 => ?_
 refine bi rfl fun b8 hb8 => ?_
 refine vl rfl rfl (fun a w hf hO => zaL (b := b8) (c := x_c) hf rfl rfl) ?_
 refine br rfl (fun hc10 => ?_) fun hc10 => ?_
 exact rt Tryz.results180 rfl
 refine bi rfl fun i13 hi13 => ?_
 exact en rfl fun _ _ j => ⟨_, Nat.lt_succ_self _, i13, j rfl⟩
 exact rt Tryz.results180 rfl

theorem zi1 (x_s : Str) (x_c : UInt8) (R : Int) (w0 : World) (hG : zt w0) (hm : zbQ x_s x_c = some R) :
    Calls Tryz.prog 127 #[str x_s, zak x_c] w0 (Ret w0 (fun R => int R) R) := by
 rw [zbQ] at hm
 have hF : zu [] := zf
 have hO : Dk.Own w0 [] w0 [] := Dk.Own.refl w0
 refine S.enter tb Tryz.func127 rfl Tryz.ntmps127 rfl ?_ hO hm
 refine cl c_180 rfl (fun r2 w hr2 hO => zhb x_s x_c r2 _ (hG.own hF hO) hr2) fun r2 hr2 => ?_
 exact rt Tryz.results127 rfl

theorem zeN (x_s : Str) (R : api_Host × Int) (w0 : World) (hG : zaG w0) (hm : zb9 x_s = some R) :
    Calls Tryz.prog 76 #[str x_s] w0 (Ret w0 (fun R => .tuple #[.agg #[int R.1.Kind, str R.1.Name, int R.1.Port], int R.2]) R) := by
 rw [zb9] at hm
 have hF : zu [] := zf
 have hO : Dk.Own w0 [] w0 [] := Dk.Own.refl w0
 refine S.enter tb Tryz.func76 rfl Tryz.ntmps76 rfl ?_ hO hm
 refine al zmB rfl fun b1 => ?_
 refine cl c_126 rfl (fun r3 w hr3 hO => zlf x_s r3 _ (hG.own hF hO) hr3) fun r3 hr3 => ?_
 refine al zmB rfl fun b4 => ?_
 refine st 0 rfl rfl ?_
 refine br rfl (fun hc7 => ?_) fun hc7 => ?_
 refine ld 0 rfl rfl ?_
 refine st 1 rfl rfl ?_
 refine re_ rfl fun a w hf hO hm => ?_
 obtain rfl := Option.some.inj hm
 exact zi Tryz.results76 hf (.cell rfl (zp (n := 3) (vs := [int r3.1.Kind, str r3.1.Name, int r3.1.Port]) znJ zmG rfl ((hO.blkSees (i := 1) rfl).cells (o := 0) (n := 3) rfl)) (.tmp rfl .nil)) ⟨rfl, hO.below⟩
 refine cl c_127 rfl (fun r10 w hr10 hO => zi1 x_s 58 r10 _ (hG.own hF hO).1 hr10) fun r10 hr10 => ?_
 refine br rfl (fun hc13 => ?_) fun hc13 => ?_
 refine vl rfl rfl (fun a w hf hO => zB (vs := []) (v := .agg #[int 0, str [], int 0]) hf rfl (by kernel_rfl)) ?_
 refine st 1 rfl rfl ?_
 refine re_ rfl fun a w hf hO hm => ?_
 obtain rfl := Option.some.inj hm
 exact zi Tryz.results76 hf (.cell rfl (zp (n := 3) (vs := [int 0, str [], int 0]) znJ zmG rfl ((hO.blkSees (i := 1) rfl).cells (o := 0) (n := 3) rfl)) (.tmp rfl .nil)) ⟨rfl, hO.below⟩
 refine bi rfl fun s16 hs16 => ?_
 refine cl c_126 rfl (fun r17 w hr17 hO => zlf s16 r17 _ (hG.own hF hO) hr17) fun r17 hr17 => ?_
 refine al zmB rfl fun b18 => ?_
 refine st 0 rfl rfl ?_
 refine jv 1 [0, 2, 6, 7] [0, 1, 2] (fun J E L => ∃ (t24 : Bool), J ((37, .bool t24) :: E) (L) (zdc x_s r10 r17 t24)) rfl ?_ ?_
 refine br rfl (fun hc20 => ?_) fun hc20 => ?_
 exact en rfl fun _ _ j => ⟨true, j rfl⟩
 refine bi rfl fun i21 hi21 => ?_
 refine bi rfl fun s22 hs22 => ?_
 refine cl c_128 rfl (fun r23 w hr23 hO => zi5 s22 65535 r23 _ (hG.own hF hO) hr23) fun r23 hr23 => ?_
 exact en rfl fun _ _ j => ⟨!r23, j rfl⟩
 rintro a w ⟨t24, hf, hO, hm⟩
 rw [zdc] at hm
 refine S.co tb ?_ hf hO hm
 refine br rfl (fun hc25 => ?_) fun hc25 => ?_
 refine vl rfl rfl (fun a w hf hO => zB (vs := []) (v := .agg #[int 0, str [], int 0]) hf rfl (by kernel_rfl)) ?_
 refine st 2 rfl rfl ?_
 refine re_ rfl fun a w hf hO hm => ?_
 obtain rfl := Option.some.inj hm
 exact zi Tryz.results76 hf (.cell rfl (zp (n := 3) (vs := [int 0, str [], int 0]) znJ zmG rfl ((hO.blkSees (i := 2) rfl).cells (o := 0) (n := 3) rfl)) (.tmp rfl .nil)) ⟨rfl, hO.below⟩
 refine bi rfl fun i28 hi28 => ?_
 refine bi rfl fun s29 hs29 => ?_
 refine cl c_129 rfl (fun r30 w hr30 hO => zil s29 65535 r30 _ (hG.own hF hO).1 hr30) fun r30 hr30 => ?_
 refine st 0 rfl rfl ?_
 refine ld 0 rfl rfl ?_
 refine st 2 rfl rfl ?_
 refine re_ rfl fun a w hf hO hm => ?_
 obtain rfl := Option.some.inj hm
 exact zi Tryz.results76 hf (.cell rfl (zp (n := 3) (vs := [int r17.1.Kind, str r17.1.Name, int r30.1]) znJ zmG rfl ((hO.blkSees (i := 2) rfl).cells (o := 0) (n := 3) rfl)) (.tmp rfl .nil)) ⟨rfl, hO.below⟩

theorem zdt (x_s : Str) (x_prefix : Str) (R : Bool) (w0 : World) (hG : zt w0) (hm : stringslite_HasPrefix x_s x_prefix = some R) :
    Calls Tryz.prog 171 #[str x_s, str x_prefix] w0 (Ret w0 (fun R => .bool R) R) := by
 rw [stringslite_HasPrefix] at hm
 have hF : zu [] := zf
 have hO : Dk.Own w0 [] w0 [] := Dk.Own.refl w0
 refine S.enter tb Tryz.func171 rfl Tryz.ntmps171 rfl ?_ hO hm
 refine jv 0 [] [] (fun J E L => ∃ (t4 : Bool), J ((4, .bool t4) :: E) (L) (zaz t4)) rfl ?_ ?_
 refine br rfl (fun hc2 => ?_) fun hc2 => ?_
 refine bi rfl fun s3 hs3 => ?_
 exact en rfl fun _ _ j => ⟨s3 == x_prefix, j rfl⟩
 exact en rfl fun _ _ j => ⟨false, j rfl⟩
 rintro a w ⟨t4, hf, hO, hm⟩
 rw [zaz] at hm
 refine S.co tb ?_ hf hO hm
 exact rt Tryz.results171 rfl

theorem zct (x_s : Str) (x_prefix : Str) (R : Bool) (w0 : World) (hG : zt w0) (hm : strings_HasPrefix x_s x_prefix = some R) :
    Calls Tryz.prog 130 #[str x_s, str x_prefix] w0 (Ret w0 (fun R => .bool R) R) := by
 rw [strings_HasPrefix] at hm
 have hF : zu [] := zf
 have hO : Dk.Own w0 [] w0 [] := Dk.Own.refl w0
 refine S.enter tb Tryz.func130 rfl Tryz.ntmps130 rfl ?_ hO hm
 refine cl zwy rfl (fun r2 w hr2 hO => zdt x_s x_prefix r2 _ (hG.own hF hO) hr2) fun r2 hr2 => ?_
 exact rt Tryz.results130 rfl

theorem zkd (x_b : UInt8) (R : Bool) (w0 : World) (hG : zt w0) (hm : zhI x_b = some R) :
    Calls Tryz.prog 268 #[zak x_b] w0 (Ret w0 (fun R => .bool R) R) := by
 rw [zhI] at hm
 have hF : zu [] := zf
 have hO : Dk.Own w0 [] w0 [] := Dk.Own.refl w0
 refine S.enter tb Tryz.func268 rfl Tryz.ntmps268 rfl ?_ hO hm
 refine jv 0 [] [] (fun J E L => ∃ (t7 : Bool), J ((2, .bool t7) :: E) (L) (zd2 t7)) rfl ?_ ?_
 refine cl c_222 rfl (fun r2 w hr2 hO => zhc x_b r2 _ (hG.own hF hO) hr2) fun r2 hr2 => ?_
 refine br rfl (fun hc3 => ?_) fun hc3 => ?_
 exact en rfl fun _ _ j => ⟨true, j rfl⟩
 refine cl c_223 rfl (fun r4 w hr4 hO => zlj x_b r4 _ (hG.own hF hO) hr4) fun r4 hr4 => ?_
 refine br rfl (fun hc5 => ?_) fun hc5 => ?_
 exact en rfl fun _ _ j => ⟨true, j rfl⟩
 refine cl zt7 rfl (fun r6 w hr6 hO => ziC x_b [58, 64] r6 _ (hG.own hF hO) hr6) fun r6 hr6 => ?_
 exact en rfl fun _ _ j => ⟨r6, j rfl⟩
 rintro a w ⟨t7, hf, hO, hm⟩
 rw [zd2] at hm
 refine S.co tb ?_ hf hO hm
 exact rt Tryz.results268 rfl

theorem zoz (x_s : Str) (x_more : Str) (R : Bool) (w0 : World) (hG : zt w0) (hm : zmx x_s x_more = some R) :
    Calls Tryz.prog 254 #[str x_s, str x_more] w0 (Ret w0 (fun R => .bool R) R) := by
 rw [zmx] at hm
 have hF : zu [] := zf
 have hO : Dk.Own w0 [] w0 [] := Dk.Own.refl w0
 refine S.enter tb Tryz.func254 rfl Tryz.ntmps254 rfl ?_ hO hm
 refine lv [0, 1] [] (fun J E L k => ∃ (i3 : Int), J ((5, int i3) :: E) (L) (zdd x_s x_more k i3)) rfl (fun _ _ j => ⟨0, j rfl⟩) ?_
 rintro n1 a w ⟨i3, hf, hO, hm⟩
 obtain _ | n1 := n1
 rw [zdd] at hm
 cases hm
 rw [zdd] at hm
 refine S.co tb ?_ hf hO hm
 refine br rfl (fun hc5 => ?_) fun hc5 => ?_
 refine jv 3 [0, 1] [] (fun J E L => ∃ (i27 : Int), J ((5, int i27) :: E) (L) (zir (zdd x_s x_more n1) i27)) rfl ?_ ?_
 refine jv 6 [0, 1, 5] [] (fun J E L => ∃ (t12 : Bool), J ((12, .bool t12) :: E) (L) (zis (zdd x_s x_more n1) x_s i3 t12)) rfl ?_ ?_
 refine bi rfl fun b7 hb7 => ?_
 refine cl c_268 rfl (fun r8 w hr8 hO => zkd b7 r8 _ (hG.own hF hO) hr8) fun r8 hr8 => ?_
 refine br rfl (fun hc9 => ?_) fun hc9 => ?_
 exact en rfl fun _ _ j => ⟨true, j rfl⟩
 refine bi rfl fun b10 hb10 => ?_
 refine cl zqy rfl (fun r11 w hr11 hO => zbx x_more b10 r11 _ (hG.own hF hO) hr11) fun r11 hr11 => ?_
 exact en rfl fun _ _ j => ⟨decide (0 ≤ r11), j rfl⟩
 rintro a w ⟨t12, hf, hO, hm⟩
 rw [zis] at hm
 refine S.co tb ?_ hf hO hm
 refine br rfl (fun hc13 => ?_) fun hc13 => ?_
 exact en rfl fun _ _ j => ⟨i3, j rfl⟩
 refine jv 6 [0, 1, 5] [] (fun J E L => ∃ (t23 : Bool), J ((25, .bool t23) :: E) (L) (zhg (zdd x_s x_more n1) i3 t23)) rfl ?_ ?_
 refine bi rfl fun b14 hb14 => ?_
 refine vl rfl rfl (fun a w hf hO => zaL (b := b14) (c := 37) hf rfl rfl) ?_
 refine br rfl (fun hc15 => ?_) fun hc15 => ?_
 refine bi rfl fun i16 hi16 => ?_
 refine br rfl (fun hc17 => ?_) fun hc17 => ?_
 refine bi rfl fun i18 hi18 => ?_
 refine bi rfl fun i19 hi19 => ?_
 refine bi rfl fun s20 hs20 => ?_
 refine rw_ rfl fun a w hf hO hm => ?_
 refine zm (vs := [(0, str s20)]) (cs := [str s20]) (e := 9) (sz := 1) hf rfl rfl (fun w => by kernel_rfl) rfl rfl hO fun a b21 w hf hO => ?_
 refine S.op tb ?_ hf hO hm
 refine kn (b' := true) hc17 rfl ?_
 refine cl zjW rfl (fun r22 w hr22 hO => zbI zbF ([s20] : List Str) r22 _ (hG.own hF hO) zt5 (fun y0 r w hG h => ze5 (zg0 y0 r w hG h)) (hO.rowSees (i := 0) rfl) (hO.rowCap (i := 0) rfl) hr22) fun r22 hr22 => ?_
 exact ec [] rfl rfl rfl fun _ _ j => ⟨r22, j rfl⟩
 exact en rfl fun _ _ j => ⟨false, j rfl⟩
 exact en rfl fun _ _ j => ⟨false, j rfl⟩
 rintro a w ⟨t23, hf, hO, hm⟩
 rw [zhg] at hm
 refine S.co tb ?_ hf hO hm
 refine br rfl (fun hc24 => ?_) fun hc24 => ?_
 refine bi rfl fun i25 hi25 => ?_
 exact en rfl fun _ _ j => ⟨i25, j rfl⟩
 exact rt Tryz.results254 rfl
 rintro a w ⟨i27, hf, hO, hm⟩
 rw [zir] at hm
 refine S.co tb ?_ hf hO hm
 refine bi rfl fun i28 hi28 => ?_
 exact en rfl fun _ _ j => ⟨_, Nat.lt_succ_self _, i28, j rfl⟩
 exact rt Tryz.results254 rfl

theorem zqQ (x_s : Str) (R : Bool) (w0 : World) (hG : zt w0) (hm : zlL x_s = some R) :
    Calls Tryz.prog 225 #[str x_s] w0 (Ret w0 (fun R => .bool R) R) := by
 rw [zlL] at hm
 have hF : zu [] := zf
 have hO : Dk.Own w0 [] w0 [] := Dk.Own.refl w0
 refine S.enter tb Tryz.func225 rfl Tryz.ntmps225 rfl ?_ hO hm
 refine jv 0 [] [] (fun J E L => ∃ (t5 : Bool), J ((2, .bool t5) :: E) (L) (zg1 t5)) rfl ?_ ?_
 refine cl zsC rfl (fun r2 w hr2 hO => zct x_s [47] r2 _ (hG.own hF hO) hr2) fun r2 hr2 => ?_
 refine br rfl (fun hc3 => ?_) fun hc3 => ?_
 refine cl c_254 rfl (fun r4 w hr4 hO => zoz x_s [47] r4 _ (hG.own hF hO) hr4) fun r4 hr4 => ?_
 exact en rfl fun _ _ j => ⟨r4, j rfl⟩
 exact en rfl fun _ _ j => ⟨false, j rfl⟩
 rintro a w ⟨t5, hf, hO, hm⟩
 rw [zg1] at hm
 refine S.co tb ?_ hf hO hm
 exact rt Tryz.results225 rfl

theorem zpE (x_s : Str) (R : Bool) (w0 : World) (hG : zt w0) (hm : zkt x_s = some R) :
    Calls Tryz.prog 226 #[str x_s] w0 (Ret w0 (fun R => .bool R) R) := by
 rw [zkt] at hm
 have hF : zu [] := zf
 have hO : Dk.Own w0 [] w0 [] := Dk.Own.refl w0
 refine S.enter tb Tryz.func226 rfl Tryz.ntmps226 rfl ?_ hO hm
 refine cl c_254 rfl (fun r2 w hr2 hO => zoz x_s [47, 63] r2 _ (hG.own hF hO) hr2) fun r2 hr2 => ?_
 exact rt Tryz.results226 rfl

theorem zrN (x_s : Str) (R : Str × Str × Bool × Int) (w0 : World) (hG : zt w0) (hm : zne x_s = some R) :
    Calls Tryz.prog 183 #[str x_s] w0 (Ret w0 (fun R => .tuple #[str R.1, str R.2.1, .bool R.2.2.1, int R.2.2.2]) R) := by
 rw [zne] at hm
 have hF : zu [] := zf
 have hO : Dk.Own w0 [] w0 [] := Dk.Own.refl w0
 refine S.enter tb Tryz.func183 rfl Tryz.ntmps183 rfl ?_ hO hm
 refine cl zwv rfl (fun r2 w hr2 hO => ziH x_s [63] r2 _ (hG.own hF hO) hr2) fun r2 hr2 => ?_
 refine jv 1 [2, 3, 4] [] (fun J E L => ∃ (t7 : Bool), J ((19, .bool t7) :: E) (L) (zhJ r2 t7)) rfl ?_ ?_
 refine cl c_225 rfl (fun r4 w hr4 hO => zqQ r2.1 r4 _ (hG.own hF hO) hr4) fun r4 hr4 => ?_
 refine br rfl (fun hc5 => ?_) fun hc5 => ?_
 exact en rfl fun _ _ j => ⟨true, j rfl⟩
 refine cl c_226 rfl (fun r6 w hr6 hO => zpE r2.2.1 r6 _ (hG.own hF hO) hr6) fun r6 hr6 => ?_
 exact en rfl fun _ _ j => ⟨!r6, j rfl⟩
 rintro a w ⟨t7, hf, hO, hm⟩
 rw [zhJ] at hm
 refine S.co tb ?_ hf hO hm
 refine br rfl (fun hc8 => ?_) fun hc8 => ?_
 exact rt Tryz.results183 rfl
 exact rt Tryz.results183 rfl

theorem zlg (x_t : api_Target) (x_s : Str) (R : api_Target × Bool) (w0 : World) (hG : zt w0) (hm : zit x_t x_s = some R) :
    Calls Tryz.prog 132 #[.agg #[int x_t.Kind, str x_t.Scheme, int x_t.Host.Kind, str x_t.Host.Name, int x_t.Host.Port, str x_t.Path, str x_t.Query, .bool x_t.HasQuery], str x_s] w0 (Ret w0 (fun R => .tuple #[.agg #[int R.1.Kind, str R.1.Scheme, int R.1.Host.Kind, str R.1.Host.Name, int R.1.Host.Port, str R.1.Path, str R.1.Query, .bool R.1.HasQuery], .bool R.2]) R) := by
 rw [zit] at hm
 have hF : zu [] := zf
 have hO : Dk.Own w0 [] w0 [] := Dk.Own.refl w0
 refine S.enter tb Tryz.func132 rfl Tryz.ntmps132 rfl ?_ hO hm
 refine bo rfl fun b1 => ?_
 refine al znK rfl fun b2 => ?_
 refine br rfl (fun hc5 => ?_) fun hc5 => ?_
 refine ld 1 rfl rfl ?_
 refine st 0 rfl rfl ?_
 refine re_ rfl fun a w hf hO hm => ?_
 obtain rfl := Option.some.inj hm
 exact zi Tryz.results132 hf (.cell rfl (zp (n := 8) (vs := [int x_t.Kind, str x_t.Scheme, int x_t.Host.Kind, str x_t.Host.Name, int x_t.Host.Port, str x_t.Path, str x_t.Query, .bool x_t.HasQuery]) zhC zhk rfl ((hO.blkSees (i := 0) rfl).cells (o := 0) (n := 8) rfl)) (.tmp rfl .nil)) ⟨rfl, hO.below⟩
 refine bi rfl fun b9 hb9 => ?_
 refine vl rfl rfl (fun a w hf hO => zaL (b := b9) (c := 63) hf rfl rfl) ?_
 refine jv 0 [2, 4, 7] [0, 1] (fun J E L => ∃ (s14 : Str), J ((1, str s14) :: E) (L) (zgh x_t b9 s14)) rfl ?_ ?_
 refine br rfl (fun hc12 => ?_) fun hc12 => ?_
 refine bi rfl fun s13 hs13 => ?_
 exact en rfl fun _ _ j => ⟨s13, j rfl⟩
 exact en rfl fun _ _ j => ⟨x_s, j rfl⟩
 rintro a w ⟨s14, hf, hO, hm⟩
 rw [zgh] at hm
 refine S.co tb ?_ hf hO hm
 refine cl c_183 rfl (fun r15 w hr15 hO => zrN s14 r15 _ (hG.own hF hO) hr15) fun r15 hr15 => ?_
 refine st 1 rfl rfl ?_
 refine st 1 rfl rfl ?_
 refine st 1 rfl rfl ?_
 refine jv 0 [2, 4, 6] [0] (fun J E L => ∃ (s19 : Str), J (E) (.blk b1 [int x_t.Kind, str x_t.Scheme, int x_t.Host.Kind, str x_t.Host.Name, int x_t.Host.Port, str s19, str r15.2.1, .bool r15.2.2.1] 89 :: L) (zgg x_t r15 s19)) rfl ?_ ?_
 refine br rfl (fun hc18 => ?_) fun hc18 => ?_
 refine st 1 rfl rfl ?_
 exact ec [1, 0] rfl rfl rfl fun _ _ j => ⟨[], j rfl⟩
 exact ec [1, 0] rfl rfl rfl fun _ _ j => ⟨r15.1, j rfl⟩
 rintro a w ⟨s19, hf, hO, hm⟩
 rw [zgg] at hm
 refine S.co tb ?_ hf hO hm
 refine ld 0 rfl rfl ?_
 refine st 1 rfl rfl ?_
 refine re_ rfl fun a w hf hO hm => ?_
 obtain rfl := Option.some.inj hm
 exact zi Tryz.results132 hf (.cell rfl (zp (n := 8) (vs := [int x_t.Kind, str x_t.Scheme, int x_t.Host.Kind, str x_t.Host.Name, int x_t.Host.Port, str s19, str r15.2.1, .bool r15.2.2.1]) zhC zhk rfl ((hO.blkSees (i := 1) rfl).cells (o := 0) (n := 8) rfl)) (.tmp rfl .nil)) ⟨rfl, hO.below⟩

end Go.Proofs
end
