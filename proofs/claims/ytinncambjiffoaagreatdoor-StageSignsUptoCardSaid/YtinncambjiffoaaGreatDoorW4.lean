/-
  Walks, written by a program (wip/gen): what its model says, the function returns; what was there before is as it was.
  Walks, written by a program (wip/gen): what its model says, the function returns; what was there before is as it was.
  Walks, written by a program (wip/gen): what its model says, the function returns; what was there before is as it was.
  Walks, written by a program (wip/gen): what its model says, the function returns; what was there before is as it was.
  Walks, written by a program (wip/gen): what its model says, the function returns; what was there before is as it was.

-/
import Derived.Test.YtinncambjiffoaaGreatDoorLib
import Derived.Test.YtinncambjiffoaaGreatDoorSq
section
set_option linter.unusedVariables false
set_option maxHeartbeats 1000000
set_option linter.unusedSimpArgs false
set_option maxRecDepth 100000
namespace Go.Proofs
open Go.Dk Go.Dm Go.RowKit

theorem zch (x_s : List api_Field) (R : List api_Field) (w0 : World) (hG : zr w0) {x_s_p0 : Option Addr} {x_s_c0 : Nat} (hs0 : zD w0 x_s_p0 (cells za x_s)) (hc0 : x_s.length ≤ x_s_c0) (hm : zS x_s = some R) :
    Calls Tryz.prog 51 #[.slice x_s_p0 x_s.length x_s_c0] w0 fun e w' => ∃ (p0 : Option Addr) (c0 : Nat), e = .returned (.slice p0 R.length c0) ∧ Dk.Own w0 [] w' [.row (.slice p0 R.length c0) 54 2 R.length (cells za R)] := by
 rw [zS] at hm
 have hF : zs [] := ze
 have hO : Dk.Own w0 [] w0 [] := Dk.Own.refl w0
 have hO := hO.addShr hs0 (by simp [Res.shared])
 refine S.enter tb Tryz.func51 rfl Tryz.ntmps51 rfl ?_ hO hm
 refine nl 54 2 ?_
 refine vl rfl rfl (fun a w hf hO => zuL (ad := x_s_p0) Tryz.underlying26 hf rfl rfl) ?_
 refine rc_ rfl fun a w hf hO hm => ?_
 rcases zgn (x_s_p0.isNone) with hc3 | hc3
 have hxhc3 : x_s = [] := zuM (enc := za) (sz := 2) (fun _ => rfl) (by decide) (hO.sees (i := 1) rfl) hc3
 rw [hxhc3] at hm
 have hm : some [] = some R := by first | exact hm | (rw [hxhc3]; exact hm) | simpa [hxhc3] using hm
 refine zu8 hf rfl hc3 ?_
 refine S.co tb ?_ hf hO hm
 refine nl 54 2 ?_
 refine re_ rfl fun a w hf hO hm => ?_
 obtain rfl := Option.some.inj hm
 exact zh Tryz.results51 hf (.tmp rfl .nil) ⟨none, 0, rfl, (hO.sub (.cons_cons _ (.cons _ (.cons _ .slnil))))⟩
 refine zu9 hf rfl hc3 ?_
 refine S.co tb ?_ hf hO hm
 refine rw_ rfl fun a w hf hO hm => ?_
 refine zn (vs := []) (cs := []) (e := 54) (sz := 2) hf rfl rfl (fun w => by kernel_rfl) rfl rfl hO fun a b6 w hf hO => ?_
 refine S.op tb ?_ hf hO hm
 refine rw_ rfl fun a w hf hO hm => ?_
 obtain ⟨hg9, hm⟩ := og hm
 refine zhm zpN (enc := za) (xs := []) (ys := x_s) (i := 0) (fun _ => rfl) rfl (hO.sees (i := 2) rfl) (by simp [za, Value.oneCell']) hg9 hf rfl rfl rfl hO fun a p7 c8 w hf hO => ?_
 refine S.op tb ?_ hf hO hm
 refine re_ rfl fun a w hf hO hm => ?_
 obtain rfl := Option.some.inj hm
 exact zh Tryz.results51 hf (.tmp rfl .nil) ⟨p7, c8, rfl, (hO.sub (.cons_cons _ (.cons _ (.cons _ .slnil))))⟩

theorem zgk (x_l : List api_Field) (R : bag_Bag) (w0 : World) (hG : zr w0) {x_l_p0 : Option Addr} {x_l_c0 : Nat} (hs0 : zD w0 x_l_p0 (cells za x_l)) (hc0 : x_l.length ≤ x_l_c0) (hm : zeG x_l = some R) :
    Calls Tryz.prog 24 #[.slice x_l_p0 x_l.length x_l_c0] w0 fun e w' => ∃ (b0 : Nat) (p1 : Option Addr) (c1 : Nat), e = .returned (ptr b0 0) ∧ Dk.Own w0 [] w' [.blk b0 [.slice p1 R.f_l.length c1] 107, .row (.slice p1 R.f_l.length c1) 54 2 R.f_l.length (cells za R.f_l)] := by
 rw [zeG] at hm
 have hF : zs [] := ze
 have hO : Dk.Own w0 [] w0 [] := Dk.Own.refl w0
 have hO := hO.addShr hs0 (by simp [Res.shared])
 refine S.enter tb Tryz.func24 rfl Tryz.ntmps24 rfl ?_ hO hm
 refine rw_ rfl fun a w hf hO hm => ?_
 obtain ⟨r2, hr2, hm⟩ := ob hm
 refine zo (zj c_51 hf (vs := [.slice x_l_p0 x_l.length x_l_c0]) rfl) rfl hf rfl rfl (zch x_l r2 _ (hG.own hF hO) (hO.sees (i := 0) rfl) hc0 hr2) ?_
 rintro e w' ⟨p3, c4, he, hO'⟩
 refine ⟨_, he, fun a hf => ?_⟩
 have hO := hO.call hO' (by simp [Res.shared])
 refine S.op tb ?_ hf hO hm
 refine vl rfl rfl (fun a w hf hO => zt (vs := [(0, .slice p3 r2.length c4)]) (v := .agg #[.slice p3 r2.length c4]) hf rfl (by kernel_rfl)) ?_
 refine bo rfl fun b5 => ?_
 refine re_ rfl fun a w hf hO hm => ?_
 obtain rfl := Option.some.inj hm
 exact zh Tryz.results24 hf (.tmp rfl .nil) ⟨b5, p3, c4, rfl, (hO.sub (.cons_cons _ (.cons_cons _ (.cons _ .slnil))))⟩

theorem zcJ (x_b : bag_Bag) (R : List api_Field) (w0 : World) (hG : zr w0) {x_b_b0 : Nat} {x_b_p1 : Option Addr} {x_b_c1 : Nat} (hs0 : zD w0 (some ⟨x_b_b0, 0, none⟩) [.slice x_b_p1 x_b.f_l.length x_b_c1]) (hs1 : zD w0 x_b_p1 (cells za x_b.f_l)) (hc1 : x_b.f_l.length ≤ x_b_c1) (hm : zaO x_b = some R) :
    Calls Tryz.prog 43 #[ptr x_b_b0 0] w0 fun e w' => ∃ (p0 : Option Addr) (c0 : Nat), e = .returned (.slice p0 R.length c0) ∧ Dk.Own w0 [] w' [.row (.slice p0 R.length c0) 54 2 R.length (cells za R)] := by
 rw [zaO] at hm
 have hF : zs [] := ze
 have hO : Dk.Own w0 [] w0 [] := Dk.Own.refl w0
 have hO := hO.addShr hs0 (by simp [Res.shared])
 have hO := hO.addShr hs1 (by simp [Res.shared])
 refine S.enter tb Tryz.func43 rfl Tryz.ntmps43 rfl ?_ hO hm
 refine nl 54 2 ?_
 refine vl rfl rfl (fun a w hf hO => zhi Tryz.underlying63 hf rfl rfl) ?_
 refine kn (b' := false) rfl rfl ?_
 refine ld 2 rfl rfl ?_
 refine rw_ rfl fun a w hf hO hm => ?_
 obtain ⟨r4, hr4, hm⟩ := ob hm
 refine zo (zj c_51 hf (vs := [.slice x_b_p1 x_b.f_l.length x_b_c1]) rfl) rfl hf rfl rfl (zch x_b.f_l r4 _ (hG.own hF hO) (hO.sees (i := 1) rfl) hc1 hr4) ?_
 rintro e w' ⟨p5, c6, he, hO'⟩
 refine ⟨_, he, fun a hf => ?_⟩
 have hO := hO.call hO' (by simp [Res.shared])
 refine S.op tb ?_ hf hO hm
 refine re_ rfl fun a w hf hO hm => ?_
 obtain rfl := Option.some.inj hm
 exact zh Tryz.results43 hf (.tmp rfl .nil) ⟨p5, c6, rfl, (hO.sub (.cons_cons _ (.cons _ (.cons _ (.cons _ .slnil)))))⟩

theorem zer (x_b : UInt8) (R : UInt8) (w0 : World) (hG : zr w0) (hm : zaS x_b = some R) :
    Calls Tryz.prog 136 #[zac x_b] w0 (Ret w0 (fun R => zac R) R) := by
 rw [zaS] at hm
 have hF : zs [] := ze
 have hO : Dk.Own w0 [] w0 [] := Dk.Own.refl w0
 refine S.enter tb Tryz.func136 rfl Tryz.ntmps136 rfl ?_ hO hm
 refine jv 1 [0] [] (fun J E L => ∃ (t3 : Bool), J ((8, .bool t3) :: E) (L) (zgJ x_b t3)) rfl ?_ ?_
 refine vl rfl rfl (fun a w hf hO => zkW (b := x_b) (c := 65) hf rfl rfl) ?_
 refine br rfl (fun hc2 => ?_) fun hc2 => ?_
 refine vl rfl rfl (fun a w hf hO => zmP (b := x_b) (c := 90) hf rfl rfl) ?_
 exact en rfl fun _ _ j => ⟨decide (x_b ≤ 90), j rfl⟩
 exact en rfl fun _ _ j => ⟨false, j rfl⟩
 rintro a w ⟨t3, hf, hO, hm⟩
 rw [zgJ] at hm
 refine S.co tb ?_ hf hO hm
 refine br rfl (fun hc4 => ?_) fun hc4 => ?_
 refine vl rfl rfl (fun a w hf hO => zvw (b := x_b) (c := 32) hf rfl rfl) ?_
 exact rt Tryz.results136 rfl
 exact rt Tryz.results136 rfl

set_option maxHeartbeats 4000000 in
set_option maxRecDepth 100000 in
theorem zuE (s : ByteArray) (R : Str) (w0 : World) (hG : zr w0) (hsz : s.size < 4294967281) (hm : s.data.toList.mapM zaS = some R)
    (hlow : ∀ b c w, zaS b = some c → zr w → Calls Tryz.prog 136 #[.int .u8 (b.toNat : Int)] w fun e w' => e = .returned (.int .u8 (c.toNat : Int)) ∧ Below w.heap.size w w') :
    Calls Tryz.prog 83 #[.string s] w0 fun e w' => e = .returned (.string ⟨R.toArray⟩) ∧ Below w0.heap.size w0 w' := by
  obtain ⟨hlen, hat⟩ := mapM_at hm
  have HL : Aside (R.length = s.size) := hlen.trans (Lib.size_eq s).symm
  have HT : Aside (∀ (i : Nat) (a : UInt8), s.data.toList[i]? = some a → ∃ b, R[i]? = some b ∧ zaS a = some b) := hat
  clear hlen hat hm
  have hcv := fun w => run_bytes_of_string (P := Tryz.prog) w 9 178 5 s Tryz.underlying9 Tryz.underlying178 Tryz.underlying5
  go_enter Tryz.func83, Tryz.ntmps83
  go_wp2
  go_loopg [4, 5, 10] s.size (fun g _ _ v wx => ∃ i : Nat, i + g = s.size ∧ v = .int .i64 (i : Int) ∧ Below w0.heap.size w0 wx ∧ ∃ (cur : Array Value) (fz : Nat × Nat), wx.heap[w0.heap.size]? = some (.cells cur 5 fz) ∧ cur.size ≤ fz.1 ∧ s.size ≤ cur.size ∧ ∀ j, j < s.size → cur[j]? = ((if j < i then R[j]? else s.data.toList[j]?).map zac))
  case atStart =>
    have hrow : (bytesRow s (grownCap w0 s.size 0 5)).size = s.size + (grownCap w0 s.size 0 5 - s.size) := by
      have := Lib.size_eq s
      unfold bytesRow
      rw [Array.size_append, Array.size_map, Array.size_replicate]
      rfl
    refine ⟨0, by omega, rfl, ((Below.refl _ _).alloc (Nat.le_refl _) _).drew, _, _, zpf _, Nat.le_refl _, ?_, fun j hj => ?_⟩
    · omega
    · rw [if_neg (by omega)]
      unfold bytesRow
      rw [Array.getElem?_append_left (by simp [← Lib.size_eq]; exact hj), Array.getElem?_map]
      congr 1
      exact (Array.getElem?_toList ..).symm
  case round =>
    obtain ⟨i, hig, rfl, hB, cur, fz, hcur, hfz, hsc, hcell⟩ := hrel
    have HG : Aside (zr wr) := hG.own ze ((Dk.Own.refl w0).grow hB)
    have HB : Aside (Below w0.heap.size w0 wr) := hB
    have HC : Aside (wr.heap[w0.heap.size]? = some (.cells cur 5 fz)) := hcur
    have HF : Aside (cur.size ≤ fz.1 ∧ s.size ≤ cur.size) := ⟨hfz, hsc⟩
    have HX : Aside (∀ j, j < s.size → cur[j]? = ((if j < i then R[j]? else s.data.toList[j]?).map zac)) := hcell
    clear hB hcell hfz hsc hcur
    by_cases hi : i < s.size
    · obtain ⟨x, hx⟩ : ∃ x, s.data.toList[i]? = some x := ⟨_, Lib.data_getElem? s i hi⟩
      obtain ⟨y, hyR, hy⟩ := HT.out i x hx
      have hcx : wr.cell? ⟨w0.heap.size, i, none⟩ = some (.int .u8 (x.toNat : Int)) := by
        have := HX.out i hi
        rw [if_neg (by omega), hx] at this
        simp [World.cell?, HC.out, this]
      have hfr : wr.frozen? ⟨w0.heap.size, i, none⟩ = false := by
        have := HF.out
        simp [World.frozen?, HC.out]; omega
      have hii : (i : Int) < (s.size : Int) := by omega
      have HY : Aside (R[i]? = some y) := hyR
      have HO : Aside (zaS x = some y) := hy
      clear hyR hy hx
      go_wp2_with (go_at_call 136; refine (hlow x y _ HO.out HG.out).mono ?_; rintro e w' ⟨rfl, hb⟩; have hcx' : w'.cell? ⟨w0.heap.size, i, none⟩ = some (.int .u8 (x.toNat : Int)) := (hb.cell (p := ⟨w0.heap.size, i, none⟩) (Array.getElem?_eq_some_iff.1 HC.out).1).trans hcx; have hfr' : w'.frozen? ⟨w0.heap.size, i, none⟩ = false := (hb.frozen (p := ⟨w0.heap.size, i, none⟩) (Array.getElem?_eq_some_iff.1 HC.out).1).trans hfr)
      go_roundg (gk - 1)
      case measure => omega
      case rel =>
        have hlt := (Array.getElem?_eq_some_iff.1 HC.out).1
        have hcw : w'.heap[w0.heap.size]? = some (.cells cur 5 fz) := (hb.block _ hlt).trans HC.out
        refine ⟨i + 1, by omega, rfl, ?_, cur.setIfInBounds i (.int .u8 (y.toNat : Int)), fz, ?_, ?_, ?_, fun j hj => ?_⟩
        · exact (HB.out.trans (hb.mono HB.out.size)).setCell (p := ⟨w0.heap.size, i, none⟩) (Nat.le_refl _) _
        · simp [World.setCell, Array.getElem?_modify, hcw]
        · have := HF.out; simp; omega
        · have := HF.out; simp; omega
        · by_cases hji : j = i
          · subst hji
            have := HF.out
            rw [if_pos (by omega), HY.out, Array.getElem?_setIfInBounds_self_of_lt (by omega)]
            rfl
          · rw [Array.getElem?_setIfInBounds_ne (Ne.symm hji), HX.out j hj]
            by_cases h2 : j < i
            · rw [if_pos h2, if_pos (by omega)]
            · rw [if_neg h2, if_neg (by omega)]
    · have hsi : i = s.size := by omega
      have hbk : ∀ w, wr.heap = w.heap → (convert 178 9 (.slice (some ⟨w0.heap.size, 0, none⟩) s.size (grownCap w0 s.size 0 5))).run Tryz.prog w = .ok (.string ⟨R.toArray⟩) w := by
        intro w hw
        have := run_convert_bytes_back (P := Tryz.prog) w 178 9 5 ⟨w0.heap.size, 0, none⟩ (grownCap w0 s.size 0 5) R Tryz.underlying178 Tryz.underlying5 Tryz.underlying9 (fun j hj => by
          have hjs : j < s.size := by rw [← HL.out]; exact hj
          have h1 := HX.out j hjs
          rw [if_pos (by omega), List.getElem?_eq_getElem hj] at h1
          rw [zuI]
          simp [World.cell?, ← hw, HC.out, h1])
        rw [HL.out] at this
        exact this
      have hni : ¬ ((i : Int) < (s.size : Int)) := by omega
      have hbk1 := hbk wr rfl
      go_wp2
      go_ret
      exact ⟨rfl, HB.out⟩

theorem zd1 (x_s : Str) (R : Str) (w0 : World) (hG : zr w0) (hm : zcL x_s = some R) :
    Calls Tryz.prog 83 #[str x_s] w0 fun e w' => e = .returned (str R) ∧ Below w0.heap.size w0 w' := by
  unfold zcL at hm
  split at hm
  · rename_i h
    exact zuE ⟨x_s.toArray⟩ R w0 hG h hm fun b c w hbc hGw => zer b c w hGw hbc
  · cases hm

theorem zfh (x_a : Str) (x_b : Str) (R : Bool) (w0 : World) (hG : zr w0) (hm : zdr x_a x_b = some R) :
    Calls Tryz.prog 72 #[str x_a, str x_b] w0 (Ret w0 (fun R => .bool R) R) := by
 rw [zdr] at hm
 have hF : zs [] := ze
 have hO : Dk.Own w0 [] w0 [] := Dk.Own.refl w0
 refine S.enter tb Tryz.func72 rfl Tryz.ntmps72 rfl ?_ hO hm
 refine cl ztW rfl (fun r2 w hr2 hO => zd1 x_a r2 _ (hG.own hF hO) hr2) fun r2 hr2 => ?_
 refine cl ztW rfl (fun r3 w hr3 hO => zd1 x_b r3 _ (hG.own hF hO) hr3) fun r3 hr3 => ?_
 exact rt Tryz.results72 rfl

theorem zjI (x_b : bag_Bag) (x_name : Str) (R : List Str) (w0 : World) (hG : zr w0) {x_b_b0 : Nat} {x_b_p1 : Option Addr} {x_b_c1 : Nat} (hs0 : zD w0 (some ⟨x_b_b0, 0, none⟩) [.slice x_b_p1 x_b.f_l.length x_b_c1]) (hs1 : zD w0 x_b_p1 (cells za x_b.f_l)) (hc1 : x_b.f_l.length ≤ x_b_c1) (hm : zgK x_b x_name = some R) :
    Calls Tryz.prog 123 #[ptr x_b_b0 0, str x_name] w0 fun e w' => ∃ (p0 : Option Addr) (c0 : Nat), e = .returned (.slice p0 R.length c0) ∧ Dk.Own w0 [] w' [.row (.slice p0 R.length c0) 9 1 R.length (cells zg R)] := by
 rw [zgK] at hm
 have hF : zs [] := ze
 have hO : Dk.Own w0 [] w0 [] := Dk.Own.refl w0
 have hO := hO.addShr hs0 (by simp [Res.shared])
 have hO := hO.addShr hs1 (by simp [Res.shared])
 refine S.enter tb Tryz.func123 rfl Tryz.ntmps123 rfl ?_ hO hm
 refine nl 9 1 ?_
 refine nl 9 1 ?_
 refine rw_ rfl fun a w hf hO hm => ?_
 obtain ⟨r3, hr3, hm⟩ := ob hm
 refine zo (zj ztV hf (vs := [ptr x_b_b0 0]) rfl) rfl hf rfl rfl (zcJ x_b r3 _ (hG.own hF hO) (hO.sees (i := 3) rfl) (hO.sees (i := 2) rfl) hc1 hr3) ?_
 rintro e w' ⟨p4, c5, he, hO'⟩
 refine ⟨_, he, fun a hf => ?_⟩
 have hO := hO.call hO' (by simp [Res.shared])
 refine S.op tb ?_ hf hO hm
 refine ch [1, 0, 2, 3, 4] rfl rfl ?_
 refine lv [1, 9, 10] [1, 2, 3, 4] (fun J E L k => ∃ (p7 : Option Addr) (c8 : Nat) (l9 : List Str) (i10 : Int), J ((5, .slice p7 l9.length c8) :: (11, int i10) :: E) (.row (.slice p7 l9.length c8) 9 1 l9.length (cells zg l9) :: L) (zbi x_name r3 k l9 i10)) rfl (fun _ _ j => ⟨none, 0, [], 0, j rfl⟩) ?_
 rintro n1 a w ⟨p7, c8, l9, i10, hf, hO, hm⟩
 obtain _ | n1 := n1
 rw [zbi] at hm
 cases hm
 rw [zbi] at hm
 refine S.co tb ?_ hf hO hm
 refine br rfl (fun hc12 => ?_) fun hc12 => ?_
 refine jv 3 [1, 9, 10, 11] [1, 2, 3, 4] (fun J E L => ∃ (p26 : Option Addr) (c27 : Nat) (l28 : List Str), J ((5, .slice p26 l28.length c27) :: E) (.row (.slice p26 l28.length c27) 9 1 l28.length (cells zg l28) :: L) (zeH (zbi x_name r3 n1) i10 l28)) rfl ?_ ?_
 refine rw_ rfl fun a w hf hO hm => ?_
 obtain ⟨x14, hx14, hm⟩ := ob hm
 obtain ⟨b15, o16, hix14, hSx14, hAx14⟩ := zad (enc := za) (sz := 2) (xs := r3) 26 Tryz.underlying26 zbs (by decide) (fun _ => rfl) hO (i := 1) rfl hx14
 refine zR (zi hix14 hf rfl rfl) rfl hf rfl rfl fun a hf => ?_
 refine S.op tb ?_ hf hO hm
 refine vl rfl rfl (fun a w hf hO => zq (o := 0) (vs := [str x14.Name, str x14.Value]) zig zbs (hSx14 _ (hO.rowSees (i := 1) rfl)) rfl rfl hf rfl) ?_
 refine al zs4 rfl fun b17 => ?_
 refine st 0 rfl rfl ?_
 refine ld 0 rfl rfl ?_
 refine cl c_72 rfl (fun r19 w hr19 hO => zfh x14.Name x_name r19 _ (hG.own hF hO) hr19) fun r19 hr19 => ?_
 refine br rfl (fun hc21 => ?_) fun hc21 => ?_
 refine ld 0 rfl rfl ?_
 refine rw_ rfl fun a w hf hO hm => ?_
 refine zn (vs := [(0, str x14.Value)]) (cs := [str x14.Value]) (e := 9) (sz := 1) hf rfl rfl (fun w => by kernel_rfl) rfl rfl hO fun a b22 w hf hO => ?_
 refine S.op tb ?_ hf hO hm
 refine rw_ rfl fun a w hf hO hm => ?_
 obtain ⟨hg25, hm⟩ := og hm
 refine zZ zi5 (enc := zg) (xs := l9) (ys := ([x14.Value] : List Str)) (i := 2) (fun _ => rfl) rfl (hO.rowSees (i := 0) rfl) (by simp [cells, zg, Value.oneCell']) hg25 hf rfl rfl rfl hO fun a p23 c24 w hf hO => ?_
 refine S.op tb ?_ hf hO hm
 exact ec [2, 3, 4, 5, 6] rfl rfl rfl fun _ _ j => ⟨p23, c24, l9 ++ ([x14.Value] : List Str), j rfl⟩
 exact ec [1, 2, 3, 4, 5] rfl rfl rfl fun _ _ j => ⟨p7, c8, l9, j rfl⟩
 rintro a w ⟨p26, c27, l28, hf, hO, hm⟩
 rw [zeH] at hm
 refine S.co tb ?_ hf hO hm
 refine bi rfl fun i29 hi29 => ?_
 exact en rfl fun _ _ j => ⟨_, Nat.lt_succ_self _, p26, c27, l28, i29, j rfl⟩
 refine re_ rfl fun a w hf hO hm => ?_
 obtain rfl := Option.some.inj hm
 exact zh Tryz.results123 hf (.tmp rfl .nil) ⟨p7, c8, rfl, (hO.sub (.cons_cons _ (.cons _ (.cons _ (.cons _ (.cons _ .slnil))))))⟩

theorem zmo (x_s : Str) (R : scan_Scanner) (w0 : World) (hG : zr w0) (hm : zjZ x_s = some R) :
    Calls Tryz.prog 58 #[str x_s] w0 fun e w' => ∃ (b0 : Nat), e = .returned (ptr b0 0) ∧ Dk.Own w0 [] w' [.blk b0 [str R.f_s, int R.f_at] 148] := by
 rw [zjZ] at hm
 have hF : zs [] := ze
 have hO : Dk.Own w0 [] w0 [] := Dk.Own.refl w0
 refine S.enter tb Tryz.func58 rfl Tryz.ntmps58 rfl ?_ hO hm
 refine vl rfl rfl (fun a w hf hO => zt (vs := [(0, str x_s)]) (v := .agg #[str x_s, int 0]) hf rfl (by kernel_rfl)) ?_
 refine bo rfl fun b2 => ?_
 refine re_ rfl fun a w hf hO hm => ?_
 obtain rfl := Option.some.inj hm
 exact zh Tryz.results58 hf (.tmp rfl .nil) ⟨b2, rfl, hO⟩

theorem zia (x_c : scan_Scanner) (R : Str) (w0 : World) (hG : zr w0) {x_c_b0 : Nat} (hs0 : zD w0 (some ⟨x_c_b0, 0, none⟩) [str x_c.f_s, int x_c.f_at]) (hm : zbj x_c = some R) :
    Calls Tryz.prog 103 #[ptr x_c_b0 0] w0 (Ret w0 (fun R => str R) R) := by
 rw [zbj] at hm
 have hF : zs [] := ze
 have hO : Dk.Own w0 [] w0 [] := Dk.Own.refl w0
 have hO := hO.addShr hs0 (by simp [Res.shared])
 refine S.enter tb Tryz.func103 rfl Tryz.ntmps103 rfl ?_ hO hm
 refine vl rfl rfl (fun a w hf hO => zhi Tryz.underlying114 hf rfl rfl) ?_
 refine kn (b' := false) rfl rfl ?_
 refine rc_ rfl fun a w hf hO hm => ?_
 refine zeP (by kernel_rfl) (by kernel_rfl) hO ?_
 refine zx (fun w hO => zp hf rfl) rfl hf rfl rfl fun a hf => ?_
 refine zx (fun w hO => zaz hf rfl) rfl hf rfl rfl fun a hf => ?_
 refine zx (fun w hO => zz znf hf rfl) rfl hf rfl rfl fun a hf => ?_
 refine zx (fun w hO => zf (o := 0) zX (hO.sees (i := 0) rfl) rfl hf rfl) rfl hf rfl rfl fun a hf => ?_
 refine zx (fun w hO => zp hf rfl) rfl hf rfl rfl fun a hf => ?_
 refine zx (fun w hO => zaz hf rfl) rfl hf rfl rfl fun a hf => ?_
 refine zx (fun w hO => zz zng hf rfl) rfl hf rfl rfl fun a hf => ?_
 refine zx (fun w hO => zf (o := 1) ag_3 (hO.sees (i := 0) rfl) rfl hf rfl) rfl hf rfl rfl fun a hf => ?_
 obtain ⟨s4, hs4, hm⟩ := ob hm
 refine zx (fun w hO => ziA (l := x_c.f_s) Tryz.underlying9 hf rfl rfl hs4) rfl hf rfl rfl fun a hf => ?_
 refine zx (fun w hO => z8 hf rfl) rfl hf rfl rfl fun a hf => ?_
 refine wpQuiet_nil ?_
 intro w hO
 refine S.no tb ?_ hf hO hm
 exact rt Tryz.results103 rfl

theorem zbH (x_c : scan_Scanner) (R : Bool) (w0 : World) (hG : zr w0) {x_c_b0 : Nat} (hs0 : zD w0 (some ⟨x_c_b0, 0, none⟩) [str x_c.f_s, int x_c.f_at]) (hm : zaP x_c = some R) :
    Calls Tryz.prog 59 #[ptr x_c_b0 0] w0 (Ret w0 (fun R => .bool R) R) := by
 rw [zaP] at hm
 have hF : zs [] := ze
 have hO : Dk.Own w0 [] w0 [] := Dk.Own.refl w0
 have hO := hO.addShr hs0 (by simp [Res.shared])
 refine S.enter tb Tryz.func59 rfl Tryz.ntmps59 rfl ?_ hO hm
 refine cl c_103 rfl (fun r2 w hr2 hO => zia x_c r2 _ (hG.own hF hO) (hO.sees (i := 0) rfl) hr2) fun r2 hr2 => ?_
 exact rt Tryz.results59 rfl

theorem zda (x_c : scan_Scanner) (R : Int) (w0 : World) (hG : zr w0) {x_c_b0 : Nat} (hs0 : zD w0 (some ⟨x_c_b0, 0, none⟩) [str x_c.f_s, int x_c.f_at]) (hm : zbx x_c = some R) :
    Calls Tryz.prog 104 #[ptr x_c_b0 0] w0 (Ret w0 (fun R => int R) R) := by
 rw [zbx] at hm
 have hF : zs [] := ze
 have hO : Dk.Own w0 [] w0 [] := Dk.Own.refl w0
 have hO := hO.addShr hs0 (by simp [Res.shared])
 refine S.enter tb Tryz.func104 rfl Tryz.ntmps104 rfl ?_ hO hm
 refine vl rfl rfl (fun a w hf hO => zhi Tryz.underlying114 hf rfl rfl) ?_
 refine kn (b' := false) rfl rfl ?_
 refine ld 0 rfl rfl ?_
 exact rt Tryz.results104 rfl

theorem zbt (x_c : scan_Scanner) (R : UInt8 × Bool) (w0 : World) (hG : zr w0) {x_c_b0 : Nat} (hs0 : zD w0 (some ⟨x_c_b0, 0, none⟩) [str x_c.f_s, int x_c.f_at]) (hm : zaa x_c = some R) :
    Calls Tryz.prog 106 #[ptr x_c_b0 0] w0 (Ret w0 (fun R => .tuple #[zac R.1, .bool R.2]) R) := by
 rw [zaa] at hm
 have hF : zs [] := ze
 have hO : Dk.Own w0 [] w0 [] := Dk.Own.refl w0
 have hO := hO.addShr hs0 (by simp [Res.shared])
 refine S.enter tb Tryz.func106 rfl Tryz.ntmps106 rfl ?_ hO hm
 refine cl c_59 rfl (fun r2 w hr2 hO => zbH x_c r2 _ (hG.own hF hO) (hO.sees (i := 0) rfl) hr2) fun r2 hr2 => ?_
 refine br rfl (fun hc4 => ?_) fun hc4 => ?_
 exact rt Tryz.results106 rfl
 refine rc_ rfl fun a w hf hO hm => ?_
 refine zeP (by kernel_rfl) (by kernel_rfl) hO ?_
 refine zx (fun w hO => zp hf rfl) rfl hf rfl rfl fun a hf => ?_
 refine zx (fun w hO => zaz hf rfl) rfl hf rfl rfl fun a hf => ?_
 refine zx (fun w hO => zz znf hf rfl) rfl hf rfl rfl fun a hf => ?_
 refine zx (fun w hO => zf (o := 0) zX (hO.sees (i := 0) rfl) rfl hf rfl) rfl hf rfl rfl fun a hf => ?_
 refine zx (fun w hO => zp hf rfl) rfl hf rfl rfl fun a hf => ?_
 refine zx (fun w hO => zaz hf rfl) rfl hf rfl rfl fun a hf => ?_
 refine zx (fun w hO => zz zng hf rfl) rfl hf rfl rfl fun a hf => ?_
 refine zx (fun w hO => zf (o := 1) ag_3 (hO.sees (i := 0) rfl) rfl hf rfl) rfl hf rfl rfl fun a hf => ?_
 obtain ⟨b7, hb7, hm⟩ := ob hm
 refine zx (fun w hO => zmQ (l := x_c.f_s) Tryz.underlying9 hf rfl rfl hb7) rfl hf rfl rfl fun a hf => ?_
 refine zx (fun w hO => z8 hf rfl) rfl hf rfl rfl fun a hf => ?_
 refine zx (fun w hO => z8 hf rfl) rfl hf rfl rfl fun a hf => ?_
 refine wpQuiet_nil ?_
 intro w hO
 refine S.no tb ?_ hf hO hm
 exact rt Tryz.results106 rfl

end Go.Proofs
end
section
set_option linter.unusedVariables false
set_option maxHeartbeats 1000000
set_option linter.unusedSimpArgs false
set_option maxRecDepth 100000
namespace Go.Proofs
open Go.Dk Go.Dm Go.RowKit

theorem zV (x_c : scan_Scanner) (x_b : UInt8) (R : Bool × scan_Scanner) (w0 : World) (hG : zr w0) {x_c_b0 : Nat} {F : List Nat} (hF : zs F) (hO : Dk.Own w0 F w0 [.blk x_c_b0 [str x_c.f_s, int x_c.f_at] 148]) (hm : zB x_c x_b = some R) :
    Calls Tryz.prog 63 #[ptr x_c_b0 0, zac x_b] w0 fun e w' => e = .returned (.bool R.1) ∧ Dk.Own w0 F w' [.blk x_c_b0 [str R.2.f_s, int R.2.f_at] 148] := by
 rw [zB] at hm
 refine S.enter tb Tryz.func63 rfl Tryz.ntmps63 rfl ?_ hO hm
 refine cl zq1 rfl (fun r2 w hr2 hO => zbt x_c r2 _ (hG.own hF hO) (hO.blkSees (i := 0) rfl) hr2) fun r2 hr2 => ?_
 refine jv 1 [0] [0] (fun J E L => ∃ (t5 : Bool), J ((18, .bool t5) :: E) (L) (zb0 x_c t5)) rfl ?_ ?_
 refine br rfl (fun hc4 => ?_) fun hc4 => ?_
 exact en rfl fun _ _ j => ⟨true, j rfl⟩
 refine vl rfl rfl (fun a w hf hO => zeM (b := r2.1) (c := x_b) hf rfl rfl) ?_
 exact en rfl fun _ _ j => ⟨!(r2.1 == x_b), j rfl⟩
 rintro a w ⟨t5, hf, hO, hm⟩
 rw [zb0] at hm
 refine S.co tb ?_ hf hO hm
 refine br rfl (fun hc6 => ?_) fun hc6 => ?_
 refine re_ rfl fun a w hf hO hm => ?_
 obtain rfl := Option.some.inj hm
 exact zh Tryz.results63 hf (.tmp rfl .nil) ⟨rfl, hO⟩
 refine ld 0 rfl rfl ?_
 refine bi rfl fun i9 hi9 => ?_
 refine st 0 rfl rfl ?_
 refine re_ rfl fun a w hf hO hm => ?_
 obtain rfl := Option.some.inj hm
 exact zh Tryz.results63 hf (.tmp rfl .nil) ⟨rfl, hO⟩

theorem zhf (x_p : commas_splitter) (x_at : Int) (R : commas_splitter) (w0 : World) (hG : zr w0) {x_p_b0 : Nat} {x_p_b1 : Nat} {x_p_p2 : Option Addr} {x_p_c2 : Nat} {F : List Nat} (hF : zs F) (hO : Dk.Own w0 F w0 [.blk x_p_b0 [ptr x_p_b1 0, .slice x_p_p2 x_p.f_out.length x_p_c2, int x_p.f_from, str x_p.f_s] 117, .blk x_p_b1 [str x_p.Scanner.f_s, int x_p.Scanner.f_at] 148, .row (.slice x_p_p2 x_p.f_out.length x_p_c2) 9 1 x_p.f_out.length (cells zg x_p.f_out)]) (hm : zdy x_p x_at = some R) :
    Calls Tryz.prog 61 #[ptr x_p_b0 0, int x_at] w0 fun e w' => ∃ (p0 : Option Addr) (c0 : Nat), e = .returned (.tuple #[]) ∧ Dk.Own w0 F w' [.blk x_p_b0 [ptr x_p_b1 0, .slice p0 R.f_out.length c0, int R.f_from, str R.f_s] 117, .blk x_p_b1 [str R.Scanner.f_s, int R.Scanner.f_at] 148, .row (.slice p0 R.f_out.length c0) 9 1 R.f_out.length (cells zg R.f_out)] := by
 rw [zdy] at hm
 refine S.enter tb Tryz.func61 rfl Tryz.ntmps61 rfl ?_ hO hm
 refine jv 0 [0] [1] (fun J E L => ∃ (p10 : Option Addr) (c11 : Nat) (l12 : List Str), J (E) (.blk x_p_b0 [ptr x_p_b1 0, .slice p10 l12.length c11, int x_p.f_from, str x_p.f_s] 117 :: .row (.slice p10 l12.length c11) 9 1 l12.length (cells zg l12) :: L) (zco x_p l12)) rfl ?_ ?_
 refine rc_ rfl fun a w hf hO hm => ?_
 refine zeP (by kernel_rfl) (by kernel_rfl) hO ?_
 refine zx (fun w hO => zp hf rfl) rfl hf rfl rfl fun a hf => ?_
 refine zx (fun w hO => zaz hf rfl) rfl hf rfl rfl fun a hf => ?_
 refine zx (fun w hO => zz zs6 hf rfl) rfl hf rfl rfl fun a hf => ?_
 refine zx (fun w hO => zf (o := 3) zX (hO.blkSees (i := 0) rfl) rfl hf rfl) rfl hf rfl rfl fun a hf => ?_
 refine zx (fun w hO => zp hf rfl) rfl hf rfl rfl fun a hf => ?_
 refine zx (fun w hO => zaz hf rfl) rfl hf rfl rfl fun a hf => ?_
 refine zx (fun w hO => zz zs5 hf rfl) rfl hf rfl rfl fun a hf => ?_
 refine zx (fun w hO => zf (o := 2) ag_3 (hO.blkSees (i := 0) rfl) rfl hf rfl) rfl hf rfl rfl fun a hf => ?_
 refine zx (fun w hO => zp hf rfl) rfl hf rfl rfl fun a hf => ?_
 obtain ⟨s1, hs1, hm⟩ := ob hm
 refine zx (fun w hO => zjL (l := x_p.f_s) Tryz.underlying9 hf rfl rfl rfl hs1) rfl hf rfl rfl fun a hf => ?_
 obtain ⟨r2, hr2, hm⟩ := ob hm
 refine ztQ (fun w hO => zj zus hf (vs := [str s1, str [32, 9]]) rfl) rfl hf rfl rfl (fun w hO => (zgD s1 [32, 9] r2 _ (hG.own hF hO) hr2).mono fun e w' ⟨he, hb⟩ => ⟨he, hO.grow hb⟩) fun a hf => ?_
 refine zx (fun w hO => z8 hf rfl) rfl hf rfl rfl fun a hf => ?_
 refine wpQuiet_nil ?_
 intro w hO
 refine S.no tb ?_ hf hO hm
 refine br rfl (fun hc5 => ?_) fun hc5 => ?_
 refine ld 0 rfl rfl ?_
 refine rw_ rfl fun a w hf hO hm => ?_
 refine zn (vs := [(0, str r2)]) (cs := [str r2]) (e := 9) (sz := 1) hf rfl rfl (fun w => by kernel_rfl) rfl rfl hO fun a b6 w hf hO => ?_
 refine S.op tb ?_ hf hO hm
 refine rw_ rfl fun a w hf hO hm => ?_
 obtain ⟨hg9, hm⟩ := og hm
 refine zZ zi5 (enc := zg) (xs := x_p.f_out) (ys := ([r2] : List Str)) (i := 3) (fun _ => rfl) rfl (hO.rowSees (i := 0) rfl) (by simp [cells, zg, Value.oneCell']) hg9 hf rfl rfl rfl hO fun a p7 c8 w hf hO => ?_
 refine S.op tb ?_ hf hO hm
 refine st 1 rfl rfl ?_
 exact ec [1, 3, 2] rfl rfl rfl fun _ _ j => ⟨p7, c8, x_p.f_out ++ ([r2] : List Str), j rfl⟩
 exact ec [0, 2, 1] rfl rfl rfl fun _ _ j => ⟨x_p_p2, x_p_c2, x_p.f_out, j rfl⟩
 rintro a w ⟨p10, c11, l12, hf, hO, hm⟩
 rw [zco] at hm
 refine S.co tb ?_ hf hO hm
 refine ld 0 rfl rfl ?_
 refine cl ztb rfl (fun r13 w hr13 hO => zda x_p.Scanner r13 _ (hG.own hF hO) (hO.blkSees (i := 2) rfl) hr13) fun r13 hr13 => ?_
 refine st 0 rfl rfl ?_
 refine rn_ rfl fun a w hf hO hm => ?_
 obtain rfl := Option.some.inj hm
 exact ziH Tryz.results61 hf .nil ⟨p10, c11, rfl, (hO.choose [0, 2, 1] rfl)⟩

theorem zi7 (x_p : commas_splitter) (R : Bool × commas_splitter) (w0 : World) (hG : zr w0) {x_p_b0 : Nat} {x_p_b1 : Nat} {x_p_p2 : Option Addr} {x_p_c2 : Nat} {F : List Nat} (hF : zs F) (hO : Dk.Own w0 F w0 [.blk x_p_b0 [ptr x_p_b1 0, .slice x_p_p2 x_p.f_out.length x_p_c2, int x_p.f_from, str x_p.f_s] 117, .blk x_p_b1 [str x_p.Scanner.f_s, int x_p.Scanner.f_at] 148, .row (.slice x_p_p2 x_p.f_out.length x_p_c2) 9 1 x_p.f_out.length (cells zg x_p.f_out)]) (hm : zdD x_p = some R) :
    Calls Tryz.prog 105 #[ptr x_p_b0 0] w0 fun e w' => ∃ (p0 : Option Addr) (c0 : Nat), e = .returned (.bool R.1) ∧ Dk.Own w0 F w' [.blk x_p_b0 [ptr x_p_b1 0, .slice p0 R.2.f_out.length c0, int R.2.f_from, str R.2.f_s] 117, .blk x_p_b1 [str R.2.Scanner.f_s, int R.2.Scanner.f_at] 148, .row (.slice p0 R.2.f_out.length c0) 9 1 R.2.f_out.length (cells zg R.2.f_out)] := by
 rw [zdD] at hm
 refine S.enter tb Tryz.func105 rfl Tryz.ntmps105 rfl ?_ hO hm
 refine jv 0 [] [0, 2] (fun J E L => ∃ (s33 : Str) (i34 : Int), J (E) (.blk x_p_b1 [str s33, int i34] 148 :: L) (zcM x_p s33 i34)) rfl ?_ ?_
 refine ch [1, 0, 2] rfl rfl ?_
 refine lv [0] [1, 2] (fun J E L k => ∃ (s3 : Str) (i4 : Int) (i5 : Int), J ((3, int i5) :: E) (.blk x_p_b1 [str s3, int i4] 148 :: L) (zM x_p k s3 i4 i5)) rfl (fun _ _ j => ⟨x_p.Scanner.f_s, x_p.Scanner.f_at, 1, j rfl⟩) ?_
 rintro n1 a w ⟨s3, i4, i5, hf, hO, hm⟩
 obtain _ | n1 := n1
 rw [zM] at hm
 cases hm
 rw [zM] at hm
 refine S.co tb ?_ hf hO hm
 refine br rfl (fun hc7 => ?_) fun hc7 => ?_
 refine ld 1 rfl rfl ?_
 refine cl zq1 rfl (fun r9 w hr9 hO => zbt (⟨s3, i4⟩ : scan_Scanner) r9 _ (hG.own hF hO) (hO.blkSees (i := 0) rfl) hr9) fun r9 hr9 => ?_
 refine br rfl (fun hc12 => ?_) fun hc12 => ?_
 refine re_ rfl fun a w hf hO hm => ?_
 obtain rfl := Option.some.inj hm
 exact zh Tryz.results105 hf (.tmp rfl .nil) ⟨x_p_p2, x_p_c2, rfl, (hO.choose [1, 0, 2] rfl)⟩
 refine ld 1 rfl rfl ?_
 refine rw_ rfl fun a w hf hO hm => ?_
 obtain ⟨r15, hr15, hm⟩ := ob hm
 have hch16 := (show Dk.Own w0 F _ ([.blk x_p_b1 [str s3, int i4] 148] ++ [.blk x_p_b0 [ptr x_p_b1 0, .slice x_p_p2 x_p.f_out.length x_p_c2, int x_p.f_from, str x_p.f_s] 117, .row (.slice x_p_p2 x_p.f_out.length x_p_c2) 9 1 x_p.f_out.length (cells zg x_p.f_out)]) from hO)
 have hfar16 := Dk.Own.far hch16 rfl hF hG.size
 have hlend16 := hch16.lend (S := []) rfl trivial
 have hcl16 := zV (⟨s3, i4⟩ : scan_Scanner) r9.1 r15 _ (hG.own hF hO) hfar16 hlend16 hr15
 refine zo (zj zoH hf (vs := [ptr x_p_b1 0, zac r9.1]) rfl) rfl hf rfl rfl (hcl16) ?_
 rintro e w' ⟨he, hO'⟩
 refine ⟨_, he, fun a hf => ?_⟩
 have hO := hch16.back rfl hO' rfl
 refine S.op tb ?_ hf hO hm
 refine vl rfl rfl (fun a w hf hO => zJ (b := r9.1) (c := 40) hf rfl rfl) ?_
 refine br rfl (fun hc20 => ?_) fun hc20 => ?_
 refine bi rfl fun i21 hi21 => ?_
 exact en rfl fun _ _ j => ⟨_, Nat.lt_succ_self _, r15.2.f_s, r15.2.f_at, i21, j rfl⟩
 refine vl rfl rfl (fun a w hf hO => zJ (b := r9.1) (c := 41) hf rfl rfl) ?_
 refine br rfl (fun hc23 => ?_) fun hc23 => ?_
 refine bi rfl fun i24 hi24 => ?_
 exact en rfl fun _ _ j => ⟨_, Nat.lt_succ_self _, r15.2.f_s, r15.2.f_at, i24, j rfl⟩
 refine vl rfl rfl (fun a w hf hO => zJ (b := r9.1) (c := 92) hf rfl rfl) ?_
 refine br rfl (fun hc26 => ?_) fun hc26 => ?_
 refine ld 1 rfl rfl ?_
 refine cl zq1 rfl (fun r27 w hr27 hO => zbt r15.2 r27 _ (hG.own hF hO) (hO.blkSees (i := 0) rfl) hr27) fun r27 hr27 => ?_
 refine br rfl (fun hc30 => ?_) fun hc30 => ?_
 refine ld 1 rfl rfl ?_
 refine rw_ rfl fun a w hf hO hm => ?_
 obtain ⟨r31, hr31, hm⟩ := ob hm
 have hch32 := (show Dk.Own w0 F _ ([.blk x_p_b1 [str r15.2.f_s, int r15.2.f_at] 148] ++ [.blk x_p_b0 [ptr x_p_b1 0, .slice x_p_p2 x_p.f_out.length x_p_c2, int x_p.f_from, str x_p.f_s] 117, .row (.slice x_p_p2 x_p.f_out.length x_p_c2) 9 1 x_p.f_out.length (cells zg x_p.f_out)]) from hO)
 have hfar32 := Dk.Own.far hch32 rfl hF hG.size
 have hlend32 := hch32.lend (S := []) rfl trivial
 have hcl32 := zV r15.2 r27.1 r31 _ (hG.own hF hO) hfar32 hlend32 hr31
 refine zo (zj zoH hf (vs := [ptr x_p_b1 0, zac r27.1]) rfl) rfl hf rfl rfl (hcl32) ?_
 rintro e w' ⟨he, hO'⟩
 refine ⟨_, he, fun a hf => ?_⟩
 have hO := hch32.back rfl hO' rfl
 refine S.op tb ?_ hf hO hm
 exact en rfl fun _ _ j => ⟨_, Nat.lt_succ_self _, r31.2.f_s, r31.2.f_at, i5, j rfl⟩
 exact en rfl fun _ _ j => ⟨_, Nat.lt_succ_self _, r15.2.f_s, r15.2.f_at, i5, j rfl⟩
 exact en rfl fun _ _ j => ⟨_, Nat.lt_succ_self _, r15.2.f_s, r15.2.f_at, i5, j rfl⟩
 exact en rfl fun _ _ j => ⟨s3, i4, j rfl⟩
 rintro a w ⟨s33, i34, hf, hO, hm⟩
 rw [zcM] at hm
 refine S.co tb ?_ hf hO hm
 refine re_ rfl fun a w hf hO hm => ?_
 obtain rfl := Option.some.inj hm
 exact zh Tryz.results105 hf (.tmp rfl .nil) ⟨x_p_p2, x_p_c2, rfl, (hO.choose [1, 0, 2] rfl)⟩

theorem zjo (x_b : UInt8) (R : Bool) (w0 : World) (hG : zr w0) (hm : zfW x_b = some R) :
    Calls Tryz.prog 216 #[zac x_b] w0 (Ret w0 (fun R => .bool R) R) := by
 rw [zfW] at hm
 have hF : zs [] := ze
 have hO : Dk.Own w0 [] w0 [] := Dk.Own.refl w0
 refine S.enter tb Tryz.func216 rfl Tryz.ntmps216 rfl ?_ hO hm
 refine jv 0 [] [] (fun J E L => ∃ (t3 : Bool), J ((2, .bool t3) :: E) (L) (zd4 t3)) rfl ?_ ?_
 refine vl rfl rfl (fun a w hf hO => zsf (b := x_b) (c := 32) hf rfl rfl) ?_
 refine br rfl (fun hc2 => ?_) fun hc2 => ?_
 refine vl rfl rfl (fun a w hf hO => zvv (b := x_b) (c := 127) hf rfl rfl) ?_
 exact en rfl fun _ _ j => ⟨decide (x_b < 127), j rfl⟩
 exact en rfl fun _ _ j => ⟨false, j rfl⟩
 rintro a w ⟨t3, hf, hO, hm⟩
 rw [zd4] at hm
 refine S.co tb ?_ hf hO hm
 exact rt Tryz.results216 rfl

theorem zoD (x_b : UInt8) (R : Bool) (w0 : World) (hG : zr w0) (hm : zjy x_b = some R) :
    Calls Tryz.prog 217 #[zac x_b] w0 (Ret w0 (fun R => .bool R) R) := by
 rw [zjy] at hm
 have hF : zs [] := ze
 have hO : Dk.Own w0 [] w0 [] := Dk.Own.refl w0
 refine S.enter tb Tryz.func217 rfl Tryz.ntmps217 rfl ?_ hO hm
 refine jv 0 [] [] (fun J E L => ∃ (t3 : Bool), J ((2, .bool t3) :: E) (L) (zfm t3)) rfl ?_ ?_
 refine vl rfl rfl (fun a w hf hO => zJ (b := x_b) (c := 32) hf rfl rfl) ?_
 refine br rfl (fun hc2 => ?_) fun hc2 => ?_
 exact en rfl fun _ _ j => ⟨true, j rfl⟩
 refine vl rfl rfl (fun a w hf hO => zJ (b := x_b) (c := 9) hf rfl rfl) ?_
 exact en rfl fun _ _ j => ⟨x_b == 9, j rfl⟩
 rintro a w ⟨t3, hf, hO, hm⟩
 rw [zfm] at hm
 refine S.co tb ?_ hf hO hm
 exact rt Tryz.results217 rfl

theorem zen (x_b : UInt8) (R : Bool) (w0 : World) (hG : zr w0) (hm : zaJ x_b = some R) :
    Calls Tryz.prog 168 #[zac x_b] w0 (Ret w0 (fun R => .bool R) R) := by
 rw [zaJ] at hm
 have hF : zs [] := ze
 have hO : Dk.Own w0 [] w0 [] := Dk.Own.refl w0
 refine S.enter tb Tryz.func168 rfl Tryz.ntmps168 rfl ?_ hO hm
 refine jv 0 [] [] (fun J E L => ∃ (t6 : Bool), J ((2, .bool t6) :: E) (L) (zdE t6)) rfl ?_ ?_
 refine cl c_216 rfl (fun r2 w hr2 hO => zjo x_b r2 _ (hG.own hF hO) hr2) fun r2 hr2 => ?_
 refine br rfl (fun hc3 => ?_) fun hc3 => ?_
 exact en rfl fun _ _ j => ⟨true, j rfl⟩
 refine cl c_217 rfl (fun r4 w hr4 hO => zoD x_b r4 _ (hG.own hF hO) hr4) fun r4 hr4 => ?_
 refine br rfl (fun hc5 => ?_) fun hc5 => ?_
 exact en rfl fun _ _ j => ⟨true, j rfl⟩
 refine vl rfl rfl (fun a w hf hO => zsf (b := x_b) (c := 127) hf rfl rfl) ?_
 exact en rfl fun _ _ j => ⟨decide (127 < x_b), j rfl⟩
 rintro a w ⟨t6, hf, hO, hm⟩
 rw [zdE] at hm
 refine S.co tb ?_ hf hO hm
 exact rt Tryz.results168 rfl

theorem zlx (x_r : quoted_reader) (R : Bool × quoted_reader) (w0 : World) (hG : zr w0) {x_r_b0 : Nat} {x_r_b1 : Nat} {x_r_p2 : Option Addr} {x_r_c2 : Nat} {F : List Nat} (hF : zs F) (hO : Dk.Own w0 F w0 [.blk x_r_b0 [ptr x_r_b1 0, .slice x_r_p2 x_r.f_out.length x_r_c2] 201, .blk x_r_b1 [str x_r.Scanner.f_s, int x_r.Scanner.f_at] 148, .row (.slice x_r_p2 x_r.f_out.length x_r_c2) 5 1 x_r.f_out.length (cells zaI x_r.f_out)]) (hm : zgh x_r = some R) :
    Calls Tryz.prog 158 #[ptr x_r_b0 0] w0 fun e w' => ∃ (p0 : Option Addr) (c0 : Nat), e = .returned (.bool R.1) ∧ Dk.Own w0 F w' [.blk x_r_b0 [ptr x_r_b1 0, .slice p0 R.2.f_out.length c0] 201, .blk x_r_b1 [str R.2.Scanner.f_s, int R.2.Scanner.f_at] 148, .row (.slice p0 R.2.f_out.length c0) 5 1 R.2.f_out.length (cells zaI R.2.f_out)] := by
 rw [zgh] at hm
 refine S.enter tb Tryz.func158 rfl Tryz.ntmps158 rfl ?_ hO hm
 refine ld 0 rfl rfl ?_
 refine rw_ rfl fun a w hf hO hm => ?_
 obtain ⟨r2, hr2, hm⟩ := ob hm
 have hch3 := (show Dk.Own w0 F _ ([.blk x_r_b1 [str x_r.Scanner.f_s, int x_r.Scanner.f_at] 148] ++ [.blk x_r_b0 [ptr x_r_b1 0, .slice x_r_p2 x_r.f_out.length x_r_c2] 201, .row (.slice x_r_p2 x_r.f_out.length x_r_c2) 5 1 x_r.f_out.length (cells zaI x_r.f_out)]) from hO.choose [1, 0, 2] rfl)
 have hfar3 := Dk.Own.far hch3 rfl hF hG.size
 have hlend3 := hch3.lend (S := []) rfl trivial
 have hcl3 := zV x_r.Scanner 92 r2 _ (hG.own hF hO) hfar3 hlend3 hr2
 refine zo (zj zoH hf (vs := [ptr x_r_b1 0, zac 92]) rfl) rfl hf rfl rfl (hcl3) ?_
 rintro e w' ⟨he, hO'⟩
 refine ⟨_, he, fun a hf => ?_⟩
 have hO := hch3.back rfl hO' rfl
 refine S.op tb ?_ hf hO hm
 refine ld 1 rfl rfl ?_
 refine cl zq1 rfl (fun r5 w hr5 hO => zbt r2.2 r5 _ (hG.own hF hO) (hO.blkSees (i := 0) rfl) hr5) fun r5 hr5 => ?_
 refine jv 1 [0, 3] [0, 1, 2] (fun J E L => ∃ (t9 : Bool), J ((24, .bool t9) :: E) (L) (zcX x_r r2 r5 t9)) rfl ?_ ?_
 refine br rfl (fun hc7 => ?_) fun hc7 => ?_
 exact en rfl fun _ _ j => ⟨true, j rfl⟩
 refine cl zte rfl (fun r8 w hr8 hO => zen r5.1 r8 _ (hG.own hF hO) hr8) fun r8 hr8 => ?_
 exact en rfl fun _ _ j => ⟨!r8, j rfl⟩
 rintro a w ⟨t9, hf, hO, hm⟩
 rw [zcX] at hm
 refine S.co tb ?_ hf hO hm
 refine br rfl (fun hc10 => ?_) fun hc10 => ?_
 refine re_ rfl fun a w hf hO hm => ?_
 obtain rfl := Option.some.inj hm
 exact zh Tryz.results158 hf (.tmp rfl .nil) ⟨x_r_p2, x_r_c2, rfl, (hO.choose [1, 0, 2] rfl)⟩
 refine ld 1 rfl rfl ?_
 refine rw_ rfl fun a w hf hO hm => ?_
 refine zn (vs := [(0, zac r5.1)]) (cs := [zac r5.1]) (e := 5) (sz := 1) hf rfl rfl (fun w => by kernel_rfl) rfl rfl hO fun a b13 w hf hO => ?_
 refine S.op tb ?_ hf hO hm
 refine rw_ rfl fun a w hf hO hm => ?_
 obtain ⟨hg16, hm⟩ := og hm
 refine zZ zrW (enc := zaI) (xs := x_r.f_out) (ys := [r5.1]) (i := 3) (fun _ => rfl) rfl (hO.rowSees (i := 0) rfl) (by simp [cells, zaI, Value.oneCell']) hg16 hf rfl rfl rfl hO fun a p14 c15 w hf hO => ?_
 refine S.op tb ?_ hf hO hm
 refine st 2 rfl rfl ?_
 refine ld 2 rfl rfl ?_
 refine rw_ rfl fun a w hf hO hm => ?_
 obtain ⟨r18, hr18, hm⟩ := ob hm
 have hch19 := (show Dk.Own w0 F _ ([.blk x_r_b1 [str r2.2.f_s, int r2.2.f_at] 148] ++ [.row (.slice (some ⟨b13, 0, none⟩) ([r5.1].length) 1) 5 1 ([r5.1].length) (cells zaI [r5.1]), .blk x_r_b0 [ptr x_r_b1 0, .slice p14 ((x_r.f_out ++ [r5.1]).length) c15] 201, .row (.slice p14 ((x_r.f_out ++ [r5.1]).length) c15) 5 1 ((x_r.f_out ++ [r5.1]).length) (cells zaI (x_r.f_out ++ [r5.1]))]) from hO.choose [1, 0, 2, 3] rfl)
 have hfar19 := Dk.Own.far hch19 rfl hF hG.size
 have hlend19 := hch19.lend (S := []) rfl trivial
 have hcl19 := zV r2.2 r5.1 r18 _ (hG.own hF hO) hfar19 hlend19 hr18
 refine zo (zj zoH hf (vs := [ptr x_r_b1 0, zac r5.1]) rfl) rfl hf rfl rfl (hcl19) ?_
 rintro e w' ⟨he, hO'⟩
 refine ⟨_, he, fun a hf => ?_⟩
 have hO := hch19.back rfl hO' rfl
 refine S.op tb ?_ hf hO hm
 refine re_ rfl fun a w hf hO hm => ?_
 obtain rfl := Option.some.inj hm
 exact zh Tryz.results158 hf (.tmp rfl .nil) ⟨p14, c15, rfl, (hO.choose [2, 0, 3] rfl)⟩

theorem zlX (x_c : scan_Scanner) (x_at : Int) (R : Bool × scan_Scanner) (w0 : World) (hG : zr w0) {x_c_b0 : Nat} {F : List Nat} (hF : zs F) (hO : Dk.Own w0 F w0 [.blk x_c_b0 [str x_c.f_s, int x_c.f_at] 148]) (hm : zgL x_c x_at = some R) :
    Calls Tryz.prog 159 #[ptr x_c_b0 0, int x_at] w0 fun e w' => e = .returned (.bool R.1) ∧ Dk.Own w0 F w' [.blk x_c_b0 [str R.2.f_s, int R.2.f_at] 148] := by
 rw [zgL] at hm
 refine S.enter tb Tryz.func159 rfl Tryz.ntmps159 rfl ?_ hO hm
 refine jv 1 [0, 1] [0] (fun J E L => ∃ (t4 : Bool), J ((12, .bool t4) :: E) (L) (zdg x_c x_at t4)) rfl ?_ ?_
 refine br rfl (fun hc2 => ?_) fun hc2 => ?_
 exact en rfl fun _ _ j => ⟨true, j rfl⟩
 refine cl ztb rfl (fun r3 w hr3 hO => zda x_c r3 _ (hG.own hF hO) (hO.blkSees (i := 0) rfl) hr3) fun r3 hr3 => ?_
 exact en rfl fun _ _ j => ⟨decide (r3 < x_at), j rfl⟩
 rintro a w ⟨t4, hf, hO, hm⟩
 rw [zdg] at hm
 refine S.co tb ?_ hf hO hm
 refine br rfl (fun hc5 => ?_) fun hc5 => ?_
 refine re_ rfl fun a w hf hO hm => ?_
 obtain rfl := Option.some.inj hm
 exact zh Tryz.results159 hf (.tmp rfl .nil) ⟨rfl, hO⟩
 refine vl rfl rfl (fun a w hf hO => zqR Tryz.underlying114 hf rfl rfl) ?_
 refine kn (b' := true) rfl rfl ?_
 refine st 0 rfl rfl ?_
 refine re_ rfl fun a w hf hO hm => ?_
 obtain rfl := Option.some.inj hm
 exact zh Tryz.results159 hf (.tmp rfl .nil) ⟨rfl, hO⟩

theorem zqy (x_c : scan_Scanner) (R : Str × Bool × scan_Scanner) (w0 : World) (hG : zr w0) {x_c_b0 : Nat} {F : List Nat} (hF : zs F) (hO : Dk.Own w0 F w0 [.blk x_c_b0 [str x_c.f_s, int x_c.f_at] 148]) (hm : zlk x_c = some R) :
    Calls Tryz.prog 107 #[ptr x_c_b0 0] w0 fun e w' => e = .returned (.tuple #[str R.1, .bool R.2.1]) ∧ Dk.Own w0 F w' [.blk x_c_b0 [str R.2.2.f_s, int R.2.2.f_at] 148] := by
 rw [zlk] at hm
 refine S.enter tb Tryz.func107 rfl Tryz.ntmps107 rfl ?_ hO hm
 refine cl ztb rfl (fun r2 w hr2 hO => zda x_c r2 _ (hG.own hF hO) (hO.blkSees (i := 0) rfl) hr2) fun r2 hr2 => ?_
 refine vl rfl rfl (fun a w hf hO => zt (vs := [(0, ptr x_c_b0 0)]) (v := .agg #[ptr x_c_b0 0, .slice none 0 0]) hf rfl (by kernel_rfl)) ?_
 refine bo rfl fun b4 => ?_
 refine nl 5 1 ?_
 refine ld 1 rfl rfl ?_
 refine rw_ rfl fun a w hf hO hm => ?_
 obtain ⟨r6, hr6, hm⟩ := ob hm
 have hch7 := (show Dk.Own w0 F _ ([.blk x_c_b0 [str x_c.f_s, int x_c.f_at] 148] ++ [.row (.slice none 0 0) 5 1 0 (cells zaI []), .blk b4 [ptr x_c_b0 0, .slice none 0 0] 201]) from hO.choose [2, 0, 1] rfl)
 have hfar7 := Dk.Own.far hch7 rfl hF hG.size
 have hlend7 := hch7.lend (S := []) rfl trivial
 have hcl7 := zV x_c 34 r6 _ (hG.own hF hO) hfar7 hlend7 hr6
 refine zo (zj zoH hf (vs := [ptr x_c_b0 0, zac 34]) rfl) rfl hf rfl rfl (hcl7) ?_
 rintro e w' ⟨he, hO'⟩
 refine ⟨_, he, fun a hf => ?_⟩
 have hO := hch7.back rfl hO' rfl
 refine S.op tb ?_ hf hO hm
 refine jv 0 [4, 5] [] (fun J E L => ∃ (t27 : Bool) (s28 : Str) (i29 : Int) (p30 : Option Addr) (c31 : Nat) (l32 : List UInt8), J ((6, .bool t27) :: E) (.blk x_c_b0 [str s28, int i29] 148 :: .row (.slice p30 l32.length c31) 5 1 l32.length (cells zaI l32) :: .blk b4 [ptr x_c_b0 0, .slice p30 l32.length c31] 201 :: L) (ziS r2 t27 s28 i29 l32)) rfl ?_ ?_
 refine lv [4, 5] [] (fun J E L k => ∃ (s9 : Str) (i10 : Int) (p11 : Option Addr) (c12 : Nat) (l13 : List UInt8) (t14 : Bool), J ((6, .bool t14) :: E) (.blk x_c_b0 [str s9, int i10] 148 :: .row (.slice p11 l13.length c12) 5 1 l13.length (cells zaI l13) :: .blk b4 [ptr x_c_b0 0, .slice p11 l13.length c12] 201 :: L) (zcN r2 k s9 i10 l13 t14)) rfl (fun _ _ j => ⟨r6.2.f_s, r6.2.f_at, none, 0, [], r6.1, j rfl⟩) ?_
 rintro n1 a w ⟨s9, i10, p11, c12, l13, t14, hf, hO, hm⟩
 obtain _ | n1 := n1
 rw [zcN] at hm
 cases hm
 rw [zcN] at hm
 refine S.co tb ?_ hf hO hm
 refine jv 4 [4, 5, 6] [1, 2] (fun J E L => ∃ (t18 : Bool) (s19 : Str) (i20 : Int), J ((25, .bool t18) :: E) (.blk x_c_b0 [str s19, int i20] 148 :: L) (zgM (zcN r2 n1) r2 l13 t14 t18 s19 i20)) rfl ?_ ?_
 refine br rfl (fun hc15 => ?_) fun hc15 => ?_
 refine ld 2 rfl rfl ?_
 refine rw_ rfl fun a w hf hO hm => ?_
 obtain ⟨r16, hr16, hm⟩ := ob hm
 have hch17 := (show Dk.Own w0 F _ ([.blk x_c_b0 [str s9, int i10] 148] ++ [.row (.slice p11 l13.length c12) 5 1 l13.length (cells zaI l13), .blk b4 [ptr x_c_b0 0, .slice p11 l13.length c12] 201]) from hO)
 have hfar17 := Dk.Own.far hch17 rfl hF hG.size
 have hlend17 := hch17.lend (S := []) rfl trivial
 have hcl17 := zV (⟨s9, i10⟩ : scan_Scanner) 34 r16 _ (hG.own hF hO) hfar17 hlend17 hr16
 refine zo (zj zoH hf (vs := [ptr x_c_b0 0, zac 34]) rfl) rfl hf rfl rfl (hcl17) ?_
 rintro e w' ⟨he, hO'⟩
 refine ⟨_, he, fun a hf => ?_⟩
 have hO := hch17.back rfl hO' rfl
 refine S.op tb ?_ hf hO hm
 refine kn (b' := true) hc15 rfl ?_
 exact en rfl fun _ _ j => ⟨!r16.1, r16.2.f_s, r16.2.f_at, j rfl⟩
 exact en rfl fun _ _ j => ⟨false, s9, i10, j rfl⟩
 rintro a w ⟨t18, s19, i20, hf, hO, hm⟩
 rw [zgM] at hm
 refine S.co tb ?_ hf hO hm
 refine br rfl (fun hc21 => ?_) fun hc21 => ?_
 refine rw_ rfl fun a w hf hO hm => ?_
 obtain ⟨r23, hr23, hm⟩ := ob hm
 have hch26 := (show Dk.Own w0 F _ ([.blk b4 [ptr x_c_b0 0, .slice p11 l13.length c12] 201, .blk x_c_b0 [str s19, int i20] 148, .row (.slice p11 l13.length c12) 5 1 l13.length (cells zaI l13)] ++ []) from hO.choose [2, 0, 1] rfl)
 have hfar26 := Dk.Own.far hch26 rfl hF hG.size
 have hlend26 := hch26.lend (S := []) rfl trivial
 have hcl26 := zlx ((⟨(⟨s19, i20⟩ : scan_Scanner), l13⟩ : quoted_reader)) r23 _ (hG.own hF hO) hfar26 hlend26 hr23
 refine zo (zj c_158 hf (vs := [ptr b4 0]) rfl) rfl hf rfl rfl (hcl26) ?_
 rintro e w' ⟨p24, c25, he, hO'⟩
 refine ⟨_, he, fun a hf => ?_⟩
 have hO := hch26.back rfl hO' rfl
 refine S.op tb ?_ hf hO hm
 exact ec [1, 2, 0] rfl rfl rfl fun _ _ j => ⟨_, Nat.lt_succ_self _, r23.2.Scanner.f_s, r23.2.Scanner.f_at, p24, c25, r23.2.f_out, r23.1, j rfl⟩
 exact en rfl fun _ _ j => ⟨t14, s19, i20, p11, c12, l13, j rfl⟩
 rintro a w ⟨t27, s28, i29, p30, c31, l32, hf, hO, hm⟩
 rw [ziS] at hm
 refine S.co tb ?_ hf hO hm
 refine br rfl (fun hc34 => ?_) fun hc34 => ?_
 refine ld 2 rfl rfl ?_
 refine rw_ rfl fun a w hf hO hm => ?_
 obtain ⟨r35, hr35, hm⟩ := ob hm
 have hch36 := (show Dk.Own w0 F _ ([.blk x_c_b0 [str s28, int i29] 148] ++ [.row (.slice p30 l32.length c31) 5 1 l32.length (cells zaI l32), .blk b4 [ptr x_c_b0 0, .slice p30 l32.length c31] 201]) from hO)
 have hfar36 := Dk.Own.far hch36 rfl hF hG.size
 have hlend36 := hch36.lend (S := []) rfl trivial
 have hcl36 := zlX (⟨s28, i29⟩ : scan_Scanner) r2 r35 _ (hG.own hF hO) hfar36 hlend36 hr35
 refine zo (zj c_159 hf (vs := [ptr x_c_b0 0, int r2]) rfl) rfl hf rfl rfl (hcl36) ?_
 rintro e w' ⟨he, hO'⟩
 refine ⟨_, he, fun a hf => ?_⟩
 have hO := hch36.back rfl hO' rfl
 refine S.op tb ?_ hf hO hm
 refine re_ rfl fun a w hf hO hm => ?_
 obtain rfl := Option.some.inj hm
 exact zh Tryz.results107 hf (.tmp rfl (.tmp rfl .nil)) ⟨rfl, (hO.sub (.cons_cons _ (.cons _ (.cons _ .slnil))))⟩
 refine ld 2 rfl rfl ?_
 refine vl rfl rfl (fun a w hf hO => zpj (en := zaI) (l := l32) (fun _ => rfl) Tryz.underlying9 Tryz.underlying178 Tryz.underlying5 (hO.rowSees (i := 1) rfl) hf rfl) ?_
 refine re_ rfl fun a w hf hO hm => ?_
 obtain rfl := Option.some.inj hm
 exact zh Tryz.results107 hf (.tmp rfl (.tmp rfl .nil)) ⟨rfl, (hO.sub (.cons_cons _ (.cons _ (.cons _ .slnil))))⟩

theorem zkw (x_p : commas_splitter) (R : Bool × commas_splitter) (w0 : World) (hG : zr w0) {x_p_b0 : Nat} {x_p_b1 : Nat} {x_p_p2 : Option Addr} {x_p_c2 : Nat} {F : List Nat} (hF : zs F) (hO : Dk.Own w0 F w0 [.blk x_p_b0 [ptr x_p_b1 0, .slice x_p_p2 x_p.f_out.length x_p_c2, int x_p.f_from, str x_p.f_s] 117, .blk x_p_b1 [str x_p.Scanner.f_s, int x_p.Scanner.f_at] 148, .row (.slice x_p_p2 x_p.f_out.length x_p_c2) 9 1 x_p.f_out.length (cells zg x_p.f_out)]) (hm : zeQ x_p = some R) :
    Calls Tryz.prog 60 #[ptr x_p_b0 0] w0 fun e w' => ∃ (p0 : Option Addr) (c0 : Nat), e = .returned (.bool R.1) ∧ Dk.Own w0 F w' [.blk x_p_b0 [ptr x_p_b1 0, .slice p0 R.2.f_out.length c0, int R.2.f_from, str R.2.f_s] 117, .blk x_p_b1 [str R.2.Scanner.f_s, int R.2.Scanner.f_at] 148, .row (.slice p0 R.2.f_out.length c0) 9 1 R.2.f_out.length (cells zg R.2.f_out)] := by
 rw [zeQ] at hm
 refine S.enter tb Tryz.func60 rfl Tryz.ntmps60 rfl ?_ hO hm
 refine ld 0 rfl rfl ?_
 refine cl ztb rfl (fun r2 w hr2 hO => zda x_p.Scanner r2 _ (hG.own hF hO) (hO.blkSees (i := 1) rfl) hr2) fun r2 hr2 => ?_
 refine jv 0 [] [] (fun J E L => ∃ (p32 : Option Addr) (c33 : Nat) (l34 : List Str) (i35 : Int) (s36 : Str) (s37 : Str) (i38 : Int), J (E) (.blk x_p_b0 [ptr x_p_b1 0, .slice p32 l34.length c33, int i35, str s36] 117 :: .blk x_p_b1 [str s37, int i38] 148 :: .row (.slice p32 l34.length c33) 9 1 l34.length (cells zg l34) :: L) (zb7 l34 i35 s36 s37 i38)) rfl ?_ ?_
 refine ld 0 rfl rfl ?_
 refine rw_ rfl fun a w hf hO hm => ?_
 obtain ⟨r4, hr4, hm⟩ := ob hm
 have hch5 := (show Dk.Own w0 F _ ([.blk x_p_b1 [str x_p.Scanner.f_s, int x_p.Scanner.f_at] 148] ++ [.blk x_p_b0 [ptr x_p_b1 0, .slice x_p_p2 x_p.f_out.length x_p_c2, int x_p.f_from, str x_p.f_s] 117, .row (.slice x_p_p2 x_p.f_out.length x_p_c2) 9 1 x_p.f_out.length (cells zg x_p.f_out)]) from hO.choose [1, 0, 2] rfl)
 have hfar5 := Dk.Own.far hch5 rfl hF hG.size
 have hlend5 := hch5.lend (S := []) rfl trivial
 have hcl5 := zV x_p.Scanner 44 r4 _ (hG.own hF hO) hfar5 hlend5 hr4
 refine zo (zj zoH hf (vs := [ptr x_p_b1 0, zac 44]) rfl) rfl hf rfl rfl (hcl5) ?_
 rintro e w' ⟨he, hO'⟩
 refine ⟨_, he, fun a hf => ?_⟩
 have hO := hch5.back rfl hO' rfl
 refine S.op tb ?_ hf hO hm
 refine br rfl (fun hc7 => ?_) fun hc7 => ?_
 refine rw_ rfl fun a w hf hO hm => ?_
 obtain ⟨r8, hr8, hm⟩ := ob hm
 have hch11 := (show Dk.Own w0 F _ ([.blk x_p_b0 [ptr x_p_b1 0, .slice x_p_p2 x_p.f_out.length x_p_c2, int x_p.f_from, str x_p.f_s] 117, .blk x_p_b1 [str r4.2.f_s, int r4.2.f_at] 148, .row (.slice x_p_p2 x_p.f_out.length x_p_c2) 9 1 x_p.f_out.length (cells zg x_p.f_out)] ++ []) from hO.choose [1, 0, 2] rfl)
 have hfar11 := Dk.Own.far hch11 rfl hF hG.size
 have hlend11 := hch11.lend (S := []) rfl trivial
 have hcl11 := zhf (⟨r4.2, x_p.f_out, x_p.f_from, x_p.f_s⟩ : commas_splitter) r2 r8 _ (hG.own hF hO) hfar11 hlend11 hr8
 refine zo (zj c_61 hf (vs := [ptr x_p_b0 0, int r2]) rfl) rfl hf rfl rfl (hcl11) ?_
 rintro e w' ⟨p9, c10, he, hO'⟩
 refine ⟨_, he, fun a hf => ?_⟩
 have hO := hch11.back rfl hO' rfl
 refine S.op tb ?_ hf hO hm
 exact en rfl fun _ _ j => ⟨p9, c10, r8.f_out, r8.f_from, r8.f_s, r8.Scanner.f_s, r8.Scanner.f_at, j rfl⟩
 refine ld 1 rfl rfl ?_
 refine rw_ rfl fun a w hf hO hm => ?_
 obtain ⟨r12, hr12, hm⟩ := ob hm
 have hch13 := (show Dk.Own w0 F _ ([.blk x_p_b1 [str r4.2.f_s, int r4.2.f_at] 148] ++ [.blk x_p_b0 [ptr x_p_b1 0, .slice x_p_p2 x_p.f_out.length x_p_c2, int x_p.f_from, str x_p.f_s] 117, .row (.slice x_p_p2 x_p.f_out.length x_p_c2) 9 1 x_p.f_out.length (cells zg x_p.f_out)]) from hO)
 have hfar13 := Dk.Own.far hch13 rfl hF hG.size
 have hlend13 := hch13.lend (S := []) rfl trivial
 have hcl13 := zV r4.2 40 r12 _ (hG.own hF hO) hfar13 hlend13 hr12
 refine zo (zj zoH hf (vs := [ptr x_p_b1 0, zac 40]) rfl) rfl hf rfl rfl (hcl13) ?_
 rintro e w' ⟨he, hO'⟩
 refine ⟨_, he, fun a hf => ?_⟩
 have hO := hch13.back rfl hO' rfl
 refine S.op tb ?_ hf hO hm
 refine br rfl (fun hc15 => ?_) fun hc15 => ?_
 refine rw_ rfl fun a w hf hO hm => ?_
 obtain ⟨r16, hr16, hm⟩ := ob hm
 have hch19 := (show Dk.Own w0 F _ ([.blk x_p_b0 [ptr x_p_b1 0, .slice x_p_p2 x_p.f_out.length x_p_c2, int x_p.f_from, str x_p.f_s] 117, .blk x_p_b1 [str r12.2.f_s, int r12.2.f_at] 148, .row (.slice x_p_p2 x_p.f_out.length x_p_c2) 9 1 x_p.f_out.length (cells zg x_p.f_out)] ++ []) from hO.choose [1, 0, 2] rfl)
 have hfar19 := Dk.Own.far hch19 rfl hF hG.size
 have hlend19 := hch19.lend (S := []) rfl trivial
 have hcl19 := zi7 (⟨r12.2, x_p.f_out, x_p.f_from, x_p.f_s⟩ : commas_splitter) r16 _ (hG.own hF hO) hfar19 hlend19 hr16
 refine zo (zj c_105 hf (vs := [ptr x_p_b0 0]) rfl) rfl hf rfl rfl (hcl19) ?_
 rintro e w' ⟨p17, c18, he, hO'⟩
 refine ⟨_, he, fun a hf => ?_⟩
 have hO := hch19.back rfl hO' rfl
 refine S.op tb ?_ hf hO hm
 refine re_ rfl fun a w hf hO hm => ?_
 obtain rfl := Option.some.inj hm
 exact zh Tryz.results60 hf (.tmp rfl .nil) ⟨p17, c18, rfl, hO⟩
 refine ld 1 rfl rfl ?_
 refine cl zq1 rfl (fun r21 w hr21 hO => zbt r12.2 r21 _ (hG.own hF hO) (hO.blkSees (i := 0) rfl) hr21) fun r21 hr21 => ?_
 refine vl rfl rfl (fun a w hf hO => zJ (b := r21.1) (c := 34) hf rfl rfl) ?_
 refine br rfl (fun hc24 => ?_) fun hc24 => ?_
 refine ld 1 rfl rfl ?_
 refine rw_ rfl fun a w hf hO hm => ?_
 obtain ⟨r25, hr25, hm⟩ := ob hm
 have hch26 := (show Dk.Own w0 F _ ([.blk x_p_b1 [str r12.2.f_s, int r12.2.f_at] 148] ++ [.blk x_p_b0 [ptr x_p_b1 0, .slice x_p_p2 x_p.f_out.length x_p_c2, int x_p.f_from, str x_p.f_s] 117, .row (.slice x_p_p2 x_p.f_out.length x_p_c2) 9 1 x_p.f_out.length (cells zg x_p.f_out)]) from hO)
 have hfar26 := Dk.Own.far hch26 rfl hF hG.size
 have hlend26 := hch26.lend (S := []) rfl trivial
 have hcl26 := zqy r12.2 r25 _ (hG.own hF hO) hfar26 hlend26 hr25
 refine zo (zj c_107 hf (vs := [ptr x_p_b1 0]) rfl) rfl hf rfl rfl (hcl26) ?_
 rintro e w' ⟨he, hO'⟩
 refine ⟨_, he, fun a hf => ?_⟩
 have hO := hch26.back rfl hO' rfl
 refine S.op tb ?_ hf hO hm
 refine re_ rfl fun a w hf hO hm => ?_
 obtain rfl := Option.some.inj hm
 exact zh Tryz.results60 hf (.tmp rfl .nil) ⟨x_p_p2, x_p_c2, rfl, (hO.choose [1, 0, 2] rfl)⟩
 refine ld 1 rfl rfl ?_
 refine rw_ rfl fun a w hf hO hm => ?_
 obtain ⟨r30, hr30, hm⟩ := ob hm
 have hch31 := (show Dk.Own w0 F _ ([.blk x_p_b1 [str r12.2.f_s, int r12.2.f_at] 148] ++ [.blk x_p_b0 [ptr x_p_b1 0, .slice x_p_p2 x_p.f_out.length x_p_c2, int x_p.f_from, str x_p.f_s] 117, .row (.slice x_p_p2 x_p.f_out.length x_p_c2) 9 1 x_p.f_out.length (cells zg x_p.f_out)]) from hO)
 have hfar31 := Dk.Own.far hch31 rfl hF hG.size
 have hlend31 := hch31.lend (S := []) rfl trivial
 have hcl31 := zV r12.2 r21.1 r30 _ (hG.own hF hO) hfar31 hlend31 hr30
 refine zo (zj zoH hf (vs := [ptr x_p_b1 0, zac r21.1]) rfl) rfl hf rfl rfl (hcl31) ?_
 rintro e w' ⟨he, hO'⟩
 refine ⟨_, he, fun a hf => ?_⟩
 have hO := hch31.back rfl hO' rfl
 refine S.op tb ?_ hf hO hm
 exact ec [1, 0, 2] rfl rfl rfl fun _ _ j => ⟨x_p_p2, x_p_c2, x_p.f_out, x_p.f_from, x_p.f_s, r30.2.f_s, r30.2.f_at, j rfl⟩
 rintro a w ⟨p32, c33, l34, i35, s36, s37, i38, hf, hO, hm⟩
 rw [zb7] at hm
 refine S.co tb ?_ hf hO hm
 refine re_ rfl fun a w hf hO hm => ?_
 obtain rfl := Option.some.inj hm
 exact zh Tryz.results60 hf (.tmp rfl .nil) ⟨p32, c33, rfl, hO⟩

theorem zpF (x_s : Str) (R : List Str × Int) (w0 : World) (hG : zr w0) (hm : zko x_s = some R) :
    Calls Tryz.prog 33 #[str x_s] w0 fun e w' => ∃ (p0 : Option Addr) (c0 : Nat), e = .returned (.tuple #[.slice p0 R.1.length c0, int R.2]) ∧ Dk.Own w0 [] w' [.row (.slice p0 R.1.length c0) 9 1 R.1.length (cells zg R.1)] := by
 rw [zko] at hm
 have hF : zs [] := ze
 have hO : Dk.Own w0 [] w0 [] := Dk.Own.refl w0
 refine S.enter tb Tryz.func33 rfl Tryz.ntmps33 rfl ?_ hO hm
 refine nl 9 1 ?_
 refine rw_ rfl fun a w hf hO hm => ?_
 obtain ⟨r2, hr2, hm⟩ := ob hm
 refine zo (zj c_58 hf (vs := [str x_s]) rfl) rfl hf rfl rfl (zmo x_s r2 _ (hG.own hF hO) hr2) ?_
 rintro e w' ⟨b3, he, hO'⟩
 refine ⟨_, he, fun a hf => ?_⟩
 have hO := hO.call hO' (by simp [Res.shared])
 refine S.op tb ?_ hf hO hm
 refine vl rfl rfl (fun a w hf hO => zt (vs := [(0, ptr b3 0), (3, str x_s)]) (v := .agg #[ptr b3 0, .slice none 0 0, int 0, str x_s]) hf rfl (by kernel_rfl)) ?_
 refine bo rfl fun b4 => ?_
 refine nl 9 1 ?_
 refine jv 0 [0, 4] [3] (fun J E L => ∃ (p24 : Option Addr) (c25 : Nat) (l26 : List Str) (i27 : Int) (s28 : Str) (s29 : Str) (i30 : Int), J (E) (.row (.slice p24 l26.length c25) 9 1 l26.length (cells zg l26) :: .blk b4 [ptr b3 0, .slice p24 l26.length c25, int i27, str s28] 117 :: .blk b3 [str s29, int i30] 148 :: L) (zh4 x_s l26 i27 s28 s29 i30)) rfl ?_ ?_
 refine lv [0, 4] [3] (fun J E L k => ∃ (p6 : Option Addr) (c7 : Nat) (l8 : List Str) (i9 : Int) (s10 : Str) (s11 : Str) (i12 : Int), J (E) (.row (.slice p6 l8.length c7) 9 1 l8.length (cells zg l8) :: .blk b4 [ptr b3 0, .slice p6 l8.length c7, int i9, str s10] 117 :: .blk b3 [str s11, int i12] 148 :: L) (zed x_s k l8 i9 s10 s11 i12)) rfl (fun _ _ j => ⟨none, 0, [], 0, x_s, r2.f_s, r2.f_at, j rfl⟩) ?_
 rintro n1 a w ⟨p6, c7, l8, i9, s10, s11, i12, hf, hO, hm⟩
 obtain _ | n1 := n1
 rw [zed] at hm
 cases hm
 rw [zed] at hm
 refine S.co tb ?_ hf hO hm
 refine ld 1 rfl rfl ?_
 refine cl c_59 rfl (fun r13 w hr13 hO => zbH (⟨s11, i12⟩ : scan_Scanner) r13 _ (hG.own hF hO) (hO.blkSees (i := 2) rfl) hr13) fun r13 hr13 => ?_
 refine br rfl (fun hc15 => ?_) fun hc15 => ?_
 refine rw_ rfl fun a w hf hO hm => ?_
 obtain ⟨r17, hr17, hm⟩ := ob hm
 have hch20 := (show Dk.Own w0 [] _ ([.blk b4 [ptr b3 0, .slice p6 l8.length c7, int i9, str s10] 117, .blk b3 [str s11, int i12] 148, .row (.slice p6 l8.length c7) 9 1 l8.length (cells zg l8)] ++ [.row (.slice none 0 0) 9 1 0 (cells zg [])]) from hO.choose [1, 2, 0, 3] rfl)
 have hfar20 := Dk.Own.far hch20 rfl hF hG.size
 have hlend20 := hch20.lend (S := []) rfl trivial
 have hcl20 := zkw ((⟨(⟨s11, i12⟩ : scan_Scanner), l8, i9, s10⟩ : commas_splitter)) r17 _ (hG.own hF hO) hfar20 hlend20 hr17
 refine zo (zj c_60 hf (vs := [ptr b4 0]) rfl) rfl hf rfl rfl (hcl20) ?_
 rintro e w' ⟨p18, c19, he, hO'⟩
 refine ⟨_, he, fun a hf => ?_⟩
 have hO := hch20.back rfl hO' rfl
 refine S.op tb ?_ hf hO hm
 refine br rfl (fun hc22 => ?_) fun hc22 => ?_
 refine nl 9 1 ?_
 refine re_ rfl fun a w hf hO hm => ?_
 obtain rfl := Option.some.inj hm
 exact zh Tryz.results33 hf (.tmp rfl (.tmp rfl .nil)) ⟨none, 0, rfl, (hO.sub (.cons_cons _ (.cons _ (.cons _ (.cons _ (.cons _ .slnil))))))⟩
 exact ec [2, 0, 1, 3] rfl rfl rfl fun _ _ j => ⟨_, Nat.lt_succ_self _, p18, c19, r17.2.f_out, r17.2.f_from, r17.2.f_s, r17.2.Scanner.f_s, r17.2.Scanner.f_at, j rfl⟩
 exact en rfl fun _ _ j => ⟨p6, c7, l8, i9, s10, s11, i12, j rfl⟩
 rintro a w ⟨p24, c25, l26, i27, s28, s29, i30, hf, hO, hm⟩
 rw [zh4] at hm
 refine S.co tb ?_ hf hO hm
 refine rw_ rfl fun a w hf hO hm => ?_
 obtain ⟨r31, hr31, hm⟩ := ob hm
 have hch34 := (show Dk.Own w0 [] _ ([.blk b4 [ptr b3 0, .slice p24 l26.length c25, int i27, str s28] 117, .blk b3 [str s29, int i30] 148, .row (.slice p24 l26.length c25) 9 1 l26.length (cells zg l26)] ++ [.row (.slice none 0 0) 9 1 0 (cells zg [])]) from hO.choose [1, 2, 0, 3] rfl)
 have hfar34 := Dk.Own.far hch34 rfl hF hG.size
 have hlend34 := hch34.lend (S := []) rfl trivial
 have hcl34 := zhf ((⟨(⟨s29, i30⟩ : scan_Scanner), l26, i27, s28⟩ : commas_splitter)) (x_s.length : Int) r31 _ (hG.own hF hO) hfar34 hlend34 hr31
 refine zo (zj c_61 hf (vs := [ptr b4 0, int (x_s.length : Int)]) rfl) rfl hf rfl rfl (hcl34) ?_
 rintro e w' ⟨p32, c33, he, hO'⟩
 refine ⟨_, he, fun a hf => ?_⟩
 have hO := hch34.back rfl hO' rfl
 refine S.op tb ?_ hf hO hm
 refine ld 0 rfl rfl ?_
 refine re_ rfl fun a w hf hO hm => ?_
 obtain rfl := Option.some.inj hm
 exact zh Tryz.results33 hf (.tmp rfl (.tmp rfl .nil)) ⟨p32, c33, rfl, (hO.sub (.cons _ (.cons _ (.cons_cons _ (.cons _ .slnil)))))⟩

theorem zbA (x_is : UInt8 → Option Bool) (x_l : List Str) (R : Bool) (w0 : World) (hG : zr w0) {x_is_f : Nat} {x_is_p x_is_c : Array Value} (x_is_k : zc Tryz.prog x_is_f) (x_is_h : ∀ (y0 : UInt8) (r : Bool) (w : World), zr w → x_is y0 = some r → Calls Tryz.prog x_is_f (x_is_p ++ [zac y0].toArray ++ x_is_c) w fun e w' => e = .returned (.bool r) ∧ Below w.heap.size w w') {x_l_p0 : Option Addr} {x_l_c0 : Nat} (hs0 : zD w0 x_l_p0 (cells zg x_l)) (hc0 : x_l.length ≤ x_l_c0) (hm : zbI x_is x_l = some R) :
    Calls Tryz.prog 149 #[.func (.func x_is_f) x_is_p x_is_c, .slice x_l_p0 x_l.length x_l_c0] w0 (Ret w0 (fun R => .bool R) R) := by
 rw [zbI] at hm
 have hF : zs [] := ze
 have hO : Dk.Own w0 [] w0 [] := Dk.Own.refl w0
 have hO := hO.addShr hs0 (by simp [Res.shared])
 refine S.enter tb Tryz.func149 rfl Tryz.ntmps149 rfl ?_ hO hm
 refine lv [0, 8, 9] [0] (fun J E L k => ∃ (i3 : Int), J ((10, int i3) :: E) (L) (zcq x_is x_l k i3)) rfl (fun _ _ j => ⟨0, j rfl⟩) ?_
 rintro n1 a w ⟨i3, hf, hO, hm⟩
 obtain _ | n1 := n1
 rw [zcq] at hm
 cases hm
 rw [zcq] at hm
 refine S.co tb ?_ hf hO hm
 refine br rfl (fun hc5 => ?_) fun hc5 => ?_
 refine rw_ rfl fun a w hf hO hm => ?_
 obtain ⟨x7, hx7, hm⟩ := ob hm
 obtain ⟨b8, o9, hix7, hSx7⟩ := zaD (enc := zg) (sz := 1) (xs := x_l) 42 Tryz.underlying42 zfB (by decide) (fun _ => rfl) (hO.sees (i := 0) rfl) hx7
 refine zR (zi hix7 hf rfl rfl) rfl hf rfl rfl fun a hf => ?_
 refine S.op tb ?_ hf hO hm
 refine vl rfl rfl (fun a w hf hO => zf (o := 0) zX (hSx7 _ (hO.sees (i := 0) rfl)) rfl hf rfl) ?_
 refine lv [0, 6, 8, 9, 10, 15] [0] (fun J E L k => ∃ (i12 : Int), J ((16, int i12) :: E) (L) (zcp (zcq x_is x_l n1) x_is i3 x7 k i12)) rfl (fun _ _ j => ⟨0, j rfl⟩) ?_
 rintro n2 a w ⟨i12, hf, hO, hm⟩
 obtain _ | n2 := n2
 rw [zcp] at hm
 cases hm
 rw [zcp] at hm
 refine S.co tb ?_ hf hO hm
 refine br rfl (fun hc14 => ?_) fun hc14 => ?_
 refine bi rfl fun b17 hb17 => ?_
 refine rw_ rfl fun a w hf hO hm => ?_
 obtain ⟨r18, hr18, hm⟩ := ob hm
 refine oc (zjM x_is_k hf rfl (vs := [zac b17]) rfl) hf rfl (x_is_h b17 r18 _ (hG.own hF hO) hr18) hO fun a w' hf hO => ?_
 refine S.op tb ?_ hf hO hm
 refine br rfl (fun hc20 => ?_) fun hc20 => ?_
 exact rt Tryz.results149 rfl
 refine bi rfl fun i23 hi23 => ?_
 exact en rfl fun _ _ j => ⟨_, Nat.lt_succ_self _, i23, j rfl⟩
 refine bi rfl fun i25 hi25 => ?_
 exact en rfl fun _ _ j => ⟨_, Nat.lt_succ_self _, i25, j rfl⟩
 exact rt Tryz.results149 rfl

end Go.Proofs
end
section
set_option linter.unusedVariables false
set_option maxHeartbeats 1000000
set_option linter.unusedSimpArgs false
set_option maxRecDepth 100000
namespace Go.Proofs
open Go.Dk Go.Dm Go.RowKit

theorem zjG (x_s : Str) (x_c : UInt8) (R : List Str) (w0 : World) (hG : zr w0) (hm : ze2 x_s x_c = some R) :
    Calls Tryz.prog 93 #[str x_s, zac x_c] w0 fun e w' => ∃ (p0 : Option Addr) (c0 : Nat), e = .returned (.slice p0 R.length c0) ∧ Dk.Own w0 [] w' [.row (.slice p0 R.length c0) 9 1 R.length (cells zg R)] := by
 rw [ze2] at hm
 have hF : zs [] := ze
 have hO : Dk.Own w0 [] w0 [] := Dk.Own.refl w0
 refine S.enter tb Tryz.func93 rfl Tryz.ntmps93 rfl ?_ hO hm
 refine nl 9 1 ?_
 refine nl 9 1 ?_
 refine lv [0, 1] [1] (fun J E L k => ∃ (p5 : Option Addr) (c6 : Nat) (l7 : List Str) (i8 : Int) (i9 : Int), J ((5, .slice p5 l7.length c6) :: (6, int i8) :: (7, int i9) :: E) (.row (.slice p5 l7.length c6) 9 1 l7.length (cells zg l7) :: L) (zbp x_s x_c k l7 i8 i9)) rfl (fun _ _ j => ⟨none, 0, [], 0, 0, j rfl⟩) ?_
 rintro n1 a w ⟨p5, c6, l7, i8, i9, hf, hO, hm⟩
 obtain _ | n1 := n1
 rw [zbp] at hm
 cases hm
 rw [zbp] at hm
 refine S.co tb ?_ hf hO hm
 refine br rfl (fun hc11 => ?_) fun hc11 => ?_
 refine jv 3 [0, 1, 7] [1] (fun J E L => ∃ (p23 : Option Addr) (c24 : Nat) (l25 : List Str) (i26 : Int), J ((5, .slice p23 l25.length c24) :: (6, int i26) :: E) (.row (.slice p23 l25.length c24) 9 1 l25.length (cells zg l25) :: L) (ze1 (zbp x_s x_c n1) i9 l25 i26)) rfl ?_ ?_
 refine bi rfl fun b13 hb13 => ?_
 refine vl rfl rfl (fun a w hf hO => zJ (b := b13) (c := x_c) hf rfl rfl) ?_
 refine br rfl (fun hc15 => ?_) fun hc15 => ?_
 refine bi rfl fun s16 hs16 => ?_
 refine rw_ rfl fun a w hf hO hm => ?_
 refine zn (vs := [(0, str s16)]) (cs := [str s16]) (e := 9) (sz := 1) hf rfl rfl (fun w => by kernel_rfl) rfl rfl hO fun a b17 w hf hO => ?_
 refine S.op tb ?_ hf hO hm
 refine rw_ rfl fun a w hf hO hm => ?_
 obtain ⟨hg20, hm⟩ := og hm
 refine zZ zi5 (enc := zg) (xs := l7) (ys := ([s16] : List Str)) (i := 1) (fun _ => rfl) rfl (hO.rowSees (i := 0) rfl) (by simp [cells, zg, Value.oneCell']) hg20 hf rfl rfl rfl hO fun a p18 c19 w hf hO => ?_
 refine S.op tb ?_ hf hO hm
 refine bi rfl fun i22 hi22 => ?_
 exact ec [1, 2] rfl rfl rfl fun _ _ j => ⟨p18, c19, l7 ++ ([s16] : List Str), i22, j rfl⟩
 exact en rfl fun _ _ j => ⟨p5, c6, l7, i8, j rfl⟩
 rintro a w ⟨p23, c24, l25, i26, hf, hO, hm⟩
 rw [ze1] at hm
 refine S.co tb ?_ hf hO hm
 refine bi rfl fun i27 hi27 => ?_
 exact en rfl fun _ _ j => ⟨_, Nat.lt_succ_self _, p23, c24, l25, i26, i27, j rfl⟩
 refine bi rfl fun s29 hs29 => ?_
 refine rw_ rfl fun a w hf hO hm => ?_
 refine zn (vs := [(0, str s29)]) (cs := [str s29]) (e := 9) (sz := 1) hf rfl rfl (fun w => by kernel_rfl) rfl rfl hO fun a b30 w hf hO => ?_
 refine S.op tb ?_ hf hO hm
 refine rw_ rfl fun a w hf hO hm => ?_
 obtain ⟨hg33, hm⟩ := og hm
 refine zZ zi5 (enc := zg) (xs := l7) (ys := ([s29] : List Str)) (i := 1) (fun _ => rfl) rfl (hO.rowSees (i := 0) rfl) (by simp [cells, zg, Value.oneCell']) hg33 hf rfl rfl rfl hO fun a p31 c32 w hf hO => ?_
 refine S.op tb ?_ hf hO hm
 refine re_ rfl fun a w hf hO hm => ?_
 obtain rfl := Option.some.inj hm
 exact zh Tryz.results93 hf (.tmp rfl .nil) ⟨p31, c32, rfl, (hO.sub (.cons _ (.cons_cons _ (.cons _ .slnil))))⟩

theorem zmh (x_b : UInt8) (x_base : Int) (R : Int) (w0 : World) (hG : zr w0) (hm : zdn x_b x_base = some R) :
    Calls Tryz.prog 209 #[zac x_b, int x_base] w0 (Ret w0 (fun R => int R) R) := by
 rw [zdn] at hm
 have hF : zs [] := ze
 have hO : Dk.Own w0 [] w0 [] := Dk.Own.refl w0
 refine S.enter tb Tryz.func209 rfl Tryz.ntmps209 rfl ?_ hO hm
 refine lv [0, 1, 5, 6] [] (fun J E L k => ∃ (i5 : Int), J ((7, int i5) :: E) (L) (zO x_b x_base k i5)) rfl (fun _ _ j => ⟨0, j rfl⟩) ?_
 rintro n1 a w ⟨i5, hf, hO, hm⟩
 obtain _ | n1 := n1
 rw [zO] at hm
 cases hm
 rw [zO] at hm
 refine S.co tb ?_ hf hO hm
 refine br rfl (fun hc7 => ?_) fun hc7 => ?_
 refine jv 5 [0, 1, 5, 6, 7] [] (fun J E L => ∃ (t12 : Bool), J ((24, .bool t12) :: E) (L) (ze3 (zO x_b x_base n1) i5 t12)) rfl ?_ ?_
 refine bi rfl fun b9 hb9 => ?_
 refine vl rfl rfl (fun a w hf hO => zJ (b := b9) (c := x_b) hf rfl rfl) ?_
 refine br rfl (fun hc10 => ?_) fun hc10 => ?_
 exact en rfl fun _ _ j => ⟨true, j rfl⟩
 refine bi rfl fun b11 hb11 => ?_
 refine vl rfl rfl (fun a w hf hO => zJ (b := b11) (c := x_b) hf rfl rfl) ?_
 exact en rfl fun _ _ j => ⟨b11 == x_b, j rfl⟩
 rintro a w ⟨t12, hf, hO, hm⟩
 rw [ze3] at hm
 refine S.co tb ?_ hf hO hm
 refine br rfl (fun hc13 => ?_) fun hc13 => ?_
 exact rt Tryz.results209 rfl
 refine bi rfl fun i16 hi16 => ?_
 exact en rfl fun _ _ j => ⟨_, Nat.lt_succ_self _, i16, j rfl⟩
 exact rt Tryz.results209 rfl

theorem znS (n0 : Nat) : ∀ (x_n : Int) (x_base : Int) (R : Str) (w0 : World) (hG : zr w0) (hm : zb3 n0 x_n x_base = some R),
    Calls Tryz.prog 208 #[int x_n, int x_base] w0 (Ret w0 (fun R => str R) R) := by
  induction n0 with
  | zero => intro x_n x_base R w0 hG  hm; rw [zb3] at hm; cases hm
  | succ n0 ih =>
    intro x_n x_base R w0 hG  hm
    rw [zb3] at hm
    have hF : zs [] := ze
    have hO : Dk.Own w0 [] w0 [] := Dk.Own.refl w0
    refine S.enter tb Tryz.func208 rfl Tryz.ntmps208 rfl ?_ hO hm
    refine br rfl (fun hc4 => ?_) fun hc4 => ?_
    · refine bi rfl fun i5 hi5 => ?_
      refine bi rfl fun s6 hs6 => ?_
      exact rt Tryz.results208 rfl
    · refine rc_ rfl fun a w hf hO hm => ?_
      refine zeP (by kernel_rfl) (by kernel_rfl) hO ?_
      refine zx (fun w hO => zp hf rfl) rfl hf rfl rfl fun a hf => ?_
      refine zx (fun w hO => zp hf rfl) rfl hf rfl rfl fun a hf => ?_
      obtain ⟨i9, hi9, hm⟩ := ob hm
      refine zx (fun w hO => zvt hf rfl rfl hi9) rfl hf rfl rfl fun a hf => ?_
      refine zx (fun w hO => zp hf rfl) rfl hf rfl rfl fun a hf => ?_
      obtain ⟨r10, hr10, hm⟩ := ob hm
      refine ztQ (fun w hO => zj zux hf (vs := [int i9, int x_base]) rfl) rfl hf rfl rfl (fun w hO => (ih i9 x_base r10 _ (hG.own hF hO) hr10).mono fun e w' ⟨he, hb⟩ => ⟨he, hO.grow hb⟩) fun a hf => ?_
      refine zx (fun w hO => zp hf rfl) rfl hf rfl rfl fun a hf => ?_
      refine zx (fun w hO => zp hf rfl) rfl hf rfl rfl fun a hf => ?_
      refine zx (fun w hO => zp hf rfl) rfl hf rfl rfl fun a hf => ?_
      obtain ⟨i11, hi11, hm⟩ := ob hm
      refine zx (fun w hO => ztv hf rfl rfl hi11) rfl hf rfl rfl fun a hf => ?_
      refine zx (fun w hO => zp hf rfl) rfl hf rfl rfl fun a hf => ?_
      refine zx (fun w hO => zp hf rfl) rfl hf rfl rfl fun a hf => ?_
      obtain ⟨i12, hi12, hm⟩ := ob hm
      refine zx (fun w hO => ztv hf rfl rfl hi12) rfl hf rfl rfl fun a hf => ?_
      obtain ⟨i13, hi13, hm⟩ := ob hm
      refine zx (fun w hO => zrl hf rfl rfl hi13) rfl hf rfl rfl fun a hf => ?_
      obtain ⟨s14, hs14, hm⟩ := ob hm
      refine zx (fun w hO => zjL (l := [48, 49, 50, 51, 52, 53, 54, 55, 56, 57, 97, 98, 99, 100, 101, 102]) Tryz.underlying9 hf rfl rfl rfl hs14) rfl hf rfl rfl fun a hf => ?_
      obtain ⟨s15, hs15, hm⟩ := ob hm
      refine zx (fun w hO => zrn (l := r10) (m := s14) hf rfl rfl hs15) rfl hf rfl rfl fun a hf => ?_
      refine zx (fun w hO => z8 hf rfl) rfl hf rfl rfl fun a hf => ?_
      refine wpQuiet_nil ?_
      intro w hO
      refine S.no tb ?_ hf hO hm
      exact rt Tryz.results208 rfl
theorem zi4 (x_n : Int) (x_base : Int) (R : Str) (w0 : World) (hG : zr w0) (hm : zea x_n x_base = some R) :
    Calls Tryz.prog 208 #[int x_n, int x_base] w0 (Ret w0 (fun R => str R) R) :=
  znS fuel x_n x_base R w0 hG  hm

theorem zqz (x_s : Str) (x_base : Int) (R : Str × Bool) (w0 : World) (hG : zr w0) (hm : zhT x_s x_base = some R) :
    Calls Tryz.prog 206 #[str x_s, int x_base] w0 (Ret w0 (fun R => .tuple #[str R.1, .bool R.2]) R) := by
 rw [zhT] at hm
 have hF : zs [] := ze
 have hO : Dk.Own w0 [] w0 [] := Dk.Own.refl w0
 refine S.enter tb Tryz.func206 rfl Tryz.ntmps206 rfl ?_ hO hm
 refine lv [0, 1] [] (fun J E L k => ∃ (s4 : Str) (i5 : Int), J ((6, str s4) :: (7, int i5) :: E) (L) (zaW x_s x_base k s4 i5)) rfl (fun _ _ j => ⟨[], 0, j rfl⟩) ?_
 rintro n1 a w ⟨s4, i5, hf, hO, hm⟩
 obtain _ | n1 := n1
 rw [zaW] at hm
 cases hm
 rw [zaW] at hm
 refine S.co tb ?_ hf hO hm
 refine br rfl (fun hc7 => ?_) fun hc7 => ?_
 refine jv 3 [0, 1, 7] [] (fun J E L => ∃ (s21 : Str), J ((6, str s21) :: E) (L) (ze4 (zaW x_s x_base n1) i5 s21)) rfl ?_ ?_
 refine bi rfl fun b9 hb9 => ?_
 refine cl c_209 rfl (fun r10 w hr10 hO => zmh b9 x_base r10 _ (hG.own hF hO) hr10) fun r10 hr10 => ?_
 refine br rfl (fun hc13 => ?_) fun hc13 => ?_
 exact rt Tryz.results206 rfl
 refine jv 5 [0, 1, 6, 7, 8] [] (fun J E L => ∃ (t17 : Bool), J ((27, .bool t17) :: E) (L) (ze5 (zaW x_s x_base n1) x_base s4 i5 r10 t17)) rfl ?_ ?_
 refine br rfl (fun hc16 => ?_) fun hc16 => ?_
 exact en rfl fun _ _ j => ⟨true, j rfl⟩
 exact en rfl fun _ _ j => ⟨decide (0 < r10), j rfl⟩
 rintro a w ⟨t17, hf, hO, hm⟩
 rw [ze5] at hm
 refine S.co tb ?_ hf hO hm
 refine br rfl (fun hc18 => ?_) fun hc18 => ?_
 refine cl zux rfl (fun r19 w hr19 hO => zi4 r10 x_base r19 _ (hG.own hF hO) hr19) fun r19 hr19 => ?_
 refine bi rfl fun s20 hs20 => ?_
 exact en rfl fun _ _ j => ⟨s20, j rfl⟩
 exact en rfl fun _ _ j => ⟨s4, j rfl⟩
 rintro a w ⟨s21, hf, hO, hm⟩
 rw [ze4] at hm
 refine S.co tb ?_ hf hO hm
 refine bi rfl fun i22 hi22 => ?_
 exact en rfl fun _ _ j => ⟨_, Nat.lt_succ_self _, s21, i22, j rfl⟩
 refine jv 0 [0] [] (fun J E L => ∃ (s26 : Str), J ((6, str s26) :: E) (L) (ze6 x_s s26)) rfl ?_ ?_
 refine br rfl (fun hc25 => ?_) fun hc25 => ?_
 exact en rfl fun _ _ j => ⟨[48], j rfl⟩
 exact en rfl fun _ _ j => ⟨s4, j rfl⟩
 rintro a w ⟨s26, hf, hO, hm⟩
 rw [ze6] at hm
 refine S.co tb ?_ hf hO hm
 exact rt Tryz.results206 rfl

theorem zrS (x_a : Str) (x_b : Str) (R : Bool) (w0 : World) (hG : zr w0) (hm : ziW x_a x_b = some R) :
    Calls Tryz.prog 207 #[str x_a, str x_b] w0 (Ret w0 (fun R => .bool R) R) := by
 rw [ziW] at hm
 have hF : zs [] := ze
 have hO : Dk.Own w0 [] w0 [] := Dk.Own.refl w0
 refine S.enter tb Tryz.func207 rfl Tryz.ntmps207 rfl ?_ hO hm
 refine jv 0 [] [] (fun J E L => ∃ (t4 : Bool), J ((4, .bool t4) :: E) (L) (zcA t4)) rfl ?_ ?_
 refine br rfl (fun hc2 => ?_) fun hc2 => ?_
 exact en rfl fun _ _ j => ⟨true, j rfl⟩
 refine br rfl (fun hc3 => ?_) fun hc3 => ?_
 refine vl rfl rfl (fun a w hf hO => zvA (l := x_a) (m := x_b) hf rfl rfl) ?_
 exact en rfl fun _ _ j => ⟨zn8 x_a x_b, j rfl⟩
 exact en rfl fun _ _ j => ⟨false, j rfl⟩
 rintro a w ⟨t4, hf, hO, hm⟩
 rw [zcA] at hm
 refine S.co tb ?_ hf hO hm
 exact rt Tryz.results207 rfl

theorem zrT (x_s : Str) (x_base : Int) (x_most : Int) (R : Int × Int) (w0 : World) (hG : zr w0) (hm : ziX x_s x_base x_most = some R) :
    Calls Tryz.prog 156 #[str x_s, int x_base, int x_most] w0 (Ret w0 (fun R => .tuple #[int R.1, int R.2]) R) := by
 rw [ziX] at hm
 have hF : zs [] := ze
 have hO : Dk.Own w0 [] w0 [] := Dk.Own.refl w0
 refine S.enter tb Tryz.func156 rfl Tryz.ntmps156 rfl ?_ hO hm
 refine cl c_206 rfl (fun r2 w hr2 hO => zqz x_s x_base r2 _ (hG.own hF hO) hr2) fun r2 hr2 => ?_
 refine br rfl (fun hc5 => ?_) fun hc5 => ?_
 exact rt Tryz.results156 rfl
 refine jv 1 [1, 8] [] (fun J E L => ∃ (t11 : Bool), J ((28, .bool t11) :: E) (L) (zex x_base r2 t11)) rfl ?_ ?_
 refine br rfl (fun hc8 => ?_) fun hc8 => ?_
 exact en rfl fun _ _ j => ⟨true, j rfl⟩
 refine cl zux rfl (fun r9 w hr9 hO => zi4 x_most x_base r9 _ (hG.own hF hO) hr9) fun r9 hr9 => ?_
 refine cl c_207 rfl (fun r10 w hr10 hO => zrS r9 r2.1 r10 _ (hG.own hF hO) hr10) fun r10 hr10 => ?_
 exact en rfl fun _ _ j => ⟨r10, j rfl⟩
 rintro a w ⟨t11, hf, hO, hm⟩
 rw [zex] at hm
 refine S.co tb ?_ hf hO hm
 refine br rfl (fun hc12 => ?_) fun hc12 => ?_
 exact rt Tryz.results156 rfl
 refine lv [1, 8] [] (fun J E L k => ∃ (i17 : Int) (i18 : Int), J ((10, int i17) :: (11, int i18) :: E) (L) (zcB x_base r2 k i17 i18)) rfl (fun _ _ j => ⟨0, 0, j rfl⟩) ?_
 rintro n2 a w ⟨i17, i18, hf, hO, hm⟩
 obtain _ | n2 := n2
 rw [zcB] at hm
 cases hm
 rw [zcB] at hm
 refine S.co tb ?_ hf hO hm
 refine br rfl (fun hc20 => ?_) fun hc20 => ?_
 refine bi rfl fun i22 hi22 => ?_
 refine bi rfl fun b23 hb23 => ?_
 refine cl c_209 rfl (fun r24 w hr24 hO => zmh b23 x_base r24 _ (hG.own hF hO) hr24) fun r24 hr24 => ?_
 refine bi rfl fun i25 hi25 => ?_
 refine bi rfl fun i27 hi27 => ?_
 exact en rfl fun _ _ j => ⟨_, Nat.lt_succ_self _, i25, i27, j rfl⟩
 exact rt Tryz.results156 rfl

theorem zrU (x_n : Int) (x_base : Int) (R : Str) (w0 : World) (hG : zr w0) (hm : ziY x_n x_base = some R) :
    Calls Tryz.prog 157 #[int x_n, int x_base] w0 (Ret w0 (fun R => str R) R) := by
 rw [ziY] at hm
 have hF : zs [] := ze
 have hO : Dk.Own w0 [] w0 [] := Dk.Own.refl w0
 refine S.enter tb Tryz.func157 rfl Tryz.ntmps157 rfl ?_ hO hm
 refine br rfl (fun hc3 => ?_) fun hc3 => ?_
 exact rt Tryz.results157 rfl
 refine cl zux rfl (fun r6 w hr6 hO => zi4 x_n x_base r6 _ (hG.own hF hO) hr6) fun r6 hr6 => ?_
 exact rt Tryz.results157 rfl

theorem zmi (x_s : Str) (x_most : Int) (R : Int) (w0 : World) (hG : zr w0) (hm : zgu x_s x_most = some R) :
    Calls Tryz.prog 102 #[str x_s, int x_most] w0 (Ret w0 (fun R => int R) R) := by
 rw [zgu] at hm
 have hF : zs [] := ze
 have hO : Dk.Own w0 [] w0 [] := Dk.Own.refl w0
 refine S.enter tb Tryz.func102 rfl Tryz.ntmps102 rfl ?_ hO hm
 refine br rfl (fun hc3 => ?_) fun hc3 => ?_
 exact rt Tryz.results102 rfl
 refine cl c_156 rfl (fun r6 w hr6 hO => zrT x_s 10 x_most r6 _ (hG.own hF hO) hr6) fun r6 hr6 => ?_
 refine jv 1 [5] [] (fun J E L => ∃ (t10 : Bool), J ((23, .bool t10) :: E) (L) (zdK r6 t10)) rfl ?_ ?_
 refine br rfl (fun hc8 => ?_) fun hc8 => ?_
 exact en rfl fun _ _ j => ⟨true, j rfl⟩
 refine cl c_157 rfl (fun r9 w hr9 hO => zrU r6.1 10 r9 _ (hG.own hF hO) hr9) fun r9 hr9 => ?_
 exact en rfl fun _ _ j => ⟨!(r9 == x_s), j rfl⟩
 rintro a w ⟨t10, hf, hO, hm⟩
 rw [zdK] at hm
 refine S.co tb ?_ hf hO hm
 refine br rfl (fun hc11 => ?_) fun hc11 => ?_
 exact rt Tryz.results102 rfl
 exact rt Tryz.results102 rfl

theorem zix (x_s : Str) (R : Bool) (w0 : World) (hG : zr w0) (hm : ze7 x_s = some R) :
    Calls Tryz.prog 57 #[str x_s] w0 (Ret w0 (fun R => .bool R) R) := by
 rw [ze7] at hm
 have hF : zs [] := ze
 have hO : Dk.Own w0 [] w0 [] := Dk.Own.refl w0
 refine S.enter tb Tryz.func57 rfl Tryz.ntmps57 rfl ?_ hO hm
 refine rw_ rfl fun a w hf hO hm => ?_
 obtain ⟨r2, hr2, hm⟩ := ob hm
 refine zo (zj c_93 hf (vs := [str x_s, zac 46]) rfl) rfl hf rfl rfl (zjG x_s 46 r2 _ (hG.own hF hO) hr2) ?_
 rintro e w' ⟨p3, c4, he, hO'⟩
 refine ⟨_, he, fun a hf => ?_⟩
 have hO := hO.call hO' (by simp [Res.shared])
 refine S.op tb ?_ hf hO hm
 refine lv [3] [0] (fun J E L k => ∃ (i7 : Int), J ((4, int i7) :: E) (L) (zcC r2 k i7)) rfl (fun _ _ j => ⟨0, j rfl⟩) ?_
 rintro n1 a w ⟨i7, hf, hO, hm⟩
 obtain _ | n1 := n1
 rw [zcC] at hm
 cases hm
 rw [zcC] at hm
 refine S.co tb ?_ hf hO hm
 refine br rfl (fun hc9 => ?_) fun hc9 => ?_
 refine rw_ rfl fun a w hf hO hm => ?_
 obtain ⟨x11, hx11, hm⟩ := ob hm
 obtain ⟨b12, o13, hix11, hSx11, hAx11⟩ := zad (enc := zg) (sz := 1) (xs := r2) 42 Tryz.underlying42 zfB (by decide) (fun _ => rfl) hO (i := 0) rfl hx11
 refine zR (zi hix11 hf rfl rfl) rfl hf rfl rfl fun a hf => ?_
 refine S.op tb ?_ hf hO hm
 refine vl rfl rfl (fun a w hf hO => zf (o := 0) zX (hSx11 _ (hO.rowSees (i := 0) rfl)) rfl hf rfl) ?_
 refine cl c_102 rfl (fun r14 w hr14 hO => zmi x11 255 r14 _ (hG.own hF hO) hr14) fun r14 hr14 => ?_
 refine br rfl (fun hc16 => ?_) fun hc16 => ?_
 exact rt Tryz.results57 rfl
 refine bi rfl fun i19 hi19 => ?_
 exact en rfl fun _ _ j => ⟨_, Nat.lt_succ_self _, i19, j rfl⟩
 exact rt Tryz.results57 rfl

theorem zkx (x_b : UInt8) (x_l : Str) (R : Bool) (w0 : World) (hG : zr w0) (hm : zj4 x_b x_l = some R) :
    Calls Tryz.prog 154 #[zac x_b, str x_l] w0 (Ret w0 (fun R => .bool R) R) := by
 rw [zj4] at hm
 have hF : zs [] := ze
 have hO : Dk.Own w0 [] w0 [] := Dk.Own.refl w0
 refine S.enter tb Tryz.func154 rfl Tryz.ntmps154 rfl ?_ hO hm
 refine lv [0, 1] [] (fun J E L k => ∃ (i3 : Int), J ((5, int i3) :: E) (L) (zhU x_b x_l k i3)) rfl (fun _ _ j => ⟨0, j rfl⟩) ?_
 rintro n1 a w ⟨i3, hf, hO, hm⟩
 obtain _ | n1 := n1
 rw [zhU] at hm
 cases hm
 rw [zhU] at hm
 refine S.co tb ?_ hf hO hm
 refine br rfl (fun hc5 => ?_) fun hc5 => ?_
 refine bi rfl fun b7 hb7 => ?_
 refine vl rfl rfl (fun a w hf hO => zJ (b := b7) (c := x_b) hf rfl rfl) ?_
 refine br rfl (fun hc9 => ?_) fun hc9 => ?_
 exact rt Tryz.results154 rfl
 refine bi rfl fun i12 hi12 => ?_
 exact en rfl fun _ _ j => ⟨_, Nat.lt_succ_self _, i12, j rfl⟩
 exact rt Tryz.results154 rfl

theorem zly (x_b : UInt8) (R : Bool) (w0 : World) (hG : zr w0) (hm : zhs x_b = some R) :
    Calls Tryz.prog 155 #[zac x_b] w0 (Ret w0 (fun R => .bool R) R) := by
 rw [zhs] at hm
 have hF : zs [] := ze
 have hO : Dk.Own w0 [] w0 [] := Dk.Own.refl w0
 refine S.enter tb Tryz.func155 rfl Tryz.ntmps155 rfl ?_ hO hm
 refine cl zut rfl (fun r2 w hr2 hO => zkx x_b [48, 49, 50, 51, 52, 53, 54, 55, 56, 57, 97, 98, 99, 100, 101, 102, 65, 66, 67, 68, 69, 70] r2 _ (hG.own hF hO) hr2) fun r2 hr2 => ?_
 exact rt Tryz.results155 rfl

theorem zmj (x_s : Str) (R : Bool) (w0 : World) (hG : zr w0) (hm : zgv x_s = some R) :
    Calls Tryz.prog 101 #[str x_s] w0 (Ret w0 (fun R => .bool R) R) := by
 rw [zgv] at hm
 have hF : zs [] := ze
 have hO : Dk.Own w0 [] w0 [] := Dk.Own.refl w0
 refine S.enter tb Tryz.func101 rfl Tryz.ntmps101 rfl ?_ hO hm
 refine rw_ rfl fun a w hf hO hm => ?_
 obtain ⟨r2, hr2, hm⟩ := ob hm
 refine zo (zj c_93 hf (vs := [str x_s, zac 58]) rfl) rfl hf rfl rfl (zjG x_s 58 r2 _ (hG.own hF hO) hr2) ?_
 rintro e w' ⟨p3, c4, he, hO'⟩
 refine ⟨_, he, fun a hf => ?_⟩
 have hO := hO.call hO' (by simp [Res.shared])
 refine S.op tb ?_ hf hO hm
 refine lv [3] [0] (fun J E L k => ∃ (i8 : Int) (i9 : Int), J ((4, int i8) :: (5, int i9) :: E) (L) (zak r2 k i8 i9)) rfl (fun _ _ j => ⟨0, 0, j rfl⟩) ?_
 rintro n1 a w ⟨i8, i9, hf, hO, hm⟩
 obtain _ | n1 := n1
 rw [zak] at hm
 cases hm
 rw [zak] at hm
 refine S.co tb ?_ hf hO hm
 refine br rfl (fun hc11 => ?_) fun hc11 => ?_
 refine jv 3 [3, 5] [0] (fun J E L => ∃ (i55 : Int), J ((4, int i55) :: E) (L) (zdL (zak r2 n1) i9 i55)) rfl ?_ ?_
 refine jv 6 [3, 4, 5] [0] (fun J E L => ∃ (t19 : Bool), J ((26, .bool t19) :: E) (L) (zdM (zak r2 n1) r2 i8 i9 t19)) rfl ?_ ?_
 refine bi rfl fun i13 hi13 => ?_
 refine br rfl (fun hc14 => ?_) fun hc14 => ?_
 refine rw_ rfl fun a w hf hO hm => ?_
 obtain ⟨x15, hx15, hm⟩ := ob hm
 obtain ⟨b16, o17, hix15, hSx15, hAx15⟩ := zad (enc := zg) (sz := 1) (xs := r2) 42 Tryz.underlying42 zfB (by decide) (fun _ => rfl) hO (i := 0) rfl hx15
 refine zR (zi hix15 hf rfl rfl) rfl hf rfl rfl fun a hf => ?_
 refine S.op tb ?_ hf hO hm
 refine kn (b' := true) hc14 rfl ?_
 refine vl rfl rfl (fun a w hf hO => zf (o := 0) zX (hSx15 _ (hO.rowSees (i := 0) rfl)) rfl hf rfl) ?_
 refine cl c_57 rfl (fun r18 w hr18 hO => zix x15 r18 _ (hG.own hF hO) hr18) fun r18 hr18 => ?_
 exact en rfl fun _ _ j => ⟨r18, j rfl⟩
 exact en rfl fun _ _ j => ⟨false, j rfl⟩
 rintro a w ⟨t19, hf, hO, hm⟩
 rw [zdM] at hm
 refine S.co tb ?_ hf hO hm
 refine br rfl (fun hc20 => ?_) fun hc20 => ?_
 refine bi rfl fun i21 hi21 => ?_
 exact en rfl fun _ _ j => ⟨i21, j rfl⟩
 refine lv [3, 4, 5] [0] (fun J E L k => ∃ (i25 : Int), J ((6, int i25) :: E) (L) (zb4 (zak r2 n1) r2 i8 i9 k i25)) rfl (fun _ _ j => ⟨0, j rfl⟩) ?_
 rintro n3 a w ⟨i25, hf, hO, hm⟩
 obtain _ | n3 := n3
 rw [zb4] at hm
 cases hm
 rw [zb4] at hm
 refine S.co tb ?_ hf hO hm
 refine rw_ rfl fun a w hf hO hm => ?_
 obtain ⟨x26, hx26, hm⟩ := ob hm
 obtain ⟨b27, o28, hix26, hSx26, hAx26⟩ := zad (enc := zg) (sz := 1) (xs := r2) 42 Tryz.underlying42 zfB (by decide) (fun _ => rfl) hO (i := 0) rfl hx26
 refine zR (zi hix26 hf rfl rfl) rfl hf rfl rfl fun a hf => ?_
 refine S.op tb ?_ hf hO hm
 refine vl rfl rfl (fun a w hf hO => zf (o := 0) zX (hSx26 _ (hO.rowSees (i := 0) rfl)) rfl hf rfl) ?_
 refine br rfl (fun hc30 => ?_) fun hc30 => ?_
 refine rw_ rfl fun a w hf hO hm => ?_
 obtain ⟨x32, hx32, hm⟩ := ob hm
 obtain ⟨b33, o34, hix32, hSx32, hAx32⟩ := zad (enc := zg) (sz := 1) (xs := r2) 42 Tryz.underlying42 zfB (by decide) (fun _ => rfl) hO (i := 0) rfl hx32
 refine zR (zi hix32 hf rfl rfl) rfl hf rfl rfl fun a hf => ?_
 refine S.op tb ?_ hf hO hm
 refine vl rfl rfl (fun a w hf hO => zf (o := 0) zX (hSx32 _ (hO.rowSees (i := 0) rfl)) rfl hf rfl) ?_
 refine bi rfl fun b35 hb35 => ?_
 refine cl zwy rfl (fun r36 w hr36 hO => zly b35 r36 _ (hG.own hF hO) hr36) fun r36 hr36 => ?_
 refine br rfl (fun hc38 => ?_) fun hc38 => ?_
 exact rt Tryz.results101 rfl
 refine bi rfl fun i41 hi41 => ?_
 exact en rfl fun _ _ j => ⟨_, Nat.lt_succ_self _, i41, j rfl⟩
 refine jv 6 [3, 4, 5] [0] (fun J E L => ∃ (t50 : Bool), J ((59, .bool t50) :: E) (L) (ze8 (zak r2 n1) i8 i9 t50)) rfl ?_ ?_
 refine rw_ rfl fun a w hf hO hm => ?_
 obtain ⟨x43, hx43, hm⟩ := ob hm
 obtain ⟨b44, o45, hix43, hSx43, hAx43⟩ := zad (enc := zg) (sz := 1) (xs := r2) 42 Tryz.underlying42 zfB (by decide) (fun _ => rfl) hO (i := 0) rfl hx43
 refine zR (zi hix43 hf rfl rfl) rfl hf rfl rfl fun a hf => ?_
 refine S.op tb ?_ hf hO hm
 refine vl rfl rfl (fun a w hf hO => zf (o := 0) zX (hSx43 _ (hO.rowSees (i := 0) rfl)) rfl hf rfl) ?_
 refine br rfl (fun hc46 => ?_) fun hc46 => ?_
 exact en rfl fun _ _ j => ⟨true, j rfl⟩
 refine rw_ rfl fun a w hf hO hm => ?_
 obtain ⟨x47, hx47, hm⟩ := ob hm
 obtain ⟨b48, o49, hix47, hSx47, hAx47⟩ := zad (enc := zg) (sz := 1) (xs := r2) 42 Tryz.underlying42 zfB (by decide) (fun _ => rfl) hO (i := 0) rfl hx47
 refine zR (zi hix47 hf rfl rfl) rfl hf rfl rfl fun a hf => ?_
 refine S.op tb ?_ hf hO hm
 refine kn (b' := false) hc46 rfl ?_
 refine vl rfl rfl (fun a w hf hO => zf (o := 0) zX (hSx47 _ (hO.rowSees (i := 0) rfl)) rfl hf rfl) ?_
 exact en rfl fun _ _ j => ⟨decide (4 < (x47.length : Int)), j rfl⟩
 rintro a w ⟨t50, hf, hO, hm⟩
 rw [ze8] at hm
 refine S.co tb ?_ hf hO hm
 refine br rfl (fun hc51 => ?_) fun hc51 => ?_
 exact rt Tryz.results101 rfl
 refine bi rfl fun i54 hi54 => ?_
 exact en rfl fun _ _ j => ⟨i54, j rfl⟩
 rintro a w ⟨i55, hf, hO, hm⟩
 rw [zdL] at hm
 refine S.co tb ?_ hf hO hm
 refine bi rfl fun i56 hi56 => ?_
 exact en rfl fun _ _ j => ⟨_, Nat.lt_succ_self _, i55, i56, j rfl⟩
 exact rt Tryz.results101 rfl

end Go.Proofs
end
section
set_option linter.unusedVariables false
set_option maxHeartbeats 1000000
set_option linter.unusedSimpArgs false
set_option maxRecDepth 100000
namespace Go.Proofs
open Go.Dk Go.Dm Go.RowKit

theorem zk1 (x_s : Str) (R : Bool) (w0 : World) (hG : zr w0) (hm : zgw x_s = some R) :
    Calls Tryz.prog 56 #[str x_s] w0 (Ret w0 (fun R => .bool R) R) := by
 rw [zgw] at hm
 have hF : zs [] := ze
 have hO : Dk.Own w0 [] w0 [] := Dk.Own.refl w0
 refine S.enter tb Tryz.func56 rfl Tryz.ntmps56 rfl ?_ hO hm
 refine lv [0] [] (fun J E L k => ∃ (i3 : Int), J ((3, int i3) :: E) (L) (zcv x_s k i3)) rfl (fun _ _ j => ⟨0, j rfl⟩) ?_
 rintro n1 a w ⟨i3, hf, hO, hm⟩
 obtain _ | n1 := n1
 rw [zcv] at hm
 cases hm
 rw [zcv] at hm
 refine S.co tb ?_ hf hO hm
 refine bi rfl fun i4 hi4 => ?_
 refine br rfl (fun hc6 => ?_) fun hc6 => ?_
 refine jv 6 [0, 3] [] (fun J E L => ∃ (t12 : Bool), J ((24, .bool t12) :: E) (L) (zg6 (zcv x_s n1) x_s i3 t12)) rfl ?_ ?_
 refine bi rfl fun b8 hb8 => ?_
 refine vl rfl rfl (fun a w hf hO => zeM (b := b8) (c := 58) hf rfl rfl) ?_
 refine br rfl (fun hc9 => ?_) fun hc9 => ?_
 exact en rfl fun _ _ j => ⟨true, j rfl⟩
 refine bi rfl fun i10 hi10 => ?_
 refine bi rfl fun b11 hb11 => ?_
 refine vl rfl rfl (fun a w hf hO => zeM (b := b11) (c := 58) hf rfl rfl) ?_
 exact en rfl fun _ _ j => ⟨!(b11 == 58), j rfl⟩
 rintro a w ⟨t12, hf, hO, hm⟩
 rw [zg6] at hm
 refine S.co tb ?_ hf hO hm
 refine br rfl (fun hc13 => ?_) fun hc13 => ?_
 refine bi rfl fun i54 hi54 => ?_
 exact en rfl fun _ _ j => ⟨_, Nat.lt_succ_self _, i54, j rfl⟩
 refine lv [0, 3] [] (fun J E L k => ∃ (i16 : Int), J ((4, int i16) :: E) (L) (za1 x_s i3 k i16)) rfl (fun _ _ j => ⟨1, j rfl⟩) ?_
 rintro n3 a w ⟨i16, hf, hO, hm⟩
 obtain _ | n3 := n3
 rw [za1] at hm
 cases hm
 rw [za1] at hm
 refine S.co tb ?_ hf hO hm
 refine br rfl (fun hc18 => ?_) fun hc18 => ?_
 refine bi rfl fun s20 hs20 => ?_
 refine lv [0, 3, 4] [] (fun J E L k => ∃ (s23 : Str) (i24 : Int), J ((5, str s23) :: (6, int i24) :: E) (L) (zcu (za1 x_s i3 n3) x_s i3 i16 k s23 i24)) rfl (fun _ _ j => ⟨s20, 0, j rfl⟩) ?_
 rintro n4 a w ⟨s23, i24, hf, hO, hm⟩
 obtain _ | n4 := n4
 rw [zcu] at hm
 cases hm
 rw [zcu] at hm
 refine S.co tb ?_ hf hO hm
 refine br rfl (fun hc26 => ?_) fun hc26 => ?_
 refine jv 15 [0, 3, 4, 6] [] (fun J E L => ∃ (s31 : Str), J ((5, str s31) :: E) (L) (zg5 (zcu (za1 x_s i3 n3) x_s i3 i16 n4) i24 s31)) rfl ?_ ?_
 refine br rfl (fun hc29 => ?_) fun hc29 => ?_
 refine bi rfl fun s30 hs30 => ?_
 exact en rfl fun _ _ j => ⟨s30, j rfl⟩
 exact en rfl fun _ _ j => ⟨s23, j rfl⟩
 rintro a w ⟨s31, hf, hO, hm⟩
 rw [zg5] at hm
 refine S.co tb ?_ hf hO hm
 refine bi rfl fun s32 hs32 => ?_
 refine bi rfl fun i34 hi34 => ?_
 exact en rfl fun _ _ j => ⟨_, Nat.lt_succ_self _, s32, i34, j rfl⟩
 refine jv 10 [0, 3, 4] [] (fun J E L => ∃ (s44 : Str), J ((5, str s44) :: E) (L) (zfz (za1 x_s i3 n3) i16 s44)) rfl ?_ ?_
 refine bi rfl fun i36 hi36 => ?_
 refine bi rfl fun s37 hs37 => ?_
 refine br rfl (fun hc39 => ?_) fun hc39 => ?_
 refine bi rfl fun s40 hs40 => ?_
 refine bi rfl fun i41 hi41 => ?_
 refine bi rfl fun s42 hs42 => ?_
 refine bi rfl fun s43 hs43 => ?_
 exact en rfl fun _ _ j => ⟨s43, j rfl⟩
 exact en rfl fun _ _ j => ⟨s23, j rfl⟩
 rintro a w ⟨s44, hf, hO, hm⟩
 rw [zfz] at hm
 refine S.co tb ?_ hf hO hm
 refine cl c_101 rfl (fun r45 w hr45 hO => zmj s44 r45 _ (hG.own hF hO) hr45) fun r45 hr45 => ?_
 refine br rfl (fun hc47 => ?_) fun hc47 => ?_
 exact rt Tryz.results56 rfl
 refine bi rfl fun i50 hi50 => ?_
 exact en rfl fun _ _ j => ⟨_, Nat.lt_succ_self _, i50, j rfl⟩
 exact rt Tryz.results56 rfl
 refine cl c_101 rfl (fun r56 w hr56 hO => zmj x_s r56 _ (hG.own hF hO) hr56) fun r56 hr56 => ?_
 exact rt Tryz.results56 rfl

theorem zmu (x_b : UInt8) (R : Bool) (w0 : World) (hG : zr w0) (hm : zdN x_b = some R) :
    Calls Tryz.prog 244 #[zac x_b] w0 (Ret w0 (fun R => .bool R) R) := by
 rw [zdN] at hm
 have hF : zs [] := ze
 have hO : Dk.Own w0 [] w0 [] := Dk.Own.refl w0
 refine S.enter tb Tryz.func244 rfl Tryz.ntmps244 rfl ?_ hO hm
 refine cl zut rfl (fun r2 w hr2 hO => zkx x_b [97, 98, 99, 100, 101, 102, 103, 104, 105, 106, 107, 108, 109, 110, 111, 112, 113, 114, 115, 116, 117, 118, 119, 120, 121, 122, 65, 66, 67, 68, 69, 70, 71, 72, 73, 74, 75, 76, 77, 78, 79, 80, 81, 82, 83, 84, 85, 86, 87, 88, 89, 90, 48, 49, 50, 51, 52, 53, 54, 55, 56, 57, 45, 46, 95, 126] r2 _ (hG.own hF hO) hr2) fun r2 hr2 => ?_
 exact rt Tryz.results244 rfl

theorem zsp (x_b : UInt8) (R : Bool) (w0 : World) (hG : zr w0) (hm : zj5 x_b = some R) :
    Calls Tryz.prog 245 #[zac x_b] w0 (Ret w0 (fun R => .bool R) R) := by
 rw [zj5] at hm
 have hF : zs [] := ze
 have hO : Dk.Own w0 [] w0 [] := Dk.Own.refl w0
 refine S.enter tb Tryz.func245 rfl Tryz.ntmps245 rfl ?_ hO hm
 refine cl zut rfl (fun r2 w hr2 hO => zkx x_b [33, 36, 38, 39, 40, 41, 42, 43, 44, 59, 61] r2 _ (hG.own hF hO) hr2) fun r2 hr2 => ?_
 exact rt Tryz.results245 rfl

theorem zrt (x_s : Str) (R : Bool) (w0 : World) (hG : zr w0) (hm : ziZ x_s = some R) :
    Calls Tryz.prog 205 #[str x_s] w0 (Ret w0 (fun R => .bool R) R) := by
 rw [ziZ] at hm
 have hF : zs [] := ze
 have hO : Dk.Own w0 [] w0 [] := Dk.Own.refl w0
 refine S.enter tb Tryz.func205 rfl Tryz.ntmps205 rfl ?_ hO hm
 refine lv [0] [] (fun J E L k => ∃ (i3 : Int), J ((3, int i3) :: E) (L) (zaf x_s k i3)) rfl (fun _ _ j => ⟨0, j rfl⟩) ?_
 rintro n1 a w ⟨i3, hf, hO, hm⟩
 obtain _ | n1 := n1
 rw [zaf] at hm
 cases hm
 rw [zaf] at hm
 refine S.co tb ?_ hf hO hm
 refine br rfl (fun hc5 => ?_) fun hc5 => ?_
 refine jv 3 [0] [] (fun J E L => ∃ (i34 : Int), J ((3, int i34) :: E) (L) (zey (zaf x_s n1) i34)) rfl ?_ ?_
 refine bi rfl fun b7 hb7 => ?_
 refine vl rfl rfl (fun a w hf hO => zJ (b := b7) (c := 37) hf rfl rfl) ?_
 refine br rfl (fun hc9 => ?_) fun hc9 => ?_
 refine jv 7 [0, 3] [] (fun J E L => ∃ (t19 : Bool), J ((34, .bool t19) :: E) (L) (zbU (zaf x_s n1) i3 t19)) rfl ?_ ?_
 refine bi rfl fun i10 hi10 => ?_
 refine br rfl (fun hc11 => ?_) fun hc11 => ?_
 exact en rfl fun _ _ j => ⟨true, j rfl⟩
 refine bi rfl fun i12 hi12 => ?_
 refine bi rfl fun b13 hb13 => ?_
 refine cl zwy rfl (fun r14 w hr14 hO => zly b13 r14 _ (hG.own hF hO) hr14) fun r14 hr14 => ?_
 refine br rfl (fun hc15 => ?_) fun hc15 => ?_
 exact en rfl fun _ _ j => ⟨true, j rfl⟩
 refine bi rfl fun i16 hi16 => ?_
 refine bi rfl fun b17 hb17 => ?_
 refine cl zwy rfl (fun r18 w hr18 hO => zly b17 r18 _ (hG.own hF hO) hr18) fun r18 hr18 => ?_
 exact en rfl fun _ _ j => ⟨!r18, j rfl⟩
 rintro a w ⟨t19, hf, hO, hm⟩
 rw [zbU] at hm
 refine S.co tb ?_ hf hO hm
 refine br rfl (fun hc20 => ?_) fun hc20 => ?_
 exact rt Tryz.results205 rfl
 refine bi rfl fun i23 hi23 => ?_
 exact en rfl fun _ _ j => ⟨i23, j rfl⟩
 refine jv 5 [0, 3] [] (fun J E L => ∃ (t31 : Bool), J ((48, .bool t31) :: E) (L) (zfN (zaf x_s n1) i3 t31)) rfl ?_ ?_
 refine bi rfl fun b26 hb26 => ?_
 refine cl c_244 rfl (fun r27 w hr27 hO => zmu b26 r27 _ (hG.own hF hO) hr27) fun r27 hr27 => ?_
 refine br rfl (fun hc28 => ?_) fun hc28 => ?_
 refine bi rfl fun b29 hb29 => ?_
 refine cl c_245 rfl (fun r30 w hr30 hO => zsp b29 r30 _ (hG.own hF hO) hr30) fun r30 hr30 => ?_
 exact en rfl fun _ _ j => ⟨!r30, j rfl⟩
 exact en rfl fun _ _ j => ⟨false, j rfl⟩
 rintro a w ⟨t31, hf, hO, hm⟩
 rw [zfN] at hm
 refine S.co tb ?_ hf hO hm
 refine br rfl (fun hc32 => ?_) fun hc32 => ?_
 exact rt Tryz.results205 rfl
 exact en rfl fun _ _ j => ⟨i3, j rfl⟩
 rintro a w ⟨i34, hf, hO, hm⟩
 rw [zey] at hm
 refine S.co tb ?_ hf hO hm
 refine bi rfl fun i35 hi35 => ?_
 exact en rfl fun _ _ j => ⟨_, Nat.lt_succ_self _, i35, j rfl⟩
 exact rt Tryz.results205 rfl

theorem zo8 (x_s : Str) (R : api_Host) (w0 : World) (hG : zr w0) (hm : zj6 x_s = some R) :
    Calls Tryz.prog 152 #[str x_s] w0 (Ret w0 (fun R => .agg #[int R.Kind, str R.Name, int R.Port]) R) := by
 rw [zj6] at hm
 have hF : zs [] := ze
 have hO : Dk.Own w0 [] w0 [] := Dk.Own.refl w0
 refine S.enter tb Tryz.func152 rfl Tryz.ntmps152 rfl ?_ hO hm
 refine al zka rfl fun b1 => ?_
 refine jv 1 [0, 2] [0] (fun J E L => ∃ (t12 : Bool), J ((26, .bool t12) :: E) (L) (zdZ x_s t12)) rfl ?_ ?_
 refine br rfl (fun hc3 => ?_) fun hc3 => ?_
 refine bi rfl fun b4 hb4 => ?_
 refine vl rfl rfl (fun a w hf hO => zJ (b := b4) (c := 91) hf rfl rfl) ?_
 refine br rfl (fun hc5 => ?_) fun hc5 => ?_
 refine bi rfl fun i6 hi6 => ?_
 refine bi rfl fun b7 hb7 => ?_
 refine vl rfl rfl (fun a w hf hO => zJ (b := b7) (c := 93) hf rfl rfl) ?_
 refine br rfl (fun hc8 => ?_) fun hc8 => ?_
 refine bi rfl fun i9 hi9 => ?_
 refine bi rfl fun s10 hs10 => ?_
 refine cl c_56 rfl (fun r11 w hr11 hO => zk1 s10 r11 _ (hG.own hF hO) hr11) fun r11 hr11 => ?_
 exact en rfl fun _ _ j => ⟨r11, j rfl⟩
 exact en rfl fun _ _ j => ⟨false, j rfl⟩
 exact en rfl fun _ _ j => ⟨false, j rfl⟩
 exact en rfl fun _ _ j => ⟨false, j rfl⟩
 rintro a w ⟨t12, hf, hO, hm⟩
 rw [zdZ] at hm
 refine S.co tb ?_ hf hO hm
 refine br rfl (fun hc13 => ?_) fun hc13 => ?_
 refine bi rfl fun i14 hi14 => ?_
 refine bi rfl fun s15 hs15 => ?_
 refine vl rfl rfl (fun a w hf hO => zt (vs := [(0, int 3), (1, str s15), (2, int (-1))]) (v := .agg #[int 3, str s15, int (-1)]) hf rfl (by kernel_rfl)) ?_
 refine st 0 rfl rfl ?_
 refine re_ rfl fun a w hf hO hm => ?_
 obtain rfl := Option.some.inj hm
 exact zh Tryz.results152 hf (.cell rfl (zk (n := 3) (vs := [int 3, str s15, int (-1)]) zih zhX rfl ((hO.blkSees (i := 0) rfl).cells (o := 0) (n := 3) rfl)) .nil) ⟨rfl, hO.below⟩
 refine cl c_57 rfl (fun r18 w hr18 hO => zix x_s r18 _ (hG.own hF hO) hr18) fun r18 hr18 => ?_
 refine br rfl (fun hc20 => ?_) fun hc20 => ?_
 refine vl rfl rfl (fun a w hf hO => zt (vs := [(0, int 2), (1, str x_s), (2, int (-1))]) (v := .agg #[int 2, str x_s, int (-1)]) hf rfl (by kernel_rfl)) ?_
 refine st 0 rfl rfl ?_
 refine re_ rfl fun a w hf hO hm => ?_
 obtain rfl := Option.some.inj hm
 exact zh Tryz.results152 hf (.cell rfl (zk (n := 3) (vs := [int 2, str x_s, int (-1)]) zih zhX rfl ((hO.blkSees (i := 0) rfl).cells (o := 0) (n := 3) rfl)) .nil) ⟨rfl, hO.below⟩
 refine cl c_205 rfl (fun r23 w hr23 hO => zrt x_s r23 _ (hG.own hF hO) hr23) fun r23 hr23 => ?_
 refine br rfl (fun hc25 => ?_) fun hc25 => ?_
 refine vl rfl rfl (fun a w hf hO => zt (vs := [(0, int 1), (1, str x_s), (2, int (-1))]) (v := .agg #[int 1, str x_s, int (-1)]) hf rfl (by kernel_rfl)) ?_
 refine st 0 rfl rfl ?_
 refine re_ rfl fun a w hf hO hm => ?_
 obtain rfl := Option.some.inj hm
 exact zh Tryz.results152 hf (.cell rfl (zk (n := 3) (vs := [int 1, str x_s, int (-1)]) zih zhX rfl ((hO.blkSees (i := 0) rfl).cells (o := 0) (n := 3) rfl)) .nil) ⟨rfl, hO.below⟩
 refine vl rfl rfl (fun a w hf hO => zt (vs := []) (v := .agg #[int 0, str [], int 0]) hf rfl (by kernel_rfl)) ?_
 refine st 0 rfl rfl ?_
 refine re_ rfl fun a w hf hO hm => ?_
 obtain rfl := Option.some.inj hm
 exact zh Tryz.results152 hf (.cell rfl (zk (n := 3) (vs := [int 0, str [], int 0]) zih zhX rfl ((hO.blkSees (i := 0) rfl).cells (o := 0) (n := 3) rfl)) .nil) ⟨rfl, hO.below⟩

theorem zqe (x_s : Str) (R : api_Host × Int) (w0 : World) (hG : zr w0) (hm : zhV x_s = some R) :
    Calls Tryz.prog 94 #[str x_s] w0 (Ret w0 (fun R => .tuple #[.agg #[int R.1.Kind, str R.1.Name, int R.1.Port], int R.2]) R) := by
 rw [zhV] at hm
 have hF : zs [] := ze
 have hO : Dk.Own w0 [] w0 [] := Dk.Own.refl w0
 refine S.enter tb Tryz.func94 rfl Tryz.ntmps94 rfl ?_ hO hm
 refine al zka rfl fun b1 => ?_
 refine cl c_152 rfl (fun r3 w hr3 hO => zo8 x_s r3 _ (hG.own hF hO) hr3) fun r3 hr3 => ?_
 refine al zka rfl fun b4 => ?_
 refine st 0 rfl rfl ?_
 refine ld 0 rfl rfl ?_
 refine br rfl (fun hc7 => ?_) fun hc7 => ?_
 refine ld 0 rfl rfl ?_
 refine st 1 rfl rfl ?_
 refine re_ rfl fun a w hf hO hm => ?_
 obtain rfl := Option.some.inj hm
 exact zh Tryz.results94 hf (.cell rfl (zk (n := 3) (vs := [int r3.Kind, str r3.Name, int r3.Port]) zih zhX rfl ((hO.blkSees (i := 1) rfl).cells (o := 0) (n := 3) rfl)) (.tmp rfl .nil)) ⟨rfl, hO.below⟩
 refine bi rfl fun i10 hi10 => ?_
 refine lv [0, 2, 4] [0, 1] (fun J E L k => ∃ (i12 : Int), J ((5, int i12) :: E) (L) (zcV x_s k i12)) rfl (fun _ _ j => ⟨i10, j rfl⟩) ?_
 rintro n1 a w ⟨i12, hf, hO, hm⟩
 obtain _ | n1 := n1
 rw [zcV] at hm
 cases hm
 rw [zcV] at hm
 refine S.co tb ?_ hf hO hm
 refine br rfl (fun hc14 => ?_) fun hc14 => ?_
 refine bi rfl fun b16 hb16 => ?_
 refine vl rfl rfl (fun a w hf hO => zeM (b := b16) (c := 58) hf rfl rfl) ?_
 refine br rfl (fun hc18 => ?_) fun hc18 => ?_
 refine bi rfl fun i35 hi35 => ?_
 exact en rfl fun _ _ j => ⟨_, Nat.lt_succ_self _, i35, j rfl⟩
 refine bi rfl fun s20 hs20 => ?_
 refine cl c_152 rfl (fun r21 w hr21 hO => zo8 s20 r21 _ (hG.own hF hO) hr21) fun r21 hr21 => ?_
 refine st 0 rfl rfl ?_
 refine bi rfl fun i23 hi23 => ?_
 refine bi rfl fun s24 hs24 => ?_
 refine cl c_102 rfl (fun r25 w hr25 hO => zmi s24 65535 r25 _ (hG.own hF hO) hr25) fun r25 hr25 => ?_
 refine jv 6 [2, 4, 6] [0, 1] (fun J E L => ∃ (t28 : Bool), J ((39, .bool t28) :: E) (L) (ze9 r21 r25 t28)) rfl ?_ ?_
 refine ld 0 rfl rfl ?_
 refine br rfl (fun hc27 => ?_) fun hc27 => ?_
 exact en rfl fun _ _ j => ⟨true, j rfl⟩
 exact en rfl fun _ _ j => ⟨decide (r25 < 0), j rfl⟩
 rintro a w ⟨t28, hf, hO, hm⟩
 rw [ze9] at hm
 refine S.co tb ?_ hf hO hm
 refine br rfl (fun hc29 => ?_) fun hc29 => ?_
 refine vl rfl rfl (fun a w hf hO => zt (vs := []) (v := .agg #[int 0, str [], int 0]) hf rfl (by kernel_rfl)) ?_
 refine st 1 rfl rfl ?_
 refine re_ rfl fun a w hf hO hm => ?_
 obtain rfl := Option.some.inj hm
 exact zh Tryz.results94 hf (.cell rfl (zk (n := 3) (vs := [int 0, str [], int 0]) zih zhX rfl ((hO.blkSees (i := 1) rfl).cells (o := 0) (n := 3) rfl)) (.tmp rfl .nil)) ⟨rfl, hO.below⟩
 refine st 0 rfl rfl ?_
 refine ld 0 rfl rfl ?_
 refine st 1 rfl rfl ?_
 refine re_ rfl fun a w hf hO hm => ?_
 obtain rfl := Option.some.inj hm
 exact zh Tryz.results94 hf (.cell rfl (zk (n := 3) (vs := [int r21.Kind, str r21.Name, int r25]) zih zhX rfl ((hO.blkSees (i := 1) rfl).cells (o := 0) (n := 3) rfl)) (.tmp rfl .nil)) ⟨rfl, hO.below⟩
 refine vl rfl rfl (fun a w hf hO => zt (vs := []) (v := .agg #[int 0, str [], int 0]) hf rfl (by kernel_rfl)) ?_
 refine st 1 rfl rfl ?_
 refine re_ rfl fun a w hf hO hm => ?_
 obtain rfl := Option.some.inj hm
 exact zh Tryz.results94 hf (.cell rfl (zk (n := 3) (vs := [int 0, str [], int 0]) zih zhX rfl ((hO.blkSees (i := 1) rfl).cells (o := 0) (n := 3) rfl)) (.tmp rfl .nil)) ⟨rfl, hO.below⟩

theorem zsq (x_b : UInt8) (R : Bool) (w0 : World) (hG : zr w0) (hm : zj7 x_b = some R) :
    Calls Tryz.prog 100 #[zac x_b] w0 (Ret w0 (fun R => .bool R) R) := by
 rw [zj7] at hm
 have hF : zs [] := ze
 have hO : Dk.Own w0 [] w0 [] := Dk.Own.refl w0
 refine S.enter tb Tryz.func100 rfl Tryz.ntmps100 rfl ?_ hO hm
 refine cl zut rfl (fun r2 w hr2 hO => zkx x_b [97, 98, 99, 100, 101, 102, 103, 104, 105, 106, 107, 108, 109, 110, 111, 112, 113, 114, 115, 116, 117, 118, 119, 120, 121, 122, 65, 66, 67, 68, 69, 70, 71, 72, 73, 74, 75, 76, 77, 78, 79, 80, 81, 82, 83, 84, 85, 86, 87, 88, 89, 90, 48, 49, 50, 51, 52, 53, 54, 55, 56, 57, 33, 35, 36, 37, 38, 39, 42, 43, 45, 46, 94, 95, 96, 124, 126] r2 _ (hG.own hF hO) hr2) fun r2 hr2 => ?_
 exact rt Tryz.results100 rfl

theorem zbO (x_s : Str) (R : Bool) (w0 : World) (hG : zr w0) (hm : zaA x_s = some R) :
    Calls Tryz.prog 55 #[str x_s] w0 (Ret w0 (fun R => .bool R) R) := by
 rw [zaA] at hm
 have hF : zs [] := ze
 have hO : Dk.Own w0 [] w0 [] := Dk.Own.refl w0
 refine S.enter tb Tryz.func55 rfl Tryz.ntmps55 rfl ?_ hO hm
 refine lv [0] [] (fun J E L k => ∃ (i3 : Int), J ((3, int i3) :: E) (L) (zb5 x_s k i3)) rfl (fun _ _ j => ⟨0, j rfl⟩) ?_
 rintro n1 a w ⟨i3, hf, hO, hm⟩
 obtain _ | n1 := n1
 rw [zb5] at hm
 cases hm
 rw [zb5] at hm
 refine S.co tb ?_ hf hO hm
 refine br rfl (fun hc5 => ?_) fun hc5 => ?_
 refine bi rfl fun b7 hb7 => ?_
 refine cl c_100 rfl (fun r8 w hr8 hO => zsq b7 r8 _ (hG.own hF hO) hr8) fun r8 hr8 => ?_
 refine br rfl (fun hc10 => ?_) fun hc10 => ?_
 exact rt Tryz.results55 rfl
 refine bi rfl fun i13 hi13 => ?_
 exact en rfl fun _ _ j => ⟨_, Nat.lt_succ_self _, i13, j rfl⟩
 exact rt Tryz.results55 rfl

theorem zl1 (x_s : Str) (R : Bool) (w0 : World) (hG : zr w0) (hm : zfa x_s = some R) :
    Calls Tryz.prog 95 #[str x_s] w0 (Ret w0 (fun R => .bool R) R) := by
 rw [zfa] at hm
 have hF : zs [] := ze
 have hO : Dk.Own w0 [] w0 [] := Dk.Own.refl w0
 refine S.enter tb Tryz.func95 rfl Tryz.ntmps95 rfl ?_ hO hm
 refine lv [0] [] (fun J E L k => ∃ (i3 : Int), J ((3, int i3) :: E) (L) (zaX x_s k i3)) rfl (fun _ _ j => ⟨0, j rfl⟩) ?_
 rintro n1 a w ⟨i3, hf, hO, hm⟩
 obtain _ | n1 := n1
 rw [zaX] at hm
 cases hm
 rw [zaX] at hm
 refine S.co tb ?_ hf hO hm
 refine br rfl (fun hc5 => ?_) fun hc5 => ?_
 refine jv 5 [0, 3] [] (fun J E L => ∃ (t12 : Bool), J ((25, .bool t12) :: E) (L) (zdO (zaX x_s n1) i3 t12)) rfl ?_ ?_
 refine bi rfl fun b7 hb7 => ?_
 refine vl rfl rfl (fun a w hf hO => zJ (b := b7) (c := 44) hf rfl rfl) ?_
 refine br rfl (fun hc8 => ?_) fun hc8 => ?_
 exact en rfl fun _ _ j => ⟨true, j rfl⟩
 refine bi rfl fun b9 hb9 => ?_
 refine vl rfl rfl (fun a w hf hO => zJ (b := b9) (c := 40) hf rfl rfl) ?_
 refine br rfl (fun hc10 => ?_) fun hc10 => ?_
 exact en rfl fun _ _ j => ⟨true, j rfl⟩
 refine bi rfl fun b11 hb11 => ?_
 refine vl rfl rfl (fun a w hf hO => zJ (b := b11) (c := 41) hf rfl rfl) ?_
 exact en rfl fun _ _ j => ⟨b11 == 41, j rfl⟩
 rintro a w ⟨t12, hf, hO, hm⟩
 rw [zdO] at hm
 refine S.co tb ?_ hf hO hm
 refine br rfl (fun hc13 => ?_) fun hc13 => ?_
 exact rt Tryz.results95 rfl
 refine bi rfl fun i16 hi16 => ?_
 exact en rfl fun _ _ j => ⟨_, Nat.lt_succ_self _, i16, j rfl⟩
 exact rt Tryz.results95 rfl

theorem zjt (x_b : UInt8) (R : Bool) (w0 : World) (hG : zr w0) (hm : zfc x_b = some R) :
    Calls Tryz.prog 153 #[zac x_b] w0 (Ret w0 (fun R => .bool R) R) := by
 rw [zfc] at hm
 have hF : zs [] := ze
 have hO : Dk.Own w0 [] w0 [] := Dk.Own.refl w0
 refine S.enter tb Tryz.func153 rfl Tryz.ntmps153 rfl ?_ hO hm
 refine jv 0 [] [] (fun J E L => ∃ (t4 : Bool), J ((2, .bool t4) :: E) (L) (zfb t4)) rfl ?_ ?_
 refine vl rfl rfl (fun a w hf hO => zkW (b := x_b) (c := 32) hf rfl rfl) ?_
 refine br rfl (fun hc2 => ?_) fun hc2 => ?_
 refine vl rfl rfl (fun a w hf hO => zeM (b := x_b) (c := 127) hf rfl rfl) ?_
 refine br rfl (fun hc3 => ?_) fun hc3 => ?_
 exact en rfl fun _ _ j => ⟨true, j rfl⟩
 refine vl rfl rfl (fun a w hf hO => zJ (b := x_b) (c := 9) hf rfl rfl) ?_
 exact en rfl fun _ _ j => ⟨x_b == 9, j rfl⟩
 refine vl rfl rfl (fun a w hf hO => zJ (b := x_b) (c := 9) hf rfl rfl) ?_
 exact en rfl fun _ _ j => ⟨x_b == 9, j rfl⟩
 rintro a w ⟨t4, hf, hO, hm⟩
 rw [zfb] at hm
 refine S.co tb ?_ hf hO hm
 exact rt Tryz.results153 rfl

theorem zos (x_s : Str) (R : Bool) (w0 : World) (hG : zr w0) (hm : zfO x_s = some R) :
    Calls Tryz.prog 96 #[str x_s] w0 (Ret w0 (fun R => .bool R) R) := by
 rw [zfO] at hm
 have hF : zs [] := ze
 have hO : Dk.Own w0 [] w0 [] := Dk.Own.refl w0
 refine S.enter tb Tryz.func96 rfl Tryz.ntmps96 rfl ?_ hO hm
 refine lv [0] [] (fun J E L k => ∃ (i4 : Int) (i5 : Int), J ((3, int i4) :: (4, int i5) :: E) (L) (zG x_s k i4 i5)) rfl (fun _ _ j => ⟨0, 0, j rfl⟩) ?_
 rintro n1 a w ⟨i4, i5, hf, hO, hm⟩
 obtain _ | n1 := n1
 rw [zG] at hm
 cases hm
 rw [zG] at hm
 refine S.co tb ?_ hf hO hm
 refine br rfl (fun hc7 => ?_) fun hc7 => ?_
 refine jv 3 [0] [] (fun J E L => ∃ (i41 : Int) (i42 : Int), J ((3, int i41) :: (4, int i42) :: E) (L) (zcI (zG x_s n1) i41 i42)) rfl ?_ ?_
 refine bi rfl fun b9 hb9 => ?_
 refine cl zwx rfl (fun r10 w hr10 hO => zjt b9 r10 _ (hG.own hF hO) hr10) fun r10 hr10 => ?_
 refine br rfl (fun hc12 => ?_) fun hc12 => ?_
 exact rt Tryz.results96 rfl
 refine bi rfl fun b15 hb15 => ?_
 refine vl rfl rfl (fun a w hf hO => zJ (b := b15) (c := 92) hf rfl rfl) ?_
 refine br rfl (fun hc17 => ?_) fun hc17 => ?_
 refine bi rfl fun i18 hi18 => ?_
 refine jv 7 [0, 3, 4] [] (fun J E L => ∃ (t23 : Bool), J ((32, .bool t23) :: E) (L) (zdP (zG x_s n1) i4 i18 t23)) rfl ?_ ?_
 refine br rfl (fun hc20 => ?_) fun hc20 => ?_
 exact en rfl fun _ _ j => ⟨true, j rfl⟩
 refine bi rfl fun b21 hb21 => ?_
 refine cl zwx rfl (fun r22 w hr22 hO => zjt b21 r22 _ (hG.own hF hO) hr22) fun r22 hr22 => ?_
 exact en rfl fun _ _ j => ⟨!r22, j rfl⟩
 rintro a w ⟨t23, hf, hO, hm⟩
 rw [zdP] at hm
 refine S.co tb ?_ hf hO hm
 refine br rfl (fun hc24 => ?_) fun hc24 => ?_
 exact rt Tryz.results96 rfl
 exact en rfl fun _ _ j => ⟨i4, i18, j rfl⟩
 refine jv 5 [0, 4] [] (fun J E L => ∃ (i32 : Int), J ((3, int i32) :: E) (L) (zdQ (zG x_s n1) x_s i5 i32)) rfl ?_ ?_
 refine bi rfl fun b28 hb28 => ?_
 refine vl rfl rfl (fun a w hf hO => zJ (b := b28) (c := 40) hf rfl rfl) ?_
 refine br rfl (fun hc30 => ?_) fun hc30 => ?_
 refine bi rfl fun i31 hi31 => ?_
 exact en rfl fun _ _ j => ⟨i31, j rfl⟩
 exact en rfl fun _ _ j => ⟨i4, j rfl⟩
 rintro a w ⟨i32, hf, hO, hm⟩
 rw [zdQ] at hm
 refine S.co tb ?_ hf hO hm
 refine jv 5 [0, 4] [] (fun J E L => ∃ (i37 : Int), J ((3, int i37) :: E) (L) (zbM (zG x_s n1) i5 i37)) rfl ?_ ?_
 refine bi rfl fun b33 hb33 => ?_
 refine vl rfl rfl (fun a w hf hO => zJ (b := b33) (c := 41) hf rfl rfl) ?_
 refine br rfl (fun hc35 => ?_) fun hc35 => ?_
 refine bi rfl fun i36 hi36 => ?_
 exact en rfl fun _ _ j => ⟨i36, j rfl⟩
 exact en rfl fun _ _ j => ⟨i32, j rfl⟩
 rintro a w ⟨i37, hf, hO, hm⟩
 rw [zbM] at hm
 refine S.co tb ?_ hf hO hm
 refine br rfl (fun hc39 => ?_) fun hc39 => ?_
 exact rt Tryz.results96 rfl
 exact en rfl fun _ _ j => ⟨i37, i5, j rfl⟩
 rintro a w ⟨i41, i42, hf, hO, hm⟩
 rw [zcI] at hm
 refine S.co tb ?_ hf hO hm
 refine bi rfl fun i43 hi43 => ?_
 exact en rfl fun _ _ j => ⟨_, Nat.lt_succ_self _, i41, i43, j rfl⟩
 exact rt Tryz.results96 rfl

theorem zqf (x_a0 : Str) (R : api_Via × Int) (w0 : World) (hG : zr w0) (hm : zhW x_a0 = some R) :
    Calls Tryz.prog 52 #[str x_a0] w0 (Ret w0 (fun R => .tuple #[.agg #[str R.1.Proto, str R.1.Version, str R.1.By, str R.1.Comment], int R.2]) R) := by
 rw [zhW] at hm
 have hF : zs [] := ze
 have hO : Dk.Own w0 [] w0 [] := Dk.Own.refl w0
 refine S.enter tb Tryz.func52 rfl Tryz.ntmps52 rfl ?_ hO hm
 refine al zq0 rfl fun b1 => ?_
 refine lv [0, 2] [0] (fun J E L k => ∃ (i4 : Int), J ((4, int i4) :: E) (L) (zbr x_a0 k i4)) rfl (fun _ _ j => ⟨0, j rfl⟩) ?_
 rintro n1 a w ⟨i4, hf, hO, hm⟩
 obtain _ | n1 := n1
 rw [zbr] at hm
 cases hm
 rw [zbr] at hm
 refine S.co tb ?_ hf hO hm
 refine jv 4 [0, 2, 4] [0] (fun J E L => ∃ (t7 : Bool), J ((21, .bool t7) :: E) (L) (zfd (zbr x_a0 n1) x_a0 i4 t7)) rfl ?_ ?_
 refine br rfl (fun hc5 => ?_) fun hc5 => ?_
 refine bi rfl fun b6 hb6 => ?_
 refine vl rfl rfl (fun a w hf hO => zeM (b := b6) (c := 32) hf rfl rfl) ?_
 exact en rfl fun _ _ j => ⟨!(b6 == 32), j rfl⟩
 exact en rfl fun _ _ j => ⟨false, j rfl⟩
 rintro a w ⟨t7, hf, hO, hm⟩
 rw [zfd] at hm
 refine S.co tb ?_ hf hO hm
 refine br rfl (fun hc8 => ?_) fun hc8 => ?_
 refine bi rfl fun i10 hi10 => ?_
 exact en rfl fun _ _ j => ⟨_, Nat.lt_succ_self _, i10, j rfl⟩
 refine br rfl (fun hc13 => ?_) fun hc13 => ?_
 refine vl rfl rfl (fun a w hf hO => zt (vs := []) (v := .agg #[str [], str [], str [], str []]) hf rfl (by kernel_rfl)) ?_
 refine st 0 rfl rfl ?_
 refine re_ rfl fun a w hf hO hm => ?_
 obtain rfl := Option.some.inj hm
 exact zh Tryz.results52 hf (.cell rfl (zk (n := 4) (vs := [str [], str [], str [], str []]) zof znh rfl ((hO.blkSees (i := 0) rfl).cells (o := 0) (n := 4) rfl)) (.tmp rfl .nil)) ⟨rfl, hO.below⟩
 refine bi rfl fun i16 hi16 => ?_
 refine lv [0, 2, 4] [0] (fun J E L k => ∃ (i18 : Int), J ((5, int i18) :: E) (L) (zaG x_a0 i4 k i18)) rfl (fun _ _ j => ⟨i16, j rfl⟩) ?_
 rintro n3 a w ⟨i18, hf, hO, hm⟩
 obtain _ | n3 := n3
 rw [zaG] at hm
 cases hm
 rw [zaG] at hm
 refine S.co tb ?_ hf hO hm
 refine jv 4 [0, 2, 4, 5] [0] (fun J E L => ∃ (t21 : Bool), J ((40, .bool t21) :: E) (L) (zcW (zaG x_a0 i4 n3) x_a0 i4 i18 t21)) rfl ?_ ?_
 refine br rfl (fun hc19 => ?_) fun hc19 => ?_
 refine bi rfl fun b20 hb20 => ?_
 refine vl rfl rfl (fun a w hf hO => zeM (b := b20) (c := 32) hf rfl rfl) ?_
 exact en rfl fun _ _ j => ⟨!(b20 == 32), j rfl⟩
 exact en rfl fun _ _ j => ⟨false, j rfl⟩
 rintro a w ⟨t21, hf, hO, hm⟩
 rw [zcW] at hm
 refine S.co tb ?_ hf hO hm
 refine br rfl (fun hc22 => ?_) fun hc22 => ?_
 refine bi rfl fun i24 hi24 => ?_
 exact en rfl fun _ _ j => ⟨_, Nat.lt_succ_self _, i24, j rfl⟩
 refine rc_ rfl fun a w hf hO hm => ?_
 obtain ⟨s26, hs26, hm⟩ := ob hm
 obtain ⟨i27, hi27, hm⟩ := ob hm
 obtain ⟨s28, hs28, hm⟩ := ob hm
 refine zav (S := Nat) (E0 := [(0, str x_a0), (2, ptr b1 0), (4, int i4), (5, int i18)]) (by kernel_rfl) (fun k σ w => match k with | 0 => Dk.Own w0 [] w [.blk b1 [str [], str [], str [], str []] 46] | 1 => Dk.Own w0 [] w [.blk σ [str [], str [], str [], str []] 46, .blk b1 [str [], str [], str [], str []] 46] | _ => Dk.Own w0 [] w [.blk σ [str [], str s26, str s28, str []] 46, .blk b1 [str [], str [], str [], str []] 46]) (fun σ => [⟨[(0, str x_a0)], some (43, str x_a0)⟩, ⟨[(4, int i4)], some (44, int i4)⟩, ⟨[(43, str x_a0), (44, int i4)], some (45, str s26)⟩, ⟨[(0, str x_a0)], some (46, str x_a0)⟩, ⟨[(4, int i4)], some (47, int i4)⟩, ⟨[(47, int i4)], some (48, int i27)⟩, ⟨[(5, int i18)], some (49, int i18)⟩, ⟨[(46, str x_a0), (48, int i27), (49, int i18)], some (50, str s28)⟩, ⟨[(45, str s26), (50, str s28)], some (51, .agg #[str [], str s26, str s28, str []])⟩, ⟨[], some (6, ptr σ 0)⟩, ⟨[(6, ptr σ 0), (51, .agg #[str [], str s26, str s28, str []])], none⟩]) (0) [9, 10] rfl (fun _ => rfl) (fun _ => rfl) (fun _ => rfl) rfl rfl (by decide) rfl hO.drew (hf.cons rfl (hf.cons rfl (hf.cons rfl (hf.cons rfl hf.nil)))) (fun σ => ⟨⟨rfl, trivial⟩, ⟨rfl, trivial⟩, ⟨rfl, rfl, trivial⟩, ⟨rfl, trivial⟩, ⟨rfl, trivial⟩, ⟨rfl, trivial⟩, ⟨rfl, trivial⟩, ⟨rfl, rfl, rfl, trivial⟩, ⟨rfl, rfl, trivial⟩, trivial, ⟨rfl, rfl, trivial⟩, trivial⟩) ⟨zd rfl (fun σ => rfl) (fun σ => rfl) (fun σ a w k _ _ _ _ hf => zp hf rfl), zd rfl (fun σ => rfl) (fun σ => rfl) (fun σ a w k _ _ _ _ hf => zp hf rfl), zd rfl (fun σ => rfl) (fun σ => rfl) (fun σ a w k _ _ _ _ hf => zhx (l := x_a0) Tryz.underlying9 hf rfl rfl hs26), zd rfl (fun σ => rfl) (fun σ => rfl) (fun σ a w k _ _ _ _ hf => zp hf rfl), zd rfl (fun σ => rfl) (fun σ => rfl) (fun σ a w k _ _ _ _ hf => zp hf rfl), zd rfl (fun σ => rfl) (fun σ => rfl) (fun σ a w k _ _ _ _ hf => zrl hf rfl rfl hi27), zd rfl (fun σ => rfl) (fun σ => rfl) (fun σ a w k _ _ _ _ hf => zp hf rfl), zd rfl (fun σ => rfl) (fun σ => rfl) (fun σ a w k _ _ _ _ hf => zjL (l := x_a0) Tryz.underlying9 hf rfl rfl rfl hs28), zd rfl (fun σ => rfl) (fun σ => rfl) (fun σ a w k _ _ _ _ hf => zt (vs := [(1, str s26), (2, str s28)]) (v := .agg #[str [], str s26, str s28, str []]) hf rfl (by kernel_rfl)), zfC rfl (fun σ => rfl) (fun σ => rfl) rfl (fun σ w (hO : Dk.Own w0 [] w _) => by obtain ⟨b29, w', hO', hr⟩ := zvk (E := []) zq0 hO; exact ⟨(b29), w', hO', ⟨.inr rfl, .inr rfl, .inr rfl, .inr rfl, .inr rfl, .inr rfl, .inr rfl, .inr rfl, .inr rfl, .inl rfl, .inl rfl, trivial⟩, hr⟩), zbC rfl (fun σ => rfl) (fun σ => rfl) rfl (fun σ w (hO : Dk.Own w0 [] w _) => by obtain ⟨w', hO', hr⟩ := zeq (x := (.tmp 6)) (y := (.tmp 51)) (E := [(6, ptr σ 0), (51, .agg #[str [], str s26, str s28, str []])]) (i := 0) (n := 4) (vs := [str [], str s26, str s28, str []]) znh rfl rfl rfl (by simp [Value.oneCell']) hO rfl rfl; exact ⟨(σ), w', hO', ⟨.inr rfl, .inr rfl, .inr rfl, .inr rfl, .inr rfl, .inr rfl, .inr rfl, .inr rfl, .inr rfl, .inr rfl, .inr rfl, trivial⟩, hr⟩), trivial⟩ ?_
 rintro b29 a w hf hO
 have hO : Dk.Own w0 [] w _ := hO
 have hf : Fits 149 [(0, str x_a0), (2, ptr b1 0), (4, int i4), (5, int i18), (6, ptr b29 0)] a := (hf.cons rfl (hf.cons rfl (hf.cons rfl (hf.cons rfl (hf.cons rfl hf.nil)))))
 refine S.no tb ?_ hf hO hm
 refine bi rfl fun s31 hs31 => ?_
 refine rw_ rfl fun a w hf hO hm => ?_
 obtain ⟨r32, hr32, hm⟩ := ob hm
 refine zo (zj c_93 hf (vs := [str s31, zac 47]) rfl) rfl hf rfl rfl (zjG s31 47 r32 _ (hG.own hF hO) hr32) ?_
 rintro e w' ⟨p33, c34, he, hO'⟩
 refine ⟨_, he, fun a hf => ?_⟩
 have hO := hO.call hO' (by simp [Res.shared])
 refine S.op tb ?_ hf hO hm
 refine jv 0 [0, 2, 5, 6, 7] [0, 2] (fun J E L => ∃ (s45 : Str) (s46 : Str), J (E) (.blk b29 [str s45, str s46, str s28, str []] 46 :: L) (zbq x_a0 i18 s28 r32 s45 s46)) rfl ?_ ?_
 refine br rfl (fun hc37 => ?_) fun hc37 => ?_
 refine rw_ rfl fun a w hf hO hm => ?_
 obtain ⟨x38, hx38, hm⟩ := ob hm
 obtain ⟨b39, o40, hix38, hSx38, hAx38⟩ := zad (enc := zg) (sz := 1) (xs := r32) 42 Tryz.underlying42 zfB (by decide) (fun _ => rfl) hO (i := 0) rfl hx38
 refine zR (zi hix38 hf rfl rfl) rfl hf rfl rfl fun a hf => ?_
 refine S.op tb ?_ hf hO hm
 refine vl rfl rfl (fun a w hf hO => zf (o := 0) zX (hSx38 _ (hO.rowSees (i := 0) rfl)) rfl hf rfl) ?_
 refine st 1 rfl rfl ?_
 refine rw_ rfl fun a w hf hO hm => ?_
 obtain ⟨x42, hx42, hm⟩ := ob hm
 obtain ⟨b43, o44, hix42, hSx42, hAx42⟩ := zad (enc := zg) (sz := 1) (xs := r32) 42 Tryz.underlying42 zfB (by decide) (fun _ => rfl) hO (i := 0) rfl hx42
 refine zR (zi hix42 hf rfl rfl) rfl hf rfl rfl fun a hf => ?_
 refine S.op tb ?_ hf hO hm
 refine vl rfl rfl (fun a w hf hO => zf (o := 0) zX (hSx42 _ (hO.rowSees (i := 0) rfl)) rfl hf rfl) ?_
 refine st 1 rfl rfl ?_
 exact ec [1, 0, 2] rfl rfl rfl fun _ _ j => ⟨x38, x42, j rfl⟩
 exact ec [1, 0, 2] rfl rfl rfl fun _ _ j => ⟨[], s26, j rfl⟩
 rintro a w ⟨s45, s46, hf, hO, hm⟩
 rw [zbq] at hm
 refine S.co tb ?_ hf hO hm
 refine ld 0 rfl rfl ?_
 refine cl c_94 rfl (fun r47 w hr47 hO => zqe s28 r47 _ (hG.own hF hO) hr47) fun r47 hr47 => ?_
 refine al zka rfl fun b48 => ?_
 refine st 0 rfl rfl ?_
 refine jv 1 [0, 2, 5, 6] [0, 1, 2, 3] (fun J E L => ∃ (t68 : Bool), J ((107, .bool t68) :: E) (L) (zP x_a0 i18 s28 s45 s46 t68)) rfl ?_ ?_
 refine br rfl (fun hc50 => ?_) fun hc50 => ?_
 exact en rfl fun _ _ j => ⟨true, j rfl⟩
 refine br rfl (fun hc51 => ?_) fun hc51 => ?_
 refine ld 1 rfl rfl ?_
 refine cl zr0 rfl (fun r52 w hr52 hO => zbO s45 r52 _ (hG.own hF hO) hr52) fun r52 hr52 => ?_
 refine br rfl (fun hc53 => ?_) fun hc53 => ?_
 exact en rfl fun _ _ j => ⟨true, j rfl⟩
 refine ld 1 rfl rfl ?_
 refine cl zr0 rfl (fun r54 w hr54 hO => zbO s46 r54 _ (hG.own hF hO) hr54) fun r54 hr54 => ?_
 refine br rfl (fun hc55 => ?_) fun hc55 => ?_
 exact en rfl fun _ _ j => ⟨true, j rfl⟩
 refine br rfl (fun hc56 => ?_) fun hc56 => ?_
 refine ld 1 rfl rfl ?_
 refine cl zr0 rfl (fun r57 w hr57 hO => zbO s28 r57 _ (hG.own hF hO) hr57) fun r57 hr57 => ?_
 exact en rfl fun _ _ j => ⟨!r57, j rfl⟩
 refine ld 1 rfl rfl ?_
 refine cl c_95 rfl (fun r58 w hr58 hO => zl1 s28 r58 _ (hG.own hF hO) hr58) fun r58 hr58 => ?_
 refine br rfl (fun hc59 => ?_) fun hc59 => ?_
 refine ld 1 rfl rfl ?_
 refine cl zr0 rfl (fun r60 w hr60 hO => zbO s28 r60 _ (hG.own hF hO) hr60) fun r60 hr60 => ?_
 exact en rfl fun _ _ j => ⟨!r60, j rfl⟩
 exact en rfl fun _ _ j => ⟨false, j rfl⟩
 refine ld 1 rfl rfl ?_
 refine cl zr0 rfl (fun r61 w hr61 hO => zbO s46 r61 _ (hG.own hF hO) hr61) fun r61 hr61 => ?_
 refine br rfl (fun hc62 => ?_) fun hc62 => ?_
 exact en rfl fun _ _ j => ⟨true, j rfl⟩
 refine br rfl (fun hc63 => ?_) fun hc63 => ?_
 refine ld 1 rfl rfl ?_
 refine cl zr0 rfl (fun r64 w hr64 hO => zbO s28 r64 _ (hG.own hF hO) hr64) fun r64 hr64 => ?_
 exact en rfl fun _ _ j => ⟨!r64, j rfl⟩
 refine ld 1 rfl rfl ?_
 refine cl c_95 rfl (fun r65 w hr65 hO => zl1 s28 r65 _ (hG.own hF hO) hr65) fun r65 hr65 => ?_
 refine br rfl (fun hc66 => ?_) fun hc66 => ?_
 refine ld 1 rfl rfl ?_
 refine cl zr0 rfl (fun r67 w hr67 hO => zbO s28 r67 _ (hG.own hF hO) hr67) fun r67 hr67 => ?_
 exact en rfl fun _ _ j => ⟨!r67, j rfl⟩
 exact en rfl fun _ _ j => ⟨false, j rfl⟩
 rintro a w ⟨t68, hf, hO, hm⟩
 rw [zP] at hm
 refine S.co tb ?_ hf hO hm
 refine br rfl (fun hc69 => ?_) fun hc69 => ?_
 refine vl rfl rfl (fun a w hf hO => zt (vs := []) (v := .agg #[str [], str [], str [], str []]) hf rfl (by kernel_rfl)) ?_
 refine st 3 rfl rfl ?_
 refine re_ rfl fun a w hf hO hm => ?_
 obtain rfl := Option.some.inj hm
 exact zh Tryz.results52 hf (.cell rfl (zk (n := 4) (vs := [str [], str [], str [], str []]) zof znh rfl ((hO.blkSees (i := 3) rfl).cells (o := 0) (n := 4) rfl)) (.tmp rfl .nil)) ⟨rfl, hO.below⟩
 refine br rfl (fun hc73 => ?_) fun hc73 => ?_
 refine ld 1 rfl rfl ?_
 refine st 3 rfl rfl ?_
 refine re_ rfl fun a w hf hO hm => ?_
 obtain rfl := Option.some.inj hm
 exact zh Tryz.results52 hf (.cell rfl (zk (n := 4) (vs := [str s45, str s46, str s28, str []]) zof znh rfl ((hO.blkSees (i := 3) rfl).cells (o := 0) (n := 4) rfl)) (.tmp rfl .nil)) ⟨rfl, hO.below⟩
 refine bi rfl fun i76 hi76 => ?_
 refine bi rfl fun s77 hs77 => ?_
 refine jv 1 [2, 6, 10, 11] [0, 1, 2, 3] (fun J E L => ∃ (t89 : Bool), J ((141, .bool t89) :: E) (L) (zb6 s28 s45 s46 s77 t89)) rfl ?_ ?_
 refine br rfl (fun hc80 => ?_) fun hc80 => ?_
 exact en rfl fun _ _ j => ⟨true, j rfl⟩
 refine bi rfl fun b81 hb81 => ?_
 refine vl rfl rfl (fun a w hf hO => zeM (b := b81) (c := 40) hf rfl rfl) ?_
 refine br rfl (fun hc82 => ?_) fun hc82 => ?_
 exact en rfl fun _ _ j => ⟨true, j rfl⟩
 refine bi rfl fun i83 hi83 => ?_
 refine bi rfl fun b84 hb84 => ?_
 refine vl rfl rfl (fun a w hf hO => zeM (b := b84) (c := 41) hf rfl rfl) ?_
 refine br rfl (fun hc85 => ?_) fun hc85 => ?_
 exact en rfl fun _ _ j => ⟨true, j rfl⟩
 refine bi rfl fun i86 hi86 => ?_
 refine bi rfl fun s87 hs87 => ?_
 refine cl c_96 rfl (fun r88 w hr88 hO => zos s87 r88 _ (hG.own hF hO) hr88) fun r88 hr88 => ?_
 exact en rfl fun _ _ j => ⟨!r88, j rfl⟩
 rintro a w ⟨t89, hf, hO, hm⟩
 rw [zb6] at hm
 refine S.co tb ?_ hf hO hm
 refine br rfl (fun hc90 => ?_) fun hc90 => ?_
 refine vl rfl rfl (fun a w hf hO => zt (vs := []) (v := .agg #[str [], str [], str [], str []]) hf rfl (by kernel_rfl)) ?_
 refine st 3 rfl rfl ?_
 refine re_ rfl fun a w hf hO hm => ?_
 obtain rfl := Option.some.inj hm
 exact zh Tryz.results52 hf (.cell rfl (zk (n := 4) (vs := [str [], str [], str [], str []]) zof znh rfl ((hO.blkSees (i := 3) rfl).cells (o := 0) (n := 4) rfl)) (.tmp rfl .nil)) ⟨rfl, hO.below⟩
 refine bi rfl fun i93 hi93 => ?_
 refine bi rfl fun s94 hs94 => ?_
 refine st 1 rfl rfl ?_
 refine ld 1 rfl rfl ?_
 refine st 3 rfl rfl ?_
 refine re_ rfl fun a w hf hO hm => ?_
 obtain rfl := Option.some.inj hm
 exact zh Tryz.results52 hf (.cell rfl (zk (n := 4) (vs := [str s45, str s46, str s28, str s94]) zof znh rfl ((hO.blkSees (i := 3) rfl).cells (o := 0) (n := 4) rfl)) (.tmp rfl .nil)) ⟨rfl, hO.below⟩

end Go.Proofs
end
section
set_option linter.unusedVariables false
set_option maxHeartbeats 1000000
set_option linter.unusedSimpArgs false
set_option maxRecDepth 100000
namespace Go.Proofs
open Go.Dk Go.Dm Go.RowKit

theorem zga (x_b : UInt8) (R : Bool) (w0 : World) (hG : zr w0) (hm : zeu x_b = some R) :
    Calls Tryz.prog 202 #[zac x_b] w0 (Ret w0 (fun R => .bool R) R) := by
 rw [zeu] at hm
 have hF : zs [] := ze
 have hO : Dk.Own w0 [] w0 [] := Dk.Own.refl w0
 refine S.enter tb Tryz.func202 rfl Tryz.ntmps202 rfl ?_ hO hm
 refine jv 0 [] [] (fun J E L => ∃ (t5 : Bool), J ((2, .bool t5) :: E) (L) (zfn t5)) rfl ?_ ?_
 refine cl ztd rfl (fun r2 w hr2 hO => zer x_b r2 _ (hG.own hF hO) hr2) fun r2 hr2 => ?_
 refine vl rfl rfl (fun a w hf hO => zkW (b := r2) (c := 97) hf rfl rfl) ?_
 refine br rfl (fun hc3 => ?_) fun hc3 => ?_
 refine cl ztd rfl (fun r4 w hr4 hO => zer x_b r4 _ (hG.own hF hO) hr4) fun r4 hr4 => ?_
 refine vl rfl rfl (fun a w hf hO => zmP (b := r4) (c := 122) hf rfl rfl) ?_
 exact en rfl fun _ _ j => ⟨decide (r4 ≤ 122), j rfl⟩
 exact en rfl fun _ _ j => ⟨false, j rfl⟩
 rintro a w ⟨t5, hf, hO, hm⟩
 rw [zfn] at hm
 refine S.co tb ?_ hf hO hm
 exact rt Tryz.results202 rfl

theorem zc9 (x_b : UInt8) (R : Bool) (w0 : World) (hG : zr w0) (hm : zaK x_b = some R) :
    Calls Tryz.prog 182 #[zac x_b] w0 (Ret w0 (fun R => .bool R) R) := by
 rw [zaK] at hm
 have hF : zs [] := ze
 have hO : Dk.Own w0 [] w0 [] := Dk.Own.refl w0
 refine S.enter tb Tryz.func182 rfl Tryz.ntmps182 rfl ?_ hO hm
 refine jv 0 [] [] (fun J E L => ∃ (t3 : Bool), J ((2, .bool t3) :: E) (L) (zfo t3)) rfl ?_ ?_
 refine vl rfl rfl (fun a w hf hO => zkW (b := x_b) (c := 48) hf rfl rfl) ?_
 refine br rfl (fun hc2 => ?_) fun hc2 => ?_
 refine vl rfl rfl (fun a w hf hO => zmP (b := x_b) (c := 57) hf rfl rfl) ?_
 exact en rfl fun _ _ j => ⟨decide (x_b ≤ 57), j rfl⟩
 exact en rfl fun _ _ j => ⟨false, j rfl⟩
 rintro a w ⟨t3, hf, hO, hm⟩
 rw [zfo] at hm
 refine S.co tb ?_ hf hO hm
 exact rt Tryz.results182 rfl

theorem zjp (x_b : UInt8) (x_l : Str) (R : Bool) (w0 : World) (hG : zr w0) (hm : ziB x_b x_l = some R) :
    Calls Tryz.prog 203 #[zac x_b, str x_l] w0 (Ret w0 (fun R => .bool R) R) := by
 rw [ziB] at hm
 have hF : zs [] := ze
 have hO : Dk.Own w0 [] w0 [] := Dk.Own.refl w0
 refine S.enter tb Tryz.func203 rfl Tryz.ntmps203 rfl ?_ hO hm
 refine cl zq3 rfl (fun r2 w hr2 hO => zbu x_l x_b r2 _ (hG.own hF hO) hr2) fun r2 hr2 => ?_
 exact rt Tryz.results203 rfl

theorem zkI (x_b : UInt8) (R : Bool) (w0 : World) (hG : zr w0) (hm : zcy x_b = some R) :
    Calls Tryz.prog 150 #[zac x_b] w0 (Ret w0 (fun R => .bool R) R) := by
 rw [zcy] at hm
 have hF : zs [] := ze
 have hO : Dk.Own w0 [] w0 [] := Dk.Own.refl w0
 refine S.enter tb Tryz.func150 rfl Tryz.ntmps150 rfl ?_ hO hm
 refine jv 0 [] [] (fun J E L => ∃ (t7 : Bool), J ((2, .bool t7) :: E) (L) (zdF t7)) rfl ?_ ?_
 refine cl zuv rfl (fun r2 w hr2 hO => zga x_b r2 _ (hG.own hF hO) hr2) fun r2 hr2 => ?_
 refine br rfl (fun hc3 => ?_) fun hc3 => ?_
 exact en rfl fun _ _ j => ⟨true, j rfl⟩
 refine cl zq2 rfl (fun r4 w hr4 hO => zc9 x_b r4 _ (hG.own hF hO) hr4) fun r4 hr4 => ?_
 refine br rfl (fun hc5 => ?_) fun hc5 => ?_
 exact en rfl fun _ _ j => ⟨true, j rfl⟩
 refine cl zuw rfl (fun r6 w hr6 hO => zjp x_b [33, 35, 36, 37, 38, 39, 42, 43, 45, 46, 94, 95, 96, 124, 126] r6 _ (hG.own hF hO) hr6) fun r6 hr6 => ?_
 exact en rfl fun _ _ j => ⟨r6, j rfl⟩
 rintro a w ⟨t7, hf, hO, hm⟩
 rw [zdF] at hm
 refine S.co tb ?_ hf hO hm
 exact rt Tryz.results150 rfl

theorem zhI (x_s : Str) (R : Bool) (w0 : World) (hG : zr w0) (hm : zdX x_s = some R) :
    Calls Tryz.prog 90 #[str x_s] w0 (Ret w0 (fun R => .bool R) R) := by
 rw [zdX] at hm
 have hF : zs [] := ze
 have hO : Dk.Own w0 [] w0 [] := Dk.Own.refl w0
 refine S.enter tb Tryz.func90 rfl Tryz.ntmps90 rfl ?_ hO hm
 refine jv 0 [] [] (fun J E L => ∃ (t5 : Bool), J ((2, .bool t5) :: E) (L) (zeR t5)) rfl ?_ ?_
 refine br rfl (fun hc2 => ?_) fun hc2 => ?_
 refine rw_ rfl fun a w hf hO hm => ?_
 refine zn (vs := [(0, str x_s)]) (cs := [str x_s]) (e := 9) (sz := 1) hf rfl rfl (fun w => by kernel_rfl) rfl rfl hO fun a b3 w hf hO => ?_
 refine S.op tb ?_ hf hO hm
 refine kn (b' := true) hc2 rfl ?_
 refine cl zkK rfl (fun r4 w hr4 hO => zbA zcy ([x_s] : List Str) r4 _ (hG.own hF hO) c_150 (fun y0 r w hG h => zgc (zkI y0 r w hG h)) (hO.rowSees (i := 0) rfl) (hO.rowCap (i := 0) rfl) hr4) fun r4 hr4 => ?_
 exact ec [] rfl rfl rfl fun _ _ j => ⟨r4, j rfl⟩
 exact en rfl fun _ _ j => ⟨false, j rfl⟩
 rintro a w ⟨t5, hf, hO, hm⟩
 rw [zeR] at hm
 refine S.co tb ?_ hf hO hm
 exact rt Tryz.results90 rfl

theorem zoE (x_l : List Str) (R : List Str × Int) (w0 : World) (hG : zr w0) {x_l_p0 : Option Addr} {x_l_c0 : Nat} (hs0 : zD w0 x_l_p0 (cells zg x_l)) (hc0 : x_l.length ≤ x_l_c0) (hm : zjz x_l = some R) :
    Calls Tryz.prog 124 #[.slice x_l_p0 x_l.length x_l_c0] w0 fun e w' => ∃ (p0 : Option Addr) (c0 : Nat), e = .returned (.tuple #[.slice p0 R.1.length c0, int R.2]) ∧ Dk.Own w0 [] w' [.row (.slice p0 R.1.length c0) 9 1 R.1.length (cells zg R.1)] := by
 rw [zjz] at hm
 have hF : zs [] := ze
 have hO : Dk.Own w0 [] w0 [] := Dk.Own.refl w0
 have hO := hO.addShr hs0 (by simp [Res.shared])
 refine S.enter tb Tryz.func124 rfl Tryz.ntmps124 rfl ?_ hO hm
 refine nl 9 1 ?_
 refine nl 9 1 ?_
 refine lv [11, 12] [1, 2] (fun J E L k => ∃ (p4 : Option Addr) (c5 : Nat) (l6 : List Str) (i7 : Int), J ((4, .slice p4 l6.length c5) :: (13, int i7) :: E) (.row (.slice p4 l6.length c5) 9 1 l6.length (cells zg l6) :: L) (zcF x_l k l6 i7)) rfl (fun _ _ j => ⟨none, 0, [], 0, j rfl⟩) ?_
 rintro n1 a w ⟨p4, c5, l6, i7, hf, hO, hm⟩
 obtain _ | n1 := n1
 rw [zcF] at hm
 cases hm
 rw [zcF] at hm
 refine S.co tb ?_ hf hO hm
 refine br rfl (fun hc9 => ?_) fun hc9 => ?_
 refine rw_ rfl fun a w hf hO hm => ?_
 obtain ⟨x11, hx11, hm⟩ := ob hm
 obtain ⟨b12, o13, hix11, hSx11⟩ := zaD (enc := zg) (sz := 1) (xs := x_l) 42 Tryz.underlying42 zfB (by decide) (fun _ => rfl) (hO.sees (i := 2) rfl) hx11
 refine zR (zi hix11 hf rfl rfl) rfl hf rfl rfl fun a hf => ?_
 refine S.op tb ?_ hf hO hm
 refine vl rfl rfl (fun a w hf hO => zf (o := 0) zX (hSx11 _ (hO.sees (i := 2) rfl)) rfl hf rfl) ?_
 refine rw_ rfl fun a w hf hO hm => ?_
 obtain ⟨r15, hr15, hm⟩ := ob hm
 refine zo (zj c_33 hf (vs := [str x11]) rfl) rfl hf rfl rfl (zpF x11 r15 _ (hG.own hF hO) hr15) ?_
 rintro e w' ⟨p16, c17, he, hO'⟩
 refine ⟨_, he, fun a hf => ?_⟩
 have hO := hO.call hO' (by simp [Res.shared])
 refine S.op tb ?_ hf hO hm
 refine br rfl (fun hc20 => ?_) fun hc20 => ?_
 refine nl 9 1 ?_
 refine re_ rfl fun a w hf hO hm => ?_
 obtain rfl := Option.some.inj hm
 exact zh Tryz.results124 hf (.tmp rfl (.tmp rfl .nil)) ⟨none, 0, rfl, (hO.sub (.cons_cons _ (.cons _ (.cons _ (.cons _ (.cons _ .slnil))))))⟩
 refine lv [4, 7, 11, 12, 13, 25, 26] [0, 1, 2, 3] (fun J E L k => ∃ (i24 : Int), J ((27, int i24) :: E) (L) (zdG (zcF x_l n1) l6 i7 r15 k i24)) rfl (fun _ _ j => ⟨0, j rfl⟩) ?_
 rintro n2 a w ⟨i24, hf, hO, hm⟩
 obtain _ | n2 := n2
 rw [zdG] at hm
 cases hm
 rw [zdG] at hm
 refine S.co tb ?_ hf hO hm
 refine br rfl (fun hc26 => ?_) fun hc26 => ?_
 refine rw_ rfl fun a w hf hO hm => ?_
 obtain ⟨x28, hx28, hm⟩ := ob hm
 obtain ⟨b29, o30, hix28, hSx28, hAx28⟩ := zad (enc := zg) (sz := 1) (xs := r15.1) 42 Tryz.underlying42 zfB (by decide) (fun _ => rfl) hO (i := 0) rfl hx28
 refine zR (zi hix28 hf rfl rfl) rfl hf rfl rfl fun a hf => ?_
 refine S.op tb ?_ hf hO hm
 refine vl rfl rfl (fun a w hf hO => zf (o := 0) zX (hSx28 _ (hO.rowSees (i := 0) rfl)) rfl hf rfl) ?_
 refine cl c_90 rfl (fun r32 w hr32 hO => zhI x28 r32 _ (hG.own hF hO) hr32) fun r32 hr32 => ?_
 refine br rfl (fun hc34 => ?_) fun hc34 => ?_
 refine nl 9 1 ?_
 refine re_ rfl fun a w hf hO hm => ?_
 obtain rfl := Option.some.inj hm
 exact zh Tryz.results124 hf (.tmp rfl (.tmp rfl .nil)) ⟨none, 0, rfl, (hO.sub (.cons_cons _ (.cons _ (.cons _ (.cons _ (.cons _ .slnil))))))⟩
 refine bi rfl fun i37 hi37 => ?_
 exact en rfl fun _ _ j => ⟨_, Nat.lt_succ_self _, i37, j rfl⟩
 refine rw_ rfl fun a w hf hO hm => ?_
 obtain ⟨hg41, hm⟩ := og hm
 refine zhm zi5 (enc := zg) (xs := l6) (ys := r15.1) (i := 1) (fun _ => rfl) rfl (hO.rowSees (i := 0) rfl) (by simp [zg, Value.oneCell']) hg41 hf rfl rfl rfl hO fun a p39 c40 w hf hO => ?_
 refine S.op tb ?_ hf hO hm
 refine bi rfl fun i43 hi43 => ?_
 exact ec [1, 2, 3] rfl rfl rfl fun _ _ j => ⟨_, Nat.lt_succ_self _, p39, c40, l6 ++ r15.1, i43, j rfl⟩
 refine re_ rfl fun a w hf hO hm => ?_
 obtain rfl := Option.some.inj hm
 exact zh Tryz.results124 hf (.tmp rfl (.tmp rfl .nil)) ⟨p4, c5, rfl, (hO.sub (.cons_cons _ (.cons _ (.cons _ .slnil))))⟩

theorem zhu (x_s : List Str) (x_v : Str) (R : Int) (w0 : World) (hG : zr w0) {x_s_p0 : Option Addr} {x_s_c0 : Nat} (hs0 : zD w0 x_s_p0 (cells zg x_s)) (hc0 : x_s.length ≤ x_s_c0) (hm : zcb x_s x_v = some R) :
    Calls Tryz.prog 178 #[.slice x_s_p0 x_s.length x_s_c0, str x_v] w0 (Ret w0 (fun R => int R) R) := by
 rw [zcb] at hm
 have hF : zs [] := ze
 have hO : Dk.Own w0 [] w0 [] := Dk.Own.refl w0
 have hO := hO.addShr hs0 (by simp [Res.shared])
 refine S.enter tb Tryz.func178 rfl Tryz.ntmps178 rfl ?_ hO hm
 refine lv [0, 1, 7] [0] (fun J E L k => ∃ (i3 : Int), J ((8, int i3) :: E) (L) (zag x_s x_v k i3)) rfl (fun _ _ j => ⟨0, j rfl⟩) ?_
 rintro n1 a w ⟨i3, hf, hO, hm⟩
 obtain _ | n1 := n1
 rw [zag] at hm
 cases hm
 rw [zag] at hm
 refine S.co tb ?_ hf hO hm
 refine br rfl (fun hc5 => ?_) fun hc5 => ?_
 refine rw_ rfl fun a w hf hO hm => ?_
 obtain ⟨x8, hx8, hm⟩ := ob hm
 obtain ⟨b9, o10, hix8, hSx8⟩ := zaD (enc := zg) (sz := 1) (xs := x_s) 42 Tryz.underlying42 zfB (by decide) (fun _ => rfl) (hO.sees (i := 0) rfl) hx8
 refine zR (zi hix8 hf rfl rfl) rfl hf rfl rfl fun a hf => ?_
 refine S.op tb ?_ hf hO hm
 refine vl rfl rfl (fun a w hf hO => zf (o := 0) zX (hSx8 _ (hO.sees (i := 0) rfl)) rfl hf rfl) ?_
 refine br rfl (fun hc12 => ?_) fun hc12 => ?_
 exact rt Tryz.results178 rfl
 refine bi rfl fun i15 hi15 => ?_
 exact en rfl fun _ _ j => ⟨_, Nat.lt_succ_self _, i15, j rfl⟩
 exact rt Tryz.results178 rfl

theorem zgz (x_s : List Str) (x_v : Str) (R : Bool) (w0 : World) (hG : zr w0) {x_s_p0 : Option Addr} {x_s_c0 : Nat} (hs0 : zD w0 x_s_p0 (cells zg x_s)) (hc0 : x_s.length ≤ x_s_c0) (hm : zbB x_s x_v = some R) :
    Calls Tryz.prog 125 #[.slice x_s_p0 x_s.length x_s_c0, str x_v] w0 (Ret w0 (fun R => .bool R) R) := by
 rw [zbB] at hm
 have hF : zs [] := ze
 have hO : Dk.Own w0 [] w0 [] := Dk.Own.refl w0
 have hO := hO.addShr hs0 (by simp [Res.shared])
 refine S.enter tb Tryz.func125 rfl Tryz.ntmps125 rfl ?_ hO hm
 refine cl c_178 rfl (fun r2 w hr2 hO => zhu x_s x_v r2 _ (hG.own hF hO) (hO.sees (i := 0) rfl) hc0 hr2) fun r2 hr2 => ?_
 exact rt Tryz.results125 rfl

theorem zoF (x_l : List api_Field) (R : List Str) (w0 : World) (hG : zr w0) {x_l_p0 : Option Addr} {x_l_c0 : Nat} (hs0 : zD w0 x_l_p0 (cells za x_l)) (hc0 : x_l.length ≤ x_l_c0) (hm : zjA x_l = some R) :
    Calls Tryz.prog 74 #[.slice x_l_p0 x_l.length x_l_c0] w0 fun e w' => ∃ (p0 : Option Addr) (c0 : Nat), e = .returned (.slice p0 R.length c0) ∧ Dk.Own w0 [] w' [.row (.slice p0 R.length c0) 9 1 R.length (cells zg R)] := by
 rw [zjA] at hm
 have hF : zs [] := ze
 have hO : Dk.Own w0 [] w0 [] := Dk.Own.refl w0
 have hO := hO.addShr hs0 (by simp [Res.shared])
 refine S.enter tb Tryz.func74 rfl Tryz.ntmps74 rfl ?_ hO hm
 refine nl 9 1 ?_
 refine nl 9 1 ?_
 refine rw_ rfl fun a w hf hO hm => ?_
 obtain ⟨r3, hr3, hm⟩ := ob hm
 refine zo (zj zta hf (vs := [.slice x_l_p0 x_l.length x_l_c0]) rfl) rfl hf rfl rfl (zgk x_l r3 _ (hG.own hF hO) (hO.sees (i := 2) rfl) hc0 hr3) ?_
 rintro e w' ⟨b4, p5, c6, he, hO'⟩
 refine ⟨_, he, fun a hf => ?_⟩
 have hO := hO.call hO' (by simp [Res.shared])
 refine S.op tb ?_ hf hO hm
 refine rw_ rfl fun a w hf hO hm => ?_
 obtain ⟨r7, hr7, hm⟩ := ob hm
 refine zo (zj c_123 hf (vs := [ptr b4 0, str [67, 111, 110, 110, 101, 99, 116, 105, 111, 110]]) rfl) rfl hf rfl rfl (zjI r3 [67, 111, 110, 110, 101, 99, 116, 105, 111, 110] r7 _ (hG.own hF hO) (hO.blkSees (i := 0) rfl) (hO.rowSees (i := 1) rfl) (hO.rowCap (i := 1) rfl) hr7) ?_
 rintro e w' ⟨p8, c9, he, hO'⟩
 refine ⟨_, he, fun a hf => ?_⟩
 have hO := hO.call hO' (by simp [Res.shared])
 refine S.op tb ?_ hf hO hm
 refine ch [3, 0, 1, 2, 4, 5] rfl rfl ?_
 refine lv [12, 13] [1, 2, 3, 4, 5] (fun J E L k => ∃ (p11 : Option Addr) (c12 : Nat) (l13 : List Str) (i14 : Int), J ((3, .slice p11 l13.length c12) :: (14, int i14) :: E) (.row (.slice p11 l13.length c12) 9 1 l13.length (cells zg l13) :: L) (zbc r7 k l13 i14)) rfl (fun _ _ j => ⟨none, 0, [], 0, j rfl⟩) ?_
 rintro n1 a w ⟨p11, c12, l13, i14, hf, hO, hm⟩
 obtain _ | n1 := n1
 rw [zbc] at hm
 cases hm
 rw [zbc] at hm
 refine S.co tb ?_ hf hO hm
 refine br rfl (fun hc16 => ?_) fun hc16 => ?_
 refine rw_ rfl fun a w hf hO hm => ?_
 obtain ⟨x18, hx18, hm⟩ := ob hm
 obtain ⟨b19, o20, hix18, hSx18, hAx18⟩ := zad (enc := zg) (sz := 1) (xs := r7) 42 Tryz.underlying42 zfB (by decide) (fun _ => rfl) hO (i := 1) rfl hx18
 refine zR (zi hix18 hf rfl rfl) rfl hf rfl rfl fun a hf => ?_
 refine S.op tb ?_ hf hO hm
 refine vl rfl rfl (fun a w hf hO => zf (o := 0) zX (hSx18 _ (hO.rowSees (i := 1) rfl)) rfl hf rfl) ?_
 refine rw_ rfl fun a w hf hO hm => ?_
 refine zn (vs := [(0, str x18)]) (cs := [str x18]) (e := 9) (sz := 1) hf rfl rfl (fun w => by kernel_rfl) rfl rfl hO fun a b22 w hf hO => ?_
 refine S.op tb ?_ hf hO hm
 refine rw_ rfl fun a w hf hO hm => ?_
 obtain ⟨r23, hr23, hm⟩ := ob hm
 refine zo (zj c_124 hf (vs := [.slice (some ⟨b22, 0, none⟩) (([x18] : List Str).length) 1]) rfl) rfl hf rfl rfl (zoE ([x18] : List Str) r23 _ (hG.own hF hO) (hO.rowSees (i := 0) rfl) (hO.rowCap (i := 0) rfl) hr23) ?_
 rintro e w' ⟨p24, c25, he, hO'⟩
 refine ⟨_, he, fun a hf => ?_⟩
 have hO := hO.call hO' (by simp [Res.shared])
 refine S.op tb ?_ hf hO hm
 refine ch [2, 0, 1, 3, 4, 5, 6, 7] rfl rfl ?_
 refine lv [12, 13, 14, 24, 25] [1, 2, 3, 4, 5, 6, 7] (fun J E L k => ∃ (p28 : Option Addr) (c29 : Nat) (l30 : List Str) (i31 : Int), J ((3, .slice p28 l30.length c29) :: (26, int i31) :: E) (.row (.slice p28 l30.length c29) 9 1 l30.length (cells zg l30) :: L) (zbb (zbc r7 n1) i14 r23 k l30 i31)) rfl (fun _ _ j => ⟨p11, c12, l13, 0, j rfl⟩) ?_
 rintro n2 a w ⟨p28, c29, l30, i31, hf, hO, hm⟩
 obtain _ | n2 := n2
 rw [zbb] at hm
 cases hm
 rw [zbb] at hm
 refine S.co tb ?_ hf hO hm
 refine br rfl (fun hc33 => ?_) fun hc33 => ?_
 refine jv 7 [12, 13, 14, 24, 25, 26] [1, 2, 3, 4, 5, 6, 7] (fun J E L => ∃ (p49 : Option Addr) (c50 : Nat) (l51 : List Str), J ((3, .slice p49 l51.length c50) :: E) (.row (.slice p49 l51.length c50) 9 1 l51.length (cells zg l51) :: L) (zfp (zbb (zbc r7 n1) i14 r23 n2) i31 l51)) rfl ?_ ?_
 refine rw_ rfl fun a w hf hO hm => ?_
 obtain ⟨x35, hx35, hm⟩ := ob hm
 obtain ⟨b36, o37, hix35, hSx35, hAx35⟩ := zad (enc := zg) (sz := 1) (xs := r23.1) 42 Tryz.underlying42 zfB (by decide) (fun _ => rfl) hO (i := 1) rfl hx35
 refine zR (zi hix35 hf rfl rfl) rfl hf rfl rfl fun a hf => ?_
 refine S.op tb ?_ hf hO hm
 refine vl rfl rfl (fun a w hf hO => zf (o := 0) zX (hSx35 _ (hO.rowSees (i := 1) rfl)) rfl hf rfl) ?_
 refine cl ztW rfl (fun r39 w hr39 hO => zd1 x35 r39 _ (hG.own hF hO) hr39) fun r39 hr39 => ?_
 refine jv 9 [3, 9, 12, 13, 14, 24, 25, 26] [0, 1, 2, 3, 4, 5, 6, 7] (fun J E L => ∃ (t43 : Bool), J ((39, .bool t43) :: E) (L) (zfq (zbb (zbc r7 n1) i14 r23 n2) l30 i31 r39 t43)) rfl ?_ ?_
 refine br rfl (fun hc41 => ?_) fun hc41 => ?_
 refine cl c_125 rfl (fun r42 w hr42 hO => zgz l30 r39 r42 _ (hG.own hF hO) (hO.rowSees (i := 0) rfl) (hO.rowCap (i := 0) rfl) hr42) fun r42 hr42 => ?_
 exact en rfl fun _ _ j => ⟨!r42, j rfl⟩
 exact en rfl fun _ _ j => ⟨false, j rfl⟩
 rintro a w ⟨t43, hf, hO, hm⟩
 rw [zfq] at hm
 refine S.co tb ?_ hf hO hm
 refine br rfl (fun hc44 => ?_) fun hc44 => ?_
 refine rw_ rfl fun a w hf hO hm => ?_
 refine zn (vs := [(0, str r39)]) (cs := [str r39]) (e := 9) (sz := 1) hf rfl rfl (fun w => by kernel_rfl) rfl rfl hO fun a b45 w hf hO => ?_
 refine S.op tb ?_ hf hO hm
 refine rw_ rfl fun a w hf hO hm => ?_
 obtain ⟨hg48, hm⟩ := og hm
 refine zZ zi5 (enc := zg) (xs := l30) (ys := ([r39] : List Str)) (i := 1) (fun _ => rfl) rfl (hO.rowSees (i := 0) rfl) (by simp [cells, zg, Value.oneCell']) hg48 hf rfl rfl rfl hO fun a p46 c47 w hf hO => ?_
 refine S.op tb ?_ hf hO hm
 exact ec [1, 2, 3, 4, 5, 6, 7, 8] rfl rfl rfl fun _ _ j => ⟨p46, c47, l30 ++ ([r39] : List Str), j rfl⟩
 exact en rfl fun _ _ j => ⟨p28, c29, l30, j rfl⟩
 rintro a w ⟨p49, c50, l51, hf, hO, hm⟩
 rw [zfp] at hm
 refine S.co tb ?_ hf hO hm
 refine bi rfl fun i52 hi52 => ?_
 exact en rfl fun _ _ j => ⟨_, Nat.lt_succ_self _, p49, c50, l51, i52, j rfl⟩
 refine bi rfl fun i54 hi54 => ?_
 exact ec [0, 3, 4, 5, 6, 7] rfl rfl rfl fun _ _ j => ⟨_, Nat.lt_succ_self _, p28, c29, l30, i54, j rfl⟩
 refine re_ rfl fun a w hf hO hm => ?_
 obtain rfl := Option.some.inj hm
 exact zh Tryz.results74 hf (.tmp rfl .nil) ⟨p11, c12, rfl, (hO.sub (.cons_cons _ (.cons _ (.cons _ (.cons _ (.cons _ (.cons _ .slnil)))))))⟩

theorem zs1 (R : List Str) (w0 : World) (hG : zr w0) (hm : znM = some R) :
    Calls Tryz.prog 75 #[] w0 fun e w' => ∃ (p0 : Option Addr) (c0 : Nat), e = .returned (.slice p0 R.length c0) ∧ Dk.Own w0 [] w' [.row (.slice p0 R.length c0) 9 1 R.length (cells zg R)] := by
 rw [znM] at hm
 have hF : zs [] := ze
 have hO : Dk.Own w0 [] w0 [] := Dk.Own.refl w0
 refine S.enter tb Tryz.func75 rfl Tryz.ntmps75 rfl ?_ hO hm
 refine nl 9 1 ?_
 refine rw_ rfl fun a w hf hO hm => ?_
 refine zn (vs := [(0, str [99, 111, 110, 110, 101, 99, 116, 105, 111, 110]), (1, str [99, 111, 110, 116, 101, 110, 116, 45, 108, 101, 110, 103, 116, 104]), (2, str [107, 101, 101, 112, 45, 97, 108, 105, 118, 101]), (3, str [112, 114, 111, 120, 121, 45, 99, 111, 110, 110, 101, 99, 116, 105, 111, 110]), (4, str [116, 101]), (5, str [116, 114, 97, 105, 108, 101, 114]), (6, str [116, 114, 97, 110, 115, 102, 101, 114, 45, 101, 110, 99, 111, 100, 105, 110, 103]), (7, str [117, 112, 103, 114, 97, 100, 101])]) (cs := [str [99, 111, 110, 110, 101, 99, 116, 105, 111, 110], str [99, 111, 110, 116, 101, 110, 116, 45, 108, 101, 110, 103, 116, 104], str [107, 101, 101, 112, 45, 97, 108, 105, 118, 101], str [112, 114, 111, 120, 121, 45, 99, 111, 110, 110, 101, 99, 116, 105, 111, 110], str [116, 101], str [116, 114, 97, 105, 108, 101, 114], str [116, 114, 97, 110, 115, 102, 101, 114, 45, 101, 110, 99, 111, 100, 105, 110, 103], str [117, 112, 103, 114, 97, 100, 101]]) (e := 9) (sz := 1) hf rfl rfl (fun w => by kernel_rfl) rfl rfl hO fun a b2 w hf hO => ?_
 refine S.op tb ?_ hf hO hm
 refine re_ rfl fun a w hf hO hm => ?_
 obtain rfl := Option.some.inj hm
 exact zh Tryz.results75 hf (.tmp rfl .nil) ⟨some ⟨b2, 0, none⟩, 8, rfl, (hO.sub (.cons_cons _ (.cons _ .slnil)))⟩

end Go.Proofs
end
section
set_option linter.unusedVariables false
set_option maxHeartbeats 1000000
set_option linter.unusedSimpArgs false
set_option maxRecDepth 100000
namespace Go.Proofs
open Go.Dk Go.Dm Go.RowKit

theorem zsB (x_s : Str) (x_k0 : Str) (R : Bool) (w0 : World) (hG : zr w0) {x_k0_b0 : Nat} (hs0 : zD w0 (some ⟨x_k0_b0, 0, none⟩) [str x_k0]) (hm : znN x_s x_k0 = some R) :
    Calls Tryz.prog 177 #[str x_s, ptr x_k0_b0 0] w0 (Ret w0 (fun R => .bool R) R) := by
 rw [znN] at hm
 have hF : zs [] := ze
 have hO : Dk.Own w0 [] w0 [] := Dk.Own.refl w0
 have hO := hO.addShr hs0 (by simp [Res.shared])
 refine S.enter tb Tryz.func177 rfl Tryz.ntmps177 rfl ?_ hO hm
 refine ld 0 rfl rfl ?_
 refine cl c_72 rfl (fun r2 w hr2 hO => zfh x_s x_k0 r2 _ (hG.own hF hO) hr2) fun r2 hr2 => ?_
 exact rt Tryz.results177 rfl

theorem zeJ (x_s : List Str) (x_f_k0 : Str) (R : Int) (w0 : World) (hG : zr w0) {x_s_p0 : Option Addr} {x_s_c0 : Nat} (hs0 : zD w0 x_s_p0 (cells zg x_s)) (hc0 : x_s.length ≤ x_s_c0) {x_f_k0_b1 : Nat} (hs1 : zD w0 (some ⟨x_f_k0_b1, 0, none⟩) [str x_f_k0]) (hm : zaQ x_s x_f_k0 = some R) :
    Calls Tryz.prog 220 #[.slice x_s_p0 x_s.length x_s_c0, .func (.func 177) #[] #[ptr x_f_k0_b1 0]] w0 (Ret w0 (fun R => int R) R) := by
 rw [zaQ] at hm
 have hF : zs [] := ze
 have hO : Dk.Own w0 [] w0 [] := Dk.Own.refl w0
 have hO := hO.addShr hs0 (by simp [Res.shared])
 have hO := hO.addShr hs1 (by simp [Res.shared])
 refine S.enter tb Tryz.func220 rfl Tryz.ntmps220 rfl ?_ hO hm
 refine lv [0, 1, 7] [0, 1] (fun J E L k => ∃ (i3 : Int), J ((8, int i3) :: E) (L) (zN x_s x_f_k0 k i3)) rfl (fun _ _ j => ⟨0, j rfl⟩) ?_
 rintro n1 a w ⟨i3, hf, hO, hm⟩
 obtain _ | n1 := n1
 rw [zN] at hm
 cases hm
 rw [zN] at hm
 refine S.co tb ?_ hf hO hm
 refine br rfl (fun hc5 => ?_) fun hc5 => ?_
 refine rw_ rfl fun a w hf hO hm => ?_
 obtain ⟨x8, hx8, hm⟩ := ob hm
 obtain ⟨b9, o10, hix8, hSx8⟩ := zaD (enc := zg) (sz := 1) (xs := x_s) 42 Tryz.underlying42 zfB (by decide) (fun _ => rfl) (hO.sees (i := 1) rfl) hx8
 refine zR (zi hix8 hf rfl rfl) rfl hf rfl rfl fun a hf => ?_
 refine S.op tb ?_ hf hO hm
 refine vl rfl rfl (fun a w hf hO => zf (o := 0) zX (hSx8 _ (hO.sees (i := 1) rfl)) rfl hf rfl) ?_
 refine rw_ rfl fun a w hf hO hm => ?_
 obtain ⟨r11, hr11, hm⟩ := ob hm
 refine oc (zjM (first := #[]) (captured := #[ptr x_f_k0_b1 0]) c_177 hf rfl (vs := [str x8]) rfl) hf rfl (zoN (cs := [ptr x_f_k0_b1 0]) (zsB x8 x_f_k0 r11 _ (hG.own hF hO) (hO.sees (i := 0) rfl) hr11)) hO fun a w' hf hO => ?_
 refine S.op tb ?_ hf hO hm
 refine br rfl (fun hc13 => ?_) fun hc13 => ?_
 exact rt Tryz.results220 rfl
 refine bi rfl fun i16 hi16 => ?_
 exact en rfl fun _ _ j => ⟨_, Nat.lt_succ_self _, i16, j rfl⟩
 exact rt Tryz.results220 rfl

theorem zd3 (x_s : List Str) (x_f_k0 : Str) (R : Bool) (w0 : World) (hG : zr w0) {x_s_p0 : Option Addr} {x_s_c0 : Nat} (hs0 : zD w0 x_s_p0 (cells zg x_s)) (hc0 : x_s.length ≤ x_s_c0) {x_f_k0_b1 : Nat} (hs1 : zD w0 (some ⟨x_f_k0_b1, 0, none⟩) [str x_f_k0]) (hm : zaB x_s x_f_k0 = some R) :
    Calls Tryz.prog 176 #[.slice x_s_p0 x_s.length x_s_c0, .func (.func 177) #[] #[ptr x_f_k0_b1 0]] w0 (Ret w0 (fun R => .bool R) R) := by
 rw [zaB] at hm
 have hF : zs [] := ze
 have hO : Dk.Own w0 [] w0 [] := Dk.Own.refl w0
 have hO := hO.addShr hs0 (by simp [Res.shared])
 have hO := hO.addShr hs1 (by simp [Res.shared])
 refine S.enter tb Tryz.func176 rfl Tryz.ntmps176 rfl ?_ hO hm
 refine cl c_220 rfl (fun r2 w hr2 hO => zeJ x_s x_f_k0 r2 _ (hG.own hF hO) (hO.sees (i := 1) rfl) hc0 (hO.sees (i := 0) rfl) hr2) fun r2 hr2 => ?_
 exact rt Tryz.results176 rfl

theorem zuJ (x_name : Str) (x_names : List Str) (R : Bool) (w0 : World) (hG : zr w0) {x_names_p0 : Option Addr} {x_names_c0 : Nat} (hs0 : zD w0 x_names_p0 (cells zg x_names)) (hc0 : x_names.length ≤ x_names_c0) (hm : zrR x_name x_names = some R) :
    Calls Tryz.prog 122 #[str x_name, .slice x_names_p0 x_names.length x_names_c0] w0 (Ret w0 (fun R => .bool R) R) := by
 rw [zrR] at hm
 have hF : zs [] := ze
 have hO : Dk.Own w0 [] w0 [] := Dk.Own.refl w0
 have hO := hO.addShr hs0 (by simp [Res.shared])
 refine S.enter tb Tryz.func122 rfl Tryz.ntmps122 rfl ?_ hO hm
 refine bo rfl fun b1 => ?_
 refine vl rfl rfl (fun a w hf hO => zkZ hf (vs := [ptr b1 0]) rfl) ?_
 refine cl c_176 rfl (fun r3 w hr3 hO => zd3 x_names x_name r3 _ (hG.own hF hO) (hO.sees (i := 1) rfl) hc0 (hO.blkSees (i := 0) rfl) hr3) fun r3 hr3 => ?_
 exact rt Tryz.results122 rfl

theorem ziL (x_f : api_Field) (x_k0 : List Str) (R : Bool) (w0 : World) (hG : zr w0) {x_k0_b0 : Nat} {x_k0_p1 : Option Addr} {x_k0_c1 : Nat} (hs0 : zD w0 (some ⟨x_k0_b0, 0, none⟩) [.slice x_k0_p1 x_k0.length x_k0_c1]) (hs1 : zD w0 x_k0_p1 (cells zg x_k0)) (hc1 : x_k0.length ≤ x_k0_c1) (hm : zfr x_f x_k0 = some R) :
    Calls Tryz.prog 121 #[.agg #[str x_f.Name, str x_f.Value], ptr x_k0_b0 0] w0 (Ret w0 (fun R => .bool R) R) := by
 rw [zfr] at hm
 have hF : zs [] := ze
 have hO : Dk.Own w0 [] w0 [] := Dk.Own.refl w0
 have hO := hO.addShr hs0 (by simp [Res.shared])
 have hO := hO.addShr hs1 (by simp [Res.shared])
 refine S.enter tb Tryz.func121 rfl Tryz.ntmps121 rfl ?_ hO hm
 refine bo rfl fun b1 => ?_
 refine ld 0 rfl rfl ?_
 refine ld 2 rfl rfl ?_
 refine cl c_122 rfl (fun r3 w hr3 hO => zuJ x_f.Name x_k0 r3 _ (hG.own hF hO) (hO.sees (i := 1) rfl) hc1 hr3) fun r3 hr3 => ?_
 exact rt Tryz.results121 rfl

theorem zdu (x_s : List api_Field) (x_f_k0 : List Str) (R : Int) (w0 : World) (hG : zr w0) {x_s_p0 : Option Addr} {x_s_c0 : Nat} (hs0 : zD w0 x_s_p0 (cells za x_s)) (hc0 : x_s.length ≤ x_s_c0) {x_f_k0_b1 : Nat} {x_f_k0_p2 : Option Addr} {x_f_k0_c2 : Nat} (hs1 : zD w0 (some ⟨x_f_k0_b1, 0, none⟩) [.slice x_f_k0_p2 x_f_k0.length x_f_k0_c2]) (hs2 : zD w0 x_f_k0_p2 (cells zg x_f_k0)) (hc2 : x_f_k0.length ≤ x_f_k0_c2) (hm : zao x_s x_f_k0 = some R) :
    Calls Tryz.prog 133 #[.slice x_s_p0 x_s.length x_s_c0, .func (.func 121) #[] #[ptr x_f_k0_b1 0]] w0 (Ret w0 (fun R => int R) R) := by
 rw [zao] at hm
 have hF : zs [] := ze
 have hO : Dk.Own w0 [] w0 [] := Dk.Own.refl w0
 have hO := hO.addShr hs0 (by simp [Res.shared])
 have hO := hO.addShr hs1 (by simp [Res.shared])
 have hO := hO.addShr hs2 (by simp [Res.shared])
 refine S.enter tb Tryz.func133 rfl Tryz.ntmps133 rfl ?_ hO hm
 refine lv [0, 1, 7] [0, 1, 2] (fun J E L k => ∃ (i3 : Int), J ((8, int i3) :: E) (L) (zH x_s x_f_k0 k i3)) rfl (fun _ _ j => ⟨0, j rfl⟩) ?_
 rintro n1 a w ⟨i3, hf, hO, hm⟩
 obtain _ | n1 := n1
 rw [zH] at hm
 cases hm
 rw [zH] at hm
 refine S.co tb ?_ hf hO hm
 refine br rfl (fun hc5 => ?_) fun hc5 => ?_
 refine rw_ rfl fun a w hf hO hm => ?_
 obtain ⟨x8, hx8, hm⟩ := ob hm
 obtain ⟨b9, o10, hix8, hSx8⟩ := zaD (enc := za) (sz := 2) (xs := x_s) 26 Tryz.underlying26 zbs (by decide) (fun _ => rfl) (hO.sees (i := 2) rfl) hx8
 refine zR (zi hix8 hf rfl rfl) rfl hf rfl rfl fun a hf => ?_
 refine S.op tb ?_ hf hO hm
 refine vl rfl rfl (fun a w hf hO => zq (o := 0) (vs := [str x8.Name, str x8.Value]) zig zbs (hSx8 _ (hO.sees (i := 2) rfl)) rfl rfl hf rfl) ?_
 refine rw_ rfl fun a w hf hO hm => ?_
 obtain ⟨r11, hr11, hm⟩ := ob hm
 refine oc (zjM (first := #[]) (captured := #[ptr x_f_k0_b1 0]) c_121 hf rfl (vs := [.agg #[str x8.Name, str x8.Value]]) rfl) hf rfl (zoN (cs := [ptr x_f_k0_b1 0]) (ziL x8 x_f_k0 r11 _ (hG.own hF hO) (hO.sees (i := 1) rfl) (hO.sees (i := 0) rfl) hc2 hr11)) hO fun a w' hf hO => ?_
 refine S.op tb ?_ hf hO hm
 refine br rfl (fun hc13 => ?_) fun hc13 => ?_
 exact rt Tryz.results133 rfl
 refine bi rfl fun i16 hi16 => ?_
 exact en rfl fun _ _ j => ⟨_, Nat.lt_succ_self _, i16, j rfl⟩
 exact rt Tryz.results133 rfl

theorem zdp (x_s : List api_Field) (x_del_k0 : List Str) (R : List api_Field) (w0 : World) (hG : zr w0) {x_s_p0 : Option Addr} {x_s_c0 : Nat} {x_del_k0_b1 : Nat} {x_del_k0_p2 : Option Addr} {x_del_k0_c2 : Nat} {F : List Nat} (hF : zs F) (hO : Dk.Own w0 F w0 [.row (.slice x_s_p0 x_s.length x_s_c0) 54 2 x_s.length (cells za x_s), .shr (some ⟨x_del_k0_b1, 0, none⟩) ([.slice x_del_k0_p2 x_del_k0.length x_del_k0_c2]), .shr x_del_k0_p2 (cells zg x_del_k0)]) (hcw1 : x_del_k0.length ≤ x_del_k0_c2) (hm : zaj x_s x_del_k0 = some R) :
    Calls Tryz.prog 120 #[.slice x_s_p0 x_s.length x_s_c0, .func (.func 121) #[] #[ptr x_del_k0_b1 0]] w0 fun e w' => ∃ (p0 : Option Addr) (c0 : Nat), e = .returned (.slice p0 R.length c0) ∧ Dk.Own w0 F w' [.row (.slice p0 R.length c0) 54 2 R.length (cells za R)] := by
 rw [zaj] at hm
 refine S.enter tb Tryz.func120 rfl Tryz.ntmps120 rfl ?_ hO hm
 refine nl 54 2 ?_
 refine cl c_133 rfl (fun r2 w hr2 hO => zdu x_s x_del_k0 r2 _ (hG.own hF hO) (hO.rowSees (i := 1) rfl) (hO.rowCap (i := 1) rfl) (hO.sees (i := 2) rfl) (hO.sees (i := 3) rfl) hcw1 hr2) fun r2 hr2 => ?_
 refine br rfl (fun hc5 => ?_) fun hc5 => ?_
 refine re_ rfl fun a w hf hO hm => ?_
 obtain rfl := Option.some.inj hm
 exact zh Tryz.results120 hf (.tmp rfl .nil) ⟨x_s_p0, x_s_c0, rfl, (hO.sub (.cons _ (.cons_cons _ (.cons _ (.cons _ .slnil)))))⟩
 refine jv 0 [] [0, 2, 3] (fun J E L => ∃ (p37 : Option Addr) (c38 : Nat) (l39 : List api_Field) (i40 : Int), J ((0, .slice p37 l39.length c38) :: (5, int i40) :: E) (.row (.slice p37 l39.length c38) 54 2 l39.length (cells za l39) :: L) (zae l39 i40)) rfl ?_ ?_
 refine bi rfl fun i8 hi8 => ?_
 refine ch [1, 0, 2, 3] rfl rfl ?_
 refine lv [1] [1, 2, 3] (fun J E L k => ∃ (p10 : Option Addr) (c11 : Nat) (l12 : List api_Field) (i13 : Int) (i14 : Int), J ((0, .slice p10 l12.length c11) :: (5, int i13) :: (6, int i14) :: E) (.row (.slice p10 l12.length c11) 54 2 l12.length (cells za l12) :: L) (zw x_del_k0 k l12 i13 i14)) rfl (fun _ _ j => ⟨x_s_p0, x_s_c0, x_s, r2, i8, j rfl⟩) ?_
 rintro n1 a w ⟨p10, c11, l12, i13, i14, hf, hO, hm⟩
 obtain _ | n1 := n1
 rw [zw] at hm
 cases hm
 rw [zw] at hm
 refine S.co tb ?_ hf hO hm
 refine br rfl (fun hc16 => ?_) fun hc16 => ?_
 refine jv 3 [1, 6] [1, 2, 3] (fun J E L => ∃ (p32 : Option Addr) (c33 : Nat) (l34 : List api_Field) (i35 : Int), J ((0, .slice p32 l34.length c33) :: (5, int i35) :: E) (.row (.slice p32 l34.length c33) 54 2 l34.length (cells za l34) :: L) (zQ (zw x_del_k0 n1) i14 l34 i35)) rfl ?_ ?_
 refine rw_ rfl fun a w hf hO hm => ?_
 obtain ⟨x18, hx18, hm⟩ := ob hm
 obtain ⟨b19, o20, hix18, hSx18, hAx18⟩ := zad (enc := za) (sz := 2) (xs := l12) 26 Tryz.underlying26 zbs (by decide) (fun _ => rfl) hO (i := 0) rfl hx18
 refine zR (zi hix18 hf rfl rfl) rfl hf rfl rfl fun a hf => ?_
 refine S.op tb ?_ hf hO hm
 refine vl rfl rfl (fun a w hf hO => zq (o := 0) (vs := [str x18.Name, str x18.Value]) zig zbs (hSx18 _ (hO.rowSees (i := 0) rfl)) rfl rfl hf rfl) ?_
 refine al zs4 rfl fun b21 => ?_
 refine st 0 rfl rfl ?_
 refine ld 0 rfl rfl ?_
 refine rw_ rfl fun a w hf hO hm => ?_
 obtain ⟨r23, hr23, hm⟩ := ob hm
 refine oc (zjM (first := #[]) (captured := #[ptr x_del_k0_b1 0]) c_121 hf rfl (vs := [.agg #[str x18.Name, str x18.Value]]) rfl) hf rfl (zoN (cs := [ptr x_del_k0_b1 0]) (ziL x18 x_del_k0 r23 _ (hG.own hF hO) (hO.sees (i := 3) rfl) (hO.sees (i := 4) rfl) hcw1 hr23)) hO fun a w' hf hO => ?_
 refine S.op tb ?_ hf hO hm
 refine br rfl (fun hc25 => ?_) fun hc25 => ?_
 refine ld 0 rfl rfl ?_
 refine rw_ rfl fun a w hf hO hm => ?_
 obtain ⟨x26, hx26, hm⟩ := ob hm
 obtain ⟨b27, o28, hix26, hSx26, hAx26⟩ := zad (enc := za) (sz := 2) (xs := l12) 26 Tryz.underlying26 zbs (by decide) (fun _ => rfl) hO (i := 1) rfl hx26
 refine zR (zi hix26 hf rfl rfl) rfl hf rfl rfl fun a hf => ?_
 refine S.op tb ?_ hf hO hm
 refine rw_ rfl fun a w hf hO hm => ?_
 obtain ⟨l29, hl29, hm⟩ := ob hm
 refine zrA (enc := za) (i := 1) (xs := l12) (vs := [str x18.Name, str x18.Value]) zbs (fun _ => rfl) rfl hAx26 hx26 hl29 rfl (by simp [Value.oneCell']) hf rfl rfl hO fun w hlen hO => ?_
 have hf : Fits 42 [(0, .slice p10 l29.length c11), (1, .func (.func 121) #[] #[ptr x_del_k0_b1 0]), (5, int i13), (6, int i14), (7, ptr b21 0), (29, .bool (!r23)), (30, .slice p10 l29.length c11), (31, int i13), (32, .agg #[str x18.Name, str x18.Value]), (33, ptr b27 o28)] a := by rw [hlen]; exact (hf.cons rfl (hf.cons rfl (hf.cons rfl (hf.cons rfl (hf.cons rfl (hf.cons rfl (hf.cons rfl (hf.cons rfl (hf.cons rfl (hf.cons rfl hf.nil))))))))))
 refine S.op tb ?_ hf hO hm
 refine bi rfl fun i31 hi31 => ?_
 exact ec [1, 2, 3, 4] rfl rfl rfl fun _ _ j => ⟨p10, c11, l29, i31, j rfl⟩
 exact ec [1, 2, 3, 4] rfl rfl rfl fun _ _ j => ⟨p10, c11, l12, i13, j rfl⟩
 rintro a w ⟨p32, c33, l34, i35, hf, hO, hm⟩
 rw [zQ] at hm
 refine S.co tb ?_ hf hO hm
 refine bi rfl fun i36 hi36 => ?_
 exact en rfl fun _ _ j => ⟨_, Nat.lt_succ_self _, p32, c33, l34, i35, i36, j rfl⟩
 exact en rfl fun _ _ j => ⟨p10, c11, l12, i13, j rfl⟩
 rintro a w ⟨p37, c38, l39, i40, hf, hO, hm⟩
 rw [zae] at hm
 refine S.co tb ?_ hf hO hm
 refine rw_ rfl fun a w hf hO hm => ?_
 obtain ⟨l41, hl41, hm⟩ := ob hm
 refine zvJ (enc := za) (z := (⟨[], []⟩ : api_Field)) (i := 0) (xs := l39) Tryz.underlying26 zbs (fun _ => rfl) (by decide) zw_54 rfl (by simp [za, Value.oneCell']) rfl hl41 hf rfl rfl rfl hO fun a w _ hlen hf hO => ?_
 have hf : Fits 42 [(0, .slice p37 l41.length c38), (5, int i40), (36, .slice p37 l41.length c38), (37, int i40)] a := by rw [hlen]; exact (hf.cons rfl (hf.cons rfl (hf.cons rfl (hf.cons rfl hf.nil))))
 refine S.op tb ?_ hf hO hm
 refine rw_ rfl fun a w hf hO hm => ?_
 obtain ⟨l43, hl43, hm⟩ := ob hm
 obtain ⟨hrl43, hO⟩ := hO.shrink (enc := za) (xs := l41) (i := 0) 26 Tryz.underlying26 zbs (fun _ => rfl) rfl hl43
 refine zR (ztO Tryz.underlying26 hrl43 hf rfl rfl) rfl hf rfl rfl fun a hf => ?_
 refine S.op tb ?_ hf hO hm
 refine re_ rfl fun a w hf hO hm => ?_
 obtain rfl := Option.some.inj hm
 exact zh Tryz.results120 hf (.tmp rfl .nil) ⟨p37, c38, rfl, (hO.sub (.cons_cons _ (.cons _ (.cons _ (.cons _ .slnil)))))⟩

theorem zjR (x_b : bag_Bag) (x_names : List Str) (R : Int × bag_Bag) (w0 : World) (hG : zr w0) {x_b_b0 : Nat} {x_b_p1 : Option Addr} {x_b_c1 : Nat} {x_names_p2 : Option Addr} {x_names_c2 : Nat} {F : List Nat} (hF : zs F) (hO : Dk.Own w0 F w0 [.blk x_b_b0 [.slice x_b_p1 x_b.f_l.length x_b_c1] 107, .row (.slice x_b_p1 x_b.f_l.length x_b_c1) 54 2 x_b.f_l.length (cells za x_b.f_l), .shr x_names_p2 (cells zg x_names)]) (hcw0 : x_names.length ≤ x_names_c2) (hm : zgN x_b x_names = some R) :
    Calls Tryz.prog 73 #[ptr x_b_b0 0, .slice x_names_p2 x_names.length x_names_c2] w0 fun e w' => ∃ (p0 : Option Addr) (c0 : Nat), e = .returned (int R.1) ∧ Dk.Own w0 F w' [.blk x_b_b0 [.slice p0 R.2.f_l.length c0] 107, .row (.slice p0 R.2.f_l.length c0) 54 2 R.2.f_l.length (cells za R.2.f_l)] := by
 rw [zgN] at hm
 refine S.enter tb Tryz.func73 rfl Tryz.ntmps73 rfl ?_ hO hm
 refine bo rfl fun b1 => ?_
 refine vl rfl rfl (fun a w hf hO => zhi Tryz.underlying63 hf rfl rfl) ?_
 refine kn (b' := false) rfl rfl ?_
 refine ld 1 rfl rfl ?_
 refine ld 1 rfl rfl ?_
 refine vl rfl rfl (fun a w hf hO => zkZ hf (vs := [ptr b1 0]) rfl) ?_
 refine rw_ rfl fun a w hf hO hm => ?_
 obtain ⟨r6, hr6, hm⟩ := ob hm
 have hch9 := (show Dk.Own w0 F _ ([.row (.slice x_b_p1 x_b.f_l.length x_b_c1) 54 2 x_b.f_l.length (cells za x_b.f_l)] ++ [.blk b1 [.slice x_names_p2 x_names.length x_names_c2] 42, .blk x_b_b0 [.slice x_b_p1 x_b.f_l.length x_b_c1] 107, .shr x_names_p2 (cells zg x_names)]) from hO.choose [2, 0, 1, 3] rfl)
 have hfar9 := Dk.Own.far hch9 rfl hF hG.size
 have hlend9 := hch9.lend (S := [.shr (some ⟨b1, 0, none⟩) [.slice x_names_p2 x_names.length x_names_c2], .shr x_names_p2 (cells zg x_names)]) rfl ⟨zwE (hO.blkSees (i := 0) rfl) (List.mem_of_getElem? (i := 0) rfl), zi6 (hO.sees (i := 3) rfl) (List.mem_of_getElem? (i := 2) rfl), trivial⟩
 have hcl9 := zdp x_b.f_l x_names r6 _ (hG.own hF hO) hfar9 hlend9 hcw0 hr6
 refine zo (zj c_120 hf (vs := [.slice x_b_p1 x_b.f_l.length x_b_c1, .func (.func 121) #[] #[ptr b1 0]]) rfl) rfl hf rfl rfl (hcl9) ?_
 rintro e w' ⟨p7, c8, he, hO'⟩
 refine ⟨_, he, fun a hf => ?_⟩
 have hO := hch9.back rfl hO' rfl
 refine S.op tb ?_ hf hO hm
 refine st 2 rfl rfl ?_
 refine ld 2 rfl rfl ?_
 refine bi rfl fun i11 hi11 => ?_
 refine re_ rfl fun a w hf hO hm => ?_
 obtain rfl := Option.some.inj hm
 exact zh Tryz.results73 hf (.tmp rfl .nil) ⟨p7, c8, rfl, (hO.choose [2, 0] rfl)⟩

theorem zsC (x_l : List api_Field) (R : List api_Field) (w0 : World) (hG : zr w0) {x_l_p0 : Option Addr} {x_l_c0 : Nat} (hs0 : zD w0 x_l_p0 (cells za x_l)) (hc0 : x_l.length ≤ x_l_c0) (hm : znO x_l = some R) :
    Calls Tryz.prog 38 #[.slice x_l_p0 x_l.length x_l_c0] w0 fun e w' => ∃ (p0 : Option Addr) (c0 : Nat), e = .returned (.slice p0 R.length c0) ∧ Dk.Own w0 [] w' [.row (.slice p0 R.length c0) 54 2 R.length (cells za R)] := by
 rw [znO] at hm
 have hF : zs [] := ze
 have hO : Dk.Own w0 [] w0 [] := Dk.Own.refl w0
 have hO := hO.addShr hs0 (by simp [Res.shared])
 refine S.enter tb Tryz.func38 rfl Tryz.ntmps38 rfl ?_ hO hm
 refine nl 54 2 ?_
 refine rw_ rfl fun a w hf hO hm => ?_
 obtain ⟨r2, hr2, hm⟩ := ob hm
 refine zo (zj zta hf (vs := [.slice x_l_p0 x_l.length x_l_c0]) rfl) rfl hf rfl rfl (zgk x_l r2 _ (hG.own hF hO) (hO.sees (i := 1) rfl) hc0 hr2) ?_
 rintro e w' ⟨b3, p4, c5, he, hO'⟩
 refine ⟨_, he, fun a hf => ?_⟩
 have hO := hO.call hO' (by simp [Res.shared])
 refine S.op tb ?_ hf hO hm
 refine rw_ rfl fun a w hf hO hm => ?_
 obtain ⟨r7, hr7, hm⟩ := ob hm
 refine zo (zj c_74 hf (vs := [.slice x_l_p0 x_l.length x_l_c0]) rfl) rfl hf rfl rfl (zoF x_l r7 _ (hG.own hF hO) (hO.sees (i := 3) rfl) hc0 hr7) ?_
 rintro e w' ⟨p8, c9, he, hO'⟩
 refine ⟨_, he, fun a hf => ?_⟩
 have hO := hO.call hO' (by simp [Res.shared])
 refine S.op tb ?_ hf hO hm
 refine rw_ rfl fun a w hf hO hm => ?_
 obtain ⟨r10, hr10, hm⟩ := ob hm
 refine zo (zj c_75 hf (vs := []) rfl) rfl hf rfl rfl (zs1 r10 _ (hG.own hF hO) hr10) ?_
 rintro e w' ⟨p11, c12, he, hO'⟩
 refine ⟨_, he, fun a hf => ?_⟩
 have hO := hO.call hO' (by simp [Res.shared])
 refine S.op tb ?_ hf hO hm
 refine rw_ rfl fun a w hf hO hm => ?_
 obtain ⟨hg15, hm⟩ := og hm
 refine zhm zi5 (enc := zg) (xs := r7) (ys := r10) (i := 1) (fun _ => rfl) rfl (hO.rowSees (i := 0) rfl) (by simp [zg, Value.oneCell']) hg15 hf rfl rfl rfl hO fun a p13 c14 w hf hO => ?_
 refine S.op tb ?_ hf hO hm
 refine rw_ rfl fun a w hf hO hm => ?_
 obtain ⟨r16, hr16, hm⟩ := ob hm
 have hch19 := (show Dk.Own w0 [] _ ([.blk b3 [.slice p4 r2.f_l.length c5] 107, .row (.slice p4 r2.f_l.length c5) 54 2 r2.f_l.length (cells za r2.f_l)] ++ [.row (.slice p11 r10.length c12) 9 1 r10.length (cells zg r10), .row (.slice p13 ((r7 ++ r10).length) c14) 9 1 ((r7 ++ r10).length) (cells zg (r7 ++ r10)), .row (.slice none 0 0) 54 2 0 (cells za []), .shr x_l_p0 (cells za x_l)]) from hO.choose [2, 3, 0, 1, 4, 5] rfl)
 have hfar19 := Dk.Own.far hch19 rfl hF hG.size
 have hlend19 := hch19.lend (S := [.shr p13 (cells zg (r7 ++ r10))]) rfl ⟨zlE (hO.rowSees (i := 1) rfl) (List.mem_of_getElem? (i := 1) rfl), trivial⟩
 have hcl19 := zjR r2 (r7 ++ r10) r16 _ (hG.own hF hO) hfar19 hlend19 (hO.rowCap (i := 1) rfl) hr16
 refine zo (zj c_73 hf (vs := [ptr b3 0, .slice p13 ((r7 ++ r10).length) c14]) rfl) rfl hf rfl rfl (hcl19) ?_
 rintro e w' ⟨p17, c18, he, hO'⟩
 refine ⟨_, he, fun a hf => ?_⟩
 have hO := hch19.back rfl hO' rfl
 refine S.op tb ?_ hf hO hm
 refine rw_ rfl fun a w hf hO hm => ?_
 obtain ⟨r21, hr21, hm⟩ := ob hm
 refine zo (zj ztV hf (vs := [ptr b3 0]) rfl) rfl hf rfl rfl (zcJ r16.2 r21 _ (hG.own hF hO) (hO.blkSees (i := 0) rfl) (hO.rowSees (i := 1) rfl) (hO.rowCap (i := 1) rfl) hr21) ?_
 rintro e w' ⟨p22, c23, he, hO'⟩
 refine ⟨_, he, fun a hf => ?_⟩
 have hO := hO.call hO' (by simp [Res.shared])
 refine S.op tb ?_ hf hO hm
 refine re_ rfl fun a w hf hO hm => ?_
 obtain rfl := Option.some.inj hm
 exact zh Tryz.results38 hf (.tmp rfl .nil) ⟨p22, c23, rfl, (hO.sub (.cons_cons _ (.cons _ (.cons _ (.cons _ (.cons _ (.cons _ (.cons _ .slnil))))))))⟩

theorem zot (x_b : UInt8) (R : Int) (w0 : World) (hG : zr w0) (hm : zfJ x_b = some R) :
    Calls Tryz.prog 224 #[zac x_b] w0 (Ret w0 (fun R => int R) R) := by
 rw [zfJ] at hm
 have hF : zs [] := ze
 have hO : Dk.Own w0 [] w0 [] := Dk.Own.refl w0
 refine S.enter tb Tryz.func224 rfl Tryz.ntmps224 rfl ?_ hO hm
 refine cl zq2 rfl (fun r2 w hr2 hO => zc9 x_b r2 _ (hG.own hF hO) hr2) fun r2 hr2 => ?_
 refine br rfl (fun hc4 => ?_) fun hc4 => ?_
 refine vl rfl rfl (fun a w hf hO => zsg (b := x_b) (c := 48) hf rfl rfl) ?_
 refine vl rfl rfl (fun a w hf hO => zqS Tryz.underlying3 Tryz.underlying5 (zsj _) hf (kd := .u8) rfl) ?_
 exact rt Tryz.results224 rfl
 refine cl ztd rfl (fun r7 w hr7 hO => zer x_b r7 _ (hG.own hF hO) hr7) fun r7 hr7 => ?_
 refine vl rfl rfl (fun a w hf hO => zsg (b := r7) (c := 97) hf rfl rfl) ?_
 refine vl rfl rfl (fun a w hf hO => zqS Tryz.underlying3 Tryz.underlying5 (zsj _) hf (kd := .u8) rfl) ?_
 refine bi rfl fun i8 hi8 => ?_
 exact rt Tryz.results224 rfl

theorem zpg (x_s : Str) (x_base : Int) (x_most : Int) (x_is : UInt8 → Option Bool) (R : Int × Int) (w0 : World) (hG : zr w0) {x_is_f : Nat} {x_is_p x_is_c : Array Value} (x_is_k : zc Tryz.prog x_is_f) (x_is_h : ∀ (y0 : UInt8) (r : Bool) (w : World), zr w → x_is y0 = some r → Calls Tryz.prog x_is_f (x_is_p ++ [zac y0].toArray ++ x_is_c) w fun e w' => e = .returned (.bool r) ∧ Below w.heap.size w w') (hm : zgO x_s x_base x_most x_is = some R) :
    Calls Tryz.prog 181 #[str x_s, int x_base, int x_most, .func (.func x_is_f) x_is_p x_is_c] w0 (Ret w0 (fun R => .tuple #[int R.1, int R.2]) R) := by
 rw [zgO] at hm
 have hF : zs [] := ze
 have hO : Dk.Own w0 [] w0 [] := Dk.Own.refl w0
 refine S.enter tb Tryz.func181 rfl Tryz.ntmps181 rfl ?_ hO hm
 refine jv 1 [0, 1, 2] [] (fun J E L => ∃ (t5 : Bool), J ((21, .bool t5) :: E) (L) (zc5 x_s x_base x_most t5)) rfl ?_ ?_
 refine br rfl (fun hc2 => ?_) fun hc2 => ?_
 exact en rfl fun _ _ j => ⟨true, j rfl⟩
 refine rw_ rfl fun a w hf hO hm => ?_
 refine zn (vs := [(0, str x_s)]) (cs := [str x_s]) (e := 9) (sz := 1) hf rfl rfl (fun w => by kernel_rfl) rfl rfl hO fun a b3 w hf hO => ?_
 refine S.op tb ?_ hf hO hm
 refine kn (b' := false) hc2 rfl ?_
 refine cl zkK rfl (fun r4 w hr4 hO => zbA x_is ([x_s] : List Str) r4 _ (hG.own hF hO) x_is_k x_is_h (hO.rowSees (i := 0) rfl) (hO.rowCap (i := 0) rfl) hr4) fun r4 hr4 => ?_
 exact ec [] rfl rfl rfl fun _ _ j => ⟨!r4, j rfl⟩
 rintro a w ⟨t5, hf, hO, hm⟩
 rw [zc5] at hm
 refine S.co tb ?_ hf hO hm
 refine br rfl (fun hc6 => ?_) fun hc6 => ?_
 exact rt Tryz.results181 rfl
 refine lv [0, 1, 2, 23] [] (fun J E L k => ∃ (i11 : Int) (i12 : Int), J ((10, int i11) :: (24, int i12) :: E) (L) (zaL x_s x_base x_most k i11 i12)) rfl (fun _ _ j => ⟨0, 0, j rfl⟩) ?_
 rintro n2 a w ⟨i11, i12, hf, hO, hm⟩
 obtain _ | n2 := n2
 rw [zaL] at hm
 cases hm
 rw [zaL] at hm
 refine S.co tb ?_ hf hO hm
 refine br rfl (fun hc14 => ?_) fun hc14 => ?_
 refine bi rfl fun b17 hb17 => ?_
 refine cl c_224 rfl (fun r18 w hr18 hO => zot b17 r18 _ (hG.own hF hO) hr18) fun r18 hr18 => ?_
 refine jv 6 [0, 1, 2, 10, 12, 23, 24] [] (fun J E L => ∃ (t23 : Bool), J ((42, .bool t23) :: E) (L) (zc4 (zaL x_s x_base x_most n2) x_base i11 i12 r18 t23)) rfl ?_ ?_
 refine br rfl (fun hc20 => ?_) fun hc20 => ?_
 exact en rfl fun _ _ j => ⟨true, j rfl⟩
 refine bi rfl fun i21 hi21 => ?_
 refine bi rfl fun i22 hi22 => ?_
 exact en rfl fun _ _ j => ⟨decide (i22 < i11), j rfl⟩
 rintro a w ⟨t23, hf, hO, hm⟩
 rw [zc4] at hm
 refine S.co tb ?_ hf hO hm
 refine br rfl (fun hc24 => ?_) fun hc24 => ?_
 exact rt Tryz.results181 rfl
 refine bi rfl fun i27 hi27 => ?_
 refine bi rfl fun i28 hi28 => ?_
 refine bi rfl fun i30 hi30 => ?_
 exact en rfl fun _ _ j => ⟨_, Nat.lt_succ_self _, i28, i30, j rfl⟩
 exact rt Tryz.results181 rfl

end Go.Proofs
end
section
set_option linter.unusedVariables false
set_option maxHeartbeats 1000000
set_option linter.unusedSimpArgs false
set_option maxRecDepth 100000
namespace Go.Proofs
open Go.Dk Go.Dm Go.RowKit

theorem zjd (x_s : Str) (x_most : Int) (R : Int × Int) (w0 : World) (hG : zr w0) (hm : zc6 x_s x_most = some R) :
    Calls Tryz.prog 129 #[str x_s, int x_most] w0 (Ret w0 (fun R => .tuple #[int R.1, int R.2]) R) := by
 rw [zc6] at hm
 have hF : zs [] := ze
 have hO : Dk.Own w0 [] w0 [] := Dk.Own.refl w0
 refine S.enter tb Tryz.func129 rfl Tryz.ntmps129 rfl ?_ hO hm
 refine cl c_181 rfl (fun r2 w hr2 hO => zpg x_s 10 x_most zaK r2 _ (hG.own hF hO) zq2 (fun y0 r w hG h => zgc (zc9 y0 r w hG h)) hr2) fun r2 hr2 => ?_
 exact rt Tryz.results129 rfl

theorem zpi (x_n : Int) (x_base : Int) (R : Str) (w0 : World) (hG : zaH w0) (hm : zio x_n x_base = some R) :
    Calls Tryz.prog 47 #[int x_n, int x_base] w0 (Ret w0 (fun R => str R) R) := by
 rw [zio] at hm
 have hF : zs [] := ze
 have hO : Dk.Own w0 [] w0 [] := Dk.Own.refl w0
 refine S.enter tb Tryz.func47 rfl Tryz.ntmps47 rfl ?_ hO hm
 refine br rfl (fun hc3 => ?_) fun hc3 => ?_
 exact rt Tryz.results47 rfl
 refine cl c_88 rfl (fun r6 w hr6 hO => zlR x_n x_base r6 _ (hG.own hF hO) hr6) fun r6 hr6 => ?_
 exact rt Tryz.results47 rfl

theorem ziM (x_n : Int) (R : Str) (w0 : World) (hG : zaH w0) (hm : zdh x_n = some R) :
    Calls Tryz.prog 21 #[int x_n] w0 (Ret w0 (fun R => str R) R) := by
 rw [zdh] at hm
 have hF : zs [] := ze
 have hO : Dk.Own w0 [] w0 [] := Dk.Own.refl w0
 refine S.enter tb Tryz.func21 rfl Tryz.ntmps21 rfl ?_ hO hm
 refine cl c_47 rfl (fun r2 w hr2 hO => zpi x_n 10 r2 _ (hG.own hF hO) hr2) fun r2 hr2 => ?_
 exact rt Tryz.results21 rfl

theorem zjT (x_s : Str) (x_most : Int) (R : Bool) (w0 : World) (hG : zaH w0) (hm : zcO x_s x_most = some R) :
    Calls Tryz.prog 128 #[str x_s, int x_most] w0 (Ret w0 (fun R => .bool R) R) := by
 rw [zcO] at hm
 have hF : zs [] := ze
 have hO : Dk.Own w0 [] w0 [] := Dk.Own.refl w0
 refine S.enter tb Tryz.func128 rfl Tryz.ntmps128 rfl ?_ hO hm
 refine cl c_129 rfl (fun r2 w hr2 hO => zjd x_s x_most r2 _ (hG.own hF hO).1 hr2) fun r2 hr2 => ?_
 refine jv 0 [] [] (fun J E L => ∃ (t6 : Bool), J ((4, .bool t6) :: E) (L) (zb8 t6)) rfl ?_ ?_
 refine br rfl (fun hc4 => ?_) fun hc4 => ?_
 refine cl c_21 rfl (fun r5 w hr5 hO => ziM r2.1 r5 _ (hG.own hF hO) hr5) fun r5 hr5 => ?_
 exact en rfl fun _ _ j => ⟨r5 == x_s, j rfl⟩
 exact en rfl fun _ _ j => ⟨false, j rfl⟩
 rintro a w ⟨t6, hf, hO, hm⟩
 rw [zb8] at hm
 refine S.co tb ?_ hf hO hm
 exact rt Tryz.results128 rfl

theorem zc3 (x_s : Str) (R : Bool) (w0 : World) (hG : zaH w0) (hm : zbf x_s = some R) :
    Calls Tryz.prog 92 #[str x_s] w0 fun e w' => e = .returned (.bool R) ∧ Below w0.heap.size w0 w' := by
  unfold zbf at hm
  split at hm
  · rename_i hs
    obtain ⟨bs, hbs, hm⟩ := ob hm
    cases hm
    exact zwW (fun x => zcO x 255) (fun x b W hG h => zjT x 255 b W hG h) x_s hs bs hbs w0 hG
  · cases hm

theorem zhA (x_b : UInt8) (R : Bool) (w0 : World) (hG : zr w0) (hm : zby x_b = some R) :
    Calls Tryz.prog 175 #[zac x_b] w0 (Ret w0 (fun R => .bool R) R) := by
 rw [zby] at hm
 have hF : zs [] := ze
 have hO : Dk.Own w0 [] w0 [] := Dk.Own.refl w0
 refine S.enter tb Tryz.func175 rfl Tryz.ntmps175 rfl ?_ hO hm
 refine jv 0 [] [] (fun J E L => ∃ (t7 : Bool), J ((2, .bool t7) :: E) (L) (zeS t7)) rfl ?_ ?_
 refine cl zq2 rfl (fun r2 w hr2 hO => zc9 x_b r2 _ (hG.own hF hO) hr2) fun r2 hr2 => ?_
 refine br rfl (fun hc3 => ?_) fun hc3 => ?_
 exact en rfl fun _ _ j => ⟨true, j rfl⟩
 refine cl ztd rfl (fun r4 w hr4 hO => zer x_b r4 _ (hG.own hF hO) hr4) fun r4 hr4 => ?_
 refine vl rfl rfl (fun a w hf hO => zkW (b := r4) (c := 97) hf rfl rfl) ?_
 refine br rfl (fun hc5 => ?_) fun hc5 => ?_
 refine cl ztd rfl (fun r6 w hr6 hO => zer x_b r6 _ (hG.own hF hO) hr6) fun r6 hr6 => ?_
 refine vl rfl rfl (fun a w hf hO => zmP (b := r6) (c := 102) hf rfl rfl) ?_
 exact en rfl fun _ _ j => ⟨decide (r6 ≤ 102), j rfl⟩
 exact en rfl fun _ _ j => ⟨false, j rfl⟩
 rintro a w ⟨t7, hf, hO, hm⟩
 rw [zeS] at hm
 refine S.co tb ?_ hf hO hm
 exact rt Tryz.results175 rfl

theorem zgF (x_s : Str) (x_last : Bool) (R : Int) (w0 : World) (hG : zaH w0) (hm : zcc x_s x_last = some R) :
    Calls Tryz.prog 119 #[str x_s, .bool x_last] w0 (Ret w0 (fun R => int R) R) := by
 rw [zcc] at hm
 have hF : zs [] := ze
 have hO : Dk.Own w0 [] w0 [] := Dk.Own.refl w0
 refine S.enter tb Tryz.func119 rfl Tryz.ntmps119 rfl ?_ hO hm
 refine br rfl (fun hc3 => ?_) fun hc3 => ?_
 exact rt Tryz.results119 rfl
 refine rw_ rfl fun a w hf hO hm => ?_
 obtain ⟨r6, hr6, hm⟩ := ob hm
 refine zo (zj c_174 hf (vs := [str x_s, str [58]]) rfl) rfl hf rfl rfl (zkH x_s [58] r6 _ (hG.own hF hO).1 hr6) ?_
 rintro e w' ⟨p7, c8, he, hO'⟩
 refine ⟨_, he, fun a hf => ?_⟩
 have hO := hO.call hO' (by simp [Res.shared])
 refine S.op tb ?_ hf hO hm
 refine lv [1, 5, 13, 14] [0] (fun J E L k => ∃ (i12 : Int) (i13 : Int), J ((6, int i12) :: (15, int i13) :: E) (L) (zT x_last r6 k i12 i13)) rfl (fun _ _ j => ⟨0, 0, j rfl⟩) ?_
 rintro n1 a w ⟨i12, i13, hf, hO, hm⟩
 obtain _ | n1 := n1
 rw [zT] at hm
 cases hm
 rw [zT] at hm
 refine S.co tb ?_ hf hO hm
 refine br rfl (fun hc15 => ?_) fun hc15 => ?_
 refine jv 3 [1, 5, 13, 14, 15] [0] (fun J E L => ∃ (i36 : Int), J ((6, int i36) :: E) (L) (zbJ (zT x_last r6 n1) i13 i36)) rfl ?_ ?_
 refine rw_ rfl fun a w hf hO hm => ?_
 obtain ⟨x17, hx17, hm⟩ := ob hm
 obtain ⟨b18, o19, hix17, hSx17, hAx17⟩ := zad (enc := zg) (sz := 1) (xs := r6) 42 Tryz.underlying42 zfB (by decide) (fun _ => rfl) hO (i := 0) rfl hx17
 refine zR (zi hix17 hf rfl rfl) rfl hf rfl rfl fun a hf => ?_
 refine S.op tb ?_ hf hO hm
 refine vl rfl rfl (fun a w hf hO => zf (o := 0) zX (hSx17 _ (hO.rowSees (i := 0) rfl)) rfl hf rfl) ?_
 refine jv 6 [1, 5, 6, 8, 13, 14, 15] [0] (fun J E L => ∃ (t25 : Bool), J ((20, .bool t25) :: E) (L) (za6 (zT x_last r6 n1) i12 i13 x17 t25)) rfl ?_ ?_
 refine br rfl (fun hc21 => ?_) fun hc21 => ?_
 refine bi rfl fun i22 hi22 => ?_
 refine br rfl (fun hc23 => ?_) fun hc23 => ?_
 refine cl c_92 rfl (fun r24 w hr24 hO => zc3 x17 r24 _ (hG.own hF hO) hr24) fun r24 hr24 => ?_
 exact en rfl fun _ _ j => ⟨r24, j rfl⟩
 exact en rfl fun _ _ j => ⟨false, j rfl⟩
 exact en rfl fun _ _ j => ⟨false, j rfl⟩
 rintro a w ⟨t25, hf, hO, hm⟩
 rw [za6] at hm
 refine S.co tb ?_ hf hO hm
 refine br rfl (fun hc26 => ?_) fun hc26 => ?_
 refine bi rfl fun i27 hi27 => ?_
 exact en rfl fun _ _ j => ⟨i27, j rfl⟩
 refine jv 6 [1, 5, 6, 13, 14, 15] [0] (fun J E L => ∃ (t32 : Bool), J ((35, .bool t32) :: E) (L) (za5 (zT x_last r6 n1) i12 i13 t32)) rfl ?_ ?_
 refine br rfl (fun hc28 => ?_) fun hc28 => ?_
 refine br rfl (fun hc29 => ?_) fun hc29 => ?_
 refine rw_ rfl fun a w hf hO hm => ?_
 refine zn (vs := [(0, str x17)]) (cs := [str x17]) (e := 9) (sz := 1) hf rfl rfl (fun w => by kernel_rfl) rfl rfl hO fun a b30 w hf hO => ?_
 refine S.op tb ?_ hf hO hm
 refine kn (b' := true) hc29 rfl ?_
 refine cl zkK rfl (fun r31 w hr31 hO => zbA zby ([x17] : List Str) r31 _ (hG.own hF hO).1 zuu (fun y0 r w hG h => zgc (zhA y0 r w hG h)) (hO.rowSees (i := 0) rfl) (hO.rowCap (i := 0) rfl) hr31) fun r31 hr31 => ?_
 exact ec [1] rfl rfl rfl fun _ _ j => ⟨r31, j rfl⟩
 exact en rfl fun _ _ j => ⟨false, j rfl⟩
 exact en rfl fun _ _ j => ⟨false, j rfl⟩
 rintro a w ⟨t32, hf, hO, hm⟩
 rw [za5] at hm
 refine S.co tb ?_ hf hO hm
 refine br rfl (fun hc33 => ?_) fun hc33 => ?_
 refine bi rfl fun i34 hi34 => ?_
 exact en rfl fun _ _ j => ⟨i34, j rfl⟩
 exact rt Tryz.results119 rfl
 rintro a w ⟨i36, hf, hO, hm⟩
 rw [zbJ] at hm
 refine S.co tb ?_ hf hO hm
 refine bi rfl fun i37 hi37 => ?_
 exact en rfl fun _ _ j => ⟨_, Nat.lt_succ_self _, i36, i37, j rfl⟩
 exact rt Tryz.results119 rfl

theorem ziN (x_s : Str) (R : Bool) (w0 : World) (hG : zaH w0) (hm : zdi x_s = some R) :
    Calls Tryz.prog 71 #[str x_s] w0 (Ret w0 (fun R => .bool R) R) := by
 rw [zdi] at hm
 have hF : zs [] := ze
 have hO : Dk.Own w0 [] w0 [] := Dk.Own.refl w0
 refine S.enter tb Tryz.func71 rfl Tryz.ntmps71 rfl ?_ hO hm
 refine cl zwv rfl (fun r2 w hr2 hO => zju x_s [58, 58] r2 _ (hG.own hF hO).1 hr2) fun r2 hr2 => ?_
 refine br rfl (fun hc5 => ?_) fun hc5 => ?_
 refine cl zww rfl (fun r6 w hr6 hO => zgF x_s true r6 _ (hG.own hF hO) hr6) fun r6 hr6 => ?_
 exact rt Tryz.results71 rfl
 refine cl zww rfl (fun r9 w hr9 hO => zgF r2.1 false r9 _ (hG.own hF hO) hr9) fun r9 hr9 => ?_
 refine cl zww rfl (fun r10 w hr10 hO => zgF r2.2.1 true r10 _ (hG.own hF hO) hr10) fun r10 hr10 => ?_
 refine jv 0 [] [] (fun J E L => ∃ (t15 : Bool), J ((2, .bool t15) :: E) (L) (zbz t15)) rfl ?_ ?_
 refine br rfl (fun hc12 => ?_) fun hc12 => ?_
 refine br rfl (fun hc13 => ?_) fun hc13 => ?_
 refine bi rfl fun i14 hi14 => ?_
 exact en rfl fun _ _ j => ⟨decide (i14 ≤ 7), j rfl⟩
 exact en rfl fun _ _ j => ⟨false, j rfl⟩
 exact en rfl fun _ _ j => ⟨false, j rfl⟩
 rintro a w ⟨t15, hf, hO, hm⟩
 rw [zbz] at hm
 refine S.co tb ?_ hf hO hm
 exact rt Tryz.results71 rfl

theorem zmx (x_s : Str) (R : Bool) (w0 : World) (hG : zr w0) (hm : zfs x_s = some R) :
    Calls Tryz.prog 221 #[str x_s] w0 (Ret w0 (fun R => .bool R) R) := by
 rw [zfs] at hm
 have hF : zs [] := ze
 have hO : Dk.Own w0 [] w0 [] := Dk.Own.refl w0
 refine S.enter tb Tryz.func221 rfl Tryz.ntmps221 rfl ?_ hO hm
 refine jv 0 [] [] (fun J E L => ∃ (t8 : Bool), J ((2, .bool t8) :: E) (L) (zah t8)) rfl ?_ ?_
 refine br rfl (fun hc2 => ?_) fun hc2 => ?_
 refine bi rfl fun b3 hb3 => ?_
 refine vl rfl rfl (fun a w hf hO => zJ (b := b3) (c := 37) hf rfl rfl) ?_
 refine br rfl (fun hc4 => ?_) fun hc4 => ?_
 refine bi rfl fun s5 hs5 => ?_
 refine rw_ rfl fun a w hf hO hm => ?_
 refine zn (vs := [(0, str s5)]) (cs := [str s5]) (e := 9) (sz := 1) hf rfl rfl (fun w => by kernel_rfl) rfl rfl hO fun a b6 w hf hO => ?_
 refine S.op tb ?_ hf hO hm
 refine kn (b' := true) hc4 rfl ?_
 refine cl zkK rfl (fun r7 w hr7 hO => zbA zby ([s5] : List Str) r7 _ (hG.own hF hO) zuu (fun y0 r w hG h => zgc (zhA y0 r w hG h)) (hO.rowSees (i := 0) rfl) (hO.rowCap (i := 0) rfl) hr7) fun r7 hr7 => ?_
 exact ec [] rfl rfl rfl fun _ _ j => ⟨r7, j rfl⟩
 exact en rfl fun _ _ j => ⟨false, j rfl⟩
 exact en rfl fun _ _ j => ⟨false, j rfl⟩
 rintro a w ⟨t8, hf, hO, hm⟩
 rw [zah] at hm
 refine S.co tb ?_ hf hO hm
 exact rt Tryz.results221 rfl

theorem zhO (x_b : UInt8) (R : Bool) (w0 : World) (hG : zr w0) (hm : zbK x_b = some R) :
    Calls Tryz.prog 222 #[zac x_b] w0 (Ret w0 (fun R => .bool R) R) := by
 rw [zbK] at hm
 have hF : zs [] := ze
 have hO : Dk.Own w0 [] w0 [] := Dk.Own.refl w0
 refine S.enter tb Tryz.func222 rfl Tryz.ntmps222 rfl ?_ hO hm
 refine jv 0 [] [] (fun J E L => ∃ (t7 : Bool), J ((2, .bool t7) :: E) (L) (zbE t7)) rfl ?_ ?_
 refine cl zuv rfl (fun r2 w hr2 hO => zga x_b r2 _ (hG.own hF hO) hr2) fun r2 hr2 => ?_
 refine br rfl (fun hc3 => ?_) fun hc3 => ?_
 exact en rfl fun _ _ j => ⟨true, j rfl⟩
 refine cl zq2 rfl (fun r4 w hr4 hO => zc9 x_b r4 _ (hG.own hF hO) hr4) fun r4 hr4 => ?_
 refine br rfl (fun hc5 => ?_) fun hc5 => ?_
 exact en rfl fun _ _ j => ⟨true, j rfl⟩
 refine cl zuw rfl (fun r6 w hr6 hO => zjp x_b [45, 46, 95, 126] r6 _ (hG.own hF hO) hr6) fun r6 hr6 => ?_
 exact en rfl fun _ _ j => ⟨r6, j rfl⟩
 rintro a w ⟨t7, hf, hO, hm⟩
 rw [zbE] at hm
 refine S.co tb ?_ hf hO hm
 exact rt Tryz.results222 rfl

theorem zl6 (x_b : UInt8) (R : Bool) (w0 : World) (hG : zr w0) (hm : zgo x_b = some R) :
    Calls Tryz.prog 223 #[zac x_b] w0 (Ret w0 (fun R => .bool R) R) := by
 rw [zgo] at hm
 have hF : zs [] := ze
 have hO : Dk.Own w0 [] w0 [] := Dk.Own.refl w0
 refine S.enter tb Tryz.func223 rfl Tryz.ntmps223 rfl ?_ hO hm
 refine cl zuw rfl (fun r2 w hr2 hO => zjp x_b [33, 36, 38, 39, 40, 41, 42, 43, 44, 59, 61] r2 _ (hG.own hF hO) hr2) fun r2 hr2 => ?_
 exact rt Tryz.results223 rfl

theorem zh2 (x_s : Str) (R : Bool) (w0 : World) (hG : zr w0) (hm : zds x_s = some R) :
    Calls Tryz.prog 179 #[str x_s] w0 (Ret w0 (fun R => .bool R) R) := by
 rw [zds] at hm
 have hF : zs [] := ze
 have hO : Dk.Own w0 [] w0 [] := Dk.Own.refl w0
 refine S.enter tb Tryz.func179 rfl Tryz.ntmps179 rfl ?_ hO hm
 refine br rfl (fun hc3 => ?_) fun hc3 => ?_
 exact rt Tryz.results179 rfl
 refine lv [] [] (fun J E L k => ∃ (s6 : Str), J ((0, str s6) :: E) (L) (zaw k s6)) rfl (fun _ _ j => ⟨x_s, j rfl⟩) ?_
 rintro n1 a w ⟨s6, hf, hO, hm⟩
 obtain _ | n1 := n1
 rw [zaw] at hm
 cases hm
 rw [zaw] at hm
 refine S.co tb ?_ hf hO hm
 refine br rfl (fun hc8 => ?_) fun hc8 => ?_
 refine cl c_221 rfl (fun r10 w hr10 hO => zmx s6 r10 _ (hG.own hF hO) hr10) fun r10 hr10 => ?_
 refine br rfl (fun hc12 => ?_) fun hc12 => ?_
 refine bi rfl fun s13 hs13 => ?_
 exact en rfl fun _ _ j => ⟨_, Nat.lt_succ_self _, s13, j rfl⟩
 refine jv 5 [0] [] (fun J E L => ∃ (t19 : Bool), J ((12, .bool t19) :: E) (L) (zdH (zaw n1) s6 t19)) rfl ?_ ?_
 refine bi rfl fun b14 hb14 => ?_
 refine cl c_222 rfl (fun r15 w hr15 hO => zhO b14 r15 _ (hG.own hF hO) hr15) fun r15 hr15 => ?_
 refine br rfl (fun hc16 => ?_) fun hc16 => ?_
 exact en rfl fun _ _ j => ⟨true, j rfl⟩
 refine bi rfl fun b17 hb17 => ?_
 refine cl c_223 rfl (fun r18 w hr18 hO => zl6 b17 r18 _ (hG.own hF hO) hr18) fun r18 hr18 => ?_
 exact en rfl fun _ _ j => ⟨r18, j rfl⟩
 rintro a w ⟨t19, hf, hO, hm⟩
 rw [zdH] at hm
 refine S.co tb ?_ hf hO hm
 refine br rfl (fun hc20 => ?_) fun hc20 => ?_
 refine bi rfl fun s21 hs21 => ?_
 exact en rfl fun _ _ j => ⟨_, Nat.lt_succ_self _, s21, j rfl⟩
 exact rt Tryz.results179 rfl
 exact rt Tryz.results179 rfl

end Go.Proofs
end
