/-
  Walks, written by a program (wip/gen): what its model says, the function returns; what was there before is as it was.
  Walks, written by a program (wip/gen): what its model says, the function returns; what was there before is as it was.
  Walks, written by a program (wip/gen): what its model says, the function returns; what was there before is as it was.
  Walks, written by a program (wip/gen): what its model says, the function returns; what was there before is as it was.
  Walks, written by a program (wip/gen): what its model says, the function returns; what was there before is as it was.
-/
import Derived.Test.YtoofmjmnhgdloaaGreatDoorLib
import Derived.Test.YtoofmjmnhgdloaaGreatDoorSq
section
set_option linter.unusedVariables false
set_option maxHeartbeats 1000000
set_option linter.unusedSimpArgs false
set_option maxRecDepth 100000
namespace Go.Proofs
open Go.Dk Go.Dm Go.RowKit

theorem zma (x_kind : Int) (x_limit : Int) (R : Option accum_Accum × Int) (w0 : World) (hG : zD w0) (hm : zgY x_kind x_limit = some R) :
    Calls Tryz.prog 9 #[int x_kind, int x_limit] w0 fun e w' => zq2 R.1 (e = .returned (.tuple #[.pointer none, int R.2]) ∧ Below w0.heap.size w0 w') (fun x => ∃ (b0 : Nat) (p1 : Option Addr) (c1 : Nat) (p2 : Option Addr) (c2 : Nat), e = .returned (.tuple #[ptr b0 0, int R.2]) ∧ Dk.Own w0 [] w' [.blk b0 [int x.f_kind, int x.f_limit, .slice p1 x.f_buf.length c1, int x.f_from, .bool x.f_took, int x.f_bad, .bool x.f_whole, int x.f_got.Kind, str x.f_got.Method, str x.f_got.Target, int x.f_got.Code, str x.f_got.Reason, int x.f_got.Minor, .slice p2 x.f_got.Fields.length c2] 61, .row (.slice p1 x.f_buf.length c1) 5 1 x.f_buf.length (cells zh x.f_buf), .row (.slice p2 x.f_got.Fields.length c2) 69 2 x.f_got.Fields.length (cells za x.f_got.Fields)]) := by
 rw [zgY] at hm
 have hF : zG [] := zg
 have hO : Dk.Own w0 [] w0 [] := Dk.Own.refl w0
 refine S.enter tb Tryz.func9 rfl Tryz.ntmps9 rfl ?_ hO hm
 refine jn 1 (fun a w => ∃ (t6 : Bool), Fits 24 [(0, int x_kind), (1, int x_limit), (19, .bool t6)] a ∧ Dk.Own w0 [] w [] ∧ zcS x_kind x_limit t6 = some R) rfl ?_ ?_
 refine br rfl (fun hc2 => ?_) fun hc2 => ?_
 refine br rfl (fun hc3 => ?_) fun hc3 => ?_
 exact en rfl fun a w hf hO hm => ⟨true, hf.sel rfl, hO, hm⟩
 refine br rfl (fun hc4 => ?_) fun hc4 => ?_
 exact en rfl fun a w hf hO hm => ⟨true, hf.sel rfl, hO, hm⟩
 exact en rfl fun a w hf hO hm => ⟨decide (65536 < x_limit), hf.sel rfl, hO, hm⟩
 refine br rfl (fun hc5 => ?_) fun hc5 => ?_
 exact en rfl fun a w hf hO hm => ⟨true, hf.sel rfl, hO, hm⟩
 exact en rfl fun a w hf hO hm => ⟨decide (65536 < x_limit), hf.sel rfl, hO, hm⟩
 rintro a w ⟨t6, hf, hO, hm⟩
 rw [zcS] at hm
 refine S.co tb ?_ hf hO hm
 refine br rfl (fun hc7 => ?_) fun hc7 => ?_
 refine re_ rfl fun a w hf hO hm => ?_
 obtain rfl := Option.some.inj hm
 exact zf Tryz.results9 hf (.tmp rfl (.tmp rfl .nil)) ⟨rfl, hO.below⟩
 refine vl rfl rfl (fun a w hf hO => zo (vs := [(0, int x_kind), (1, int x_limit)]) (v := .agg #[int x_kind, int x_limit, .slice none 0 0, int 0, .bool false, int 0, .bool false, int 0, str [], str [], int 0, str [], int 0, .slice none 0 0]) hf rfl (by kernel_rfl)) ?_
 refine rw_ rfl fun a w hf hO hm => ?_
 refine zeA (v := .agg #[int x_kind, int x_limit, .slice none 0 0, int 0, .bool false, int 0, .bool false, int 0, str [], str [], int 0, str [], int 0, .slice none 0 0]) (cs := [int x_kind, int x_limit, .slice none 0 0, int 0, .bool false, int 0, .bool false, int 0, str [], str [], int 0, str [], int 0, .slice none 0 0]) rfl hf rfl rfl hO fun a b10 w hf hO => ?_
 have hO := hO.nilRow 5 1
 have hO := hO.nilRow 69 2
 refine S.op tb ?_ hf hO hm
 refine re_ rfl fun a w hf hO hm => ?_
 obtain rfl := Option.some.inj hm
 exact zf Tryz.results9 hf (.tmp rfl (.tmp rfl .nil)) ⟨b10, none, 0, none, 0, rfl, (hO.choose [2, 1, 0] rfl)⟩

theorem zkB (x_a : accum_Accum) (R : Bool) (w0 : World) (hG : zD w0) {x_a_b0 : Nat} {x_a_p1 : Option Addr} {x_a_c1 : Nat} {x_a_p2 : Option Addr} {x_a_c2 : Nat} (hs0 : zaw w0 (some ⟨x_a_b0, 0, none⟩) [int x_a.f_kind, int x_a.f_limit, .slice x_a_p1 x_a.f_buf.length x_a_c1, int x_a.f_from, .bool x_a.f_took, int x_a.f_bad, .bool x_a.f_whole, int x_a.f_got.Kind, str x_a.f_got.Method, str x_a.f_got.Target, int x_a.f_got.Code, str x_a.f_got.Reason, int x_a.f_got.Minor, .slice x_a_p2 x_a.f_got.Fields.length x_a_c2]) (hs1 : zaw w0 x_a_p1 (cells zh x_a.f_buf)) (hc1 : x_a.f_buf.length ≤ x_a_c1) (hs2 : zaw w0 x_a_p2 (cells za x_a.f_got.Fields)) (hc2 : x_a.f_got.Fields.length ≤ x_a_c2) (hm : zdc x_a = some R) :
    Calls Tryz.prog 50 #[ptr x_a_b0 0] w0 (Ret w0 (fun R => .bool R) R) := by
 rw [zdc] at hm
 have hF : zG [] := zg
 have hO : Dk.Own w0 [] w0 [] := Dk.Own.refl w0
 have hO := hO.addShr hs0 (by simp [Res.shared])
 have hO := hO.addShr hs1 (by simp [Res.shared])
 have hO := hO.addShr hs2 (by simp [Res.shared])
 refine S.enter tb Tryz.func50 rfl Tryz.ntmps50 rfl ?_ hO hm
 refine vl rfl rfl (fun a w hf hO => zb (o := 2) zjy (hO.sees (i := 2) rfl) rfl hf rfl) ?_
 refine jn 0 (fun a w => ∃ (t8 : Bool), Fits 34 [(0, ptr x_a_b0 0), (3, int (x_a.f_buf.length : Int)), (4, .bool t8)] a ∧ Dk.Own w0 [] w [.shr x_a_p2 (cells za x_a.f_got.Fields), .shr x_a_p1 (cells zh x_a.f_buf), .shr (some ⟨x_a_b0, 0, none⟩) ([int x_a.f_kind, int x_a.f_limit, .slice x_a_p1 x_a.f_buf.length x_a_c1, int x_a.f_from, .bool x_a.f_took, int x_a.f_bad, .bool x_a.f_whole, int x_a.f_got.Kind, str x_a.f_got.Method, str x_a.f_got.Target, int x_a.f_got.Code, str x_a.f_got.Reason, int x_a.f_got.Minor, .slice x_a_p2 x_a.f_got.Fields.length x_a_c2])] ∧ zbv x_a t8 = some R) rfl ?_ ?_
 refine br rfl (fun hc3 => ?_) fun hc3 => ?_
 refine vl rfl rfl (fun a w hf hO => zb (o := 2) zjy (hO.sees (i := 2) rfl) rfl hf rfl) ?_
 refine bi rfl fun i4 hi4 => ?_
 refine rw_ rfl fun a w hf hO hm => ?_
 obtain ⟨x5, hx5, hm⟩ := ob hm
 obtain ⟨b6, o7, hix5, hSx5⟩ := zh1 (enc := zh) (sz := 1) (xs := x_a.f_buf) 23 Tryz.underlying23 sz_5 (by decide) (fun _ => rfl) (hO.sees (i := 1) rfl) hx5
 refine zaL (zw hix5 hf rfl rfl) rfl hf rfl rfl fun a hf => ?_
 refine S.op tb ?_ hf hO hm
 refine kn (b' := true) hc3 rfl ?_
 refine vl rfl rfl (fun a w hf hO => zb (o := 0) ag_5 (hSx5 _ (hO.sees (i := 1) rfl)) rfl hf rfl) ?_
 refine vl rfl rfl (fun a w hf hO => zU (b := x5) (c := 13) hf rfl rfl) ?_
 exact en rfl fun a w hf hO hm => ⟨x5 == 13, hf.sel rfl, hO, hm⟩
 exact en rfl fun a w hf hO hm => ⟨false, hf.sel rfl, hO, hm⟩
 rintro a w ⟨t8, hf, hO, hm⟩
 rw [zbv] at hm
 refine S.co tb ?_ hf hO hm
 refine vl rfl rfl (fun a w hf hO => zb (o := 2) zjy (hO.sees (i := 2) rfl) rfl hf rfl) ?_
 refine bi rfl fun i9 hi9 => ?_
 refine rw_ rfl fun a w hf hO hm => ?_
 obtain ⟨x10, hx10, hm⟩ := ob hm
 obtain ⟨b11, o12, hix10, hSx10⟩ := zh1 (enc := zh) (sz := 1) (xs := x_a.f_buf) 23 Tryz.underlying23 sz_5 (by decide) (fun _ => rfl) (hO.sees (i := 1) rfl) hx10
 refine zaL (zw hix10 hf rfl rfl) rfl hf rfl rfl fun a hf => ?_
 refine S.op tb ?_ hf hO hm
 refine vl rfl rfl (fun a w hf hO => zb (o := 0) ag_5 (hSx10 _ (hO.sees (i := 1) rfl)) rfl hf rfl) ?_
 refine vl rfl rfl (fun a w hf hO => zU (b := x10) (c := 10) hf rfl rfl) ?_
 refine vl rfl rfl (fun a w hf hO => zjK Tryz.underlying4 hf rfl rfl) ?_
 exact rt Tryz.results50 rfl

theorem zf4 (x_s : Str) (x_chars : Str) (R : Bool) (w0 : World) (hG : zD w0) (hm : strings_ContainsAny x_s x_chars = some R) :
    Calls Tryz.prog 52 #[str x_s, str x_chars] w0 (Ret w0 (fun R => .bool R) R) := by
 rw [strings_ContainsAny] at hm
 have hF : zG [] := zg
 have hO : Dk.Own w0 [] w0 [] := Dk.Own.refl w0
 refine S.enter tb Tryz.func52 rfl Tryz.ntmps52 rfl ?_ hO hm
 refine cl c_82 rfl (fun r2 w hr2 hO => zg7 x_s x_chars r2 _ (hG.own hF hO) hr2) fun r2 hr2 => ?_
 exact rt Tryz.results52 rfl

theorem zgI (x_s : Str) (x_c : UInt8) (R : Int) (w0 : World) (hG : zD w0) (hm : zbi x_s x_c = some R) :
    Calls Tryz.prog 132 #[str x_s, zY x_c] w0 (Ret w0 (fun R => int R) R) := by
 rw [zbi] at hm
 have hF : zG [] := zg
 have hO : Dk.Own w0 [] w0 [] := Dk.Own.refl w0
 refine S.enter tb Tryz.func132 rfl Tryz.ntmps132 rfl ?_ hO hm
 refine bi rfl fun i2 hi2 => ?_
 refine lp (fun k a w => ∃ (i4 : Int), Fits 19 [(0, str x_s), (1, zY x_c), (5, int i4)] a ∧ Dk.Own w0 [] w [] ∧ zK x_s x_c k i4 = some R) rfl (fun a w hf hO hm => ⟨i2, hf.sel rfl, hO, hm⟩) ?_
 rintro n1 a w ⟨i4, hf, hO, hm⟩
 obtain _ | n1 := n1
 rw [zK] at hm
 cases hm
 rw [zK] at hm
 refine S.co tb ?_ hf hO hm
 refine br rfl (fun hc6 => ?_) fun hc6 => ?_
 refine bi rfl fun b8 hb8 => ?_
 refine vl rfl rfl (fun a w hf hO => zU (b := b8) (c := x_c) hf rfl rfl) ?_
 refine br rfl (fun hc10 => ?_) fun hc10 => ?_
 exact rt Tryz.results132 rfl
 refine bi rfl fun i13 hi13 => ?_
 exact en rfl fun a w hf hO hm => ⟨_, Nat.lt_succ_self _, i13, hf.sel rfl, hO, hm⟩
 exact rt Tryz.results132 rfl

theorem zfw (x_s : Str) (x_c : UInt8) (R : Int) (w0 : World) (hG : zD w0) (hm : zaC x_s x_c = some R) :
    Calls Tryz.prog 84 #[str x_s, zY x_c] w0 (Ret w0 (fun R => int R) R) := by
 rw [zaC] at hm
 have hF : zG [] := zg
 have hO : Dk.Own w0 [] w0 [] := Dk.Own.refl w0
 refine S.enter tb Tryz.func84 rfl Tryz.ntmps84 rfl ?_ hO hm
 refine cl c_132 rfl (fun r2 w hr2 hO => zgI x_s x_c r2 _ (hG.own hF hO) hr2) fun r2 hr2 => ?_
 exact rt Tryz.results84 rfl

theorem ziM (x_s : Str) (R : scan_Scanner) (w0 : World) (hG : zD w0) (hm : zhh x_s = some R) :
    Calls Tryz.prog 57 #[str x_s] w0 fun e w' => ∃ (b0 : Nat), e = .returned (ptr b0 0) ∧ Dk.Own w0 [] w' [.blk b0 [str R.f_s, int R.f_at] 139] := by
 rw [zhh] at hm
 have hF : zG [] := zg
 have hO : Dk.Own w0 [] w0 [] := Dk.Own.refl w0
 refine S.enter tb Tryz.func57 rfl Tryz.ntmps57 rfl ?_ hO hm
 refine vl rfl rfl (fun a w hf hO => zo (vs := [(0, str x_s)]) (v := .agg #[str x_s, int 0]) hf rfl (by kernel_rfl)) ?_
 refine rw_ rfl fun a w hf hO hm => ?_
 refine zeA (v := .agg #[str x_s, int 0]) (cs := [str x_s, int 0]) rfl hf rfl rfl hO fun a b2 w hf hO => ?_
 refine S.op tb ?_ hf hO hm
 refine re_ rfl fun a w hf hO hm => ?_
 obtain rfl := Option.some.inj hm
 exact zf Tryz.results57 hf (.tmp rfl .nil) ⟨b2, rfl, hO⟩

theorem zbz (x_c : scan_Scanner) (R : Str) (w0 : World) (hG : zD w0) {x_c_b0 : Nat} (hs0 : zaw w0 (some ⟨x_c_b0, 0, none⟩) [str x_c.f_s, int x_c.f_at]) (hm : zX x_c = some R) :
    Calls Tryz.prog 63 #[ptr x_c_b0 0] w0 (Ret w0 (fun R => str R) R) := by
 rw [zX] at hm
 have hF : zG [] := zg
 have hO : Dk.Own w0 [] w0 [] := Dk.Own.refl w0
 have hO := hO.addShr hs0 (by simp [Res.shared])
 refine S.enter tb Tryz.func63 rfl Tryz.ntmps63 rfl ?_ hO hm
 refine vl rfl rfl (fun a w hf hO => zdo Tryz.underlying95 hf rfl rfl) ?_
 refine kn (b' := false) rfl rfl ?_
 refine rc_ rfl fun a w hf hO hm => ?_
 refine zfT (by kernel_rfl) (by kernel_rfl) hO ?_
 refine zn (fun w hO => zp hf rfl) rfl hf rfl rfl fun a hf => ?_
 refine zn (fun w hO => zag hf rfl) rfl hf rfl rfl fun a hf => ?_
 refine zn (fun w hO => zao zk3 hf rfl) rfl hf rfl rfl fun a hf => ?_
 refine zn (fun w hO => zb (o := 0) za6 (hO.sees (i := 0) rfl) rfl hf rfl) rfl hf rfl rfl fun a hf => ?_
 refine zn (fun w hO => zp hf rfl) rfl hf rfl rfl fun a hf => ?_
 refine zn (fun w hO => zag hf rfl) rfl hf rfl rfl fun a hf => ?_
 refine zn (fun w hO => zao zk4 hf rfl) rfl hf rfl rfl fun a hf => ?_
 refine zn (fun w hO => zb (o := 1) zfz (hO.sees (i := 0) rfl) rfl hf rfl) rfl hf rfl rfl fun a hf => ?_
 obtain ⟨s4, hs4, hm⟩ := ob hm
 refine zn (fun w hO => zjR (l := x_c.f_s) Tryz.underlying9 hf rfl rfl hs4) rfl hf rfl rfl fun a hf => ?_
 refine zn (fun w hO => zaE hf rfl) rfl hf rfl rfl fun a hf => ?_
 refine wpQuiet_nil ?_
 intro w hO
 refine S.no tb ?_ hf hO hm
 exact rt Tryz.results63 rfl

theorem zil (x_s : Str) (x_prefix : Str) (R : Bool) (w0 : World) (hG : zD w0) (hm : stringslite_HasPrefix x_s x_prefix = some R) :
    Calls Tryz.prog 186 #[str x_s, str x_prefix] w0 (Ret w0 (fun R => .bool R) R) := by
 rw [stringslite_HasPrefix] at hm
 have hF : zG [] := zg
 have hO : Dk.Own w0 [] w0 [] := Dk.Own.refl w0
 refine S.enter tb Tryz.func186 rfl Tryz.ntmps186 rfl ?_ hO hm
 refine jn 0 (fun a w => ∃ (t4 : Bool), Fits 18 [(4, .bool t4)] a ∧ Dk.Own w0 [] w [] ∧ zax t4 = some R) rfl ?_ ?_
 refine br rfl (fun hc2 => ?_) fun hc2 => ?_
 refine bi rfl fun s3 hs3 => ?_
 exact en rfl fun a w hf hO hm => ⟨s3 == x_prefix, hf.sel rfl, hO, hm⟩
 exact en rfl fun a w hf hO hm => ⟨false, hf.sel rfl, hO, hm⟩
 rintro a w ⟨t4, hf, hO, hm⟩
 rw [zax] at hm
 refine S.co tb ?_ hf hO hm
 exact rt Tryz.results186 rfl

theorem zeP (x_s : Str) (x_prefix : Str) (R : Bool) (w0 : World) (hG : zD w0) (hm : strings_HasPrefix x_s x_prefix = some R) :
    Calls Tryz.prog 167 #[str x_s, str x_prefix] w0 (Ret w0 (fun R => .bool R) R) := by
 rw [strings_HasPrefix] at hm
 have hF : zG [] := zg
 have hO : Dk.Own w0 [] w0 [] := Dk.Own.refl w0
 refine S.enter tb Tryz.func167 rfl Tryz.ntmps167 rfl ?_ hO hm
 refine cl c_186 rfl (fun r2 w hr2 hO => zil x_s x_prefix r2 _ (hG.own hF hO) hr2) fun r2 hr2 => ?_
 exact rt Tryz.results167 rfl

theorem zjZ (x_c : scan_Scanner) (x_t : Str) (R : Bool × scan_Scanner) (w0 : World) (hG : zD w0) {x_c_b0 : Nat} {F : List Nat} (hF : zG F) (hO : Dk.Own w0 F w0 [.blk x_c_b0 [str x_c.f_s, int x_c.f_at] 139]) (hm : zb3 x_c x_t = some R) :
    Calls Tryz.prog 165 #[ptr x_c_b0 0, str x_t] w0 fun e w' => e = .returned (.bool R.1) ∧ Dk.Own w0 F w' [.blk x_c_b0 [str R.2.f_s, int R.2.f_at] 139] := by
 rw [zb3] at hm
 refine S.enter tb Tryz.func165 rfl Tryz.ntmps165 rfl ?_ hO hm
 refine cl c_63 rfl (fun r2 w hr2 hO => zbz x_c r2 _ (hG.own hF hO) (hO.blkSees (i := 0) rfl) hr2) fun r2 hr2 => ?_
 refine cl ztz rfl (fun r3 w hr3 hO => zeP r2 x_t r3 _ (hG.own hF hO) hr3) fun r3 hr3 => ?_
 refine br rfl (fun hc5 => ?_) fun hc5 => ?_
 refine re_ rfl fun a w hf hO hm => ?_
 obtain rfl := Option.some.inj hm
 exact zf Tryz.results165 hf (.tmp rfl .nil) ⟨rfl, hO⟩
 refine vl rfl rfl (fun a w hf hO => zsD Tryz.underlying95 hf rfl rfl) ?_
 refine kn (b' := true) rfl rfl ?_
 refine vl rfl rfl (fun a w hf hO => zb (o := 1) zfz (hO.blkSees (i := 0) rfl) rfl hf rfl) ?_
 refine bi rfl fun i9 hi9 => ?_
 refine rw_ rfl fun a w hf hO hm => ?_
 refine zV (i := 0) (o := 1) (v := int i9) zrb rfl rfl rfl rfl hf rfl rfl hO fun w hO => ?_
 refine S.op tb ?_ hf hO hm
 refine re_ rfl fun a w hf hO hm => ?_
 obtain rfl := Option.some.inj hm
 exact zf Tryz.results165 hf (.tmp rfl .nil) ⟨rfl, hO⟩

theorem zfh (x_c : scan_Scanner) (R : Bool) (w0 : World) (hG : zD w0) {x_c_b0 : Nat} (hs0 : zaw w0 (some ⟨x_c_b0, 0, none⟩) [str x_c.f_s, int x_c.f_at]) (hm : za7 x_c = some R) :
    Calls Tryz.prog 89 #[ptr x_c_b0 0] w0 (Ret w0 (fun R => .bool R) R) := by
 rw [za7] at hm
 have hF : zG [] := zg
 have hO : Dk.Own w0 [] w0 [] := Dk.Own.refl w0
 have hO := hO.addShr hs0 (by simp [Res.shared])
 refine S.enter tb Tryz.func89 rfl Tryz.ntmps89 rfl ?_ hO hm
 refine cl c_63 rfl (fun r2 w hr2 hO => zbz x_c r2 _ (hG.own hF hO) (hO.sees (i := 0) rfl) hr2) fun r2 hr2 => ?_
 exact rt Tryz.results89 rfl

theorem zeQ (x_c : scan_Scanner) (R : UInt8 × Bool) (w0 : World) (hG : zD w0) {x_c_b0 : Nat} (hs0 : zaw w0 (some ⟨x_c_b0, 0, none⟩) [str x_c.f_s, int x_c.f_at]) (hm : z8 x_c = some R) :
    Calls Tryz.prog 101 #[ptr x_c_b0 0] w0 (Ret w0 (fun R => .tuple #[zY R.1, .bool R.2]) R) := by
 rw [z8] at hm
 have hF : zG [] := zg
 have hO : Dk.Own w0 [] w0 [] := Dk.Own.refl w0
 have hO := hO.addShr hs0 (by simp [Res.shared])
 refine S.enter tb Tryz.func101 rfl Tryz.ntmps101 rfl ?_ hO hm
 refine cl c_89 rfl (fun r2 w hr2 hO => zfh x_c r2 _ (hG.own hF hO) (hO.sees (i := 0) rfl) hr2) fun r2 hr2 => ?_
 refine br rfl (fun hc4 => ?_) fun hc4 => ?_
 exact rt Tryz.results101 rfl
 refine rc_ rfl fun a w hf hO hm => ?_
 refine zfT (by kernel_rfl) (by kernel_rfl) hO ?_
 refine zn (fun w hO => zp hf rfl) rfl hf rfl rfl fun a hf => ?_
 refine zn (fun w hO => zag hf rfl) rfl hf rfl rfl fun a hf => ?_
 refine zn (fun w hO => zao zk3 hf rfl) rfl hf rfl rfl fun a hf => ?_
 refine zn (fun w hO => zb (o := 0) za6 (hO.sees (i := 0) rfl) rfl hf rfl) rfl hf rfl rfl fun a hf => ?_
 refine zn (fun w hO => zp hf rfl) rfl hf rfl rfl fun a hf => ?_
 refine zn (fun w hO => zag hf rfl) rfl hf rfl rfl fun a hf => ?_
 refine zn (fun w hO => zao zk4 hf rfl) rfl hf rfl rfl fun a hf => ?_
 refine zn (fun w hO => zb (o := 1) zfz (hO.sees (i := 0) rfl) rfl hf rfl) rfl hf rfl rfl fun a hf => ?_
 obtain ⟨b7, hb7, hm⟩ := ob hm
 refine zn (fun w hO => zli (l := x_c.f_s) Tryz.underlying9 hf rfl rfl hb7) rfl hf rfl rfl fun a hf => ?_
 refine zn (fun w hO => zaE hf rfl) rfl hf rfl rfl fun a hf => ?_
 refine zn (fun w hO => zaE hf rfl) rfl hf rfl rfl fun a hf => ?_
 refine wpQuiet_nil ?_
 intro w hO
 refine S.no tb ?_ hf hO hm
 exact rt Tryz.results101 rfl

end Go.Proofs
end
section
set_option linter.unusedVariables false
set_option maxHeartbeats 1000000
set_option linter.unusedSimpArgs false
set_option maxRecDepth 100000
namespace Go.Proofs
open Go.Dk Go.Dm Go.RowKit

theorem zcb (x_b : UInt8) (R : Bool) (w0 : World) (hG : zD w0) (hm : zab x_b = some R) :
    Calls Tryz.prog 91 #[zY x_b] w0 (Ret w0 (fun R => .bool R) R) := by
 rw [zab] at hm
 have hF : zG [] := zg
 have hO : Dk.Own w0 [] w0 [] := Dk.Own.refl w0
 refine S.enter tb Tryz.func91 rfl Tryz.ntmps91 rfl ?_ hO hm
 refine jn 0 (fun a w => ∃ (t3 : Bool), Fits 9 [(2, .bool t3)] a ∧ Dk.Own w0 [] w [] ∧ zeD t3 = some R) rfl ?_ ?_
 refine vl rfl rfl (fun a w hf hO => zjJ (b := x_b) (c := 48) hf rfl rfl) ?_
 refine br rfl (fun hc2 => ?_) fun hc2 => ?_
 refine vl rfl rfl (fun a w hf hO => zlh (b := x_b) (c := 57) hf rfl rfl) ?_
 exact en rfl fun a w hf hO hm => ⟨decide (x_b ≤ 57), hf.sel rfl, hO, hm⟩
 exact en rfl fun a w hf hO hm => ⟨false, hf.sel rfl, hO, hm⟩
 rintro a w ⟨t3, hf, hO, hm⟩
 rw [zeD] at hm
 refine S.co tb ?_ hf hO hm
 exact rt Tryz.results91 rfl

theorem zaR (x_c : scan_Scanner) (x_b : UInt8) (R : Bool × scan_Scanner) (w0 : World) (hG : zD w0) {x_c_b0 : Nat} {F : List Nat} (hF : zG F) (hO : Dk.Own w0 F w0 [.blk x_c_b0 [str x_c.f_s, int x_c.f_at] 139]) (hm : zH x_c x_b = some R) :
    Calls Tryz.prog 60 #[ptr x_c_b0 0, zY x_b] w0 fun e w' => e = .returned (.bool R.1) ∧ Dk.Own w0 F w' [.blk x_c_b0 [str R.2.f_s, int R.2.f_at] 139] := by
 rw [zH] at hm
 refine S.enter tb Tryz.func60 rfl Tryz.ntmps60 rfl ?_ hO hm
 refine cl ztw rfl (fun r2 w hr2 hO => zeQ x_c r2 _ (hG.own hF hO) (hO.blkSees (i := 0) rfl) hr2) fun r2 hr2 => ?_
 refine jn 1 (fun a w => ∃ (t5 : Bool), Fits 26 [(0, ptr x_c_b0 0), (18, .bool t5)] a ∧ Dk.Own w0 F w [.blk x_c_b0 [str x_c.f_s, int x_c.f_at] 139] ∧ zbT x_c t5 = some R) rfl ?_ ?_
 refine br rfl (fun hc4 => ?_) fun hc4 => ?_
 exact en rfl fun a w hf hO hm => ⟨true, hf.sel rfl, hO, hm⟩
 refine vl rfl rfl (fun a w hf hO => zcJ (b := r2.1) (c := x_b) hf rfl rfl) ?_
 exact en rfl fun a w hf hO hm => ⟨!(r2.1 == x_b), hf.sel rfl, hO, hm⟩
 rintro a w ⟨t5, hf, hO, hm⟩
 rw [zbT] at hm
 refine S.co tb ?_ hf hO hm
 refine br rfl (fun hc6 => ?_) fun hc6 => ?_
 refine re_ rfl fun a w hf hO hm => ?_
 obtain rfl := Option.some.inj hm
 exact zf Tryz.results60 hf (.tmp rfl .nil) ⟨rfl, hO⟩
 refine vl rfl rfl (fun a w hf hO => zb (o := 1) zfz (hO.blkSees (i := 0) rfl) rfl hf rfl) ?_
 refine bi rfl fun i9 hi9 => ?_
 refine rw_ rfl fun a w hf hO hm => ?_
 refine zV (i := 0) (o := 1) (v := int i9) zrb rfl rfl rfl rfl hf rfl rfl hO fun w hO => ?_
 refine S.op tb ?_ hf hO hm
 refine re_ rfl fun a w hf hO hm => ?_
 obtain rfl := Option.some.inj hm
 exact zf Tryz.results60 hf (.tmp rfl .nil) ⟨rfl, hO⟩

theorem zfR (x_p : startline_line) (R : Int × Bool × scan_Scanner) (w0 : World) (hG : zD w0) {x_p_b0 : Nat} {F : List Nat} (hF : zG F) (hO : Dk.Own w0 F w0 [.blk x_p_b0 [str x_p.Scanner.f_s, int x_p.Scanner.f_at] 139]) (hm : za9 x_p = some R) :
    Calls Tryz.prog 166 #[.agg #[ptr x_p_b0 0]] w0 fun e w' => e = .returned (.tuple #[int R.1, .bool R.2.1]) ∧ Dk.Own w0 F w' [.blk x_p_b0 [str R.2.2.f_s, int R.2.2.f_at] 139] := by
 rw [za9] at hm
 refine S.enter tb Tryz.func166 rfl Tryz.ntmps166 rfl ?_ hO hm
 refine rw_ rfl fun a w hf hO hm => ?_
 refine zeA (v := .agg #[ptr x_p_b0 0]) (cs := [ptr x_p_b0 0]) rfl hf rfl rfl hO fun a b1 w hf hO => ?_
 refine S.op tb ?_ hf hO hm
 refine vl rfl rfl (fun a w hf hO => zb (o := 0) zhz (hO.blkSees (i := 0) rfl) rfl hf rfl) ?_
 refine cl ztw rfl (fun r3 w hr3 hO => zeQ x_p.Scanner r3 _ (hG.own hF hO) (hO.blkSees (i := 1) rfl) hr3) fun r3 hr3 => ?_
 refine jn 1 (fun a w => ∃ (t7 : Bool), Fits 26 [(1, ptr b1 0), (4, zY r3.1), (18, .bool t7)] a ∧ Dk.Own w0 F w [.blk b1 [ptr x_p_b0 0] 125, .blk x_p_b0 [str x_p.Scanner.f_s, int x_p.Scanner.f_at] 139] ∧ za8 x_p r3 t7 = some R) rfl ?_ ?_
 refine br rfl (fun hc5 => ?_) fun hc5 => ?_
 exact en rfl fun a w hf hO hm => ⟨true, hf.sel rfl, hO, hm⟩
 refine cl zrd rfl (fun r6 w hr6 hO => zcb r3.1 r6 _ (hG.own hF hO) hr6) fun r6 hr6 => ?_
 exact en rfl fun a w hf hO hm => ⟨!r6, hf.sel rfl, hO, hm⟩
 rintro a w ⟨t7, hf, hO, hm⟩
 rw [za8] at hm
 refine S.co tb ?_ hf hO hm
 refine br rfl (fun hc8 => ?_) fun hc8 => ?_
 refine re_ rfl fun a w hf hO hm => ?_
 obtain rfl := Option.some.inj hm
 exact zf Tryz.results166 hf (.tmp rfl (.tmp rfl .nil)) ⟨rfl, (hO.sub (.cons _ (.cons_cons _ .slnil)))⟩
 refine vl rfl rfl (fun a w hf hO => zb (o := 0) zhz (hO.blkSees (i := 0) rfl) rfl hf rfl) ?_
 refine rw_ rfl fun a w hf hO hm => ?_
 obtain ⟨r11, hr11, hm⟩ := ob hm
 have hch12 := (show Dk.Own w0 F _ ([.blk x_p_b0 [str x_p.Scanner.f_s, int x_p.Scanner.f_at] 139] ++ [.blk b1 [ptr x_p_b0 0] 125]) from hO.choose [1, 0] rfl)
 have hfar12 := Dk.Own.far hch12 rfl hF hG.size
 have hlend12 := hch12.lend (S := []) rfl trivial
 have hcl12 := zaR x_p.Scanner r3.1 r11 _ (hG.own hF hO) hfar12 hlend12 hr11
 refine zv (zt zrc hf (vs := [ptr x_p_b0 0, zY r3.1]) rfl) rfl hf rfl rfl (hcl12) ?_
 rintro e w' ⟨he, hO'⟩
 refine ⟨_, he, fun a hf => ?_⟩
 have hO := hch12.back rfl hO' rfl
 refine S.op tb ?_ hf hO hm
 refine vl rfl rfl (fun a w hf hO => znO (b := r3.1) (c := 48) hf rfl rfl) ?_
 refine vl rfl rfl (fun a w hf hO => zjS Tryz.underlying3 Tryz.underlying5 (zlk _) hf (kd := .u8) rfl) ?_
 refine re_ rfl fun a w hf hO hm => ?_
 obtain rfl := Option.some.inj hm
 exact zf Tryz.results166 hf (.tmp rfl (.tmp rfl .nil)) ⟨rfl, (hO.sub (.cons_cons _ (.cons _ .slnil)))⟩

theorem ze7 (x_p : startline_line) (R : Int × Int × Bool × scan_Scanner) (w0 : World) (hG : zD w0) {x_p_b0 : Nat} {F : List Nat} (hF : zG F) (hO : Dk.Own w0 F w0 [.blk x_p_b0 [str x_p.Scanner.f_s, int x_p.Scanner.f_at] 139]) (hm : zaO x_p = some R) :
    Calls Tryz.prog 131 #[.agg #[ptr x_p_b0 0]] w0 fun e w' => e = .returned (.tuple #[int R.1, int R.2.1, .bool R.2.2.1]) ∧ Dk.Own w0 F w' [.blk x_p_b0 [str R.2.2.2.f_s, int R.2.2.2.f_at] 139] := by
 rw [zaO] at hm
 refine S.enter tb Tryz.func131 rfl Tryz.ntmps131 rfl ?_ hO hm
 refine rw_ rfl fun a w hf hO hm => ?_
 refine zeA (v := .agg #[ptr x_p_b0 0]) (cs := [ptr x_p_b0 0]) rfl hf rfl rfl hO fun a b1 w hf hO => ?_
 refine S.op tb ?_ hf hO hm
 refine vl rfl rfl (fun a w hf hO => zb (o := 0) zhz (hO.blkSees (i := 0) rfl) rfl hf rfl) ?_
 refine rw_ rfl fun a w hf hO hm => ?_
 obtain ⟨r3, hr3, hm⟩ := ob hm
 have hch4 := (show Dk.Own w0 F _ ([.blk x_p_b0 [str x_p.Scanner.f_s, int x_p.Scanner.f_at] 139] ++ [.blk b1 [ptr x_p_b0 0] 125]) from hO.choose [1, 0] rfl)
 have hfar4 := Dk.Own.far hch4 rfl hF hG.size
 have hlend4 := hch4.lend (S := []) rfl trivial
 have hcl4 := zjZ x_p.Scanner [72, 84, 84, 80, 47] r3 _ (hG.own hF hO) hfar4 hlend4 hr3
 refine zv (zt c_165 hf (vs := [ptr x_p_b0 0, str [72, 84, 84, 80, 47]]) rfl) rfl hf rfl rfl (hcl4) ?_
 rintro e w' ⟨he, hO'⟩
 refine ⟨_, he, fun a hf => ?_⟩
 have hO := hch4.back rfl hO' rfl
 refine S.op tb ?_ hf hO hm
 refine br rfl (fun hc6 => ?_) fun hc6 => ?_
 refine re_ rfl fun a w hf hO hm => ?_
 obtain rfl := Option.some.inj hm
 exact zf Tryz.results131 hf (.tmp rfl (.tmp rfl (.tmp rfl .nil))) ⟨rfl, (hO.sub (.cons_cons _ (.cons _ .slnil)))⟩
 refine vl rfl rfl (fun a w hf hO => zu (o := 0) (vs := [ptr x_p_b0 0]) zlC ziI (hO.blkSees (i := 1) rfl) rfl rfl hf rfl) ?_
 refine rw_ rfl fun a w hf hO hm => ?_
 obtain ⟨r9, hr9, hm⟩ := ob hm
 have hch10 := (show Dk.Own w0 F _ ([.blk x_p_b0 [str r3.2.f_s, int r3.2.f_at] 139] ++ [.blk b1 [ptr x_p_b0 0] 125]) from hO)
 have hfar10 := Dk.Own.far hch10 rfl hF hG.size
 have hlend10 := hch10.lend (S := []) rfl trivial
 have hcl10 := zfR (⟨r3.2⟩ : startline_line) r9 _ (hG.own hF hO) hfar10 hlend10 hr9
 refine zv (zt c_166 hf (vs := [.agg #[ptr x_p_b0 0]]) rfl) rfl hf rfl rfl (hcl10) ?_
 rintro e w' ⟨he, hO'⟩
 refine ⟨_, he, fun a hf => ?_⟩
 have hO := hch10.back rfl hO' rfl
 refine S.op tb ?_ hf hO hm
 refine vl rfl rfl (fun a w hf hO => zb (o := 0) zhz (hO.blkSees (i := 1) rfl) rfl hf rfl) ?_
 refine rw_ rfl fun a w hf hO hm => ?_
 obtain ⟨r12, hr12, hm⟩ := ob hm
 have hch13 := (show Dk.Own w0 F _ ([.blk x_p_b0 [str r9.2.2.f_s, int r9.2.2.f_at] 139] ++ [.blk b1 [ptr x_p_b0 0] 125]) from hO)
 have hfar13 := Dk.Own.far hch13 rfl hF hG.size
 have hlend13 := hch13.lend (S := []) rfl trivial
 have hcl13 := zaR r9.2.2 46 r12 _ (hG.own hF hO) hfar13 hlend13 hr12
 refine zv (zt zrc hf (vs := [ptr x_p_b0 0, zY 46]) rfl) rfl hf rfl rfl (hcl13) ?_
 rintro e w' ⟨he, hO'⟩
 refine ⟨_, he, fun a hf => ?_⟩
 have hO := hch13.back rfl hO' rfl
 refine S.op tb ?_ hf hO hm
 refine vl rfl rfl (fun a w hf hO => zu (o := 0) (vs := [ptr x_p_b0 0]) zlC ziI (hO.blkSees (i := 1) rfl) rfl rfl hf rfl) ?_
 refine rw_ rfl fun a w hf hO hm => ?_
 obtain ⟨r15, hr15, hm⟩ := ob hm
 have hch16 := (show Dk.Own w0 F _ ([.blk x_p_b0 [str r12.2.f_s, int r12.2.f_at] 139] ++ [.blk b1 [ptr x_p_b0 0] 125]) from hO)
 have hfar16 := Dk.Own.far hch16 rfl hF hG.size
 have hlend16 := hch16.lend (S := []) rfl trivial
 have hcl16 := zfR (⟨r12.2⟩ : startline_line) r15 _ (hG.own hF hO) hfar16 hlend16 hr15
 refine zv (zt c_166 hf (vs := [.agg #[ptr x_p_b0 0]]) rfl) rfl hf rfl rfl (hcl16) ?_
 rintro e w' ⟨he, hO'⟩
 refine ⟨_, he, fun a hf => ?_⟩
 have hO := hch16.back rfl hO' rfl
 refine S.op tb ?_ hf hO hm
 refine jn 0 (fun a w => ∃ (t20 : Bool), Fits 36 [(2, int r9.1), (3, int r15.1), (4, .bool t20)] a ∧ Dk.Own w0 F w [.blk x_p_b0 [str r15.2.2.f_s, int r15.2.2.f_at] 139, .blk b1 [ptr x_p_b0 0] 125] ∧ zaQ r9 r15 t20 = some R) rfl ?_ ?_
 refine br rfl (fun hc18 => ?_) fun hc18 => ?_
 refine br rfl (fun hc19 => ?_) fun hc19 => ?_
 exact en rfl fun a w hf hO hm => ⟨r15.2.1, hf.sel rfl, hO, hm⟩
 exact en rfl fun a w hf hO hm => ⟨false, hf.sel rfl, hO, hm⟩
 exact en rfl fun a w hf hO hm => ⟨false, hf.sel rfl, hO, hm⟩
 rintro a w ⟨t20, hf, hO, hm⟩
 rw [zaQ] at hm
 refine S.co tb ?_ hf hO hm
 refine re_ rfl fun a w hf hO hm => ?_
 obtain rfl := Option.some.inj hm
 exact zf Tryz.results131 hf (.tmp rfl (.tmp rfl (.tmp rfl .nil))) ⟨rfl, (hO.sub (.cons_cons _ (.cons _ .slnil)))⟩

theorem zhL (x_s : Str) (R : Bool) (w0 : World) (hG : zD w0) (hm : zcM x_s = some R) :
    Calls Tryz.prog 83 #[str x_s] w0 (Ret w0 (fun R => .bool R) R) := by
 rw [zcM] at hm
 have hF : zG [] := zg
 have hO : Dk.Own w0 [] w0 [] := Dk.Own.refl w0
 refine S.enter tb Tryz.func83 rfl Tryz.ntmps83 rfl ?_ hO hm
 refine rw_ rfl fun a w hf hO hm => ?_
 obtain ⟨r2, hr2, hm⟩ := ob hm
 refine zv (zt c_57 hf (vs := [str x_s]) rfl) rfl hf rfl rfl (ziM x_s r2 _ (hG.own hF hO) hr2) ?_
 rintro e w' ⟨b3, he, hO'⟩
 refine ⟨_, he, fun a hf => ?_⟩
 have hO := hO.call hO' (by simp [Res.shared])
 refine S.op tb ?_ hf hO hm
 refine vl rfl rfl (fun a w hf hO => zo (vs := [(0, ptr b3 0)]) (v := .agg #[ptr b3 0]) hf rfl (by kernel_rfl)) ?_
 refine rw_ rfl fun a w hf hO hm => ?_
 refine zx zq9 hf rfl hO fun a b4 w hf hO => ?_
 refine S.op tb ?_ hf hO hm
 refine rw_ rfl fun a w hf hO hm => ?_
 refine zd (i := 0) (n := 1) ziI rfl rfl rfl (by simp [Value.oneCell']) hf rfl rfl hO fun w hO => ?_
 refine S.op tb ?_ hf hO hm
 refine vl rfl rfl (fun a w hf hO => zu (o := 0) (vs := [ptr b3 0]) zlC ziI (hO.blkSees (i := 0) rfl) rfl rfl hf rfl) ?_
 refine rw_ rfl fun a w hf hO hm => ?_
 obtain ⟨r6, hr6, hm⟩ := ob hm
 have hch7 := (show Dk.Own w0 [] _ ([.blk b3 [str r2.f_s, int r2.f_at] 139] ++ [.blk b4 [ptr b3 0] 125]) from hO.choose [1, 0] rfl)
 have hfar7 := Dk.Own.far hch7 rfl hF hG.size
 have hlend7 := hch7.lend (S := []) rfl trivial
 have hcl7 := ze7 (⟨r2⟩ : startline_line) r6 _ (hG.own hF hO) hfar7 hlend7 hr6
 refine zv (zt c_131 hf (vs := [.agg #[ptr b3 0]]) rfl) rfl hf rfl rfl (hcl7) ?_
 rintro e w' ⟨he, hO'⟩
 refine ⟨_, he, fun a hf => ?_⟩
 have hO := hch7.back rfl hO' rfl
 refine S.op tb ?_ hf hO hm
 refine jn 0 (fun a w => ∃ (t13 : Bool), Fits 30 [(2, .bool t13)] a ∧ Dk.Own w0 [] w [.blk b3 [str r6.2.2.2.f_s, int r6.2.2.2.f_at] 139, .blk b4 [ptr b3 0] 125] ∧ za3 t13 = some R) rfl ?_ ?_
 refine br rfl (fun hc9 => ?_) fun hc9 => ?_
 refine vl rfl rfl (fun a w hf hO => zb (o := 0) zhz (hO.blkSees (i := 1) rfl) rfl hf rfl) ?_
 refine cl c_89 rfl (fun r10 w hr10 hO => zfh r6.2.2.2 r10 _ (hG.own hF hO) (hO.blkSees (i := 0) rfl) hr10) fun r10 hr10 => ?_
 refine br rfl (fun hc11 => ?_) fun hc11 => ?_
 refine br rfl (fun hc12 => ?_) fun hc12 => ?_
 exact en rfl fun a w hf hO hm => ⟨true, hf.sel rfl, hO, hm⟩
 exact en rfl fun a w hf hO hm => ⟨decide (1 < r6.2.1), hf.sel rfl, hO, hm⟩
 exact en rfl fun a w hf hO hm => ⟨false, hf.sel rfl, hO, hm⟩
 exact en rfl fun a w hf hO hm => ⟨false, hf.sel rfl, hO, hm⟩
 rintro a w ⟨t13, hf, hO, hm⟩
 rw [za3] at hm
 refine S.co tb ?_ hf hO hm
 exact rt Tryz.results83 rfl

theorem zkZ (x_c : scan_Scanner) (R : Int) (w0 : World) (hG : zD w0) {x_c_b0 : Nat} (hs0 : zaw w0 (some ⟨x_c_b0, 0, none⟩) [str x_c.f_s, int x_c.f_at]) (hm : ze9 x_c = some R) :
    Calls Tryz.prog 133 #[ptr x_c_b0 0] w0 (Ret w0 (fun R => int R) R) := by
 rw [ze9] at hm
 have hF : zG [] := zg
 have hO : Dk.Own w0 [] w0 [] := Dk.Own.refl w0
 have hO := hO.addShr hs0 (by simp [Res.shared])
 refine S.enter tb Tryz.func133 rfl Tryz.ntmps133 rfl ?_ hO hm
 refine vl rfl rfl (fun a w hf hO => zdo Tryz.underlying95 hf rfl rfl) ?_
 refine kn (b' := false) rfl rfl ?_
 refine vl rfl rfl (fun a w hf hO => zb (o := 1) zfz (hO.sees (i := 0) rfl) rfl hf rfl) ?_
 exact rt Tryz.results133 rfl

theorem zc0 (x_c : scan_Scanner) (x_is : UInt8 → Option Bool) (R : Str × scan_Scanner) (w0 : World) (hG : zD w0) {x_c_b0 : Nat} {F : List Nat} (hF : zG F) (hO : Dk.Own w0 F w0 [.blk x_c_b0 [str x_c.f_s, int x_c.f_at] 139]) {x_is_f : Nat} {x_is_p x_is_c : Array Value} (x_is_k : ze Tryz.prog x_is_f) (x_is_h : ∀ (y0 : UInt8) (r : Bool) (w : World), zD w → x_is y0 = some r → Calls Tryz.prog x_is_f (x_is_p ++ [zY y0].toArray ++ x_is_c) w fun e w' => e = .returned (.bool r) ∧ Below w.heap.size w w') (hm : zar x_c x_is = some R) :
    Calls Tryz.prog 85 #[ptr x_c_b0 0, .func (.func x_is_f) x_is_p x_is_c] w0 fun e w' => e = .returned (str R.1) ∧ Dk.Own w0 F w' [.blk x_c_b0 [str R.2.f_s, int R.2.f_at] 139] := by
 rw [zar] at hm
 refine S.enter tb Tryz.func85 rfl Tryz.ntmps85 rfl ?_ hO hm
 refine cl c_133 rfl (fun r2 w hr2 hO => zkZ x_c r2 _ (hG.own hF hO) (hO.blkSees (i := 0) rfl) hr2) fun r2 hr2 => ?_
 refine jn 0 (fun a w => ∃ (s14 : Str) (i15 : Int), Fits 42 [(0, ptr x_c_b0 0), (5, int r2)] a ∧ Dk.Own w0 F w [.blk x_c_b0 [str s14, int i15] 139] ∧ zbF r2 s14 i15 = some R) rfl ?_ ?_
 refine lp (fun k a w => ∃ (s4 : Str) (i5 : Int), Fits 42 [(0, ptr x_c_b0 0), (1, .func (.func x_is_f) x_is_p x_is_c), (5, int r2)] a ∧ Dk.Own w0 F w [.blk x_c_b0 [str s4, int i5] 139] ∧ zR x_is r2 k s4 i5 = some R) rfl (fun a w hf hO hm => ⟨x_c.f_s, x_c.f_at, hf.sel rfl, hO, hm⟩) ?_
 rintro n1 a w ⟨s4, i5, hf, hO, hm⟩
 obtain _ | n1 := n1
 rw [zR] at hm
 cases hm
 rw [zR] at hm
 refine S.co tb ?_ hf hO hm
 refine cl ztw rfl (fun r6 w hr6 hO => zeQ (⟨s4, i5⟩ : scan_Scanner) r6 _ (hG.own hF hO) (hO.blkSees (i := 0) rfl) hr6) fun r6 hr6 => ?_
 refine jn 5 (fun a w => ∃ (t10 : Bool), Fits 42 [(0, ptr x_c_b0 0), (1, .func (.func x_is_f) x_is_p x_is_c), (5, int r2), (22, .bool t10)] a ∧ Dk.Own w0 F w [.blk x_c_b0 [str s4, int i5] 139] ∧ zaU (zR x_is r2 n1) r2 s4 i5 t10 = some R) rfl ?_ ?_
 refine br rfl (fun hc8 => ?_) fun hc8 => ?_
 exact en rfl fun a w hf hO hm => ⟨true, hf.sel rfl, hO, hm⟩
 refine rw_ rfl fun a w hf hO hm => ?_
 obtain ⟨r9, hr9, hm⟩ := ob hm
 refine oc (zqL x_is_k hf rfl (vs := [zY r6.1]) rfl) hf rfl (x_is_h r6.1 r9 _ (hG.own hF hO) hr9) hO fun a w' hf hO => ?_
 refine S.op tb ?_ hf hO hm
 refine kn (b' := false) hc8 rfl ?_
 exact en rfl fun a w hf hO hm => ⟨!r9, hf.sel rfl, hO, hm⟩
 rintro a w ⟨t10, hf, hO, hm⟩
 rw [zaU] at hm
 refine S.co tb ?_ hf hO hm
 refine br rfl (fun hc11 => ?_) fun hc11 => ?_
 exact en rfl fun a w hf hO hm => ⟨s4, i5, hf.sel rfl, hO, hm⟩
 refine vl rfl rfl (fun a w hf hO => zb (o := 1) zfz (hO.blkSees (i := 0) rfl) rfl hf rfl) ?_
 refine bi rfl fun i13 hi13 => ?_
 refine rw_ rfl fun a w hf hO hm => ?_
 refine zV (i := 0) (o := 1) (v := int i13) zrb rfl rfl rfl rfl hf rfl rfl hO fun w hO => ?_
 refine S.op tb ?_ hf hO hm
 exact en rfl fun a w hf hO hm => ⟨_, Nat.lt_succ_self _, s4, i13, hf.sel rfl, hO, hm⟩
 rintro a w ⟨s14, i15, hf, hO, hm⟩
 rw [zbF] at hm
 refine S.co tb ?_ hf hO hm
 refine vl rfl rfl (fun a w hf hO => zdo Tryz.underlying95 hf rfl rfl) ?_
 refine kn (b' := false) rfl rfl ?_
 refine rc_ rfl fun a w hf hO hm => ?_
 refine zfT (by kernel_rfl) (by kernel_rfl) hO ?_
 refine zn (fun w hO => zp hf rfl) rfl hf rfl rfl fun a hf => ?_
 refine zn (fun w hO => zag hf rfl) rfl hf rfl rfl fun a hf => ?_
 refine zn (fun w hO => zao zk3 hf rfl) rfl hf rfl rfl fun a hf => ?_
 refine zn (fun w hO => zb (o := 0) za6 (hO.blkSees (i := 0) rfl) rfl hf rfl) rfl hf rfl rfl fun a hf => ?_
 refine zn (fun w hO => zp hf rfl) rfl hf rfl rfl fun a hf => ?_
 refine zn (fun w hO => zp hf rfl) rfl hf rfl rfl fun a hf => ?_
 refine zn (fun w hO => zag hf rfl) rfl hf rfl rfl fun a hf => ?_
 refine zn (fun w hO => zao zk4 hf rfl) rfl hf rfl rfl fun a hf => ?_
 refine zn (fun w hO => zb (o := 1) zfz (hO.blkSees (i := 0) rfl) rfl hf rfl) rfl hf rfl rfl fun a hf => ?_
 obtain ⟨s18, hs18, hm⟩ := ob hm
 refine zn (fun w hO => zlj (l := s14) Tryz.underlying9 hf rfl rfl rfl hs18) rfl hf rfl rfl fun a hf => ?_
 refine zn (fun w hO => zaE hf rfl) rfl hf rfl rfl fun a hf => ?_
 refine wpQuiet_nil ?_
 intro w hO
 refine S.no tb ?_ hf hO hm
 refine re_ rfl fun a w hf hO hm => ?_
 obtain rfl := Option.some.inj hm
 exact zf Tryz.results85 hf (.tmp rfl .nil) ⟨rfl, hO⟩

theorem zdZ (x_b : UInt8) (R : UInt8) (w0 : World) (hG : zD w0) (hm : zaT x_b = some R) :
    Calls Tryz.prog 172 #[zY x_b] w0 (Ret w0 (fun R => zY R) R) := by
 rw [zaT] at hm
 have hF : zG [] := zg
 have hO : Dk.Own w0 [] w0 [] := Dk.Own.refl w0
 refine S.enter tb Tryz.func172 rfl Tryz.ntmps172 rfl ?_ hO hm
 refine jn 1 (fun a w => ∃ (t3 : Bool), Fits 12 [(0, zY x_b), (8, .bool t3)] a ∧ Dk.Own w0 [] w [] ∧ zfF x_b t3 = some R) rfl ?_ ?_
 refine vl rfl rfl (fun a w hf hO => zjJ (b := x_b) (c := 65) hf rfl rfl) ?_
 refine br rfl (fun hc2 => ?_) fun hc2 => ?_
 refine vl rfl rfl (fun a w hf hO => zlh (b := x_b) (c := 90) hf rfl rfl) ?_
 exact en rfl fun a w hf hO hm => ⟨decide (x_b ≤ 90), hf.sel rfl, hO, hm⟩
 exact en rfl fun a w hf hO hm => ⟨false, hf.sel rfl, hO, hm⟩
 rintro a w ⟨t3, hf, hO, hm⟩
 rw [zfF] at hm
 refine S.co tb ?_ hf hO hm
 refine br rfl (fun hc4 => ?_) fun hc4 => ?_
 refine vl rfl rfl (fun a w hf hO => zt0 (b := x_b) (c := 32) hf rfl rfl) ?_
 exact rt Tryz.results172 rfl
 exact rt Tryz.results172 rfl

theorem zi0 (x_b : UInt8) (R : Bool) (w0 : World) (hG : zD w0) (hm : zgm x_b = some R) :
    Calls Tryz.prog 142 #[zY x_b] w0 (Ret w0 (fun R => .bool R) R) := by
 rw [zgm] at hm
 have hF : zG [] := zg
 have hO : Dk.Own w0 [] w0 [] := Dk.Own.refl w0
 refine S.enter tb Tryz.func142 rfl Tryz.ntmps142 rfl ?_ hO hm
 refine jn 0 (fun a w => ∃ (t5 : Bool), Fits 11 [(2, .bool t5)] a ∧ Dk.Own w0 [] w [] ∧ zeE t5 = some R) rfl ?_ ?_
 refine cl zqu rfl (fun r2 w hr2 hO => zdZ x_b r2 _ (hG.own hF hO) hr2) fun r2 hr2 => ?_
 refine vl rfl rfl (fun a w hf hO => zjJ (b := r2) (c := 97) hf rfl rfl) ?_
 refine br rfl (fun hc3 => ?_) fun hc3 => ?_
 refine cl zqu rfl (fun r4 w hr4 hO => zdZ x_b r4 _ (hG.own hF hO) hr4) fun r4 hr4 => ?_
 refine vl rfl rfl (fun a w hf hO => zlh (b := r4) (c := 122) hf rfl rfl) ?_
 exact en rfl fun a w hf hO hm => ⟨decide (r4 ≤ 122), hf.sel rfl, hO, hm⟩
 exact en rfl fun a w hf hO hm => ⟨false, hf.sel rfl, hO, hm⟩
 rintro a w ⟨t5, hf, hO, hm⟩
 rw [zeE] at hm
 refine S.co tb ?_ hf hO hm
 exact rt Tryz.results142 rfl

theorem zhM (x_b : UInt8) (x_l : Str) (R : Bool) (w0 : World) (hG : zD w0) (hm : zgZ x_b x_l = some R) :
    Calls Tryz.prog 143 #[zY x_b, str x_l] w0 (Ret w0 (fun R => .bool R) R) := by
 rw [zgZ] at hm
 have hF : zG [] := zg
 have hO : Dk.Own w0 [] w0 [] := Dk.Own.refl w0
 refine S.enter tb Tryz.func143 rfl Tryz.ntmps143 rfl ?_ hO hm
 refine cl c_163 rfl (fun r2 w hr2 hO => zgQ x_l x_b r2 _ (hG.own hF hO) hr2) fun r2 hr2 => ?_
 exact rt Tryz.results143 rfl

theorem zmo (x_b : UInt8) (R : Bool) (w0 : World) (hG : zD w0) (hm : zdO x_b = some R) :
    Calls Tryz.prog 100 #[zY x_b] w0 (Ret w0 (fun R => .bool R) R) := by
 rw [zdO] at hm
 have hF : zG [] := zg
 have hO : Dk.Own w0 [] w0 [] := Dk.Own.refl w0
 refine S.enter tb Tryz.func100 rfl Tryz.ntmps100 rfl ?_ hO hm
 refine jn 0 (fun a w => ∃ (t7 : Bool), Fits 13 [(2, .bool t7)] a ∧ Dk.Own w0 [] w [] ∧ zdd t7 = some R) rfl ?_ ?_
 refine cl c_142 rfl (fun r2 w hr2 hO => zi0 x_b r2 _ (hG.own hF hO) hr2) fun r2 hr2 => ?_
 refine br rfl (fun hc3 => ?_) fun hc3 => ?_
 exact en rfl fun a w hf hO hm => ⟨true, hf.sel rfl, hO, hm⟩
 refine cl zrd rfl (fun r4 w hr4 hO => zcb x_b r4 _ (hG.own hF hO) hr4) fun r4 hr4 => ?_
 refine br rfl (fun hc5 => ?_) fun hc5 => ?_
 exact en rfl fun a w hf hO hm => ⟨true, hf.sel rfl, hO, hm⟩
 refine cl zrP rfl (fun r6 w hr6 hO => zhM x_b [33, 35, 36, 37, 38, 39, 42, 43, 45, 46, 94, 95, 96, 124, 126] r6 _ (hG.own hF hO) hr6) fun r6 hr6 => ?_
 exact en rfl fun a w hf hO hm => ⟨r6, hf.sel rfl, hO, hm⟩
 rintro a w ⟨t7, hf, hO, hm⟩
 rw [zdd] at hm
 refine S.co tb ?_ hf hO hm
 exact rt Tryz.results100 rfl

theorem zgG (x_c : scan_Scanner) (R : Str × Bool × scan_Scanner) (w0 : World) (hG : zD w0) {x_c_b0 : Nat} {F : List Nat} (hF : zG F) (hO : Dk.Own w0 F w0 [.blk x_c_b0 [str x_c.f_s, int x_c.f_at] 139]) (hm : zbI x_c = some R) :
    Calls Tryz.prog 59 #[ptr x_c_b0 0] w0 fun e w' => e = .returned (.tuple #[str R.1, .bool R.2.1]) ∧ Dk.Own w0 F w' [.blk x_c_b0 [str R.2.2.f_s, int R.2.2.f_at] 139] := by
 rw [zbI] at hm
 refine S.enter tb Tryz.func59 rfl Tryz.ntmps59 rfl ?_ hO hm
 refine rw_ rfl fun a w hf hO hm => ?_
 obtain ⟨r2, hr2, hm⟩ := ob hm
 have hch3 := (show Dk.Own w0 F _ ([.blk x_c_b0 [str x_c.f_s, int x_c.f_at] 139] ++ []) from hO)
 have hfar3 := Dk.Own.far hch3 rfl hF hG.size
 have hlend3 := hch3.lend (S := []) rfl trivial
 have hcl3 := zc0 x_c zdO r2 _ (hG.own hF hO) hfar3 hlend3 c_100 (fun y0 r w hG h => zh4 (zmo y0 r w hG h)) hr2
 refine zv (zt c_85 hf (vs := [ptr x_c_b0 0, .func (.func 100) #[] #[]]) rfl) rfl hf rfl rfl (hcl3) ?_
 rintro e w' ⟨he, hO'⟩
 refine ⟨_, he, fun a hf => ?_⟩
 have hO := hch3.back rfl hO' rfl
 refine S.op tb ?_ hf hO hm
 refine re_ rfl fun a w hf hO hm => ?_
 obtain rfl := Option.some.inj hm
 exact zf Tryz.results59 hf (.tmp rfl (.tmp rfl .nil)) ⟨rfl, hO⟩

end Go.Proofs
end
section
set_option linter.unusedVariables false
set_option maxHeartbeats 1000000
set_option linter.unusedSimpArgs false
set_option maxRecDepth 100000
namespace Go.Proofs
open Go.Dk Go.Dm Go.RowKit

theorem zi5 (x_b : UInt8) (R : Bool) (w0 : World) (hG : zD w0) (hm : zcc x_b = some R) :
    Calls Tryz.prog 86 #[zY x_b] w0 (Ret w0 (fun R => .bool R) R) := by
 rw [zcc] at hm
 have hF : zG [] := zg
 have hO : Dk.Own w0 [] w0 [] := Dk.Own.refl w0
 refine S.enter tb Tryz.func86 rfl Tryz.ntmps86 rfl ?_ hO hm
 refine vl rfl rfl (fun a w hf hO => zcJ (b := x_b) (c := 32) hf rfl rfl) ?_
 exact rt Tryz.results86 rfl

theorem zfW (x_p : startline_line) (R : Int × Bool × scan_Scanner) (w0 : World) (hG : zD w0) {x_p_b0 : Nat} {F : List Nat} (hF : zG F) (hO : Dk.Own w0 F w0 [.blk x_p_b0 [str x_p.Scanner.f_s, int x_p.Scanner.f_at] 139]) (hm : zbb x_p = some R) :
    Calls Tryz.prog 87 #[.agg #[ptr x_p_b0 0]] w0 fun e w' => e = .returned (.tuple #[int R.1, .bool R.2.1]) ∧ Dk.Own w0 F w' [.blk x_p_b0 [str R.2.2.f_s, int R.2.2.f_at] 139] := by
 rw [zbb] at hm
 refine S.enter tb Tryz.func87 rfl Tryz.ntmps87 rfl ?_ hO hm
 refine rw_ rfl fun a w hf hO hm => ?_
 refine zeA (v := .agg #[ptr x_p_b0 0]) (cs := [ptr x_p_b0 0]) rfl hf rfl rfl hO fun a b1 w hf hO => ?_
 refine S.op tb ?_ hf hO hm
 refine vl rfl rfl (fun a w hf hO => zu (o := 0) (vs := [ptr x_p_b0 0]) zlC ziI (hO.blkSees (i := 0) rfl) rfl rfl hf rfl) ?_
 refine rw_ rfl fun a w hf hO hm => ?_
 obtain ⟨r3, hr3, hm⟩ := ob hm
 have hch4 := (show Dk.Own w0 F _ ([.blk x_p_b0 [str x_p.Scanner.f_s, int x_p.Scanner.f_at] 139] ++ [.blk b1 [ptr x_p_b0 0] 125]) from hO.choose [1, 0] rfl)
 have hfar4 := Dk.Own.far hch4 rfl hF hG.size
 have hlend4 := hch4.lend (S := []) rfl trivial
 have hcl4 := ze7 x_p r3 _ (hG.own hF hO) hfar4 hlend4 hr3
 refine zv (zt c_131 hf (vs := [.agg #[ptr x_p_b0 0]]) rfl) rfl hf rfl rfl (hcl4) ?_
 rintro e w' ⟨he, hO'⟩
 refine ⟨_, he, fun a hf => ?_⟩
 have hO := hch4.back rfl hO' rfl
 refine S.op tb ?_ hf hO hm
 refine jn 0 (fun a w => ∃ (t8 : Bool), Fits 23 [(2, int r3.2.1), (3, .bool t8)] a ∧ Dk.Own w0 F w [.blk x_p_b0 [str r3.2.2.2.f_s, int r3.2.2.2.f_at] 139, .blk b1 [ptr x_p_b0 0] 125] ∧ zba r3 t8 = some R) rfl ?_ ?_
 refine br rfl (fun hc6 => ?_) fun hc6 => ?_
 refine br rfl (fun hc7 => ?_) fun hc7 => ?_
 exact en rfl fun a w hf hO hm => ⟨decide (r3.2.1 ≤ 1), hf.sel rfl, hO, hm⟩
 exact en rfl fun a w hf hO hm => ⟨false, hf.sel rfl, hO, hm⟩
 exact en rfl fun a w hf hO hm => ⟨false, hf.sel rfl, hO, hm⟩
 rintro a w ⟨t8, hf, hO, hm⟩
 rw [zba] at hm
 refine S.co tb ?_ hf hO hm
 refine re_ rfl fun a w hf hO hm => ?_
 obtain rfl := Option.some.inj hm
 exact zf Tryz.results87 hf (.tmp rfl (.tmp rfl .nil)) ⟨rfl, (hO.sub (.cons_cons _ (.cons _ .slnil)))⟩

theorem zfx (x_is : UInt8 → Option Bool) (x_l : List Str) (R : Bool) (w0 : World) (hG : zD w0) {x_is_f : Nat} {x_is_p x_is_c : Array Value} (x_is_k : ze Tryz.prog x_is_f) (x_is_h : ∀ (y0 : UInt8) (r : Bool) (w : World), zD w → x_is y0 = some r → Calls Tryz.prog x_is_f (x_is_p ++ [zY y0].toArray ++ x_is_c) w fun e w' => e = .returned (.bool r) ∧ Below w.heap.size w w') {x_l_p0 : Option Addr} {x_l_c0 : Nat} (hs0 : zaw w0 x_l_p0 (cells zj x_l)) (hc0 : x_l.length ≤ x_l_c0) (hm : zdP x_is x_l = some R) :
    Calls Tryz.prog 61 #[.func (.func x_is_f) x_is_p x_is_c, .slice x_l_p0 x_l.length x_l_c0] w0 (Ret w0 (fun R => .bool R) R) := by
 rw [zdP] at hm
 have hF : zG [] := zg
 have hO : Dk.Own w0 [] w0 [] := Dk.Own.refl w0
 have hO := hO.addShr hs0 (by simp [Res.shared])
 refine S.enter tb Tryz.func61 rfl Tryz.ntmps61 rfl ?_ hO hm
 refine lp (fun k a w => ∃ (i3 : Int), Fits 27 [(0, .func (.func x_is_f) x_is_p x_is_c), (8, .slice x_l_p0 x_l.length x_l_c0), (9, int (x_l.length : Int)), (10, int i3)] a ∧ Dk.Own w0 [] w [.shr x_l_p0 (cells zj x_l)] ∧ zck x_is x_l k i3 = some R) rfl (fun a w hf hO hm => ⟨0, hf.sel rfl, hO, hm⟩) ?_
 rintro n1 a w ⟨i3, hf, hO, hm⟩
 obtain _ | n1 := n1
 rw [zck] at hm
 cases hm
 rw [zck] at hm
 refine S.co tb ?_ hf hO hm
 refine br rfl (fun hc5 => ?_) fun hc5 => ?_
 refine rw_ rfl fun a w hf hO hm => ?_
 obtain ⟨x7, hx7, hm⟩ := ob hm
 obtain ⟨b8, o9, hix7, hSx7⟩ := zh1 (enc := zj) (sz := 1) (xs := x_l) 31 Tryz.underlying31 zeB (by decide) (fun _ => rfl) (hO.sees (i := 0) rfl) hx7
 refine zaL (zw hix7 hf rfl rfl) rfl hf rfl rfl fun a hf => ?_
 refine S.op tb ?_ hf hO hm
 refine vl rfl rfl (fun a w hf hO => zb (o := 0) za6 (hSx7 _ (hO.sees (i := 0) rfl)) rfl hf rfl) ?_
 refine lp (fun k a w => ∃ (i12 : Int), Fits 27 [(0, .func (.func x_is_f) x_is_p x_is_c), (6, str x7), (8, .slice x_l_p0 x_l.length x_l_c0), (9, int (x_l.length : Int)), (10, int i3), (15, int (x7.length : Int)), (16, int i12)] a ∧ Dk.Own w0 [] w [.shr x_l_p0 (cells zj x_l)] ∧ zcj (zck x_is x_l n1) x_is i3 x7 k i12 = some R) rfl (fun a w hf hO hm => ⟨0, hf.sel rfl, hO, hm⟩) ?_
 rintro n2 a w ⟨i12, hf, hO, hm⟩
 obtain _ | n2 := n2
 rw [zcj] at hm
 cases hm
 rw [zcj] at hm
 refine S.co tb ?_ hf hO hm
 refine br rfl (fun hc14 => ?_) fun hc14 => ?_
 refine bi rfl fun b17 hb17 => ?_
 refine rw_ rfl fun a w hf hO hm => ?_
 obtain ⟨r18, hr18, hm⟩ := ob hm
 refine oc (zqL x_is_k hf rfl (vs := [zY b17]) rfl) hf rfl (x_is_h b17 r18 _ (hG.own hF hO) hr18) hO fun a w' hf hO => ?_
 refine S.op tb ?_ hf hO hm
 refine br rfl (fun hc20 => ?_) fun hc20 => ?_
 exact rt Tryz.results61 rfl
 refine bi rfl fun i23 hi23 => ?_
 exact en rfl fun a w hf hO hm => ⟨_, Nat.lt_succ_self _, i23, hf.sel rfl, hO, hm⟩
 refine bi rfl fun i25 hi25 => ?_
 exact en rfl fun a w hf hO hm => ⟨_, Nat.lt_succ_self _, i25, hf.sel rfl, hO, hm⟩
 exact rt Tryz.results61 rfl

theorem zmp (x_b : UInt8) (R : Int) (w0 : World) (hG : zD w0) (hm : zeW x_b = some R) :
    Calls Tryz.prog 170 #[zY x_b] w0 (Ret w0 (fun R => int R) R) := by
 rw [zeW] at hm
 have hF : zG [] := zg
 have hO : Dk.Own w0 [] w0 [] := Dk.Own.refl w0
 refine S.enter tb Tryz.func170 rfl Tryz.ntmps170 rfl ?_ hO hm
 refine cl zrd rfl (fun r2 w hr2 hO => zcb x_b r2 _ (hG.own hF hO) hr2) fun r2 hr2 => ?_
 refine br rfl (fun hc4 => ?_) fun hc4 => ?_
 refine vl rfl rfl (fun a w hf hO => znO (b := x_b) (c := 48) hf rfl rfl) ?_
 refine vl rfl rfl (fun a w hf hO => zjS Tryz.underlying3 Tryz.underlying5 (zlk _) hf (kd := .u8) rfl) ?_
 exact rt Tryz.results170 rfl
 refine cl zqu rfl (fun r7 w hr7 hO => zdZ x_b r7 _ (hG.own hF hO) hr7) fun r7 hr7 => ?_
 refine vl rfl rfl (fun a w hf hO => znO (b := r7) (c := 97) hf rfl rfl) ?_
 refine vl rfl rfl (fun a w hf hO => zjS Tryz.underlying3 Tryz.underlying5 (zlk _) hf (kd := .u8) rfl) ?_
 refine bi rfl fun i8 hi8 => ?_
 exact rt Tryz.results170 rfl

theorem znB (x_s : Str) (x_base : Int) (x_most : Int) (x_is : UInt8 → Option Bool) (R : Int × Int) (w0 : World) (hG : zD w0) {x_is_f : Nat} {x_is_p x_is_c : Array Value} (x_is_k : ze Tryz.prog x_is_f) (x_is_h : ∀ (y0 : UInt8) (r : Bool) (w : World), zD w → x_is y0 = some r → Calls Tryz.prog x_is_f (x_is_p ++ [zY y0].toArray ++ x_is_c) w fun e w' => e = .returned (.bool r) ∧ Below w.heap.size w w') (hm : zfG x_s x_base x_most x_is = some R) :
    Calls Tryz.prog 136 #[str x_s, int x_base, int x_most, .func (.func x_is_f) x_is_p x_is_c] w0 (Ret w0 (fun R => .tuple #[int R.1, int R.2]) R) := by
 rw [zfG] at hm
 have hF : zG [] := zg
 have hO : Dk.Own w0 [] w0 [] := Dk.Own.refl w0
 refine S.enter tb Tryz.func136 rfl Tryz.ntmps136 rfl ?_ hO hm
 refine jn 1 (fun a w => ∃ (t5 : Bool), Fits 50 [(0, str x_s), (1, int x_base), (2, int x_most), (21, .bool t5)] a ∧ Dk.Own w0 [] w [] ∧ zcO x_s x_base x_most t5 = some R) rfl ?_ ?_
 refine br rfl (fun hc2 => ?_) fun hc2 => ?_
 exact en rfl fun a w hf hO hm => ⟨true, hf.sel rfl, hO, hm⟩
 refine rw_ rfl fun a w hf hO hm => ?_
 refine zS (vs := [(0, str x_s)]) (cs := [str x_s]) (e := 9) (sz := 1) hf rfl rfl (fun w => by kernel_rfl) rfl rfl hO fun a b3 w hf hO => ?_
 refine S.op tb ?_ hf hO hm
 refine kn (b' := false) hc2 rfl ?_
 refine cl c_61 rfl (fun r4 w hr4 hO => zfx x_is ([x_s] : List Str) r4 _ (hG.own hF hO) x_is_k x_is_h (hO.rowSees (i := 0) rfl) (hO.rowCap (i := 0) rfl) hr4) fun r4 hr4 => ?_
 exact en rfl fun a w hf hO hm => ⟨!r4, hf.sel rfl, (hO.sub (.cons _ .slnil)), hm⟩
 rintro a w ⟨t5, hf, hO, hm⟩
 rw [zcO] at hm
 refine S.co tb ?_ hf hO hm
 refine br rfl (fun hc6 => ?_) fun hc6 => ?_
 exact rt Tryz.results136 rfl
 refine lp (fun k a w => ∃ (i11 : Int) (i12 : Int), Fits 50 [(0, str x_s), (1, int x_base), (2, int x_most), (10, int i11), (23, int (x_s.length : Int)), (24, int i12)] a ∧ Dk.Own w0 [] w [] ∧ zaM x_s x_base x_most k i11 i12 = some R) rfl (fun a w hf hO hm => ⟨0, 0, hf.sel rfl, hO, hm⟩) ?_
 rintro n2 a w ⟨i11, i12, hf, hO, hm⟩
 obtain _ | n2 := n2
 rw [zaM] at hm
 cases hm
 rw [zaM] at hm
 refine S.co tb ?_ hf hO hm
 refine br rfl (fun hc14 => ?_) fun hc14 => ?_
 refine bi rfl fun b17 hb17 => ?_
 refine cl c_170 rfl (fun r18 w hr18 hO => zmp b17 r18 _ (hG.own hF hO) hr18) fun r18 hr18 => ?_
 refine jn 6 (fun a w => ∃ (t23 : Bool), Fits 50 [(0, str x_s), (1, int x_base), (2, int x_most), (10, int i11), (12, int r18), (23, int (x_s.length : Int)), (24, int i12), (42, .bool t23)] a ∧ Dk.Own w0 [] w [] ∧ zcN (zaM x_s x_base x_most n2) x_base i11 i12 r18 t23 = some R) rfl ?_ ?_
 refine br rfl (fun hc20 => ?_) fun hc20 => ?_
 exact en rfl fun a w hf hO hm => ⟨true, hf.sel rfl, hO, hm⟩
 refine bi rfl fun i21 hi21 => ?_
 refine bi rfl fun i22 hi22 => ?_
 exact en rfl fun a w hf hO hm => ⟨decide (i22 < i11), hf.sel rfl, hO, hm⟩
 rintro a w ⟨t23, hf, hO, hm⟩
 rw [zcN] at hm
 refine S.co tb ?_ hf hO hm
 refine br rfl (fun hc24 => ?_) fun hc24 => ?_
 exact rt Tryz.results136 rfl
 refine bi rfl fun i27 hi27 => ?_
 refine bi rfl fun i28 hi28 => ?_
 refine bi rfl fun i30 hi30 => ?_
 exact en rfl fun a w hf hO hm => ⟨_, Nat.lt_succ_self _, i28, i30, hf.sel rfl, hO, hm⟩
 exact rt Tryz.results136 rfl

theorem zfX (x_s : Str) (x_most : Int) (R : Int × Int) (w0 : World) (hG : zD w0) (hm : zb6 x_s x_most = some R) :
    Calls Tryz.prog 92 #[str x_s, int x_most] w0 (Ret w0 (fun R => .tuple #[int R.1, int R.2]) R) := by
 rw [zb6] at hm
 have hF : zG [] := zg
 have hO : Dk.Own w0 [] w0 [] := Dk.Own.refl w0
 refine S.enter tb Tryz.func92 rfl Tryz.ntmps92 rfl ?_ hO hm
 refine cl c_136 rfl (fun r2 w hr2 hO => znB x_s 10 x_most zab r2 _ (hG.own hF hO) zrd (fun y0 r w hG h => zh4 (zcb y0 r w hG h)) hr2) fun r2 hr2 => ?_
 exact rt Tryz.results92 rfl

theorem znC (x_n : Int) (x_base : Int) (R : Str) (w0 : World) (hG : zbB w0) (hm : zgT x_n x_base = some R) :
    Calls Tryz.prog 122 #[int x_n, int x_base] w0 (Ret w0 (fun R => str R) R) := by
 rw [zgT] at hm
 have hF : zG [] := zg
 have hO : Dk.Own w0 [] w0 [] := Dk.Own.refl w0
 refine S.enter tb Tryz.func122 rfl Tryz.ntmps122 rfl ?_ hO hm
 refine br rfl (fun hc3 => ?_) fun hc3 => ?_
 exact rt Tryz.results122 rfl
 refine cl c_155 rfl (fun r6 w hr6 hO => zjU x_n x_base r6 _ (hG.own hF hO) hr6) fun r6 hr6 => ?_
 exact rt Tryz.results122 rfl

theorem znD (x_n : Int) (R : Str) (w0 : World) (hG : zbB w0) (hm : zfH x_n = some R) :
    Calls Tryz.prog 75 #[int x_n] w0 (Ret w0 (fun R => str R) R) := by
 rw [zfH] at hm
 have hF : zG [] := zg
 have hO : Dk.Own w0 [] w0 [] := Dk.Own.refl w0
 refine S.enter tb Tryz.func75 rfl Tryz.ntmps75 rfl ?_ hO hm
 refine cl c_122 rfl (fun r2 w hr2 hO => znC x_n 10 r2 _ (hG.own hF hO) hr2) fun r2 hr2 => ?_
 exact rt Tryz.results75 rfl

theorem zim (x_s : Str) (x_most : Int) (R : Bool) (w0 : World) (hG : zbB w0) (hm : zcz x_s x_most = some R) :
    Calls Tryz.prog 150 #[str x_s, int x_most] w0 (Ret w0 (fun R => .bool R) R) := by
 rw [zcz] at hm
 have hF : zG [] := zg
 have hO : Dk.Own w0 [] w0 [] := Dk.Own.refl w0
 refine S.enter tb Tryz.func150 rfl Tryz.ntmps150 rfl ?_ hO hm
 refine cl c_92 rfl (fun r2 w hr2 hO => zfX x_s x_most r2 _ (hG.own hF hO).1 hr2) fun r2 hr2 => ?_
 refine jn 0 (fun a w => ∃ (t6 : Bool), Fits 21 [(4, .bool t6)] a ∧ Dk.Own w0 [] w [] ∧ zb4 t6 = some R) rfl ?_ ?_
 refine br rfl (fun hc4 => ?_) fun hc4 => ?_
 refine cl c_75 rfl (fun r5 w hr5 hO => znD r2.1 r5 _ (hG.own hF hO) hr5) fun r5 hr5 => ?_
 exact en rfl fun a w hf hO hm => ⟨r5 == x_s, hf.sel rfl, hO, hm⟩
 exact en rfl fun a w hf hO hm => ⟨false, hf.sel rfl, hO, hm⟩
 rintro a w ⟨t6, hf, hO, hm⟩
 rw [zb4] at hm
 refine S.co tb ?_ hf hO hm
 exact rt Tryz.results150 rfl

theorem zi1 (x_s : Str) (R : Bool) (w0 : World) (hG : zbB w0) (hm : zdQ x_s = some R) :
    Calls Tryz.prog 176 #[str x_s] w0 fun e w' => e = .returned (.bool R) ∧ Below w0.heap.size w0 w' := by
  unfold zdQ at hm
  split at hm
  · rename_i hs
    obtain ⟨bs, hbs, hm⟩ := ob hm
    cases hm
    exact zuo (fun x => zcz x 255) (fun x b W hG h => zim x 255 b W hG h) x_s hs bs hbs w0 hG
  · cases hm

theorem zh2 (x_b : UInt8) (R : Bool) (w0 : World) (hG : zD w0) (hm : zco x_b = some R) :
    Calls Tryz.prog 201 #[zY x_b] w0 (Ret w0 (fun R => .bool R) R) := by
 rw [zco] at hm
 have hF : zG [] := zg
 have hO : Dk.Own w0 [] w0 [] := Dk.Own.refl w0
 refine S.enter tb Tryz.func201 rfl Tryz.ntmps201 rfl ?_ hO hm
 refine jn 0 (fun a w => ∃ (t7 : Bool), Fits 15 [(2, .bool t7)] a ∧ Dk.Own w0 [] w [] ∧ zea t7 = some R) rfl ?_ ?_
 refine cl zrd rfl (fun r2 w hr2 hO => zcb x_b r2 _ (hG.own hF hO) hr2) fun r2 hr2 => ?_
 refine br rfl (fun hc3 => ?_) fun hc3 => ?_
 exact en rfl fun a w hf hO hm => ⟨true, hf.sel rfl, hO, hm⟩
 refine cl zqu rfl (fun r4 w hr4 hO => zdZ x_b r4 _ (hG.own hF hO) hr4) fun r4 hr4 => ?_
 refine vl rfl rfl (fun a w hf hO => zjJ (b := r4) (c := 97) hf rfl rfl) ?_
 refine br rfl (fun hc5 => ?_) fun hc5 => ?_
 refine cl zqu rfl (fun r6 w hr6 hO => zdZ x_b r6 _ (hG.own hF hO) hr6) fun r6 hr6 => ?_
 refine vl rfl rfl (fun a w hf hO => zlh (b := r6) (c := 102) hf rfl rfl) ?_
 exact en rfl fun a w hf hO hm => ⟨decide (r6 ≤ 102), hf.sel rfl, hO, hm⟩
 exact en rfl fun a w hf hO hm => ⟨false, hf.sel rfl, hO, hm⟩
 rintro a w ⟨t7, hf, hO, hm⟩
 rw [zea] at hm
 refine S.co tb ?_ hf hO hm
 exact rt Tryz.results201 rfl

theorem zfY (x_s : Str) (x_last : Bool) (R : Int) (w0 : World) (hG : zbB w0) (hm : zb7 x_s x_last = some R) :
    Calls Tryz.prog 188 #[str x_s, .bool x_last] w0 (Ret w0 (fun R => int R) R) := by
 rw [zb7] at hm
 have hF : zG [] := zg
 have hO : Dk.Own w0 [] w0 [] := Dk.Own.refl w0
 refine S.enter tb Tryz.func188 rfl Tryz.ntmps188 rfl ?_ hO hm
 refine br rfl (fun hc3 => ?_) fun hc3 => ?_
 exact rt Tryz.results188 rfl
 refine rw_ rfl fun a w hf hO hm => ?_
 obtain ⟨r6, hr6, hm⟩ := ob hm
 refine zv (zt c_32 hf (vs := [str x_s, str [58]]) rfl) rfl hf rfl rfl (ziU x_s [58] r6 _ (hG.own hF hO).1 hr6) ?_
 rintro e w' ⟨p7, c8, he, hO'⟩
 refine ⟨_, he, fun a hf => ?_⟩
 have hO := hO.call hO' (by simp [Res.shared])
 refine S.op tb ?_ hf hO hm
 refine lp (fun k a w => ∃ (i12 : Int) (i13 : Int), Fits 53 [(1, .bool x_last), (5, .slice p7 r6.length c8), (6, int i12), (13, .slice p7 r6.length c8), (14, int (r6.length : Int)), (15, int i13)] a ∧ Dk.Own w0 [] w [.row (.slice p7 r6.length c8) 9 1 r6.length (cells zj r6)] ∧ zL x_last r6 k i12 i13 = some R) rfl (fun a w hf hO hm => ⟨0, 0, hf.sel rfl, hO, hm⟩) ?_
 rintro n1 a w ⟨i12, i13, hf, hO, hm⟩
 obtain _ | n1 := n1
 rw [zL] at hm
 cases hm
 rw [zL] at hm
 refine S.co tb ?_ hf hO hm
 refine br rfl (fun hc15 => ?_) fun hc15 => ?_
 refine jn 3 (fun a w => ∃ (i36 : Int), Fits 53 [(1, .bool x_last), (5, .slice p7 r6.length c8), (6, int i36), (13, .slice p7 r6.length c8), (14, int (r6.length : Int)), (15, int i13)] a ∧ Dk.Own w0 [] w [.row (.slice p7 r6.length c8) 9 1 r6.length (cells zj r6)] ∧ zbJ (zL x_last r6 n1) i13 i36 = some R) rfl ?_ ?_
 refine rw_ rfl fun a w hf hO hm => ?_
 obtain ⟨x17, hx17, hm⟩ := ob hm
 obtain ⟨b18, o19, hix17, hSx17, hAx17⟩ := zae (enc := zj) (sz := 1) (xs := r6) 31 Tryz.underlying31 zeB (by decide) (fun _ => rfl) hO (i := 0) rfl hx17
 refine zaL (zw hix17 hf rfl rfl) rfl hf rfl rfl fun a hf => ?_
 refine S.op tb ?_ hf hO hm
 refine vl rfl rfl (fun a w hf hO => zb (o := 0) za6 (hSx17 _ (hO.rowSees (i := 0) rfl)) rfl hf rfl) ?_
 refine jn 6 (fun a w => ∃ (t25 : Bool), Fits 53 [(1, .bool x_last), (5, .slice p7 r6.length c8), (6, int i12), (8, str x17), (13, .slice p7 r6.length c8), (14, int (r6.length : Int)), (15, int i13), (20, .bool t25)] a ∧ Dk.Own w0 [] w [.row (.slice p7 r6.length c8) 9 1 r6.length (cells zj r6)] ∧ za5 (zL x_last r6 n1) i12 i13 x17 t25 = some R) rfl ?_ ?_
 refine br rfl (fun hc21 => ?_) fun hc21 => ?_
 refine bi rfl fun i22 hi22 => ?_
 refine br rfl (fun hc23 => ?_) fun hc23 => ?_
 refine cl c_176 rfl (fun r24 w hr24 hO => zi1 x17 r24 _ (hG.own hF hO) hr24) fun r24 hr24 => ?_
 exact en rfl fun a w hf hO hm => ⟨r24, hf.sel rfl, hO, hm⟩
 exact en rfl fun a w hf hO hm => ⟨false, hf.sel rfl, hO, hm⟩
 exact en rfl fun a w hf hO hm => ⟨false, hf.sel rfl, hO, hm⟩
 rintro a w ⟨t25, hf, hO, hm⟩
 rw [za5] at hm
 refine S.co tb ?_ hf hO hm
 refine br rfl (fun hc26 => ?_) fun hc26 => ?_
 refine bi rfl fun i27 hi27 => ?_
 exact en rfl fun a w hf hO hm => ⟨i27, hf.sel rfl, hO, hm⟩
 refine jn 6 (fun a w => ∃ (t32 : Bool), Fits 53 [(1, .bool x_last), (5, .slice p7 r6.length c8), (6, int i12), (13, .slice p7 r6.length c8), (14, int (r6.length : Int)), (15, int i13), (35, .bool t32)] a ∧ Dk.Own w0 [] w [.row (.slice p7 r6.length c8) 9 1 r6.length (cells zj r6)] ∧ za4 (zL x_last r6 n1) i12 i13 t32 = some R) rfl ?_ ?_
 refine br rfl (fun hc28 => ?_) fun hc28 => ?_
 refine br rfl (fun hc29 => ?_) fun hc29 => ?_
 refine rw_ rfl fun a w hf hO hm => ?_
 refine zS (vs := [(0, str x17)]) (cs := [str x17]) (e := 9) (sz := 1) hf rfl rfl (fun w => by kernel_rfl) rfl rfl hO fun a b30 w hf hO => ?_
 refine S.op tb ?_ hf hO hm
 refine kn (b' := true) hc29 rfl ?_
 refine cl c_61 rfl (fun r31 w hr31 hO => zfx zco ([x17] : List Str) r31 _ (hG.own hF hO).1 ztC (fun y0 r w hG h => zh4 (zh2 y0 r w hG h)) (hO.rowSees (i := 0) rfl) (hO.rowCap (i := 0) rfl) hr31) fun r31 hr31 => ?_
 exact en rfl fun a w hf hO hm => ⟨r31, hf.sel rfl, (hO.sub (.cons _ (.cons_cons _ .slnil))), hm⟩
 exact en rfl fun a w hf hO hm => ⟨false, hf.sel rfl, hO, hm⟩
 exact en rfl fun a w hf hO hm => ⟨false, hf.sel rfl, hO, hm⟩
 rintro a w ⟨t32, hf, hO, hm⟩
 rw [za4] at hm
 refine S.co tb ?_ hf hO hm
 refine br rfl (fun hc33 => ?_) fun hc33 => ?_
 refine bi rfl fun i34 hi34 => ?_
 exact en rfl fun a w hf hO hm => ⟨i34, hf.sel rfl, hO, hm⟩
 exact rt Tryz.results188 rfl
 rintro a w ⟨i36, hf, hO, hm⟩
 rw [zbJ] at hm
 refine S.co tb ?_ hf hO hm
 refine bi rfl fun i37 hi37 => ?_
 exact en rfl fun a w hf hO hm => ⟨_, Nat.lt_succ_self _, i36, i37, hf.sel rfl, hO, hm⟩
 exact rt Tryz.results188 rfl

end Go.Proofs
end
section
set_option linter.unusedVariables false
set_option maxHeartbeats 1000000
set_option linter.unusedSimpArgs false
set_option maxRecDepth 100000
namespace Go.Proofs
open Go.Dk Go.Dm Go.RowKit

theorem zmX (x_s : Str) (R : Bool) (w0 : World) (hG : zbB w0) (hm : zeF x_s = some R) :
    Calls Tryz.prog 175 #[str x_s] w0 (Ret w0 (fun R => .bool R) R) := by
 rw [zeF] at hm
 have hF : zG [] := zg
 have hO : Dk.Own w0 [] w0 [] := Dk.Own.refl w0
 refine S.enter tb Tryz.func175 rfl Tryz.ntmps175 rfl ?_ hO hm
 refine cl c_90 rfl (fun r2 w hr2 hO => zgj x_s [58, 58] r2 _ (hG.own hF hO).1 hr2) fun r2 hr2 => ?_
 refine br rfl (fun hc5 => ?_) fun hc5 => ?_
 refine cl ztB rfl (fun r6 w hr6 hO => zfY x_s true r6 _ (hG.own hF hO) hr6) fun r6 hr6 => ?_
 exact rt Tryz.results175 rfl
 refine cl ztB rfl (fun r9 w hr9 hO => zfY r2.1 false r9 _ (hG.own hF hO) hr9) fun r9 hr9 => ?_
 refine cl ztB rfl (fun r10 w hr10 hO => zfY r2.2.1 true r10 _ (hG.own hF hO) hr10) fun r10 hr10 => ?_
 refine jn 0 (fun a w => ∃ (t15 : Bool), Fits 35 [(2, .bool t15)] a ∧ Dk.Own w0 [] w [] ∧ zbA t15 = some R) rfl ?_ ?_
 refine br rfl (fun hc12 => ?_) fun hc12 => ?_
 refine br rfl (fun hc13 => ?_) fun hc13 => ?_
 refine bi rfl fun i14 hi14 => ?_
 exact en rfl fun a w hf hO hm => ⟨decide (i14 ≤ 7), hf.sel rfl, hO, hm⟩
 exact en rfl fun a w hf hO hm => ⟨false, hf.sel rfl, hO, hm⟩
 exact en rfl fun a w hf hO hm => ⟨false, hf.sel rfl, hO, hm⟩
 rintro a w ⟨t15, hf, hO, hm⟩
 rw [zbA] at hm
 refine S.co tb ?_ hf hO hm
 exact rt Tryz.results175 rfl

theorem zkq (x_s : Str) (R : Bool) (w0 : World) (hG : zD w0) (hm : zeG x_s = some R) :
    Calls Tryz.prog 190 #[str x_s] w0 (Ret w0 (fun R => .bool R) R) := by
 rw [zeG] at hm
 have hF : zG [] := zg
 have hO : Dk.Own w0 [] w0 [] := Dk.Own.refl w0
 refine S.enter tb Tryz.func190 rfl Tryz.ntmps190 rfl ?_ hO hm
 refine jn 0 (fun a w => ∃ (t8 : Bool), Fits 17 [(2, .bool t8)] a ∧ Dk.Own w0 [] w [] ∧ zah t8 = some R) rfl ?_ ?_
 refine br rfl (fun hc2 => ?_) fun hc2 => ?_
 refine bi rfl fun b3 hb3 => ?_
 refine vl rfl rfl (fun a w hf hO => zU (b := b3) (c := 37) hf rfl rfl) ?_
 refine br rfl (fun hc4 => ?_) fun hc4 => ?_
 refine bi rfl fun s5 hs5 => ?_
 refine rw_ rfl fun a w hf hO hm => ?_
 refine zS (vs := [(0, str s5)]) (cs := [str s5]) (e := 9) (sz := 1) hf rfl rfl (fun w => by kernel_rfl) rfl rfl hO fun a b6 w hf hO => ?_
 refine S.op tb ?_ hf hO hm
 refine kn (b' := true) hc4 rfl ?_
 refine cl c_61 rfl (fun r7 w hr7 hO => zfx zco ([s5] : List Str) r7 _ (hG.own hF hO) ztC (fun y0 r w hG h => zh4 (zh2 y0 r w hG h)) (hO.rowSees (i := 0) rfl) (hO.rowCap (i := 0) rfl) hr7) fun r7 hr7 => ?_
 exact en rfl fun a w hf hO hm => ⟨r7, hf.sel rfl, (hO.sub (.cons _ .slnil)), hm⟩
 exact en rfl fun a w hf hO hm => ⟨false, hf.sel rfl, hO, hm⟩
 exact en rfl fun a w hf hO hm => ⟨false, hf.sel rfl, hO, hm⟩
 rintro a w ⟨t8, hf, hO, hm⟩
 rw [zah] at hm
 refine S.co tb ?_ hf hO hm
 exact rt Tryz.results190 rfl

theorem zgv (x_b : UInt8) (R : Bool) (w0 : World) (hG : zD w0) (hm : zbK x_b = some R) :
    Calls Tryz.prog 191 #[zY x_b] w0 (Ret w0 (fun R => .bool R) R) := by
 rw [zbK] at hm
 have hF : zG [] := zg
 have hO : Dk.Own w0 [] w0 [] := Dk.Own.refl w0
 refine S.enter tb Tryz.func191 rfl Tryz.ntmps191 rfl ?_ hO hm
 refine jn 0 (fun a w => ∃ (t7 : Bool), Fits 13 [(2, .bool t7)] a ∧ Dk.Own w0 [] w [] ∧ zbG t7 = some R) rfl ?_ ?_
 refine cl c_142 rfl (fun r2 w hr2 hO => zi0 x_b r2 _ (hG.own hF hO) hr2) fun r2 hr2 => ?_
 refine br rfl (fun hc3 => ?_) fun hc3 => ?_
 exact en rfl fun a w hf hO hm => ⟨true, hf.sel rfl, hO, hm⟩
 refine cl zrd rfl (fun r4 w hr4 hO => zcb x_b r4 _ (hG.own hF hO) hr4) fun r4 hr4 => ?_
 refine br rfl (fun hc5 => ?_) fun hc5 => ?_
 exact en rfl fun a w hf hO hm => ⟨true, hf.sel rfl, hO, hm⟩
 refine cl zrP rfl (fun r6 w hr6 hO => zhM x_b [45, 46, 95, 126] r6 _ (hG.own hF hO) hr6) fun r6 hr6 => ?_
 exact en rfl fun a w hf hO hm => ⟨r6, hf.sel rfl, hO, hm⟩
 rintro a w ⟨t7, hf, hO, hm⟩
 rw [zbG] at hm
 refine S.co tb ?_ hf hO hm
 exact rt Tryz.results191 rfl

theorem zj4 (x_b : UInt8) (R : Bool) (w0 : World) (hG : zD w0) (hm : zfj x_b = some R) :
    Calls Tryz.prog 192 #[zY x_b] w0 (Ret w0 (fun R => .bool R) R) := by
 rw [zfj] at hm
 have hF : zG [] := zg
 have hO : Dk.Own w0 [] w0 [] := Dk.Own.refl w0
 refine S.enter tb Tryz.func192 rfl Tryz.ntmps192 rfl ?_ hO hm
 refine cl zrP rfl (fun r2 w hr2 hO => zhM x_b [33, 36, 38, 39, 40, 41, 42, 43, 44, 59, 61] r2 _ (hG.own hF hO) hr2) fun r2 hr2 => ?_
 exact rt Tryz.results192 rfl

theorem zmh (x_s : Str) (R : Bool) (w0 : World) (hG : zD w0) (hm : zeX x_s = some R) :
    Calls Tryz.prog 177 #[str x_s] w0 (Ret w0 (fun R => .bool R) R) := by
 rw [zeX] at hm
 have hF : zG [] := zg
 have hO : Dk.Own w0 [] w0 [] := Dk.Own.refl w0
 refine S.enter tb Tryz.func177 rfl Tryz.ntmps177 rfl ?_ hO hm
 refine br rfl (fun hc3 => ?_) fun hc3 => ?_
 exact rt Tryz.results177 rfl
 refine lp (fun k a w => ∃ (s6 : Str), Fits 23 [(0, str s6)] a ∧ Dk.Own w0 [] w [] ∧ zay k s6 = some R) rfl (fun a w hf hO hm => ⟨x_s, hf.sel rfl, hO, hm⟩) ?_
 rintro n1 a w ⟨s6, hf, hO, hm⟩
 obtain _ | n1 := n1
 rw [zay] at hm
 cases hm
 rw [zay] at hm
 refine S.co tb ?_ hf hO hm
 refine br rfl (fun hc8 => ?_) fun hc8 => ?_
 refine cl c_190 rfl (fun r10 w hr10 hO => zkq s6 r10 _ (hG.own hF hO) hr10) fun r10 hr10 => ?_
 refine br rfl (fun hc12 => ?_) fun hc12 => ?_
 refine bi rfl fun s13 hs13 => ?_
 exact en rfl fun a w hf hO hm => ⟨_, Nat.lt_succ_self _, s13, hf.sel rfl, hO, hm⟩
 refine jn 5 (fun a w => ∃ (t19 : Bool), Fits 23 [(0, str s6), (12, .bool t19)] a ∧ Dk.Own w0 [] w [] ∧ zde (zay n1) s6 t19 = some R) rfl ?_ ?_
 refine bi rfl fun b14 hb14 => ?_
 refine cl c_191 rfl (fun r15 w hr15 hO => zgv b14 r15 _ (hG.own hF hO) hr15) fun r15 hr15 => ?_
 refine br rfl (fun hc16 => ?_) fun hc16 => ?_
 exact en rfl fun a w hf hO hm => ⟨true, hf.sel rfl, hO, hm⟩
 refine bi rfl fun b17 hb17 => ?_
 refine cl c_192 rfl (fun r18 w hr18 hO => zj4 b17 r18 _ (hG.own hF hO) hr18) fun r18 hr18 => ?_
 exact en rfl fun a w hf hO hm => ⟨r18, hf.sel rfl, hO, hm⟩
 rintro a w ⟨t19, hf, hO, hm⟩
 rw [zde] at hm
 refine S.co tb ?_ hf hO hm
 refine br rfl (fun hc20 => ?_) fun hc20 => ?_
 refine bi rfl fun s21 hs21 => ?_
 exact en rfl fun a w hf hO hm => ⟨_, Nat.lt_succ_self _, s21, hf.sel rfl, hO, hm⟩
 exact rt Tryz.results177 rfl
 exact rt Tryz.results177 rfl

theorem zj5 (x_s : Str) (R : api_Host × Bool) (w0 : World) (hG : zbB w0) (hm : zfk x_s = some R) :
    Calls Tryz.prog 149 #[str x_s] w0 (Ret w0 (fun R => .tuple #[.agg #[int R.1.Kind, str R.1.Name, int R.1.Port], .bool R.2]) R) := by
 rw [zfk] at hm
 have hF : zG [] := zg
 have hO : Dk.Own w0 [] w0 [] := Dk.Own.refl w0
 refine S.enter tb Tryz.func149 rfl Tryz.ntmps149 rfl ?_ hO hm
 refine rw_ rfl fun a w hf hO hm => ?_
 refine zx zfU hf rfl hO fun a b1 w hf hO => ?_
 refine S.op tb ?_ hf hO hm
 refine vl rfl rfl (fun a w hf hO => zo (vs := [(1, str x_s), (2, int (-1))]) (v := .agg #[int 0, str x_s, int (-1)]) hf rfl (by kernel_rfl)) ?_
 refine rw_ rfl fun a w hf hO hm => ?_
 refine zx zfU hf rfl hO fun a b3 w hf hO => ?_
 refine S.op tb ?_ hf hO hm
 refine rw_ rfl fun a w hf hO hm => ?_
 refine zd (i := 0) (n := 3) zW rfl rfl rfl (by simp [Value.oneCell']) hf rfl rfl hO fun w hO => ?_
 refine S.op tb ?_ hf hO hm
 refine jn 0 (fun a w => ∃ (i24 : Int) (s25 : Str), Fits 51 [(2, ptr b1 0), (4, ptr b3 0)] a ∧ Dk.Own w0 [] w [.blk b3 [int i24, str s25, int (-1)] 107, .blk b1 [int 0, str [], int 0] 107] ∧ zcA i24 s25 = some R) rfl ?_ ?_
 refine jn 2 (fun a w => ∃ (t14 : Bool), Fits 51 [(0, str x_s), (2, ptr b1 0), (4, ptr b3 0), (7, .bool t14)] a ∧ Dk.Own w0 [] w [.blk b3 [int 0, str x_s, int (-1)] 107, .blk b1 [int 0, str [], int 0] 107] ∧ zbU x_s t14 = some R) rfl ?_ ?_
 refine br rfl (fun hc5 => ?_) fun hc5 => ?_
 refine bi rfl fun b6 hb6 => ?_
 refine vl rfl rfl (fun a w hf hO => zU (b := b6) (c := 91) hf rfl rfl) ?_
 refine br rfl (fun hc7 => ?_) fun hc7 => ?_
 refine bi rfl fun i8 hi8 => ?_
 refine bi rfl fun b9 hb9 => ?_
 refine vl rfl rfl (fun a w hf hO => zU (b := b9) (c := 93) hf rfl rfl) ?_
 refine br rfl (fun hc10 => ?_) fun hc10 => ?_
 refine bi rfl fun i11 hi11 => ?_
 refine bi rfl fun s12 hs12 => ?_
 refine cl c_175 rfl (fun r13 w hr13 hO => zmX s12 r13 _ (hG.own hF hO) hr13) fun r13 hr13 => ?_
 exact en rfl fun a w hf hO hm => ⟨r13, hf.sel rfl, hO, hm⟩
 exact en rfl fun a w hf hO hm => ⟨false, hf.sel rfl, hO, hm⟩
 exact en rfl fun a w hf hO hm => ⟨false, hf.sel rfl, hO, hm⟩
 exact en rfl fun a w hf hO hm => ⟨false, hf.sel rfl, hO, hm⟩
 rintro a w ⟨t14, hf, hO, hm⟩
 rw [zbU] at hm
 refine S.co tb ?_ hf hO hm
 refine br rfl (fun hc15 => ?_) fun hc15 => ?_
 refine rc_ rfl fun a w hf hO hm => ?_
 obtain ⟨i16, hi16, hm⟩ := ob hm
 obtain ⟨s17, hs17, hm⟩ := ob hm
 refine zfy (S := Unit) (E0 := [(0, str x_s), (2, ptr b1 0), (4, ptr b3 0)]) (by kernel_rfl) (fun k σ w => match k with | 0 => Dk.Own w0 [] w [.blk b3 [int 0, str x_s, int (-1)] 107, .blk b1 [int 0, str [], int 0] 107] | 1 => Dk.Own w0 [] w [.blk b3 [int 3, str x_s, int (-1)] 107, .blk b1 [int 0, str [], int 0] 107] | _ => Dk.Own w0 [] w [.blk b3 [int 3, str s17, int (-1)] 107, .blk b1 [int 0, str [], int 0] 107]) (fun σ => [⟨[(0, str x_s)], some (32, str x_s)⟩, ⟨[(0, str x_s)], some (33, str x_s)⟩, ⟨[(33, str x_s)], some (34, int (x_s.length : Int))⟩, ⟨[(34, int (x_s.length : Int))], some (35, int i16)⟩, ⟨[(32, str x_s), (35, int i16)], some (36, str s17)⟩, ⟨[(4, ptr b3 0)], some (37, ptr b3 0)⟩, ⟨[(37, ptr b3 0)], none⟩, ⟨[(4, ptr b3 0)], some (38, ptr b3 1)⟩, ⟨[(36, str s17), (38, ptr b3 1)], none⟩]) () [6, 8] rfl (fun _ => rfl) (fun _ => rfl) (fun _ => rfl) rfl rfl (by decide) rfl hO.drew (hf.cons rfl (hf.cons rfl (hf.cons rfl hf.nil))) (fun σ => ⟨⟨rfl, trivial⟩, ⟨rfl, trivial⟩, ⟨rfl, trivial⟩, ⟨rfl, trivial⟩, ⟨rfl, rfl, trivial⟩, ⟨rfl, trivial⟩, ⟨rfl, trivial⟩, ⟨rfl, trivial⟩, ⟨rfl, rfl, trivial⟩, trivial⟩) ⟨zk rfl (fun σ => rfl) (fun σ => rfl) (fun σ a w k _ _ _ _ hf => zp hf rfl), zk rfl (fun σ => rfl) (fun σ => rfl) (fun σ a w k _ _ _ _ hf => zp hf rfl), zk rfl (fun σ => rfl) (fun σ => rfl) (fun σ a w k _ _ _ _ hf => zqK (l := x_s) Tryz.underlying9 hf rfl), zk rfl (fun σ => rfl) (fun σ => rfl) (fun σ a w k _ _ _ _ hf => zrl hf rfl rfl hi16), zk rfl (fun σ => rfl) (fun σ => rfl) (fun σ a w k _ _ _ _ hf => zlj (l := x_s) Tryz.underlying9 hf rfl rfl rfl hs17), zk rfl (fun σ => rfl) (fun σ => rfl) (fun σ a w k _ _ _ _ hf => zao znv hf rfl), zgp rfl (fun σ => rfl) (fun σ => rfl) rfl (fun σ w (hO : Dk.Own w0 [] w _) => by obtain ⟨w', hO', hr⟩ := zoQ (x := (.tmp 37)) (y := (.const (int 3))) (E := [(37, ptr b3 0)]) (i := 0) (o := 0) (v := int 3) zra rfl rfl rfl rfl hO rfl rfl; exact ⟨(), w', hO', ⟨.inr rfl, .inr rfl, .inr rfl, .inr rfl, .inr rfl, .inr rfl, .inr rfl, .inr rfl, .inr rfl, trivial⟩, hr⟩), zk rfl (fun σ => rfl) (fun σ => rfl) (fun σ a w k _ _ _ _ hf => zao zqr hf rfl), zgp rfl (fun σ => rfl) (fun σ => rfl) rfl (fun σ w (hO : Dk.Own w0 [] w _) => by obtain ⟨w', hO', hr⟩ := zoQ (x := (.tmp 38)) (y := (.tmp 36)) (E := [(36, str s17), (38, ptr b3 1)]) (i := 0) (o := 1) (v := str s17) zeB rfl rfl rfl rfl hO rfl rfl; exact ⟨(), w', hO', ⟨.inr rfl, .inr rfl, .inr rfl, .inr rfl, .inr rfl, .inr rfl, .inr rfl, .inr rfl, .inr rfl, trivial⟩, hr⟩), trivial⟩ ?_
 rintro _ a w hf hO
 have hO : Dk.Own w0 [] w _ := hO
 have hf : Fits 51 [(2, ptr b1 0), (4, ptr b3 0)] a := (hf.cons rfl (hf.cons rfl hf.nil))
 refine S.no tb ?_ hf hO hm
 exact en rfl fun a w hf hO hm => ⟨3, s17, hf.sel rfl, hO, hm⟩
 refine cl c_176 rfl (fun r18 w hr18 hO => zi1 x_s r18 _ (hG.own hF hO) hr18) fun r18 hr18 => ?_
 refine br rfl (fun hc20 => ?_) fun hc20 => ?_
 refine rw_ rfl fun a w hf hO hm => ?_
 refine zV (i := 0) (o := 0) (v := int 2) zra rfl rfl rfl rfl hf rfl rfl hO fun w hO => ?_
 refine S.op tb ?_ hf hO hm
 exact en rfl fun a w hf hO hm => ⟨2, x_s, hf.sel rfl, hO, hm⟩
 refine cl c_177 rfl (fun r21 w hr21 hO => zmh x_s r21 _ (hG.own hF hO).1 hr21) fun r21 hr21 => ?_
 refine br rfl (fun hc23 => ?_) fun hc23 => ?_
 refine rw_ rfl fun a w hf hO hm => ?_
 refine zV (i := 0) (o := 0) (v := int 1) zra rfl rfl rfl rfl hf rfl rfl hO fun w hO => ?_
 refine S.op tb ?_ hf hO hm
 exact en rfl fun a w hf hO hm => ⟨1, x_s, hf.sel rfl, hO, hm⟩
 exact en rfl fun a w hf hO hm => ⟨0, x_s, hf.sel rfl, hO, hm⟩
 rintro a w ⟨i24, s25, hf, hO, hm⟩
 rw [zcA] at hm
 refine S.co tb ?_ hf hO hm
 refine rc_ rfl fun a w hf hO hm => ?_
 refine zfy (S := Unit) (E0 := [(2, ptr b1 0), (4, ptr b3 0)]) (by kernel_rfl) (fun k σ w => match k with | 0 => Dk.Own w0 [] w [.blk b3 [int i24, str s25, int (-1)] 107, .blk b1 [int 0, str [], int 0] 107] | _ => Dk.Own w0 [] w [.blk b3 [int i24, str s25, int (-1)] 107, .blk b1 [int i24, str s25, int (-1)] 107]) (fun σ => [⟨[(4, ptr b3 0)], some (47, .agg #[int i24, str s25, int (-1)])⟩, ⟨[(4, ptr b3 0)], some (48, ptr b3 0)⟩, ⟨[(48, ptr b3 0)], some (49, int i24)⟩, ⟨[(49, int i24)], some (50, .bool (!(i24 == 0)))⟩, ⟨[(2, ptr b1 0), (47, .agg #[int i24, str s25, int (-1)])], none⟩, ⟨[(50, .bool (!(i24 == 0)))], some (3, .bool (!(i24 == 0)))⟩]) () [4] rfl (fun _ => rfl) (fun _ => rfl) (fun _ => rfl) rfl rfl (by decide) rfl hO.drew (hf.cons rfl (hf.cons rfl hf.nil)) (fun σ => ⟨⟨rfl, trivial⟩, ⟨rfl, trivial⟩, ⟨rfl, trivial⟩, ⟨rfl, trivial⟩, ⟨rfl, rfl, trivial⟩, ⟨rfl, trivial⟩, trivial⟩) ⟨zk rfl (fun σ => rfl) (fun σ => rfl) (fun σ a w k hk hlo hup hst hf => match k, hk, hlo, hup, hst, hf with | 0, _, _, _, hst, hf => have hO : Dk.Own w0 [] w _ := hst; zu (o := 0) (vs := [int i24, str s25, int (-1)]) zcI zW (hO.blkSees (i := 0) rfl) rfl rfl hf rfl | 1, _, _, _, hst, hf => have hO : Dk.Own w0 [] w _ := hst; zu (o := 0) (vs := [int i24, str s25, int (-1)]) zcI zW (hO.blkSees (i := 0) rfl) rfl rfl hf rfl | k + 2, hk, _, _, _, _ => absurd hk (by simp)), zk rfl (fun σ => rfl) (fun σ => rfl) (fun σ a w k _ _ _ _ hf => zao znv hf rfl), zk rfl (fun σ => rfl) (fun σ => rfl) (fun σ a w k hk hlo hup hst hf => match k, hk, hlo, hup, hst, hf with | 0, _, _, _, hst, hf => have hO : Dk.Own w0 [] w _ := hst; zb (o := 0) zpt (hO.blkSees (i := 0) rfl) rfl hf rfl | 1, _, _, _, hst, hf => have hO : Dk.Own w0 [] w _ := hst; zb (o := 0) zpt (hO.blkSees (i := 0) rfl) rfl hf rfl | k + 2, hk, _, _, _, _ => absurd hk (by simp)), zk rfl (fun σ => rfl) (fun σ => rfl) (fun σ a w k _ _ _ _ hf => zlN (m := i24) (n := 0) hf rfl rfl), zgp rfl (fun σ => rfl) (fun σ => rfl) rfl (fun σ w (hO : Dk.Own w0 [] w _) => by obtain ⟨w', hO', hr⟩ := zgh (x := (.tmp 2)) (y := (.tmp 47)) (E := [(2, ptr b1 0), (47, .agg #[int i24, str s25, int (-1)])]) (i := 1) (n := 3) (vs := [int i24, str s25, int (-1)]) zW rfl rfl rfl (by simp [Value.oneCell']) hO rfl rfl; exact ⟨(), w', hO', ⟨.inr rfl, .inr rfl, .inr rfl, .inr rfl, .inr rfl, .inr rfl, trivial⟩, hr⟩), zk rfl (fun σ => rfl) (fun σ => rfl) (fun σ a w k _ _ _ _ hf => zaE hf rfl), trivial⟩ ?_
 rintro _ a w hf hO
 have hO : Dk.Own w0 [] w _ := hO
 have hf : Fits 51 [(2, ptr b1 0), (3, .bool (!(i24 == 0)))] a := (hf.cons rfl (hf.cons rfl hf.nil))
 refine S.no tb ?_ hf hO hm
 refine re_ rfl fun a w hf hO hm => ?_
 obtain rfl := Option.some.inj hm
 exact zf Tryz.results149 hf (.cell rfl (zc (n := 3) (vs := [int i24, str s25, int (-1)]) zcI zW rfl ((hO.blkSees (i := 1) rfl).cells (o := 0) (n := 3) rfl)) (.tmp rfl .nil)) ⟨rfl, hO.below⟩

theorem zf9 (x_s : Str) (R : api_Host × Int) (w0 : World) (hG : zbB w0) (hm : zcB x_s = some R) :
    Calls Tryz.prog 112 #[str x_s] w0 (Ret w0 (fun R => .tuple #[.agg #[int R.1.Kind, str R.1.Name, int R.1.Port], int R.2]) R) := by
 rw [zcB] at hm
 have hF : zG [] := zg
 have hO : Dk.Own w0 [] w0 [] := Dk.Own.refl w0
 refine S.enter tb Tryz.func112 rfl Tryz.ntmps112 rfl ?_ hO hm
 refine rw_ rfl fun a w hf hO hm => ?_
 refine zx zfU hf rfl hO fun a b1 w hf hO => ?_
 refine S.op tb ?_ hf hO hm
 refine cl c_149 rfl (fun r3 w hr3 hO => zj5 x_s r3 _ (hG.own hF hO) hr3) fun r3 hr3 => ?_
 refine rw_ rfl fun a w hf hO hm => ?_
 refine zx zfU hf rfl hO fun a b4 w hf hO => ?_
 refine S.op tb ?_ hf hO hm
 refine rw_ rfl fun a w hf hO hm => ?_
 refine zd (i := 0) (n := 3) zW rfl rfl rfl (by simp [Value.oneCell']) hf rfl rfl hO fun w hO => ?_
 refine S.op tb ?_ hf hO hm
 refine br rfl (fun hc7 => ?_) fun hc7 => ?_
 refine vl rfl rfl (fun a w hf hO => zu (o := 0) (vs := [int r3.1.Kind, str r3.1.Name, int r3.1.Port]) zcI zW (hO.blkSees (i := 0) rfl) rfl rfl hf rfl) ?_
 refine rw_ rfl fun a w hf hO hm => ?_
 refine zd (i := 1) (n := 3) zW rfl rfl rfl (by simp [Value.oneCell']) hf rfl rfl hO fun w hO => ?_
 refine S.op tb ?_ hf hO hm
 refine re_ rfl fun a w hf hO hm => ?_
 obtain rfl := Option.some.inj hm
 exact zf Tryz.results112 hf (.cell rfl (zc (n := 3) (vs := [int r3.1.Kind, str r3.1.Name, int r3.1.Port]) zcI zW rfl ((hO.blkSees (i := 1) rfl).cells (o := 0) (n := 3) rfl)) (.tmp rfl .nil)) ⟨rfl, hO.below⟩
 refine cl c_84 rfl (fun r10 w hr10 hO => zfw x_s 58 r10 _ (hG.own hF hO).1 hr10) fun r10 hr10 => ?_
 refine br rfl (fun hc13 => ?_) fun hc13 => ?_
 refine vl rfl rfl (fun a w hf hO => zo (vs := []) (v := .agg #[int 0, str [], int 0]) hf rfl (by kernel_rfl)) ?_
 refine rw_ rfl fun a w hf hO hm => ?_
 refine zd (i := 1) (n := 3) zW rfl rfl rfl (by simp [Value.oneCell']) hf rfl rfl hO fun w hO => ?_
 refine S.op tb ?_ hf hO hm
 refine re_ rfl fun a w hf hO hm => ?_
 obtain rfl := Option.some.inj hm
 exact zf Tryz.results112 hf (.cell rfl (zc (n := 3) (vs := [int 0, str [], int 0]) zcI zW rfl ((hO.blkSees (i := 1) rfl).cells (o := 0) (n := 3) rfl)) (.tmp rfl .nil)) ⟨rfl, hO.below⟩
 refine bi rfl fun s16 hs16 => ?_
 refine cl c_149 rfl (fun r17 w hr17 hO => zj5 s16 r17 _ (hG.own hF hO) hr17) fun r17 hr17 => ?_
 refine rw_ rfl fun a w hf hO hm => ?_
 refine zx zfU hf rfl hO fun a b18 w hf hO => ?_
 refine S.op tb ?_ hf hO hm
 refine rw_ rfl fun a w hf hO hm => ?_
 refine zd (i := 0) (n := 3) zW rfl rfl rfl (by simp [Value.oneCell']) hf rfl rfl hO fun w hO => ?_
 refine S.op tb ?_ hf hO hm
 refine jn 1 (fun a w => ∃ (t24 : Bool), Fits 49 [(0, str x_s), (2, ptr b1 0), (6, int r10), (7, ptr b18 0), (37, .bool t24)] a ∧ Dk.Own w0 [] w [.blk b18 [int r17.1.Kind, str r17.1.Name, int r17.1.Port] 107, .blk b4 [int r3.1.Kind, str r3.1.Name, int r3.1.Port] 107, .blk b1 [int 0, str [], int 0] 107] ∧ zcT x_s r10 r17 t24 = some R) rfl ?_ ?_
 refine br rfl (fun hc20 => ?_) fun hc20 => ?_
 exact en rfl fun a w hf hO hm => ⟨true, hf.sel rfl, hO, hm⟩
 refine bi rfl fun i21 hi21 => ?_
 refine bi rfl fun s22 hs22 => ?_
 refine cl c_150 rfl (fun r23 w hr23 hO => zim s22 65535 r23 _ (hG.own hF hO) hr23) fun r23 hr23 => ?_
 exact en rfl fun a w hf hO hm => ⟨!r23, hf.sel rfl, hO, hm⟩
 rintro a w ⟨t24, hf, hO, hm⟩
 rw [zcT] at hm
 refine S.co tb ?_ hf hO hm
 refine br rfl (fun hc25 => ?_) fun hc25 => ?_
 refine vl rfl rfl (fun a w hf hO => zo (vs := []) (v := .agg #[int 0, str [], int 0]) hf rfl (by kernel_rfl)) ?_
 refine rw_ rfl fun a w hf hO hm => ?_
 refine zd (i := 2) (n := 3) zW rfl rfl rfl (by simp [Value.oneCell']) hf rfl rfl hO fun w hO => ?_
 refine S.op tb ?_ hf hO hm
 refine re_ rfl fun a w hf hO hm => ?_
 obtain rfl := Option.some.inj hm
 exact zf Tryz.results112 hf (.cell rfl (zc (n := 3) (vs := [int 0, str [], int 0]) zcI zW rfl ((hO.blkSees (i := 2) rfl).cells (o := 0) (n := 3) rfl)) (.tmp rfl .nil)) ⟨rfl, hO.below⟩
 refine bi rfl fun i28 hi28 => ?_
 refine bi rfl fun s29 hs29 => ?_
 refine cl c_92 rfl (fun r30 w hr30 hO => zfX s29 65535 r30 _ (hG.own hF hO).1 hr30) fun r30 hr30 => ?_
 refine rw_ rfl fun a w hf hO hm => ?_
 refine zV (i := 0) (o := 2) (v := int r30.1) zrb rfl rfl rfl rfl hf rfl rfl hO fun w hO => ?_
 refine S.op tb ?_ hf hO hm
 refine vl rfl rfl (fun a w hf hO => zu (o := 0) (vs := [int r17.1.Kind, str r17.1.Name, int r30.1]) zcI zW (hO.blkSees (i := 0) rfl) rfl rfl hf rfl) ?_
 refine rw_ rfl fun a w hf hO hm => ?_
 refine zd (i := 2) (n := 3) zW rfl rfl rfl (by simp [Value.oneCell']) hf rfl rfl hO fun w hO => ?_
 refine S.op tb ?_ hf hO hm
 refine re_ rfl fun a w hf hO hm => ?_
 obtain rfl := Option.some.inj hm
 exact zf Tryz.results112 hf (.cell rfl (zc (n := 3) (vs := [int r17.1.Kind, str r17.1.Name, int r30.1]) zcI zW rfl ((hO.blkSees (i := 2) rfl).cells (o := 0) (n := 3) rfl)) (.tmp rfl .nil)) ⟨rfl, hO.below⟩

set_option maxHeartbeats 4000000 in
set_option maxRecDepth 100000 in
theorem zrY (s : ByteArray) (R : Str) (w0 : World) (hG : zD w0) (hsz : s.size < 4294967281) (hm : s.data.toList.mapM zaT = some R)
    (hlow : ∀ b c w, zaT b = some c → zD w → Calls Tryz.prog 172 #[.int .u8 (b.toNat : Int)] w fun e w' => e = .returned (.int .u8 (c.toNat : Int)) ∧ Below w.heap.size w w') :
    Calls Tryz.prog 174 #[.string s] w0 fun e w' => e = .returned (.string ⟨R.toArray⟩) ∧ Below w0.heap.size w0 w' := by
  obtain ⟨hlen, hat⟩ := mapM_at hm
  have HL : Aside (R.length = s.size) := hlen.trans (Lib.size_eq s).symm
  have HT : Aside (∀ (i : Nat) (a : UInt8), s.data.toList[i]? = some a → ∃ b, R[i]? = some b ∧ zaT a = some b) := hat
  clear hlen hat hm
  have hcv := fun w => run_bytes_of_string (P := Tryz.prog) w 9 23 5 s Tryz.underlying9 Tryz.underlying23 Tryz.underlying5
  go_enter Tryz.func174, Tryz.ntmps174
  go_wp2
  go_loopg [4, 5, 10] s.size (fun g _ _ v wx => ∃ i : Nat, i + g = s.size ∧ v = .int .i64 (i : Int) ∧ Below w0.heap.size w0 wx ∧ ∃ (cur : Array Value) (fz : Nat × Nat), wx.heap[w0.heap.size]? = some (.cells cur 5 fz) ∧ cur.size ≤ fz.1 ∧ s.size ≤ cur.size ∧ ∀ j, j < s.size → cur[j]? = ((if j < i then R[j]? else s.data.toList[j]?).map zY))
  case atStart =>
    have hrow : (bytesRow s (grownCap w0 s.size 0 5)).size = s.size + (grownCap w0 s.size 0 5 - s.size) := by
      have := Lib.size_eq s
      unfold bytesRow
      rw [Array.size_append, Array.size_map, Array.size_replicate]
      rfl
    refine ⟨0, by omega, rfl, ((Below.refl _ _).alloc (Nat.le_refl _) _).drew, _, _, zkN _, Nat.le_refl _, ?_, fun j hj => ?_⟩
    · omega
    · rw [if_neg (by omega)]
      unfold bytesRow
      rw [Array.getElem?_append_left (by simp [← Lib.size_eq]; exact hj), Array.getElem?_map]
      congr 1
      exact (Array.getElem?_toList ..).symm
  case round =>
    obtain ⟨i, hig, rfl, hB, cur, fz, hcur, hfz, hsc, hcell⟩ := hrel
    have HG : Aside (zD wr) := hG.own zg ((Dk.Own.refl w0).grow hB)
    have HB : Aside (Below w0.heap.size w0 wr) := hB
    have HC : Aside (wr.heap[w0.heap.size]? = some (.cells cur 5 fz)) := hcur
    have HF : Aside (cur.size ≤ fz.1 ∧ s.size ≤ cur.size) := ⟨hfz, hsc⟩
    have HX : Aside (∀ j, j < s.size → cur[j]? = ((if j < i then R[j]? else s.data.toList[j]?).map zY)) := hcell
    clear hB hcell hfz hsc hcur
    by_cases hi : i < s.size
    · obtain ⟨x, hx⟩ : ∃ x, s.data.toList[i]? = some x := ⟨_, Lib.data_getElem? s i hi⟩
      obtain ⟨y, hyR, hy⟩ := HT.out i x hx
      have hcx : wr.cell? ⟨w0.heap.size, i, none⟩ = some (.int .u8 (x.toNat : Int)) := by
        have := HX.out i hi
        rw [if_neg (by omega), hx] at this
        simp [World.cell?, HC.out, this]
      have hfr : wr.frozen? ⟨w0.heap.size, i, none⟩ = false := by
        have := HF.out
        simp [World.frozen?, HC.out]; omega
      have hii : (i : Int) < (s.size : Int) := by omega
      have HY : Aside (R[i]? = some y) := hyR
      have HO : Aside (zaT x = some y) := hy
      clear hyR hy hx
      go_wp2_with (go_at_call 172; refine (hlow x y _ HO.out HG.out).mono ?_; rintro e w' ⟨rfl, hb⟩; have hcx' : w'.cell? ⟨w0.heap.size, i, none⟩ = some (.int .u8 (x.toNat : Int)) := (hb.cell (p := ⟨w0.heap.size, i, none⟩) (Array.getElem?_eq_some_iff.1 HC.out).1).trans hcx; have hfr' : w'.frozen? ⟨w0.heap.size, i, none⟩ = false := (hb.frozen (p := ⟨w0.heap.size, i, none⟩) (Array.getElem?_eq_some_iff.1 HC.out).1).trans hfr)
      go_roundg (gk - 1)
      case measure => omega
      case rel =>
        have hlt := (Array.getElem?_eq_some_iff.1 HC.out).1
        have hcw : w'.heap[w0.heap.size]? = some (.cells cur 5 fz) := (hb.block _ hlt).trans HC.out
        refine ⟨i + 1, by omega, rfl, ?_, cur.setIfInBounds i (.int .u8 (y.toNat : Int)), fz, ?_, ?_, ?_, fun j hj => ?_⟩
        · exact (HB.out.trans (hb.mono HB.out.size)).setCell (p := ⟨w0.heap.size, i, none⟩) (Nat.le_refl _) _
        · simp [World.setCell, Array.getElem?_modify, hcw]
        · have := HF.out; simp; omega
        · have := HF.out; simp; omega
        · by_cases hji : j = i
          · subst hji
            have := HF.out
            rw [if_pos (by omega), HY.out, Array.getElem?_setIfInBounds_self_of_lt (by omega)]
            rfl
          · rw [Array.getElem?_setIfInBounds_ne (Ne.symm hji), HX.out j hj]
            by_cases h2 : j < i
            · rw [if_pos h2, if_pos (by omega)]
            · rw [if_neg h2, if_neg (by omega)]
    · have hsi : i = s.size := by omega
      have hbk : ∀ w, wr.heap = w.heap → (convert 23 9 (.slice (some ⟨w0.heap.size, 0, none⟩) s.size (grownCap w0 s.size 0 5))).run Tryz.prog w = .ok (.string ⟨R.toArray⟩) w := by
        intro w hw
        have := run_convert_bytes_back (P := Tryz.prog) w 23 9 5 ⟨w0.heap.size, 0, none⟩ (grownCap w0 s.size 0 5) R Tryz.underlying23 Tryz.underlying5 Tryz.underlying9 (fun j hj => by
          have hjs : j < s.size := by rw [← HL.out]; exact hj
          have h1 := HX.out j hjs
          rw [if_pos (by omega), List.getElem?_eq_getElem hj] at h1
          rw [zsl]
          simp [World.cell?, ← hw, HC.out, h1])
        rw [HL.out] at this
        exact this
      have hni : ¬ ((i : Int) < (s.size : Int)) := by omega
      have hbk1 := hbk wr rfl
      go_wp2
      go_ret
      exact ⟨rfl, HB.out⟩

theorem zix (x_s : Str) (R : Str) (w0 : World) (hG : zD w0) (hm : zfd x_s = some R) :
    Calls Tryz.prog 174 #[str x_s] w0 fun e w' => e = .returned (str R) ∧ Below w0.heap.size w0 w' := by
  unfold zfd at hm
  split at hm
  · rename_i h
    exact zrY ⟨x_s.toArray⟩ R w0 hG h hm fun b c w hbc hGw => zdZ b c w hGw hbc
  · cases hm

theorem zmY (x_b : UInt8) (R : Bool) (w0 : World) (hG : zD w0) (hm : zfI x_b = some R) :
    Calls Tryz.prog 212 #[zY x_b] w0 (Ret w0 (fun R => .bool R) R) := by
 rw [zfI] at hm
 have hF : zG [] := zg
 have hO : Dk.Own w0 [] w0 [] := Dk.Own.refl w0
 refine S.enter tb Tryz.func212 rfl Tryz.ntmps212 rfl ?_ hO hm
 refine jn 0 (fun a w => ∃ (t7 : Bool), Fits 13 [(2, .bool t7)] a ∧ Dk.Own w0 [] w [] ∧ zdH t7 = some R) rfl ?_ ?_
 refine cl c_191 rfl (fun r2 w hr2 hO => zgv x_b r2 _ (hG.own hF hO) hr2) fun r2 hr2 => ?_
 refine br rfl (fun hc3 => ?_) fun hc3 => ?_
 exact en rfl fun a w hf hO hm => ⟨true, hf.sel rfl, hO, hm⟩
 refine cl c_192 rfl (fun r4 w hr4 hO => zj4 x_b r4 _ (hG.own hF hO) hr4) fun r4 hr4 => ?_
 refine br rfl (fun hc5 => ?_) fun hc5 => ?_
 exact en rfl fun a w hf hO hm => ⟨true, hf.sel rfl, hO, hm⟩
 refine cl zrP rfl (fun r6 w hr6 hO => zhM x_b [58, 64] r6 _ (hG.own hF hO) hr6) fun r6 hr6 => ?_
 exact en rfl fun a w hf hO hm => ⟨r6, hf.sel rfl, hO, hm⟩
 rintro a w ⟨t7, hf, hO, hm⟩
 rw [zdH] at hm
 refine S.co tb ?_ hf hO hm
 exact rt Tryz.results212 rfl

theorem zmZ (x_s : Str) (x_more : Str) (R : Bool) (w0 : World) (hG : zD w0) (hm : zia x_s x_more = some R) :
    Calls Tryz.prog 208 #[str x_s, str x_more] w0 (Ret w0 (fun R => .bool R) R) := by
 rw [zia] at hm
 have hF : zG [] := zg
 have hO : Dk.Own w0 [] w0 [] := Dk.Own.refl w0
 refine S.enter tb Tryz.func208 rfl Tryz.ntmps208 rfl ?_ hO hm
 refine lp (fun k a w => ∃ (i3 : Int), Fits 49 [(0, str x_s), (1, str x_more), (5, int i3)] a ∧ Dk.Own w0 [] w [] ∧ zbc x_s x_more k i3 = some R) rfl (fun a w hf hO hm => ⟨0, hf.sel rfl, hO, hm⟩) ?_
 rintro n1 a w ⟨i3, hf, hO, hm⟩
 obtain _ | n1 := n1
 rw [zbc] at hm
 cases hm
 rw [zbc] at hm
 refine S.co tb ?_ hf hO hm
 refine br rfl (fun hc5 => ?_) fun hc5 => ?_
 refine jn 3 (fun a w => ∃ (i27 : Int), Fits 49 [(0, str x_s), (1, str x_more), (5, int i27)] a ∧ Dk.Own w0 [] w [] ∧ zfl (zbc x_s x_more n1) i27 = some R) rfl ?_ ?_
 refine jn 6 (fun a w => ∃ (t12 : Bool), Fits 49 [(0, str x_s), (1, str x_more), (5, int i3), (12, .bool t12)] a ∧ Dk.Own w0 [] w [] ∧ zgz (zbc x_s x_more n1) x_s i3 t12 = some R) rfl ?_ ?_
 refine bi rfl fun b7 hb7 => ?_
 refine cl c_212 rfl (fun r8 w hr8 hO => zmY b7 r8 _ (hG.own hF hO) hr8) fun r8 hr8 => ?_
 refine br rfl (fun hc9 => ?_) fun hc9 => ?_
 exact en rfl fun a w hf hO hm => ⟨true, hf.sel rfl, hO, hm⟩
 refine bi rfl fun b10 hb10 => ?_
 refine cl c_163 rfl (fun r11 w hr11 hO => zgQ x_more b10 r11 _ (hG.own hF hO) hr11) fun r11 hr11 => ?_
 exact en rfl fun a w hf hO hm => ⟨decide (0 ≤ r11), hf.sel rfl, hO, hm⟩
 rintro a w ⟨t12, hf, hO, hm⟩
 rw [zgz] at hm
 refine S.co tb ?_ hf hO hm
 refine br rfl (fun hc13 => ?_) fun hc13 => ?_
 exact en rfl fun a w hf hO hm => ⟨i3, hf.sel rfl, hO, hm⟩
 refine jn 6 (fun a w => ∃ (t23 : Bool), Fits 49 [(0, str x_s), (1, str x_more), (5, int i3), (25, .bool t23)] a ∧ Dk.Own w0 [] w [] ∧ zdr (zbc x_s x_more n1) i3 t23 = some R) rfl ?_ ?_
 refine bi rfl fun b14 hb14 => ?_
 refine vl rfl rfl (fun a w hf hO => zU (b := b14) (c := 37) hf rfl rfl) ?_
 refine br rfl (fun hc15 => ?_) fun hc15 => ?_
 refine bi rfl fun i16 hi16 => ?_
 refine br rfl (fun hc17 => ?_) fun hc17 => ?_
 refine bi rfl fun i18 hi18 => ?_
 refine bi rfl fun i19 hi19 => ?_
 refine bi rfl fun s20 hs20 => ?_
 refine rw_ rfl fun a w hf hO hm => ?_
 refine zS (vs := [(0, str s20)]) (cs := [str s20]) (e := 9) (sz := 1) hf rfl rfl (fun w => by kernel_rfl) rfl rfl hO fun a b21 w hf hO => ?_
 refine S.op tb ?_ hf hO hm
 refine kn (b' := true) hc17 rfl ?_
 refine cl c_61 rfl (fun r22 w hr22 hO => zfx zco ([s20] : List Str) r22 _ (hG.own hF hO) ztC (fun y0 r w hG h => zh4 (zh2 y0 r w hG h)) (hO.rowSees (i := 0) rfl) (hO.rowCap (i := 0) rfl) hr22) fun r22 hr22 => ?_
 exact en rfl fun a w hf hO hm => ⟨r22, hf.sel rfl, (hO.sub (.cons _ .slnil)), hm⟩
 exact en rfl fun a w hf hO hm => ⟨false, hf.sel rfl, hO, hm⟩
 exact en rfl fun a w hf hO hm => ⟨false, hf.sel rfl, hO, hm⟩
 rintro a w ⟨t23, hf, hO, hm⟩
 rw [zdr] at hm
 refine S.co tb ?_ hf hO hm
 refine br rfl (fun hc24 => ?_) fun hc24 => ?_
 refine bi rfl fun i25 hi25 => ?_
 exact en rfl fun a w hf hO hm => ⟨i25, hf.sel rfl, hO, hm⟩
 exact rt Tryz.results208 rfl
 rintro a w ⟨i27, hf, hO, hm⟩
 rw [zfl] at hm
 refine S.co tb ?_ hf hO hm
 refine bi rfl fun i28 hi28 => ?_
 exact en rfl fun a w hf hO hm => ⟨_, Nat.lt_succ_self _, i28, hf.sel rfl, hO, hm⟩
 exact rt Tryz.results208 rfl

theorem zo3 (x_s : Str) (R : Bool) (w0 : World) (hG : zD w0) (hm : zhi x_s = some R) :
    Calls Tryz.prog 199 #[str x_s] w0 (Ret w0 (fun R => .bool R) R) := by
 rw [zhi] at hm
 have hF : zG [] := zg
 have hO : Dk.Own w0 [] w0 [] := Dk.Own.refl w0
 refine S.enter tb Tryz.func199 rfl Tryz.ntmps199 rfl ?_ hO hm
 refine jn 0 (fun a w => ∃ (t5 : Bool), Fits 9 [(2, .bool t5)] a ∧ Dk.Own w0 [] w [] ∧ zeY t5 = some R) rfl ?_ ?_
 refine cl ztz rfl (fun r2 w hr2 hO => zeP x_s [47] r2 _ (hG.own hF hO) hr2) fun r2 hr2 => ?_
 refine br rfl (fun hc3 => ?_) fun hc3 => ?_
 refine cl c_208 rfl (fun r4 w hr4 hO => zmZ x_s [47] r4 _ (hG.own hF hO) hr4) fun r4 hr4 => ?_
 exact en rfl fun a w hf hO hm => ⟨r4, hf.sel rfl, hO, hm⟩
 exact en rfl fun a w hf hO hm => ⟨false, hf.sel rfl, hO, hm⟩
 rintro a w ⟨t5, hf, hO, hm⟩
 rw [zeY] at hm
 refine S.co tb ?_ hf hO hm
 exact rt Tryz.results199 rfl

theorem znX (x_s : Str) (R : Bool) (w0 : World) (hG : zD w0) (hm : zgA x_s = some R) :
    Calls Tryz.prog 200 #[str x_s] w0 (Ret w0 (fun R => .bool R) R) := by
 rw [zgA] at hm
 have hF : zG [] := zg
 have hO : Dk.Own w0 [] w0 [] := Dk.Own.refl w0
 refine S.enter tb Tryz.func200 rfl Tryz.ntmps200 rfl ?_ hO hm
 refine cl c_208 rfl (fun r2 w hr2 hO => zmZ x_s [47, 63] r2 _ (hG.own hF hO) hr2) fun r2 hr2 => ?_
 exact rt Tryz.results200 rfl

end Go.Proofs
end
section
set_option linter.unusedVariables false
set_option maxHeartbeats 1000000
set_option linter.unusedSimpArgs false
set_option maxRecDepth 100000
namespace Go.Proofs
open Go.Dk Go.Dm Go.RowKit

theorem zpT (x_s : Str) (R : Str × Str × Bool × Int) (w0 : World) (hG : zD w0) (hm : zib x_s = some R) :
    Calls Tryz.prog 187 #[str x_s] w0 (Ret w0 (fun R => .tuple #[str R.1, str R.2.1, .bool R.2.2.1, int R.2.2.2]) R) := by
 rw [zib] at hm
 have hF : zG [] := zg
 have hO : Dk.Own w0 [] w0 [] := Dk.Own.refl w0
 refine S.enter tb Tryz.func187 rfl Tryz.ntmps187 rfl ?_ hO hm
 refine cl c_90 rfl (fun r2 w hr2 hO => zgj x_s [63] r2 _ (hG.own hF hO) hr2) fun r2 hr2 => ?_
 refine jn 1 (fun a w => ∃ (t7 : Bool), Fits 23 [(2, str r2.1), (3, str r2.2.1), (4, .bool r2.2.2), (19, .bool t7)] a ∧ Dk.Own w0 [] w [] ∧ zfJ r2 t7 = some R) rfl ?_ ?_
 refine cl c_199 rfl (fun r4 w hr4 hO => zo3 r2.1 r4 _ (hG.own hF hO) hr4) fun r4 hr4 => ?_
 refine br rfl (fun hc5 => ?_) fun hc5 => ?_
 exact en rfl fun a w hf hO hm => ⟨true, hf.sel rfl, hO, hm⟩
 refine cl c_200 rfl (fun r6 w hr6 hO => znX r2.2.1 r6 _ (hG.own hF hO) hr6) fun r6 hr6 => ?_
 exact en rfl fun a w hf hO hm => ⟨!r6, hf.sel rfl, hO, hm⟩
 rintro a w ⟨t7, hf, hO, hm⟩
 rw [zfJ] at hm
 refine S.co tb ?_ hf hO hm
 refine br rfl (fun hc8 => ?_) fun hc8 => ?_
 exact rt Tryz.results187 rfl
 exact rt Tryz.results187 rfl

theorem zj3 (x_t : api_Target) (x_s : Str) (R : api_Target × Bool) (w0 : World) (hG : zD w0) (hm : zfm x_t x_s = some R) :
    Calls Tryz.prog 169 #[.agg #[int x_t.Kind, str x_t.Scheme, int x_t.Host.Kind, str x_t.Host.Name, int x_t.Host.Port, str x_t.Path, str x_t.Query, .bool x_t.HasQuery], str x_s] w0 (Ret w0 (fun R => .tuple #[.agg #[int R.1.Kind, str R.1.Scheme, int R.1.Host.Kind, str R.1.Host.Name, int R.1.Host.Port, str R.1.Path, str R.1.Query, .bool R.1.HasQuery], .bool R.2]) R) := by
 rw [zfm] at hm
 have hF : zG [] := zg
 have hO : Dk.Own w0 [] w0 [] := Dk.Own.refl w0
 refine S.enter tb Tryz.func169 rfl Tryz.ntmps169 rfl ?_ hO hm
 refine rw_ rfl fun a w hf hO hm => ?_
 refine zeA (v := .agg #[int x_t.Kind, str x_t.Scheme, int x_t.Host.Kind, str x_t.Host.Name, int x_t.Host.Port, str x_t.Path, str x_t.Query, .bool x_t.HasQuery]) (cs := [int x_t.Kind, str x_t.Scheme, int x_t.Host.Kind, str x_t.Host.Name, int x_t.Host.Port, str x_t.Path, str x_t.Query, .bool x_t.HasQuery]) rfl hf rfl rfl hO fun a b1 w hf hO => ?_
 refine S.op tb ?_ hf hO hm
 refine rw_ rfl fun a w hf hO hm => ?_
 refine zx zgf hf rfl hO fun a b2 w hf hO => ?_
 refine S.op tb ?_ hf hO hm
 refine br rfl (fun hc5 => ?_) fun hc5 => ?_
 refine vl rfl rfl (fun a w hf hO => zu (o := 0) (vs := [int x_t.Kind, str x_t.Scheme, int x_t.Host.Kind, str x_t.Host.Name, int x_t.Host.Port, str x_t.Path, str x_t.Query, .bool x_t.HasQuery]) zad zB (hO.blkSees (i := 1) rfl) rfl rfl hf rfl) ?_
 refine rw_ rfl fun a w hf hO hm => ?_
 refine zd (i := 0) (n := 8) zB rfl rfl rfl (by simp [Value.oneCell']) hf rfl rfl hO fun w hO => ?_
 refine S.op tb ?_ hf hO hm
 refine re_ rfl fun a w hf hO hm => ?_
 obtain rfl := Option.some.inj hm
 exact zf Tryz.results169 hf (.cell rfl (zc (n := 8) (vs := [int x_t.Kind, str x_t.Scheme, int x_t.Host.Kind, str x_t.Host.Name, int x_t.Host.Port, str x_t.Path, str x_t.Query, .bool x_t.HasQuery]) zad zB rfl ((hO.blkSees (i := 0) rfl).cells (o := 0) (n := 8) rfl)) (.tmp rfl .nil)) ⟨rfl, hO.below⟩
 refine bi rfl fun b9 hb9 => ?_
 refine vl rfl rfl (fun a w hf hO => zU (b := b9) (c := 63) hf rfl rfl) ?_
 refine jn 0 (fun a w => ∃ (s14 : Str), Fits 32 [(1, str s14), (2, ptr b1 0), (4, ptr b2 0), (7, .bool (b9 == 63))] a ∧ Dk.Own w0 [] w [.blk b2 [int 0, str [], int 0, str [], int 0, str [], str [], .bool false] 109, .blk b1 [int x_t.Kind, str x_t.Scheme, int x_t.Host.Kind, str x_t.Host.Name, int x_t.Host.Port, str x_t.Path, str x_t.Query, .bool x_t.HasQuery] 109] ∧ zec x_t b9 s14 = some R) rfl ?_ ?_
 refine br rfl (fun hc12 => ?_) fun hc12 => ?_
 refine bi rfl fun s13 hs13 => ?_
 exact en rfl fun a w hf hO hm => ⟨s13, hf.sel rfl, hO, hm⟩
 exact en rfl fun a w hf hO hm => ⟨x_s, hf.sel rfl, hO, hm⟩
 rintro a w ⟨s14, hf, hO, hm⟩
 rw [zec] at hm
 refine S.co tb ?_ hf hO hm
 refine cl c_187 rfl (fun r15 w hr15 hO => zpT s14 r15 _ (hG.own hF hO) hr15) fun r15 hr15 => ?_
 refine rw_ rfl fun a w hf hO hm => ?_
 refine zV (i := 1) (o := 5) (v := str r15.1) zeB rfl rfl rfl rfl hf rfl rfl hO fun w hO => ?_
 refine S.op tb ?_ hf hO hm
 refine rw_ rfl fun a w hf hO hm => ?_
 refine zV (i := 1) (o := 6) (v := str r15.2.1) zeB rfl rfl rfl rfl hf rfl rfl hO fun w hO => ?_
 refine S.op tb ?_ hf hO hm
 refine rw_ rfl fun a w hf hO hm => ?_
 refine zV (i := 1) (o := 7) (v := .bool r15.2.2.1) sz_4 rfl rfl rfl rfl hf rfl rfl hO fun w hO => ?_
 refine S.op tb ?_ hf hO hm
 refine jn 0 (fun a w => ∃ (s19 : Str), Fits 32 [(2, ptr b1 0), (4, ptr b2 0), (6, int r15.2.2.2)] a ∧ Dk.Own w0 [] w [.blk b2 [int 0, str [], int 0, str [], int 0, str [], str [], .bool false] 109, .blk b1 [int x_t.Kind, str x_t.Scheme, int x_t.Host.Kind, str x_t.Host.Name, int x_t.Host.Port, str s19, str r15.2.1, .bool r15.2.2.1] 109] ∧ zeb x_t r15 s19 = some R) rfl ?_ ?_
 refine br rfl (fun hc18 => ?_) fun hc18 => ?_
 refine rw_ rfl fun a w hf hO hm => ?_
 refine zV (i := 1) (o := 5) (v := str []) zeB rfl rfl rfl rfl hf rfl rfl hO fun w hO => ?_
 refine S.op tb ?_ hf hO hm
 exact en rfl fun a w hf hO hm => ⟨[], hf.sel rfl, hO, hm⟩
 exact en rfl fun a w hf hO hm => ⟨r15.1, hf.sel rfl, hO, hm⟩
 rintro a w ⟨s19, hf, hO, hm⟩
 rw [zeb] at hm
 refine S.co tb ?_ hf hO hm
 refine vl rfl rfl (fun a w hf hO => zu (o := 0) (vs := [int x_t.Kind, str x_t.Scheme, int x_t.Host.Kind, str x_t.Host.Name, int x_t.Host.Port, str s19, str r15.2.1, .bool r15.2.2.1]) zad zB (hO.blkSees (i := 1) rfl) rfl rfl hf rfl) ?_
 refine rw_ rfl fun a w hf hO hm => ?_
 refine zd (i := 0) (n := 8) zB rfl rfl rfl (by simp [Value.oneCell']) hf rfl rfl hO fun w hO => ?_
 refine S.op tb ?_ hf hO hm
 refine re_ rfl fun a w hf hO hm => ?_
 obtain rfl := Option.some.inj hm
 exact zf Tryz.results169 hf (.cell rfl (zc (n := 8) (vs := [int x_t.Kind, str x_t.Scheme, int x_t.Host.Kind, str x_t.Host.Name, int x_t.Host.Port, str s19, str r15.2.1, .bool r15.2.2.1]) zad zB rfl ((hO.blkSees (i := 0) rfl).cells (o := 0) (n := 8) rfl)) (.tmp rfl .nil)) ⟨rfl, hO.below⟩

theorem zkK (x_s : Str) (R : api_Target × Bool) (w0 : World) (hG : zbB w0) (hm : zdI x_s = some R) :
    Calls Tryz.prog 168 #[str x_s] w0 (Ret w0 (fun R => .tuple #[.agg #[int R.1.Kind, str R.1.Scheme, int R.1.Host.Kind, str R.1.Host.Name, int R.1.Host.Port, str R.1.Path, str R.1.Query, .bool R.1.HasQuery], .bool R.2]) R) := by
 rw [zdI] at hm
 have hF : zG [] := zg
 have hO : Dk.Own w0 [] w0 [] := Dk.Own.refl w0
 refine S.enter tb Tryz.func168 rfl Tryz.ntmps168 rfl ?_ hO hm
 refine rw_ rfl fun a w hf hO hm => ?_
 refine zx zgf hf rfl hO fun a b1 w hf hO => ?_
 refine S.op tb ?_ hf hO hm
 refine cl c_90 rfl (fun r3 w hr3 hO => zgj x_s [58, 47, 47] r3 _ (hG.own hF hO).1 hr3) fun r3 hr3 => ?_
 refine cl ztA rfl (fun r5 w hr5 hO => zix r3.1 r5 _ (hG.own hF hO).1 hr5) fun r5 hr5 => ?_
 refine vl rfl rfl (fun a w hf hO => zo (vs := [(0, int 2), (1, str r5)]) (v := .agg #[int 2, str r5, int 0, str [], int 0, str [], str [], .bool false]) hf rfl (by kernel_rfl)) ?_
 refine rw_ rfl fun a w hf hO hm => ?_
 refine zx zgf hf rfl hO fun a b6 w hf hO => ?_
 refine S.op tb ?_ hf hO hm
 refine rw_ rfl fun a w hf hO hm => ?_
 refine zd (i := 0) (n := 8) zB rfl rfl rfl (by simp [Value.oneCell']) hf rfl rfl hO fun w hO => ?_
 refine S.op tb ?_ hf hO hm
 refine jn 1 (fun a w => ∃ (t10 : Bool), Fits 58 [(2, ptr b1 0), (5, str r3.2.1), (7, ptr b6 0), (31, .bool t10)] a ∧ Dk.Own w0 [] w [.blk b6 [int 2, str r5, int 0, str [], int 0, str [], str [], .bool false] 109, .blk b1 [int 0, str [], int 0, str [], int 0, str [], str [], .bool false] 109] ∧ zas r3 r5 t10 = some R) rfl ?_ ?_
 refine br rfl (fun hc8 => ?_) fun hc8 => ?_
 exact en rfl fun a w hf hO hm => ⟨true, hf.sel rfl, hO, hm⟩
 refine vl rfl rfl (fun a w hf hO => zb (o := 1) za6 (hO.blkSees (i := 0) rfl) rfl hf rfl) ?_
 refine br rfl (fun hc9 => ?_) fun hc9 => ?_
 refine vl rfl rfl (fun a w hf hO => zb (o := 1) za6 (hO.blkSees (i := 0) rfl) rfl hf rfl) ?_
 exact en rfl fun a w hf hO hm => ⟨!(r5 == [104, 116, 116, 112, 115]), hf.sel rfl, hO, hm⟩
 exact en rfl fun a w hf hO hm => ⟨false, hf.sel rfl, hO, hm⟩
 rintro a w ⟨t10, hf, hO, hm⟩
 rw [zas] at hm
 refine S.co tb ?_ hf hO hm
 refine br rfl (fun hc11 => ?_) fun hc11 => ?_
 refine vl rfl rfl (fun a w hf hO => zu (o := 0) (vs := [int 2, str r5, int 0, str [], int 0, str [], str [], .bool false]) zad zB (hO.blkSees (i := 0) rfl) rfl rfl hf rfl) ?_
 refine rw_ rfl fun a w hf hO hm => ?_
 refine zd (i := 1) (n := 8) zB rfl rfl rfl (by simp [Value.oneCell']) hf rfl rfl hO fun w hO => ?_
 refine S.op tb ?_ hf hO hm
 refine re_ rfl fun a w hf hO hm => ?_
 obtain rfl := Option.some.inj hm
 exact zf Tryz.results168 hf (.cell rfl (zc (n := 8) (vs := [int 2, str r5, int 0, str [], int 0, str [], str [], .bool false]) zad zB rfl ((hO.blkSees (i := 1) rfl).cells (o := 0) (n := 8) rfl)) (.tmp rfl .nil)) ⟨rfl, hO.below⟩
 refine cl c_82 rfl (fun r14 w hr14 hO => zg7 r3.2.1 [47, 63] r14 _ (hG.own hF hO).1 hr14) fun r14 hr14 => ?_
 refine jn 0 (fun a w => ∃ (i18 : Int), Fits 58 [(2, ptr b1 0), (5, str r3.2.1), (7, ptr b6 0), (8, int i18)] a ∧ Dk.Own w0 [] w [.blk b6 [int 2, str r5, int 0, str [], int 0, str [], str [], .bool false] 109, .blk b1 [int 0, str [], int 0, str [], int 0, str [], str [], .bool false] 109] ∧ zbL r3 r5 i18 = some R) rfl ?_ ?_
 refine br rfl (fun hc17 => ?_) fun hc17 => ?_
 exact en rfl fun a w hf hO hm => ⟨(r3.2.1.length : Int), hf.sel rfl, hO, hm⟩
 exact en rfl fun a w hf hO hm => ⟨r14, hf.sel rfl, hO, hm⟩
 rintro a w ⟨i18, hf, hO, hm⟩
 rw [zbL] at hm
 refine S.co tb ?_ hf hO hm
 refine bi rfl fun s19 hs19 => ?_
 refine cl ztx rfl (fun r20 w hr20 hO => zf9 s19 r20 _ (hG.own hF hO) hr20) fun r20 hr20 => ?_
 refine rw_ rfl fun a w hf hO hm => ?_
 refine zx zfU hf rfl hO fun a b21 w hf hO => ?_
 refine S.op tb ?_ hf hO hm
 refine rw_ rfl fun a w hf hO hm => ?_
 refine zd (i := 0) (n := 3) zW rfl rfl rfl (by simp [Value.oneCell']) hf rfl rfl hO fun w hO => ?_
 refine S.op tb ?_ hf hO hm
 refine br rfl (fun hc24 => ?_) fun hc24 => ?_
 refine vl rfl rfl (fun a w hf hO => zu (o := 0) (vs := [int 2, str r5, int 0, str [], int 0, str [], str [], .bool false]) zad zB (hO.blkSees (i := 1) rfl) rfl rfl hf rfl) ?_
 refine rw_ rfl fun a w hf hO hm => ?_
 refine zd (i := 2) (n := 8) zB rfl rfl rfl (by simp [Value.oneCell']) hf rfl rfl hO fun w hO => ?_
 refine S.op tb ?_ hf hO hm
 refine re_ rfl fun a w hf hO hm => ?_
 obtain rfl := Option.some.inj hm
 exact zf Tryz.results168 hf (.cell rfl (zc (n := 8) (vs := [int 2, str r5, int 0, str [], int 0, str [], str [], .bool false]) zad zB rfl ((hO.blkSees (i := 2) rfl).cells (o := 0) (n := 8) rfl)) (.tmp rfl .nil)) ⟨rfl, hO.below⟩
 refine vl rfl rfl (fun a w hf hO => zu (o := 0) (vs := [int r20.1.Kind, str r20.1.Name, int r20.1.Port]) zcI zW (hO.blkSees (i := 0) rfl) rfl rfl hf rfl) ?_
 refine rw_ rfl fun a w hf hO hm => ?_
 refine zsd (i := 1) (n := 3) (o := 2) (vs := [int r20.1.Kind, str r20.1.Name, int r20.1.Port]) (cs' := [int 2, str r5, int r20.1.Kind, str r20.1.Name, int r20.1.Port, str [], str [], .bool false]) zW rfl rfl rfl (by simp [Value.oneCell']) rfl hf rfl rfl hO fun w hO => ?_
 refine S.op tb ?_ hf hO hm
 refine rc_ rfl fun a w hf hO hm => ?_
 obtain ⟨s28, hs28, hm⟩ := ob hm
 obtain ⟨r29, hr29, hm⟩ := ob hm
 refine zfy (S := Unit) (E0 := [(2, ptr b1 0), (5, str r3.2.1), (7, ptr b6 0), (8, int i18)]) (by kernel_rfl) (fun k σ w => match k with | 0 => Dk.Own w0 [] w [.blk b21 [int r20.1.Kind, str r20.1.Name, int r20.1.Port] 107, .blk b6 [int 2, str r5, int r20.1.Kind, str r20.1.Name, int r20.1.Port, str [], str [], .bool false] 109, .blk b1 [int 0, str [], int 0, str [], int 0, str [], str [], .bool false] 109] | 1 => Dk.Own w0 [] w [.blk b21 [int r20.1.Kind, str r20.1.Name, int r20.1.Port] 107, .blk b6 [int 2, str r5, int r20.1.Kind, str r20.1.Name, int r20.1.Port, str [], str [], .bool false] 109, .blk b1 [int 0, str [], int 0, str [], int 0, str [], str [], .bool false] 109] | _ => Dk.Own w0 [] w [.blk b21 [int r20.1.Kind, str r20.1.Name, int r20.1.Port] 107, .blk b6 [int 2, str r5, int r20.1.Kind, str r20.1.Name, int r20.1.Port, str [], str [], .bool false] 109, .blk b1 [int r29.1.Kind, str r29.1.Scheme, int r29.1.Host.Kind, str r29.1.Host.Name, int r29.1.Host.Port, str r29.1.Path, str r29.1.Query, .bool r29.1.HasQuery] 109]) (fun σ => [⟨[(7, ptr b6 0)], some (51, .agg #[int 2, str r5, int r20.1.Kind, str r20.1.Name, int r20.1.Port, str [], str [], .bool false])⟩, ⟨[(5, str r3.2.1)], some (52, str r3.2.1)⟩, ⟨[(8, int i18)], some (53, int i18)⟩, ⟨[(52, str r3.2.1), (53, int i18)], some (54, str s28)⟩, ⟨[(51, .agg #[int 2, str r5, int r20.1.Kind, str r20.1.Name, int r20.1.Port, str [], str [], .bool false]), (54, str s28)], some (55, .tuple #[.agg #[int r29.1.Kind, str r29.1.Scheme, int r29.1.Host.Kind, str r29.1.Host.Name, int r29.1.Host.Port, str r29.1.Path, str r29.1.Query, .bool r29.1.HasQuery], .bool r29.2])⟩, ⟨[(55, .tuple #[.agg #[int r29.1.Kind, str r29.1.Scheme, int r29.1.Host.Kind, str r29.1.Host.Name, int r29.1.Host.Port, str r29.1.Path, str r29.1.Query, .bool r29.1.HasQuery], .bool r29.2])], some (56, .agg #[int r29.1.Kind, str r29.1.Scheme, int r29.1.Host.Kind, str r29.1.Host.Name, int r29.1.Host.Port, str r29.1.Path, str r29.1.Query, .bool r29.1.HasQuery])⟩, ⟨[(55, .tuple #[.agg #[int r29.1.Kind, str r29.1.Scheme, int r29.1.Host.Kind, str r29.1.Host.Name, int r29.1.Host.Port, str r29.1.Path, str r29.1.Query, .bool r29.1.HasQuery], .bool r29.2])], some (57, .bool r29.2)⟩, ⟨[(2, ptr b1 0), (56, .agg #[int r29.1.Kind, str r29.1.Scheme, int r29.1.Host.Kind, str r29.1.Host.Name, int r29.1.Host.Port, str r29.1.Path, str r29.1.Query, .bool r29.1.HasQuery])], none⟩, ⟨[(57, .bool r29.2)], some (3, .bool r29.2)⟩]) () [4, 7] rfl (fun _ => rfl) (fun _ => rfl) (fun _ => rfl) rfl rfl (by decide) rfl hO.drew (hf.cons rfl (hf.cons rfl (hf.cons rfl (hf.cons rfl hf.nil)))) (fun σ => ⟨⟨rfl, trivial⟩, ⟨rfl, trivial⟩, ⟨rfl, trivial⟩, ⟨rfl, rfl, trivial⟩, ⟨rfl, rfl, trivial⟩, ⟨rfl, trivial⟩, ⟨rfl, trivial⟩, ⟨rfl, rfl, trivial⟩, ⟨rfl, trivial⟩, trivial⟩) ⟨zk rfl (fun σ => rfl) (fun σ => rfl) (fun σ a w k hk hlo hup hst hf => match k, hk, hlo, hup, hst, hf with | 0, _, _, _, hst, hf => have hO : Dk.Own w0 [] w _ := hst; zu (o := 0) (vs := [int 2, str r5, int r20.1.Kind, str r20.1.Name, int r20.1.Port, str [], str [], .bool false]) zad zB (hO.blkSees (i := 1) rfl) rfl rfl hf rfl | 1, _, _, _, hst, hf => have hO : Dk.Own w0 [] w _ := hst; zu (o := 0) (vs := [int 2, str r5, int r20.1.Kind, str r20.1.Name, int r20.1.Port, str [], str [], .bool false]) zad zB (hO.blkSees (i := 1) rfl) rfl rfl hf rfl | 2, _, _, _, hst, hf => have hO : Dk.Own w0 [] w _ := hst; zu (o := 0) (vs := [int 2, str r5, int r20.1.Kind, str r20.1.Name, int r20.1.Port, str [], str [], .bool false]) zad zB (hO.blkSees (i := 1) rfl) rfl rfl hf rfl | k + 3, hk, _, _, _, _ => absurd hk (by simp)), zk rfl (fun σ => rfl) (fun σ => rfl) (fun σ a w k _ _ _ _ hf => zp hf rfl), zk rfl (fun σ => rfl) (fun σ => rfl) (fun σ a w k _ _ _ _ hf => zp hf rfl), zk rfl (fun σ => rfl) (fun σ => rfl) (fun σ a w k _ _ _ _ hf => zjR (l := r3.2.1) Tryz.underlying9 hf rfl rfl hs28), ziQ rfl (fun σ => rfl) (fun σ => rfl) rfl (fun σ a w (_ : _) hf => zt c_169 hf (vs := [.agg #[int 2, str r5, int r20.1.Kind, str r20.1.Name, int r20.1.Port, str [], str [], .bool false], str s28]) rfl) (fun σ w (hO : Dk.Own w0 [] w _) => (zj3 (⟨2, r5, r20.1, [], [], false⟩ : api_Target) s28 r29 _ (hG.own hF hO).1 hr29).mono fun e w' h => by obtain ⟨he, hb⟩ := h; exact ⟨(), he, hO.grow hb, .inr rfl, .inr rfl, .inr rfl, .inr rfl, .inr rfl, .inr rfl, .inr rfl, .inr rfl, .inr rfl, trivial⟩), zk rfl (fun σ => rfl) (fun σ => rfl) (fun σ a w k _ _ _ _ hf => zcK hf rfl rfl), zk rfl (fun σ => rfl) (fun σ => rfl) (fun σ a w k _ _ _ _ hf => zcK hf rfl rfl), zgp rfl (fun σ => rfl) (fun σ => rfl) rfl (fun σ w (hO : Dk.Own w0 [] w _) => by obtain ⟨w', hO', hr⟩ := zgh (x := (.tmp 2)) (y := (.tmp 56)) (E := [(2, ptr b1 0), (56, .agg #[int r29.1.Kind, str r29.1.Scheme, int r29.1.Host.Kind, str r29.1.Host.Name, int r29.1.Host.Port, str r29.1.Path, str r29.1.Query, .bool r29.1.HasQuery])]) (i := 2) (n := 8) (vs := [int r29.1.Kind, str r29.1.Scheme, int r29.1.Host.Kind, str r29.1.Host.Name, int r29.1.Host.Port, str r29.1.Path, str r29.1.Query, .bool r29.1.HasQuery]) zB rfl rfl rfl (by simp [Value.oneCell']) hO rfl rfl; exact ⟨(), w', hO', ⟨.inr rfl, .inr rfl, .inr rfl, .inr rfl, .inr rfl, .inr rfl, .inr rfl, .inr rfl, .inr rfl, trivial⟩, hr⟩), zk rfl (fun σ => rfl) (fun σ => rfl) (fun σ a w k _ _ _ _ hf => zaE hf rfl), trivial⟩ ?_
 rintro _ a w hf hO
 have hO : Dk.Own w0 [] w _ := hO
 have hf : Fits 58 [(2, ptr b1 0), (3, .bool r29.2)] a := (hf.cons rfl (hf.cons rfl hf.nil))
 refine S.no tb ?_ hf hO hm
 refine re_ rfl fun a w hf hO hm => ?_
 obtain rfl := Option.some.inj hm
 exact zf Tryz.results168 hf (.cell rfl (zc (n := 8) (vs := [int r29.1.Kind, str r29.1.Scheme, int r29.1.Host.Kind, str r29.1.Host.Name, int r29.1.Host.Port, str r29.1.Path, str r29.1.Query, .bool r29.1.HasQuery]) zad zB rfl ((hO.blkSees (i := 2) rfl).cells (o := 0) (n := 8) rfl)) (.tmp rfl .nil)) ⟨rfl, hO.below⟩

theorem zpU (x_method : Str) (x_s : Str) (R : api_Target × Bool) (w0 : World) (hG : zbB w0) (hm : zic x_method x_s = some R) :
    Calls Tryz.prog 134 #[str x_method, str x_s] w0 (Ret w0 (fun R => .tuple #[.agg #[int R.1.Kind, str R.1.Scheme, int R.1.Host.Kind, str R.1.Host.Name, int R.1.Host.Port, str R.1.Path, str R.1.Query, .bool R.1.HasQuery], .bool R.2]) R) := by
 rw [zic] at hm
 have hF : zG [] := zg
 have hO : Dk.Own w0 [] w0 [] := Dk.Own.refl w0
 refine S.enter tb Tryz.func134 rfl Tryz.ntmps134 rfl ?_ hO hm
 refine rw_ rfl fun a w hf hO hm => ?_
 refine zx zgf hf rfl hO fun a b1 w hf hO => ?_
 refine S.op tb ?_ hf hO hm
 refine br rfl (fun hc4 => ?_) fun hc4 => ?_
 refine vl rfl rfl (fun a w hf hO => zo (vs := [(0, int 4)]) (v := .agg #[int 4, str [], int 0, str [], int 0, str [], str [], .bool false]) hf rfl (by kernel_rfl)) ?_
 refine rw_ rfl fun a w hf hO hm => ?_
 refine zd (i := 0) (n := 8) zB rfl rfl rfl (by simp [Value.oneCell']) hf rfl rfl hO fun w hO => ?_
 refine S.op tb ?_ hf hO hm
 refine re_ rfl fun a w hf hO hm => ?_
 obtain rfl := Option.some.inj hm
 exact zf Tryz.results134 hf (.cell rfl (zc (n := 8) (vs := [int 4, str [], int 0, str [], int 0, str [], str [], .bool false]) zad zB rfl ((hO.blkSees (i := 0) rfl).cells (o := 0) (n := 8) rfl)) (.tmp rfl .nil)) ⟨rfl, hO.below⟩
 refine cl ztz rfl (fun r7 w hr7 hO => zeP x_s [47] r7 _ (hG.own hF hO).1 hr7) fun r7 hr7 => ?_
 refine br rfl (fun hc9 => ?_) fun hc9 => ?_
 refine cl c_168 rfl (fun r10 w hr10 hO => zkK x_s r10 _ (hG.own hF hO) hr10) fun r10 hr10 => ?_
 refine rw_ rfl fun a w hf hO hm => ?_
 refine zd (i := 0) (n := 8) zB rfl rfl rfl (by simp [Value.oneCell']) hf rfl rfl hO fun w hO => ?_
 refine S.op tb ?_ hf hO hm
 refine re_ rfl fun a w hf hO hm => ?_
 obtain rfl := Option.some.inj hm
 exact zf Tryz.results134 hf (.cell rfl (zc (n := 8) (vs := [int r10.1.Kind, str r10.1.Scheme, int r10.1.Host.Kind, str r10.1.Host.Name, int r10.1.Host.Port, str r10.1.Path, str r10.1.Query, .bool r10.1.HasQuery]) zad zB rfl ((hO.blkSees (i := 0) rfl).cells (o := 0) (n := 8) rfl)) (.tmp rfl .nil)) ⟨rfl, hO.below⟩
 refine vl rfl rfl (fun a w hf hO => zo (vs := [(0, int 1)]) (v := .agg #[int 1, str [], int 0, str [], int 0, str [], str [], .bool false]) hf rfl (by kernel_rfl)) ?_
 refine cl c_169 rfl (fun r13 w hr13 hO => zj3 ((⟨1, [], (⟨0, [], 0⟩ : api_Host), [], [], false⟩ : api_Target)) x_s r13 _ (hG.own hF hO).1 hr13) fun r13 hr13 => ?_
 refine rw_ rfl fun a w hf hO hm => ?_
 refine zx zgf hf rfl hO fun a b14 w hf hO => ?_
 refine S.op tb ?_ hf hO hm
 refine rw_ rfl fun a w hf hO hm => ?_
 refine zd (i := 0) (n := 8) zB rfl rfl rfl (by simp [Value.oneCell']) hf rfl rfl hO fun w hO => ?_
 refine S.op tb ?_ hf hO hm
 refine vl rfl rfl (fun a w hf hO => zu (o := 0) (vs := [int r13.1.Kind, str r13.1.Scheme, int r13.1.Host.Kind, str r13.1.Host.Name, int r13.1.Host.Port, str r13.1.Path, str r13.1.Query, .bool r13.1.HasQuery]) zad zB (hO.blkSees (i := 0) rfl) rfl rfl hf rfl) ?_
 refine rw_ rfl fun a w hf hO hm => ?_
 refine zd (i := 1) (n := 8) zB rfl rfl rfl (by simp [Value.oneCell']) hf rfl rfl hO fun w hO => ?_
 refine S.op tb ?_ hf hO hm
 refine re_ rfl fun a w hf hO hm => ?_
 obtain rfl := Option.some.inj hm
 exact zf Tryz.results134 hf (.cell rfl (zc (n := 8) (vs := [int r13.1.Kind, str r13.1.Scheme, int r13.1.Host.Kind, str r13.1.Host.Name, int r13.1.Host.Port, str r13.1.Path, str r13.1.Query, .bool r13.1.HasQuery]) zad zB rfl ((hO.blkSees (i := 1) rfl).cells (o := 0) (n := 8) rfl)) (.tmp rfl .nil)) ⟨rfl, hO.below⟩

theorem zmW (x_method : Str) (x_s : Str) (R : api_Target × Int) (w0 : World) (hG : zbB w0) (hm : zfK x_method x_s = some R) :
    Calls Tryz.prog 88 #[str x_method, str x_s] w0 (Ret w0 (fun R => .tuple #[.agg #[int R.1.Kind, str R.1.Scheme, int R.1.Host.Kind, str R.1.Host.Name, int R.1.Host.Port, str R.1.Path, str R.1.Query, .bool R.1.HasQuery], int R.2]) R) := by
 rw [zfK] at hm
 have hF : zG [] := zg
 have hO : Dk.Own w0 [] w0 [] := Dk.Own.refl w0
 refine S.enter tb Tryz.func88 rfl Tryz.ntmps88 rfl ?_ hO hm
 refine rw_ rfl fun a w hf hO hm => ?_
 refine zx zgf hf rfl hO fun a b1 w hf hO => ?_
 refine S.op tb ?_ hf hO hm
 refine br rfl (fun hc4 => ?_) fun hc4 => ?_
 refine cl ztx rfl (fun r5 w hr5 hO => zf9 x_s r5 _ (hG.own hF hO) hr5) fun r5 hr5 => ?_
 refine rw_ rfl fun a w hf hO hm => ?_
 refine zx zfU hf rfl hO fun a b6 w hf hO => ?_
 refine S.op tb ?_ hf hO hm
 refine rw_ rfl fun a w hf hO hm => ?_
 refine zd (i := 0) (n := 3) zW rfl rfl rfl (by simp [Value.oneCell']) hf rfl rfl hO fun w hO => ?_
 refine S.op tb ?_ hf hO hm
 refine jn 2 (fun a w => ∃ (t9 : Bool), Fits 37 [(4, ptr b1 0), (6, ptr b6 0), (23, .bool t9)] a ∧ Dk.Own w0 [] w [.blk b6 [int r5.1.Kind, str r5.1.Name, int r5.1.Port] 107, .blk b1 [int 0, str [], int 0, str [], int 0, str [], str [], .bool false] 109] ∧ zdJ r5 t9 = some R) rfl ?_ ?_
 refine br rfl (fun hc8 => ?_) fun hc8 => ?_
 exact en rfl fun a w hf hO hm => ⟨true, hf.sel rfl, hO, hm⟩
 refine vl rfl rfl (fun a w hf hO => zb (o := 2) zfz (hO.blkSees (i := 0) rfl) rfl hf rfl) ?_
 exact en rfl fun a w hf hO hm => ⟨decide (r5.1.Port < 0), hf.sel rfl, hO, hm⟩
 rintro a w ⟨t9, hf, hO, hm⟩
 rw [zdJ] at hm
 refine S.co tb ?_ hf hO hm
 refine br rfl (fun hc10 => ?_) fun hc10 => ?_
 refine vl rfl rfl (fun a w hf hO => zo (vs := []) (v := .agg #[int 0, str [], int 0, str [], int 0, str [], str [], .bool false]) hf rfl (by kernel_rfl)) ?_
 refine rw_ rfl fun a w hf hO hm => ?_
 refine zd (i := 1) (n := 8) zB rfl rfl rfl (by simp [Value.oneCell']) hf rfl rfl hO fun w hO => ?_
 refine S.op tb ?_ hf hO hm
 refine re_ rfl fun a w hf hO hm => ?_
 obtain rfl := Option.some.inj hm
 exact zf Tryz.results88 hf (.cell rfl (zc (n := 8) (vs := [int 0, str [], int 0, str [], int 0, str [], str [], .bool false]) zad zB rfl ((hO.blkSees (i := 1) rfl).cells (o := 0) (n := 8) rfl)) (.tmp rfl .nil)) ⟨rfl, hO.below⟩
 refine vl rfl rfl (fun a w hf hO => zu (o := 0) (vs := [int r5.1.Kind, str r5.1.Name, int r5.1.Port]) zcI zW (hO.blkSees (i := 0) rfl) rfl rfl hf rfl) ?_
 refine vl rfl rfl (fun a w hf hO => zo (vs := [(0, int 3), (2, .agg #[int r5.1.Kind, str r5.1.Name, int r5.1.Port])]) (v := .agg #[int 3, str [], int r5.1.Kind, str r5.1.Name, int r5.1.Port, str [], str [], .bool false]) hf rfl (by kernel_rfl)) ?_
 refine rw_ rfl fun a w hf hO hm => ?_
 refine zd (i := 1) (n := 8) zB rfl rfl rfl (by simp [Value.oneCell']) hf rfl rfl hO fun w hO => ?_
 refine S.op tb ?_ hf hO hm
 refine re_ rfl fun a w hf hO hm => ?_
 obtain rfl := Option.some.inj hm
 exact zf Tryz.results88 hf (.cell rfl (zc (n := 8) (vs := [int 3, str [], int r5.1.Kind, str r5.1.Name, int r5.1.Port, str [], str [], .bool false]) zad zB rfl ((hO.blkSees (i := 1) rfl).cells (o := 0) (n := 8) rfl)) (.tmp rfl .nil)) ⟨rfl, hO.below⟩
 refine cl c_134 rfl (fun r15 w hr15 hO => zpU x_method x_s r15 _ (hG.own hF hO) hr15) fun r15 hr15 => ?_
 refine rw_ rfl fun a w hf hO hm => ?_
 refine zx zgf hf rfl hO fun a b16 w hf hO => ?_
 refine S.op tb ?_ hf hO hm
 refine rw_ rfl fun a w hf hO hm => ?_
 refine zd (i := 0) (n := 8) zB rfl rfl rfl (by simp [Value.oneCell']) hf rfl rfl hO fun w hO => ?_
 refine S.op tb ?_ hf hO hm
 refine br rfl (fun hc19 => ?_) fun hc19 => ?_
 refine vl rfl rfl (fun a w hf hO => zo (vs := []) (v := .agg #[int 0, str [], int 0, str [], int 0, str [], str [], .bool false]) hf rfl (by kernel_rfl)) ?_
 refine rw_ rfl fun a w hf hO hm => ?_
 refine zd (i := 1) (n := 8) zB rfl rfl rfl (by simp [Value.oneCell']) hf rfl rfl hO fun w hO => ?_
 refine S.op tb ?_ hf hO hm
 refine re_ rfl fun a w hf hO hm => ?_
 obtain rfl := Option.some.inj hm
 exact zf Tryz.results88 hf (.cell rfl (zc (n := 8) (vs := [int 0, str [], int 0, str [], int 0, str [], str [], .bool false]) zad zB rfl ((hO.blkSees (i := 1) rfl).cells (o := 0) (n := 8) rfl)) (.tmp rfl .nil)) ⟨rfl, hO.below⟩
 refine vl rfl rfl (fun a w hf hO => zu (o := 0) (vs := [int r15.1.Kind, str r15.1.Scheme, int r15.1.Host.Kind, str r15.1.Host.Name, int r15.1.Host.Port, str r15.1.Path, str r15.1.Query, .bool r15.1.HasQuery]) zad zB (hO.blkSees (i := 0) rfl) rfl rfl hf rfl) ?_
 refine rw_ rfl fun a w hf hO hm => ?_
 refine zd (i := 1) (n := 8) zB rfl rfl rfl (by simp [Value.oneCell']) hf rfl rfl hO fun w hO => ?_
 refine S.op tb ?_ hf hO hm
 refine re_ rfl fun a w hf hO hm => ?_
 obtain rfl := Option.some.inj hm
 exact zf Tryz.results88 hf (.cell rfl (zc (n := 8) (vs := [int r15.1.Kind, str r15.1.Scheme, int r15.1.Host.Kind, str r15.1.Host.Name, int r15.1.Host.Port, str r15.1.Path, str r15.1.Query, .bool r15.1.HasQuery]) zad zB rfl ((hO.blkSees (i := 1) rfl).cells (o := 0) (n := 8) rfl)) (.tmp rfl .nil)) ⟨rfl, hO.below⟩

theorem zjV (x_a0 : Str) (R : api_Head × Int) (w0 : World) (hG : zbB w0) (hm : zcU x_a0 = some R) :
    Calls Tryz.prog 53 #[str x_a0] w0 fun e w' => ∃ (p0 : Option Addr) (c0 : Nat), e = .returned (.tuple #[.agg #[int R.1.Kind, str R.1.Method, str R.1.Target, int R.1.Code, str R.1.Reason, int R.1.Minor, .slice p0 R.1.Fields.length c0], int R.2]) ∧ Dk.Own w0 [] w' [.row (.slice p0 R.1.Fields.length c0) 69 2 R.1.Fields.length (cells za R.1.Fields)] := by
 rw [zcU] at hm
 have hF : zG [] := zg
 have hO : Dk.Own w0 [] w0 [] := Dk.Own.refl w0
 refine S.enter tb Tryz.func53 rfl Tryz.ntmps53 rfl ?_ hO hm
 refine rw_ rfl fun a w hf hO hm => ?_
 refine zx zgH hf rfl hO fun a b1 w hf hO => ?_
 have hO := hO.nilRow 69 2
 refine S.op tb ?_ hf hO hm
 refine vl rfl rfl (fun a w hf hO => zo (vs := [(0, int 1)]) (v := .agg #[int 1, str [], str [], int 0, str [], int 0, .slice none 0 0]) hf rfl (by kernel_rfl)) ?_
 refine rw_ rfl fun a w hf hO hm => ?_
 refine zx zgH hf rfl hO fun a b3 w hf hO => ?_
 have hO := hO.nilRow 69 2
 refine S.op tb ?_ hf hO hm
 refine rw_ rfl fun a w hf hO hm => ?_
 refine zd (i := 1) (n := 7) zA rfl rfl rfl (by simp [Value.oneCell']) hf rfl rfl hO fun w hO => ?_
 have hO := hO.nilRow 69 2
 refine S.op tb ?_ hf hO hm
 refine cl c_84 rfl (fun r5 w hr5 hO => zfw x_a0 32 r5 _ (hG.own hF hO).1 hr5) fun r5 hr5 => ?_
 refine bi rfl fun i6 hi6 => ?_
 refine bi rfl fun s7 hs7 => ?_
 refine cl c_83 rfl (fun r8 w hr8 hO => zhL s7 r8 _ (hG.own hF hO).1 hr8) fun r8 hr8 => ?_
 refine br rfl (fun hc10 => ?_) fun hc10 => ?_
 refine vl rfl rfl (fun a w hf hO => zo (vs := []) (v := .agg #[int 0, str [], str [], int 0, str [], int 0, .slice none 0 0]) hf rfl (by kernel_rfl)) ?_
 refine rw_ rfl fun a w hf hO hm => ?_
 refine zd (i := 4) (n := 7) zA rfl rfl rfl (by simp [Value.oneCell']) hf rfl rfl hO fun w hO => ?_
 have hO := hO.nilRow 69 2
 refine S.op tb ?_ hf hO hm
 refine re_ rfl fun a w hf hO hm => ?_
 obtain rfl := Option.some.inj hm
 exact zf Tryz.results53 hf (.cell rfl (zc (n := 7) (vs := [int 0, str [], str [], int 0, str [], int 0, .slice none 0 0]) zau zA rfl ((hO.blkSees (i := 5) rfl).cells (o := 0) (n := 7) rfl)) (.tmp rfl .nil)) ⟨none, 0, rfl, (hO.sub (.cons_cons _ (.cons _ (.cons _ (.cons _ (.cons _ (.cons _ .slnil)))))))⟩
 refine rw_ rfl fun a w hf hO hm => ?_
 obtain ⟨r13, hr13, hm⟩ := ob hm
 refine zv (zt c_57 hf (vs := [str x_a0]) rfl) rfl hf rfl rfl (ziM x_a0 r13 _ (hG.own hF hO).1 hr13) ?_
 rintro e w' ⟨b14, he, hO'⟩
 refine ⟨_, he, fun a hf => ?_⟩
 have hO := hO.call hO' (by simp [Res.shared])
 refine S.op tb ?_ hf hO hm
 refine vl rfl rfl (fun a w hf hO => zo (vs := [(0, ptr b14 0)]) (v := .agg #[ptr b14 0]) hf rfl (by kernel_rfl)) ?_
 refine rw_ rfl fun a w hf hO hm => ?_
 refine zx zq9 hf rfl hO fun a b15 w hf hO => ?_
 refine S.op tb ?_ hf hO hm
 refine rw_ rfl fun a w hf hO hm => ?_
 refine zd (i := 0) (n := 1) ziI rfl rfl rfl (by simp [Value.oneCell']) hf rfl rfl hO fun w hO => ?_
 refine S.op tb ?_ hf hO hm
 refine vl rfl rfl (fun a w hf hO => zb (o := 0) zhz (hO.blkSees (i := 0) rfl) rfl hf rfl) ?_
 refine rw_ rfl fun a w hf hO hm => ?_
 obtain ⟨r17, hr17, hm⟩ := ob hm
 have hch18 := (show Dk.Own w0 [] _ ([.blk b14 [str r13.f_s, int r13.f_at] 139] ++ [.blk b15 [ptr b14 0] 125, .row (.slice none 0 0) 69 2 0 (cells za []), .row (.slice none 0 0) 69 2 0 (cells za []), .blk b3 [int 1, str [], str [], int 0, str [], int 0, .slice none 0 0] 35, .row (.slice none 0 0) 69 2 0 (cells za []), .blk b1 [int 0, str [], str [], int 0, str [], int 0, .slice none 0 0] 35]) from hO.choose [1, 0, 2, 3, 4, 5, 6] rfl)
 have hfar18 := Dk.Own.far hch18 rfl hF hG.size
 have hlend18 := hch18.lend (S := []) rfl trivial
 have hcl18 := zgG r13 r17 _ (hG.own hF hO).1 hfar18 hlend18 hr17
 refine zv (zt c_59 hf (vs := [ptr b14 0]) rfl) rfl hf rfl rfl (hcl18) ?_
 rintro e w' ⟨he, hO'⟩
 refine ⟨_, he, fun a hf => ?_⟩
 have hO := hch18.back rfl hO' rfl
 refine S.op tb ?_ hf hO hm
 refine vl rfl rfl (fun a w hf hO => zb (o := 0) zhz (hO.blkSees (i := 1) rfl) rfl hf rfl) ?_
 refine rw_ rfl fun a w hf hO hm => ?_
 obtain ⟨r20, hr20, hm⟩ := ob hm
 have hch21 := (show Dk.Own w0 [] _ ([.blk b14 [str r17.2.2.f_s, int r17.2.2.f_at] 139] ++ [.blk b15 [ptr b14 0] 125, .row (.slice none 0 0) 69 2 0 (cells za []), .row (.slice none 0 0) 69 2 0 (cells za []), .blk b3 [int 1, str [], str [], int 0, str [], int 0, .slice none 0 0] 35, .row (.slice none 0 0) 69 2 0 (cells za []), .blk b1 [int 0, str [], str [], int 0, str [], int 0, .slice none 0 0] 35]) from hO)
 have hfar21 := Dk.Own.far hch21 rfl hF hG.size
 have hlend21 := hch21.lend (S := []) rfl trivial
 have hcl21 := zaR r17.2.2 32 r20 _ (hG.own hF hO).1 hfar21 hlend21 hr20
 refine zv (zt zrc hf (vs := [ptr b14 0, zY 32]) rfl) rfl hf rfl rfl (hcl21) ?_
 rintro e w' ⟨he, hO'⟩
 refine ⟨_, he, fun a hf => ?_⟩
 have hO := hch21.back rfl hO' rfl
 refine S.op tb ?_ hf hO hm
 refine vl rfl rfl (fun a w hf hO => zb (o := 0) zhz (hO.blkSees (i := 1) rfl) rfl hf rfl) ?_
 refine rw_ rfl fun a w hf hO hm => ?_
 obtain ⟨r23, hr23, hm⟩ := ob hm
 have hch24 := (show Dk.Own w0 [] _ ([.blk b14 [str r20.2.f_s, int r20.2.f_at] 139] ++ [.blk b15 [ptr b14 0] 125, .row (.slice none 0 0) 69 2 0 (cells za []), .row (.slice none 0 0) 69 2 0 (cells za []), .blk b3 [int 1, str [], str [], int 0, str [], int 0, .slice none 0 0] 35, .row (.slice none 0 0) 69 2 0 (cells za []), .blk b1 [int 0, str [], str [], int 0, str [], int 0, .slice none 0 0] 35]) from hO)
 have hfar24 := Dk.Own.far hch24 rfl hF hG.size
 have hlend24 := hch24.lend (S := []) rfl trivial
 have hcl24 := zc0 r20.2 zcc r23 _ (hG.own hF hO).1 hfar24 hlend24 c_86 (fun y0 r w hG h => zh4 (zi5 y0 r w hG h)) hr23
 refine zv (zt c_85 hf (vs := [ptr b14 0, .func (.func 86) #[] #[]]) rfl) rfl hf rfl rfl (hcl24) ?_
 rintro e w' ⟨he, hO'⟩
 refine ⟨_, he, fun a hf => ?_⟩
 have hO := hch24.back rfl hO' rfl
 refine S.op tb ?_ hf hO hm
 refine vl rfl rfl (fun a w hf hO => zb (o := 0) zhz (hO.blkSees (i := 1) rfl) rfl hf rfl) ?_
 refine rw_ rfl fun a w hf hO hm => ?_
 obtain ⟨r26, hr26, hm⟩ := ob hm
 have hch27 := (show Dk.Own w0 [] _ ([.blk b14 [str r23.2.f_s, int r23.2.f_at] 139] ++ [.blk b15 [ptr b14 0] 125, .row (.slice none 0 0) 69 2 0 (cells za []), .row (.slice none 0 0) 69 2 0 (cells za []), .blk b3 [int 1, str [], str [], int 0, str [], int 0, .slice none 0 0] 35, .row (.slice none 0 0) 69 2 0 (cells za []), .blk b1 [int 0, str [], str [], int 0, str [], int 0, .slice none 0 0] 35]) from hO)
 have hfar27 := Dk.Own.far hch27 rfl hF hG.size
 have hlend27 := hch27.lend (S := []) rfl trivial
 have hcl27 := zaR r23.2 32 r26 _ (hG.own hF hO).1 hfar27 hlend27 hr26
 refine zv (zt zrc hf (vs := [ptr b14 0, zY 32]) rfl) rfl hf rfl rfl (hcl27) ?_
 rintro e w' ⟨he, hO'⟩
 refine ⟨_, he, fun a hf => ?_⟩
 have hO := hch27.back rfl hO' rfl
 refine S.op tb ?_ hf hO hm
 refine vl rfl rfl (fun a w hf hO => zu (o := 0) (vs := [ptr b14 0]) zlC ziI (hO.blkSees (i := 1) rfl) rfl rfl hf rfl) ?_
 refine rw_ rfl fun a w hf hO hm => ?_
 obtain ⟨r29, hr29, hm⟩ := ob hm
 have hch30 := (show Dk.Own w0 [] _ ([.blk b14 [str r26.2.f_s, int r26.2.f_at] 139] ++ [.blk b15 [ptr b14 0] 125, .row (.slice none 0 0) 69 2 0 (cells za []), .row (.slice none 0 0) 69 2 0 (cells za []), .blk b3 [int 1, str [], str [], int 0, str [], int 0, .slice none 0 0] 35, .row (.slice none 0 0) 69 2 0 (cells za []), .blk b1 [int 0, str [], str [], int 0, str [], int 0, .slice none 0 0] 35]) from hO)
 have hfar30 := Dk.Own.far hch30 rfl hF hG.size
 have hlend30 := hch30.lend (S := []) rfl trivial
 have hcl30 := zfW (⟨r26.2⟩ : startline_line) r29 _ (hG.own hF hO).1 hfar30 hlend30 hr29
 refine zv (zt c_87 hf (vs := [.agg #[ptr b14 0]]) rfl) rfl hf rfl rfl (hcl30) ?_
 rintro e w' ⟨he, hO'⟩
 refine ⟨_, he, fun a hf => ?_⟩
 have hO := hch30.back rfl hO' rfl
 refine S.op tb ?_ hf hO hm
 refine cl c_88 rfl (fun r32 w hr32 hO => zmW r17.1 r23.1 r32 _ (hG.own hF hO) hr32) fun r32 hr32 => ?_
 refine rw_ rfl fun a w hf hO hm => ?_
 refine zx zgf hf rfl hO fun a b33 w hf hO => ?_
 refine S.op tb ?_ hf hO hm
 refine rw_ rfl fun a w hf hO hm => ?_
 refine zd (i := 0) (n := 8) zB rfl rfl rfl (by simp [Value.oneCell']) hf rfl rfl hO fun w hO => ?_
 refine S.op tb ?_ hf hO hm
 refine jn 1 (fun a w => ∃ (t41 : Bool), Fits 84 [(2, ptr b1 0), (4, ptr b3 0), (6, str r17.1), (9, str r23.1), (11, int r29.1), (75, .bool t41)] a ∧ Dk.Own w0 [] w [.blk b33 [int r32.1.Kind, str r32.1.Scheme, int r32.1.Host.Kind, str r32.1.Host.Name, int r32.1.Host.Port, str r32.1.Path, str r32.1.Query, .bool r32.1.HasQuery] 109, .blk b14 [str r29.2.2.f_s, int r29.2.2.f_at] 139, .blk b15 [ptr b14 0] 125, .row (.slice none 0 0) 69 2 0 (cells za []), .row (.slice none 0 0) 69 2 0 (cells za []), .blk b3 [int 1, str [], str [], int 0, str [], int 0, .slice none 0 0] 35, .row (.slice none 0 0) 69 2 0 (cells za []), .blk b1 [int 0, str [], str [], int 0, str [], int 0, .slice none 0 0] 35] ∧ zaa r17 r23 r29 t41 = some R) rfl ?_ ?_
 refine br rfl (fun hc35 => ?_) fun hc35 => ?_
 exact en rfl fun a w hf hO hm => ⟨true, hf.sel rfl, hO, hm⟩
 refine br rfl (fun hc36 => ?_) fun hc36 => ?_
 exact en rfl fun a w hf hO hm => ⟨true, hf.sel rfl, hO, hm⟩
 refine br rfl (fun hc37 => ?_) fun hc37 => ?_
 exact en rfl fun a w hf hO hm => ⟨true, hf.sel rfl, hO, hm⟩
 refine br rfl (fun hc38 => ?_) fun hc38 => ?_
 exact en rfl fun a w hf hO hm => ⟨true, hf.sel rfl, hO, hm⟩
 refine vl rfl rfl (fun a w hf hO => zb (o := 0) zhz (hO.blkSees (i := 2) rfl) rfl hf rfl) ?_
 refine cl c_89 rfl (fun r39 w hr39 hO => zfh r29.2.2 r39 _ (hG.own hF hO).1 (hO.blkSees (i := 1) rfl) hr39) fun r39 hr39 => ?_
 refine br rfl (fun hc40 => ?_) fun hc40 => ?_
 exact en rfl fun a w hf hO hm => ⟨true, hf.sel rfl, hO, hm⟩
 exact en rfl fun a w hf hO hm => ⟨!(r32.2 == 0), hf.sel rfl, hO, hm⟩
 rintro a w ⟨t41, hf, hO, hm⟩
 rw [zaa] at hm
 refine S.co tb ?_ hf hO hm
 refine br rfl (fun hc42 => ?_) fun hc42 => ?_
 refine vl rfl rfl (fun a w hf hO => zo (vs := []) (v := .agg #[int 0, str [], str [], int 0, str [], int 0, .slice none 0 0]) hf rfl (by kernel_rfl)) ?_
 refine rw_ rfl fun a w hf hO hm => ?_
 refine zd (i := 7) (n := 7) zA rfl rfl rfl (by simp [Value.oneCell']) hf rfl rfl hO fun w hO => ?_
 have hO := hO.nilRow 69 2
 refine S.op tb ?_ hf hO hm
 refine re_ rfl fun a w hf hO hm => ?_
 obtain rfl := Option.some.inj hm
 exact zf Tryz.results53 hf (.cell rfl (zc (n := 7) (vs := [int 0, str [], str [], int 0, str [], int 0, .slice none 0 0]) zau zA rfl ((hO.blkSees (i := 8) rfl).cells (o := 0) (n := 7) rfl)) (.tmp rfl .nil)) ⟨none, 0, rfl, (hO.sub (.cons_cons _ (.cons _ (.cons _ (.cons _ (.cons _ (.cons _ (.cons _ (.cons _ (.cons _ .slnil))))))))))⟩
 refine rw_ rfl fun a w hf hO hm => ?_
 refine zV (i := 5) (o := 1) (v := str r17.1) zeB rfl rfl rfl rfl hf rfl rfl hO fun w hO => ?_
 refine S.op tb ?_ hf hO hm
 refine rw_ rfl fun a w hf hO hm => ?_
 refine zV (i := 5) (o := 2) (v := str r23.1) zeB rfl rfl rfl rfl hf rfl rfl hO fun w hO => ?_
 refine S.op tb ?_ hf hO hm
 refine rw_ rfl fun a w hf hO hm => ?_
 refine zV (i := 5) (o := 5) (v := int r29.1) zrb rfl rfl rfl rfl hf rfl rfl hO fun w hO => ?_
 refine S.op tb ?_ hf hO hm
 refine vl rfl rfl (fun a w hf hO => zu (o := 0) (vs := [int 1, str r17.1, str r23.1, int 0, str [], int r29.1, .slice none 0 0]) zau zA (hO.blkSees (i := 5) rfl) rfl rfl hf rfl) ?_
 refine rw_ rfl fun a w hf hO hm => ?_
 refine zd (i := 7) (n := 7) zA rfl rfl rfl (by simp [Value.oneCell']) hf rfl rfl hO fun w hO => ?_
 refine S.op tb ?_ hf hO hm
 refine re_ rfl fun a w hf hO hm => ?_
 obtain rfl := Option.some.inj hm
 exact zf Tryz.results53 hf (.cell rfl (zc (n := 7) (vs := [int 1, str r17.1, str r23.1, int 0, str [], int r29.1, .slice none 0 0]) zau zA rfl ((hO.blkSees (i := 7) rfl).cells (o := 0) (n := 7) rfl)) (.tmp rfl .nil)) ⟨none, 0, rfl, (hO.sub (.cons _ (.cons _ (.cons _ (.cons_cons _ (.cons _ (.cons _ (.cons _ (.cons _ .slnil)))))))))⟩

theorem zkL (x_b : UInt8) (R : Bool) (w0 : World) (hG : zD w0) (hm : zgN x_b = some R) :
    Calls Tryz.prog 102 #[zY x_b] w0 (Ret w0 (fun R => .bool R) R) := by
 rw [zgN] at hm
 have hF : zG [] := zg
 have hO : Dk.Own w0 [] w0 [] := Dk.Own.refl w0
 refine S.enter tb Tryz.func102 rfl Tryz.ntmps102 rfl ?_ hO hm
 refine jn 0 (fun a w => ∃ (t3 : Bool), Fits 9 [(2, .bool t3)] a ∧ Dk.Own w0 [] w [] ∧ zdw t3 = some R) rfl ?_ ?_
 refine vl rfl rfl (fun a w hf hO => zqI (b := x_b) (c := 32) hf rfl rfl) ?_
 refine br rfl (fun hc2 => ?_) fun hc2 => ?_
 refine vl rfl rfl (fun a w hf hO => ztZ (b := x_b) (c := 127) hf rfl rfl) ?_
 exact en rfl fun a w hf hO hm => ⟨decide (x_b < 127), hf.sel rfl, hO, hm⟩
 exact en rfl fun a w hf hO hm => ⟨false, hf.sel rfl, hO, hm⟩
 rintro a w ⟨t3, hf, hO, hm⟩
 rw [zdw] at hm
 refine S.co tb ?_ hf hO hm
 exact rt Tryz.results102 rfl

theorem ziV (x_b : UInt8) (R : Bool) (w0 : World) (hG : zD w0) (hm : zc6 x_b = some R) :
    Calls Tryz.prog 99 #[zY x_b] w0 (Ret w0 (fun R => .bool R) R) := by
 rw [zc6] at hm
 have hF : zG [] := zg
 have hO : Dk.Own w0 [] w0 [] := Dk.Own.refl w0
 refine S.enter tb Tryz.func99 rfl Tryz.ntmps99 rfl ?_ hO hm
 refine jn 0 (fun a w => ∃ (t3 : Bool), Fits 9 [(2, .bool t3)] a ∧ Dk.Own w0 [] w [] ∧ zeH t3 = some R) rfl ?_ ?_
 refine vl rfl rfl (fun a w hf hO => zU (b := x_b) (c := 32) hf rfl rfl) ?_
 refine br rfl (fun hc2 => ?_) fun hc2 => ?_
 exact en rfl fun a w hf hO hm => ⟨true, hf.sel rfl, hO, hm⟩
 refine vl rfl rfl (fun a w hf hO => zU (b := x_b) (c := 9) hf rfl rfl) ?_
 exact en rfl fun a w hf hO hm => ⟨x_b == 9, hf.sel rfl, hO, hm⟩
 rintro a w ⟨t3, hf, hO, hm⟩
 rw [zeH] at hm
 refine S.co tb ?_ hf hO hm
 exact rt Tryz.results99 rfl

theorem ziW (x_b : UInt8) (R : Bool) (w0 : World) (hG : zD w0) (hm : zcp x_b = some R) :
    Calls Tryz.prog 62 #[zY x_b] w0 (Ret w0 (fun R => .bool R) R) := by
 rw [zcp] at hm
 have hF : zG [] := zg
 have hO : Dk.Own w0 [] w0 [] := Dk.Own.refl w0
 refine S.enter tb Tryz.func62 rfl Tryz.ntmps62 rfl ?_ hO hm
 refine jn 0 (fun a w => ∃ (t6 : Bool), Fits 13 [(2, .bool t6)] a ∧ Dk.Own w0 [] w [] ∧ zdf t6 = some R) rfl ?_ ?_
 refine cl c_102 rfl (fun r2 w hr2 hO => zkL x_b r2 _ (hG.own hF hO) hr2) fun r2 hr2 => ?_
 refine br rfl (fun hc3 => ?_) fun hc3 => ?_
 exact en rfl fun a w hf hO hm => ⟨true, hf.sel rfl, hO, hm⟩
 refine cl c_99 rfl (fun r4 w hr4 hO => ziV x_b r4 _ (hG.own hF hO) hr4) fun r4 hr4 => ?_
 refine br rfl (fun hc5 => ?_) fun hc5 => ?_
 exact en rfl fun a w hf hO hm => ⟨true, hf.sel rfl, hO, hm⟩
 refine vl rfl rfl (fun a w hf hO => zqI (b := x_b) (c := 127) hf rfl rfl) ?_
 exact en rfl fun a w hf hO hm => ⟨decide (127 < x_b), hf.sel rfl, hO, hm⟩
 rintro a w ⟨t6, hf, hO, hm⟩
 rw [zdf] at hm
 refine S.co tb ?_ hf hO hm
 exact rt Tryz.results62 rfl

theorem zkp (x_a0 : Str) (R : api_Head × Int) (w0 : World) (hG : zD w0) (hm : zdg x_a0 = some R) :
    Calls Tryz.prog 54 #[str x_a0] w0 fun e w' => ∃ (p0 : Option Addr) (c0 : Nat), e = .returned (.tuple #[.agg #[int R.1.Kind, str R.1.Method, str R.1.Target, int R.1.Code, str R.1.Reason, int R.1.Minor, .slice p0 R.1.Fields.length c0], int R.2]) ∧ Dk.Own w0 [] w' [.row (.slice p0 R.1.Fields.length c0) 69 2 R.1.Fields.length (cells za R.1.Fields)] := by
 rw [zdg] at hm
 have hF : zG [] := zg
 have hO : Dk.Own w0 [] w0 [] := Dk.Own.refl w0
 refine S.enter tb Tryz.func54 rfl Tryz.ntmps54 rfl ?_ hO hm
 refine rw_ rfl fun a w hf hO hm => ?_
 refine zx zgH hf rfl hO fun a b1 w hf hO => ?_
 have hO := hO.nilRow 69 2
 refine S.op tb ?_ hf hO hm
 refine cl c_90 rfl (fun r3 w hr3 hO => zgj x_a0 [32] r3 _ (hG.own hF hO) hr3) fun r3 hr3 => ?_
 refine cl c_83 rfl (fun r5 w hr5 hO => zhL r3.1 r5 _ (hG.own hF hO) hr5) fun r5 hr5 => ?_
 refine br rfl (fun hc7 => ?_) fun hc7 => ?_
 refine vl rfl rfl (fun a w hf hO => zo (vs := []) (v := .agg #[int 0, str [], str [], int 0, str [], int 0, .slice none 0 0]) hf rfl (by kernel_rfl)) ?_
 refine rw_ rfl fun a w hf hO hm => ?_
 refine zd (i := 1) (n := 7) zA rfl rfl rfl (by simp [Value.oneCell']) hf rfl rfl hO fun w hO => ?_
 have hO := hO.nilRow 69 2
 refine S.op tb ?_ hf hO hm
 refine re_ rfl fun a w hf hO hm => ?_
 obtain rfl := Option.some.inj hm
 exact zf Tryz.results54 hf (.cell rfl (zc (n := 7) (vs := [int 0, str [], str [], int 0, str [], int 0, .slice none 0 0]) zau zA rfl ((hO.blkSees (i := 2) rfl).cells (o := 0) (n := 7) rfl)) (.tmp rfl .nil)) ⟨none, 0, rfl, (hO.sub (.cons_cons _ (.cons _ (.cons _ .slnil))))⟩
 refine rw_ rfl fun a w hf hO hm => ?_
 obtain ⟨r10, hr10, hm⟩ := ob hm
 refine zv (zt c_57 hf (vs := [str x_a0]) rfl) rfl hf rfl rfl (ziM x_a0 r10 _ (hG.own hF hO) hr10) ?_
 rintro e w' ⟨b11, he, hO'⟩
 refine ⟨_, he, fun a hf => ?_⟩
 have hO := hO.call hO' (by simp [Res.shared])
 refine S.op tb ?_ hf hO hm
 refine vl rfl rfl (fun a w hf hO => zo (vs := [(0, ptr b11 0)]) (v := .agg #[ptr b11 0]) hf rfl (by kernel_rfl)) ?_
 refine rw_ rfl fun a w hf hO hm => ?_
 refine zx zq9 hf rfl hO fun a b12 w hf hO => ?_
 refine S.op tb ?_ hf hO hm
 refine rw_ rfl fun a w hf hO hm => ?_
 refine zd (i := 0) (n := 1) ziI rfl rfl rfl (by simp [Value.oneCell']) hf rfl rfl hO fun w hO => ?_
 refine S.op tb ?_ hf hO hm
 refine vl rfl rfl (fun a w hf hO => zu (o := 0) (vs := [ptr b11 0]) zlC ziI (hO.blkSees (i := 0) rfl) rfl rfl hf rfl) ?_
 refine rw_ rfl fun a w hf hO hm => ?_
 obtain ⟨r14, hr14, hm⟩ := ob hm
 have hch15 := (show Dk.Own w0 [] _ ([.blk b11 [str r10.f_s, int r10.f_at] 139] ++ [.blk b12 [ptr b11 0] 125, .row (.slice none 0 0) 69 2 0 (cells za []), .blk b1 [int 0, str [], str [], int 0, str [], int 0, .slice none 0 0] 35]) from hO.choose [1, 0, 2, 3] rfl)
 have hfar15 := Dk.Own.far hch15 rfl hF hG.size
 have hlend15 := hch15.lend (S := []) rfl trivial
 have hcl15 := zfW (⟨r10⟩ : startline_line) r14 _ (hG.own hF hO) hfar15 hlend15 hr14
 refine zv (zt c_87 hf (vs := [.agg #[ptr b11 0]]) rfl) rfl hf rfl rfl (hcl15) ?_
 rintro e w' ⟨he, hO'⟩
 refine ⟨_, he, fun a hf => ?_⟩
 have hO := hch15.back rfl hO' rfl
 refine S.op tb ?_ hf hO hm
 refine vl rfl rfl (fun a w hf hO => zb (o := 0) zhz (hO.blkSees (i := 1) rfl) rfl hf rfl) ?_
 refine rw_ rfl fun a w hf hO hm => ?_
 obtain ⟨r17, hr17, hm⟩ := ob hm
 have hch18 := (show Dk.Own w0 [] _ ([.blk b11 [str r14.2.2.f_s, int r14.2.2.f_at] 139] ++ [.blk b12 [ptr b11 0] 125, .row (.slice none 0 0) 69 2 0 (cells za []), .blk b1 [int 0, str [], str [], int 0, str [], int 0, .slice none 0 0] 35]) from hO)
 have hfar18 := Dk.Own.far hch18 rfl hF hG.size
 have hlend18 := hch18.lend (S := []) rfl trivial
 have hcl18 := zaR r14.2.2 32 r17 _ (hG.own hF hO) hfar18 hlend18 hr17
 refine zv (zt zrc hf (vs := [ptr b11 0, zY 32]) rfl) rfl hf rfl rfl (hcl18) ?_
 rintro e w' ⟨he, hO'⟩
 refine ⟨_, he, fun a hf => ?_⟩
 have hO := hch18.back rfl hO' rfl
 refine S.op tb ?_ hf hO hm
 refine vl rfl rfl (fun a w hf hO => zb (o := 0) zhz (hO.blkSees (i := 1) rfl) rfl hf rfl) ?_
 refine rw_ rfl fun a w hf hO hm => ?_
 obtain ⟨r20, hr20, hm⟩ := ob hm
 have hch21 := (show Dk.Own w0 [] _ ([.blk b11 [str r17.2.f_s, int r17.2.f_at] 139] ++ [.blk b12 [ptr b11 0] 125, .row (.slice none 0 0) 69 2 0 (cells za []), .blk b1 [int 0, str [], str [], int 0, str [], int 0, .slice none 0 0] 35]) from hO)
 have hfar21 := Dk.Own.far hch21 rfl hF hG.size
 have hlend21 := hch21.lend (S := []) rfl trivial
 have hcl21 := zc0 r17.2 zab r20 _ (hG.own hF hO) hfar21 hlend21 zrd (fun y0 r w hG h => zh4 (zcb y0 r w hG h)) hr20
 refine zv (zt c_85 hf (vs := [ptr b11 0, .func (.func 91) #[] #[]]) rfl) rfl hf rfl rfl (hcl21) ?_
 rintro e w' ⟨he, hO'⟩
 refine ⟨_, he, fun a hf => ?_⟩
 have hO := hch21.back rfl hO' rfl
 refine S.op tb ?_ hf hO hm
 refine vl rfl rfl (fun a w hf hO => zb (o := 0) zhz (hO.blkSees (i := 1) rfl) rfl hf rfl) ?_
 refine rw_ rfl fun a w hf hO hm => ?_
 obtain ⟨r23, hr23, hm⟩ := ob hm
 have hch24 := (show Dk.Own w0 [] _ ([.blk b11 [str r20.2.f_s, int r20.2.f_at] 139] ++ [.blk b12 [ptr b11 0] 125, .row (.slice none 0 0) 69 2 0 (cells za []), .blk b1 [int 0, str [], str [], int 0, str [], int 0, .slice none 0 0] 35]) from hO)
 have hfar24 := Dk.Own.far hch24 rfl hF hG.size
 have hlend24 := hch24.lend (S := []) rfl trivial
 have hcl24 := zaR r20.2 32 r23 _ (hG.own hF hO) hfar24 hlend24 hr23
 refine zv (zt zrc hf (vs := [ptr b11 0, zY 32]) rfl) rfl hf rfl rfl (hcl24) ?_
 rintro e w' ⟨he, hO'⟩
 refine ⟨_, he, fun a hf => ?_⟩
 have hO := hch24.back rfl hO' rfl
 refine S.op tb ?_ hf hO hm
 refine cl c_92 rfl (fun r26 w hr26 hO => zfX r20.1 599 r26 _ (hG.own hF hO) hr26) fun r26 hr26 => ?_
 refine jn 1 (fun a w => ∃ (t37 : Bool), Fits 84 [(2, ptr b1 0), (7, ptr b12 0), (8, int r14.1), (13, int r26.1), (76, .bool t37)] a ∧ Dk.Own w0 [] w [.blk b11 [str r23.2.f_s, int r23.2.f_at] 139, .blk b12 [ptr b11 0] 125, .row (.slice none 0 0) 69 2 0 (cells za []), .blk b1 [int 0, str [], str [], int 0, str [], int 0, .slice none 0 0] 35] ∧ z6 r14 r23 r26 t37 = some R) rfl ?_ ?_
 refine br rfl (fun hc28 => ?_) fun hc28 => ?_
 exact en rfl fun a w hf hO hm => ⟨true, hf.sel rfl, hO, hm⟩
 refine br rfl (fun hc29 => ?_) fun hc29 => ?_
 exact en rfl fun a w hf hO hm => ⟨true, hf.sel rfl, hO, hm⟩
 refine br rfl (fun hc30 => ?_) fun hc30 => ?_
 exact en rfl fun a w hf hO hm => ⟨true, hf.sel rfl, hO, hm⟩
 refine br rfl (fun hc31 => ?_) fun hc31 => ?_
 exact en rfl fun a w hf hO hm => ⟨true, hf.sel rfl, hO, hm⟩
 refine br rfl (fun hc32 => ?_) fun hc32 => ?_
 exact en rfl fun a w hf hO hm => ⟨true, hf.sel rfl, hO, hm⟩
 refine br rfl (fun hc33 => ?_) fun hc33 => ?_
 exact en rfl fun a w hf hO hm => ⟨true, hf.sel rfl, hO, hm⟩
 refine vl rfl rfl (fun a w hf hO => zb (o := 0) zhz (hO.blkSees (i := 1) rfl) rfl hf rfl) ?_
 refine cl c_63 rfl (fun r34 w hr34 hO => zbz r23.2 r34 _ (hG.own hF hO) (hO.blkSees (i := 0) rfl) hr34) fun r34 hr34 => ?_
 refine rw_ rfl fun a w hf hO hm => ?_
 refine zS (vs := [(0, str r34)]) (cs := [str r34]) (e := 9) (sz := 1) hf rfl rfl (fun w => by kernel_rfl) rfl rfl hO fun a b35 w hf hO => ?_
 refine S.op tb ?_ hf hO hm
 refine kn (b' := false) hc33 rfl ?_
 refine cl c_61 rfl (fun r36 w hr36 hO => zfx zcp ([r34] : List Str) r36 _ (hG.own hF hO) c_62 (fun y0 r w hG h => zh4 (ziW y0 r w hG h)) (hO.rowSees (i := 0) rfl) (hO.rowCap (i := 0) rfl) hr36) fun r36 hr36 => ?_
 exact en rfl fun a w hf hO hm => ⟨!r36, hf.sel rfl, (hO.sub (.cons _ (.cons_cons _ (.cons_cons _ (.cons_cons _ (.cons_cons _ .slnil)))))), hm⟩
 rintro a w ⟨t37, hf, hO, hm⟩
 rw [z6] at hm
 refine S.co tb ?_ hf hO hm
 refine br rfl (fun hc38 => ?_) fun hc38 => ?_
 refine vl rfl rfl (fun a w hf hO => zo (vs := []) (v := .agg #[int 0, str [], str [], int 0, str [], int 0, .slice none 0 0]) hf rfl (by kernel_rfl)) ?_
 refine rw_ rfl fun a w hf hO hm => ?_
 refine zd (i := 3) (n := 7) zA rfl rfl rfl (by simp [Value.oneCell']) hf rfl rfl hO fun w hO => ?_
 have hO := hO.nilRow 69 2
 refine S.op tb ?_ hf hO hm
 refine re_ rfl fun a w hf hO hm => ?_
 obtain rfl := Option.some.inj hm
 exact zf Tryz.results54 hf (.cell rfl (zc (n := 7) (vs := [int 0, str [], str [], int 0, str [], int 0, .slice none 0 0]) zau zA rfl ((hO.blkSees (i := 4) rfl).cells (o := 0) (n := 7) rfl)) (.tmp rfl .nil)) ⟨none, 0, rfl, (hO.sub (.cons_cons _ (.cons _ (.cons _ (.cons _ (.cons _ .slnil))))))⟩
 refine vl rfl rfl (fun a w hf hO => zb (o := 0) zhz (hO.blkSees (i := 1) rfl) rfl hf rfl) ?_
 refine cl c_63 rfl (fun r41 w hr41 hO => zbz r23.2 r41 _ (hG.own hF hO) (hO.blkSees (i := 0) rfl) hr41) fun r41 hr41 => ?_
 refine vl rfl rfl (fun a w hf hO => zo (vs := [(0, int 2), (5, int r14.1), (3, int r26.1), (4, str r41)]) (v := .agg #[int 2, str [], str [], int r26.1, str r41, int r14.1, .slice none 0 0]) hf rfl (by kernel_rfl)) ?_
 refine rw_ rfl fun a w hf hO hm => ?_
 refine zd (i := 3) (n := 7) zA rfl rfl rfl (by simp [Value.oneCell']) hf rfl rfl hO fun w hO => ?_
 have hO := hO.nilRow 69 2
 refine S.op tb ?_ hf hO hm
 refine re_ rfl fun a w hf hO hm => ?_
 obtain rfl := Option.some.inj hm
 exact zf Tryz.results54 hf (.cell rfl (zc (n := 7) (vs := [int 2, str [], str [], int r26.1, str r41, int r14.1, .slice none 0 0]) zau zA rfl ((hO.blkSees (i := 4) rfl).cells (o := 0) (n := 7) rfl)) (.tmp rfl .nil)) ⟨none, 0, rfl, (hO.sub (.cons_cons _ (.cons _ (.cons _ (.cons _ (.cons _ .slnil))))))⟩

theorem zfC (x_kind : Int) (x_s : Str) (R : api_Head × Int) (w0 : World) (hG : zbB w0) (hm : zb8 x_kind x_s = some R) :
    Calls Tryz.prog 30 #[int x_kind, str x_s] w0 fun e w' => ∃ (p0 : Option Addr) (c0 : Nat), e = .returned (.tuple #[.agg #[int R.1.Kind, str R.1.Method, str R.1.Target, int R.1.Code, str R.1.Reason, int R.1.Minor, .slice p0 R.1.Fields.length c0], int R.2]) ∧ Dk.Own w0 [] w' [.row (.slice p0 R.1.Fields.length c0) 69 2 R.1.Fields.length (cells za R.1.Fields)] := by
 rw [zb8] at hm
 have hF : zG [] := zg
 have hO : Dk.Own w0 [] w0 [] := Dk.Own.refl w0
 refine S.enter tb Tryz.func30 rfl Tryz.ntmps30 rfl ?_ hO hm
 refine rw_ rfl fun a w hf hO hm => ?_
 refine zx zgH hf rfl hO fun a b1 w hf hO => ?_
 have hO := hO.nilRow 69 2
 refine S.op tb ?_ hf hO hm
 refine jn 2 (fun a w => ∃ (t4 : Bool), Fits 29 [(0, int x_kind), (1, str x_s), (4, ptr b1 0), (6, .bool t4)] a ∧ Dk.Own w0 [] w [.row (.slice none 0 0) 69 2 0 (cells za []), .blk b1 [int 0, str [], str [], int 0, str [], int 0, .slice none 0 0] 35] ∧ zcC x_kind x_s t4 = some R) rfl ?_ ?_
 refine br rfl (fun hc3 => ?_) fun hc3 => ?_
 exact en rfl fun a w hf hO hm => ⟨!(x_kind == 2), hf.sel rfl, hO, hm⟩
 exact en rfl fun a w hf hO hm => ⟨false, hf.sel rfl, hO, hm⟩
 rintro a w ⟨t4, hf, hO, hm⟩
 rw [zcC] at hm
 refine S.co tb ?_ hf hO hm
 refine br rfl (fun hc5 => ?_) fun hc5 => ?_
 refine vl rfl rfl (fun a w hf hO => zo (vs := []) (v := .agg #[int 0, str [], str [], int 0, str [], int 0, .slice none 0 0]) hf rfl (by kernel_rfl)) ?_
 refine rw_ rfl fun a w hf hO hm => ?_
 refine zd (i := 1) (n := 7) zA rfl rfl rfl (by simp [Value.oneCell']) hf rfl rfl hO fun w hO => ?_
 have hO := hO.nilRow 69 2
 refine S.op tb ?_ hf hO hm
 refine re_ rfl fun a w hf hO hm => ?_
 obtain rfl := Option.some.inj hm
 exact zf Tryz.results30 hf (.cell rfl (zc (n := 7) (vs := [int 0, str [], str [], int 0, str [], int 0, .slice none 0 0]) zau zA rfl ((hO.blkSees (i := 2) rfl).cells (o := 0) (n := 7) rfl)) (.tmp rfl .nil)) ⟨none, 0, rfl, (hO.sub (.cons_cons _ (.cons _ (.cons _ .slnil))))⟩
 refine cl c_52 rfl (fun r7 w hr7 hO => zf4 x_s [13, 10] r7 _ (hG.own hF hO).1 hr7) fun r7 hr7 => ?_
 refine br rfl (fun hc9 => ?_) fun hc9 => ?_
 refine vl rfl rfl (fun a w hf hO => zo (vs := []) (v := .agg #[int 0, str [], str [], int 0, str [], int 0, .slice none 0 0]) hf rfl (by kernel_rfl)) ?_
 refine rw_ rfl fun a w hf hO hm => ?_
 refine zd (i := 1) (n := 7) zA rfl rfl rfl (by simp [Value.oneCell']) hf rfl rfl hO fun w hO => ?_
 have hO := hO.nilRow 69 2
 refine S.op tb ?_ hf hO hm
 refine re_ rfl fun a w hf hO hm => ?_
 obtain rfl := Option.some.inj hm
 exact zf Tryz.results30 hf (.cell rfl (zc (n := 7) (vs := [int 0, str [], str [], int 0, str [], int 0, .slice none 0 0]) zau zA rfl ((hO.blkSees (i := 2) rfl).cells (o := 0) (n := 7) rfl)) (.tmp rfl .nil)) ⟨none, 0, rfl, (hO.sub (.cons_cons _ (.cons _ (.cons _ .slnil))))⟩
 refine br rfl (fun hc12 => ?_) fun hc12 => ?_
 refine rw_ rfl fun a w hf hO hm => ?_
 obtain ⟨r13, hr13, hm⟩ := ob hm
 refine zv (zt c_53 hf (vs := [str x_s]) rfl) rfl hf rfl rfl (zjV x_s r13 _ (hG.own hF hO) hr13) ?_
 rintro e w' ⟨p14, c15, he, hO'⟩
 refine ⟨_, he, fun a hf => ?_⟩
 have hO := hO.call hO' (by simp [Res.shared])
 refine S.op tb ?_ hf hO hm
 refine rw_ rfl fun a w hf hO hm => ?_
 refine zd (i := 2) (n := 7) zA rfl rfl rfl (by simp [Value.oneCell']) hf rfl rfl hO fun w hO => ?_
 refine S.op tb ?_ hf hO hm
 refine re_ rfl fun a w hf hO hm => ?_
 obtain rfl := Option.some.inj hm
 exact zf Tryz.results30 hf (.cell rfl (zc (n := 7) (vs := [int r13.1.Kind, str r13.1.Method, str r13.1.Target, int r13.1.Code, str r13.1.Reason, int r13.1.Minor, .slice p14 r13.1.Fields.length c15]) zau zA rfl ((hO.blkSees (i := 2) rfl).cells (o := 0) (n := 7) rfl)) (.tmp rfl .nil)) ⟨p14, c15, rfl, (hO.sub (.cons_cons _ (.cons _ (.cons _ .slnil))))⟩
 refine rw_ rfl fun a w hf hO hm => ?_
 obtain ⟨r18, hr18, hm⟩ := ob hm
 refine zv (zt c_54 hf (vs := [str x_s]) rfl) rfl hf rfl rfl (zkp x_s r18 _ (hG.own hF hO).1 hr18) ?_
 rintro e w' ⟨p19, c20, he, hO'⟩
 refine ⟨_, he, fun a hf => ?_⟩
 have hO := hO.call hO' (by simp [Res.shared])
 refine S.op tb ?_ hf hO hm
 refine rw_ rfl fun a w hf hO hm => ?_
 refine zd (i := 2) (n := 7) zA rfl rfl rfl (by simp [Value.oneCell']) hf rfl rfl hO fun w hO => ?_
 refine S.op tb ?_ hf hO hm
 refine re_ rfl fun a w hf hO hm => ?_
 obtain rfl := Option.some.inj hm
 exact zf Tryz.results30 hf (.cell rfl (zc (n := 7) (vs := [int r18.1.Kind, str r18.1.Method, str r18.1.Target, int r18.1.Code, str r18.1.Reason, int r18.1.Minor, .slice p19 r18.1.Fields.length c20]) zau zA rfl ((hO.blkSees (i := 2) rfl).cells (o := 0) (n := 7) rfl)) (.tmp rfl .nil)) ⟨p19, c20, rfl, (hO.sub (.cons_cons _ (.cons _ (.cons _ .slnil))))⟩

theorem zf1 (x_c : scan_Scanner) (R : Str × scan_Scanner) (w0 : World) (hG : zD w0) {x_c_b0 : Nat} {F : List Nat} (hF : zG F) (hO : Dk.Own w0 F w0 [.blk x_c_b0 [str x_c.f_s, int x_c.f_at] 139]) (hm : zaz x_c = some R) :
    Calls Tryz.prog 58 #[ptr x_c_b0 0] w0 fun e w' => e = .returned (str R.1) ∧ Dk.Own w0 F w' [.blk x_c_b0 [str R.2.f_s, int R.2.f_at] 139] := by
 rw [zaz] at hm
 refine S.enter tb Tryz.func58 rfl Tryz.ntmps58 rfl ?_ hO hm
 refine rw_ rfl fun a w hf hO hm => ?_
 obtain ⟨r2, hr2, hm⟩ := ob hm
 have hch3 := (show Dk.Own w0 F _ ([.blk x_c_b0 [str x_c.f_s, int x_c.f_at] 139] ++ []) from hO)
 have hfar3 := Dk.Own.far hch3 rfl hF hG.size
 have hlend3 := hch3.lend (S := []) rfl trivial
 have hcl3 := zc0 x_c zc6 r2 _ (hG.own hF hO) hfar3 hlend3 c_99 (fun y0 r w hG h => zh4 (ziV y0 r w hG h)) hr2
 refine zv (zt c_85 hf (vs := [ptr x_c_b0 0, .func (.func 99) #[] #[]]) rfl) rfl hf rfl rfl (hcl3) ?_
 rintro e w' ⟨he, hO'⟩
 refine ⟨_, he, fun a hf => ?_⟩
 have hO := hch3.back rfl hO' rfl
 refine S.op tb ?_ hf hO hm
 refine re_ rfl fun a w hf hO hm => ?_
 obtain rfl := Option.some.inj hm
 exact zf Tryz.results58 hf (.tmp rfl .nil) ⟨rfl, hO⟩

end Go.Proofs
end
