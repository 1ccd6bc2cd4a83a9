/-
  Walks, written by a program (wip/gen): what its model says, the function returns; what was there before is as it was.
  Walks, written by a program (wip/gen): what its model says, the function returns; what was there before is as it was.
  Walks, written by a program (wip/gen): what its model says, the function returns; what was there before is as it was.
  Walks, written by a program (wip/gen): what its model says, the function returns; what was there before is as it was.
  Walks, written by a program (wip/gen): what its model says, the function returns; what was there before is as it was.

-/
import Derived.Test.YtgjjlnlhpjjcpaaGreatDoorLib
import Derived.Test.YtgjjlnlhpjjcpaaGreatDoorSq
section
set_option linter.unusedVariables false
set_option maxHeartbeats 1000000
set_option linter.unusedSimpArgs false
set_option maxRecDepth 100000
namespace Go.Proofs
open Go.Dk Go.Dm Go.RowKit

theorem zvu (x_kind : Int) (x_limit : Int) (R : Option accum_Accum × Int) (w0 : World) (hG : zr w0) (hm : zpJ x_kind x_limit = some R) :
    Calls Tryz.prog 41 #[int x_kind, int x_limit] w0 fun e w' => zpI R.1 (e = .returned (.tuple #[.pointer none, int R.2]) ∧ Below w0.heap.size w0 w') (fun x => ∃ (b0 : Nat) (p1 : Option Addr) (c1 : Nat) (p2 : Option Addr) (c2 : Nat), e = .returned (.tuple #[ptr b0 0, int R.2]) ∧ Dk.Own w0 [] w' [.blk b0 [int x.f_kind, int x.f_limit, .slice p1 x.f_buf.length c1, int x.f_from, .bool x.f_took, int x.f_bad, .bool x.f_whole, int x.f_got.Kind, str x.f_got.Method, str x.f_got.Target, int x.f_got.Code, str x.f_got.Reason, int x.f_got.Minor, .slice p2 x.f_got.Fields.length c2] 143, .row (.slice p1 x.f_buf.length c1) 5 1 x.f_buf.length (cells zp x.f_buf), .row (.slice p2 x.f_got.Fields.length c2) 110 2 x.f_got.Fields.length (cells za x.f_got.Fields)]) := by
 rw [zpJ] at hm
 have hF : zq [] := ze
 have hO : Dk.Own w0 [] w0 [] := Dk.Own.refl w0
 refine S.enter tb Tryz.func41 rfl Tryz.ntmps41 rfl ?_ hO hm
 refine jv 1 [0, 1] [] (fun J E L => ∃ (t6 : Bool), J ((19, .bool t6) :: E) (L) (zel x_kind x_limit t6)) rfl ?_ ?_
 refine br rfl (fun hc2 => ?_) fun hc2 => ?_
 refine br rfl (fun hc3 => ?_) fun hc3 => ?_
 exact en rfl fun _ _ j => ⟨true, j rfl⟩
 refine br rfl (fun hc4 => ?_) fun hc4 => ?_
 exact en rfl fun _ _ j => ⟨true, j rfl⟩
 exact en rfl fun _ _ j => ⟨decide (65536 < x_limit), j rfl⟩
 refine br rfl (fun hc5 => ?_) fun hc5 => ?_
 exact en rfl fun _ _ j => ⟨true, j rfl⟩
 exact en rfl fun _ _ j => ⟨decide (65536 < x_limit), j rfl⟩
 rintro a w ⟨t6, hf, hO, hm⟩
 rw [zel] at hm
 refine S.co tb ?_ hf hO hm
 refine br rfl (fun hc7 => ?_) fun hc7 => ?_
 refine re_ rfl fun a w hf hO hm => ?_
 obtain rfl := Option.some.inj hm
 exact zc Tryz.results41 hf (.tmp rfl (.tmp rfl .nil)) ⟨rfl, hO.below⟩
 refine vl rfl rfl (fun a w hf hO => zg (vs := [(0, int x_kind), (1, int x_limit)]) (v := .agg #[int x_kind, int x_limit, .slice none 0 0, int 0, .bool false, int 0, .bool false, int 0, str [], str [], int 0, str [], int 0, .slice none 0 0]) hf rfl (by kernel_rfl)) ?_
 refine bo rfl fun b10 => ?_
 refine nl 5 1 ?_
 refine nl 110 2 ?_
 refine re_ rfl fun a w hf hO hm => ?_
 obtain rfl := Option.some.inj hm
 exact zc Tryz.results41 hf (.tmp rfl (.tmp rfl .nil)) ⟨b10, none, 0, none, 0, rfl, (hO.choose [2, 1, 0] rfl)⟩

theorem zoj (x_a : accum_Accum) (R : Bool) (w0 : World) (hG : zr w0) {x_a_b0 : Nat} {x_a_p1 : Option Addr} {x_a_c1 : Nat} {x_a_p2 : Option Addr} {x_a_c2 : Nat} (hs0 : zC w0 (some ⟨x_a_b0, 0, none⟩) [int x_a.f_kind, int x_a.f_limit, .slice x_a_p1 x_a.f_buf.length x_a_c1, int x_a.f_from, .bool x_a.f_took, int x_a.f_bad, .bool x_a.f_whole, int x_a.f_got.Kind, str x_a.f_got.Method, str x_a.f_got.Target, int x_a.f_got.Code, str x_a.f_got.Reason, int x_a.f_got.Minor, .slice x_a_p2 x_a.f_got.Fields.length x_a_c2]) (hs1 : zC w0 x_a_p1 (cells zp x_a.f_buf)) (hc1 : x_a.f_buf.length ≤ x_a_c1) (hs2 : zC w0 x_a_p2 (cells za x_a.f_got.Fields)) (hc2 : x_a.f_got.Fields.length ≤ x_a_c2) (hm : zh2 x_a = some R) :
    Calls Tryz.prog 111 #[ptr x_a_b0 0] w0 (Ret w0 (fun R => .bool R) R) := by
 rw [zh2] at hm
 have hF : zq [] := ze
 have hO : Dk.Own w0 [] w0 [] := Dk.Own.refl w0
 have hO := hO.addShr hs0 (by simp [Res.shared])
 have hO := hO.addShr hs1 (by simp [Res.shared])
 have hO := hO.addShr hs2 (by simp [Res.shared])
 refine S.enter tb Tryz.func111 rfl Tryz.ntmps111 rfl ?_ hO hm
 refine ld 2 rfl rfl ?_
 refine jv 0 [0, 3] [0, 1, 2] (fun J E L => ∃ (t8 : Bool), J ((4, .bool t8) :: E) (L) (zdG x_a t8)) rfl ?_ ?_
 refine br rfl (fun hc3 => ?_) fun hc3 => ?_
 refine ld 2 rfl rfl ?_
 refine bi rfl fun i4 hi4 => ?_
 refine rw_ rfl fun a w hf hO hm => ?_
 obtain ⟨x5, hx5, hm⟩ := ob hm
 obtain ⟨b6, o7, hix5, hSx5⟩ := zbL (enc := zp) (sz := 1) (xs := x_a.f_buf) 141 Tryz.underlying141 sz_5 (by decide) (fun _ => rfl) (hO.sees (i := 1) rfl) hx5
 refine zG (zh hix5 hf rfl rfl) rfl hf rfl rfl fun a hf => ?_
 refine S.op tb ?_ hf hO hm
 refine kn (b' := true) hc3 rfl ?_
 refine vl rfl rfl (fun a w hf hO => zk (o := 0) ag_5 (hSx5 _ (hO.sees (i := 1) rfl)) rfl hf rfl) ?_
 refine vl rfl rfl (fun a w hf hO => zz (b := x5) (c := 13) hf rfl rfl) ?_
 exact en rfl fun _ _ j => ⟨x5 == 13, j rfl⟩
 exact en rfl fun _ _ j => ⟨false, j rfl⟩
 rintro a w ⟨t8, hf, hO, hm⟩
 rw [zdG] at hm
 refine S.co tb ?_ hf hO hm
 refine ld 2 rfl rfl ?_
 refine bi rfl fun i9 hi9 => ?_
 refine rw_ rfl fun a w hf hO hm => ?_
 obtain ⟨x10, hx10, hm⟩ := ob hm
 obtain ⟨b11, o12, hix10, hSx10⟩ := zbL (enc := zp) (sz := 1) (xs := x_a.f_buf) 141 Tryz.underlying141 sz_5 (by decide) (fun _ => rfl) (hO.sees (i := 1) rfl) hx10
 refine zG (zh hix10 hf rfl rfl) rfl hf rfl rfl fun a hf => ?_
 refine S.op tb ?_ hf hO hm
 refine vl rfl rfl (fun a w hf hO => zk (o := 0) ag_5 (hSx10 _ (hO.sees (i := 1) rfl)) rfl hf rfl) ?_
 refine vl rfl rfl (fun a w hf hO => zz (b := x10) (c := 10) hf rfl rfl) ?_
 refine vl rfl rfl (fun a w hf hO => zx4 Tryz.underlying4 hf rfl rfl) ?_
 exact rt Tryz.results111 rfl

theorem zhP (x_s : Str) (x_chars : Str) (R : Bool) (w0 : World) (hG : zr w0) (hm : strings_ContainsAny x_s x_chars = some R) :
    Calls Tryz.prog 116 #[str x_s, str x_chars] w0 (Ret w0 (fun R => .bool R) R) := by
 rw [strings_ContainsAny] at hm
 have hF : zq [] := ze
 have hO : Dk.Own w0 [] w0 [] := Dk.Own.refl w0
 refine S.enter tb Tryz.func116 rfl Tryz.ntmps116 rfl ?_ hO hm
 refine cl c_157 rfl (fun r2 w hr2 hO => zjt x_s x_chars r2 _ (hG.own hF hO) hr2) fun r2 hr2 => ?_
 exact rt Tryz.results116 rfl

theorem ziT (x_s : Str) (x_c : UInt8) (R : Int) (w0 : World) (hG : zr w0) (hm : zbh x_s x_c = some R) :
    Calls Tryz.prog 207 #[str x_s, zai x_c] w0 (Ret w0 (fun R => int R) R) := by
 rw [zbh] at hm
 have hF : zq [] := ze
 have hO : Dk.Own w0 [] w0 [] := Dk.Own.refl w0
 refine S.enter tb Tryz.func207 rfl Tryz.ntmps207 rfl ?_ hO hm
 refine bi rfl fun i2 hi2 => ?_
 refine lv [0, 1] [] (fun J E L k => ∃ (i4 : Int), J ((5, int i4) :: E) (L) (zH x_s x_c k i4)) rfl (fun _ _ j => ⟨i2, j rfl⟩) ?_
 rintro n1 a w ⟨i4, hf, hO, hm⟩
 obtain _ | n1 := n1
 rw [zH] at hm
 cases hm
 rw [zH] at hm
 refine S.co tb ?_ hf hO hm
 refine br rfl (fun hc6 => ?_) fun hc6 => ?_
 refine bi rfl fun b8 hb8 => ?_
 refine vl rfl rfl (fun a w hf hO => zz (b := b8) (c := x_c) hf rfl rfl) ?_
 refine br rfl (fun hc10 => ?_) fun hc10 => ?_
 exact rt Tryz.results207 rfl
 refine bi rfl fun i13 hi13 => ?_
 exact en rfl fun _ _ j => ⟨_, Nat.lt_succ_self _, i13, j rfl⟩
 exact rt Tryz.results207 rfl

theorem zg6 (x_s : Str) (x_c : UInt8) (R : Int) (w0 : World) (hG : zr w0) (hm : zaw x_s x_c = some R) :
    Calls Tryz.prog 159 #[str x_s, zai x_c] w0 (Ret w0 (fun R => int R) R) := by
 rw [zaw] at hm
 have hF : zq [] := ze
 have hO : Dk.Own w0 [] w0 [] := Dk.Own.refl w0
 refine S.enter tb Tryz.func159 rfl Tryz.ntmps159 rfl ?_ hO hm
 refine cl c_207 rfl (fun r2 w hr2 hO => ziT x_s x_c r2 _ (hG.own hF hO) hr2) fun r2 hr2 => ?_
 exact rt Tryz.results159 rfl

theorem zjS (x_s : Str) (R : scan_Scanner) (w0 : World) (hG : zr w0) (hm : ziC x_s = some R) :
    Calls Tryz.prog 160 #[str x_s] w0 fun e w' => ∃ (b0 : Nat), e = .returned (ptr b0 0) ∧ Dk.Own w0 [] w' [.blk b0 [str R.f_s, int R.f_at] 277] := by
 rw [ziC] at hm
 have hF : zq [] := ze
 have hO : Dk.Own w0 [] w0 [] := Dk.Own.refl w0
 refine S.enter tb Tryz.func160 rfl Tryz.ntmps160 rfl ?_ hO hm
 refine vl rfl rfl (fun a w hf hO => zg (vs := [(0, str x_s)]) (v := .agg #[str x_s, int 0]) hf rfl (by kernel_rfl)) ?_
 refine bo rfl fun b2 => ?_
 refine re_ rfl fun a w hf hO hm => ?_
 obtain rfl := Option.some.inj hm
 exact zc Tryz.results160 hf (.tmp rfl .nil) ⟨b2, rfl, hO⟩

theorem zbw (x_c : scan_Scanner) (R : Str) (w0 : World) (hG : zr w0) {x_c_b0 : Nat} (hs0 : zC w0 (some ⟨x_c_b0, 0, none⟩) [str x_c.f_s, int x_c.f_at]) (hm : zY x_c = some R) :
    Calls Tryz.prog 171 #[ptr x_c_b0 0] w0 (Ret w0 (fun R => str R) R) := by
 rw [zY] at hm
 have hF : zq [] := ze
 have hO : Dk.Own w0 [] w0 [] := Dk.Own.refl w0
 have hO := hO.addShr hs0 (by simp [Res.shared])
 refine S.enter tb Tryz.func171 rfl Tryz.ntmps171 rfl ?_ hO hm
 refine vl rfl rfl (fun a w hf hO => zcL Tryz.underlying244 hf rfl rfl) ?_
 refine kn (b' := false) rfl rfl ?_
 refine rc_ rfl fun a w hf hO hm => ?_
 refine zcO (by kernel_rfl) (by kernel_rfl) hO ?_
 refine zj (fun w hO => zA hf rfl) rfl hf rfl rfl fun a hf => ?_
 refine zj (fun w hO => zac hf rfl) rfl hf rfl rfl fun a hf => ?_
 refine zj (fun w hO => zX zoE hf rfl) rfl hf rfl rfl fun a hf => ?_
 refine zj (fun w hO => zk (o := 0) zbx (hO.sees (i := 0) rfl) rfl hf rfl) rfl hf rfl rfl fun a hf => ?_
 refine zj (fun w hO => zA hf rfl) rfl hf rfl rfl fun a hf => ?_
 refine zj (fun w hO => zac hf rfl) rfl hf rfl rfl fun a hf => ?_
 refine zj (fun w hO => zX zoF hf rfl) rfl hf rfl rfl fun a hf => ?_
 refine zj (fun w hO => zk (o := 1) znm (hO.sees (i := 0) rfl) rfl hf rfl) rfl hf rfl rfl fun a hf => ?_
 obtain ⟨s4, hs4, hm⟩ := ob hm
 refine zj (fun w hO => zkS (l := x_c.f_s) Tryz.underlying9 hf rfl rfl hs4) rfl hf rfl rfl fun a hf => ?_
 refine zj (fun w hO => zay hf rfl) rfl hf rfl rfl fun a hf => ?_
 refine wpQuiet_nil ?_
 intro w hO
 refine S.no tb ?_ hf hO hm
 exact rt Tryz.results171 rfl

theorem zlg (x_s : Str) (x_prefix : Str) (R : Bool) (w0 : World) (hG : zr w0) (hm : stringslite_HasPrefix x_s x_prefix = some R) :
    Calls Tryz.prog 263 #[str x_s, str x_prefix] w0 (Ret w0 (fun R => .bool R) R) := by
 rw [stringslite_HasPrefix] at hm
 have hF : zq [] := ze
 have hO : Dk.Own w0 [] w0 [] := Dk.Own.refl w0
 refine S.enter tb Tryz.func263 rfl Tryz.ntmps263 rfl ?_ hO hm
 refine jv 0 [] [] (fun J E L => ∃ (t4 : Bool), J ((4, .bool t4) :: E) (L) (zat t4)) rfl ?_ ?_
 refine br rfl (fun hc2 => ?_) fun hc2 => ?_
 refine bi rfl fun s3 hs3 => ?_
 exact en rfl fun _ _ j => ⟨s3 == x_prefix, j rfl⟩
 exact en rfl fun _ _ j => ⟨false, j rfl⟩
 rintro a w ⟨t4, hf, hO, hm⟩
 rw [zat] at hm
 refine S.co tb ?_ hf hO hm
 exact rt Tryz.results263 rfl

theorem zga (x_s : Str) (x_prefix : Str) (R : Bool) (w0 : World) (hG : zr w0) (hm : strings_HasPrefix x_s x_prefix = some R) :
    Calls Tryz.prog 242 #[str x_s, str x_prefix] w0 (Ret w0 (fun R => .bool R) R) := by
 rw [strings_HasPrefix] at hm
 have hF : zq [] := ze
 have hO : Dk.Own w0 [] w0 [] := Dk.Own.refl w0
 refine S.enter tb Tryz.func242 rfl Tryz.ntmps242 rfl ?_ hO hm
 refine cl c_263 rfl (fun r2 w hr2 hO => zlg x_s x_prefix r2 _ (hG.own hF hO) hr2) fun r2 hr2 => ?_
 exact rt Tryz.results242 rfl

theorem znq (x_c : scan_Scanner) (x_t : Str) (R : Bool × scan_Scanner) (w0 : World) (hG : zr w0) {x_c_b0 : Nat} {F : List Nat} (hF : zq F) (hO : Dk.Own w0 F w0 [.blk x_c_b0 [str x_c.f_s, int x_c.f_at] 277]) (hm : zcg x_c x_t = some R) :
    Calls Tryz.prog 240 #[ptr x_c_b0 0, str x_t] w0 fun e w' => e = .returned (.bool R.1) ∧ Dk.Own w0 F w' [.blk x_c_b0 [str R.2.f_s, int R.2.f_at] 277] := by
 rw [zcg] at hm
 refine S.enter tb Tryz.func240 rfl Tryz.ntmps240 rfl ?_ hO hm
 refine cl zsS rfl (fun r2 w hr2 hO => zbw x_c r2 _ (hG.own hF hO) (hO.blkSees (i := 0) rfl) hr2) fun r2 hr2 => ?_
 refine cl zy6 rfl (fun r3 w hr3 hO => zga r2 x_t r3 _ (hG.own hF hO) hr3) fun r3 hr3 => ?_
 refine br rfl (fun hc5 => ?_) fun hc5 => ?_
 refine re_ rfl fun a w hf hO hm => ?_
 obtain rfl := Option.some.inj hm
 exact zc Tryz.results240 hf (.tmp rfl .nil) ⟨rfl, hO⟩
 refine vl rfl rfl (fun a w hf hO => zpv Tryz.underlying244 hf rfl rfl) ?_
 refine kn (b' := true) rfl rfl ?_
 refine ld 0 rfl rfl ?_
 refine bi rfl fun i9 hi9 => ?_
 refine st 0 rfl rfl ?_
 refine re_ rfl fun a w hf hO hm => ?_
 obtain rfl := Option.some.inj hm
 exact zc Tryz.results240 hf (.tmp rfl .nil) ⟨rfl, hO⟩

theorem zey (x_c : scan_Scanner) (R : Bool) (w0 : World) (hG : zr w0) {x_c_b0 : Nat} (hs0 : zC w0 (some ⟨x_c_b0, 0, none⟩) [str x_c.f_s, int x_c.f_at]) (hm : zaI x_c = some R) :
    Calls Tryz.prog 167 #[ptr x_c_b0 0] w0 (Ret w0 (fun R => .bool R) R) := by
 rw [zaI] at hm
 have hF : zq [] := ze
 have hO : Dk.Own w0 [] w0 [] := Dk.Own.refl w0
 have hO := hO.addShr hs0 (by simp [Res.shared])
 refine S.enter tb Tryz.func167 rfl Tryz.ntmps167 rfl ?_ hO hm
 refine cl zsS rfl (fun r2 w hr2 hO => zbw x_c r2 _ (hG.own hF hO) (hO.sees (i := 0) rfl) hr2) fun r2 hr2 => ?_
 exact rt Tryz.results167 rfl

theorem zaN (x_c : scan_Scanner) (R : UInt8 × Bool) (w0 : World) (hG : zr w0) {x_c_b0 : Nat} (hs0 : zC w0 (some ⟨x_c_b0, 0, none⟩) [str x_c.f_s, int x_c.f_at]) (hm : zB x_c = some R) :
    Calls Tryz.prog 208 #[ptr x_c_b0 0] w0 (Ret w0 (fun R => .tuple #[zai R.1, .bool R.2]) R) := by
 rw [zB] at hm
 have hF : zq [] := ze
 have hO : Dk.Own w0 [] w0 [] := Dk.Own.refl w0
 have hO := hO.addShr hs0 (by simp [Res.shared])
 refine S.enter tb Tryz.func208 rfl Tryz.ntmps208 rfl ?_ hO hm
 refine cl zwL rfl (fun r2 w hr2 hO => zey x_c r2 _ (hG.own hF hO) (hO.sees (i := 0) rfl) hr2) fun r2 hr2 => ?_
 refine br rfl (fun hc4 => ?_) fun hc4 => ?_
 exact rt Tryz.results208 rfl
 refine rc_ rfl fun a w hf hO hm => ?_
 refine zcO (by kernel_rfl) (by kernel_rfl) hO ?_
 refine zj (fun w hO => zA hf rfl) rfl hf rfl rfl fun a hf => ?_
 refine zj (fun w hO => zac hf rfl) rfl hf rfl rfl fun a hf => ?_
 refine zj (fun w hO => zX zoE hf rfl) rfl hf rfl rfl fun a hf => ?_
 refine zj (fun w hO => zk (o := 0) zbx (hO.sees (i := 0) rfl) rfl hf rfl) rfl hf rfl rfl fun a hf => ?_
 refine zj (fun w hO => zA hf rfl) rfl hf rfl rfl fun a hf => ?_
 refine zj (fun w hO => zac hf rfl) rfl hf rfl rfl fun a hf => ?_
 refine zj (fun w hO => zX zoF hf rfl) rfl hf rfl rfl fun a hf => ?_
 refine zj (fun w hO => zk (o := 1) znm (hO.sees (i := 0) rfl) rfl hf rfl) rfl hf rfl rfl fun a hf => ?_
 obtain ⟨b7, hb7, hm⟩ := ob hm
 refine zj (fun w hO => zoA (l := x_c.f_s) Tryz.underlying9 hf rfl rfl hb7) rfl hf rfl rfl fun a hf => ?_
 refine zj (fun w hO => zay hf rfl) rfl hf rfl rfl fun a hf => ?_
 refine zj (fun w hO => zay hf rfl) rfl hf rfl rfl fun a hf => ?_
 refine wpQuiet_nil ?_
 intro w hO
 refine S.no tb ?_ hf hO hm
 exact rt Tryz.results208 rfl

end Go.Proofs
end
section
set_option linter.unusedVariables false
set_option maxHeartbeats 1000000
set_option linter.unusedSimpArgs false
set_option maxRecDepth 100000
namespace Go.Proofs
open Go.Dk Go.Dm Go.RowKit

theorem zco (x_b : UInt8) (R : Bool) (w0 : World) (hG : zr w0) (hm : z6 x_b = some R) :
    Calls Tryz.prog 169 #[zai x_b] w0 (Ret w0 (fun R => .bool R) R) := by
 rw [z6] at hm
 have hF : zq [] := ze
 have hO : Dk.Own w0 [] w0 [] := Dk.Own.refl w0
 refine S.enter tb Tryz.func169 rfl Tryz.ntmps169 rfl ?_ hO hm
 refine jv 0 [] [] (fun J E L => ∃ (t3 : Bool), J ((2, .bool t3) :: E) (L) (zfP t3)) rfl ?_ ?_
 refine vl rfl rfl (fun a w hf hO => zml (b := x_b) (c := 48) hf rfl rfl) ?_
 refine br rfl (fun hc2 => ?_) fun hc2 => ?_
 refine vl rfl rfl (fun a w hf hO => zoz (b := x_b) (c := 57) hf rfl rfl) ?_
 exact en rfl fun _ _ j => ⟨decide (x_b ≤ 57), j rfl⟩
 exact en rfl fun _ _ j => ⟨false, j rfl⟩
 rintro a w ⟨t3, hf, hO, hm⟩
 rw [zfP] at hm
 refine S.co tb ?_ hf hO hm
 exact rt Tryz.results169 rfl

theorem zv (x_c : scan_Scanner) (x_b : UInt8) (R : Bool × scan_Scanner) (w0 : World) (hG : zr w0) {x_c_b0 : Nat} {F : List Nat} (hF : zq F) (hO : Dk.Own w0 F w0 [.blk x_c_b0 [str x_c.f_s, int x_c.f_at] 277]) (hm : zn x_c x_b = some R) :
    Calls Tryz.prog 162 #[ptr x_c_b0 0, zai x_b] w0 fun e w' => e = .returned (.bool R.1) ∧ Dk.Own w0 F w' [.blk x_c_b0 [str R.2.f_s, int R.2.f_at] 277] := by
 rw [zn] at hm
 refine S.enter tb Tryz.func162 rfl Tryz.ntmps162 rfl ?_ hO hm
 refine cl zq5 rfl (fun r2 w hr2 hO => zaN x_c r2 _ (hG.own hF hO) (hO.blkSees (i := 0) rfl) hr2) fun r2 hr2 => ?_
 refine jv 1 [0] [0] (fun J E L => ∃ (t5 : Bool), J ((18, .bool t5) :: E) (L) (zb1 x_c t5)) rfl ?_ ?_
 refine br rfl (fun hc4 => ?_) fun hc4 => ?_
 exact en rfl fun _ _ j => ⟨true, j rfl⟩
 refine vl rfl rfl (fun a w hf hO => zez (b := r2.1) (c := x_b) hf rfl rfl) ?_
 exact en rfl fun _ _ j => ⟨!(r2.1 == x_b), j rfl⟩
 rintro a w ⟨t5, hf, hO, hm⟩
 rw [zb1] at hm
 refine S.co tb ?_ hf hO hm
 refine br rfl (fun hc6 => ?_) fun hc6 => ?_
 refine re_ rfl fun a w hf hO hm => ?_
 obtain rfl := Option.some.inj hm
 exact zc Tryz.results162 hf (.tmp rfl .nil) ⟨rfl, hO⟩
 refine ld 0 rfl rfl ?_
 refine bi rfl fun i9 hi9 => ?_
 refine st 0 rfl rfl ?_
 refine re_ rfl fun a w hf hO hm => ?_
 obtain rfl := Option.some.inj hm
 exact zc Tryz.results162 hf (.tmp rfl .nil) ⟨rfl, hO⟩

theorem zhE (x_p : startline_line) (R : Int × Bool × scan_Scanner) (w0 : World) (hG : zr w0) {x_p_b0 : Nat} {F : List Nat} (hF : zq F) (hO : Dk.Own w0 F w0 [.blk x_p_b0 [str x_p.Scanner.f_s, int x_p.Scanner.f_at] 277]) (hm : za9 x_p = some R) :
    Calls Tryz.prog 241 #[.agg #[ptr x_p_b0 0]] w0 fun e w' => e = .returned (.tuple #[int R.1, .bool R.2.1]) ∧ Dk.Own w0 F w' [.blk x_p_b0 [str R.2.2.f_s, int R.2.2.f_at] 277] := by
 rw [za9] at hm
 refine S.enter tb Tryz.func241 rfl Tryz.ntmps241 rfl ?_ hO hm
 refine bo rfl fun b1 => ?_
 refine ld 0 rfl rfl ?_
 refine cl zq5 rfl (fun r3 w hr3 hO => zaN x_p.Scanner r3 _ (hG.own hF hO) (hO.blkSees (i := 1) rfl) hr3) fun r3 hr3 => ?_
 refine jv 1 [1, 4] [0, 1] (fun J E L => ∃ (t7 : Bool), J ((18, .bool t7) :: E) (L) (za8 x_p r3 t7)) rfl ?_ ?_
 refine br rfl (fun hc5 => ?_) fun hc5 => ?_
 exact en rfl fun _ _ j => ⟨true, j rfl⟩
 refine cl zq4 rfl (fun r6 w hr6 hO => zco r3.1 r6 _ (hG.own hF hO) hr6) fun r6 hr6 => ?_
 exact en rfl fun _ _ j => ⟨!r6, j rfl⟩
 rintro a w ⟨t7, hf, hO, hm⟩
 rw [za8] at hm
 refine S.co tb ?_ hf hO hm
 refine br rfl (fun hc8 => ?_) fun hc8 => ?_
 refine re_ rfl fun a w hf hO hm => ?_
 obtain rfl := Option.some.inj hm
 exact zc Tryz.results241 hf (.tmp rfl (.tmp rfl .nil)) ⟨rfl, (hO.sub (.cons _ (.cons_cons _ .slnil)))⟩
 refine ld 0 rfl rfl ?_
 refine cw0 zi9 [1, 0] 1 [] rfl (fun r11 w hr11 hO hfar12 hlend12 => zv x_p.Scanner r3.1 r11 _ (hG.own hF hO) hfar12 hlend12 hr11) (fun _ _ => trivial) hF hG.size fun r11 hr11 => ?_
 refine vl rfl rfl (fun a w hf hO => zqY (b := r3.1) (c := 48) hf rfl rfl) ?_
 refine vl rfl rfl (fun a w hf hO => zpy Tryz.underlying3 Tryz.underlying5 (zq3 _) hf (kd := .u8) rfl) ?_
 refine re_ rfl fun a w hf hO hm => ?_
 obtain rfl := Option.some.inj hm
 exact zc Tryz.results241 hf (.tmp rfl (.tmp rfl .nil)) ⟨rfl, (hO.sub (.cons_cons _ (.cons _ .slnil)))⟩

theorem zgv (x_p : startline_line) (R : Int × Int × Bool × scan_Scanner) (w0 : World) (hG : zr w0) {x_p_b0 : Nat} {F : List Nat} (hF : zq F) (hO : Dk.Own w0 F w0 [.blk x_p_b0 [str x_p.Scanner.f_s, int x_p.Scanner.f_at] 277]) (hm : zaJ x_p = some R) :
    Calls Tryz.prog 206 #[.agg #[ptr x_p_b0 0]] w0 fun e w' => e = .returned (.tuple #[int R.1, int R.2.1, .bool R.2.2.1]) ∧ Dk.Own w0 F w' [.blk x_p_b0 [str R.2.2.2.f_s, int R.2.2.2.f_at] 277] := by
 rw [zaJ] at hm
 refine S.enter tb Tryz.func206 rfl Tryz.ntmps206 rfl ?_ hO hm
 refine bo rfl fun b1 => ?_
 refine ld 0 rfl rfl ?_
 refine cw0 c_240 [1, 0] 1 [] rfl (fun r3 w hr3 hO hfar4 hlend4 => znq x_p.Scanner [72, 84, 84, 80, 47] r3 _ (hG.own hF hO) hfar4 hlend4 hr3) (fun _ _ => trivial) hF hG.size fun r3 hr3 => ?_
 refine br rfl (fun hc6 => ?_) fun hc6 => ?_
 refine re_ rfl fun a w hf hO hm => ?_
 obtain rfl := Option.some.inj hm
 exact zc Tryz.results206 hf (.tmp rfl (.tmp rfl (.tmp rfl .nil))) ⟨rfl, (hO.sub (.cons_cons _ (.cons _ .slnil)))⟩
 refine ld 1 rfl rfl ?_
 refine cw0 c_241 [0, 1] 1 [] rfl (fun r9 w hr9 hO hfar10 hlend10 => zhE (⟨r3.2⟩ : startline_line) r9 _ (hG.own hF hO) hfar10 hlend10 hr9) (fun _ _ => trivial) hF hG.size fun r9 hr9 => ?_
 refine ld 1 rfl rfl ?_
 refine cw0 zi9 [0, 1] 1 [] rfl (fun r12 w hr12 hO hfar13 hlend13 => zv r9.2.2 46 r12 _ (hG.own hF hO) hfar13 hlend13 hr12) (fun _ _ => trivial) hF hG.size fun r12 hr12 => ?_
 refine ld 1 rfl rfl ?_
 refine cw0 c_241 [0, 1] 1 [] rfl (fun r15 w hr15 hO hfar16 hlend16 => zhE (⟨r12.2⟩ : startline_line) r15 _ (hG.own hF hO) hfar16 hlend16 hr15) (fun _ _ => trivial) hF hG.size fun r15 hr15 => ?_
 refine jv 0 [] [0, 1] (fun J E L => ∃ (t20 : Bool), J ((2, int r9.1) :: (3, int r15.1) :: (4, .bool t20) :: E) (L) (zaK r9 r15 t20)) rfl ?_ ?_
 refine br rfl (fun hc18 => ?_) fun hc18 => ?_
 refine br rfl (fun hc19 => ?_) fun hc19 => ?_
 exact en rfl fun _ _ j => ⟨r15.2.1, j rfl⟩
 exact en rfl fun _ _ j => ⟨false, j rfl⟩
 exact en rfl fun _ _ j => ⟨false, j rfl⟩
 rintro a w ⟨t20, hf, hO, hm⟩
 rw [zaK] at hm
 refine S.co tb ?_ hf hO hm
 refine re_ rfl fun a w hf hO hm => ?_
 obtain rfl := Option.some.inj hm
 exact zc Tryz.results206 hf (.tmp rfl (.tmp rfl (.tmp rfl .nil))) ⟨rfl, (hO.sub (.cons_cons _ (.cons _ .slnil)))⟩

theorem zko (x_s : Str) (R : Bool) (w0 : World) (hG : zr w0) (hm : zc4 x_s = some R) :
    Calls Tryz.prog 158 #[str x_s] w0 (Ret w0 (fun R => .bool R) R) := by
 rw [zc4] at hm
 have hF : zq [] := ze
 have hO : Dk.Own w0 [] w0 [] := Dk.Own.refl w0
 refine S.enter tb Tryz.func158 rfl Tryz.ntmps158 rfl ?_ hO hm
 refine cm1 zuL rfl (fun r2 w hr2 hO => zjS x_s r2 _ (hG.own hF hO) hr2) fun r2 hr2 b3 => ?_
 refine vl rfl rfl (fun a w hf hO => zg (vs := [(0, ptr b3 0)]) (v := .agg #[ptr b3 0]) hf rfl (by kernel_rfl)) ?_
 refine al zv2 rfl fun b4 => ?_
 refine st 0 rfl rfl ?_
 refine ld 0 rfl rfl ?_
 refine cw0 c_206 [1, 0] 1 [] rfl (fun r6 w hr6 hO hfar7 hlend7 => zgv (⟨r2⟩ : startline_line) r6 _ (hG.own hF hO) hfar7 hlend7 hr6) (fun _ _ => trivial) hF hG.size fun r6 hr6 => ?_
 refine jv 0 [] [0, 1] (fun J E L => ∃ (t13 : Bool), J ((2, .bool t13) :: E) (L) (za4 t13)) rfl ?_ ?_
 refine br rfl (fun hc9 => ?_) fun hc9 => ?_
 refine ld 1 rfl rfl ?_
 refine cl zwL rfl (fun r10 w hr10 hO => zey r6.2.2.2 r10 _ (hG.own hF hO) (hO.blkSees (i := 0) rfl) hr10) fun r10 hr10 => ?_
 refine br rfl (fun hc11 => ?_) fun hc11 => ?_
 refine br rfl (fun hc12 => ?_) fun hc12 => ?_
 exact en rfl fun _ _ j => ⟨true, j rfl⟩
 exact en rfl fun _ _ j => ⟨decide (1 < r6.2.1), j rfl⟩
 exact en rfl fun _ _ j => ⟨false, j rfl⟩
 exact en rfl fun _ _ j => ⟨false, j rfl⟩
 rintro a w ⟨t13, hf, hO, hm⟩
 rw [za4] at hm
 refine S.co tb ?_ hf hO hm
 exact rt Tryz.results158 rfl

theorem zdr (x_c : scan_Scanner) (R : Int) (w0 : World) (hG : zr w0) {x_c_b0 : Nat} (hs0 : zC w0 (some ⟨x_c_b0, 0, none⟩) [str x_c.f_s, int x_c.f_at]) (hm : zby x_c = some R) :
    Calls Tryz.prog 209 #[ptr x_c_b0 0] w0 (Ret w0 (fun R => int R) R) := by
 rw [zby] at hm
 have hF : zq [] := ze
 have hO : Dk.Own w0 [] w0 [] := Dk.Own.refl w0
 have hO := hO.addShr hs0 (by simp [Res.shared])
 refine S.enter tb Tryz.func209 rfl Tryz.ntmps209 rfl ?_ hO hm
 refine vl rfl rfl (fun a w hf hO => zcL Tryz.underlying244 hf rfl rfl) ?_
 refine kn (b' := false) rfl rfl ?_
 refine ld 0 rfl rfl ?_
 exact rt Tryz.results209 rfl

theorem zds (x_c : scan_Scanner) (x_is : UInt8 → Option Bool) (R : Str × scan_Scanner) (w0 : World) (hG : zr w0) {x_c_b0 : Nat} {F : List Nat} (hF : zq F) (hO : Dk.Own w0 F w0 [.blk x_c_b0 [str x_c.f_s, int x_c.f_at] 277]) {x_is_f : Nat} {x_is_p x_is_c : Array Value} (x_is_k : zb Tryz.prog x_is_f) (x_is_h : ∀ (y0 : UInt8) (r : Bool) (w : World), zr w → x_is y0 = some r → Calls Tryz.prog x_is_f (x_is_p ++ [zai y0].toArray ++ x_is_c) w fun e w' => e = .returned (.bool r) ∧ Below w.heap.size w w') (hm : zal x_c x_is = some R) :
    Calls Tryz.prog 163 #[ptr x_c_b0 0, .func (.func x_is_f) x_is_p x_is_c] w0 fun e w' => e = .returned (str R.1) ∧ Dk.Own w0 F w' [.blk x_c_b0 [str R.2.f_s, int R.2.f_at] 277] := by
 rw [zal] at hm
 refine S.enter tb Tryz.func163 rfl Tryz.ntmps163 rfl ?_ hO hm
 refine cl zuN rfl (fun r2 w hr2 hO => zdr x_c r2 _ (hG.own hF hO) (hO.blkSees (i := 0) rfl) hr2) fun r2 hr2 => ?_
 refine jv 0 [0, 5] [] (fun J E L => ∃ (s14 : Str) (i15 : Int), J (E) (.blk x_c_b0 [str s14, int i15] 277 :: L) (zbH r2 s14 i15)) rfl ?_ ?_
 refine lv [0, 1, 5] [] (fun J E L k => ∃ (s4 : Str) (i5 : Int), J (E) (.blk x_c_b0 [str s4, int i5] 277 :: L) (zN x_is r2 k s4 i5)) rfl (fun _ _ j => ⟨x_c.f_s, x_c.f_at, j rfl⟩) ?_
 rintro n1 a w ⟨s4, i5, hf, hO, hm⟩
 obtain _ | n1 := n1
 rw [zN] at hm
 cases hm
 rw [zN] at hm
 refine S.co tb ?_ hf hO hm
 refine cl zq5 rfl (fun r6 w hr6 hO => zaN (⟨s4, i5⟩ : scan_Scanner) r6 _ (hG.own hF hO) (hO.blkSees (i := 0) rfl) hr6) fun r6 hr6 => ?_
 refine jv 5 [0, 1, 5] [0] (fun J E L => ∃ (t10 : Bool), J ((22, .bool t10) :: E) (L) (zaT (zN x_is r2 n1) r2 s4 i5 t10)) rfl ?_ ?_
 refine br rfl (fun hc8 => ?_) fun hc8 => ?_
 exact en rfl fun _ _ j => ⟨true, j rfl⟩
 refine rw_ rfl fun a w hf hO hm => ?_
 obtain ⟨r9, hr9, hm⟩ := ob hm
 refine oc (zux x_is_k hf rfl (vs := [zai r6.1]) rfl) hf rfl (x_is_h r6.1 r9 _ (hG.own hF hO) hr9) hO fun a w' hf hO => ?_
 refine S.op tb ?_ hf hO hm
 refine kn (b' := false) hc8 rfl ?_
 exact en rfl fun _ _ j => ⟨!r9, j rfl⟩
 rintro a w ⟨t10, hf, hO, hm⟩
 rw [zaT] at hm
 refine S.co tb ?_ hf hO hm
 refine br rfl (fun hc11 => ?_) fun hc11 => ?_
 exact en rfl fun _ _ j => ⟨s4, i5, j rfl⟩
 refine ld 0 rfl rfl ?_
 refine bi rfl fun i13 hi13 => ?_
 refine st 0 rfl rfl ?_
 exact en rfl fun _ _ j => ⟨_, Nat.lt_succ_self _, s4, i13, j rfl⟩
 rintro a w ⟨s14, i15, hf, hO, hm⟩
 rw [zbH] at hm
 refine S.co tb ?_ hf hO hm
 refine vl rfl rfl (fun a w hf hO => zcL Tryz.underlying244 hf rfl rfl) ?_
 refine kn (b' := false) rfl rfl ?_
 refine rc_ rfl fun a w hf hO hm => ?_
 refine zcO (by kernel_rfl) (by kernel_rfl) hO ?_
 refine zj (fun w hO => zA hf rfl) rfl hf rfl rfl fun a hf => ?_
 refine zj (fun w hO => zac hf rfl) rfl hf rfl rfl fun a hf => ?_
 refine zj (fun w hO => zX zoE hf rfl) rfl hf rfl rfl fun a hf => ?_
 refine zj (fun w hO => zk (o := 0) zbx (hO.blkSees (i := 0) rfl) rfl hf rfl) rfl hf rfl rfl fun a hf => ?_
 refine zj (fun w hO => zA hf rfl) rfl hf rfl rfl fun a hf => ?_
 refine zj (fun w hO => zA hf rfl) rfl hf rfl rfl fun a hf => ?_
 refine zj (fun w hO => zac hf rfl) rfl hf rfl rfl fun a hf => ?_
 refine zj (fun w hO => zX zoF hf rfl) rfl hf rfl rfl fun a hf => ?_
 refine zj (fun w hO => zk (o := 1) znm (hO.blkSees (i := 0) rfl) rfl hf rfl) rfl hf rfl rfl fun a hf => ?_
 obtain ⟨s18, hs18, hm⟩ := ob hm
 refine zj (fun w hO => zmn (l := s14) Tryz.underlying9 hf rfl rfl rfl hs18) rfl hf rfl rfl fun a hf => ?_
 refine zj (fun w hO => zay hf rfl) rfl hf rfl rfl fun a hf => ?_
 refine wpQuiet_nil ?_
 intro w hO
 refine S.no tb ?_ hf hO hm
 refine re_ rfl fun a w hf hO hm => ?_
 obtain rfl := Option.some.inj hm
 exact zc Tryz.results163 hf (.tmp rfl .nil) ⟨rfl, hO⟩

theorem zeZ (x_b : UInt8) (R : UInt8) (w0 : World) (hG : zr w0) (hm : zaO x_b = some R) :
    Calls Tryz.prog 213 #[zai x_b] w0 (Ret w0 (fun R => zai R) R) := by
 rw [zaO] at hm
 have hF : zq [] := ze
 have hO : Dk.Own w0 [] w0 [] := Dk.Own.refl w0
 refine S.enter tb Tryz.func213 rfl Tryz.ntmps213 rfl ?_ hO hm
 refine jv 1 [0] [] (fun J E L => ∃ (t3 : Bool), J ((8, .bool t3) :: E) (L) (zhn x_b t3)) rfl ?_ ?_
 refine vl rfl rfl (fun a w hf hO => zml (b := x_b) (c := 65) hf rfl rfl) ?_
 refine br rfl (fun hc2 => ?_) fun hc2 => ?_
 refine vl rfl rfl (fun a w hf hO => zoz (b := x_b) (c := 90) hf rfl rfl) ?_
 exact en rfl fun _ _ j => ⟨decide (x_b ≤ 90), j rfl⟩
 exact en rfl fun _ _ j => ⟨false, j rfl⟩
 rintro a w ⟨t3, hf, hO, hm⟩
 rw [zhn] at hm
 refine S.co tb ?_ hf hO hm
 refine br rfl (fun hc4 => ?_) fun hc4 => ?_
 refine vl rfl rfl (fun a w hf hO => zx3 (b := x_b) (c := 32) hf rfl rfl) ?_
 exact rt Tryz.results213 rfl
 exact rt Tryz.results213 rfl

theorem zl0 (x_b : UInt8) (R : Bool) (w0 : World) (hG : zr w0) (hm : zis x_b = some R) :
    Calls Tryz.prog 174 #[zai x_b] w0 (Ret w0 (fun R => .bool R) R) := by
 rw [zis] at hm
 have hF : zq [] := ze
 have hO : Dk.Own w0 [] w0 [] := Dk.Own.refl w0
 refine S.enter tb Tryz.func174 rfl Tryz.ntmps174 rfl ?_ hO hm
 refine jv 0 [] [] (fun J E L => ∃ (t5 : Bool), J ((2, .bool t5) :: E) (L) (zfQ t5)) rfl ?_ ?_
 refine cl zuO rfl (fun r2 w hr2 hO => zeZ x_b r2 _ (hG.own hF hO) hr2) fun r2 hr2 => ?_
 refine vl rfl rfl (fun a w hf hO => zml (b := r2) (c := 97) hf rfl rfl) ?_
 refine br rfl (fun hc3 => ?_) fun hc3 => ?_
 refine cl zuO rfl (fun r4 w hr4 hO => zeZ x_b r4 _ (hG.own hF hO) hr4) fun r4 hr4 => ?_
 refine vl rfl rfl (fun a w hf hO => zoz (b := r4) (c := 122) hf rfl rfl) ?_
 exact en rfl fun _ _ j => ⟨decide (r4 ≤ 122), j rfl⟩
 exact en rfl fun _ _ j => ⟨false, j rfl⟩
 rintro a w ⟨t5, hf, hO, hm⟩
 rw [zfQ] at hm
 refine S.co tb ?_ hf hO hm
 exact rt Tryz.results174 rfl

theorem zkp (x_b : UInt8) (x_l : Str) (R : Bool) (w0 : World) (hG : zr w0) (hm : zjo x_b x_l = some R) :
    Calls Tryz.prog 175 #[zai x_b, str x_l] w0 (Ret w0 (fun R => .bool R) R) := by
 rw [zjo] at hm
 have hF : zq [] := ze
 have hO : Dk.Own w0 [] w0 [] := Dk.Own.refl w0
 refine S.enter tb Tryz.func175 rfl Tryz.ntmps175 rfl ?_ hO hm
 refine cl c_214 rfl (fun r2 w hr2 hO => zi7 x_l x_b r2 _ (hG.own hF hO) hr2) fun r2 hr2 => ?_
 exact rt Tryz.results175 rfl

theorem zl1 (x_b : UInt8) (R : Bool) (w0 : World) (hG : zr w0) (hm : zcF x_b = some R) :
    Calls Tryz.prog 122 #[zai x_b] w0 (Ret w0 (fun R => .bool R) R) := by
 rw [zcF] at hm
 have hF : zq [] := ze
 have hO : Dk.Own w0 [] w0 [] := Dk.Own.refl w0
 refine S.enter tb Tryz.func122 rfl Tryz.ntmps122 rfl ?_ hO hm
 refine jv 0 [] [] (fun J E L => ∃ (t7 : Bool), J ((2, .bool t7) :: E) (L) (zdT t7)) rfl ?_ ?_
 refine cl c_174 rfl (fun r2 w hr2 hO => zl0 x_b r2 _ (hG.own hF hO) hr2) fun r2 hr2 => ?_
 refine br rfl (fun hc3 => ?_) fun hc3 => ?_
 exact en rfl fun _ _ j => ⟨true, j rfl⟩
 refine cl zq4 rfl (fun r4 w hr4 hO => zco x_b r4 _ (hG.own hF hO) hr4) fun r4 hr4 => ?_
 refine br rfl (fun hc5 => ?_) fun hc5 => ?_
 exact en rfl fun _ _ j => ⟨true, j rfl⟩
 refine cl zwO rfl (fun r6 w hr6 hO => zkp x_b [33, 35, 36, 37, 38, 39, 42, 43, 45, 46, 94, 95, 96, 124, 126] r6 _ (hG.own hF hO) hr6) fun r6 hr6 => ?_
 exact en rfl fun _ _ j => ⟨r6, j rfl⟩
 rintro a w ⟨t7, hf, hO, hm⟩
 rw [zdT] at hm
 refine S.co tb ?_ hf hO hm
 exact rt Tryz.results122 rfl

theorem ziS (x_c : scan_Scanner) (R : Str × Bool × scan_Scanner) (w0 : World) (hG : zr w0) {x_c_b0 : Nat} {F : List Nat} (hF : zq F) (hO : Dk.Own w0 F w0 [.blk x_c_b0 [str x_c.f_s, int x_c.f_at] 277]) (hm : zbM x_c = some R) :
    Calls Tryz.prog 161 #[ptr x_c_b0 0] w0 fun e w' => e = .returned (.tuple #[str R.1, .bool R.2.1]) ∧ Dk.Own w0 F w' [.blk x_c_b0 [str R.2.2.f_s, int R.2.2.f_at] 277] := by
 rw [zbM] at hm
 refine S.enter tb Tryz.func161 rfl Tryz.ntmps161 rfl ?_ hO hm
 refine cw0 zwK [0] 1 [] rfl (fun r2 w hr2 hO hfar3 hlend3 => zds x_c zcF r2 _ (hG.own hF hO) hfar3 hlend3 c_122 (fun y0 r w hG h => zhT (zl1 y0 r w hG h)) hr2) (fun _ _ => trivial) hF hG.size fun r2 hr2 => ?_
 refine re_ rfl fun a w hf hO hm => ?_
 obtain rfl := Option.some.inj hm
 exact zc Tryz.results161 hf (.tmp rfl (.tmp rfl .nil)) ⟨rfl, hO⟩

end Go.Proofs
end
section
set_option linter.unusedVariables false
set_option maxHeartbeats 1000000
set_option linter.unusedSimpArgs false
set_option maxRecDepth 100000
namespace Go.Proofs
open Go.Dk Go.Dm Go.RowKit

theorem zmd (x_b : UInt8) (R : Bool) (w0 : World) (hG : zr w0) (hm : zcr x_b = some R) :
    Calls Tryz.prog 164 #[zai x_b] w0 (Ret w0 (fun R => .bool R) R) := by
 rw [zcr] at hm
 have hF : zq [] := ze
 have hO : Dk.Own w0 [] w0 [] := Dk.Own.refl w0
 refine S.enter tb Tryz.func164 rfl Tryz.ntmps164 rfl ?_ hO hm
 refine vl rfl rfl (fun a w hf hO => zez (b := x_b) (c := 32) hf rfl rfl) ?_
 exact rt Tryz.results164 rfl

theorem zhF (x_p : startline_line) (R : Int × Bool × scan_Scanner) (w0 : World) (hG : zr w0) {x_p_b0 : Nat} {F : List Nat} (hF : zq F) (hO : Dk.Own w0 F w0 [.blk x_p_b0 [str x_p.Scanner.f_s, int x_p.Scanner.f_at] 277]) (hm : zbb x_p = some R) :
    Calls Tryz.prog 165 #[.agg #[ptr x_p_b0 0]] w0 fun e w' => e = .returned (.tuple #[int R.1, .bool R.2.1]) ∧ Dk.Own w0 F w' [.blk x_p_b0 [str R.2.2.f_s, int R.2.2.f_at] 277] := by
 rw [zbb] at hm
 refine S.enter tb Tryz.func165 rfl Tryz.ntmps165 rfl ?_ hO hm
 refine bo rfl fun b1 => ?_
 refine ld 0 rfl rfl ?_
 refine cw0 c_206 [1, 0] 1 [] rfl (fun r3 w hr3 hO hfar4 hlend4 => zgv x_p r3 _ (hG.own hF hO) hfar4 hlend4 hr3) (fun _ _ => trivial) hF hG.size fun r3 hr3 => ?_
 refine jv 0 [] [0, 1] (fun J E L => ∃ (t8 : Bool), J ((2, int r3.2.1) :: (3, .bool t8) :: E) (L) (zba r3 t8)) rfl ?_ ?_
 refine br rfl (fun hc6 => ?_) fun hc6 => ?_
 refine br rfl (fun hc7 => ?_) fun hc7 => ?_
 exact en rfl fun _ _ j => ⟨decide (r3.2.1 ≤ 1), j rfl⟩
 exact en rfl fun _ _ j => ⟨false, j rfl⟩
 exact en rfl fun _ _ j => ⟨false, j rfl⟩
 rintro a w ⟨t8, hf, hO, hm⟩
 rw [zba] at hm
 refine S.co tb ?_ hf hO hm
 refine re_ rfl fun a w hf hO hm => ?_
 obtain rfl := Option.some.inj hm
 exact zc Tryz.results165 hf (.tmp rfl (.tmp rfl .nil)) ⟨rfl, (hO.sub (.cons_cons _ (.cons _ .slnil)))⟩

theorem zdt (x_is : UInt8 → Option Bool) (x_l : List Str) (R : Bool) (w0 : World) (hG : zr w0) {x_is_f : Nat} {x_is_p x_is_c : Array Value} (x_is_k : zb Tryz.prog x_is_f) (x_is_h : ∀ (y0 : UInt8) (r : Bool) (w : World), zr w → x_is y0 = some r → Calls Tryz.prog x_is_f (x_is_p ++ [zai y0].toArray ++ x_is_c) w fun e w' => e = .returned (.bool r) ∧ Below w.heap.size w w') {x_l_p0 : Option Addr} {x_l_c0 : Nat} (hs0 : zC w0 x_l_p0 (cells zf x_l)) (hc0 : x_l.length ≤ x_l_c0) (hm : zc5 x_is x_l = some R) :
    Calls Tryz.prog 86 #[.func (.func x_is_f) x_is_p x_is_c, .slice x_l_p0 x_l.length x_l_c0] w0 (Ret w0 (fun R => .bool R) R) := by
 rw [zc5] at hm
 have hF : zq [] := ze
 have hO : Dk.Own w0 [] w0 [] := Dk.Own.refl w0
 have hO := hO.addShr hs0 (by simp [Res.shared])
 refine S.enter tb Tryz.func86 rfl Tryz.ntmps86 rfl ?_ hO hm
 refine lv [0, 8, 9] [0] (fun J E L k => ∃ (i3 : Int), J ((10, int i3) :: E) (L) (zct x_is x_l k i3)) rfl (fun _ _ j => ⟨0, j rfl⟩) ?_
 rintro n1 a w ⟨i3, hf, hO, hm⟩
 obtain _ | n1 := n1
 rw [zct] at hm
 cases hm
 rw [zct] at hm
 refine S.co tb ?_ hf hO hm
 refine br rfl (fun hc5 => ?_) fun hc5 => ?_
 refine rw_ rfl fun a w hf hO hm => ?_
 obtain ⟨x7, hx7, hm⟩ := ob hm
 obtain ⟨b8, o9, hix7, hSx7⟩ := zbL (enc := zf) (sz := 1) (xs := x_l) 30 Tryz.underlying30 zdD (by decide) (fun _ => rfl) (hO.sees (i := 0) rfl) hx7
 refine zG (zh hix7 hf rfl rfl) rfl hf rfl rfl fun a hf => ?_
 refine S.op tb ?_ hf hO hm
 refine vl rfl rfl (fun a w hf hO => zk (o := 0) zbx (hSx7 _ (hO.sees (i := 0) rfl)) rfl hf rfl) ?_
 refine lv [0, 6, 8, 9, 10, 15] [0] (fun J E L k => ∃ (i12 : Int), J ((16, int i12) :: E) (L) (zcs (zct x_is x_l n1) x_is i3 x7 k i12)) rfl (fun _ _ j => ⟨0, j rfl⟩) ?_
 rintro n2 a w ⟨i12, hf, hO, hm⟩
 obtain _ | n2 := n2
 rw [zcs] at hm
 cases hm
 rw [zcs] at hm
 refine S.co tb ?_ hf hO hm
 refine br rfl (fun hc14 => ?_) fun hc14 => ?_
 refine bi rfl fun b17 hb17 => ?_
 refine rw_ rfl fun a w hf hO hm => ?_
 obtain ⟨r18, hr18, hm⟩ := ob hm
 refine oc (zux x_is_k hf rfl (vs := [zai b17]) rfl) hf rfl (x_is_h b17 r18 _ (hG.own hF hO) hr18) hO fun a w' hf hO => ?_
 refine S.op tb ?_ hf hO hm
 refine br rfl (fun hc20 => ?_) fun hc20 => ?_
 exact rt Tryz.results86 rfl
 refine bi rfl fun i23 hi23 => ?_
 exact en rfl fun _ _ j => ⟨_, Nat.lt_succ_self _, i23, j rfl⟩
 refine bi rfl fun i25 hi25 => ?_
 exact en rfl fun _ _ j => ⟨_, Nat.lt_succ_self _, i25, j rfl⟩
 exact rt Tryz.results86 rfl

theorem zqB (x_b : UInt8) (R : Int) (w0 : World) (hG : zr w0) (hm : zgh x_b = some R) :
    Calls Tryz.prog 245 #[zai x_b] w0 (Ret w0 (fun R => int R) R) := by
 rw [zgh] at hm
 have hF : zq [] := ze
 have hO : Dk.Own w0 [] w0 [] := Dk.Own.refl w0
 refine S.enter tb Tryz.func245 rfl Tryz.ntmps245 rfl ?_ hO hm
 refine cl zq4 rfl (fun r2 w hr2 hO => zco x_b r2 _ (hG.own hF hO) hr2) fun r2 hr2 => ?_
 refine br rfl (fun hc4 => ?_) fun hc4 => ?_
 refine vl rfl rfl (fun a w hf hO => zqY (b := x_b) (c := 48) hf rfl rfl) ?_
 refine vl rfl rfl (fun a w hf hO => zpy Tryz.underlying3 Tryz.underlying5 (zq3 _) hf (kd := .u8) rfl) ?_
 exact rt Tryz.results245 rfl
 refine cl zuO rfl (fun r7 w hr7 hO => zeZ x_b r7 _ (hG.own hF hO) hr7) fun r7 hr7 => ?_
 refine vl rfl rfl (fun a w hf hO => zqY (b := r7) (c := 97) hf rfl rfl) ?_
 refine vl rfl rfl (fun a w hf hO => zpy Tryz.underlying3 Tryz.underlying5 (zq3 _) hf (kd := .u8) rfl) ?_
 refine bi rfl fun i8 hi8 => ?_
 exact rt Tryz.results245 rfl

theorem zrX (x_s : Str) (x_base : Int) (x_most : Int) (x_is : UInt8 → Option Bool) (R : Int × Int) (w0 : World) (hG : zr w0) {x_is_f : Nat} {x_is_p x_is_c : Array Value} (x_is_k : zb Tryz.prog x_is_f) (x_is_h : ∀ (y0 : UInt8) (r : Bool) (w : World), zr w → x_is y0 = some r → Calls Tryz.prog x_is_f (x_is_p ++ [zai y0].toArray ++ x_is_c) w fun e w' => e = .returned (.bool r) ∧ Below w.heap.size w w') (hm : zho x_s x_base x_most x_is = some R) :
    Calls Tryz.prog 212 #[str x_s, int x_base, int x_most, .func (.func x_is_f) x_is_p x_is_c] w0 (Ret w0 (fun R => .tuple #[int R.1, int R.2]) R) := by
 rw [zho] at hm
 have hF : zq [] := ze
 have hO : Dk.Own w0 [] w0 [] := Dk.Own.refl w0
 refine S.enter tb Tryz.func212 rfl Tryz.ntmps212 rfl ?_ hO hm
 refine jv 1 [0, 1, 2] [] (fun J E L => ∃ (t5 : Bool), J ((21, .bool t5) :: E) (L) (zc7 x_s x_base x_most t5)) rfl ?_ ?_
 refine br rfl (fun hc2 => ?_) fun hc2 => ?_
 exact en rfl fun _ _ j => ⟨true, j rfl⟩
 refine rw_ rfl fun a w hf hO hm => ?_
 refine zt (vs := [(0, str x_s)]) (cs := [str x_s]) (e := 9) (sz := 1) hf rfl rfl (fun w => by kernel_rfl) rfl rfl hO fun a b3 w hf hO => ?_
 refine S.op tb ?_ hf hO hm
 refine kn (b' := false) hc2 rfl ?_
 refine cl ztu rfl (fun r4 w hr4 hO => zdt x_is ([x_s] : List Str) r4 _ (hG.own hF hO) x_is_k x_is_h (hO.rowSees (i := 0) rfl) (hO.rowCap (i := 0) rfl) hr4) fun r4 hr4 => ?_
 exact ec [] rfl rfl rfl fun _ _ j => ⟨!r4, j rfl⟩
 rintro a w ⟨t5, hf, hO, hm⟩
 rw [zc7] at hm
 refine S.co tb ?_ hf hO hm
 refine br rfl (fun hc6 => ?_) fun hc6 => ?_
 exact rt Tryz.results212 rfl
 refine lv [0, 1, 2, 23] [] (fun J E L k => ∃ (i11 : Int) (i12 : Int), J ((10, int i11) :: (24, int i12) :: E) (L) (zaF x_s x_base x_most k i11 i12)) rfl (fun _ _ j => ⟨0, 0, j rfl⟩) ?_
 rintro n2 a w ⟨i11, i12, hf, hO, hm⟩
 obtain _ | n2 := n2
 rw [zaF] at hm
 cases hm
 rw [zaF] at hm
 refine S.co tb ?_ hf hO hm
 refine br rfl (fun hc14 => ?_) fun hc14 => ?_
 refine bi rfl fun b17 hb17 => ?_
 refine cl c_245 rfl (fun r18 w hr18 hO => zqB b17 r18 _ (hG.own hF hO) hr18) fun r18 hr18 => ?_
 refine jv 6 [0, 1, 2, 10, 12, 23, 24] [] (fun J E L => ∃ (t23 : Bool), J ((42, .bool t23) :: E) (L) (zc6 (zaF x_s x_base x_most n2) x_base i11 i12 r18 t23)) rfl ?_ ?_
 refine br rfl (fun hc20 => ?_) fun hc20 => ?_
 exact en rfl fun _ _ j => ⟨true, j rfl⟩
 refine bi rfl fun i21 hi21 => ?_
 refine bi rfl fun i22 hi22 => ?_
 exact en rfl fun _ _ j => ⟨decide (i22 < i11), j rfl⟩
 rintro a w ⟨t23, hf, hO, hm⟩
 rw [zc6] at hm
 refine S.co tb ?_ hf hO hm
 refine br rfl (fun hc24 => ?_) fun hc24 => ?_
 exact rt Tryz.results212 rfl
 refine bi rfl fun i27 hi27 => ?_
 refine bi rfl fun i28 hi28 => ?_
 refine bi rfl fun i30 hi30 => ?_
 exact en rfl fun _ _ j => ⟨_, Nat.lt_succ_self _, i28, i30, j rfl⟩
 exact rt Tryz.results212 rfl

theorem ze6 (x_s : Str) (x_most : Int) (R : Int × Int) (w0 : World) (hG : zr w0) (hm : zbz x_s x_most = some R) :
    Calls Tryz.prog 170 #[str x_s, int x_most] w0 (Ret w0 (fun R => .tuple #[int R.1, int R.2]) R) := by
 rw [zbz] at hm
 have hF : zq [] := ze
 have hO : Dk.Own w0 [] w0 [] := Dk.Own.refl w0
 refine S.enter tb Tryz.func170 rfl Tryz.ntmps170 rfl ?_ hO hm
 refine cl c_212 rfl (fun r2 w hr2 hO => zrX x_s 10 x_most z6 r2 _ (hG.own hF hO) zq4 (fun y0 r w hG h => zhT (zco y0 r w hG h)) hr2) fun r2 hr2 => ?_
 exact rt Tryz.results170 rfl

theorem zm0 (x_n : Int) (x_base : Int) (R : Str) (w0 : World) (hG : zaq w0) (hm : zfR x_n x_base = some R) :
    Calls Tryz.prog 115 #[int x_n, int x_base] w0 (Ret w0 (fun R => str R) R) := by
 rw [zfR] at hm
 have hF : zq [] := ze
 have hO : Dk.Own w0 [] w0 [] := Dk.Own.refl w0
 refine S.enter tb Tryz.func115 rfl Tryz.ntmps115 rfl ?_ hO hm
 refine br rfl (fun hc3 => ?_) fun hc3 => ?_
 exact rt Tryz.results115 rfl
 refine cl c_156 rfl (fun r6 w hr6 hO => znk x_n x_base r6 _ (hG.own hF hO) hr6) fun r6 hr6 => ?_
 exact rt Tryz.results115 rfl

theorem zjU (x_n : Int) (R : Str) (w0 : World) (hG : zaq w0) (hm : zem x_n = some R) :
    Calls Tryz.prog 79 #[int x_n] w0 (Ret w0 (fun R => str R) R) := by
 rw [zem] at hm
 have hF : zq [] := ze
 have hO : Dk.Own w0 [] w0 [] := Dk.Own.refl w0
 refine S.enter tb Tryz.func79 rfl Tryz.ntmps79 rfl ?_ hO hm
 refine cl c_115 rfl (fun r2 w hr2 hO => zm0 x_n 10 r2 _ (hG.own hF hO) hr2) fun r2 hr2 => ?_
 exact rt Tryz.results79 rfl

theorem zli (x_s : Str) (x_most : Int) (R : Bool) (w0 : World) (hG : zaq w0) (hm : zcQ x_s x_most = some R) :
    Calls Tryz.prog 184 #[str x_s, int x_most] w0 (Ret w0 (fun R => .bool R) R) := by
 rw [zcQ] at hm
 have hF : zq [] := ze
 have hO : Dk.Own w0 [] w0 [] := Dk.Own.refl w0
 refine S.enter tb Tryz.func184 rfl Tryz.ntmps184 rfl ?_ hO hm
 refine cl zwN rfl (fun r2 w hr2 hO => ze6 x_s x_most r2 _ (hG.own hF hO).1 hr2) fun r2 hr2 => ?_
 refine jv 0 [] [] (fun J E L => ∃ (t6 : Bool), J ((4, .bool t6) :: E) (L) (zch t6)) rfl ?_ ?_
 refine br rfl (fun hc4 => ?_) fun hc4 => ?_
 refine cl c_79 rfl (fun r5 w hr5 hO => zjU r2.1 r5 _ (hG.own hF hO) hr5) fun r5 hr5 => ?_
 exact en rfl fun _ _ j => ⟨r5 == x_s, j rfl⟩
 exact en rfl fun _ _ j => ⟨false, j rfl⟩
 rintro a w ⟨t6, hf, hO, hm⟩
 rw [zch] at hm
 refine S.co tb ?_ hf hO hm
 exact rt Tryz.results184 rfl

theorem zl2 (x_s : Str) (R : Bool) (w0 : World) (hG : zaq w0) (hm : zeO x_s = some R) :
    Calls Tryz.prog 219 #[str x_s] w0 fun e w' => e = .returned (.bool R) ∧ Below w0.heap.size w0 w' := by
  unfold zeO at hm
  split at hm
  · rename_i hs
    obtain ⟨bs, hbs, hm⟩ := ob hm
    cases hm
    exact zzX (fun x => zcQ x 255) (fun x b W hG h => zli x 255 b W hG h) x_s hs bs hbs w0 hG
  · cases hm

theorem zkN (x_b : UInt8) (R : Bool) (w0 : World) (hG : zr w0) (hm : zcG x_b = some R) :
    Calls Tryz.prog 266 #[zai x_b] w0 (Ret w0 (fun R => .bool R) R) := by
 rw [zcG] at hm
 have hF : zq [] := ze
 have hO : Dk.Own w0 [] w0 [] := Dk.Own.refl w0
 refine S.enter tb Tryz.func266 rfl Tryz.ntmps266 rfl ?_ hO hm
 refine jv 0 [] [] (fun J E L => ∃ (t7 : Bool), J ((2, .bool t7) :: E) (L) (zfe t7)) rfl ?_ ?_
 refine cl zq4 rfl (fun r2 w hr2 hO => zco x_b r2 _ (hG.own hF hO) hr2) fun r2 hr2 => ?_
 refine br rfl (fun hc3 => ?_) fun hc3 => ?_
 exact en rfl fun _ _ j => ⟨true, j rfl⟩
 refine cl zuO rfl (fun r4 w hr4 hO => zeZ x_b r4 _ (hG.own hF hO) hr4) fun r4 hr4 => ?_
 refine vl rfl rfl (fun a w hf hO => zml (b := r4) (c := 97) hf rfl rfl) ?_
 refine br rfl (fun hc5 => ?_) fun hc5 => ?_
 refine cl zuO rfl (fun r6 w hr6 hO => zeZ x_b r6 _ (hG.own hF hO) hr6) fun r6 hr6 => ?_
 refine vl rfl rfl (fun a w hf hO => zoz (b := r6) (c := 102) hf rfl rfl) ?_
 exact en rfl fun _ _ j => ⟨decide (r6 ≤ 102), j rfl⟩
 exact en rfl fun _ _ j => ⟨false, j rfl⟩
 rintro a w ⟨t7, hf, hO, hm⟩
 rw [zfe] at hm
 refine S.co tb ?_ hf hO hm
 exact rt Tryz.results266 rfl

theorem zhG (x_s : Str) (x_last : Bool) (R : Int) (w0 : World) (hG : zaq w0) (hm : zcm x_s x_last = some R) :
    Calls Tryz.prog 247 #[str x_s, .bool x_last] w0 (Ret w0 (fun R => int R) R) := by
 rw [zcm] at hm
 have hF : zq [] := ze
 have hO : Dk.Own w0 [] w0 [] := Dk.Own.refl w0
 refine S.enter tb Tryz.func247 rfl Tryz.ntmps247 rfl ?_ hO hm
 refine br rfl (fun hc3 => ?_) fun hc3 => ?_
 exact rt Tryz.results247 rfl
 refine cm2 c_199 rfl (fun r6 w hr6 hO => zlP x_s [58] r6 _ (hG.own hF hO).1 hr6) fun r6 hr6 p7 c8 => ?_
 refine lv [1, 5, 13, 14] [0] (fun J E L k => ∃ (i12 : Int) (i13 : Int), J ((6, int i12) :: (15, int i13) :: E) (L) (zI x_last r6 k i12 i13)) rfl (fun _ _ j => ⟨0, 0, j rfl⟩) ?_
 rintro n1 a w ⟨i12, i13, hf, hO, hm⟩
 obtain _ | n1 := n1
 rw [zI] at hm
 cases hm
 rw [zI] at hm
 refine S.co tb ?_ hf hO hm
 refine br rfl (fun hc15 => ?_) fun hc15 => ?_
 refine jv 3 [1, 5, 13, 14, 15] [0] (fun J E L => ∃ (i36 : Int), J ((6, int i36) :: E) (L) (zbN (zI x_last r6 n1) i13 i36)) rfl ?_ ?_
 refine rw_ rfl fun a w hf hO hm => ?_
 obtain ⟨x17, hx17, hm⟩ := ob hm
 obtain ⟨b18, o19, hix17, hSx17, hAx17⟩ := zE (enc := zf) (sz := 1) (xs := r6) 30 Tryz.underlying30 zdD (by decide) (fun _ => rfl) hO (i := 0) rfl hx17
 refine zG (zh hix17 hf rfl rfl) rfl hf rfl rfl fun a hf => ?_
 refine S.op tb ?_ hf hO hm
 refine vl rfl rfl (fun a w hf hO => zk (o := 0) zbx (hSx17 _ (hO.rowSees (i := 0) rfl)) rfl hf rfl) ?_
 refine jv 6 [1, 5, 6, 8, 13, 14, 15] [0] (fun J E L => ∃ (t25 : Bool), J ((20, .bool t25) :: E) (L) (za6 (zI x_last r6 n1) i12 i13 x17 t25)) rfl ?_ ?_
 refine br rfl (fun hc21 => ?_) fun hc21 => ?_
 refine bi rfl fun i22 hi22 => ?_
 refine br rfl (fun hc23 => ?_) fun hc23 => ?_
 refine cl c_219 rfl (fun r24 w hr24 hO => zl2 x17 r24 _ (hG.own hF hO) hr24) fun r24 hr24 => ?_
 exact en rfl fun _ _ j => ⟨r24, j rfl⟩
 exact en rfl fun _ _ j => ⟨false, j rfl⟩
 exact en rfl fun _ _ j => ⟨false, j rfl⟩
 rintro a w ⟨t25, hf, hO, hm⟩
 rw [za6] at hm
 refine S.co tb ?_ hf hO hm
 refine br rfl (fun hc26 => ?_) fun hc26 => ?_
 refine bi rfl fun i27 hi27 => ?_
 exact en rfl fun _ _ j => ⟨i27, j rfl⟩
 refine jv 6 [1, 5, 6, 13, 14, 15] [0] (fun J E L => ∃ (t32 : Bool), J ((35, .bool t32) :: E) (L) (za5 (zI x_last r6 n1) i12 i13 t32)) rfl ?_ ?_
 refine br rfl (fun hc28 => ?_) fun hc28 => ?_
 refine br rfl (fun hc29 => ?_) fun hc29 => ?_
 refine rw_ rfl fun a w hf hO hm => ?_
 refine zt (vs := [(0, str x17)]) (cs := [str x17]) (e := 9) (sz := 1) hf rfl rfl (fun w => by kernel_rfl) rfl rfl hO fun a b30 w hf hO => ?_
 refine S.op tb ?_ hf hO hm
 refine kn (b' := true) hc29 rfl ?_
 refine cl ztu rfl (fun r31 w hr31 hO => zdt zcG ([x17] : List Str) r31 _ (hG.own hF hO).1 zy8 (fun y0 r w hG h => zhT (zkN y0 r w hG h)) (hO.rowSees (i := 0) rfl) (hO.rowCap (i := 0) rfl) hr31) fun r31 hr31 => ?_
 exact ec [1] rfl rfl rfl fun _ _ j => ⟨r31, j rfl⟩
 exact en rfl fun _ _ j => ⟨false, j rfl⟩
 exact en rfl fun _ _ j => ⟨false, j rfl⟩
 rintro a w ⟨t32, hf, hO, hm⟩
 rw [za5] at hm
 refine S.co tb ?_ hf hO hm
 refine br rfl (fun hc33 => ?_) fun hc33 => ?_
 refine bi rfl fun i34 hi34 => ?_
 exact en rfl fun _ _ j => ⟨i34, j rfl⟩
 exact rt Tryz.results247 rfl
 rintro a w ⟨i36, hf, hO, hm⟩
 rw [zbN] at hm
 refine S.co tb ?_ hf hO hm
 refine bi rfl fun i37 hi37 => ?_
 exact en rfl fun _ _ j => ⟨_, Nat.lt_succ_self _, i36, i37, j rfl⟩
 exact rt Tryz.results247 rfl

end Go.Proofs
end
section
set_option linter.unusedVariables false
set_option maxHeartbeats 1000000
set_option linter.unusedSimpArgs false
set_option maxRecDepth 100000
namespace Go.Proofs
open Go.Dk Go.Dm Go.RowKit

theorem zrr (x_s : Str) (R : Bool) (w0 : World) (hG : zaq w0) (hm : zfS x_s = some R) :
    Calls Tryz.prog 218 #[str x_s] w0 (Ret w0 (fun R => .bool R) R) := by
 rw [zfS] at hm
 have hF : zq [] := ze
 have hO : Dk.Own w0 [] w0 [] := Dk.Own.refl w0
 refine S.enter tb Tryz.func218 rfl Tryz.ntmps218 rfl ?_ hO hm
 refine cl zwM rfl (fun r2 w hr2 hO => zim x_s [58, 58] r2 _ (hG.own hF hO).1 hr2) fun r2 hr2 => ?_
 refine br rfl (fun hc5 => ?_) fun hc5 => ?_
 refine cl zy7 rfl (fun r6 w hr6 hO => zhG x_s true r6 _ (hG.own hF hO) hr6) fun r6 hr6 => ?_
 exact rt Tryz.results218 rfl
 refine cl zy7 rfl (fun r9 w hr9 hO => zhG r2.1 false r9 _ (hG.own hF hO) hr9) fun r9 hr9 => ?_
 refine cl zy7 rfl (fun r10 w hr10 hO => zhG r2.2.1 true r10 _ (hG.own hF hO) hr10) fun r10 hr10 => ?_
 refine jv 0 [] [] (fun J E L => ∃ (t15 : Bool), J ((2, .bool t15) :: E) (L) (zbA t15)) rfl ?_ ?_
 refine br rfl (fun hc12 => ?_) fun hc12 => ?_
 refine br rfl (fun hc13 => ?_) fun hc13 => ?_
 refine bi rfl fun i14 hi14 => ?_
 exact en rfl fun _ _ j => ⟨decide (i14 ≤ 7), j rfl⟩
 exact en rfl fun _ _ j => ⟨false, j rfl⟩
 exact en rfl fun _ _ j => ⟨false, j rfl⟩
 rintro a w ⟨t15, hf, hO, hm⟩
 rw [zbA] at hm
 refine S.co tb ?_ hf hO hm
 exact rt Tryz.results218 rfl

theorem zn7 (x_s : Str) (R : Bool) (w0 : World) (hG : zr w0) (hm : zfT x_s = some R) :
    Calls Tryz.prog 249 #[str x_s] w0 (Ret w0 (fun R => .bool R) R) := by
 rw [zfT] at hm
 have hF : zq [] := ze
 have hO : Dk.Own w0 [] w0 [] := Dk.Own.refl w0
 refine S.enter tb Tryz.func249 rfl Tryz.ntmps249 rfl ?_ hO hm
 refine jv 0 [] [] (fun J E L => ∃ (t8 : Bool), J ((2, .bool t8) :: E) (L) (zad t8)) rfl ?_ ?_
 refine br rfl (fun hc2 => ?_) fun hc2 => ?_
 refine bi rfl fun b3 hb3 => ?_
 refine vl rfl rfl (fun a w hf hO => zz (b := b3) (c := 37) hf rfl rfl) ?_
 refine br rfl (fun hc4 => ?_) fun hc4 => ?_
 refine bi rfl fun s5 hs5 => ?_
 refine rw_ rfl fun a w hf hO hm => ?_
 refine zt (vs := [(0, str s5)]) (cs := [str s5]) (e := 9) (sz := 1) hf rfl rfl (fun w => by kernel_rfl) rfl rfl hO fun a b6 w hf hO => ?_
 refine S.op tb ?_ hf hO hm
 refine kn (b' := true) hc4 rfl ?_
 refine cl ztu rfl (fun r7 w hr7 hO => zdt zcG ([s5] : List Str) r7 _ (hG.own hF hO) zy8 (fun y0 r w hG h => zhT (zkN y0 r w hG h)) (hO.rowSees (i := 0) rfl) (hO.rowCap (i := 0) rfl) hr7) fun r7 hr7 => ?_
 exact ec [] rfl rfl rfl fun _ _ j => ⟨r7, j rfl⟩
 exact en rfl fun _ _ j => ⟨false, j rfl⟩
 exact en rfl fun _ _ j => ⟨false, j rfl⟩
 rintro a w ⟨t8, hf, hO, hm⟩
 rw [zad] at hm
 refine S.co tb ?_ hf hO hm
 exact rt Tryz.results249 rfl

theorem ziz (x_b : UInt8) (R : Bool) (w0 : World) (hG : zr w0) (hm : zbO x_b = some R) :
    Calls Tryz.prog 250 #[zai x_b] w0 (Ret w0 (fun R => .bool R) R) := by
 rw [zbO] at hm
 have hF : zq [] := ze
 have hO : Dk.Own w0 [] w0 [] := Dk.Own.refl w0
 refine S.enter tb Tryz.func250 rfl Tryz.ntmps250 rfl ?_ hO hm
 refine jv 0 [] [] (fun J E L => ∃ (t7 : Bool), J ((2, .bool t7) :: E) (L) (zbI t7)) rfl ?_ ?_
 refine cl c_174 rfl (fun r2 w hr2 hO => zl0 x_b r2 _ (hG.own hF hO) hr2) fun r2 hr2 => ?_
 refine br rfl (fun hc3 => ?_) fun hc3 => ?_
 exact en rfl fun _ _ j => ⟨true, j rfl⟩
 refine cl zq4 rfl (fun r4 w hr4 hO => zco x_b r4 _ (hG.own hF hO) hr4) fun r4 hr4 => ?_
 refine br rfl (fun hc5 => ?_) fun hc5 => ?_
 exact en rfl fun _ _ j => ⟨true, j rfl⟩
 refine cl zwO rfl (fun r6 w hr6 hO => zkp x_b [45, 46, 95, 126] r6 _ (hG.own hF hO) hr6) fun r6 hr6 => ?_
 exact en rfl fun _ _ j => ⟨r6, j rfl⟩
 rintro a w ⟨t7, hf, hO, hm⟩
 rw [zbI] at hm
 refine S.co tb ?_ hf hO hm
 exact rt Tryz.results250 rfl

theorem znH (x_b : UInt8) (R : Bool) (w0 : World) (hG : zr w0) (hm : zgR x_b = some R) :
    Calls Tryz.prog 251 #[zai x_b] w0 (Ret w0 (fun R => .bool R) R) := by
 rw [zgR] at hm
 have hF : zq [] := ze
 have hO : Dk.Own w0 [] w0 [] := Dk.Own.refl w0
 refine S.enter tb Tryz.func251 rfl Tryz.ntmps251 rfl ?_ hO hm
 refine cl zwO rfl (fun r2 w hr2 hO => zkp x_b [33, 36, 38, 39, 40, 41, 42, 43, 44, 59, 61] r2 _ (hG.own hF hO) hr2) fun r2 hr2 => ?_
 exact rt Tryz.results251 rfl

theorem zqv (x_s : Str) (R : Bool) (w0 : World) (hG : zr w0) (hm : zgi x_s = some R) :
    Calls Tryz.prog 220 #[str x_s] w0 (Ret w0 (fun R => .bool R) R) := by
 rw [zgi] at hm
 have hF : zq [] := ze
 have hO : Dk.Own w0 [] w0 [] := Dk.Own.refl w0
 refine S.enter tb Tryz.func220 rfl Tryz.ntmps220 rfl ?_ hO hm
 refine br rfl (fun hc3 => ?_) fun hc3 => ?_
 exact rt Tryz.results220 rfl
 refine lv [] [] (fun J E L k => ∃ (s6 : Str), J ((0, str s6) :: E) (L) (zau k s6)) rfl (fun _ _ j => ⟨x_s, j rfl⟩) ?_
 rintro n1 a w ⟨s6, hf, hO, hm⟩
 obtain _ | n1 := n1
 rw [zau] at hm
 cases hm
 rw [zau] at hm
 refine S.co tb ?_ hf hO hm
 refine br rfl (fun hc8 => ?_) fun hc8 => ?_
 refine cl c_249 rfl (fun r10 w hr10 hO => zn7 s6 r10 _ (hG.own hF hO) hr10) fun r10 hr10 => ?_
 refine br rfl (fun hc12 => ?_) fun hc12 => ?_
 refine bi rfl fun s13 hs13 => ?_
 exact en rfl fun _ _ j => ⟨_, Nat.lt_succ_self _, s13, j rfl⟩
 refine jv 5 [0] [] (fun J E L => ∃ (t19 : Bool), J ((12, .bool t19) :: E) (L) (zdU (zau n1) s6 t19)) rfl ?_ ?_
 refine bi rfl fun b14 hb14 => ?_
 refine cl c_250 rfl (fun r15 w hr15 hO => ziz b14 r15 _ (hG.own hF hO) hr15) fun r15 hr15 => ?_
 refine br rfl (fun hc16 => ?_) fun hc16 => ?_
 exact en rfl fun _ _ j => ⟨true, j rfl⟩
 refine bi rfl fun b17 hb17 => ?_
 refine cl c_251 rfl (fun r18 w hr18 hO => znH b17 r18 _ (hG.own hF hO) hr18) fun r18 hr18 => ?_
 exact en rfl fun _ _ j => ⟨r18, j rfl⟩
 rintro a w ⟨t19, hf, hO, hm⟩
 rw [zdU] at hm
 refine S.co tb ?_ hf hO hm
 refine br rfl (fun hc20 => ?_) fun hc20 => ?_
 refine bi rfl fun s21 hs21 => ?_
 exact en rfl fun _ _ j => ⟨_, Nat.lt_succ_self _, s21, j rfl⟩
 exact rt Tryz.results220 rfl
 exact rt Tryz.results220 rfl

theorem znI (x_s : Str) (R : api_Host × Bool) (w0 : World) (hG : zaq w0) (hm : zgS x_s = some R) :
    Calls Tryz.prog 183 #[str x_s] w0 (Ret w0 (fun R => .tuple #[.agg #[int R.1.Kind, str R.1.Name, int R.1.Port], .bool R.2]) R) := by
 rw [zgS] at hm
 have hF : zq [] := ze
 have hO : Dk.Own w0 [] w0 [] := Dk.Own.refl w0
 refine S.enter tb Tryz.func183 rfl Tryz.ntmps183 rfl ?_ hO hm
 refine al zhg rfl fun b1 => ?_
 refine vl rfl rfl (fun a w hf hO => zg (vs := [(1, str x_s), (2, int (-1))]) (v := .agg #[int 0, str x_s, int (-1)]) hf rfl (by kernel_rfl)) ?_
 refine al zhg rfl fun b3 => ?_
 refine st 0 rfl rfl ?_
 refine jv 0 [2, 4] [1] (fun J E L => ∃ (i24 : Int) (s25 : Str), J (E) (.blk b3 [int i24, str s25, int (-1)] 175 :: L) (zcR i24 s25)) rfl ?_ ?_
 refine jv 2 [0, 2, 4] [0, 1] (fun J E L => ∃ (t14 : Bool), J ((7, .bool t14) :: E) (L) (zb2 x_s t14)) rfl ?_ ?_
 refine br rfl (fun hc5 => ?_) fun hc5 => ?_
 refine bi rfl fun b6 hb6 => ?_
 refine vl rfl rfl (fun a w hf hO => zz (b := b6) (c := 91) hf rfl rfl) ?_
 refine br rfl (fun hc7 => ?_) fun hc7 => ?_
 refine bi rfl fun i8 hi8 => ?_
 refine bi rfl fun b9 hb9 => ?_
 refine vl rfl rfl (fun a w hf hO => zz (b := b9) (c := 93) hf rfl rfl) ?_
 refine br rfl (fun hc10 => ?_) fun hc10 => ?_
 refine bi rfl fun i11 hi11 => ?_
 refine bi rfl fun s12 hs12 => ?_
 refine cl c_218 rfl (fun r13 w hr13 hO => zrr s12 r13 _ (hG.own hF hO) hr13) fun r13 hr13 => ?_
 exact en rfl fun _ _ j => ⟨r13, j rfl⟩
 exact en rfl fun _ _ j => ⟨false, j rfl⟩
 exact en rfl fun _ _ j => ⟨false, j rfl⟩
 exact en rfl fun _ _ j => ⟨false, j rfl⟩
 rintro a w ⟨t14, hf, hO, hm⟩
 rw [zb2] at hm
 refine S.co tb ?_ hf hO hm
 refine br rfl (fun hc15 => ?_) fun hc15 => ?_
 refine rc_ rfl fun a w hf hO hm => ?_
 obtain ⟨i16, hi16, hm⟩ := ob hm
 obtain ⟨s17, hs17, hm⟩ := ob hm
 refine dS (S := Unit) [(0, str x_s), (2, ptr b1 0), (4, ptr b3 0)] (fun _ => (fun (q0 : Res) => [[.blk b3 [int 0, str x_s, int (-1)] 175, q0], [.blk b3 [int 3, str x_s, int (-1)] 175, q0], [.blk b3 [int 3, str s17, int (-1)] 175, q0]]) (.blk b1 [int 0, str [], int 0] 175)) (fun σ => [⟨[(0, str x_s)], some (32, str x_s)⟩, ⟨[(0, str x_s)], some (33, str x_s)⟩, ⟨[(33, str x_s)], some (34, int (x_s.length : Int))⟩, ⟨[(34, int (x_s.length : Int))], some (35, int i16)⟩, ⟨[(32, str x_s), (35, int i16)], some (36, str s17)⟩, ⟨[(4, ptr b3 0)], some (37, ptr b3 0)⟩, ⟨[(37, ptr b3 0)], none⟩, ⟨[(4, ptr b3 0)], some (38, ptr b3 1)⟩, ⟨[(36, str s17), (38, ptr b3 1)], none⟩]) () [6, 8] hO hf ⟨sE tb, sE tb, sE tb, sP (fun hf => ztq hf rfl rfl hi16), sP (fun hf => zmn (l := x_s) Tryz.underlying9 hf rfl rfl rfl hs17), sE tb, sK 0 (@fun σ w hO => match zpL (x := (.tmp 37)) (y := (.const (int 3))) (E := [(37, ptr b3 0)]) (i := 0) (o := 0) (v := int 3) zyV rfl rfl rfl rfl hO rfl rfl with | ⟨w', hO', hr⟩ => vR (σ := σ) () hO' hr), sE tb, sK 1 (@fun σ w hO => match zpL (x := (.tmp 38)) (y := (.tmp 36)) (E := [(36, str s17), (38, ptr b3 1)]) (i := 0) (o := 1) (v := str s17) zdD rfl rfl rfl rfl hO rfl rfl with | ⟨w', hO', hr⟩ => vR (σ := σ) () hO' hr), trivial⟩ ?_
 rintro _ a w hf hO
 have hO : Dk.Own w0 [] w _ := hO
 have hf : Fits 51 [(2, ptr b1 0), (4, ptr b3 0)] a := (hf.cons rfl (hf.cons rfl hf.nil))
 refine S.no tb ?_ hf hO hm
 exact en rfl fun _ _ j => ⟨3, s17, j rfl⟩
 refine cl c_219 rfl (fun r18 w hr18 hO => zl2 x_s r18 _ (hG.own hF hO) hr18) fun r18 hr18 => ?_
 refine br rfl (fun hc20 => ?_) fun hc20 => ?_
 refine st 0 rfl rfl ?_
 exact en rfl fun _ _ j => ⟨2, x_s, j rfl⟩
 refine cl c_220 rfl (fun r21 w hr21 hO => zqv x_s r21 _ (hG.own hF hO).1 hr21) fun r21 hr21 => ?_
 refine br rfl (fun hc23 => ?_) fun hc23 => ?_
 refine st 0 rfl rfl ?_
 exact en rfl fun _ _ j => ⟨1, x_s, j rfl⟩
 exact en rfl fun _ _ j => ⟨0, x_s, j rfl⟩
 rintro a w ⟨i24, s25, hf, hO, hm⟩
 rw [zcR] at hm
 refine S.co tb ?_ hf hO hm
 refine rc_ rfl fun a w hf hO hm => ?_
 refine dS (S := Unit) [(2, ptr b1 0), (4, ptr b3 0)] (fun _ => (fun (q0 : Res) => [[q0, .blk b1 [int 0, str [], int 0] 175], [q0, .blk b1 [int i24, str s25, int (-1)] 175]]) (.blk b3 [int i24, str s25, int (-1)] 175)) (fun σ => [⟨[(4, ptr b3 0)], some (47, .agg #[int i24, str s25, int (-1)])⟩, ⟨[(4, ptr b3 0)], some (48, ptr b3 0)⟩, ⟨[(48, ptr b3 0)], some (49, int i24)⟩, ⟨[(49, int i24)], some (50, .bool (!(i24 == 0)))⟩, ⟨[(2, ptr b1 0), (47, .agg #[int i24, str s25, int (-1)])], none⟩, ⟨[(50, .bool (!(i24 == 0)))], some (3, .bool (!(i24 == 0)))⟩]) () [4] hO hf ⟨sD tb 0 [0], sE tb, sD tb 0 [0, 0], sE tb, sK 0 (@fun σ w hO => match zg5 (x := (.tmp 2)) (y := (.tmp 47)) (E := [(2, ptr b1 0), (47, .agg #[int i24, str s25, int (-1)])]) (i := 1) (n := 3) (vs := [int i24, str s25, int (-1)]) zgF rfl rfl rfl (by simp [Value.oneCell']) hO rfl rfl with | ⟨w', hO', hr⟩ => vR (σ := σ) () hO' hr), sE tb, trivial⟩ ?_
 rintro _ a w hf hO
 have hO : Dk.Own w0 [] w _ := hO
 have hf : Fits 51 [(2, ptr b1 0), (3, .bool (!(i24 == 0)))] a := (hf.cons rfl (hf.cons rfl hf.nil))
 refine S.no tb ?_ hf hO hm
 refine re_ rfl fun a w hf hO hm => ?_
 obtain rfl := Option.some.inj hm
 exact zc Tryz.results183 hf (.cell rfl (zd (n := 3) (vs := [int i24, str s25, int (-1)]) zhf zgF rfl ((hO.blkSees (i := 1) rfl).cells (o := 0) (n := 3) rfl)) (.tmp rfl .nil)) ⟨rfl, hO.below⟩

theorem zhY (x_s : Str) (R : api_Host × Int) (w0 : World) (hG : zaq w0) (hm : zcS x_s = some R) :
    Calls Tryz.prog 134 #[str x_s] w0 (Ret w0 (fun R => .tuple #[.agg #[int R.1.Kind, str R.1.Name, int R.1.Port], int R.2]) R) := by
 rw [zcS] at hm
 have hF : zq [] := ze
 have hO : Dk.Own w0 [] w0 [] := Dk.Own.refl w0
 refine S.enter tb Tryz.func134 rfl Tryz.ntmps134 rfl ?_ hO hm
 refine al zhg rfl fun b1 => ?_
 refine cl c_183 rfl (fun r3 w hr3 hO => znI x_s r3 _ (hG.own hF hO) hr3) fun r3 hr3 => ?_
 refine al zhg rfl fun b4 => ?_
 refine st 0 rfl rfl ?_
 refine br rfl (fun hc7 => ?_) fun hc7 => ?_
 refine ld 0 rfl rfl ?_
 refine st 1 rfl rfl ?_
 refine re_ rfl fun a w hf hO hm => ?_
 obtain rfl := Option.some.inj hm
 exact zc Tryz.results134 hf (.cell rfl (zd (n := 3) (vs := [int r3.1.Kind, str r3.1.Name, int r3.1.Port]) zhf zgF rfl ((hO.blkSees (i := 1) rfl).cells (o := 0) (n := 3) rfl)) (.tmp rfl .nil)) ⟨rfl, hO.below⟩
 refine cl c_159 rfl (fun r10 w hr10 hO => zg6 x_s 58 r10 _ (hG.own hF hO).1 hr10) fun r10 hr10 => ?_
 refine br rfl (fun hc13 => ?_) fun hc13 => ?_
 refine vl rfl rfl (fun a w hf hO => zg (vs := []) (v := .agg #[int 0, str [], int 0]) hf rfl (by kernel_rfl)) ?_
 refine st 1 rfl rfl ?_
 refine re_ rfl fun a w hf hO hm => ?_
 obtain rfl := Option.some.inj hm
 exact zc Tryz.results134 hf (.cell rfl (zd (n := 3) (vs := [int 0, str [], int 0]) zhf zgF rfl ((hO.blkSees (i := 1) rfl).cells (o := 0) (n := 3) rfl)) (.tmp rfl .nil)) ⟨rfl, hO.below⟩
 refine bi rfl fun s16 hs16 => ?_
 refine cl c_183 rfl (fun r17 w hr17 hO => znI s16 r17 _ (hG.own hF hO) hr17) fun r17 hr17 => ?_
 refine al zhg rfl fun b18 => ?_
 refine st 0 rfl rfl ?_
 refine jv 1 [0, 2, 6, 7] [0, 1, 2] (fun J E L => ∃ (t24 : Bool), J ((37, .bool t24) :: E) (L) (zdi x_s r10 r17 t24)) rfl ?_ ?_
 refine br rfl (fun hc20 => ?_) fun hc20 => ?_
 exact en rfl fun _ _ j => ⟨true, j rfl⟩
 refine bi rfl fun i21 hi21 => ?_
 refine bi rfl fun s22 hs22 => ?_
 refine cl c_184 rfl (fun r23 w hr23 hO => zli s22 65535 r23 _ (hG.own hF hO) hr23) fun r23 hr23 => ?_
 exact en rfl fun _ _ j => ⟨!r23, j rfl⟩
 rintro a w ⟨t24, hf, hO, hm⟩
 rw [zdi] at hm
 refine S.co tb ?_ hf hO hm
 refine br rfl (fun hc25 => ?_) fun hc25 => ?_
 refine vl rfl rfl (fun a w hf hO => zg (vs := []) (v := .agg #[int 0, str [], int 0]) hf rfl (by kernel_rfl)) ?_
 refine st 2 rfl rfl ?_
 refine re_ rfl fun a w hf hO hm => ?_
 obtain rfl := Option.some.inj hm
 exact zc Tryz.results134 hf (.cell rfl (zd (n := 3) (vs := [int 0, str [], int 0]) zhf zgF rfl ((hO.blkSees (i := 2) rfl).cells (o := 0) (n := 3) rfl)) (.tmp rfl .nil)) ⟨rfl, hO.below⟩
 refine bi rfl fun i28 hi28 => ?_
 refine bi rfl fun s29 hs29 => ?_
 refine cl zwN rfl (fun r30 w hr30 hO => ze6 s29 65535 r30 _ (hG.own hF hO).1 hr30) fun r30 hr30 => ?_
 refine st 0 rfl rfl ?_
 refine ld 0 rfl rfl ?_
 refine st 2 rfl rfl ?_
 refine re_ rfl fun a w hf hO hm => ?_
 obtain rfl := Option.some.inj hm
 exact zc Tryz.results134 hf (.cell rfl (zd (n := 3) (vs := [int r17.1.Kind, str r17.1.Name, int r30.1]) zhf zgF rfl ((hO.blkSees (i := 2) rfl).cells (o := 0) (n := 3) rfl)) (.tmp rfl .nil)) ⟨rfl, hO.below⟩

set_option maxHeartbeats 4000000 in
set_option maxRecDepth 100000 in
theorem zxk (s : ByteArray) (R : Str) (w0 : World) (hG : zr w0) (hsz : s.size < 4294967281) (hm : s.data.toList.mapM zaO = some R)
    (hlow : ∀ b c w, zaO b = some c → zr w → Calls Tryz.prog 213 #[.int .u8 (b.toNat : Int)] w fun e w' => e = .returned (.int .u8 (c.toNat : Int)) ∧ Below w.heap.size w w') :
    Calls Tryz.prog 217 #[.string s] w0 fun e w' => e = .returned (.string ⟨R.toArray⟩) ∧ Below w0.heap.size w0 w' := by
  obtain ⟨hlen, hat⟩ := mapM_at hm
  have HL : Aside (R.length = s.size) := hlen.trans (Lib.size_eq s).symm
  have HT : Aside (∀ (i : Nat) (a : UInt8), s.data.toList[i]? = some a → ∃ b, R[i]? = some b ∧ zaO a = some b) := hat
  clear hlen hat hm
  have hcv := fun w => run_bytes_of_string (P := Tryz.prog) w 9 141 5 s Tryz.underlying9 Tryz.underlying141 Tryz.underlying5
  go_enter Tryz.func217, Tryz.ntmps217
  go_wp2
  go_loopg [4, 5, 10] s.size (fun g _ _ v wx => ∃ i : Nat, i + g = s.size ∧ v = .int .i64 (i : Int) ∧ Below w0.heap.size w0 wx ∧ ∃ (cur : Array Value) (fz : Nat × Nat), wx.heap[w0.heap.size]? = some (.cells cur 5 fz) ∧ cur.size ≤ fz.1 ∧ s.size ≤ cur.size ∧ ∀ j, j < s.size → cur[j]? = ((if j < i then R[j]? else s.data.toList[j]?).map zai))
  case atStart =>
    have hrow : (bytesRow s (grownCap w0 s.size 0 5)).size = s.size + (grownCap w0 s.size 0 5 - s.size) := by
      have := Lib.size_eq s
      unfold bytesRow
      rw [Array.size_append, Array.size_map, Array.size_replicate]
      rfl
    refine ⟨0, by omega, rfl, ((Below.refl _ _).alloc (Nat.le_refl _) _).drew, _, _, zoY _, Nat.le_refl _, ?_, fun j hj => ?_⟩
    · omega
    · rw [if_neg (by omega)]
      unfold bytesRow
      rw [Array.getElem?_append_left (by simp [← Lib.size_eq]; exact hj), Array.getElem?_map]
      congr 1
      exact (Array.getElem?_toList ..).symm
  case round =>
    obtain ⟨i, hig, rfl, hB, cur, fz, hcur, hfz, hsc, hcell⟩ := hrel
    have HG : Aside (zr wr) := hG.own ze ((Dk.Own.refl w0).grow hB)
    have HB : Aside (Below w0.heap.size w0 wr) := hB
    have HC : Aside (wr.heap[w0.heap.size]? = some (.cells cur 5 fz)) := hcur
    have HF : Aside (cur.size ≤ fz.1 ∧ s.size ≤ cur.size) := ⟨hfz, hsc⟩
    have HX : Aside (∀ j, j < s.size → cur[j]? = ((if j < i then R[j]? else s.data.toList[j]?).map zai)) := hcell
    clear hB hcell hfz hsc hcur
    by_cases hi : i < s.size
    · obtain ⟨x, hx⟩ : ∃ x, s.data.toList[i]? = some x := ⟨_, Lib.data_getElem? s i hi⟩
      obtain ⟨y, hyR, hy⟩ := HT.out i x hx
      have hcx : wr.cell? ⟨w0.heap.size, i, none⟩ = some (.int .u8 (x.toNat : Int)) := by
        have := HX.out i hi
        rw [if_neg (by omega), hx] at this
        simp [World.cell?, HC.out, this]
      have hfr : wr.frozen? ⟨w0.heap.size, i, none⟩ = false := by
        have := HF.out
        simp [World.frozen?, HC.out]; omega
      have hii : (i : Int) < (s.size : Int) := by omega
      have HY : Aside (R[i]? = some y) := hyR
      have HO : Aside (zaO x = some y) := hy
      clear hyR hy hx
      go_wp2_with (go_at_call 213; refine (hlow x y _ HO.out HG.out).mono ?_; rintro e w' ⟨rfl, hb⟩; have hcx' : w'.cell? ⟨w0.heap.size, i, none⟩ = some (.int .u8 (x.toNat : Int)) := (hb.cell (p := ⟨w0.heap.size, i, none⟩) (Array.getElem?_eq_some_iff.1 HC.out).1).trans hcx; have hfr' : w'.frozen? ⟨w0.heap.size, i, none⟩ = false := (hb.frozen (p := ⟨w0.heap.size, i, none⟩) (Array.getElem?_eq_some_iff.1 HC.out).1).trans hfr)
      go_roundg (gk - 1)
      case measure => omega
      case rel =>
        have hlt := (Array.getElem?_eq_some_iff.1 HC.out).1
        have hcw : w'.heap[w0.heap.size]? = some (.cells cur 5 fz) := (hb.block _ hlt).trans HC.out
        refine ⟨i + 1, by omega, rfl, ?_, cur.setIfInBounds i (.int .u8 (y.toNat : Int)), fz, ?_, ?_, ?_, fun j hj => ?_⟩
        · exact (HB.out.trans (hb.mono HB.out.size)).setCell (p := ⟨w0.heap.size, i, none⟩) (Nat.le_refl _) _
        · simp [World.setCell, Array.getElem?_modify, hcw]
        · have := HF.out; simp; omega
        · have := HF.out; simp; omega
        · by_cases hji : j = i
          · subst hji
            have := HF.out
            rw [if_pos (by omega), HY.out, Array.getElem?_setIfInBounds_self_of_lt (by omega)]
            rfl
          · rw [Array.getElem?_setIfInBounds_ne (Ne.symm hji), HX.out j hj]
            by_cases h2 : j < i
            · rw [if_pos h2, if_pos (by omega)]
            · rw [if_neg h2, if_neg (by omega)]
    · have hsi : i = s.size := by omega
      have hbk : ∀ w, wr.heap = w.heap → (convert 141 9 (.slice (some ⟨w0.heap.size, 0, none⟩) s.size (grownCap w0 s.size 0 5))).run Tryz.prog w = .ok (.string ⟨R.toArray⟩) w := by
        intro w hw
        have := run_convert_bytes_back (P := Tryz.prog) w 141 9 5 ⟨w0.heap.size, 0, none⟩ (grownCap w0 s.size 0 5) R Tryz.underlying141 Tryz.underlying5 Tryz.underlying9 (fun j hj => by
          have hjs : j < s.size := by rw [← HL.out]; exact hj
          have h1 := HX.out j hjs
          rw [if_pos (by omega), List.getElem?_eq_getElem hj] at h1
          rw [zxL]
          simp [World.cell?, ← hw, HC.out, h1])
        rw [HL.out] at this
        exact this
      have hni : ¬ ((i : Int) < (s.size : Int)) := by omega
      have hbk1 := hbk wr rfl
      go_wp2
      go_ret
      exact ⟨rfl, HB.out⟩

theorem zlz (x_s : Str) (R : Str) (w0 : World) (hG : zr w0) (hm : zgJ x_s = some R) :
    Calls Tryz.prog 217 #[str x_s] w0 fun e w' => e = .returned (str R) ∧ Below w0.heap.size w0 w' := by
  unfold zgJ at hm
  split at hm
  · rename_i h
    exact zxk ⟨x_s.toArray⟩ R w0 hG h hm fun b c w hbc hGw => zeZ b c w hGw hbc
  · cases hm

theorem zrs (x_b : UInt8) (R : Bool) (w0 : World) (hG : zr w0) (hm : zhp x_b = some R) :
    Calls Tryz.prog 282 #[zai x_b] w0 (Ret w0 (fun R => .bool R) R) := by
 rw [zhp] at hm
 have hF : zq [] := ze
 have hO : Dk.Own w0 [] w0 [] := Dk.Own.refl w0
 refine S.enter tb Tryz.func282 rfl Tryz.ntmps282 rfl ?_ hO hm
 refine jv 0 [] [] (fun J E L => ∃ (t7 : Bool), J ((2, .bool t7) :: E) (L) (zeB t7)) rfl ?_ ?_
 refine cl c_250 rfl (fun r2 w hr2 hO => ziz x_b r2 _ (hG.own hF hO) hr2) fun r2 hr2 => ?_
 refine br rfl (fun hc3 => ?_) fun hc3 => ?_
 exact en rfl fun _ _ j => ⟨true, j rfl⟩
 refine cl c_251 rfl (fun r4 w hr4 hO => znH x_b r4 _ (hG.own hF hO) hr4) fun r4 hr4 => ?_
 refine br rfl (fun hc5 => ?_) fun hc5 => ?_
 exact en rfl fun _ _ j => ⟨true, j rfl⟩
 refine cl zwO rfl (fun r6 w hr6 hO => zkp x_b [58, 64] r6 _ (hG.own hF hO) hr6) fun r6 hr6 => ?_
 exact en rfl fun _ _ j => ⟨r6, j rfl⟩
 rintro a w ⟨t7, hf, hO, hm⟩
 rw [zeB] at hm
 refine S.co tb ?_ hf hO hm
 exact rt Tryz.results282 rfl

theorem zrt (x_s : Str) (x_more : Str) (R : Bool) (w0 : World) (hG : zr w0) (hm : zk5 x_s x_more = some R) :
    Calls Tryz.prog 281 #[str x_s, str x_more] w0 (Ret w0 (fun R => .bool R) R) := by
 rw [zk5] at hm
 have hF : zq [] := ze
 have hO : Dk.Own w0 [] w0 [] := Dk.Own.refl w0
 refine S.enter tb Tryz.func281 rfl Tryz.ntmps281 rfl ?_ hO hm
 refine lv [0, 1] [] (fun J E L k => ∃ (i3 : Int), J ((5, int i3) :: E) (L) (zbc x_s x_more k i3)) rfl (fun _ _ j => ⟨0, j rfl⟩) ?_
 rintro n1 a w ⟨i3, hf, hO, hm⟩
 obtain _ | n1 := n1
 rw [zbc] at hm
 cases hm
 rw [zbc] at hm
 refine S.co tb ?_ hf hO hm
 refine br rfl (fun hc5 => ?_) fun hc5 => ?_
 refine jv 3 [0, 1] [] (fun J E L => ∃ (i27 : Int), J ((5, int i27) :: E) (L) (zgT (zbc x_s x_more n1) i27)) rfl ?_ ?_
 refine jv 6 [0, 1, 5] [] (fun J E L => ∃ (t12 : Bool), J ((12, .bool t12) :: E) (L) (ziD (zbc x_s x_more n1) x_s i3 t12)) rfl ?_ ?_
 refine bi rfl fun b7 hb7 => ?_
 refine cl c_282 rfl (fun r8 w hr8 hO => zrs b7 r8 _ (hG.own hF hO) hr8) fun r8 hr8 => ?_
 refine br rfl (fun hc9 => ?_) fun hc9 => ?_
 exact en rfl fun _ _ j => ⟨true, j rfl⟩
 refine bi rfl fun b10 hb10 => ?_
 refine cl c_214 rfl (fun r11 w hr11 hO => zi7 x_more b10 r11 _ (hG.own hF hO) hr11) fun r11 hr11 => ?_
 exact en rfl fun _ _ j => ⟨decide (0 ≤ r11), j rfl⟩
 rintro a w ⟨t12, hf, hO, hm⟩
 rw [ziD] at hm
 refine S.co tb ?_ hf hO hm
 refine br rfl (fun hc13 => ?_) fun hc13 => ?_
 exact en rfl fun _ _ j => ⟨i3, j rfl⟩
 refine jv 6 [0, 1, 5] [] (fun J E L => ∃ (t23 : Bool), J ((25, .bool t23) :: E) (L) (zd9 (zbc x_s x_more n1) i3 t23)) rfl ?_ ?_
 refine bi rfl fun b14 hb14 => ?_
 refine vl rfl rfl (fun a w hf hO => zz (b := b14) (c := 37) hf rfl rfl) ?_
 refine br rfl (fun hc15 => ?_) fun hc15 => ?_
 refine bi rfl fun i16 hi16 => ?_
 refine br rfl (fun hc17 => ?_) fun hc17 => ?_
 refine bi rfl fun i18 hi18 => ?_
 refine bi rfl fun i19 hi19 => ?_
 refine bi rfl fun s20 hs20 => ?_
 refine rw_ rfl fun a w hf hO hm => ?_
 refine zt (vs := [(0, str s20)]) (cs := [str s20]) (e := 9) (sz := 1) hf rfl rfl (fun w => by kernel_rfl) rfl rfl hO fun a b21 w hf hO => ?_
 refine S.op tb ?_ hf hO hm
 refine kn (b' := true) hc17 rfl ?_
 refine cl ztu rfl (fun r22 w hr22 hO => zdt zcG ([s20] : List Str) r22 _ (hG.own hF hO) zy8 (fun y0 r w hG h => zhT (zkN y0 r w hG h)) (hO.rowSees (i := 0) rfl) (hO.rowCap (i := 0) rfl) hr22) fun r22 hr22 => ?_
 exact ec [] rfl rfl rfl fun _ _ j => ⟨r22, j rfl⟩
 exact en rfl fun _ _ j => ⟨false, j rfl⟩
 exact en rfl fun _ _ j => ⟨false, j rfl⟩
 rintro a w ⟨t23, hf, hO, hm⟩
 rw [zd9] at hm
 refine S.co tb ?_ hf hO hm
 refine br rfl (fun hc24 => ?_) fun hc24 => ?_
 refine bi rfl fun i25 hi25 => ?_
 exact en rfl fun _ _ j => ⟨i25, j rfl⟩
 exact rt Tryz.results281 rfl
 rintro a w ⟨i27, hf, hO, hm⟩
 rw [zgT] at hm
 refine S.co tb ?_ hf hO hm
 refine bi rfl fun i28 hi28 => ?_
 exact en rfl fun _ _ j => ⟨_, Nat.lt_succ_self _, i28, j rfl⟩
 exact rt Tryz.results281 rfl

theorem ztG (x_s : Str) (R : Bool) (w0 : World) (hG : zr w0) (hm : zjJ x_s = some R) :
    Calls Tryz.prog 277 #[str x_s] w0 (Ret w0 (fun R => .bool R) R) := by
 rw [zjJ] at hm
 have hF : zq [] := ze
 have hO : Dk.Own w0 [] w0 [] := Dk.Own.refl w0
 refine S.enter tb Tryz.func277 rfl Tryz.ntmps277 rfl ?_ hO hm
 refine jv 0 [] [] (fun J E L => ∃ (t5 : Bool), J ((2, .bool t5) :: E) (L) (zgj t5)) rfl ?_ ?_
 refine cl zy6 rfl (fun r2 w hr2 hO => zga x_s [47] r2 _ (hG.own hF hO) hr2) fun r2 hr2 => ?_
 refine br rfl (fun hc3 => ?_) fun hc3 => ?_
 refine cl c_281 rfl (fun r4 w hr4 hO => zrt x_s [47] r4 _ (hG.own hF hO) hr4) fun r4 hr4 => ?_
 exact en rfl fun _ _ j => ⟨r4, j rfl⟩
 exact en rfl fun _ _ j => ⟨false, j rfl⟩
 rintro a w ⟨t5, hf, hO, hm⟩
 rw [zgj] at hm
 refine S.co tb ?_ hf hO hm
 exact rt Tryz.results277 rfl

theorem zsv (x_s : Str) (R : Bool) (w0 : World) (hG : zr w0) (hm : ziE x_s = some R) :
    Calls Tryz.prog 278 #[str x_s] w0 (Ret w0 (fun R => .bool R) R) := by
 rw [ziE] at hm
 have hF : zq [] := ze
 have hO : Dk.Own w0 [] w0 [] := Dk.Own.refl w0
 refine S.enter tb Tryz.func278 rfl Tryz.ntmps278 rfl ?_ hO hm
 refine cl c_281 rfl (fun r2 w hr2 hO => zrt x_s [47, 63] r2 _ (hG.own hF hO) hr2) fun r2 hr2 => ?_
 exact rt Tryz.results278 rfl

end Go.Proofs
end
section
set_option linter.unusedVariables false
set_option maxHeartbeats 1000000
set_option linter.unusedSimpArgs false
set_option maxRecDepth 100000
namespace Go.Proofs
open Go.Dk Go.Dm Go.RowKit

theorem zvc (x_s : Str) (R : Str × Str × Bool × Int) (w0 : World) (hG : zr w0) (hm : zk6 x_s = some R) :
    Calls Tryz.prog 264 #[str x_s] w0 (Ret w0 (fun R => .tuple #[str R.1, str R.2.1, .bool R.2.2.1, int R.2.2.2]) R) := by
 rw [zk6] at hm
 have hF : zq [] := ze
 have hO : Dk.Own w0 [] w0 [] := Dk.Own.refl w0
 refine S.enter tb Tryz.func264 rfl Tryz.ntmps264 rfl ?_ hO hm
 refine cl zwM rfl (fun r2 w hr2 hO => zim x_s [63] r2 _ (hG.own hF hO) hr2) fun r2 hr2 => ?_
 refine jv 1 [2, 3, 4] [] (fun J E L => ∃ (t7 : Bool), J ((19, .bool t7) :: E) (L) (zhq r2 t7)) rfl ?_ ?_
 refine cl c_277 rfl (fun r4 w hr4 hO => ztG r2.1 r4 _ (hG.own hF hO) hr4) fun r4 hr4 => ?_
 refine br rfl (fun hc5 => ?_) fun hc5 => ?_
 exact en rfl fun _ _ j => ⟨true, j rfl⟩
 refine cl c_278 rfl (fun r6 w hr6 hO => zsv r2.2.1 r6 _ (hG.own hF hO) hr6) fun r6 hr6 => ?_
 exact en rfl fun _ _ j => ⟨!r6, j rfl⟩
 rintro a w ⟨t7, hf, hO, hm⟩
 rw [zhq] at hm
 refine S.co tb ?_ hf hO hm
 refine br rfl (fun hc8 => ?_) fun hc8 => ?_
 exact rt Tryz.results264 rfl
 exact rt Tryz.results264 rfl

theorem znO (x_t : api_Target) (x_s : Str) (R : api_Target × Bool) (w0 : World) (hG : zr w0) (hm : zgU x_t x_s = some R) :
    Calls Tryz.prog 244 #[.agg #[int x_t.Kind, str x_t.Scheme, int x_t.Host.Kind, str x_t.Host.Name, int x_t.Host.Port, str x_t.Path, str x_t.Query, .bool x_t.HasQuery], str x_s] w0 (Ret w0 (fun R => .tuple #[.agg #[int R.1.Kind, str R.1.Scheme, int R.1.Host.Kind, str R.1.Host.Name, int R.1.Host.Port, str R.1.Path, str R.1.Query, .bool R.1.HasQuery], .bool R.2]) R) := by
 rw [zgU] at hm
 have hF : zq [] := ze
 have hO : Dk.Own w0 [] w0 [] := Dk.Own.refl w0
 refine S.enter tb Tryz.func244 rfl Tryz.ntmps244 rfl ?_ hO hm
 refine bo rfl fun b1 => ?_
 refine al zhU rfl fun b2 => ?_
 refine br rfl (fun hc5 => ?_) fun hc5 => ?_
 refine ld 1 rfl rfl ?_
 refine st 0 rfl rfl ?_
 refine re_ rfl fun a w hf hO hm => ?_
 obtain rfl := Option.some.inj hm
 exact zc Tryz.results244 hf (.cell rfl (zd (n := 8) (vs := [int x_t.Kind, str x_t.Scheme, int x_t.Host.Kind, str x_t.Host.Name, int x_t.Host.Port, str x_t.Path, str x_t.Query, .bool x_t.HasQuery]) zcN zbG rfl ((hO.blkSees (i := 0) rfl).cells (o := 0) (n := 8) rfl)) (.tmp rfl .nil)) ⟨rfl, hO.below⟩
 refine bi rfl fun b9 hb9 => ?_
 refine vl rfl rfl (fun a w hf hO => zz (b := b9) (c := 63) hf rfl rfl) ?_
 refine jv 0 [2, 4, 7] [0, 1] (fun J E L => ∃ (s14 : Str), J ((1, str s14) :: E) (L) (zfg x_t b9 s14)) rfl ?_ ?_
 refine br rfl (fun hc12 => ?_) fun hc12 => ?_
 refine bi rfl fun s13 hs13 => ?_
 exact en rfl fun _ _ j => ⟨s13, j rfl⟩
 exact en rfl fun _ _ j => ⟨x_s, j rfl⟩
 rintro a w ⟨s14, hf, hO, hm⟩
 rw [zfg] at hm
 refine S.co tb ?_ hf hO hm
 refine cl c_264 rfl (fun r15 w hr15 hO => zvc s14 r15 _ (hG.own hF hO) hr15) fun r15 hr15 => ?_
 refine st 1 rfl rfl ?_
 refine st 1 rfl rfl ?_
 refine st 1 rfl rfl ?_
 refine jv 0 [2, 4, 6] [0] (fun J E L => ∃ (s19 : Str), J (E) (.blk b1 [int x_t.Kind, str x_t.Scheme, int x_t.Host.Kind, str x_t.Host.Name, int x_t.Host.Port, str s19, str r15.2.1, .bool r15.2.2.1] 188 :: L) (zff x_t r15 s19)) rfl ?_ ?_
 refine br rfl (fun hc18 => ?_) fun hc18 => ?_
 refine st 1 rfl rfl ?_
 exact ec [1, 0] rfl rfl rfl fun _ _ j => ⟨[], j rfl⟩
 exact ec [1, 0] rfl rfl rfl fun _ _ j => ⟨r15.1, j rfl⟩
 rintro a w ⟨s19, hf, hO, hm⟩
 rw [zff] at hm
 refine S.co tb ?_ hf hO hm
 refine ld 0 rfl rfl ?_
 refine st 1 rfl rfl ?_
 refine re_ rfl fun a w hf hO hm => ?_
 obtain rfl := Option.some.inj hm
 exact zc Tryz.results244 hf (.cell rfl (zd (n := 8) (vs := [int x_t.Kind, str x_t.Scheme, int x_t.Host.Kind, str x_t.Host.Name, int x_t.Host.Port, str s19, str r15.2.1, .bool r15.2.2.1]) zcN zbG rfl ((hO.blkSees (i := 1) rfl).cells (o := 0) (n := 8) rfl)) (.tmp rfl .nil)) ⟨rfl, hO.below⟩

theorem zoS (x_s : Str) (R : api_Target × Bool) (w0 : World) (hG : zaq w0) (hm : zeC x_s = some R) :
    Calls Tryz.prog 243 #[str x_s] w0 (Ret w0 (fun R => .tuple #[.agg #[int R.1.Kind, str R.1.Scheme, int R.1.Host.Kind, str R.1.Host.Name, int R.1.Host.Port, str R.1.Path, str R.1.Query, .bool R.1.HasQuery], .bool R.2]) R) := by
 rw [zeC] at hm
 have hF : zq [] := ze
 have hO : Dk.Own w0 [] w0 [] := Dk.Own.refl w0
 refine S.enter tb Tryz.func243 rfl Tryz.ntmps243 rfl ?_ hO hm
 refine al zhU rfl fun b1 => ?_
 refine cl zwM rfl (fun r3 w hr3 hO => zim x_s [58, 47, 47] r3 _ (hG.own hF hO).1 hr3) fun r3 hr3 => ?_
 refine cl zy5 rfl (fun r5 w hr5 hO => zlz r3.1 r5 _ (hG.own hF hO).1 hr5) fun r5 hr5 => ?_
 refine vl rfl rfl (fun a w hf hO => zg (vs := [(0, int 2), (1, str r5)]) (v := .agg #[int 2, str r5, int 0, str [], int 0, str [], str [], .bool false]) hf rfl (by kernel_rfl)) ?_
 refine al zhU rfl fun b6 => ?_
 refine st 0 rfl rfl ?_
 refine jv 1 [2, 5, 7] [0, 1] (fun J E L => ∃ (t10 : Bool), J ((31, .bool t10) :: E) (L) (zam r3 r5 t10)) rfl ?_ ?_
 refine br rfl (fun hc8 => ?_) fun hc8 => ?_
 exact en rfl fun _ _ j => ⟨true, j rfl⟩
 refine ld 0 rfl rfl ?_
 refine br rfl (fun hc9 => ?_) fun hc9 => ?_
 refine ld 0 rfl rfl ?_
 exact en rfl fun _ _ j => ⟨!(r5 == [104, 116, 116, 112, 115]), j rfl⟩
 exact en rfl fun _ _ j => ⟨false, j rfl⟩
 rintro a w ⟨t10, hf, hO, hm⟩
 rw [zam] at hm
 refine S.co tb ?_ hf hO hm
 refine br rfl (fun hc11 => ?_) fun hc11 => ?_
 refine ld 0 rfl rfl ?_
 refine st 1 rfl rfl ?_
 refine re_ rfl fun a w hf hO hm => ?_
 obtain rfl := Option.some.inj hm
 exact zc Tryz.results243 hf (.cell rfl (zd (n := 8) (vs := [int 2, str r5, int 0, str [], int 0, str [], str [], .bool false]) zcN zbG rfl ((hO.blkSees (i := 1) rfl).cells (o := 0) (n := 8) rfl)) (.tmp rfl .nil)) ⟨rfl, hO.below⟩
 refine cl c_157 rfl (fun r14 w hr14 hO => zjt r3.2.1 [47, 63] r14 _ (hG.own hF hO).1 hr14) fun r14 hr14 => ?_
 refine jv 0 [2, 5, 7] [0, 1] (fun J E L => ∃ (i18 : Int), J ((8, int i18) :: E) (L) (zbP r3 r5 i18)) rfl ?_ ?_
 refine br rfl (fun hc17 => ?_) fun hc17 => ?_
 exact en rfl fun _ _ j => ⟨(r3.2.1.length : Int), j rfl⟩
 exact en rfl fun _ _ j => ⟨r14, j rfl⟩
 rintro a w ⟨i18, hf, hO, hm⟩
 rw [zbP] at hm
 refine S.co tb ?_ hf hO hm
 refine bi rfl fun s19 hs19 => ?_
 refine cl zy4 rfl (fun r20 w hr20 hO => zhY s19 r20 _ (hG.own hF hO) hr20) fun r20 hr20 => ?_
 refine al zhg rfl fun b21 => ?_
 refine st 0 rfl rfl ?_
 refine br rfl (fun hc24 => ?_) fun hc24 => ?_
 refine ld 1 rfl rfl ?_
 refine st 2 rfl rfl ?_
 refine re_ rfl fun a w hf hO hm => ?_
 obtain rfl := Option.some.inj hm
 exact zc Tryz.results243 hf (.cell rfl (zd (n := 8) (vs := [int 2, str r5, int 0, str [], int 0, str [], str [], .bool false]) zcN zbG rfl ((hO.blkSees (i := 2) rfl).cells (o := 0) (n := 8) rfl)) (.tmp rfl .nil)) ⟨rfl, hO.below⟩
 refine ld 0 rfl rfl ?_
 refine st 1 rfl rfl ?_
 refine rc_ rfl fun a w hf hO hm => ?_
 obtain ⟨s28, hs28, hm⟩ := ob hm
 obtain ⟨r29, hr29, hm⟩ := ob hm
 refine dS (S := Unit) [(2, ptr b1 0), (5, str r3.2.1), (7, ptr b6 0), (8, int i18)] (fun _ => (fun (q0 q1 q2 : Res) => [[q0, q1, q2], [q0, q1, q2], [q0, q1, .blk b1 [int r29.1.Kind, str r29.1.Scheme, int r29.1.Host.Kind, str r29.1.Host.Name, int r29.1.Host.Port, str r29.1.Path, str r29.1.Query, .bool r29.1.HasQuery] 188]]) (.blk b21 [int r20.1.Kind, str r20.1.Name, int r20.1.Port] 175) (.blk b6 [int 2, str r5, int r20.1.Kind, str r20.1.Name, int r20.1.Port, str [], str [], .bool false] 188) (.blk b1 [int 0, str [], int 0, str [], int 0, str [], str [], .bool false] 188)) (fun σ => [⟨[(7, ptr b6 0)], some (51, .agg #[int 2, str r5, int r20.1.Kind, str r20.1.Name, int r20.1.Port, str [], str [], .bool false])⟩, ⟨[(5, str r3.2.1)], some (52, str r3.2.1)⟩, ⟨[(8, int i18)], some (53, int i18)⟩, ⟨[(52, str r3.2.1), (53, int i18)], some (54, str s28)⟩, ⟨[(51, .agg #[int 2, str r5, int r20.1.Kind, str r20.1.Name, int r20.1.Port, str [], str [], .bool false]), (54, str s28)], some (55, .tuple #[.agg #[int r29.1.Kind, str r29.1.Scheme, int r29.1.Host.Kind, str r29.1.Host.Name, int r29.1.Host.Port, str r29.1.Path, str r29.1.Query, .bool r29.1.HasQuery], .bool r29.2])⟩, ⟨[(55, .tuple #[.agg #[int r29.1.Kind, str r29.1.Scheme, int r29.1.Host.Kind, str r29.1.Host.Name, int r29.1.Host.Port, str r29.1.Path, str r29.1.Query, .bool r29.1.HasQuery], .bool r29.2])], some (56, .agg #[int r29.1.Kind, str r29.1.Scheme, int r29.1.Host.Kind, str r29.1.Host.Name, int r29.1.Host.Port, str r29.1.Path, str r29.1.Query, .bool r29.1.HasQuery])⟩, ⟨[(55, .tuple #[.agg #[int r29.1.Kind, str r29.1.Scheme, int r29.1.Host.Kind, str r29.1.Host.Name, int r29.1.Host.Port, str r29.1.Path, str r29.1.Query, .bool r29.1.HasQuery], .bool r29.2])], some (57, .bool r29.2)⟩, ⟨[(2, ptr b1 0), (56, .agg #[int r29.1.Kind, str r29.1.Scheme, int r29.1.Host.Kind, str r29.1.Host.Name, int r29.1.Host.Port, str r29.1.Path, str r29.1.Query, .bool r29.1.HasQuery])], none⟩, ⟨[(57, .bool r29.2)], some (3, .bool r29.2)⟩]) () [4, 7] hO hf ⟨sD tb 0 [1], sE tb, sE tb, sP (fun hf => zkS (l := r3.2.1) Tryz.underlying9 hf rfl rfl hs28), sC 0 (fun hf => zak c_244 hf (vs := [.agg #[int 2, str r5, int r20.1.Kind, str r20.1.Name, int r20.1.Port, str [], str [], .bool false], str s28]) rfl) (@fun σ w hO => (znO (⟨2, r5, r20.1, [], [], false⟩ : api_Target) s28 r29 _ (hG.own hF hO).1 hr29).mono fun e w' ⟨he, hb⟩ => cR (σ := σ) () he (hO.grow hb)), sE tb, sE tb, sK 1 (@fun σ w hO => match zg5 (x := (.tmp 2)) (y := (.tmp 56)) (E := [(2, ptr b1 0), (56, .agg #[int r29.1.Kind, str r29.1.Scheme, int r29.1.Host.Kind, str r29.1.Host.Name, int r29.1.Host.Port, str r29.1.Path, str r29.1.Query, .bool r29.1.HasQuery])]) (i := 2) (n := 8) (vs := [int r29.1.Kind, str r29.1.Scheme, int r29.1.Host.Kind, str r29.1.Host.Name, int r29.1.Host.Port, str r29.1.Path, str r29.1.Query, .bool r29.1.HasQuery]) zbG rfl rfl rfl (by simp [Value.oneCell']) hO rfl rfl with | ⟨w', hO', hr⟩ => vR (σ := σ) () hO' hr), sE tb, trivial⟩ ?_
 rintro _ a w hf hO
 have hO : Dk.Own w0 [] w _ := hO
 have hf : Fits 58 [(2, ptr b1 0), (3, .bool r29.2)] a := (hf.cons rfl (hf.cons rfl hf.nil))
 refine S.no tb ?_ hf hO hm
 refine re_ rfl fun a w hf hO hm => ?_
 obtain rfl := Option.some.inj hm
 exact zc Tryz.results243 hf (.cell rfl (zd (n := 8) (vs := [int r29.1.Kind, str r29.1.Scheme, int r29.1.Host.Kind, str r29.1.Host.Name, int r29.1.Host.Port, str r29.1.Path, str r29.1.Query, .bool r29.1.HasQuery]) zcN zbG rfl ((hO.blkSees (i := 2) rfl).cells (o := 0) (n := 8) rfl)) (.tmp rfl .nil)) ⟨rfl, hO.below⟩

theorem zvd (x_method : Str) (x_s : Str) (R : api_Target × Bool) (w0 : World) (hG : zaq w0) (hm : zk7 x_method x_s = some R) :
    Calls Tryz.prog 210 #[str x_method, str x_s] w0 (Ret w0 (fun R => .tuple #[.agg #[int R.1.Kind, str R.1.Scheme, int R.1.Host.Kind, str R.1.Host.Name, int R.1.Host.Port, str R.1.Path, str R.1.Query, .bool R.1.HasQuery], .bool R.2]) R) := by
 rw [zk7] at hm
 have hF : zq [] := ze
 have hO : Dk.Own w0 [] w0 [] := Dk.Own.refl w0
 refine S.enter tb Tryz.func210 rfl Tryz.ntmps210 rfl ?_ hO hm
 refine al zhU rfl fun b1 => ?_
 refine br rfl (fun hc4 => ?_) fun hc4 => ?_
 refine vl rfl rfl (fun a w hf hO => zg (vs := [(0, int 4)]) (v := .agg #[int 4, str [], int 0, str [], int 0, str [], str [], .bool false]) hf rfl (by kernel_rfl)) ?_
 refine st 0 rfl rfl ?_
 refine re_ rfl fun a w hf hO hm => ?_
 obtain rfl := Option.some.inj hm
 exact zc Tryz.results210 hf (.cell rfl (zd (n := 8) (vs := [int 4, str [], int 0, str [], int 0, str [], str [], .bool false]) zcN zbG rfl ((hO.blkSees (i := 0) rfl).cells (o := 0) (n := 8) rfl)) (.tmp rfl .nil)) ⟨rfl, hO.below⟩
 refine cl zy6 rfl (fun r7 w hr7 hO => zga x_s [47] r7 _ (hG.own hF hO).1 hr7) fun r7 hr7 => ?_
 refine br rfl (fun hc9 => ?_) fun hc9 => ?_
 refine cl c_243 rfl (fun r10 w hr10 hO => zoS x_s r10 _ (hG.own hF hO) hr10) fun r10 hr10 => ?_
 refine st 0 rfl rfl ?_
 refine re_ rfl fun a w hf hO hm => ?_
 obtain rfl := Option.some.inj hm
 exact zc Tryz.results210 hf (.cell rfl (zd (n := 8) (vs := [int r10.1.Kind, str r10.1.Scheme, int r10.1.Host.Kind, str r10.1.Host.Name, int r10.1.Host.Port, str r10.1.Path, str r10.1.Query, .bool r10.1.HasQuery]) zcN zbG rfl ((hO.blkSees (i := 0) rfl).cells (o := 0) (n := 8) rfl)) (.tmp rfl .nil)) ⟨rfl, hO.below⟩
 refine vl rfl rfl (fun a w hf hO => zg (vs := [(0, int 1)]) (v := .agg #[int 1, str [], int 0, str [], int 0, str [], str [], .bool false]) hf rfl (by kernel_rfl)) ?_
 refine cl c_244 rfl (fun r13 w hr13 hO => znO ((⟨1, [], (⟨0, [], 0⟩ : api_Host), [], [], false⟩ : api_Target)) x_s r13 _ (hG.own hF hO).1 hr13) fun r13 hr13 => ?_
 refine al zhU rfl fun b14 => ?_
 refine st 0 rfl rfl ?_
 refine ld 0 rfl rfl ?_
 refine st 1 rfl rfl ?_
 refine re_ rfl fun a w hf hO hm => ?_
 obtain rfl := Option.some.inj hm
 exact zc Tryz.results210 hf (.cell rfl (zd (n := 8) (vs := [int r13.1.Kind, str r13.1.Scheme, int r13.1.Host.Kind, str r13.1.Host.Name, int r13.1.Host.Port, str r13.1.Path, str r13.1.Query, .bool r13.1.HasQuery]) zcN zbG rfl ((hO.blkSees (i := 1) rfl).cells (o := 0) (n := 8) rfl)) (.tmp rfl .nil)) ⟨rfl, hO.below⟩

theorem zrC (x_method : Str) (x_s : Str) (R : api_Target × Int) (w0 : World) (hG : zaq w0) (hm : zhr x_method x_s = some R) :
    Calls Tryz.prog 166 #[str x_method, str x_s] w0 (Ret w0 (fun R => .tuple #[.agg #[int R.1.Kind, str R.1.Scheme, int R.1.Host.Kind, str R.1.Host.Name, int R.1.Host.Port, str R.1.Path, str R.1.Query, .bool R.1.HasQuery], int R.2]) R) := by
 rw [zhr] at hm
 have hF : zq [] := ze
 have hO : Dk.Own w0 [] w0 [] := Dk.Own.refl w0
 refine S.enter tb Tryz.func166 rfl Tryz.ntmps166 rfl ?_ hO hm
 refine al zhU rfl fun b1 => ?_
 refine br rfl (fun hc4 => ?_) fun hc4 => ?_
 refine cl zy4 rfl (fun r5 w hr5 hO => zhY x_s r5 _ (hG.own hF hO) hr5) fun r5 hr5 => ?_
 refine al zhg rfl fun b6 => ?_
 refine st 0 rfl rfl ?_
 refine jv 2 [4, 6] [0, 1] (fun J E L => ∃ (t9 : Bool), J ((23, .bool t9) :: E) (L) (zeD r5 t9)) rfl ?_ ?_
 refine br rfl (fun hc8 => ?_) fun hc8 => ?_
 exact en rfl fun _ _ j => ⟨true, j rfl⟩
 refine ld 0 rfl rfl ?_
 exact en rfl fun _ _ j => ⟨decide (r5.1.Port < 0), j rfl⟩
 rintro a w ⟨t9, hf, hO, hm⟩
 rw [zeD] at hm
 refine S.co tb ?_ hf hO hm
 refine br rfl (fun hc10 => ?_) fun hc10 => ?_
 refine vl rfl rfl (fun a w hf hO => zg (vs := []) (v := .agg #[int 0, str [], int 0, str [], int 0, str [], str [], .bool false]) hf rfl (by kernel_rfl)) ?_
 refine st 1 rfl rfl ?_
 refine re_ rfl fun a w hf hO hm => ?_
 obtain rfl := Option.some.inj hm
 exact zc Tryz.results166 hf (.cell rfl (zd (n := 8) (vs := [int 0, str [], int 0, str [], int 0, str [], str [], .bool false]) zcN zbG rfl ((hO.blkSees (i := 1) rfl).cells (o := 0) (n := 8) rfl)) (.tmp rfl .nil)) ⟨rfl, hO.below⟩
 refine ld 0 rfl rfl ?_
 refine vl rfl rfl (fun a w hf hO => zg (vs := [(0, int 3), (2, .agg #[int r5.1.Kind, str r5.1.Name, int r5.1.Port])]) (v := .agg #[int 3, str [], int r5.1.Kind, str r5.1.Name, int r5.1.Port, str [], str [], .bool false]) hf rfl (by kernel_rfl)) ?_
 refine st 1 rfl rfl ?_
 refine re_ rfl fun a w hf hO hm => ?_
 obtain rfl := Option.some.inj hm
 exact zc Tryz.results166 hf (.cell rfl (zd (n := 8) (vs := [int 3, str [], int r5.1.Kind, str r5.1.Name, int r5.1.Port, str [], str [], .bool false]) zcN zbG rfl ((hO.blkSees (i := 1) rfl).cells (o := 0) (n := 8) rfl)) (.tmp rfl .nil)) ⟨rfl, hO.below⟩
 refine cl c_210 rfl (fun r15 w hr15 hO => zvd x_method x_s r15 _ (hG.own hF hO) hr15) fun r15 hr15 => ?_
 refine al zhU rfl fun b16 => ?_
 refine st 0 rfl rfl ?_
 refine br rfl (fun hc19 => ?_) fun hc19 => ?_
 refine vl rfl rfl (fun a w hf hO => zg (vs := []) (v := .agg #[int 0, str [], int 0, str [], int 0, str [], str [], .bool false]) hf rfl (by kernel_rfl)) ?_
 refine st 1 rfl rfl ?_
 refine re_ rfl fun a w hf hO hm => ?_
 obtain rfl := Option.some.inj hm
 exact zc Tryz.results166 hf (.cell rfl (zd (n := 8) (vs := [int 0, str [], int 0, str [], int 0, str [], str [], .bool false]) zcN zbG rfl ((hO.blkSees (i := 1) rfl).cells (o := 0) (n := 8) rfl)) (.tmp rfl .nil)) ⟨rfl, hO.below⟩
 refine ld 0 rfl rfl ?_
 refine st 1 rfl rfl ?_
 refine re_ rfl fun a w hf hO hm => ?_
 obtain rfl := Option.some.inj hm
 exact zc Tryz.results166 hf (.cell rfl (zd (n := 8) (vs := [int r15.1.Kind, str r15.1.Scheme, int r15.1.Host.Kind, str r15.1.Host.Name, int r15.1.Host.Port, str r15.1.Path, str r15.1.Query, .bool r15.1.HasQuery]) zcN zbG rfl ((hO.blkSees (i := 1) rfl).cells (o := 0) (n := 8) rfl)) (.tmp rfl .nil)) ⟨rfl, hO.below⟩

theorem zno (x_a0 : Str) (R : api_Head × Int) (w0 : World) (hG : zaq w0) (hm : zdj x_a0 = some R) :
    Calls Tryz.prog 117 #[str x_a0] w0 fun e w' => ∃ (p0 : Option Addr) (c0 : Nat), e = .returned (.tuple #[.agg #[int R.1.Kind, str R.1.Method, str R.1.Target, int R.1.Code, str R.1.Reason, int R.1.Minor, .slice p0 R.1.Fields.length c0], int R.2]) ∧ Dk.Own w0 [] w' [.row (.slice p0 R.1.Fields.length c0) 110 2 R.1.Fields.length (cells za R.1.Fields)] := by
 rw [zdj] at hm
 have hF : zq [] := ze
 have hO : Dk.Own w0 [] w0 [] := Dk.Own.refl w0
 refine S.enter tb Tryz.func117 rfl Tryz.ntmps117 rfl ?_ hO hm
 refine al zj7 rfl fun b1 => ?_
 refine nl 110 2 ?_
 refine vl rfl rfl (fun a w hf hO => zg (vs := [(0, int 1)]) (v := .agg #[int 1, str [], str [], int 0, str [], int 0, .slice none 0 0]) hf rfl (by kernel_rfl)) ?_
 refine al zj7 rfl fun b3 => ?_
 refine nl 110 2 ?_
 refine st 1 rfl rfl ?_
 refine nl 110 2 ?_
 refine cl c_159 rfl (fun r5 w hr5 hO => zg6 x_a0 32 r5 _ (hG.own hF hO).1 hr5) fun r5 hr5 => ?_
 refine bi rfl fun i6 hi6 => ?_
 refine bi rfl fun s7 hs7 => ?_
 refine cl c_158 rfl (fun r8 w hr8 hO => zko s7 r8 _ (hG.own hF hO).1 hr8) fun r8 hr8 => ?_
 refine br rfl (fun hc10 => ?_) fun hc10 => ?_
 refine vl rfl rfl (fun a w hf hO => zg (vs := []) (v := .agg #[int 0, str [], str [], int 0, str [], int 0, .slice none 0 0]) hf rfl (by kernel_rfl)) ?_
 refine st 4 rfl rfl ?_
 refine nl 110 2 ?_
 refine re_ rfl fun a w hf hO hm => ?_
 obtain rfl := Option.some.inj hm
 exact zc Tryz.results117 hf (.cell rfl (zd (n := 7) (vs := [int 0, str [], str [], int 0, str [], int 0, .slice none 0 0]) zcE zce rfl ((hO.blkSees (i := 5) rfl).cells (o := 0) (n := 7) rfl)) (.tmp rfl .nil)) ⟨none, 0, rfl, (hO.sub (.cons_cons _ (.cons _ (.cons _ (.cons _ (.cons _ (.cons _ .slnil)))))))⟩
 refine cm1 zuL rfl (fun r13 w hr13 hO => zjS x_a0 r13 _ (hG.own hF hO).1 hr13) fun r13 hr13 b14 => ?_
 refine vl rfl rfl (fun a w hf hO => zg (vs := [(0, ptr b14 0)]) (v := .agg #[ptr b14 0]) hf rfl (by kernel_rfl)) ?_
 refine al zv2 rfl fun b15 => ?_
 refine st 0 rfl rfl ?_
 refine ld 0 rfl rfl ?_
 refine cw0 c_161 [1, 0, 2, 3, 4, 5, 6] 1 [] rfl (fun r17 w hr17 hO hfar18 hlend18 => ziS r13 r17 _ (hG.own hF hO).1 hfar18 hlend18 hr17) (fun _ _ => trivial) hF hG.size fun r17 hr17 => ?_
 refine ld 1 rfl rfl ?_
 refine cw0 zi9 [0, 1, 2, 3, 4, 5, 6] 1 [] rfl (fun r20 w hr20 hO hfar21 hlend21 => zv r17.2.2 32 r20 _ (hG.own hF hO).1 hfar21 hlend21 hr20) (fun _ _ => trivial) hF hG.size fun r20 hr20 => ?_
 refine ld 1 rfl rfl ?_
 refine cw0 zwK [0, 1, 2, 3, 4, 5, 6] 1 [] rfl (fun r23 w hr23 hO hfar24 hlend24 => zds r20.2 zcr r23 _ (hG.own hF hO).1 hfar24 hlend24 c_164 (fun y0 r w hG h => zhT (zmd y0 r w hG h)) hr23) (fun _ _ => trivial) hF hG.size fun r23 hr23 => ?_
 refine ld 1 rfl rfl ?_
 refine cw0 zi9 [0, 1, 2, 3, 4, 5, 6] 1 [] rfl (fun r26 w hr26 hO hfar27 hlend27 => zv r23.2 32 r26 _ (hG.own hF hO).1 hfar27 hlend27 hr26) (fun _ _ => trivial) hF hG.size fun r26 hr26 => ?_
 refine ld 1 rfl rfl ?_
 refine cw0 c_165 [0, 1, 2, 3, 4, 5, 6] 1 [] rfl (fun r29 w hr29 hO hfar30 hlend30 => zhF (⟨r26.2⟩ : startline_line) r29 _ (hG.own hF hO).1 hfar30 hlend30 hr29) (fun _ _ => trivial) hF hG.size fun r29 hr29 => ?_
 refine cl c_166 rfl (fun r32 w hr32 hO => zrC r17.1 r23.1 r32 _ (hG.own hF hO) hr32) fun r32 hr32 => ?_
 refine al zhU rfl fun b33 => ?_
 refine st 0 rfl rfl ?_
 refine jv 1 [2, 4, 6, 9, 11] [0, 1, 2, 3, 4, 5, 6, 7] (fun J E L => ∃ (t41 : Bool), J ((75, .bool t41) :: E) (L) (zZ r17 r23 r29 t41)) rfl ?_ ?_
 refine br rfl (fun hc35 => ?_) fun hc35 => ?_
 exact en rfl fun _ _ j => ⟨true, j rfl⟩
 refine br rfl (fun hc36 => ?_) fun hc36 => ?_
 exact en rfl fun _ _ j => ⟨true, j rfl⟩
 refine br rfl (fun hc37 => ?_) fun hc37 => ?_
 exact en rfl fun _ _ j => ⟨true, j rfl⟩
 refine br rfl (fun hc38 => ?_) fun hc38 => ?_
 exact en rfl fun _ _ j => ⟨true, j rfl⟩
 refine ld 2 rfl rfl ?_
 refine cl zwL rfl (fun r39 w hr39 hO => zey r29.2.2 r39 _ (hG.own hF hO).1 (hO.blkSees (i := 1) rfl) hr39) fun r39 hr39 => ?_
 refine br rfl (fun hc40 => ?_) fun hc40 => ?_
 exact en rfl fun _ _ j => ⟨true, j rfl⟩
 exact en rfl fun _ _ j => ⟨!(r32.2 == 0), j rfl⟩
 rintro a w ⟨t41, hf, hO, hm⟩
 rw [zZ] at hm
 refine S.co tb ?_ hf hO hm
 refine br rfl (fun hc42 => ?_) fun hc42 => ?_
 refine vl rfl rfl (fun a w hf hO => zg (vs := []) (v := .agg #[int 0, str [], str [], int 0, str [], int 0, .slice none 0 0]) hf rfl (by kernel_rfl)) ?_
 refine st 7 rfl rfl ?_
 refine nl 110 2 ?_
 refine re_ rfl fun a w hf hO hm => ?_
 obtain rfl := Option.some.inj hm
 exact zc Tryz.results117 hf (.cell rfl (zd (n := 7) (vs := [int 0, str [], str [], int 0, str [], int 0, .slice none 0 0]) zcE zce rfl ((hO.blkSees (i := 8) rfl).cells (o := 0) (n := 7) rfl)) (.tmp rfl .nil)) ⟨none, 0, rfl, (hO.sub (.cons_cons _ (.cons _ (.cons _ (.cons _ (.cons _ (.cons _ (.cons _ (.cons _ (.cons _ .slnil))))))))))⟩
 refine st 5 rfl rfl ?_
 refine st 5 rfl rfl ?_
 refine st 5 rfl rfl ?_
 refine ld 5 rfl rfl ?_
 refine st 7 rfl rfl ?_
 refine re_ rfl fun a w hf hO hm => ?_
 obtain rfl := Option.some.inj hm
 exact zc Tryz.results117 hf (.cell rfl (zd (n := 7) (vs := [int 1, str r17.1, str r23.1, int 0, str [], int r29.1, .slice none 0 0]) zcE zce rfl ((hO.blkSees (i := 7) rfl).cells (o := 0) (n := 7) rfl)) (.tmp rfl .nil)) ⟨none, 0, rfl, (hO.sub (.cons _ (.cons _ (.cons _ (.cons_cons _ (.cons _ (.cons _ (.cons _ (.cons _ .slnil)))))))))⟩

theorem zoT (x_b : UInt8) (R : Bool) (w0 : World) (hG : zr w0) (hm : zi5 x_b = some R) :
    Calls Tryz.prog 123 #[zai x_b] w0 (Ret w0 (fun R => .bool R) R) := by
 rw [zi5] at hm
 have hF : zq [] := ze
 have hO : Dk.Own w0 [] w0 [] := Dk.Own.refl w0
 refine S.enter tb Tryz.func123 rfl Tryz.ntmps123 rfl ?_ hO hm
 refine jv 0 [] [] (fun J E L => ∃ (t3 : Bool), J ((2, .bool t3) :: E) (L) (zen t3)) rfl ?_ ?_
 refine vl rfl rfl (fun a w hf hO => zur (b := x_b) (c := 32) hf rfl rfl) ?_
 refine br rfl (fun hc2 => ?_) fun hc2 => ?_
 refine vl rfl rfl (fun a w hf hO => zx2 (b := x_b) (c := 127) hf rfl rfl) ?_
 exact en rfl fun _ _ j => ⟨decide (x_b < 127), j rfl⟩
 exact en rfl fun _ _ j => ⟨false, j rfl⟩
 rintro a w ⟨t3, hf, hO, hm⟩
 rw [zen] at hm
 refine S.co tb ?_ hf hO hm
 exact rt Tryz.results123 rfl

theorem zlW (x_b : UInt8) (R : Bool) (w0 : World) (hG : zr w0) (hm : zgk x_b = some R) :
    Calls Tryz.prog 124 #[zai x_b] w0 (Ret w0 (fun R => .bool R) R) := by
 rw [zgk] at hm
 have hF : zq [] := ze
 have hO : Dk.Own w0 [] w0 [] := Dk.Own.refl w0
 refine S.enter tb Tryz.func124 rfl Tryz.ntmps124 rfl ?_ hO hm
 refine jv 0 [] [] (fun J E L => ∃ (t3 : Bool), J ((2, .bool t3) :: E) (L) (zfU t3)) rfl ?_ ?_
 refine vl rfl rfl (fun a w hf hO => zz (b := x_b) (c := 32) hf rfl rfl) ?_
 refine br rfl (fun hc2 => ?_) fun hc2 => ?_
 exact en rfl fun _ _ j => ⟨true, j rfl⟩
 refine vl rfl rfl (fun a w hf hO => zz (b := x_b) (c := 9) hf rfl rfl) ?_
 exact en rfl fun _ _ j => ⟨x_b == 9, j rfl⟩
 rintro a w ⟨t3, hf, hO, hm⟩
 rw [zfU] at hm
 refine S.co tb ?_ hf hO hm
 exact rt Tryz.results124 rfl

theorem zeA (x_b : UInt8) (R : Bool) (w0 : World) (hG : zr w0) (hm : zaG x_b = some R) :
    Calls Tryz.prog 87 #[zai x_b] w0 (Ret w0 (fun R => .bool R) R) := by
 rw [zaG] at hm
 have hF : zq [] := ze
 have hO : Dk.Own w0 [] w0 [] := Dk.Own.refl w0
 refine S.enter tb Tryz.func87 rfl Tryz.ntmps87 rfl ?_ hO hm
 refine jv 0 [] [] (fun J E L => ∃ (t6 : Bool), J ((2, .bool t6) :: E) (L) (zdV t6)) rfl ?_ ?_
 refine cl c_123 rfl (fun r2 w hr2 hO => zoT x_b r2 _ (hG.own hF hO) hr2) fun r2 hr2 => ?_
 refine br rfl (fun hc3 => ?_) fun hc3 => ?_
 exact en rfl fun _ _ j => ⟨true, j rfl⟩
 refine cl c_124 rfl (fun r4 w hr4 hO => zlW x_b r4 _ (hG.own hF hO) hr4) fun r4 hr4 => ?_
 refine br rfl (fun hc5 => ?_) fun hc5 => ?_
 exact en rfl fun _ _ j => ⟨true, j rfl⟩
 refine vl rfl rfl (fun a w hf hO => zur (b := x_b) (c := 127) hf rfl rfl) ?_
 exact en rfl fun _ _ j => ⟨decide (127 < x_b), j rfl⟩
 rintro a w ⟨t6, hf, hO, hm⟩
 rw [zdV] at hm
 refine S.co tb ?_ hf hO hm
 exact rt Tryz.results87 rfl

theorem zoc (x_a0 : Str) (R : api_Head × Int) (w0 : World) (hG : zr w0) (hm : zdW x_a0 = some R) :
    Calls Tryz.prog 118 #[str x_a0] w0 fun e w' => ∃ (p0 : Option Addr) (c0 : Nat), e = .returned (.tuple #[.agg #[int R.1.Kind, str R.1.Method, str R.1.Target, int R.1.Code, str R.1.Reason, int R.1.Minor, .slice p0 R.1.Fields.length c0], int R.2]) ∧ Dk.Own w0 [] w' [.row (.slice p0 R.1.Fields.length c0) 110 2 R.1.Fields.length (cells za R.1.Fields)] := by
 rw [zdW] at hm
 have hF : zq [] := ze
 have hO : Dk.Own w0 [] w0 [] := Dk.Own.refl w0
 refine S.enter tb Tryz.func118 rfl Tryz.ntmps118 rfl ?_ hO hm
 refine al zj7 rfl fun b1 => ?_
 refine nl 110 2 ?_
 refine cl zwM rfl (fun r3 w hr3 hO => zim x_a0 [32] r3 _ (hG.own hF hO) hr3) fun r3 hr3 => ?_
 refine cl c_158 rfl (fun r5 w hr5 hO => zko r3.1 r5 _ (hG.own hF hO) hr5) fun r5 hr5 => ?_
 refine br rfl (fun hc7 => ?_) fun hc7 => ?_
 refine vl rfl rfl (fun a w hf hO => zg (vs := []) (v := .agg #[int 0, str [], str [], int 0, str [], int 0, .slice none 0 0]) hf rfl (by kernel_rfl)) ?_
 refine st 1 rfl rfl ?_
 refine nl 110 2 ?_
 refine re_ rfl fun a w hf hO hm => ?_
 obtain rfl := Option.some.inj hm
 exact zc Tryz.results118 hf (.cell rfl (zd (n := 7) (vs := [int 0, str [], str [], int 0, str [], int 0, .slice none 0 0]) zcE zce rfl ((hO.blkSees (i := 2) rfl).cells (o := 0) (n := 7) rfl)) (.tmp rfl .nil)) ⟨none, 0, rfl, (hO.sub (.cons_cons _ (.cons _ (.cons _ .slnil))))⟩
 refine cm1 zuL rfl (fun r10 w hr10 hO => zjS x_a0 r10 _ (hG.own hF hO) hr10) fun r10 hr10 b11 => ?_
 refine vl rfl rfl (fun a w hf hO => zg (vs := [(0, ptr b11 0)]) (v := .agg #[ptr b11 0]) hf rfl (by kernel_rfl)) ?_
 refine al zv2 rfl fun b12 => ?_
 refine st 0 rfl rfl ?_
 refine ld 0 rfl rfl ?_
 refine cw0 c_165 [1, 0, 2, 3] 1 [] rfl (fun r14 w hr14 hO hfar15 hlend15 => zhF (⟨r10⟩ : startline_line) r14 _ (hG.own hF hO) hfar15 hlend15 hr14) (fun _ _ => trivial) hF hG.size fun r14 hr14 => ?_
 refine ld 1 rfl rfl ?_
 refine cw0 zi9 [0, 1, 2, 3] 1 [] rfl (fun r17 w hr17 hO hfar18 hlend18 => zv r14.2.2 32 r17 _ (hG.own hF hO) hfar18 hlend18 hr17) (fun _ _ => trivial) hF hG.size fun r17 hr17 => ?_
 refine ld 1 rfl rfl ?_
 refine cw0 zwK [0, 1, 2, 3] 1 [] rfl (fun r20 w hr20 hO hfar21 hlend21 => zds r17.2 z6 r20 _ (hG.own hF hO) hfar21 hlend21 zq4 (fun y0 r w hG h => zhT (zco y0 r w hG h)) hr20) (fun _ _ => trivial) hF hG.size fun r20 hr20 => ?_
 refine ld 1 rfl rfl ?_
 refine cw0 zi9 [0, 1, 2, 3] 1 [] rfl (fun r23 w hr23 hO hfar24 hlend24 => zv r20.2 32 r23 _ (hG.own hF hO) hfar24 hlend24 hr23) (fun _ _ => trivial) hF hG.size fun r23 hr23 => ?_
 refine cl zwN rfl (fun r26 w hr26 hO => ze6 r20.1 599 r26 _ (hG.own hF hO) hr26) fun r26 hr26 => ?_
 refine jv 1 [2, 7, 8, 13] [0, 1, 2, 3] (fun J E L => ∃ (t37 : Bool), J ((76, .bool t37) :: E) (L) (zV r14 r23 r26 t37)) rfl ?_ ?_
 refine br rfl (fun hc28 => ?_) fun hc28 => ?_
 exact en rfl fun _ _ j => ⟨true, j rfl⟩
 refine br rfl (fun hc29 => ?_) fun hc29 => ?_
 exact en rfl fun _ _ j => ⟨true, j rfl⟩
 refine br rfl (fun hc30 => ?_) fun hc30 => ?_
 exact en rfl fun _ _ j => ⟨true, j rfl⟩
 refine br rfl (fun hc31 => ?_) fun hc31 => ?_
 exact en rfl fun _ _ j => ⟨true, j rfl⟩
 refine br rfl (fun hc32 => ?_) fun hc32 => ?_
 exact en rfl fun _ _ j => ⟨true, j rfl⟩
 refine br rfl (fun hc33 => ?_) fun hc33 => ?_
 exact en rfl fun _ _ j => ⟨true, j rfl⟩
 refine ld 1 rfl rfl ?_
 refine cl zsS rfl (fun r34 w hr34 hO => zbw r23.2 r34 _ (hG.own hF hO) (hO.blkSees (i := 0) rfl) hr34) fun r34 hr34 => ?_
 refine rw_ rfl fun a w hf hO hm => ?_
 refine zt (vs := [(0, str r34)]) (cs := [str r34]) (e := 9) (sz := 1) hf rfl rfl (fun w => by kernel_rfl) rfl rfl hO fun a b35 w hf hO => ?_
 refine S.op tb ?_ hf hO hm
 refine kn (b' := false) hc33 rfl ?_
 refine cl ztu rfl (fun r36 w hr36 hO => zdt zaG ([r34] : List Str) r36 _ (hG.own hF hO) c_87 (fun y0 r w hG h => zhT (zeA y0 r w hG h)) (hO.rowSees (i := 0) rfl) (hO.rowCap (i := 0) rfl) hr36) fun r36 hr36 => ?_
 exact ec [1, 2, 3, 4] rfl rfl rfl fun _ _ j => ⟨!r36, j rfl⟩
 rintro a w ⟨t37, hf, hO, hm⟩
 rw [zV] at hm
 refine S.co tb ?_ hf hO hm
 refine br rfl (fun hc38 => ?_) fun hc38 => ?_
 refine vl rfl rfl (fun a w hf hO => zg (vs := []) (v := .agg #[int 0, str [], str [], int 0, str [], int 0, .slice none 0 0]) hf rfl (by kernel_rfl)) ?_
 refine st 3 rfl rfl ?_
 refine nl 110 2 ?_
 refine re_ rfl fun a w hf hO hm => ?_
 obtain rfl := Option.some.inj hm
 exact zc Tryz.results118 hf (.cell rfl (zd (n := 7) (vs := [int 0, str [], str [], int 0, str [], int 0, .slice none 0 0]) zcE zce rfl ((hO.blkSees (i := 4) rfl).cells (o := 0) (n := 7) rfl)) (.tmp rfl .nil)) ⟨none, 0, rfl, (hO.sub (.cons_cons _ (.cons _ (.cons _ (.cons _ (.cons _ .slnil))))))⟩
 refine ld 1 rfl rfl ?_
 refine cl zsS rfl (fun r41 w hr41 hO => zbw r23.2 r41 _ (hG.own hF hO) (hO.blkSees (i := 0) rfl) hr41) fun r41 hr41 => ?_
 refine vl rfl rfl (fun a w hf hO => zg (vs := [(0, int 2), (5, int r14.1), (3, int r26.1), (4, str r41)]) (v := .agg #[int 2, str [], str [], int r26.1, str r41, int r14.1, .slice none 0 0]) hf rfl (by kernel_rfl)) ?_
 refine st 3 rfl rfl ?_
 refine nl 110 2 ?_
 refine re_ rfl fun a w hf hO hm => ?_
 obtain rfl := Option.some.inj hm
 exact zc Tryz.results118 hf (.cell rfl (zd (n := 7) (vs := [int 2, str [], str [], int r26.1, str r41, int r14.1, .slice none 0 0]) zcE zce rfl ((hO.blkSees (i := 4) rfl).cells (o := 0) (n := 7) rfl)) (.tmp rfl .nil)) ⟨none, 0, rfl, (hO.sub (.cons_cons _ (.cons _ (.cons _ (.cons _ (.cons _ .slnil))))))⟩

theorem ze2 (x_kind : Int) (x_s : Str) (R : api_Head × Int) (w0 : World) (hG : zaq w0) (hm : zbB x_kind x_s = some R) :
    Calls Tryz.prog 80 #[int x_kind, str x_s] w0 fun e w' => ∃ (p0 : Option Addr) (c0 : Nat), e = .returned (.tuple #[.agg #[int R.1.Kind, str R.1.Method, str R.1.Target, int R.1.Code, str R.1.Reason, int R.1.Minor, .slice p0 R.1.Fields.length c0], int R.2]) ∧ Dk.Own w0 [] w' [.row (.slice p0 R.1.Fields.length c0) 110 2 R.1.Fields.length (cells za R.1.Fields)] := by
 rw [zbB] at hm
 have hF : zq [] := ze
 have hO : Dk.Own w0 [] w0 [] := Dk.Own.refl w0
 refine S.enter tb Tryz.func80 rfl Tryz.ntmps80 rfl ?_ hO hm
 refine al zj7 rfl fun b1 => ?_
 refine nl 110 2 ?_
 refine jv 2 [0, 1, 4] [0, 1] (fun J E L => ∃ (t4 : Bool), J ((6, .bool t4) :: E) (L) (zcT x_kind x_s t4)) rfl ?_ ?_
 refine br rfl (fun hc3 => ?_) fun hc3 => ?_
 exact en rfl fun _ _ j => ⟨!(x_kind == 2), j rfl⟩
 exact en rfl fun _ _ j => ⟨false, j rfl⟩
 rintro a w ⟨t4, hf, hO, hm⟩
 rw [zcT] at hm
 refine S.co tb ?_ hf hO hm
 refine br rfl (fun hc5 => ?_) fun hc5 => ?_
 refine vl rfl rfl (fun a w hf hO => zg (vs := []) (v := .agg #[int 0, str [], str [], int 0, str [], int 0, .slice none 0 0]) hf rfl (by kernel_rfl)) ?_
 refine st 1 rfl rfl ?_
 refine nl 110 2 ?_
 refine re_ rfl fun a w hf hO hm => ?_
 obtain rfl := Option.some.inj hm
 exact zc Tryz.results80 hf (.cell rfl (zd (n := 7) (vs := [int 0, str [], str [], int 0, str [], int 0, .slice none 0 0]) zcE zce rfl ((hO.blkSees (i := 2) rfl).cells (o := 0) (n := 7) rfl)) (.tmp rfl .nil)) ⟨none, 0, rfl, (hO.sub (.cons_cons _ (.cons _ (.cons _ .slnil))))⟩
 refine cl c_116 rfl (fun r7 w hr7 hO => zhP x_s [13, 10] r7 _ (hG.own hF hO).1 hr7) fun r7 hr7 => ?_
 refine br rfl (fun hc9 => ?_) fun hc9 => ?_
 refine vl rfl rfl (fun a w hf hO => zg (vs := []) (v := .agg #[int 0, str [], str [], int 0, str [], int 0, .slice none 0 0]) hf rfl (by kernel_rfl)) ?_
 refine st 1 rfl rfl ?_
 refine nl 110 2 ?_
 refine re_ rfl fun a w hf hO hm => ?_
 obtain rfl := Option.some.inj hm
 exact zc Tryz.results80 hf (.cell rfl (zd (n := 7) (vs := [int 0, str [], str [], int 0, str [], int 0, .slice none 0 0]) zcE zce rfl ((hO.blkSees (i := 2) rfl).cells (o := 0) (n := 7) rfl)) (.tmp rfl .nil)) ⟨none, 0, rfl, (hO.sub (.cons_cons _ (.cons _ (.cons _ .slnil))))⟩
 refine br rfl (fun hc12 => ?_) fun hc12 => ?_
 refine cm2 c_117 rfl (fun r13 w hr13 hO => zno x_s r13 _ (hG.own hF hO) hr13) fun r13 hr13 p14 c15 => ?_
 refine st 2 rfl rfl ?_
 refine re_ rfl fun a w hf hO hm => ?_
 obtain rfl := Option.some.inj hm
 exact zc Tryz.results80 hf (.cell rfl (zd (n := 7) (vs := [int r13.1.Kind, str r13.1.Method, str r13.1.Target, int r13.1.Code, str r13.1.Reason, int r13.1.Minor, .slice p14 r13.1.Fields.length c15]) zcE zce rfl ((hO.blkSees (i := 2) rfl).cells (o := 0) (n := 7) rfl)) (.tmp rfl .nil)) ⟨p14, c15, rfl, (hO.sub (.cons_cons _ (.cons _ (.cons _ .slnil))))⟩
 refine cm2 c_118 rfl (fun r18 w hr18 hO => zoc x_s r18 _ (hG.own hF hO).1 hr18) fun r18 hr18 p19 c20 => ?_
 refine st 2 rfl rfl ?_
 refine re_ rfl fun a w hf hO hm => ?_
 obtain rfl := Option.some.inj hm
 exact zc Tryz.results80 hf (.cell rfl (zd (n := 7) (vs := [int r18.1.Kind, str r18.1.Method, str r18.1.Target, int r18.1.Code, str r18.1.Reason, int r18.1.Minor, .slice p19 r18.1.Fields.length c20]) zcE zce rfl ((hO.blkSees (i := 2) rfl).cells (o := 0) (n := 7) rfl)) (.tmp rfl .nil)) ⟨p19, c20, rfl, (hO.sub (.cons_cons _ (.cons _ (.cons _ .slnil))))⟩

theorem zhM (x_c : scan_Scanner) (R : Str × scan_Scanner) (w0 : World) (hG : zr w0) {x_c_b0 : Nat} {F : List Nat} (hF : zq F) (hO : Dk.Own w0 F w0 [.blk x_c_b0 [str x_c.f_s, int x_c.f_at] 277]) (hm : zdH x_c = some R) :
    Calls Tryz.prog 197 #[ptr x_c_b0 0] w0 fun e w' => e = .returned (str R.1) ∧ Dk.Own w0 F w' [.blk x_c_b0 [str R.2.f_s, int R.2.f_at] 277] := by
 rw [zdH] at hm
 refine S.enter tb Tryz.func197 rfl Tryz.ntmps197 rfl ?_ hO hm
 refine cw0 zwK [0] 1 [] rfl (fun r2 w hr2 hO hfar3 hlend3 => zds x_c zgk r2 _ (hG.own hF hO) hfar3 hlend3 c_124 (fun y0 r w hG h => zhT (zlW y0 r w hG h)) hr2) (fun _ _ => trivial) hF hG.size fun r2 hr2 => ?_
 refine re_ rfl fun a w hf hO hm => ?_
 obtain rfl := Option.some.inj hm
 exact zc Tryz.results197 hf (.tmp rfl .nil) ⟨rfl, hO⟩

end Go.Proofs
end
section
set_option linter.unusedVariables false
set_option maxHeartbeats 1000000
set_option linter.unusedSimpArgs false
set_option maxRecDepth 100000
namespace Go.Proofs
open Go.Dk Go.Dm Go.RowKit

theorem zkg (x_s : Str) (R : api_Field × Int) (w0 : World) (hG : zr w0) (hm : zgx x_s = some R) :
    Calls Tryz.prog 153 #[str x_s] w0 (Ret w0 (fun R => .tuple #[.agg #[str R.1.Name, str R.1.Value], int R.2]) R) := by
 rw [zgx] at hm
 have hF : zq [] := ze
 have hO : Dk.Own w0 [] w0 [] := Dk.Own.refl w0
 refine S.enter tb Tryz.func153 rfl Tryz.ntmps153 rfl ?_ hO hm
 refine al zpA rfl fun b1 => ?_
 refine cl c_116 rfl (fun r3 w hr3 hO => zhP x_s [13, 10] r3 _ (hG.own hF hO) hr3) fun r3 hr3 => ?_
 refine br rfl (fun hc5 => ?_) fun hc5 => ?_
 refine vl rfl rfl (fun a w hf hO => zg (vs := []) (v := .agg #[str [], str []]) hf rfl (by kernel_rfl)) ?_
 refine st 0 rfl rfl ?_
 refine re_ rfl fun a w hf hO hm => ?_
 obtain rfl := Option.some.inj hm
 exact zc Tryz.results153 hf (.cell rfl (zd (n := 2) (vs := [str [], str []]) zf7 zaV rfl ((hO.blkSees (i := 0) rfl).cells (o := 0) (n := 2) rfl)) (.tmp rfl .nil)) ⟨rfl, hO.below⟩
 refine cm1 zuL rfl (fun r8 w hr8 hO => zjS x_s r8 _ (hG.own hF hO) hr8) fun r8 hr8 b9 => ?_
 refine cw0 c_197 [0, 1] 1 [] rfl (fun r11 w hr11 hO hfar12 hlend12 => zhM r8 r11 _ (hG.own hF hO) hfar12 hlend12 hr11) (fun _ _ => trivial) hF hG.size fun r11 hr11 => ?_
 refine br rfl (fun hc14 => ?_) fun hc14 => ?_
 refine vl rfl rfl (fun a w hf hO => zg (vs := []) (v := .agg #[str [], str []]) hf rfl (by kernel_rfl)) ?_
 refine st 1 rfl rfl ?_
 refine re_ rfl fun a w hf hO hm => ?_
 obtain rfl := Option.some.inj hm
 exact zc Tryz.results153 hf (.cell rfl (zd (n := 2) (vs := [str [], str []]) zf7 zaV rfl ((hO.blkSees (i := 1) rfl).cells (o := 0) (n := 2) rfl)) (.tmp rfl .nil)) ⟨rfl, hO.below⟩
 refine cw0 c_161 [0, 1] 1 [] rfl (fun r17 w hr17 hO hfar18 hlend18 => ziS r11.2 r17 _ (hG.own hF hO) hfar18 hlend18 hr17) (fun _ _ => trivial) hF hG.size fun r17 hr17 => ?_
 refine cw0 c_197 [0, 1] 1 [] rfl (fun r20 w hr20 hO hfar21 hlend21 => zhM r17.2.2 r20 _ (hG.own hF hO) hfar21 hlend21 hr20) (fun _ _ => trivial) hF hG.size fun r20 hr20 => ?_
 refine jv 2 [2, 4, 5, 7] [1] (fun J E L => ∃ (t26 : Bool) (s27 : Str) (i28 : Int), J ((24, .bool t26) :: E) (.blk b9 [str s27, int i28] 277 :: L) (zeo r17 r20 t26 s27 i28)) rfl ?_ ?_
 refine br rfl (fun hc23 => ?_) fun hc23 => ?_
 exact en rfl fun _ _ j => ⟨true, r20.2.f_s, r20.2.f_at, j rfl⟩
 refine cw0 zi9 [0, 1] 1 [] rfl (fun r24 w hr24 hO hfar25 hlend25 => zv r20.2 58 r24 _ (hG.own hF hO) hfar25 hlend25 hr24) (fun _ _ => trivial) hF hG.size fun r24 hr24 => ?_
 refine kn (b' := false) hc23 rfl ?_
 exact en rfl fun _ _ j => ⟨!r24.1, r24.2.f_s, r24.2.f_at, j rfl⟩
 rintro a w ⟨t26, s27, i28, hf, hO, hm⟩
 rw [zeo] at hm
 refine S.co tb ?_ hf hO hm
 refine br rfl (fun hc29 => ?_) fun hc29 => ?_
 refine vl rfl rfl (fun a w hf hO => zg (vs := []) (v := .agg #[str [], str []]) hf rfl (by kernel_rfl)) ?_
 refine st 1 rfl rfl ?_
 refine re_ rfl fun a w hf hO hm => ?_
 obtain rfl := Option.some.inj hm
 exact zc Tryz.results153 hf (.cell rfl (zd (n := 2) (vs := [str [], str []]) zf7 zaV rfl ((hO.blkSees (i := 1) rfl).cells (o := 0) (n := 2) rfl)) (.tmp rfl .nil)) ⟨rfl, hO.below⟩
 refine br rfl (fun hc32 => ?_) fun hc32 => ?_
 refine vl rfl rfl (fun a w hf hO => zg (vs := []) (v := .agg #[str [], str []]) hf rfl (by kernel_rfl)) ?_
 refine st 1 rfl rfl ?_
 refine re_ rfl fun a w hf hO hm => ?_
 obtain rfl := Option.some.inj hm
 exact zc Tryz.results153 hf (.cell rfl (zd (n := 2) (vs := [str [], str []]) zf7 zaV rfl ((hO.blkSees (i := 1) rfl).cells (o := 0) (n := 2) rfl)) (.tmp rfl .nil)) ⟨rfl, hO.below⟩
 refine cl zsS rfl (fun r34 w hr34 hO => zbw (⟨s27, i28⟩ : scan_Scanner) r34 _ (hG.own hF hO) (hO.blkSees (i := 0) rfl) hr34) fun r34 hr34 => ?_
 refine rw_ rfl fun a w hf hO hm => ?_
 refine zt (vs := [(0, str r34)]) (cs := [str r34]) (e := 9) (sz := 1) hf rfl rfl (fun w => by kernel_rfl) rfl rfl hO fun a b35 w hf hO => ?_
 refine S.op tb ?_ hf hO hm
 refine cl ztu rfl (fun r36 w hr36 hO => zdt zaG ([r34] : List Str) r36 _ (hG.own hF hO) c_87 (fun y0 r w hG h => zhT (zeA y0 r w hG h)) (hO.rowSees (i := 0) rfl) (hO.rowCap (i := 0) rfl) hr36) fun r36 hr36 => ?_
 refine br rfl (fun hc38 => ?_) fun hc38 => ?_
 refine vl rfl rfl (fun a w hf hO => zg (vs := []) (v := .agg #[str [], str []]) hf rfl (by kernel_rfl)) ?_
 refine st 2 rfl rfl ?_
 refine re_ rfl fun a w hf hO hm => ?_
 obtain rfl := Option.some.inj hm
 exact zc Tryz.results153 hf (.cell rfl (zd (n := 2) (vs := [str [], str []]) zf7 zaV rfl ((hO.blkSees (i := 2) rfl).cells (o := 0) (n := 2) rfl)) (.tmp rfl .nil)) ⟨rfl, hO.below⟩
 refine cl zsS rfl (fun r41 w hr41 hO => zbw (⟨s27, i28⟩ : scan_Scanner) r41 _ (hG.own hF hO) (hO.blkSees (i := 1) rfl) hr41) fun r41 hr41 => ?_
 refine cl c_88 rfl (fun r42 w hr42 hO => zju r41 [32, 9] r42 _ (hG.own hF hO) hr42) fun r42 hr42 => ?_
 refine vl rfl rfl (fun a w hf hO => zg (vs := [(0, str r17.1), (1, str r42)]) (v := .agg #[str r17.1, str r42]) hf rfl (by kernel_rfl)) ?_
 refine st 2 rfl rfl ?_
 refine re_ rfl fun a w hf hO hm => ?_
 obtain rfl := Option.some.inj hm
 exact zc Tryz.results153 hf (.cell rfl (zd (n := 2) (vs := [str r17.1, str r42]) zf7 zaV rfl ((hO.blkSees (i := 2) rfl).cells (o := 0) (n := 2) rfl)) (.tmp rfl .nil)) ⟨rfl, hO.below⟩

theorem zcq (x_s : List api_Field) (R : List api_Field) (w0 : World) (hG : zr w0) {x_s_p0 : Option Addr} {x_s_c0 : Nat} (hs0 : zC w0 x_s_p0 (cells za x_s)) (hc0 : x_s.length ≤ x_s_c0) (hm : zJ x_s = some R) :
    Calls Tryz.prog 180 #[.slice x_s_p0 x_s.length x_s_c0] w0 fun e w' => ∃ (p0 : Option Addr) (c0 : Nat), e = .returned (.slice p0 R.length c0) ∧ Dk.Own w0 [] w' [.row (.slice p0 R.length c0) 110 2 R.length (cells za R)] := by
 rw [zJ] at hm
 have hF : zq [] := ze
 have hO : Dk.Own w0 [] w0 [] := Dk.Own.refl w0
 have hO := hO.addShr hs0 (by simp [Res.shared])
 refine S.enter tb Tryz.func180 rfl Tryz.ntmps180 rfl ?_ hO hm
 refine nl 110 2 ?_
 refine vl rfl rfl (fun a w hf hO => zw9 (ad := x_s_p0) Tryz.underlying33 hf rfl rfl) ?_
 refine rc_ rfl fun a w hf hO hm => ?_
 rcases zcD (x_s_p0.isNone) with hc3 | hc3
 have hxhc3 : x_s = [] := zxa (enc := za) (sz := 2) (fun _ => rfl) (by decide) (hO.sees (i := 1) rfl) hc3
 rw [hxhc3] at hm
 have hm : some [] = some R := by first | exact hm | (rw [hxhc3]; exact hm) | simpa [hxhc3] using hm
 refine zxl hf rfl hc3 ?_
 refine S.co tb ?_ hf hO hm
 refine nl 110 2 ?_
 refine re_ rfl fun a w hf hO hm => ?_
 obtain rfl := Option.some.inj hm
 exact zc Tryz.results180 hf (.tmp rfl .nil) ⟨none, 0, rfl, (hO.sub (.cons_cons _ (.cons _ (.cons _ .slnil))))⟩
 refine zxm hf rfl hc3 ?_
 refine S.co tb ?_ hf hO hm
 refine rw_ rfl fun a w hf hO hm => ?_
 refine zt (vs := []) (cs := []) (e := 110) (sz := 2) hf rfl rfl (fun w => by kernel_rfl) rfl rfl hO fun a b6 w hf hO => ?_
 refine S.op tb ?_ hf hO hm
 refine rw_ rfl fun a w hf hO hm => ?_
 obtain ⟨hg9, hm⟩ := og hm
 refine zlu zuy (enc := za) (xs := []) (ys := x_s) (i := 0) (fun _ => rfl) rfl (hO.sees (i := 2) rfl) (by simp [za, Value.oneCell']) hg9 hf rfl rfl rfl hO fun a p7 c8 w hf hO => ?_
 refine S.op tb ?_ hf hO hm
 refine re_ rfl fun a w hf hO hm => ?_
 obtain rfl := Option.some.inj hm
 exact zc Tryz.results180 hf (.tmp rfl .nil) ⟨p7, c8, rfl, (hO.sub (.cons_cons _ (.cons _ (.cons _ .slnil))))⟩

theorem zpD (x_l : List api_Field) (R : bag_Bag) (w0 : World) (hG : zr w0) {x_l_p0 : Option Addr} {x_l_c0 : Nat} (hs0 : zC w0 x_l_p0 (cells za x_l)) (hc0 : x_l.length ≤ x_l_c0) (hm : zng x_l = some R) :
    Calls Tryz.prog 132 #[.slice x_l_p0 x_l.length x_l_c0] w0 fun e w' => ∃ (b0 : Nat) (p1 : Option Addr) (c1 : Nat), e = .returned (ptr b0 0) ∧ Dk.Own w0 [] w' [.blk b0 [.slice p1 R.f_l.length c1] 263, .row (.slice p1 R.f_l.length c1) 110 2 R.f_l.length (cells za R.f_l)] := by
 rw [zng] at hm
 have hF : zq [] := ze
 have hO : Dk.Own w0 [] w0 [] := Dk.Own.refl w0
 have hO := hO.addShr hs0 (by simp [Res.shared])
 refine S.enter tb Tryz.func132 rfl Tryz.ntmps132 rfl ?_ hO hm
 refine cm2 c_180 rfl (fun r2 w hr2 hO => zcq x_l r2 _ (hG.own hF hO) (hO.sees (i := 0) rfl) hc0 hr2) fun r2 hr2 p3 c4 => ?_
 refine vl rfl rfl (fun a w hf hO => zg (vs := [(0, .slice p3 r2.length c4)]) (v := .agg #[.slice p3 r2.length c4]) hf rfl (by kernel_rfl)) ?_
 refine bo rfl fun b5 => ?_
 refine re_ rfl fun a w hf hO hm => ?_
 obtain rfl := Option.some.inj hm
 exact zc Tryz.results132 hf (.tmp rfl .nil) ⟨b5, p3, c4, rfl, (hO.sub (.cons_cons _ (.cons_cons _ (.cons _ .slnil))))⟩

theorem zrE (x_b : bag_Bag) (R : List api_Field) (w0 : World) (hG : zr w0) {x_b_b0 : Nat} {x_b_p1 : Option Addr} {x_b_c1 : Nat} (hs0 : zC w0 (some ⟨x_b_b0, 0, none⟩) [.slice x_b_p1 x_b.f_l.length x_b_c1]) (hs1 : zC w0 x_b_p1 (cells za x_b.f_l)) (hc1 : x_b.f_l.length ≤ x_b_c1) (hm : zjg x_b = some R) :
    Calls Tryz.prog 181 #[ptr x_b_b0 0] w0 fun e w' => ∃ (p0 : Option Addr) (c0 : Nat), e = .returned (.slice p0 R.length c0) ∧ Dk.Own w0 [] w' [.row (.slice p0 R.length c0) 110 2 R.length (cells za R)] := by
 rw [zjg] at hm
 have hF : zq [] := ze
 have hO : Dk.Own w0 [] w0 [] := Dk.Own.refl w0
 have hO := hO.addShr hs0 (by simp [Res.shared])
 have hO := hO.addShr hs1 (by simp [Res.shared])
 refine S.enter tb Tryz.func181 rfl Tryz.ntmps181 rfl ?_ hO hm
 refine nl 110 2 ?_
 refine vl rfl rfl (fun a w hf hO => zcL Tryz.underlying211 hf rfl rfl) ?_
 refine kn (b' := false) rfl rfl ?_
 refine ld 2 rfl rfl ?_
 refine cm2 c_180 rfl (fun r4 w hr4 hO => zcq x_b.f_l r4 _ (hG.own hF hO) (hO.sees (i := 1) rfl) hc1 hr4) fun r4 hr4 p5 c6 => ?_
 refine re_ rfl fun a w hf hO hm => ?_
 obtain rfl := Option.some.inj hm
 exact zc Tryz.results181 hf (.tmp rfl .nil) ⟨p5, c6, rfl, (hO.sub (.cons_cons _ (.cons _ (.cons _ (.cons _ .slnil)))))⟩

theorem zoV (x_a : Str) (x_b : Str) (R : Bool) (w0 : World) (hG : zr w0) (hm : zh3 x_a x_b = some R) :
    Calls Tryz.prog 182 #[str x_a, str x_b] w0 (Ret w0 (fun R => .bool R) R) := by
 rw [zh3] at hm
 have hF : zq [] := ze
 have hO : Dk.Own w0 [] w0 [] := Dk.Own.refl w0
 refine S.enter tb Tryz.func182 rfl Tryz.ntmps182 rfl ?_ hO hm
 refine cl zy5 rfl (fun r2 w hr2 hO => zlz x_a r2 _ (hG.own hF hO) hr2) fun r2 hr2 => ?_
 refine cl zy5 rfl (fun r3 w hr3 hO => zlz x_b r3 _ (hG.own hF hO) hr3) fun r3 hr3 => ?_
 exact rt Tryz.results182 rfl

theorem zh1 (x_b : bag_Bag) (x_name : Str) (R : List Str) (w0 : World) (hG : zr w0) {x_b_b0 : Nat} {x_b_p1 : Option Addr} {x_b_c1 : Nat} (hs0 : zC w0 (some ⟨x_b_b0, 0, none⟩) [.slice x_b_p1 x_b.f_l.length x_b_c1]) (hs1 : zC w0 x_b_p1 (cells za x_b.f_l)) (hc1 : x_b.f_l.length ≤ x_b_c1) (hm : zcU x_b x_name = some R) :
    Calls Tryz.prog 133 #[ptr x_b_b0 0, str x_name] w0 fun e w' => ∃ (p0 : Option Addr) (c0 : Nat), e = .returned (.slice p0 R.length c0) ∧ Dk.Own w0 [] w' [.row (.slice p0 R.length c0) 9 1 R.length (cells zf R)] := by
 rw [zcU] at hm
 have hF : zq [] := ze
 have hO : Dk.Own w0 [] w0 [] := Dk.Own.refl w0
 have hO := hO.addShr hs0 (by simp [Res.shared])
 have hO := hO.addShr hs1 (by simp [Res.shared])
 refine S.enter tb Tryz.func133 rfl Tryz.ntmps133 rfl ?_ hO hm
 refine nl 9 1 ?_
 refine nl 9 1 ?_
 refine cm2 c_181 rfl (fun r3 w hr3 hO => zrE x_b r3 _ (hG.own hF hO) (hO.sees (i := 3) rfl) (hO.sees (i := 2) rfl) hc1 hr3) fun r3 hr3 p4 c5 => ?_
 refine ch [1, 0, 2, 3, 4] rfl rfl ?_
 refine lv [1, 9, 10] [1, 2, 3, 4] (fun J E L k => ∃ (p7 : Option Addr) (c8 : Nat) (l9 : List Str) (i10 : Int), J ((5, .slice p7 l9.length c8) :: (11, int i10) :: E) (.row (.slice p7 l9.length c8) 9 1 l9.length (cells zf l9) :: L) (zax x_name r3 k l9 i10)) rfl (fun _ _ j => ⟨none, 0, [], 0, j rfl⟩) ?_
 rintro n1 a w ⟨p7, c8, l9, i10, hf, hO, hm⟩
 obtain _ | n1 := n1
 rw [zax] at hm
 cases hm
 rw [zax] at hm
 refine S.co tb ?_ hf hO hm
 refine br rfl (fun hc12 => ?_) fun hc12 => ?_
 refine jv 3 [1, 9, 10, 11] [1, 2, 3, 4] (fun J E L => ∃ (p26 : Option Addr) (c27 : Nat) (l28 : List Str), J ((5, .slice p26 l28.length c27) :: E) (.row (.slice p26 l28.length c27) 9 1 l28.length (cells zf l28) :: L) (zdk (zax x_name r3 n1) i10 l28)) rfl ?_ ?_
 refine rw_ rfl fun a w hf hO hm => ?_
 obtain ⟨x14, hx14, hm⟩ := ob hm
 obtain ⟨b15, o16, hix14, hSx14, hAx14⟩ := zE (enc := za) (sz := 2) (xs := r3) 33 Tryz.underlying33 zaV (by decide) (fun _ => rfl) hO (i := 1) rfl hx14
 refine zG (zh hix14 hf rfl rfl) rfl hf rfl rfl fun a hf => ?_
 refine S.op tb ?_ hf hO hm
 refine vl rfl rfl (fun a w hf hO => zdR (o := 0) (vs := [str x14.Name, str x14.Value]) zf7 zaV (hSx14 _ (hO.rowSees (i := 1) rfl)) rfl rfl hf rfl) ?_
 refine al zpA rfl fun b17 => ?_
 refine st 0 rfl rfl ?_
 refine ld 0 rfl rfl ?_
 refine cl c_182 rfl (fun r19 w hr19 hO => zoV x14.Name x_name r19 _ (hG.own hF hO) hr19) fun r19 hr19 => ?_
 refine br rfl (fun hc21 => ?_) fun hc21 => ?_
 refine ld 0 rfl rfl ?_
 refine rw_ rfl fun a w hf hO hm => ?_
 refine zt (vs := [(0, str x14.Value)]) (cs := [str x14.Value]) (e := 9) (sz := 1) hf rfl rfl (fun w => by kernel_rfl) rfl rfl hO fun a b22 w hf hO => ?_
 refine S.op tb ?_ hf hO hm
 refine rw_ rfl fun a w hf hO hm => ?_
 obtain ⟨hg25, hm⟩ := og hm
 refine zaL zjy (enc := zf) (xs := l9) (ys := ([x14.Value] : List Str)) (i := 2) (fun _ => rfl) rfl (hO.rowSees (i := 0) rfl) (by simp [cells, zf, Value.oneCell']) hg25 hf rfl rfl rfl hO fun a p23 c24 w hf hO => ?_
 refine S.op tb ?_ hf hO hm
 exact ec [2, 3, 4, 5, 6] rfl rfl rfl fun _ _ j => ⟨p23, c24, l9 ++ ([x14.Value] : List Str), j rfl⟩
 exact ec [1, 2, 3, 4, 5] rfl rfl rfl fun _ _ j => ⟨p7, c8, l9, j rfl⟩
 rintro a w ⟨p26, c27, l28, hf, hO, hm⟩
 rw [zdk] at hm
 refine S.co tb ?_ hf hO hm
 refine bi rfl fun i29 hi29 => ?_
 exact en rfl fun _ _ j => ⟨_, Nat.lt_succ_self _, p26, c27, l28, i29, j rfl⟩
 refine re_ rfl fun a w hf hO hm => ?_
 obtain rfl := Option.some.inj hm
 exact zc Tryz.results133 hf (.tmp rfl .nil) ⟨p7, c8, rfl, (hO.sub (.cons_cons _ (.cons _ (.cons _ (.cons _ (.cons _ .slnil))))))⟩

theorem ztR (x_h : api_Head) (R : Bool) (w0 : World) (hG : zaq w0) {x_h_p0 : Option Addr} {x_h_c0 : Nat} (hs0 : zC w0 x_h_p0 (cells za x_h.Fields)) (hc0 : x_h.Fields.length ≤ x_h_c0) (hm : zjK x_h = some R) :
    Calls Tryz.prog 89 #[.agg #[int x_h.Kind, str x_h.Method, str x_h.Target, int x_h.Code, str x_h.Reason, int x_h.Minor, .slice x_h_p0 x_h.Fields.length x_h_c0]] w0 (Ret w0 (fun R => .bool R) R) := by
 rw [zjK] at hm
 have hF : zq [] := ze
 have hO : Dk.Own w0 [] w0 [] := Dk.Own.refl w0
 have hO := hO.addShr hs0 (by simp [Res.shared])
 refine S.enter tb Tryz.func89 rfl Tryz.ntmps89 rfl ?_ hO hm
 refine bo rfl fun b1 => ?_
 refine ld 0 rfl rfl ?_
 refine br rfl (fun hc4 => ?_) fun hc4 => ?_
 exact rt Tryz.results89 rfl
 refine ld 0 rfl rfl ?_
 refine cm3 c_132 rfl (fun r7 w hr7 hO => zpD x_h.Fields r7 _ (hG.own hF hO).1 (hO.sees (i := 1) rfl) hc0 hr7) fun r7 hr7 b8 p9 c10 => ?_
 refine cm2 zy3 rfl (fun r11 w hr11 hO => zh1 r7 [72, 111, 115, 116] r11 _ (hG.own hF hO).1 (hO.blkSees (i := 0) rfl) (hO.rowSees (i := 1) rfl) (hO.rowCap (i := 1) rfl) hr11) fun r11 hr11 p12 c13 => ?_
 refine jv 1 [3] [0, 1, 2, 3, 4] (fun J E L => ∃ (t16 : Bool), J ((24, .bool t16) :: E) (L) (zdv r11 t16)) rfl ?_ ?_
 refine br rfl (fun hc15 => ?_) fun hc15 => ?_
 exact en rfl fun _ _ j => ⟨true, j rfl⟩
 refine ld 3 rfl rfl ?_
 exact en rfl fun _ _ j => ⟨decide ((r11.length : Int) < x_h.Minor), j rfl⟩
 rintro a w ⟨t16, hf, hO, hm⟩
 rw [zdv] at hm
 refine S.co tb ?_ hf hO hm
 refine br rfl (fun hc17 => ?_) fun hc17 => ?_
 exact rt Tryz.results89 rfl
 refine lv [25, 26] [0, 1, 2, 3, 4] (fun J E L k => ∃ (i21 : Int), J ((27, int i21) :: E) (L) (zbV r11 k i21)) rfl (fun _ _ j => ⟨0, j rfl⟩) ?_
 rintro n2 a w ⟨i21, hf, hO, hm⟩
 obtain _ | n2 := n2
 rw [zbV] at hm
 cases hm
 rw [zbV] at hm
 refine S.co tb ?_ hf hO hm
 refine br rfl (fun hc23 => ?_) fun hc23 => ?_
 refine rw_ rfl fun a w hf hO hm => ?_
 obtain ⟨x25, hx25, hm⟩ := ob hm
 obtain ⟨b26, o27, hix25, hSx25, hAx25⟩ := zE (enc := zf) (sz := 1) (xs := r11) 30 Tryz.underlying30 zdD (by decide) (fun _ => rfl) hO (i := 0) rfl hx25
 refine zG (zh hix25 hf rfl rfl) rfl hf rfl rfl fun a hf => ?_
 refine S.op tb ?_ hf hO hm
 refine vl rfl rfl (fun a w hf hO => zk (o := 0) zbx (hSx25 _ (hO.rowSees (i := 0) rfl)) rfl hf rfl) ?_
 refine cl zy4 rfl (fun r29 w hr29 hO => zhY x25 r29 _ (hG.own hF hO) hr29) fun r29 hr29 => ?_
 refine al zhg rfl fun b30 => ?_
 refine st 0 rfl rfl ?_
 refine jv 5 [25, 26, 27] [0, 1, 2, 3, 4, 5] (fun J E L => ∃ (t33 : Bool), J ((41, .bool t33) :: E) (L) (zgl (zbV r11 n2) i21 t33)) rfl ?_ ?_
 refine br rfl (fun hc32 => ?_) fun hc32 => ?_
 exact en rfl fun _ _ j => ⟨!(x25 == []), j rfl⟩
 exact en rfl fun _ _ j => ⟨false, j rfl⟩
 rintro a w ⟨t33, hf, hO, hm⟩
 rw [zgl] at hm
 refine S.co tb ?_ hf hO hm
 refine br rfl (fun hc34 => ?_) fun hc34 => ?_
 exact rt Tryz.results89 rfl
 refine bi rfl fun i37 hi37 => ?_
 exact ec [1, 2, 3, 4, 5] rfl rfl rfl fun _ _ j => ⟨_, Nat.lt_succ_self _, i37, j rfl⟩
 exact rt Tryz.results89 rfl

theorem zoW (x_h : api_Head) (R : Int) (w0 : World) (hG : zaq w0) {x_h_p0 : Option Addr} {x_h_c0 : Nat} (hs0 : zC w0 x_h_p0 (cells za x_h.Fields)) (hc0 : x_h.Fields.length ≤ x_h_c0) (hm : zh4 x_h = some R) :
    Calls Tryz.prog 60 #[.agg #[int x_h.Kind, str x_h.Method, str x_h.Target, int x_h.Code, str x_h.Reason, int x_h.Minor, .slice x_h_p0 x_h.Fields.length x_h_c0]] w0 (Ret w0 (fun R => int R) R) := by
 rw [zh4] at hm
 have hF : zq [] := ze
 have hO : Dk.Own w0 [] w0 [] := Dk.Own.refl w0
 have hO := hO.addShr hs0 (by simp [Res.shared])
 refine S.enter tb Tryz.func60 rfl Tryz.ntmps60 rfl ?_ hO hm
 refine bo rfl fun b1 => ?_
 refine ld 0 rfl rfl ?_
 refine br rfl (fun hc4 => ?_) fun hc4 => ?_
 exact rt Tryz.results60 rfl
 refine ld 0 rfl rfl ?_
 refine cl c_89 rfl (fun r6 w hr6 hO => ztR x_h r6 _ (hG.own hF hO) (hO.sees (i := 1) rfl) hc0 hr6) fun r6 hr6 => ?_
 refine br rfl (fun hc8 => ?_) fun hc8 => ?_
 exact rt Tryz.results60 rfl
 exact rt Tryz.results60 rfl

theorem ztS (x_a0 : Int) (x_a1 : Str) (x_a2 : Int) (R : api_Head × Int) (w0 : World) (hG : zaq w0) (hm : zoi x_a0 x_a1 x_a2 = some R) :
    Calls Tryz.prog 154 #[int x_a0, str x_a1, int x_a2] w0 fun e w' => ∃ (p0 : Option Addr) (c0 : Nat), e = .returned (.tuple #[.agg #[int R.1.Kind, str R.1.Method, str R.1.Target, int R.1.Code, str R.1.Reason, int R.1.Minor, .slice p0 R.1.Fields.length c0], int R.2]) ∧ Dk.Own w0 [] w' [.row (.slice p0 R.1.Fields.length c0) 110 2 R.1.Fields.length (cells za R.1.Fields)] := by
 rw [zoi] at hm
 have hF : zq [] := ze
 have hO : Dk.Own w0 [] w0 [] := Dk.Own.refl w0
 refine S.enter tb Tryz.func154 rfl Tryz.ntmps154 rfl ?_ hO hm
 refine al zj7 rfl fun b1 => ?_
 refine nl 110 2 ?_
 refine cm2 c_80 rfl (fun r3 w hr3 hO => ze2 x_a0 [] r3 _ (hG.own hF hO) hr3) fun r3 hr3 p4 c5 => ?_
 refine al zj7 rfl fun b6 => ?_
 refine nl 110 2 ?_
 refine st 1 rfl rfl ?_
 refine br rfl (fun hc9 => ?_) fun hc9 => ?_
 refine vl rfl rfl (fun a w hf hO => zg (vs := []) (v := .agg #[int 0, str [], str [], int 0, str [], int 0, .slice none 0 0]) hf rfl (by kernel_rfl)) ?_
 refine st 4 rfl rfl ?_
 refine nl 110 2 ?_
 refine re_ rfl fun a w hf hO hm => ?_
 obtain rfl := Option.some.inj hm
 exact zc Tryz.results154 hf (.cell rfl (zd (n := 7) (vs := [int 0, str [], str [], int 0, str [], int 0, .slice none 0 0]) zcE zce rfl ((hO.blkSees (i := 5) rfl).cells (o := 0) (n := 7) rfl)) (.tmp rfl .nil)) ⟨none, 0, rfl, (hO.sub (.cons_cons _ (.cons _ (.cons _ (.cons _ (.cons _ (.cons _ .slnil)))))))⟩
 refine cl c_198 rfl (fun r12 w hr12 hO => ziX x_a1 [13, 10, 13, 10] r12 _ (hG.own hF hO).1 hr12) fun r12 hr12 => ?_
 refine br rfl (fun hc15 => ?_) fun hc15 => ?_
 refine vl rfl rfl (fun a w hf hO => zg (vs := []) (v := .agg #[int 0, str [], str [], int 0, str [], int 0, .slice none 0 0]) hf rfl (by kernel_rfl)) ?_
 refine st 4 rfl rfl ?_
 refine nl 110 2 ?_
 refine re_ rfl fun a w hf hO hm => ?_
 obtain rfl := Option.some.inj hm
 exact zc Tryz.results154 hf (.cell rfl (zd (n := 7) (vs := [int 0, str [], str [], int 0, str [], int 0, .slice none 0 0]) zcE zce rfl ((hO.blkSees (i := 5) rfl).cells (o := 0) (n := 7) rfl)) (.tmp rfl .nil)) ⟨none, 0, rfl, (hO.sub (.cons_cons _ (.cons _ (.cons _ (.cons _ (.cons _ (.cons _ .slnil)))))))⟩
 refine jv 2 [0, 1, 6, 10] [0, 1, 2, 3, 4] (fun J E L => ∃ (t19 : Bool), J ((36, .bool t19) :: E) (L) (zit x_a0 x_a1 r12 t19)) rfl ?_ ?_
 refine br rfl (fun hc17 => ?_) fun hc17 => ?_
 exact en rfl fun _ _ j => ⟨true, j rfl⟩
 refine bi rfl fun i18 hi18 => ?_
 exact en rfl fun _ _ j => ⟨!(i18 == (x_a1.length : Int)), j rfl⟩
 rintro a w ⟨t19, hf, hO, hm⟩
 rw [zit] at hm
 refine S.co tb ?_ hf hO hm
 refine br rfl (fun hc20 => ?_) fun hc20 => ?_
 refine vl rfl rfl (fun a w hf hO => zg (vs := []) (v := .agg #[int 0, str [], str [], int 0, str [], int 0, .slice none 0 0]) hf rfl (by kernel_rfl)) ?_
 refine st 4 rfl rfl ?_
 refine nl 110 2 ?_
 refine re_ rfl fun a w hf hO hm => ?_
 obtain rfl := Option.some.inj hm
 exact zc Tryz.results154 hf (.cell rfl (zd (n := 7) (vs := [int 0, str [], str [], int 0, str [], int 0, .slice none 0 0]) zcE zce rfl ((hO.blkSees (i := 5) rfl).cells (o := 0) (n := 7) rfl)) (.tmp rfl .nil)) ⟨none, 0, rfl, (hO.sub (.cons_cons _ (.cons _ (.cons _ (.cons _ (.cons _ (.cons _ .slnil)))))))⟩
 refine bi rfl fun s23 hs23 => ?_
 refine cm2 c_199 rfl (fun r24 w hr24 hO => zlP s23 [13, 10] r24 _ (hG.own hF hO).1 hr24) fun r24 hr24 p25 c26 => ?_
 refine rw_ rfl fun a w hf hO hm => ?_
 obtain ⟨x28, hx28, hm⟩ := ob hm
 obtain ⟨b29, o30, hix28, hSx28, hAx28⟩ := zE (enc := zf) (sz := 1) (xs := r24) 30 Tryz.underlying30 zdD (by decide) (fun _ => rfl) hO (i := 0) rfl hx28
 refine zG (zh hix28 hf rfl rfl) rfl hf rfl rfl fun a hf => ?_
 refine S.op tb ?_ hf hO hm
 refine vl rfl rfl (fun a w hf hO => zk (o := 0) zbx (hSx28 _ (hO.rowSees (i := 0) rfl)) rfl hf rfl) ?_
 refine cm2 c_80 rfl (fun r31 w hr31 hO => ze2 x_a0 x28 r31 _ (hG.own hF hO) hr31) fun r31 hr31 p32 c33 => ?_
 refine al zj7 rfl fun b34 => ?_
 refine nl 110 2 ?_
 refine st 1 rfl rfl ?_
 refine br rfl (fun hc37 => ?_) fun hc37 => ?_
 refine vl rfl rfl (fun a w hf hO => zg (vs := []) (v := .agg #[int 0, str [], str [], int 0, str [], int 0, .slice none 0 0]) hf rfl (by kernel_rfl)) ?_
 refine st 8 rfl rfl ?_
 refine nl 110 2 ?_
 refine re_ rfl fun a w hf hO hm => ?_
 obtain rfl := Option.some.inj hm
 exact zc Tryz.results154 hf (.cell rfl (zd (n := 7) (vs := [int 0, str [], str [], int 0, str [], int 0, .slice none 0 0]) zcE zce rfl ((hO.blkSees (i := 9) rfl).cells (o := 0) (n := 7) rfl)) (.tmp rfl .nil)) ⟨none, 0, rfl, (hO.sub (.cons_cons _ (.cons _ (.cons _ (.cons _ (.cons _ (.cons _ (.cons _ (.cons _ (.cons _ (.cons _ .slnil)))))))))))⟩
 refine jv 0 [6, 12] [0, 4, 5, 6, 7, 8] (fun J E L => ∃ (i75 : Int) (s76 : Str) (s77 : Str) (i78 : Int) (s79 : Str) (i80 : Int) (p81 : Option Addr) (c82 : Nat) (l83 : List api_Field), J (E) (.blk b34 [int i75, str s76, str s77, int i78, str s79, int i80, .slice p81 l83.length c82] 35 :: .row (.slice p81 l83.length c82) 110 2 l83.length (cells za l83) :: .shr p25 (cells zf r24) :: L) (zkJ i75 s76 s77 i78 s79 i80 l83)) rfl ?_ ?_
 refine rw_ rfl fun a w hf hO hm => ?_
 obtain ⟨l41, hl41, hm⟩ := ob hm
 have hcr40 := hO.rowCap (i := 3) rfl
 have hO := hO.giveRow (i := 3) rfl
 obtain ⟨p42, c43, hrl41, hVl41, hCl41, hPl41⟩ := zxg (enc := zf) (xs := r24) 30 Tryz.underlying30 zdD (fun _ => rfl) (hO.sees (i := 3) rfl) hcr40 hl41
 have hO := hO.share (i := 3) rfl hPl41 (hVl41 _ (hO.sees (i := 3) rfl))
 refine zG (ztB Tryz.underlying30 hrl41 hf rfl rfl) rfl hf rfl rfl fun a hf => ?_
 refine S.op tb ?_ hf hO hm
 refine ch [2, 3, 0, 1, 4, 5, 6, 7, 8, 9] rfl rfl ?_
 refine lv [6, 12, 64, 65] [2, 3, 4, 5, 6, 7, 8, 9] (fun J E L k => ∃ (i45 : Int) (s46 : Str) (s47 : Str) (i48 : Int) (s49 : Str) (i50 : Int) (p51 : Option Addr) (c52 : Nat) (l53 : List api_Field) (i54 : Int), J ((66, int i54) :: E) (.blk b34 [int i45, str s46, str s47, int i48, str s49, int i50, .slice p51 l53.length c52] 35 :: .row (.slice p51 l53.length c52) 110 2 l53.length (cells za l53) :: L) (zgm l41 k i45 s46 s47 i48 s49 i50 l53 i54)) rfl (fun _ _ j => ⟨r31.1.Kind, r31.1.Method, r31.1.Target, r31.1.Code, r31.1.Reason, r31.1.Minor, p32, c33, r31.1.Fields, 0, j rfl⟩) ?_
 rintro n2 a w ⟨i45, s46, s47, i48, s49, i50, p51, c52, l53, i54, hf, hO, hm⟩
 obtain _ | n2 := n2
 rw [zgm] at hm
 cases hm
 rw [zgm] at hm
 refine S.co tb ?_ hf hO hm
 refine br rfl (fun hc56 => ?_) fun hc56 => ?_
 refine rw_ rfl fun a w hf hO hm => ?_
 obtain ⟨x58, hx58, hm⟩ := ob hm
 obtain ⟨b59, o60, hix58, hSx58⟩ := zbL (enc := zf) (sz := 1) (xs := l41) 30 Tryz.underlying30 zdD (by decide) (fun _ => rfl) (hO.sees (i := 2) rfl) hx58
 refine zG (zh hix58 hf rfl rfl) rfl hf rfl rfl fun a hf => ?_
 refine S.op tb ?_ hf hO hm
 refine vl rfl rfl (fun a w hf hO => zk (o := 0) zbx (hSx58 _ (hO.sees (i := 2) rfl)) rfl hf rfl) ?_
 refine cl c_153 rfl (fun r62 w hr62 hO => zkg x58 r62 _ (hG.own hF hO).1 hr62) fun r62 hr62 => ?_
 refine al zpA rfl fun b63 => ?_
 refine st 0 rfl rfl ?_
 refine br rfl (fun hc66 => ?_) fun hc66 => ?_
 refine vl rfl rfl (fun a w hf hO => zg (vs := []) (v := .agg #[int 0, str [], str [], int 0, str [], int 0, .slice none 0 0]) hf rfl (by kernel_rfl)) ?_
 refine st 10 rfl rfl ?_
 refine nl 110 2 ?_
 refine re_ rfl fun a w hf hO hm => ?_
 obtain rfl := Option.some.inj hm
 exact zc Tryz.results154 hf (.cell rfl (zd (n := 7) (vs := [int 0, str [], str [], int 0, str [], int 0, .slice none 0 0]) zcE zce rfl ((hO.blkSees (i := 11) rfl).cells (o := 0) (n := 7) rfl)) (.tmp rfl .nil)) ⟨none, 0, rfl, (hO.sub (.cons_cons _ (.cons _ (.cons _ (.cons _ (.cons _ (.cons _ (.cons _ (.cons _ (.cons _ (.cons _ (.cons _ (.cons _ .slnil)))))))))))))⟩
 refine ld 1 rfl rfl ?_
 refine ld 0 rfl rfl ?_
 refine rw_ rfl fun a w hf hO hm => ?_
 refine zt (vs := [(0, .agg #[str r62.1.Name, str r62.1.Value])]) (cs := [str r62.1.Name, str r62.1.Value]) (e := 110) (sz := 2) hf rfl rfl (fun w => by kernel_rfl) rfl rfl hO fun a b69 w hf hO => ?_
 refine S.op tb ?_ hf hO hm
 refine rw_ rfl fun a w hf hO hm => ?_
 obtain ⟨hg72, hm⟩ := og hm
 refine zaL zuy (enc := za) (xs := l53) (ys := [r62.1]) (i := 3) (fun _ => rfl) rfl (hO.rowSees (i := 0) rfl) (by simp [cells, za, Value.oneCell']) hg72 hf rfl rfl rfl hO fun a p70 c71 w hf hO => ?_
 refine S.op tb ?_ hf hO hm
 refine st 2 rfl rfl ?_
 refine bi rfl fun i74 hi74 => ?_
 exact ec [2, 3, 4, 5, 6, 7, 8, 9, 10, 11] rfl rfl rfl fun _ _ j => ⟨_, Nat.lt_succ_self _, i45, s46, s47, i48, s49, i50, p70, c71, l53 ++ [r62.1], i74, j rfl⟩
 exact ec [0, 1, 4, 3, 5, 6, 7, 8, 9] rfl rfl rfl fun _ _ j => ⟨i45, s46, s47, i48, s49, i50, p51, c52, l53, j rfl⟩
 rintro a w ⟨i75, s76, s77, i78, s79, i80, p81, c82, l83, hf, hO, hm⟩
 rw [zkJ] at hm
 refine S.co tb ?_ hf hO hm
 refine ld 0 rfl rfl ?_
 refine cl c_60 rfl (fun r84 w hr84 hO => zoW (⟨i75, s76, s77, i78, s79, i80, l83⟩ : api_Head) r84 _ (hG.own hF hO) (hO.rowSees (i := 1) rfl) (hO.rowCap (i := 1) rfl) hr84) fun r84 hr84 => ?_
 refine br rfl (fun hc87 => ?_) fun hc87 => ?_
 refine vl rfl rfl (fun a w hf hO => zg (vs := []) (v := .agg #[int 0, str [], str [], int 0, str [], int 0, .slice none 0 0]) hf rfl (by kernel_rfl)) ?_
 refine st 8 rfl rfl ?_
 refine nl 110 2 ?_
 refine re_ rfl fun a w hf hO hm => ?_
 obtain rfl := Option.some.inj hm
 exact zc Tryz.results154 hf (.cell rfl (zd (n := 7) (vs := [int 0, str [], str [], int 0, str [], int 0, .slice none 0 0]) zcE zce rfl ((hO.blkSees (i := 9) rfl).cells (o := 0) (n := 7) rfl)) (.tmp rfl .nil)) ⟨none, 0, rfl, (hO.sub (.cons_cons _ (.cons _ (.cons _ (.cons _ (.cons _ (.cons _ (.cons _ (.cons _ (.cons _ (.cons _ .slnil)))))))))))⟩
 refine ld 0 rfl rfl ?_
 refine st 8 rfl rfl ?_
 refine re_ rfl fun a w hf hO hm => ?_
 obtain rfl := Option.some.inj hm
 exact zc Tryz.results154 hf (.cell rfl (zd (n := 7) (vs := [int i75, str s76, str s77, int i78, str s79, int i80, .slice p81 l83.length c82]) zcE zce rfl ((hO.blkSees (i := 8) rfl).cells (o := 0) (n := 7) rfl)) (.tmp rfl .nil)) ⟨p81, c82, rfl, (hO.sub (.cons _ (.cons_cons _ (.cons _ (.cons _ (.cons _ (.cons _ (.cons _ (.cons _ (.cons _ .slnil))))))))))⟩

theorem zod (x_a : accum_Accum) (x_s : Str) (R : Bool × Int × accum_Accum) (w0 : World) (hG : zaq w0) {x_a_b0 : Nat} {x_a_p1 : Option Addr} {x_a_c1 : Nat} {x_a_p2 : Option Addr} {x_a_c2 : Nat} {F : List Nat} (hF : zq F) (hO : Dk.Own w0 F w0 [.blk x_a_b0 [int x_a.f_kind, int x_a.f_limit, .slice x_a_p1 x_a.f_buf.length x_a_c1, int x_a.f_from, .bool x_a.f_took, int x_a.f_bad, .bool x_a.f_whole, int x_a.f_got.Kind, str x_a.f_got.Method, str x_a.f_got.Target, int x_a.f_got.Code, str x_a.f_got.Reason, int x_a.f_got.Minor, .slice x_a_p2 x_a.f_got.Fields.length x_a_c2] 143, .row (.slice x_a_p1 x_a.f_buf.length x_a_c1) 5 1 x_a.f_buf.length (cells zp x_a.f_buf), .row (.slice x_a_p2 x_a.f_got.Fields.length x_a_c2) 110 2 x_a.f_got.Fields.length (cells za x_a.f_got.Fields)]) (hm : zh5 x_a x_s = some R) :
    Calls Tryz.prog 112 #[ptr x_a_b0 0, str x_s] w0 fun e w' => ∃ (p0 : Option Addr) (c0 : Nat) (p1 : Option Addr) (c1 : Nat), e = .returned (.tuple #[.bool R.1, int R.2.1]) ∧ Dk.Own w0 F w' [.blk x_a_b0 [int R.2.2.f_kind, int R.2.2.f_limit, .slice p0 R.2.2.f_buf.length c0, int R.2.2.f_from, .bool R.2.2.f_took, int R.2.2.f_bad, .bool R.2.2.f_whole, int R.2.2.f_got.Kind, str R.2.2.f_got.Method, str R.2.2.f_got.Target, int R.2.2.f_got.Code, str R.2.2.f_got.Reason, int R.2.2.f_got.Minor, .slice p1 R.2.2.f_got.Fields.length c1] 143, .row (.slice p0 R.2.2.f_buf.length c0) 5 1 R.2.2.f_buf.length (cells zp R.2.2.f_buf), .row (.slice p1 R.2.2.f_got.Fields.length c1) 110 2 R.2.2.f_got.Fields.length (cells za R.2.2.f_got.Fields)] := by
 rw [zh5] at hm
 refine S.enter tb Tryz.func112 rfl Tryz.ntmps112 rfl ?_ hO hm
 refine jv 0 [0] [0, 1, 2] (fun J E L => ∃ (i16 : Int), J ((6, int i16) :: E) (L) (zdI x_a i16)) rfl ?_ ?_
 refine ld 0 rfl rfl ?_
 refine br rfl (fun hc4 => ?_) fun hc4 => ?_
 refine ld 0 rfl rfl ?_
 refine cm2 c_80 rfl (fun r5 w hr5 hO => ze2 x_a.f_kind x_s r5 _ (hG.own hF hO) hr5) fun r5 hr5 p6 c7 => ?_
 exact ec [1, 2, 3] rfl rfl rfl fun _ _ j => ⟨r5.2, j rfl⟩
 refine br rfl (fun hc9 => ?_) fun hc9 => ?_
 refine cl c_153 rfl (fun r10 w hr10 hO => zkg x_s r10 _ (hG.own hF hO).1 hr10) fun r10 hr10 => ?_
 exact en rfl fun _ _ j => ⟨r10.2, j rfl⟩
 refine rc_ rfl fun a w hf hO hm => ?_
 obtain ⟨r11, hr11, hm⟩ := ob hm
 refine dS (S := Option Addr × Nat) [(0, ptr x_a_b0 0)] (fun σ => (fun (q0 q1 q2 q3 : Res) => [[q0, q1, q2], [q3, q0, q1, q2], [q3, .blk x_a_b0 [int x_a.f_kind, int x_a.f_limit, .slice x_a_p1 x_a.f_buf.length x_a_c1, int x_a.f_from, .bool x_a.f_took, int x_a.f_bad, .bool x_a.f_whole, int r11.1.Kind, str r11.1.Method, str r11.1.Target, int r11.1.Code, str r11.1.Reason, int r11.1.Minor, .slice (σ.1) r11.1.Fields.length (σ.2)] 143, q1, q2]]) (.blk x_a_b0 [int x_a.f_kind, int x_a.f_limit, .slice x_a_p1 x_a.f_buf.length x_a_c1, int x_a.f_from, .bool x_a.f_took, int x_a.f_bad, .bool x_a.f_whole, int x_a.f_got.Kind, str x_a.f_got.Method, str x_a.f_got.Target, int x_a.f_got.Code, str x_a.f_got.Reason, int x_a.f_got.Minor, .slice x_a_p2 x_a.f_got.Fields.length x_a_c2] 143) (.row (.slice x_a_p1 x_a.f_buf.length x_a_c1) 5 1 x_a.f_buf.length (cells zp x_a.f_buf)) (.row (.slice x_a_p2 x_a.f_got.Fields.length x_a_c2) 110 2 x_a.f_got.Fields.length (cells za x_a.f_got.Fields)) (.row (.slice (σ.1) r11.1.Fields.length (σ.2)) 110 2 r11.1.Fields.length (cells za r11.1.Fields))) (fun σ => [⟨[(0, ptr x_a_b0 0)], some (8, ptr x_a_b0 0)⟩, ⟨[(0, ptr x_a_b0 0)], some (9, ptr x_a_b0 0)⟩, ⟨[(9, ptr x_a_b0 0)], some (10, ptr x_a_b0 0)⟩, ⟨[(10, ptr x_a_b0 0)], some (11, ptr x_a_b0 0)⟩, ⟨[(11, ptr x_a_b0 0)], some (12, int x_a.f_kind)⟩, ⟨[(0, ptr x_a_b0 0)], some (13, ptr x_a_b0 0)⟩, ⟨[(13, ptr x_a_b0 0)], some (14, ptr x_a_b0 0)⟩, ⟨[(14, ptr x_a_b0 0)], some (15, ptr x_a_b0 2)⟩, ⟨[(15, ptr x_a_b0 2)], some (16, .slice x_a_p1 x_a.f_buf.length x_a_c1)⟩, ⟨[(16, .slice x_a_p1 x_a.f_buf.length x_a_c1)], some (17, str x_a.f_buf)⟩, ⟨[(0, ptr x_a_b0 0)], some (18, ptr x_a_b0 0)⟩, ⟨[(18, ptr x_a_b0 0)], some (19, ptr x_a_b0 0)⟩, ⟨[(19, ptr x_a_b0 0)], some (20, ptr x_a_b0 1)⟩, ⟨[(20, ptr x_a_b0 1)], some (21, int x_a.f_limit)⟩, ⟨[(12, int x_a.f_kind), (17, str x_a.f_buf), (21, int x_a.f_limit)], some (22, .tuple #[.agg #[int r11.1.Kind, str r11.1.Method, str r11.1.Target, int r11.1.Code, str r11.1.Reason, int r11.1.Minor, .slice (σ.1) r11.1.Fields.length (σ.2)], int r11.2])⟩, ⟨[(22, .tuple #[.agg #[int r11.1.Kind, str r11.1.Method, str r11.1.Target, int r11.1.Code, str r11.1.Reason, int r11.1.Minor, .slice (σ.1) r11.1.Fields.length (σ.2)], int r11.2])], some (7, .tuple #[.agg #[int r11.1.Kind, str r11.1.Method, str r11.1.Target, int r11.1.Code, str r11.1.Reason, int r11.1.Minor, .slice (σ.1) r11.1.Fields.length (σ.2)], int r11.2])⟩, ⟨[(7, .tuple #[.agg #[int r11.1.Kind, str r11.1.Method, str r11.1.Target, int r11.1.Code, str r11.1.Reason, int r11.1.Minor, .slice (σ.1) r11.1.Fields.length (σ.2)], int r11.2])], some (23, .agg #[int r11.1.Kind, str r11.1.Method, str r11.1.Target, int r11.1.Code, str r11.1.Reason, int r11.1.Minor, .slice (σ.1) r11.1.Fields.length (σ.2)])⟩, ⟨[(7, .tuple #[.agg #[int r11.1.Kind, str r11.1.Method, str r11.1.Target, int r11.1.Code, str r11.1.Reason, int r11.1.Minor, .slice (σ.1) r11.1.Fields.length (σ.2)], int r11.2])], some (24, int r11.2)⟩, ⟨[(8, ptr x_a_b0 0)], some (25, ptr x_a_b0 0)⟩, ⟨[(25, ptr x_a_b0 0)], some (26, ptr x_a_b0 7)⟩, ⟨[(23, .agg #[int r11.1.Kind, str r11.1.Method, str r11.1.Target, int r11.1.Code, str r11.1.Reason, int r11.1.Minor, .slice (σ.1) r11.1.Fields.length (σ.2)]), (26, ptr x_a_b0 7)], none⟩, ⟨[(24, int r11.2)], some (6, int r11.2)⟩]) (none, 0) [14, 20] hO hf ⟨sE tb, sE tb, sE tb, sE tb, sD tb 0 [0], sE tb, sE tb, sE tb, sD tb 0 [0], sL 0 0 (fun hf => fun hO => zln (en := zp) (l := x_a.f_buf) (fun _ => rfl) Tryz.underlying9 Tryz.underlying141 Tryz.underlying5 (hO.rowSees (i := 1) rfl) hf rfl), sE tb, sE tb, sE tb, sD tb 0 [0], sC 0 (fun hf => zak c_154 hf (vs := [int x_a.f_kind, str x_a.f_buf, int x_a.f_limit]) rfl) (@fun σ w hO => (ztS x_a.f_kind x_a.f_buf x_a.f_limit r11 _ (hG.own hF hO) hr11).mono fun e w' ⟨p12, c13, he, hO'⟩ => cR (σ := σ) (p12, c13) he (hO.call hO' (by simp [Res.shared]))), sE tb, sE tb, sE tb, sE tb, sE tb, sK 1 (@fun σ w hO => match zxA (x := (.tmp 26)) (y := (.tmp 23)) (E := [(23, .agg #[int r11.1.Kind, str r11.1.Method, str r11.1.Target, int r11.1.Code, str r11.1.Reason, int r11.1.Minor, .slice (σ.1) r11.1.Fields.length (σ.2)]), (26, ptr x_a_b0 7)]) (i := 1) (n := 7) (o := 7) (vs := [int r11.1.Kind, str r11.1.Method, str r11.1.Target, int r11.1.Code, str r11.1.Reason, int r11.1.Minor, .slice (σ.1) r11.1.Fields.length (σ.2)]) (cs' := [int x_a.f_kind, int x_a.f_limit, .slice x_a_p1 x_a.f_buf.length x_a_c1, int x_a.f_from, .bool x_a.f_took, int x_a.f_bad, .bool x_a.f_whole, int r11.1.Kind, str r11.1.Method, str r11.1.Target, int r11.1.Code, str r11.1.Reason, int r11.1.Minor, .slice (σ.1) r11.1.Fields.length (σ.2)]) zce rfl rfl rfl (by simp [Value.oneCell']) rfl hO rfl rfl with | ⟨w', hO', hr⟩ => vR (σ := σ) ((σ.1), (σ.2)) hO' hr), sE tb, trivial⟩ ?_
 rintro ⟨p12, c13⟩ a w hf hO
 have hO : Dk.Own w0 F w [.row (.slice p12 r11.1.Fields.length c13) 110 2 r11.1.Fields.length (cells za r11.1.Fields), .blk x_a_b0 [int x_a.f_kind, int x_a.f_limit, .slice x_a_p1 x_a.f_buf.length x_a_c1, int x_a.f_from, .bool x_a.f_took, int x_a.f_bad, .bool x_a.f_whole, int r11.1.Kind, str r11.1.Method, str r11.1.Target, int r11.1.Code, str r11.1.Reason, int r11.1.Minor, .slice p12 r11.1.Fields.length c13] 143, .row (.slice x_a_p1 x_a.f_buf.length x_a_c1) 5 1 x_a.f_buf.length (cells zp x_a.f_buf), .row (.slice x_a_p2 x_a.f_got.Fields.length x_a_c2) 110 2 x_a.f_got.Fields.length (cells za x_a.f_got.Fields)] := hO
 have hf : Fits 62 [(6, int r11.2)] a := (hf.cons rfl hf.nil)
 refine S.no tb ?_ hf hO hm
 refine re_ rfl fun a w hf hO hm => ?_
 obtain rfl := Option.some.inj hm
 exact zc Tryz.results112 hf (.tmp rfl (.tmp rfl .nil)) ⟨x_a_p1, x_a_c1, p12, c13, rfl, (hO.choose [1, 2, 0] rfl)⟩
 rintro a w ⟨i16, hf, hO, hm⟩
 rw [zdI] at hm
 refine S.co tb ?_ hf hO hm
 refine ld 0 rfl rfl ?_
 refine st 0 rfl rfl ?_
 refine re_ rfl fun a w hf hO hm => ?_
 obtain rfl := Option.some.inj hm
 exact zc Tryz.results112 hf (.tmp rfl (.tmp rfl .nil)) ⟨x_a_p1, x_a_c1, x_a_p2, x_a_c2, rfl, hO⟩

theorem zoe (x_a : accum_Accum) (x_b : UInt8) (R : Bool × Int × accum_Accum) (w0 : World) (hG : zaq w0) {x_a_b0 : Nat} {x_a_p1 : Option Addr} {x_a_c1 : Nat} {x_a_p2 : Option Addr} {x_a_c2 : Nat} {F : List Nat} (hF : zq F) (hO : Dk.Own w0 F w0 [.blk x_a_b0 [int x_a.f_kind, int x_a.f_limit, .slice x_a_p1 x_a.f_buf.length x_a_c1, int x_a.f_from, .bool x_a.f_took, int x_a.f_bad, .bool x_a.f_whole, int x_a.f_got.Kind, str x_a.f_got.Method, str x_a.f_got.Target, int x_a.f_got.Code, str x_a.f_got.Reason, int x_a.f_got.Minor, .slice x_a_p2 x_a.f_got.Fields.length x_a_c2] 143, .row (.slice x_a_p1 x_a.f_buf.length x_a_c1) 5 1 x_a.f_buf.length (cells zp x_a.f_buf), .row (.slice x_a_p2 x_a.f_got.Fields.length x_a_c2) 110 2 x_a.f_got.Fields.length (cells za x_a.f_got.Fields)]) (hm : zh6 x_a x_b = some R) :
    Calls Tryz.prog 73 #[ptr x_a_b0 0, zai x_b] w0 fun e w' => ∃ (p0 : Option Addr) (c0 : Nat) (p1 : Option Addr) (c1 : Nat), e = .returned (.tuple #[.bool R.1, int R.2.1]) ∧ Dk.Own w0 F w' [.blk x_a_b0 [int R.2.2.f_kind, int R.2.2.f_limit, .slice p0 R.2.2.f_buf.length c0, int R.2.2.f_from, .bool R.2.2.f_took, int R.2.2.f_bad, .bool R.2.2.f_whole, int R.2.2.f_got.Kind, str R.2.2.f_got.Method, str R.2.2.f_got.Target, int R.2.2.f_got.Code, str R.2.2.f_got.Reason, int R.2.2.f_got.Minor, .slice p1 R.2.2.f_got.Fields.length c1] 143, .row (.slice p0 R.2.2.f_buf.length c0) 5 1 R.2.2.f_buf.length (cells zp R.2.2.f_buf), .row (.slice p1 R.2.2.f_got.Fields.length c1) 110 2 R.2.2.f_got.Fields.length (cells za R.2.2.f_got.Fields)] := by
 rw [zh6] at hm
 refine S.enter tb Tryz.func73 rfl Tryz.ntmps73 rfl ?_ hO hm
 refine rc_ rfl fun a w hf hO hm => ?_
 refine zcO (by kernel_rfl) (by kernel_rfl) hO ?_
 refine zj (fun w hO => zA hf rfl) rfl hf rfl rfl fun a hf => ?_
 refine zj (fun w hO => zac hf rfl) rfl hf rfl rfl fun a hf => ?_
 refine zj (fun w hO => zX zuA hf rfl) rfl hf rfl rfl fun a hf => ?_
 refine zj (fun w hO => zk (o := 2) zv1 (hO.blkSees (i := 0) rfl) rfl hf rfl) rfl hf rfl rfl fun a hf => ?_
 refine zj (fun w hO => zq1 Tryz.underlying141 hf rfl) rfl hf rfl rfl fun a hf => ?_
 refine zj (fun w hO => zA hf rfl) rfl hf rfl rfl fun a hf => ?_
 refine zj (fun w hO => zac hf rfl) rfl hf rfl rfl fun a hf => ?_
 refine zj (fun w hO => zX zuz hf rfl) rfl hf rfl rfl fun a hf => ?_
 refine zj (fun w hO => zk (o := 1) znm (hO.blkSees (i := 0) rfl) rfl hf rfl) rfl hf rfl rfl fun a hf => ?_
 refine zj (fun w hO => zvU (m := (x_a.f_buf.length : Int)) (n := x_a.f_limit) hf rfl rfl) rfl hf rfl rfl fun a hf => ?_
 refine wpQuiet_nil ?_
 intro w hO
 refine S.no tb ?_ hf hO hm
 refine br rfl (fun hc3 => ?_) fun hc3 => ?_
 refine re_ rfl fun a w hf hO hm => ?_
 obtain rfl := Option.some.inj hm
 exact zc Tryz.results73 hf (.tmp rfl (.tmp rfl .nil)) ⟨x_a_p1, x_a_c1, x_a_p2, x_a_c2, rfl, hO⟩
 refine ld 0 rfl rfl ?_
 refine rw_ rfl fun a w hf hO hm => ?_
 refine zt (vs := [(0, zai x_b)]) (cs := [zai x_b]) (e := 5) (sz := 1) hf rfl rfl (fun w => by kernel_rfl) rfl rfl hO fun a b6 w hf hO => ?_
 refine S.op tb ?_ hf hO hm
 refine rw_ rfl fun a w hf hO hm => ?_
 obtain ⟨hg9, hm⟩ := og hm
 refine zaL zyf (enc := zp) (xs := x_a.f_buf) (ys := [x_b]) (i := 2) (fun _ => rfl) rfl (hO.rowSees (i := 0) rfl) (by simp [cells, zp, Value.oneCell']) hg9 hf rfl rfl rfl hO fun a p7 c8 w hf hO => ?_
 refine S.op tb ?_ hf hO hm
 refine st 1 rfl rfl ?_
 refine cl c_111 rfl (fun r11 w hr11 hO => zoj (⟨x_a.f_kind, x_a.f_limit, x_a.f_buf ++ [x_b], x_a.f_from, x_a.f_took, x_a.f_bad, x_a.f_whole, x_a.f_got⟩ : accum_Accum) r11 _ (hG.own hF hO).1 (hO.blkSees (i := 1) rfl) (hO.rowSees (i := 2) rfl) (hO.rowCap (i := 2) rfl) (hO.rowSees (i := 3) rfl) (hO.rowCap (i := 3) rfl) hr11) fun r11 hr11 => ?_
 refine br rfl (fun hc13 => ?_) fun hc13 => ?_
 refine re_ rfl fun a w hf hO hm => ?_
 obtain rfl := Option.some.inj hm
 exact zc Tryz.results73 hf (.tmp rfl (.tmp rfl .nil)) ⟨p7, c8, x_a_p2, x_a_c2, rfl, (hO.sub (.cons _ (.cons_cons _ (.cons_cons _ (.cons_cons _ .slnil)))))⟩
 refine vl rfl rfl (fun a w hf hO => zez (b := x_b) (c := 10) hf rfl rfl) ?_
 refine br rfl (fun hc17 => ?_) fun hc17 => ?_
 refine re_ rfl fun a w hf hO hm => ?_
 obtain rfl := Option.some.inj hm
 exact zc Tryz.results73 hf (.tmp rfl (.tmp rfl .nil)) ⟨p7, c8, x_a_p2, x_a_c2, rfl, (hO.sub (.cons _ (.cons_cons _ (.cons_cons _ (.cons_cons _ .slnil)))))⟩
 refine rc_ rfl fun a w hf hO hm => ?_
 obtain ⟨i20, hi20, hm⟩ := ob hm
 obtain ⟨l21, hl21, hm⟩ := ob hm
 obtain ⟨p22, c23, hrl21, hVl21, hCl21, _⟩ := zzb (enc := zp) (xs := x_a.f_buf ++ [x_b]) 141 Tryz.underlying141 sz_5 (fun _ => rfl) (hO.rowSees (i := 2) rfl) (hO.rowCap (i := 2) rfl) hl21
 obtain ⟨r24, hr24, hm⟩ := ob hm
 refine dS (S := Option Addr × Nat × Option Addr × Nat) [(0, ptr x_a_b0 0)] (fun σ => (fun (q0 : Res) => [[q0, .blk x_a_b0 [int x_a.f_kind, int x_a.f_limit, .slice p7 ((x_a.f_buf ++ [x_b]).length) c8, int x_a.f_from, .bool x_a.f_took, int x_a.f_bad, .bool x_a.f_whole, int x_a.f_got.Kind, str x_a.f_got.Method, str x_a.f_got.Target, int x_a.f_got.Code, str x_a.f_got.Reason, int x_a.f_got.Minor, .slice x_a_p2 x_a.f_got.Fields.length x_a_c2] 143, .row (.slice p7 ((x_a.f_buf ++ [x_b]).length) c8) 5 1 ((x_a.f_buf ++ [x_b]).length) (cells zp (x_a.f_buf ++ [x_b])), .row (.slice x_a_p2 x_a.f_got.Fields.length x_a_c2) 110 2 x_a.f_got.Fields.length (cells za x_a.f_got.Fields)], [.blk x_a_b0 [int r24.2.2.f_kind, int r24.2.2.f_limit, .slice (σ.1) r24.2.2.f_buf.length (σ.2.1), int r24.2.2.f_from, .bool r24.2.2.f_took, int r24.2.2.f_bad, .bool r24.2.2.f_whole, int r24.2.2.f_got.Kind, str r24.2.2.f_got.Method, str r24.2.2.f_got.Target, int r24.2.2.f_got.Code, str r24.2.2.f_got.Reason, int r24.2.2.f_got.Minor, .slice (σ.2.2.1) r24.2.2.f_got.Fields.length (σ.2.2.2)] 143, .row (.slice (σ.1) r24.2.2.f_buf.length (σ.2.1)) 5 1 r24.2.2.f_buf.length (cells zp r24.2.2.f_buf), .row (.slice (σ.2.2.1) r24.2.2.f_got.Fields.length (σ.2.2.2)) 110 2 r24.2.2.f_got.Fields.length (cells za r24.2.2.f_got.Fields), q0]]) (.row (.slice (some ⟨b6, 0, none⟩) ([x_b].length) 1) 5 1 ([x_b].length) (cells zp [x_b]))) (fun σ => [⟨[(0, ptr x_a_b0 0)], some (30, ptr x_a_b0 0)⟩, ⟨[(0, ptr x_a_b0 0)], some (31, ptr x_a_b0 0)⟩, ⟨[(31, ptr x_a_b0 0)], some (32, ptr x_a_b0 0)⟩, ⟨[(32, ptr x_a_b0 0)], some (33, ptr x_a_b0 2)⟩, ⟨[(33, ptr x_a_b0 2)], some (34, .slice p7 ((x_a.f_buf ++ [x_b]).length) c8)⟩, ⟨[(0, ptr x_a_b0 0)], some (35, ptr x_a_b0 0)⟩, ⟨[(35, ptr x_a_b0 0)], some (36, ptr x_a_b0 0)⟩, ⟨[(36, ptr x_a_b0 0)], some (37, ptr x_a_b0 3)⟩, ⟨[(37, ptr x_a_b0 3)], some (38, int x_a.f_from)⟩, ⟨[(0, ptr x_a_b0 0)], some (39, ptr x_a_b0 0)⟩, ⟨[(39, ptr x_a_b0 0)], some (40, ptr x_a_b0 0)⟩, ⟨[(40, ptr x_a_b0 0)], some (41, ptr x_a_b0 2)⟩, ⟨[(41, ptr x_a_b0 2)], some (42, .slice p7 ((x_a.f_buf ++ [x_b]).length) c8)⟩, ⟨[(42, .slice p7 ((x_a.f_buf ++ [x_b]).length) c8)], some (43, int (((x_a.f_buf ++ [x_b]).length : Int)))⟩, ⟨[(43, int (((x_a.f_buf ++ [x_b]).length : Int)))], some (44, int i20)⟩, ⟨[(34, .slice p7 ((x_a.f_buf ++ [x_b]).length) c8), (38, int x_a.f_from), (44, int i20)], some (45, .slice p22 l21.length c23)⟩, ⟨[(45, .slice p22 l21.length c23)], some (46, str l21)⟩, ⟨[(30, ptr x_a_b0 0), (46, str l21)], some (47, .tuple #[.bool r24.1, int r24.2.1])⟩, ⟨[(47, .tuple #[.bool r24.1, int r24.2.1])], some (48, .bool r24.1)⟩, ⟨[(47, .tuple #[.bool r24.1, int r24.2.1])], some (49, int r24.2.1)⟩, ⟨[(48, .bool r24.1)], some (4, .bool r24.1)⟩, ⟨[(49, int r24.2.1)], some (5, int r24.2.1)⟩]) (none, 0, none, 0) [17] hO hf ⟨sE tb, sE tb, sE tb, sE tb, sD tb 0 [1], sE tb, sE tb, sE tb, sD tb 0 [1], sE tb, sE tb, sE tb, sD tb 0 [1], sE tb, sP (fun hf => ztq hf rfl rfl hi20), sP (fun hf => zuU Tryz.underlying141 hrl21 hf rfl rfl rfl), sL 0 0 (fun hf => fun hO => zln (en := zp) (l := l21) (fun _ => rfl) Tryz.underlying9 Tryz.underlying141 Tryz.underlying5 (hVl21 _ (hO.rowSees (i := 2) rfl)) hf rfl), sC 0 (fun hf => zak c_112 hf (vs := [ptr x_a_b0 0, str l21]) rfl) (@fun σ w hO => (zod (⟨x_a.f_kind, x_a.f_limit, x_a.f_buf ++ [x_b], x_a.f_from, x_a.f_took, x_a.f_bad, x_a.f_whole, x_a.f_got⟩ : accum_Accum) l21 r24 _ (hG.own hF hO) (Dk.Own.far (show Dk.Own w0 F _ ([.blk x_a_b0 [int x_a.f_kind, int x_a.f_limit, .slice p7 ((x_a.f_buf ++ [x_b]).length) c8, int x_a.f_from, .bool x_a.f_took, int x_a.f_bad, .bool x_a.f_whole, int x_a.f_got.Kind, str x_a.f_got.Method, str x_a.f_got.Target, int x_a.f_got.Code, str x_a.f_got.Reason, int x_a.f_got.Minor, .slice x_a_p2 x_a.f_got.Fields.length x_a_c2] 143, .row (.slice p7 ((x_a.f_buf ++ [x_b]).length) c8) 5 1 ((x_a.f_buf ++ [x_b]).length) (cells zp (x_a.f_buf ++ [x_b])), .row (.slice x_a_p2 x_a.f_got.Fields.length x_a_c2) 110 2 x_a.f_got.Fields.length (cells za x_a.f_got.Fields)] ++ [.row (.slice (some ⟨b6, 0, none⟩) ([x_b].length) 1) 5 1 ([x_b].length) (cells zp [x_b])]) from hO.choose [1, 2, 3, 0] rfl) rfl hF hG.size) ((show Dk.Own w0 F _ ([.blk x_a_b0 [int x_a.f_kind, int x_a.f_limit, .slice p7 ((x_a.f_buf ++ [x_b]).length) c8, int x_a.f_from, .bool x_a.f_took, int x_a.f_bad, .bool x_a.f_whole, int x_a.f_got.Kind, str x_a.f_got.Method, str x_a.f_got.Target, int x_a.f_got.Code, str x_a.f_got.Reason, int x_a.f_got.Minor, .slice x_a_p2 x_a.f_got.Fields.length x_a_c2] 143, .row (.slice p7 ((x_a.f_buf ++ [x_b]).length) c8) 5 1 ((x_a.f_buf ++ [x_b]).length) (cells zp (x_a.f_buf ++ [x_b])), .row (.slice x_a_p2 x_a.f_got.Fields.length x_a_c2) 110 2 x_a.f_got.Fields.length (cells za x_a.f_got.Fields)] ++ [.row (.slice (some ⟨b6, 0, none⟩) ([x_b].length) 1) 5 1 ([x_b].length) (cells zp [x_b])]) from hO.choose [1, 2, 3, 0] rfl).lend (S := []) rfl trivial) hr24).mono fun e w' ⟨p25, c26, p27, c28, he, hO'⟩ => cR (σ := σ) (p25, c26, p27, c28) he ((show Dk.Own w0 F _ ([.blk x_a_b0 [int x_a.f_kind, int x_a.f_limit, .slice p7 ((x_a.f_buf ++ [x_b]).length) c8, int x_a.f_from, .bool x_a.f_took, int x_a.f_bad, .bool x_a.f_whole, int x_a.f_got.Kind, str x_a.f_got.Method, str x_a.f_got.Target, int x_a.f_got.Code, str x_a.f_got.Reason, int x_a.f_got.Minor, .slice x_a_p2 x_a.f_got.Fields.length x_a_c2] 143, .row (.slice p7 ((x_a.f_buf ++ [x_b]).length) c8) 5 1 ((x_a.f_buf ++ [x_b]).length) (cells zp (x_a.f_buf ++ [x_b])), .row (.slice x_a_p2 x_a.f_got.Fields.length x_a_c2) 110 2 x_a.f_got.Fields.length (cells za x_a.f_got.Fields)] ++ [.row (.slice (some ⟨b6, 0, none⟩) ([x_b].length) 1) 5 1 ([x_b].length) (cells zp [x_b])]) from hO.choose [1, 2, 3, 0] rfl).back rfl hO' rfl)), sE tb, sE tb, sE tb, sE tb, trivial⟩ ?_
 rintro ⟨p25, c26, p27, c28⟩ a w hf hO
 have hO : Dk.Own w0 F w [.blk x_a_b0 [int r24.2.2.f_kind, int r24.2.2.f_limit, .slice p25 r24.2.2.f_buf.length c26, int r24.2.2.f_from, .bool r24.2.2.f_took, int r24.2.2.f_bad, .bool r24.2.2.f_whole, int r24.2.2.f_got.Kind, str r24.2.2.f_got.Method, str r24.2.2.f_got.Target, int r24.2.2.f_got.Code, str r24.2.2.f_got.Reason, int r24.2.2.f_got.Minor, .slice p27 r24.2.2.f_got.Fields.length c28] 143, .row (.slice p25 r24.2.2.f_buf.length c26) 5 1 r24.2.2.f_buf.length (cells zp r24.2.2.f_buf), .row (.slice p27 r24.2.2.f_got.Fields.length c28) 110 2 r24.2.2.f_got.Fields.length (cells za r24.2.2.f_got.Fields), .row (.slice (some ⟨b6, 0, none⟩) ([x_b].length) 1) 5 1 ([x_b].length) (cells zp [x_b])] := hO
 have hf : Fits 50 [(4, .bool r24.1), (5, int r24.2.1)] a := (hf.cons rfl (hf.cons rfl hf.nil))
 refine S.no tb ?_ hf hO hm
 refine re_ rfl fun a w hf hO hm => ?_
 obtain rfl := Option.some.inj hm
 exact zc Tryz.results73 hf (.tmp rfl (.tmp rfl .nil)) ⟨p25, c26, p27, c28, rfl, (hO.sub (.cons_cons _ (.cons_cons _ (.cons_cons _ (.cons _ .slnil)))))⟩

theorem zof (x_a0 : accum_Accum) (x_a1 : Str) (R : Int × Bool × Int × accum_Accum) (w0 : World) (hG : zaq w0) {x_a0_b0 : Nat} {x_a0_p1 : Option Addr} {x_a0_c1 : Nat} {x_a0_p2 : Option Addr} {x_a0_c2 : Nat} {F : List Nat} (hF : zq F) (hO : Dk.Own w0 F w0 [.blk x_a0_b0 [int x_a0.f_kind, int x_a0.f_limit, .slice x_a0_p1 x_a0.f_buf.length x_a0_c1, int x_a0.f_from, .bool x_a0.f_took, int x_a0.f_bad, .bool x_a0.f_whole, int x_a0.f_got.Kind, str x_a0.f_got.Method, str x_a0.f_got.Target, int x_a0.f_got.Code, str x_a0.f_got.Reason, int x_a0.f_got.Minor, .slice x_a0_p2 x_a0.f_got.Fields.length x_a0_c2] 143, .row (.slice x_a0_p1 x_a0.f_buf.length x_a0_c1) 5 1 x_a0.f_buf.length (cells zp x_a0.f_buf), .row (.slice x_a0_p2 x_a0.f_got.Fields.length x_a0_c2) 110 2 x_a0.f_got.Fields.length (cells za x_a0.f_got.Fields)]) (hm : zh7 x_a0 x_a1 = some R) :
    Calls Tryz.prog 42 #[ptr x_a0_b0 0, str x_a1] w0 fun e w' => ∃ (p0 : Option Addr) (c0 : Nat) (p1 : Option Addr) (c1 : Nat), e = .returned (.tuple #[int R.1, .bool R.2.1, int R.2.2.1]) ∧ Dk.Own w0 F w' [.blk x_a0_b0 [int R.2.2.2.f_kind, int R.2.2.2.f_limit, .slice p0 R.2.2.2.f_buf.length c0, int R.2.2.2.f_from, .bool R.2.2.2.f_took, int R.2.2.2.f_bad, .bool R.2.2.2.f_whole, int R.2.2.2.f_got.Kind, str R.2.2.2.f_got.Method, str R.2.2.2.f_got.Target, int R.2.2.2.f_got.Code, str R.2.2.2.f_got.Reason, int R.2.2.2.f_got.Minor, .slice p1 R.2.2.2.f_got.Fields.length c1] 143, .row (.slice p0 R.2.2.2.f_buf.length c0) 5 1 R.2.2.2.f_buf.length (cells zp R.2.2.2.f_buf), .row (.slice p1 R.2.2.2.f_got.Fields.length c1) 110 2 R.2.2.2.f_got.Fields.length (cells za R.2.2.2.f_got.Fields)] := by
 rw [zh7] at hm
 refine S.enter tb Tryz.func42 rfl Tryz.ntmps42 rfl ?_ hO hm
 refine vl rfl rfl (fun a w hf hO => zcL Tryz.underlying93 hf rfl rfl) ?_
 refine kn (b' := false) rfl rfl ?_
 refine jv 2 [0, 1] [0, 1, 2] (fun J E L => ∃ (t4 : Bool), J ((11, .bool t4) :: E) (L) (zdK x_a0 x_a1 t4)) rfl ?_ ?_
 refine ld 0 rfl rfl ?_
 refine br rfl (fun hc3 => ?_) fun hc3 => ?_
 exact en rfl fun _ _ j => ⟨true, j rfl⟩
 refine ld 0 rfl rfl ?_
 exact en rfl fun _ _ j => ⟨x_a0.f_whole, j rfl⟩
 rintro a w ⟨t4, hf, hO, hm⟩
 rw [zdK] at hm
 refine S.co tb ?_ hf hO hm
 refine br rfl (fun hc5 => ?_) fun hc5 => ?_
 refine re_ rfl fun a w hf hO hm => ?_
 obtain rfl := Option.some.inj hm
 exact zc Tryz.results42 hf (.tmp rfl (.tmp rfl (.tmp rfl .nil))) ⟨x_a0_p1, x_a0_c1, x_a0_p2, x_a0_c2, rfl, hO⟩
 refine jv 0 [1] [] (fun J E L => ∃ (i49 : Int) (i50 : Int) (p51 : Option Addr) (c52 : Nat) (l53 : List UInt8) (i54 : Int) (t55 : Bool) (i56 : Int) (t57 : Bool) (i58 : Int) (s59 : Str) (s60 : Str) (i61 : Int) (s62 : Str) (i63 : Int) (p64 : Option Addr) (c65 : Nat) (l66 : List api_Field), J (E) (.blk x_a0_b0 [int i49, int i50, .slice p51 l53.length c52, int i54, .bool t55, int i56, .bool t57, int i58, str s59, str s60, int i61, str s62, int i63, .slice p64 l66.length c65] 143 :: .row (.slice p51 l53.length c52) 5 1 l53.length (cells zp l53) :: .row (.slice p64 l66.length c65) 110 2 l66.length (cells za l66) :: L) (zf8 x_a1 i49 i50 l53 i54 t55 i56 t57 i58 s59 s60 i61 s62 i63 l66)) rfl ?_ ?_
 refine lv [0, 1, 24] [] (fun J E L k => ∃ (i9 : Int) (i10 : Int) (p11 : Option Addr) (c12 : Nat) (l13 : List UInt8) (i14 : Int) (t15 : Bool) (i16 : Int) (t17 : Bool) (i18 : Int) (s19 : Str) (s20 : Str) (i21 : Int) (s22 : Str) (i23 : Int) (p24 : Option Addr) (c25 : Nat) (l26 : List api_Field) (i27 : Int), J ((25, int i27) :: E) (.blk x_a0_b0 [int i9, int i10, .slice p11 l13.length c12, int i14, .bool t15, int i16, .bool t17, int i18, str s19, str s20, int i21, str s22, int i23, .slice p24 l26.length c25] 143 :: .row (.slice p11 l13.length c12) 5 1 l13.length (cells zp l13) :: .row (.slice p24 l26.length c25) 110 2 l26.length (cells za l26) :: L) (zaM x_a1 k i9 i10 l13 i14 t15 i16 t17 i18 s19 s20 i21 s22 i23 l26 i27)) rfl (fun _ _ j => ⟨x_a0.f_kind, x_a0.f_limit, x_a0_p1, x_a0_c1, x_a0.f_buf, x_a0.f_from, x_a0.f_took, x_a0.f_bad, x_a0.f_whole, x_a0.f_got.Kind, x_a0.f_got.Method, x_a0.f_got.Target, x_a0.f_got.Code, x_a0.f_got.Reason, x_a0.f_got.Minor, x_a0_p2, x_a0_c2, x_a0.f_got.Fields, 0, j rfl⟩) ?_
 rintro n2 a w ⟨i9, i10, p11, c12, l13, i14, t15, i16, t17, i18, s19, s20, i21, s22, i23, p24, c25, l26, i27, hf, hO, hm⟩
 obtain _ | n2 := n2
 rw [zaM] at hm
 cases hm
 rw [zaM] at hm
 refine S.co tb ?_ hf hO hm
 refine br rfl (fun hc29 => ?_) fun hc29 => ?_
 refine st 0 rfl rfl ?_
 refine bi rfl fun b33 hb33 => ?_
 refine cw4 c_73 [0, 1, 2] 3 [] rfl (fun r34 w hr34 hO hfar39 hlend39 => zoe ((⟨i9, i10, l13, i14, true, i16, t17, (⟨i18, s19, s20, i21, s22, i23, l26⟩ : api_Head)⟩ : accum_Accum)) b33 r34 _ (hG.own hF hO) hfar39 hlend39 hr34) (fun _ _ => trivial) hF hG.size fun r34 hr34 p35 c36 p37 c38 => ?_
 refine st 0 rfl rfl ?_
 refine st 0 rfl rfl ?_
 refine jv 5 [0, 1, 7, 24, 25] [0, 1, 2] (fun J E L => ∃ (t42 : Bool), J ((55, .bool t42) :: E) (L) (zdJ (zaM x_a1 n2) i27 r34 t42)) rfl ?_ ?_
 refine ld 0 rfl rfl ?_
 refine br rfl (fun hc41 => ?_) fun hc41 => ?_
 exact en rfl fun _ _ j => ⟨true, j rfl⟩
 refine ld 0 rfl rfl ?_
 exact en rfl fun _ _ j => ⟨!(r34.2.1 == 0), j rfl⟩
 rintro a w ⟨t42, hf, hO, hm⟩
 rw [zdJ] at hm
 refine S.co tb ?_ hf hO hm
 refine br rfl (fun hc43 => ?_) fun hc43 => ?_
 refine st 0 rfl rfl ?_
 refine nl 5 1 ?_
 refine rc_ rfl fun a w hf hO hm => ?_
 refine zcO (by kernel_rfl) (by kernel_rfl) hO ?_
 refine zj (fun w hO => zA hf rfl) rfl hf rfl rfl fun a hf => ?_
 obtain ⟨i45, hi45, hm⟩ := ob hm
 refine zj (fun w hO => zvR hf rfl rfl hi45) rfl hf rfl rfl fun a hf => ?_
 refine zj (fun w hO => zA hf rfl) rfl hf rfl rfl fun a hf => ?_
 refine zj (fun w hO => zac hf rfl) rfl hf rfl rfl fun a hf => ?_
 refine zj (fun w hO => zX zuC hf rfl) rfl hf rfl rfl fun a hf => ?_
 refine zj (fun w hO => zk (o := 6) ag_4 (hO.blkSees (i := 1) rfl) rfl hf rfl) rfl hf rfl rfl fun a hf => ?_
 refine zj (fun w hO => zA hf rfl) rfl hf rfl rfl fun a hf => ?_
 refine zj (fun w hO => zac hf rfl) rfl hf rfl rfl fun a hf => ?_
 refine zj (fun w hO => zX zuB hf rfl) rfl hf rfl rfl fun a hf => ?_
 refine zj (fun w hO => zk (o := 5) ag_24 (hO.blkSees (i := 1) rfl) rfl hf rfl) rfl hf rfl rfl fun a hf => ?_
 refine zj (fun w hO => zay hf rfl) rfl hf rfl rfl fun a hf => ?_
 refine zj (fun w hO => zay hf rfl) rfl hf rfl rfl fun a hf => ?_
 refine zj (fun w hO => zay hf rfl) rfl hf rfl rfl fun a hf => ?_
 refine wpQuiet_nil ?_
 intro w hO
 refine S.no tb ?_ hf hO hm
 refine re_ rfl fun a w hf hO hm => ?_
 obtain rfl := Option.some.inj hm
 exact zc Tryz.results42 hf (.tmp rfl (.tmp rfl (.tmp rfl .nil))) ⟨none, 0, p37, c38, rfl, (hO.choose [1, 0, 3] rfl)⟩
 refine bi rfl fun i48 hi48 => ?_
 exact en rfl fun _ _ j => ⟨_, Nat.lt_succ_self _, r34.2.2.f_kind, r34.2.2.f_limit, p35, c36, r34.2.2.f_buf, r34.2.2.f_from, r34.2.2.f_took, r34.2.1, r34.1, r34.2.2.f_got.Kind, r34.2.2.f_got.Method, r34.2.2.f_got.Target, r34.2.2.f_got.Code, r34.2.2.f_got.Reason, r34.2.2.f_got.Minor, p37, c38, r34.2.2.f_got.Fields, i48, j rfl⟩
 exact en rfl fun _ _ j => ⟨i9, i10, p11, c12, l13, i14, t15, i16, t17, i18, s19, s20, i21, s22, i23, p24, c25, l26, j rfl⟩
 rintro a w ⟨i49, i50, p51, c52, l53, i54, t55, i56, t57, i58, s59, s60, i61, s62, i63, p64, c65, l66, hf, hO, hm⟩
 rw [zf8] at hm
 refine S.co tb ?_ hf hO hm
 refine re_ rfl fun a w hf hO hm => ?_
 obtain rfl := Option.some.inj hm
 exact zc Tryz.results42 hf (.tmp rfl (.tmp rfl (.tmp rfl .nil))) ⟨p51, c52, p64, c65, rfl, hO⟩

end Go.Proofs
end
