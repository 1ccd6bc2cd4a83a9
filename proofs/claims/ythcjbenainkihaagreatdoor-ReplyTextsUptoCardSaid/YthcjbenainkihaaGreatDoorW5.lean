/-
  Walks, written by a program (wip/gen): what its model says, the function returns; what was there before is as it was.
  Walks, written by a program (wip/gen): what its model says, the function returns; what was there before is as it was.
  Walks, written by a program (wip/gen): what its model says, the function returns; what was there before is as it was.
  Walks, written by a program (wip/gen): what its model says, the function returns; what was there before is as it was.
  Walks, written by a program (wip/gen): what its model says, the function returns; what was there before is as it was.

-/
import Derived.Test.YthcjbenainkihaaGreatDoorLib
import Derived.Test.YthcjbenainkihaaGreatDoorSq
section
set_option linter.unusedVariables false
set_option maxHeartbeats 1000000
set_option linter.unusedSimpArgs false
set_option maxRecDepth 100000
namespace Go.Proofs
open Go.Dk Go.Dm Go.RowKit

theorem zjA (R : (List (Int × Str))) (w0 : World) (hG : zt w0) (hm : zau = some R) :
    Calls Tryz.prog 52 #[] w0 fun e w' => ∃ (b0 : Nat), e = .returned (.map (some b0)) ∧ Dk.Own w0 [] w' [.obj b0 (zd2 R)] := by
 rw [zau] at hm
 have hF : zo [] := zf
 have hO : Dk.Own w0 [] w0 [] := Dk.Own.refl w0
 refine S.enter tb Tryz.func52 rfl Tryz.ntmps52 rfl ?_ hO hm
 refine rw_ rfl fun a w hf hO hm => ?_
 refine zl8 hf rfl hO fun a b2 w hf hO => ?_
 refine S.op tb ?_ hf hO hm
 refine rw_ rfl fun a w hf hO hm => ?_
 refine zjb (i := 0) (l := []) (k := 400) (v := [66, 97, 100, 32, 82, 101, 113, 117, 101, 115, 116]) Tryz.underlying103 Tryz.underlying3 rfl (by decide) hf rfl rfl rfl hO fun w hO => ?_
 refine S.op tb ?_ hf hO hm
 refine rw_ rfl fun a w hf hO hm => ?_
 refine zjb (i := 0) (l := [(400, [66, 97, 100, 32, 82, 101, 113, 117, 101, 115, 116])]) (k := 431) (v := [82, 101, 113, 117, 101, 115, 116, 32, 72, 101, 97, 100, 101, 114, 32, 70, 105, 101, 108, 100, 115, 32, 84, 111, 111, 32, 76, 97, 114, 103, 101]) Tryz.underlying103 Tryz.underlying3 rfl (by decide) hf rfl rfl rfl hO fun w hO => ?_
 refine S.op tb ?_ hf hO hm
 refine rw_ rfl fun a w hf hO hm => ?_
 refine zjb (i := 0) (l := [(400, [66, 97, 100, 32, 82, 101, 113, 117, 101, 115, 116]), (431, [82, 101, 113, 117, 101, 115, 116, 32, 72, 101, 97, 100, 101, 114, 32, 70, 105, 101, 108, 100, 115, 32, 84, 111, 111, 32, 76, 97, 114, 103, 101])]) (k := 502) (v := [66, 97, 100, 32, 71, 97, 116, 101, 119, 97, 121]) Tryz.underlying103 Tryz.underlying3 rfl (by decide) hf rfl rfl rfl hO fun w hO => ?_
 refine S.op tb ?_ hf hO hm
 refine re_ rfl fun a w hf hO hm => ?_
 obtain rfl := Option.some.inj hm
 exact zb Tryz.results52 hf (.tmp rfl .nil) ⟨b2, rfl, hO⟩

theorem ziF (x_code : Int) (R : api_Message × Bool) (w0 : World) (hG : zt w0) (hm : zdO x_code = some R) :
    Calls Tryz.prog 23 #[int x_code] w0 fun e w' => ∃ (p0 : Option Addr) (c0 : Nat) (p1 : Option Addr) (c1 : Nat), e = .returned (.tuple #[.agg #[int R.1.Head.Kind, str R.1.Head.Method, str R.1.Head.Target, int R.1.Head.Code, str R.1.Head.Reason, int R.1.Head.Minor, .slice p0 R.1.Head.Fields.length c0, int R.1.Frame.Kind, int R.1.Frame.N, str R.1.Body, .slice p1 R.1.Trailers.length c1], .bool R.2]) ∧ Dk.Own w0 [] w' [.row (.slice p0 R.1.Head.Fields.length c0) 107 2 R.1.Head.Fields.length (cells za R.1.Head.Fields), .row (.slice p1 R.1.Trailers.length c1) 107 2 R.1.Trailers.length (cells za R.1.Trailers)] := by
 rw [zdO] at hm
 have hF : zo [] := zf
 have hO : Dk.Own w0 [] w0 [] := Dk.Own.refl w0
 refine S.enter tb Tryz.func23 rfl Tryz.ntmps23 rfl ?_ hO hm
 refine al zkD rfl fun b1 => ?_
 refine nl 107 2 ?_
 refine nl 107 2 ?_
 refine rw_ rfl fun a w hf hO hm => ?_
 obtain ⟨r3, hr3, hm⟩ := ob hm
 refine zg (zi c_52 hf (vs := []) rfl) rfl hf rfl rfl (zjA r3 _ (hG.own hF hO) hr3) ?_
 rintro e w' ⟨b4, he, hO'⟩
 refine ⟨_, he, fun a hf => ?_⟩
 have hO := hO.call hO' (by simp [Res.shared])
 refine S.op tb ?_ hf hO hm
 refine vl rfl rfl (fun a w hf hO => zmN (i := 0) (l := r3) Tryz.underlying103 Tryz.underlying3 zv_9 hO rfl hf rfl rfl) ?_
 refine br rfl (fun hc8 => ?_) fun hc8 => ?_
 refine vl rfl rfl (fun a w hf hO => zl (vs := []) (v := .agg #[int 0, str [], str [], int 0, str [], int 0, .slice none 0 0, int 0, int 0, str [], .slice none 0 0]) hf rfl (by kernel_rfl)) ?_
 refine st 3 rfl rfl ?_
 refine nl 107 2 ?_
 refine nl 107 2 ?_
 refine re_ rfl fun a w hf hO hm => ?_
 obtain rfl := Option.some.inj hm
 exact zb Tryz.results23 hf (.cell rfl (ze (n := 11) (vs := [int 0, str [], str [], int 0, str [], int 0, .slice none 0 0, int 0, int 0, str [], .slice none 0 0]) zcL zcN rfl ((hO.blkSees (i := 5) rfl).cells (o := 0) (n := 11) rfl)) (.tmp rfl .nil)) ⟨none, 0, none, 0, rfl, (hO.choose [1, 0] rfl)⟩
 refine vl rfl rfl (fun a w hf hO => zl (vs := [(0, str [67, 111, 110, 116, 101, 110, 116, 45, 76, 101, 110, 103, 116, 104]), (1, str [48])]) (v := .agg #[str [67, 111, 110, 116, 101, 110, 116, 45, 76, 101, 110, 103, 116, 104], str [48]]) hf rfl (by kernel_rfl)) ?_
 refine vl rfl rfl (fun a w hf hO => zl (vs := [(0, str [67, 111, 110, 110, 101, 99, 116, 105, 111, 110]), (1, str [99, 108, 111, 115, 101])]) (v := .agg #[str [67, 111, 110, 110, 101, 99, 116, 105, 111, 110], str [99, 108, 111, 115, 101]]) hf rfl (by kernel_rfl)) ?_
 refine rw_ rfl fun a w hf hO hm => ?_
 refine zu (vs := [(0, .agg #[str [67, 111, 110, 116, 101, 110, 116, 45, 76, 101, 110, 103, 116, 104], str [48]]), (1, .agg #[str [67, 111, 110, 110, 101, 99, 116, 105, 111, 110], str [99, 108, 111, 115, 101]])]) (cs := [str [67, 111, 110, 116, 101, 110, 116, 45, 76, 101, 110, 103, 116, 104], str [48], str [67, 111, 110, 110, 101, 99, 116, 105, 111, 110], str [99, 108, 111, 115, 101]]) (e := 107) (sz := 2) hf rfl rfl (fun w => by kernel_rfl) rfl rfl hO fun a b11 w hf hO => ?_
 refine S.op tb ?_ hf hO hm
 refine vl rfl rfl (fun a w hf hO => zl (vs := [(0, int 2), (5, int 1), (3, int x_code), (4, str ((zcu r3 x_code).1)), (6, .slice (some ⟨b11, 0, none⟩) (([(⟨[67, 111, 110, 116, 101, 110, 116, 45, 76, 101, 110, 103, 116, 104], [48]⟩ : api_Field), (⟨[67, 111, 110, 110, 101, 99, 116, 105, 111, 110], [99, 108, 111, 115, 101]⟩ : api_Field)]).length) 2)]) (v := .agg #[int 2, str [], str [], int x_code, str ((zcu r3 x_code).1), int 1, .slice (some ⟨b11, 0, none⟩) (([(⟨[67, 111, 110, 116, 101, 110, 116, 45, 76, 101, 110, 103, 116, 104], [48]⟩ : api_Field), (⟨[67, 111, 110, 110, 101, 99, 116, 105, 111, 110], [99, 108, 111, 115, 101]⟩ : api_Field)]).length) 2]) hf rfl (by kernel_rfl)) ?_
 refine al zfR rfl fun b12 => ?_
 refine nl 107 2 ?_
 refine st 1 rfl rfl ?_
 refine ld 1 rfl rfl ?_
 refine vl rfl rfl (fun a w hf hO => zl (vs := [(0, int 2)]) (v := .agg #[int 2, int 0]) hf rfl (by kernel_rfl)) ?_
 refine vl rfl rfl (fun a w hf hO => zl (vs := [(0, .agg #[int 2, str [], str [], int x_code, str ((zcu r3 x_code).1), int 1, .slice (some ⟨b11, 0, none⟩) (([(⟨[67, 111, 110, 116, 101, 110, 116, 45, 76, 101, 110, 103, 116, 104], [48]⟩ : api_Field), (⟨[67, 111, 110, 110, 101, 99, 116, 105, 111, 110], [99, 108, 111, 115, 101]⟩ : api_Field)]).length) 2]), (1, .agg #[int 2, int 0])]) (v := .agg #[int 2, str [], str [], int x_code, str ((zcu r3 x_code).1), int 1, .slice (some ⟨b11, 0, none⟩) (([(⟨[67, 111, 110, 116, 101, 110, 116, 45, 76, 101, 110, 103, 116, 104], [48]⟩ : api_Field), (⟨[67, 111, 110, 110, 101, 99, 116, 105, 111, 110], [99, 108, 111, 115, 101]⟩ : api_Field)]).length) 2, int 2, int 0, str [], .slice none 0 0]) hf rfl (by kernel_rfl)) ?_
 refine st 6 rfl rfl ?_
 refine nl 107 2 ?_
 refine re_ rfl fun a w hf hO hm => ?_
 obtain rfl := Option.some.inj hm
 exact zb Tryz.results23 hf (.cell rfl (ze (n := 11) (vs := [int 2, str [], str [], int x_code, str ((zcu r3 x_code).1), int 1, .slice (some ⟨b11, 0, none⟩) (([(⟨[67, 111, 110, 116, 101, 110, 116, 45, 76, 101, 110, 103, 116, 104], [48]⟩ : api_Field), (⟨[67, 111, 110, 110, 101, 99, 116, 105, 111, 110], [99, 108, 111, 115, 101]⟩ : api_Field)]).length) 2, int 2, int 0, str [], .slice none 0 0]) zcL zcN rfl ((hO.blkSees (i := 7) rfl).cells (o := 0) (n := 11) rfl)) (.tmp rfl .nil)) ⟨some ⟨b11, 0, none⟩, 2, none, 0, rfl, (hO.choose [3, 0] rfl)⟩

theorem zhj (x_n : Int) (x_base : Int) (R : Str) (w0 : World) (hG : zH w0) (hm : zft x_n x_base = some R) :
    Calls Tryz.prog 118 #[int x_n, int x_base] w0 (Ret w0 (fun R => str R) R) := by
 rw [zft] at hm
 have hF : zo [] := zf
 have hO : Dk.Own w0 [] w0 [] := Dk.Own.refl w0
 refine S.enter tb Tryz.func118 rfl Tryz.ntmps118 rfl ?_ hO hm
 refine br rfl (fun hc3 => ?_) fun hc3 => ?_
 exact rt Tryz.results118 rfl
 refine cl c_163 rfl (fun r6 w hr6 hO => zhU x_n x_base r6 _ (hG.own hF hO) hr6) fun r6 hr6 => ?_
 exact rt Tryz.results118 rfl

theorem zfA (x_n : Int) (R : Str) (w0 : World) (hG : zH w0) (hm : zec x_n = some R) :
    Calls Tryz.prog 87 #[int x_n] w0 (Ret w0 (fun R => str R) R) := by
 rw [zec] at hm
 have hF : zo [] := zf
 have hO : Dk.Own w0 [] w0 [] := Dk.Own.refl w0
 refine S.enter tb Tryz.func87 rfl Tryz.ntmps87 rfl ?_ hO hm
 refine cl c_118 rfl (fun r2 w hr2 hO => zhj x_n 10 r2 _ (hG.own hF hO) hr2) fun r2 hr2 => ?_
 exact rt Tryz.results87 rfl

theorem zd1 (x_sep : Str) (x_l : List Str) (R : Str) (w0 : World) (hG : zt w0) {x_l_p0 : Option Addr} {x_l_c0 : Nat} (hs0 : zw w0 x_l_p0 (cells zh x_l)) (hc0 : x_l.length ≤ x_l_c0) (hm : zdP x_sep x_l = some R) :
    Calls Tryz.prog 73 #[str x_sep, .slice x_l_p0 x_l.length x_l_c0] w0 (Ret w0 (fun R => str R) R) := by
 rw [zdP] at hm
 have hF : zo [] := zf
 have hO : Dk.Own w0 [] w0 [] := Dk.Own.refl w0
 have hO := hO.addShr hs0 (by simp [Res.shared])
 refine S.enter tb Tryz.func73 rfl Tryz.ntmps73 rfl ?_ hO hm
 refine cl c_101 rfl (fun r2 w hr2 hO => zj6 x_l x_sep r2 _ (hG.own hF hO) (hO.sees (i := 0) rfl) hc0 hr2) fun r2 hr2 => ?_
 exact rt Tryz.results73 rfl

theorem zev (x_s : Str) (x_chars : Str) (R : Bool) (w0 : World) (hG : zt w0) (hm : strings_ContainsAny x_s x_chars = some R) :
    Calls Tryz.prog 119 #[str x_s, str x_chars] w0 (Ret w0 (fun R => .bool R) R) := by
 rw [strings_ContainsAny] at hm
 have hF : zo [] := zf
 have hO : Dk.Own w0 [] w0 [] := Dk.Own.refl w0
 refine S.enter tb Tryz.func119 rfl Tryz.ntmps119 rfl ?_ hO hm
 refine cl c_164 rfl (fun r2 w hr2 hO => zfC x_s x_chars r2 _ (hG.own hF hO) hr2) fun r2 hr2 => ?_
 exact rt Tryz.results119 rfl

theorem ze7 (x_s : Str) (x_c : UInt8) (R : Int) (w0 : World) (hG : zt w0) (hm : zaT x_s x_c = some R) :
    Calls Tryz.prog 216 #[str x_s, zB x_c] w0 (Ret w0 (fun R => int R) R) := by
 rw [zaT] at hm
 have hF : zo [] := zf
 have hO : Dk.Own w0 [] w0 [] := Dk.Own.refl w0
 refine S.enter tb Tryz.func216 rfl Tryz.ntmps216 rfl ?_ hO hm
 refine bi rfl fun i2 hi2 => ?_
 refine lv [0, 1] [] (fun J E L k => ∃ (i4 : Int), J ((5, int i4) :: E) (L) (zG x_s x_c k i4)) rfl (fun _ _ j => ⟨i2, j rfl⟩) ?_
 rintro n1 a w ⟨i4, hf, hO, hm⟩
 obtain _ | n1 := n1
 rw [zG] at hm
 cases hm
 rw [zG] at hm
 refine S.co tb ?_ hf hO hm
 refine br rfl (fun hc6 => ?_) fun hc6 => ?_
 refine bi rfl fun b8 hb8 => ?_
 refine vl rfl rfl (fun a w hf hO => zaQ (b := b8) (c := x_c) hf rfl rfl) ?_
 refine br rfl (fun hc10 => ?_) fun hc10 => ?_
 exact rt Tryz.results216 rfl
 refine bi rfl fun i13 hi13 => ?_
 exact en rfl fun _ _ j => ⟨_, Nat.lt_succ_self _, i13, j rfl⟩
 exact rt Tryz.results216 rfl

theorem zdX (x_s : Str) (x_c : UInt8) (R : Int) (w0 : World) (hG : zt w0) (hm : zbh x_s x_c = some R) :
    Calls Tryz.prog 166 #[str x_s, zB x_c] w0 (Ret w0 (fun R => int R) R) := by
 rw [zbh] at hm
 have hF : zo [] := zf
 have hO : Dk.Own w0 [] w0 [] := Dk.Own.refl w0
 refine S.enter tb Tryz.func166 rfl Tryz.ntmps166 rfl ?_ hO hm
 refine cl c_216 rfl (fun r2 w hr2 hO => ze7 x_s x_c r2 _ (hG.own hF hO) hr2) fun r2 hr2 => ?_
 exact rt Tryz.results166 rfl

theorem zeD (x_s : Str) (R : scan_Scanner) (w0 : World) (hG : zt w0) (hm : ze9 x_s = some R) :
    Calls Tryz.prog 167 #[str x_s] w0 fun e w' => ∃ (b0 : Nat), e = .returned (ptr b0 0) ∧ Dk.Own w0 [] w' [.blk b0 [str R.f_s, int R.f_at] 289] := by
 rw [ze9] at hm
 have hF : zo [] := zf
 have hO : Dk.Own w0 [] w0 [] := Dk.Own.refl w0
 refine S.enter tb Tryz.func167 rfl Tryz.ntmps167 rfl ?_ hO hm
 refine vl rfl rfl (fun a w hf hO => zl (vs := [(0, str x_s)]) (v := .agg #[str x_s, int 0]) hf rfl (by kernel_rfl)) ?_
 refine bo rfl fun b2 => ?_
 refine re_ rfl fun a w hf hO hm => ?_
 obtain rfl := Option.some.inj hm
 exact zb Tryz.results167 hf (.tmp rfl .nil) ⟨b2, rfl, hO⟩

theorem zam (x_c : scan_Scanner) (R : Str) (w0 : World) (hG : zt w0) {x_c_b0 : Nat} (hs0 : zw w0 (some ⟨x_c_b0, 0, none⟩) [str x_c.f_s, int x_c.f_at]) (hm : zV x_c = some R) :
    Calls Tryz.prog 178 #[ptr x_c_b0 0] w0 (Ret w0 (fun R => str R) R) := by
 rw [zV] at hm
 have hF : zo [] := zf
 have hO : Dk.Own w0 [] w0 [] := Dk.Own.refl w0
 have hO := hO.addShr hs0 (by simp [Res.shared])
 refine S.enter tb Tryz.func178 rfl Tryz.ntmps178 rfl ?_ hO hm
 refine vl rfl rfl (fun a w hf hO => zZ Tryz.underlying251 hf rfl rfl) ?_
 refine kn (b' := false) rfl rfl ?_
 refine rc_ rfl fun a w hf hO hm => ?_
 refine zbM (by kernel_rfl) (by kernel_rfl) hO ?_
 refine zm (fun w hO => zn hf rfl) rfl hf rfl rfl fun a hf => ?_
 refine zm (fun w hO => zp hf rfl) rfl hf rfl rfl fun a hf => ?_
 refine zm (fun w hO => zr ziA hf rfl) rfl hf rfl rfl fun a hf => ?_
 refine zm (fun w hO => zk (o := 0) zbC (hO.sees (i := 0) rfl) rfl hf rfl) rfl hf rfl rfl fun a hf => ?_
 refine zm (fun w hO => zn hf rfl) rfl hf rfl rfl fun a hf => ?_
 refine zm (fun w hO => zp hf rfl) rfl hf rfl rfl fun a hf => ?_
 refine zm (fun w hO => zr ziB hf rfl) rfl hf rfl rfl fun a hf => ?_
 refine zm (fun w hO => zk (o := 1) ze6 (hO.sees (i := 0) rfl) rfl hf rfl) rfl hf rfl rfl fun a hf => ?_
 obtain ⟨s4, hs4, hm⟩ := ob hm
 refine zm (fun w hO => zhN (l := x_c.f_s) Tryz.underlying9 hf rfl rfl hs4) rfl hf rfl rfl fun a hf => ?_
 refine zm (fun w hO => zv hf rfl) rfl hf rfl rfl fun a hf => ?_
 refine wpQuiet_nil ?_
 intro w hO
 refine S.no tb ?_ hf hO hm
 exact rt Tryz.results178 rfl

theorem zgn (x_s : Str) (x_prefix : Str) (R : Bool) (w0 : World) (hG : zt w0) (hm : stringslite_HasPrefix x_s x_prefix = some R) :
    Calls Tryz.prog 275 #[str x_s, str x_prefix] w0 (Ret w0 (fun R => .bool R) R) := by
 rw [stringslite_HasPrefix] at hm
 have hF : zo [] := zf
 have hO : Dk.Own w0 [] w0 [] := Dk.Own.refl w0
 refine S.enter tb Tryz.func275 rfl Tryz.ntmps275 rfl ?_ hO hm
 refine jv 0 [] [] (fun J E L => ∃ (t4 : Bool), J ((4, .bool t4) :: E) (L) (zav t4)) rfl ?_ ?_
 refine br rfl (fun hc2 => ?_) fun hc2 => ?_
 refine bi rfl fun s3 hs3 => ?_
 exact en rfl fun _ _ j => ⟨s3 == x_prefix, j rfl⟩
 exact en rfl fun _ _ j => ⟨false, j rfl⟩
 rintro a w ⟨t4, hf, hO, hm⟩
 rw [zav] at hm
 refine S.co tb ?_ hf hO hm
 exact rt Tryz.results275 rfl

theorem zdi (x_s : Str) (x_prefix : Str) (R : Bool) (w0 : World) (hG : zt w0) (hm : strings_HasPrefix x_s x_prefix = some R) :
    Calls Tryz.prog 253 #[str x_s, str x_prefix] w0 (Ret w0 (fun R => .bool R) R) := by
 rw [strings_HasPrefix] at hm
 have hF : zo [] := zf
 have hO : Dk.Own w0 [] w0 [] := Dk.Own.refl w0
 refine S.enter tb Tryz.func253 rfl Tryz.ntmps253 rfl ?_ hO hm
 refine cl c_275 rfl (fun r2 w hr2 hO => zgn x_s x_prefix r2 _ (hG.own hF hO) hr2) fun r2 hr2 => ?_
 exact rt Tryz.results253 rfl

end Go.Proofs
end
section
set_option linter.unusedVariables false
set_option maxHeartbeats 1000000
set_option linter.unusedSimpArgs false
set_option maxRecDepth 100000
namespace Go.Proofs
open Go.Dk Go.Dm Go.RowKit

theorem zhX (x_c : scan_Scanner) (x_t : Str) (R : Bool × scan_Scanner) (w0 : World) (hG : zt w0) {x_c_b0 : Nat} {F : List Nat} (hF : zo F) (hO : Dk.Own w0 F w0 [.blk x_c_b0 [str x_c.f_s, int x_c.f_at] 289]) (hm : zed x_c x_t = some R) :
    Calls Tryz.prog 251 #[ptr x_c_b0 0, str x_t] w0 fun e w' => e = .returned (.bool R.1) ∧ Dk.Own w0 F w' [.blk x_c_b0 [str R.2.f_s, int R.2.f_at] 289] := by
 rw [zed] at hm
 refine S.enter tb Tryz.func251 rfl Tryz.ntmps251 rfl ?_ hO hm
 refine cl zkF rfl (fun r2 w hr2 hO => zam x_c r2 _ (hG.own hF hO) (hO.blkSees (i := 0) rfl) hr2) fun r2 hr2 => ?_
 refine cl znQ rfl (fun r3 w hr3 hO => zdi r2 x_t r3 _ (hG.own hF hO) hr3) fun r3 hr3 => ?_
 refine br rfl (fun hc5 => ?_) fun hc5 => ?_
 refine re_ rfl fun a w hf hO hm => ?_
 obtain rfl := Option.some.inj hm
 exact zb Tryz.results251 hf (.tmp rfl .nil) ⟨rfl, hO⟩
 refine vl rfl rfl (fun a w hf hO => zhM Tryz.underlying251 hf rfl rfl) ?_
 refine kn (b' := true) rfl rfl ?_
 refine ld 0 rfl rfl ?_
 refine bi rfl fun i9 hi9 => ?_
 refine st 0 rfl rfl ?_
 refine re_ rfl fun a w hf hO hm => ?_
 obtain rfl := Option.some.inj hm
 exact zb Tryz.results251 hf (.tmp rfl .nil) ⟨rfl, hO⟩

theorem za8 (x_c : scan_Scanner) (R : Bool) (w0 : World) (hG : zt w0) {x_c_b0 : Nat} (hs0 : zw w0 (some ⟨x_c_b0, 0, none⟩) [str x_c.f_s, int x_c.f_at]) (hm : zaq x_c = some R) :
    Calls Tryz.prog 174 #[ptr x_c_b0 0] w0 (Ret w0 (fun R => .bool R) R) := by
 rw [zaq] at hm
 have hF : zo [] := zf
 have hO : Dk.Own w0 [] w0 [] := Dk.Own.refl w0
 have hO := hO.addShr hs0 (by simp [Res.shared])
 refine S.enter tb Tryz.func174 rfl Tryz.ntmps174 rfl ?_ hO hm
 refine cl zkF rfl (fun r2 w hr2 hO => zam x_c r2 _ (hG.own hF hO) (hO.sees (i := 0) rfl) hr2) fun r2 hr2 => ?_
 exact rt Tryz.results174 rfl

theorem zS (x_c : scan_Scanner) (R : UInt8 × Bool) (w0 : World) (hG : zt w0) {x_c_b0 : Nat} (hs0 : zw w0 (some ⟨x_c_b0, 0, none⟩) [str x_c.f_s, int x_c.f_at]) (hm : zP x_c = some R) :
    Calls Tryz.prog 217 #[ptr x_c_b0 0] w0 (Ret w0 (fun R => .tuple #[zB R.1, .bool R.2]) R) := by
 rw [zP] at hm
 have hF : zo [] := zf
 have hO : Dk.Own w0 [] w0 [] := Dk.Own.refl w0
 have hO := hO.addShr hs0 (by simp [Res.shared])
 refine S.enter tb Tryz.func217 rfl Tryz.ntmps217 rfl ?_ hO hm
 refine cl zly rfl (fun r2 w hr2 hO => za8 x_c r2 _ (hG.own hF hO) (hO.sees (i := 0) rfl) hr2) fun r2 hr2 => ?_
 refine br rfl (fun hc4 => ?_) fun hc4 => ?_
 exact rt Tryz.results217 rfl
 refine rc_ rfl fun a w hf hO hm => ?_
 refine zbM (by kernel_rfl) (by kernel_rfl) hO ?_
 refine zm (fun w hO => zn hf rfl) rfl hf rfl rfl fun a hf => ?_
 refine zm (fun w hO => zp hf rfl) rfl hf rfl rfl fun a hf => ?_
 refine zm (fun w hO => zr ziA hf rfl) rfl hf rfl rfl fun a hf => ?_
 refine zm (fun w hO => zk (o := 0) zbC (hO.sees (i := 0) rfl) rfl hf rfl) rfl hf rfl rfl fun a hf => ?_
 refine zm (fun w hO => zn hf rfl) rfl hf rfl rfl fun a hf => ?_
 refine zm (fun w hO => zp hf rfl) rfl hf rfl rfl fun a hf => ?_
 refine zm (fun w hO => zr ziB hf rfl) rfl hf rfl rfl fun a hf => ?_
 refine zm (fun w hO => zk (o := 1) ze6 (hO.sees (i := 0) rfl) rfl hf rfl) rfl hf rfl rfl fun a hf => ?_
 obtain ⟨b7, hb7, hm⟩ := ob hm
 refine zm (fun w hO => zlN (l := x_c.f_s) Tryz.underlying9 hf rfl rfl hb7) rfl hf rfl rfl fun a hf => ?_
 refine zm (fun w hO => zv hf rfl) rfl hf rfl rfl fun a hf => ?_
 refine zm (fun w hO => zv hf rfl) rfl hf rfl rfl fun a hf => ?_
 refine wpQuiet_nil ?_
 intro w hO
 refine S.no tb ?_ hf hO hm
 exact rt Tryz.results217 rfl

theorem zaK (x_b : UInt8) (R : Bool) (w0 : World) (hG : zt w0) (hm : z6 x_b = some R) :
    Calls Tryz.prog 176 #[zB x_b] w0 (Ret w0 (fun R => .bool R) R) := by
 rw [z6] at hm
 have hF : zo [] := zf
 have hO : Dk.Own w0 [] w0 [] := Dk.Own.refl w0
 refine S.enter tb Tryz.func176 rfl Tryz.ntmps176 rfl ?_ hO hm
 refine jv 0 [] [] (fun J E L => ∃ (t3 : Bool), J ((2, .bool t3) :: E) (L) (zc7 t3)) rfl ?_ ?_
 refine vl rfl rfl (fun a w hf hO => ziP (b := x_b) (c := 48) hf rfl rfl) ?_
 refine br rfl (fun hc2 => ?_) fun hc2 => ?_
 refine vl rfl rfl (fun a w hf hO => ziO (b := x_b) (c := 57) hf rfl rfl) ?_
 exact en rfl fun _ _ j => ⟨decide (x_b ≤ 57), j rfl⟩
 exact en rfl fun _ _ j => ⟨false, j rfl⟩
 rintro a w ⟨t3, hf, hO, hm⟩
 rw [zc7] at hm
 refine S.co tb ?_ hf hO hm
 exact rt Tryz.results176 rfl

theorem zq (x_c : scan_Scanner) (x_b : UInt8) (R : Bool × scan_Scanner) (w0 : World) (hG : zt w0) {x_c_b0 : Nat} {F : List Nat} (hF : zo F) (hO : Dk.Own w0 F w0 [.blk x_c_b0 [str x_c.f_s, int x_c.f_at] 289]) (hm : zs x_c x_b = some R) :
    Calls Tryz.prog 169 #[ptr x_c_b0 0, zB x_b] w0 fun e w' => e = .returned (.bool R.1) ∧ Dk.Own w0 F w' [.blk x_c_b0 [str R.2.f_s, int R.2.f_at] 289] := by
 rw [zs] at hm
 refine S.enter tb Tryz.func169 rfl Tryz.ntmps169 rfl ?_ hO hm
 refine cl zjZ rfl (fun r2 w hr2 hO => zS x_c r2 _ (hG.own hF hO) (hO.blkSees (i := 0) rfl) hr2) fun r2 hr2 => ?_
 refine jv 1 [0] [0] (fun J E L => ∃ (t5 : Bool), J ((18, .bool t5) :: E) (L) (zbs x_c t5)) rfl ?_ ?_
 refine br rfl (fun hc4 => ?_) fun hc4 => ?_
 exact en rfl fun _ _ j => ⟨true, j rfl⟩
 refine vl rfl rfl (fun a w hf hO => zhp (b := r2.1) (c := x_b) hf rfl rfl) ?_
 exact en rfl fun _ _ j => ⟨!(r2.1 == x_b), j rfl⟩
 rintro a w ⟨t5, hf, hO, hm⟩
 rw [zbs] at hm
 refine S.co tb ?_ hf hO hm
 refine br rfl (fun hc6 => ?_) fun hc6 => ?_
 refine re_ rfl fun a w hf hO hm => ?_
 obtain rfl := Option.some.inj hm
 exact zb Tryz.results169 hf (.tmp rfl .nil) ⟨rfl, hO⟩
 refine ld 0 rfl rfl ?_
 refine bi rfl fun i9 hi9 => ?_
 refine st 0 rfl rfl ?_
 refine re_ rfl fun a w hf hO hm => ?_
 obtain rfl := Option.some.inj hm
 exact zb Tryz.results169 hf (.tmp rfl .nil) ⟨rfl, hO⟩

theorem zd9 (x_p : startline_line) (R : Int × Bool × scan_Scanner) (w0 : World) (hG : zt w0) {x_p_b0 : Nat} {F : List Nat} (hF : zo F) (hO : Dk.Own w0 F w0 [.blk x_p_b0 [str x_p.Scanner.f_s, int x_p.Scanner.f_at] 289]) (hm : zbt x_p = some R) :
    Calls Tryz.prog 252 #[.agg #[ptr x_p_b0 0]] w0 fun e w' => e = .returned (.tuple #[int R.1, .bool R.2.1]) ∧ Dk.Own w0 F w' [.blk x_p_b0 [str R.2.2.f_s, int R.2.2.f_at] 289] := by
 rw [zbt] at hm
 refine S.enter tb Tryz.func252 rfl Tryz.ntmps252 rfl ?_ hO hm
 refine bo rfl fun b1 => ?_
 refine ld 0 rfl rfl ?_
 refine cl zjZ rfl (fun r3 w hr3 hO => zS x_p.Scanner r3 _ (hG.own hF hO) (hO.blkSees (i := 1) rfl) hr3) fun r3 hr3 => ?_
 refine jv 1 [1, 4] [0, 1] (fun J E L => ∃ (t7 : Bool), J ((18, .bool t7) :: E) (L) (zaE x_p r3 t7)) rfl ?_ ?_
 refine br rfl (fun hc5 => ?_) fun hc5 => ?_
 exact en rfl fun _ _ j => ⟨true, j rfl⟩
 refine cl zjY rfl (fun r6 w hr6 hO => zaK r3.1 r6 _ (hG.own hF hO) hr6) fun r6 hr6 => ?_
 exact en rfl fun _ _ j => ⟨!r6, j rfl⟩
 rintro a w ⟨t7, hf, hO, hm⟩
 rw [zaE] at hm
 refine S.co tb ?_ hf hO hm
 refine br rfl (fun hc8 => ?_) fun hc8 => ?_
 refine re_ rfl fun a w hf hO hm => ?_
 obtain rfl := Option.some.inj hm
 exact zb Tryz.results252 hf (.tmp rfl (.tmp rfl .nil)) ⟨rfl, (hO.sub (.cons _ (.cons_cons _ .slnil)))⟩
 refine ld 0 rfl rfl ?_
 refine rw_ rfl fun a w hf hO hm => ?_
 obtain ⟨r11, hr11, hm⟩ := ob hm
 have hch12 := (show Dk.Own w0 F _ ([.blk x_p_b0 [str x_p.Scanner.f_s, int x_p.Scanner.f_at] 289] ++ [.blk b1 [ptr x_p_b0 0] 254]) from hO.choose [1, 0] rfl)
 have hfar12 := Dk.Own.far hch12 rfl hF hG.size
 have hlend12 := hch12.lend (S := []) rfl trivial
 have hcl12 := zq x_p.Scanner r3.1 r11 _ (hG.own hF hO) hfar12 hlend12 hr11
 refine zg (zi zet hf (vs := [ptr x_p_b0 0, zB r3.1]) rfl) rfl hf rfl rfl (hcl12) ?_
 rintro e w' ⟨he, hO'⟩
 refine ⟨_, he, fun a hf => ?_⟩
 have hO := hch12.back rfl hO' rfl
 refine S.op tb ?_ hf hO hm
 refine vl rfl rfl (fun a w hf hO => zka (b := r3.1) (c := 48) hf rfl rfl) ?_
 refine vl rfl rfl (fun a w hf hO => zjg Tryz.underlying3 Tryz.underlying5 (zke _) hf (kd := .u8) rfl) ?_
 refine re_ rfl fun a w hf hO hm => ?_
 obtain rfl := Option.some.inj hm
 exact zb Tryz.results252 hf (.tmp rfl (.tmp rfl .nil)) ⟨rfl, (hO.sub (.cons_cons _ (.cons _ .slnil)))⟩

theorem zdw (x_p : startline_line) (R : Int × Int × Bool × scan_Scanner) (w0 : World) (hG : zt w0) {x_p_b0 : Nat} {F : List Nat} (hF : zo F) (hO : Dk.Own w0 F w0 [.blk x_p_b0 [str x_p.Scanner.f_s, int x_p.Scanner.f_at] 289]) (hm : zaU x_p = some R) :
    Calls Tryz.prog 215 #[.agg #[ptr x_p_b0 0]] w0 fun e w' => e = .returned (.tuple #[int R.1, int R.2.1, .bool R.2.2.1]) ∧ Dk.Own w0 F w' [.blk x_p_b0 [str R.2.2.2.f_s, int R.2.2.2.f_at] 289] := by
 rw [zaU] at hm
 refine S.enter tb Tryz.func215 rfl Tryz.ntmps215 rfl ?_ hO hm
 refine bo rfl fun b1 => ?_
 refine ld 0 rfl rfl ?_
 refine rw_ rfl fun a w hf hO hm => ?_
 obtain ⟨r3, hr3, hm⟩ := ob hm
 have hch4 := (show Dk.Own w0 F _ ([.blk x_p_b0 [str x_p.Scanner.f_s, int x_p.Scanner.f_at] 289] ++ [.blk b1 [ptr x_p_b0 0] 254]) from hO.choose [1, 0] rfl)
 have hfar4 := Dk.Own.far hch4 rfl hF hG.size
 have hlend4 := hch4.lend (S := []) rfl trivial
 have hcl4 := zhX x_p.Scanner [72, 84, 84, 80, 47] r3 _ (hG.own hF hO) hfar4 hlend4 hr3
 refine zg (zi c_251 hf (vs := [ptr x_p_b0 0, str [72, 84, 84, 80, 47]]) rfl) rfl hf rfl rfl (hcl4) ?_
 rintro e w' ⟨he, hO'⟩
 refine ⟨_, he, fun a hf => ?_⟩
 have hO := hch4.back rfl hO' rfl
 refine S.op tb ?_ hf hO hm
 refine br rfl (fun hc6 => ?_) fun hc6 => ?_
 refine re_ rfl fun a w hf hO hm => ?_
 obtain rfl := Option.some.inj hm
 exact zb Tryz.results215 hf (.tmp rfl (.tmp rfl (.tmp rfl .nil))) ⟨rfl, (hO.sub (.cons_cons _ (.cons _ .slnil)))⟩
 refine ld 1 rfl rfl ?_
 refine rw_ rfl fun a w hf hO hm => ?_
 obtain ⟨r9, hr9, hm⟩ := ob hm
 have hch10 := (show Dk.Own w0 F _ ([.blk x_p_b0 [str r3.2.f_s, int r3.2.f_at] 289] ++ [.blk b1 [ptr x_p_b0 0] 254]) from hO)
 have hfar10 := Dk.Own.far hch10 rfl hF hG.size
 have hlend10 := hch10.lend (S := []) rfl trivial
 have hcl10 := zd9 (⟨r3.2⟩ : startline_line) r9 _ (hG.own hF hO) hfar10 hlend10 hr9
 refine zg (zi c_252 hf (vs := [.agg #[ptr x_p_b0 0]]) rfl) rfl hf rfl rfl (hcl10) ?_
 rintro e w' ⟨he, hO'⟩
 refine ⟨_, he, fun a hf => ?_⟩
 have hO := hch10.back rfl hO' rfl
 refine S.op tb ?_ hf hO hm
 refine ld 1 rfl rfl ?_
 refine rw_ rfl fun a w hf hO hm => ?_
 obtain ⟨r12, hr12, hm⟩ := ob hm
 have hch13 := (show Dk.Own w0 F _ ([.blk x_p_b0 [str r9.2.2.f_s, int r9.2.2.f_at] 289] ++ [.blk b1 [ptr x_p_b0 0] 254]) from hO)
 have hfar13 := Dk.Own.far hch13 rfl hF hG.size
 have hlend13 := hch13.lend (S := []) rfl trivial
 have hcl13 := zq r9.2.2 46 r12 _ (hG.own hF hO) hfar13 hlend13 hr12
 refine zg (zi zet hf (vs := [ptr x_p_b0 0, zB 46]) rfl) rfl hf rfl rfl (hcl13) ?_
 rintro e w' ⟨he, hO'⟩
 refine ⟨_, he, fun a hf => ?_⟩
 have hO := hch13.back rfl hO' rfl
 refine S.op tb ?_ hf hO hm
 refine ld 1 rfl rfl ?_
 refine rw_ rfl fun a w hf hO hm => ?_
 obtain ⟨r15, hr15, hm⟩ := ob hm
 have hch16 := (show Dk.Own w0 F _ ([.blk x_p_b0 [str r12.2.f_s, int r12.2.f_at] 289] ++ [.blk b1 [ptr x_p_b0 0] 254]) from hO)
 have hfar16 := Dk.Own.far hch16 rfl hF hG.size
 have hlend16 := hch16.lend (S := []) rfl trivial
 have hcl16 := zd9 (⟨r12.2⟩ : startline_line) r15 _ (hG.own hF hO) hfar16 hlend16 hr15
 refine zg (zi c_252 hf (vs := [.agg #[ptr x_p_b0 0]]) rfl) rfl hf rfl rfl (hcl16) ?_
 rintro e w' ⟨he, hO'⟩
 refine ⟨_, he, fun a hf => ?_⟩
 have hO := hch16.back rfl hO' rfl
 refine S.op tb ?_ hf hO hm
 refine jv 0 [] [0, 1] (fun J E L => ∃ (t20 : Bool), J ((2, int r9.1) :: (3, int r15.1) :: (4, .bool t20) :: E) (L) (zR r9 r15 t20)) rfl ?_ ?_
 refine br rfl (fun hc18 => ?_) fun hc18 => ?_
 refine br rfl (fun hc19 => ?_) fun hc19 => ?_
 exact en rfl fun _ _ j => ⟨r15.2.1, j rfl⟩
 exact en rfl fun _ _ j => ⟨false, j rfl⟩
 exact en rfl fun _ _ j => ⟨false, j rfl⟩
 rintro a w ⟨t20, hf, hO, hm⟩
 rw [zR] at hm
 refine S.co tb ?_ hf hO hm
 refine re_ rfl fun a w hf hO hm => ?_
 obtain rfl := Option.some.inj hm
 exact zb Tryz.results215 hf (.tmp rfl (.tmp rfl (.tmp rfl .nil))) ⟨rfl, (hO.sub (.cons_cons _ (.cons _ .slnil)))⟩

theorem zfX (x_s : Str) (R : Bool) (w0 : World) (hG : zt w0) (hm : zdD x_s = some R) :
    Calls Tryz.prog 165 #[str x_s] w0 (Ret w0 (fun R => .bool R) R) := by
 rw [zdD] at hm
 have hF : zo [] := zf
 have hO : Dk.Own w0 [] w0 [] := Dk.Own.refl w0
 refine S.enter tb Tryz.func165 rfl Tryz.ntmps165 rfl ?_ hO hm
 refine rw_ rfl fun a w hf hO hm => ?_
 obtain ⟨r2, hr2, hm⟩ := ob hm
 refine zg (zi zkE hf (vs := [str x_s]) rfl) rfl hf rfl rfl (zeD x_s r2 _ (hG.own hF hO) hr2) ?_
 rintro e w' ⟨b3, he, hO'⟩
 refine ⟨_, he, fun a hf => ?_⟩
 have hO := hO.call hO' (by simp [Res.shared])
 refine S.op tb ?_ hf hO hm
 refine vl rfl rfl (fun a w hf hO => zl (vs := [(0, ptr b3 0)]) (v := .agg #[ptr b3 0]) hf rfl (by kernel_rfl)) ?_
 refine al zl3 rfl fun b4 => ?_
 refine st 0 rfl rfl ?_
 refine ld 0 rfl rfl ?_
 refine rw_ rfl fun a w hf hO hm => ?_
 obtain ⟨r6, hr6, hm⟩ := ob hm
 have hch7 := (show Dk.Own w0 [] _ ([.blk b3 [str r2.f_s, int r2.f_at] 289] ++ [.blk b4 [ptr b3 0] 254]) from hO.choose [1, 0] rfl)
 have hfar7 := Dk.Own.far hch7 rfl hF hG.size
 have hlend7 := hch7.lend (S := []) rfl trivial
 have hcl7 := zdw (⟨r2⟩ : startline_line) r6 _ (hG.own hF hO) hfar7 hlend7 hr6
 refine zg (zi c_215 hf (vs := [.agg #[ptr b3 0]]) rfl) rfl hf rfl rfl (hcl7) ?_
 rintro e w' ⟨he, hO'⟩
 refine ⟨_, he, fun a hf => ?_⟩
 have hO := hch7.back rfl hO' rfl
 refine S.op tb ?_ hf hO hm
 refine jv 0 [] [0, 1] (fun J E L => ∃ (t13 : Bool), J ((2, .bool t13) :: E) (L) (zar t13)) rfl ?_ ?_
 refine br rfl (fun hc9 => ?_) fun hc9 => ?_
 refine ld 1 rfl rfl ?_
 refine cl zly rfl (fun r10 w hr10 hO => za8 r6.2.2.2 r10 _ (hG.own hF hO) (hO.blkSees (i := 0) rfl) hr10) fun r10 hr10 => ?_
 refine br rfl (fun hc11 => ?_) fun hc11 => ?_
 refine br rfl (fun hc12 => ?_) fun hc12 => ?_
 exact en rfl fun _ _ j => ⟨true, j rfl⟩
 exact en rfl fun _ _ j => ⟨decide (1 < r6.2.1), j rfl⟩
 exact en rfl fun _ _ j => ⟨false, j rfl⟩
 exact en rfl fun _ _ j => ⟨false, j rfl⟩
 rintro a w ⟨t13, hf, hO, hm⟩
 rw [zar] at hm
 refine S.co tb ?_ hf hO hm
 exact rt Tryz.results165 rfl

theorem zbr (x_c : scan_Scanner) (R : Int) (w0 : World) (hG : zt w0) {x_c_b0 : Nat} (hs0 : zw w0 (some ⟨x_c_b0, 0, none⟩) [str x_c.f_s, int x_c.f_at]) (hm : zaM x_c = some R) :
    Calls Tryz.prog 218 #[ptr x_c_b0 0] w0 (Ret w0 (fun R => int R) R) := by
 rw [zaM] at hm
 have hF : zo [] := zf
 have hO : Dk.Own w0 [] w0 [] := Dk.Own.refl w0
 have hO := hO.addShr hs0 (by simp [Res.shared])
 refine S.enter tb Tryz.func218 rfl Tryz.ntmps218 rfl ?_ hO hm
 refine vl rfl rfl (fun a w hf hO => zZ Tryz.underlying251 hf rfl rfl) ?_
 refine kn (b' := false) rfl rfl ?_
 refine ld 0 rfl rfl ?_
 exact rt Tryz.results218 rfl

theorem zaD (x_c : scan_Scanner) (x_is : UInt8 → Option Bool) (R : Str × scan_Scanner) (w0 : World) (hG : zt w0) {x_c_b0 : Nat} {F : List Nat} (hF : zo F) (hO : Dk.Own w0 F w0 [.blk x_c_b0 [str x_c.f_s, int x_c.f_at] 289]) {x_is_f : Nat} {x_is_p x_is_c : Array Value} (x_is_k : zd Tryz.prog x_is_f) (x_is_h : ∀ (y0 : UInt8) (r : Bool) (w : World), zt w → x_is y0 = some r → Calls Tryz.prog x_is_f (x_is_p ++ [zB y0].toArray ++ x_is_c) w fun e w' => e = .returned (.bool r) ∧ Below w.heap.size w w') (hm : z8 x_c x_is = some R) :
    Calls Tryz.prog 170 #[ptr x_c_b0 0, .func (.func x_is_f) x_is_p x_is_c] w0 fun e w' => e = .returned (str R.1) ∧ Dk.Own w0 F w' [.blk x_c_b0 [str R.2.f_s, int R.2.f_at] 289] := by
 rw [z8] at hm
 refine S.enter tb Tryz.func170 rfl Tryz.ntmps170 rfl ?_ hO hm
 refine cl zlz rfl (fun r2 w hr2 hO => zbr x_c r2 _ (hG.own hF hO) (hO.blkSees (i := 0) rfl) hr2) fun r2 hr2 => ?_
 refine jv 0 [0, 5] [] (fun J E L => ∃ (s14 : Str) (i15 : Int), J (E) (.blk x_c_b0 [str s14, int i15] 289 :: L) (zcv r2 s14 i15)) rfl ?_ ?_
 refine lv [0, 1, 5] [] (fun J E L k => ∃ (s4 : Str) (i5 : Int), J (E) (.blk x_c_b0 [str s4, int i5] 289 :: L) (zO x_is r2 k s4 i5)) rfl (fun _ _ j => ⟨x_c.f_s, x_c.f_at, j rfl⟩) ?_
 rintro n1 a w ⟨s4, i5, hf, hO, hm⟩
 obtain _ | n1 := n1
 rw [zO] at hm
 cases hm
 rw [zO] at hm
 refine S.co tb ?_ hf hO hm
 refine cl zjZ rfl (fun r6 w hr6 hO => zS (⟨s4, i5⟩ : scan_Scanner) r6 _ (hG.own hF hO) (hO.blkSees (i := 0) rfl) hr6) fun r6 hr6 => ?_
 refine jv 5 [0, 1, 5] [0] (fun J E L => ∃ (t10 : Bool), J ((22, .bool t10) :: E) (L) (zbi (zO x_is r2 n1) r2 s4 i5 t10)) rfl ?_ ?_
 refine br rfl (fun hc8 => ?_) fun hc8 => ?_
 exact en rfl fun _ _ j => ⟨true, j rfl⟩
 refine rw_ rfl fun a w hf hO hm => ?_
 obtain ⟨r9, hr9, hm⟩ := ob hm
 refine oc (zlO x_is_k hf rfl (vs := [zB r6.1]) rfl) hf rfl (x_is_h r6.1 r9 _ (hG.own hF hO) hr9) hO fun a w' hf hO => ?_
 refine S.op tb ?_ hf hO hm
 refine kn (b' := false) hc8 rfl ?_
 exact en rfl fun _ _ j => ⟨!r9, j rfl⟩
 rintro a w ⟨t10, hf, hO, hm⟩
 rw [zbi] at hm
 refine S.co tb ?_ hf hO hm
 refine br rfl (fun hc11 => ?_) fun hc11 => ?_
 exact en rfl fun _ _ j => ⟨s4, i5, j rfl⟩
 refine ld 0 rfl rfl ?_
 refine bi rfl fun i13 hi13 => ?_
 refine st 0 rfl rfl ?_
 exact en rfl fun _ _ j => ⟨_, Nat.lt_succ_self _, s4, i13, j rfl⟩
 rintro a w ⟨s14, i15, hf, hO, hm⟩
 rw [zcv] at hm
 refine S.co tb ?_ hf hO hm
 refine vl rfl rfl (fun a w hf hO => zZ Tryz.underlying251 hf rfl rfl) ?_
 refine kn (b' := false) rfl rfl ?_
 refine rc_ rfl fun a w hf hO hm => ?_
 refine zbM (by kernel_rfl) (by kernel_rfl) hO ?_
 refine zm (fun w hO => zn hf rfl) rfl hf rfl rfl fun a hf => ?_
 refine zm (fun w hO => zp hf rfl) rfl hf rfl rfl fun a hf => ?_
 refine zm (fun w hO => zr ziA hf rfl) rfl hf rfl rfl fun a hf => ?_
 refine zm (fun w hO => zk (o := 0) zbC (hO.blkSees (i := 0) rfl) rfl hf rfl) rfl hf rfl rfl fun a hf => ?_
 refine zm (fun w hO => zn hf rfl) rfl hf rfl rfl fun a hf => ?_
 refine zm (fun w hO => zn hf rfl) rfl hf rfl rfl fun a hf => ?_
 refine zm (fun w hO => zp hf rfl) rfl hf rfl rfl fun a hf => ?_
 refine zm (fun w hO => zr ziB hf rfl) rfl hf rfl rfl fun a hf => ?_
 refine zm (fun w hO => zk (o := 1) ze6 (hO.blkSees (i := 0) rfl) rfl hf rfl) rfl hf rfl rfl fun a hf => ?_
 obtain ⟨s18, hs18, hm⟩ := ob hm
 refine zm (fun w hO => ziR (l := s14) Tryz.underlying9 hf rfl rfl rfl hs18) rfl hf rfl rfl fun a hf => ?_
 refine zm (fun w hO => zv hf rfl) rfl hf rfl rfl fun a hf => ?_
 refine wpQuiet_nil ?_
 intro w hO
 refine S.no tb ?_ hf hO hm
 refine re_ rfl fun a w hf hO hm => ?_
 obtain rfl := Option.some.inj hm
 exact zb Tryz.results170 hf (.tmp rfl .nil) ⟨rfl, hO⟩

theorem zcq (x_b : UInt8) (R : UInt8) (w0 : World) (hG : zt w0) (hm : zan x_b = some R) :
    Calls Tryz.prog 225 #[zB x_b] w0 (Ret w0 (fun R => zB R) R) := by
 rw [zan] at hm
 have hF : zo [] := zf
 have hO : Dk.Own w0 [] w0 [] := Dk.Own.refl w0
 refine S.enter tb Tryz.func225 rfl Tryz.ntmps225 rfl ?_ hO hm
 refine jv 1 [0] [] (fun J E L => ∃ (t3 : Bool), J ((8, .bool t3) :: E) (L) (zee x_b t3)) rfl ?_ ?_
 refine vl rfl rfl (fun a w hf hO => ziP (b := x_b) (c := 65) hf rfl rfl) ?_
 refine br rfl (fun hc2 => ?_) fun hc2 => ?_
 refine vl rfl rfl (fun a w hf hO => ziO (b := x_b) (c := 90) hf rfl rfl) ?_
 exact en rfl fun _ _ j => ⟨decide (x_b ≤ 90), j rfl⟩
 exact en rfl fun _ _ j => ⟨false, j rfl⟩
 rintro a w ⟨t3, hf, hO, hm⟩
 rw [zee] at hm
 refine S.co tb ?_ hf hO hm
 refine br rfl (fun hc4 => ?_) fun hc4 => ?_
 refine vl rfl rfl (fun a w hf hO => zn4 (b := x_b) (c := 32) hf rfl rfl) ?_
 exact rt Tryz.results225 rfl
 exact rt Tryz.results225 rfl

theorem zg1 (x_b : UInt8) (R : Bool) (w0 : World) (hG : zt w0) (hm : zeX x_b = some R) :
    Calls Tryz.prog 184 #[zB x_b] w0 (Ret w0 (fun R => .bool R) R) := by
 rw [zeX] at hm
 have hF : zo [] := zf
 have hO : Dk.Own w0 [] w0 [] := Dk.Own.refl w0
 refine S.enter tb Tryz.func184 rfl Tryz.ntmps184 rfl ?_ hO hm
 refine jv 0 [] [] (fun J E L => ∃ (t5 : Bool), J ((2, .bool t5) :: E) (L) (zc8 t5)) rfl ?_ ?_
 refine cl zlA rfl (fun r2 w hr2 hO => zcq x_b r2 _ (hG.own hF hO) hr2) fun r2 hr2 => ?_
 refine vl rfl rfl (fun a w hf hO => ziP (b := r2) (c := 97) hf rfl rfl) ?_
 refine br rfl (fun hc3 => ?_) fun hc3 => ?_
 refine cl zlA rfl (fun r4 w hr4 hO => zcq x_b r4 _ (hG.own hF hO) hr4) fun r4 hr4 => ?_
 refine vl rfl rfl (fun a w hf hO => ziO (b := r4) (c := 122) hf rfl rfl) ?_
 exact en rfl fun _ _ j => ⟨decide (r4 ≤ 122), j rfl⟩
 exact en rfl fun _ _ j => ⟨false, j rfl⟩
 rintro a w ⟨t5, hf, hO, hm⟩
 rw [zc8] at hm
 refine S.co tb ?_ hf hO hm
 exact rt Tryz.results184 rfl

end Go.Proofs
end
section
set_option linter.unusedVariables false
set_option maxHeartbeats 1000000
set_option linter.unusedSimpArgs false
set_option maxRecDepth 100000
namespace Go.Proofs
open Go.Dk Go.Dm Go.RowKit

theorem zfU (x_b : UInt8) (x_l : Str) (R : Bool) (w0 : World) (hG : zt w0) (hm : zfy x_b x_l = some R) :
    Calls Tryz.prog 185 #[zB x_b, str x_l] w0 (Ret w0 (fun R => .bool R) R) := by
 rw [zfy] at hm
 have hF : zo [] := zf
 have hO : Dk.Own w0 [] w0 [] := Dk.Own.refl w0
 refine S.enter tb Tryz.func185 rfl Tryz.ntmps185 rfl ?_ hO hm
 refine cl c_226 rfl (fun r2 w hr2 hO => zfo x_l x_b r2 _ (hG.own hF hO) hr2) fun r2 hr2 => ?_
 exact rt Tryz.results185 rfl

theorem zgW (x_b : UInt8) (R : Bool) (w0 : World) (hG : zt w0) (hm : zcr x_b = some R) :
    Calls Tryz.prog 129 #[zB x_b] w0 (Ret w0 (fun R => .bool R) R) := by
 rw [zcr] at hm
 have hF : zo [] := zf
 have hO : Dk.Own w0 [] w0 [] := Dk.Own.refl w0
 refine S.enter tb Tryz.func129 rfl Tryz.ntmps129 rfl ?_ hO hm
 refine jv 0 [] [] (fun J E L => ∃ (t7 : Bool), J ((2, .bool t7) :: E) (L) (zbN t7)) rfl ?_ ?_
 refine cl c_184 rfl (fun r2 w hr2 hO => zg1 x_b r2 _ (hG.own hF hO) hr2) fun r2 hr2 => ?_
 refine br rfl (fun hc3 => ?_) fun hc3 => ?_
 exact en rfl fun _ _ j => ⟨true, j rfl⟩
 refine cl zjY rfl (fun r4 w hr4 hO => zaK x_b r4 _ (hG.own hF hO) hr4) fun r4 hr4 => ?_
 refine br rfl (fun hc5 => ?_) fun hc5 => ?_
 exact en rfl fun _ _ j => ⟨true, j rfl⟩
 refine cl zmA rfl (fun r6 w hr6 hO => zfU x_b [33, 35, 36, 37, 38, 39, 42, 43, 45, 46, 94, 95, 96, 124, 126] r6 _ (hG.own hF hO) hr6) fun r6 hr6 => ?_
 exact en rfl fun _ _ j => ⟨r6, j rfl⟩
 rintro a w ⟨t7, hf, hO, hm⟩
 rw [zbN] at hm
 refine S.co tb ?_ hf hO hm
 exact rt Tryz.results129 rfl

theorem zbo (x_c : scan_Scanner) (R : Str × Bool × scan_Scanner) (w0 : World) (hG : zt w0) {x_c_b0 : Nat} {F : List Nat} (hF : zo F) (hO : Dk.Own w0 F w0 [.blk x_c_b0 [str x_c.f_s, int x_c.f_at] 289]) (hm : zas x_c = some R) :
    Calls Tryz.prog 168 #[ptr x_c_b0 0] w0 fun e w' => e = .returned (.tuple #[str R.1, .bool R.2.1]) ∧ Dk.Own w0 F w' [.blk x_c_b0 [str R.2.2.f_s, int R.2.2.f_at] 289] := by
 rw [zas] at hm
 refine S.enter tb Tryz.func168 rfl Tryz.ntmps168 rfl ?_ hO hm
 refine rw_ rfl fun a w hf hO hm => ?_
 obtain ⟨r2, hr2, hm⟩ := ob hm
 have hch3 := (show Dk.Own w0 F _ ([.blk x_c_b0 [str x_c.f_s, int x_c.f_at] 289] ++ []) from hO)
 have hfar3 := Dk.Own.far hch3 rfl hF hG.size
 have hlend3 := hch3.lend (S := []) rfl trivial
 have hcl3 := zaD x_c zcr r2 _ (hG.own hF hO) hfar3 hlend3 c_129 (fun y0 r w hG h => zdN (zgW y0 r w hG h)) hr2
 refine zg (zi zlx hf (vs := [ptr x_c_b0 0, .func (.func 129) #[] #[]]) rfl) rfl hf rfl rfl (hcl3) ?_
 rintro e w' ⟨he, hO'⟩
 refine ⟨_, he, fun a hf => ?_⟩
 have hO := hch3.back rfl hO' rfl
 refine S.op tb ?_ hf hO hm
 refine re_ rfl fun a w hf hO hm => ?_
 obtain rfl := Option.some.inj hm
 exact zb Tryz.results168 hf (.tmp rfl (.tmp rfl .nil)) ⟨rfl, hO⟩

theorem zg7 (x_b : UInt8) (R : Bool) (w0 : World) (hG : zt w0) (hm : zbD x_b = some R) :
    Calls Tryz.prog 171 #[zB x_b] w0 (Ret w0 (fun R => .bool R) R) := by
 rw [zbD] at hm
 have hF : zo [] := zf
 have hO : Dk.Own w0 [] w0 [] := Dk.Own.refl w0
 refine S.enter tb Tryz.func171 rfl Tryz.ntmps171 rfl ?_ hO hm
 refine vl rfl rfl (fun a w hf hO => zhp (b := x_b) (c := 32) hf rfl rfl) ?_
 exact rt Tryz.results171 rfl

theorem zd6 (x_p : startline_line) (R : Int × Bool × scan_Scanner) (w0 : World) (hG : zt w0) {x_p_b0 : Nat} {F : List Nat} (hF : zo F) (hO : Dk.Own w0 F w0 [.blk x_p_b0 [str x_p.Scanner.f_s, int x_p.Scanner.f_at] 289]) (hm : zbu x_p = some R) :
    Calls Tryz.prog 172 #[.agg #[ptr x_p_b0 0]] w0 fun e w' => e = .returned (.tuple #[int R.1, .bool R.2.1]) ∧ Dk.Own w0 F w' [.blk x_p_b0 [str R.2.2.f_s, int R.2.2.f_at] 289] := by
 rw [zbu] at hm
 refine S.enter tb Tryz.func172 rfl Tryz.ntmps172 rfl ?_ hO hm
 refine bo rfl fun b1 => ?_
 refine ld 0 rfl rfl ?_
 refine rw_ rfl fun a w hf hO hm => ?_
 obtain ⟨r3, hr3, hm⟩ := ob hm
 have hch4 := (show Dk.Own w0 F _ ([.blk x_p_b0 [str x_p.Scanner.f_s, int x_p.Scanner.f_at] 289] ++ [.blk b1 [ptr x_p_b0 0] 254]) from hO.choose [1, 0] rfl)
 have hfar4 := Dk.Own.far hch4 rfl hF hG.size
 have hlend4 := hch4.lend (S := []) rfl trivial
 have hcl4 := zdw x_p r3 _ (hG.own hF hO) hfar4 hlend4 hr3
 refine zg (zi c_215 hf (vs := [.agg #[ptr x_p_b0 0]]) rfl) rfl hf rfl rfl (hcl4) ?_
 rintro e w' ⟨he, hO'⟩
 refine ⟨_, he, fun a hf => ?_⟩
 have hO := hch4.back rfl hO' rfl
 refine S.op tb ?_ hf hO hm
 refine jv 0 [] [0, 1] (fun J E L => ∃ (t8 : Bool), J ((2, int r3.2.1) :: (3, .bool t8) :: E) (L) (zaa r3 t8)) rfl ?_ ?_
 refine br rfl (fun hc6 => ?_) fun hc6 => ?_
 refine br rfl (fun hc7 => ?_) fun hc7 => ?_
 exact en rfl fun _ _ j => ⟨decide (r3.2.1 ≤ 1), j rfl⟩
 exact en rfl fun _ _ j => ⟨false, j rfl⟩
 exact en rfl fun _ _ j => ⟨false, j rfl⟩
 rintro a w ⟨t8, hf, hO, hm⟩
 rw [zaa] at hm
 refine S.co tb ?_ hf hO hm
 refine re_ rfl fun a w hf hO hm => ?_
 obtain rfl := Option.some.inj hm
 exact zb Tryz.results172 hf (.tmp rfl (.tmp rfl .nil)) ⟨rfl, (hO.sub (.cons_cons _ (.cons _ .slnil)))⟩

theorem zbp (x_is : UInt8 → Option Bool) (x_l : List Str) (R : Bool) (w0 : World) (hG : zt w0) {x_is_f : Nat} {x_is_p x_is_c : Array Value} (x_is_k : zd Tryz.prog x_is_f) (x_is_h : ∀ (y0 : UInt8) (r : Bool) (w : World), zt w → x_is y0 = some r → Calls Tryz.prog x_is_f (x_is_p ++ [zB y0].toArray ++ x_is_c) w fun e w' => e = .returned (.bool r) ∧ Below w.heap.size w w') {x_l_p0 : Option Addr} {x_l_c0 : Nat} (hs0 : zw w0 x_l_p0 (cells zh x_l)) (hc0 : x_l.length ≤ x_l_c0) (hm : zcs x_is x_l = some R) :
    Calls Tryz.prog 95 #[.func (.func x_is_f) x_is_p x_is_c, .slice x_l_p0 x_l.length x_l_c0] w0 (Ret w0 (fun R => .bool R) R) := by
 rw [zcs] at hm
 have hF : zo [] := zf
 have hO : Dk.Own w0 [] w0 [] := Dk.Own.refl w0
 have hO := hO.addShr hs0 (by simp [Res.shared])
 refine S.enter tb Tryz.func95 rfl Tryz.ntmps95 rfl ?_ hO hm
 refine lv [0, 8, 9] [0] (fun J E L k => ∃ (i3 : Int), J ((10, int i3) :: E) (L) (zc9 x_is x_l k i3)) rfl (fun _ _ j => ⟨0, j rfl⟩) ?_
 rintro n1 a w ⟨i3, hf, hO, hm⟩
 obtain _ | n1 := n1
 rw [zc9] at hm
 cases hm
 rw [zc9] at hm
 refine S.co tb ?_ hf hO hm
 refine br rfl (fun hc5 => ?_) fun hc5 => ?_
 refine rw_ rfl fun a w hf hO hm => ?_
 obtain ⟨x7, hx7, hm⟩ := ob hm
 obtain ⟨b8, o9, hix7, hSx7⟩ := zd3 (enc := zh) (sz := 1) (xs := x_l) 61 Tryz.underlying61 zhS (by decide) (fun _ => rfl) (hO.sees (i := 0) rfl) hx7
 refine zaS (zy hix7 hf rfl rfl) rfl hf rfl rfl fun a hf => ?_
 refine S.op tb ?_ hf hO hm
 refine vl rfl rfl (fun a w hf hO => zk (o := 0) zbC (hSx7 _ (hO.sees (i := 0) rfl)) rfl hf rfl) ?_
 refine lv [0, 6, 8, 9, 10, 15] [0] (fun J E L k => ∃ (i12 : Int), J ((16, int i12) :: E) (L) (zef (zc9 x_is x_l n1) x_is i3 x7 k i12)) rfl (fun _ _ j => ⟨0, j rfl⟩) ?_
 rintro n2 a w ⟨i12, hf, hO, hm⟩
 obtain _ | n2 := n2
 rw [zef] at hm
 cases hm
 rw [zef] at hm
 refine S.co tb ?_ hf hO hm
 refine br rfl (fun hc14 => ?_) fun hc14 => ?_
 refine bi rfl fun b17 hb17 => ?_
 refine rw_ rfl fun a w hf hO hm => ?_
 obtain ⟨r18, hr18, hm⟩ := ob hm
 refine oc (zlO x_is_k hf rfl (vs := [zB b17]) rfl) hf rfl (x_is_h b17 r18 _ (hG.own hF hO) hr18) hO fun a w' hf hO => ?_
 refine S.op tb ?_ hf hO hm
 refine br rfl (fun hc20 => ?_) fun hc20 => ?_
 exact rt Tryz.results95 rfl
 refine bi rfl fun i23 hi23 => ?_
 exact en rfl fun _ _ j => ⟨_, Nat.lt_succ_self _, i23, j rfl⟩
 refine bi rfl fun i25 hi25 => ?_
 exact en rfl fun _ _ j => ⟨_, Nat.lt_succ_self _, i25, j rfl⟩
 exact rt Tryz.results95 rfl

theorem zjC (x_b : UInt8) (R : Int) (w0 : World) (hG : zt w0) (hm : zga x_b = some R) :
    Calls Tryz.prog 256 #[zB x_b] w0 (Ret w0 (fun R => int R) R) := by
 rw [zga] at hm
 have hF : zo [] := zf
 have hO : Dk.Own w0 [] w0 [] := Dk.Own.refl w0
 refine S.enter tb Tryz.func256 rfl Tryz.ntmps256 rfl ?_ hO hm
 refine cl zjY rfl (fun r2 w hr2 hO => zaK x_b r2 _ (hG.own hF hO) hr2) fun r2 hr2 => ?_
 refine br rfl (fun hc4 => ?_) fun hc4 => ?_
 refine vl rfl rfl (fun a w hf hO => zka (b := x_b) (c := 48) hf rfl rfl) ?_
 refine vl rfl rfl (fun a w hf hO => zjg Tryz.underlying3 Tryz.underlying5 (zke _) hf (kd := .u8) rfl) ?_
 exact rt Tryz.results256 rfl
 refine cl zlA rfl (fun r7 w hr7 hO => zcq x_b r7 _ (hG.own hF hO) hr7) fun r7 hr7 => ?_
 refine vl rfl rfl (fun a w hf hO => zka (b := r7) (c := 97) hf rfl rfl) ?_
 refine vl rfl rfl (fun a w hf hO => zjg Tryz.underlying3 Tryz.underlying5 (zke _) hf (kd := .u8) rfl) ?_
 refine bi rfl fun i8 hi8 => ?_
 exact rt Tryz.results256 rfl

theorem zhs (x_s : Str) (x_base : Int) (x_most : Int) (x_is : UInt8 → Option Bool) (R : Int × Int) (w0 : World) (hG : zt w0) {x_is_f : Nat} {x_is_p x_is_c : Array Value} (x_is_k : zd Tryz.prog x_is_f) (x_is_h : ∀ (y0 : UInt8) (r : Bool) (w : World), zt w → x_is y0 = some r → Calls Tryz.prog x_is_f (x_is_p ++ [zB y0].toArray ++ x_is_c) w fun e w' => e = .returned (.bool r) ∧ Below w.heap.size w w') (hm : zfu x_s x_base x_most x_is = some R) :
    Calls Tryz.prog 221 #[str x_s, int x_base, int x_most, .func (.func x_is_f) x_is_p x_is_c] w0 (Ret w0 (fun R => .tuple #[int R.1, int R.2]) R) := by
 rw [zfu] at hm
 have hF : zo [] := zf
 have hO : Dk.Own w0 [] w0 [] := Dk.Own.refl w0
 refine S.enter tb Tryz.func221 rfl Tryz.ntmps221 rfl ?_ hO hm
 refine jv 1 [0, 1, 2] [] (fun J E L => ∃ (t5 : Bool), J ((21, .bool t5) :: E) (L) (zdF x_s x_base x_most t5)) rfl ?_ ?_
 refine br rfl (fun hc2 => ?_) fun hc2 => ?_
 exact en rfl fun _ _ j => ⟨true, j rfl⟩
 refine rw_ rfl fun a w hf hO hm => ?_
 refine zu (vs := [(0, str x_s)]) (cs := [str x_s]) (e := 9) (sz := 1) hf rfl rfl (fun w => by kernel_rfl) rfl rfl hO fun a b3 w hf hO => ?_
 refine S.op tb ?_ hf hO hm
 refine kn (b' := false) hc2 rfl ?_
 refine cl zkQ rfl (fun r4 w hr4 hO => zbp x_is ([x_s] : List Str) r4 _ (hG.own hF hO) x_is_k x_is_h (hO.rowSees (i := 0) rfl) (hO.rowCap (i := 0) rfl) hr4) fun r4 hr4 => ?_
 exact ec [] rfl rfl rfl fun _ _ j => ⟨!r4, j rfl⟩
 rintro a w ⟨t5, hf, hO, hm⟩
 rw [zdF] at hm
 refine S.co tb ?_ hf hO hm
 refine br rfl (fun hc6 => ?_) fun hc6 => ?_
 exact rt Tryz.results221 rfl
 refine lv [0, 1, 2, 23] [] (fun J E L k => ∃ (i11 : Int) (i12 : Int), J ((10, int i11) :: (24, int i12) :: E) (L) (zaN x_s x_base x_most k i11 i12)) rfl (fun _ _ j => ⟨0, 0, j rfl⟩) ?_
 rintro n2 a w ⟨i11, i12, hf, hO, hm⟩
 obtain _ | n2 := n2
 rw [zaN] at hm
 cases hm
 rw [zaN] at hm
 refine S.co tb ?_ hf hO hm
 refine br rfl (fun hc14 => ?_) fun hc14 => ?_
 refine bi rfl fun b17 hb17 => ?_
 refine cl c_256 rfl (fun r18 w hr18 hO => zjC b17 r18 _ (hG.own hF hO) hr18) fun r18 hr18 => ?_
 refine jv 6 [0, 1, 2, 10, 12, 23, 24] [] (fun J E L => ∃ (t23 : Bool), J ((42, .bool t23) :: E) (L) (zdE (zaN x_s x_base x_most n2) x_base i11 i12 r18 t23)) rfl ?_ ?_
 refine br rfl (fun hc20 => ?_) fun hc20 => ?_
 exact en rfl fun _ _ j => ⟨true, j rfl⟩
 refine bi rfl fun i21 hi21 => ?_
 refine bi rfl fun i22 hi22 => ?_
 exact en rfl fun _ _ j => ⟨decide (i22 < i11), j rfl⟩
 rintro a w ⟨t23, hf, hO, hm⟩
 rw [zdE] at hm
 refine S.co tb ?_ hf hO hm
 refine br rfl (fun hc24 => ?_) fun hc24 => ?_
 exact rt Tryz.results221 rfl
 refine bi rfl fun i27 hi27 => ?_
 refine bi rfl fun i28 hi28 => ?_
 refine bi rfl fun i30 hi30 => ?_
 exact en rfl fun _ _ j => ⟨_, Nat.lt_succ_self _, i28, i30, j rfl⟩
 exact rt Tryz.results221 rfl

theorem zcA (x_s : Str) (x_most : Int) (R : Int × Int) (w0 : World) (hG : zt w0) (hm : zbm x_s x_most = some R) :
    Calls Tryz.prog 177 #[str x_s, int x_most] w0 (Ret w0 (fun R => .tuple #[int R.1, int R.2]) R) := by
 rw [zbm] at hm
 have hF : zo [] := zf
 have hO : Dk.Own w0 [] w0 [] := Dk.Own.refl w0
 refine S.enter tb Tryz.func177 rfl Tryz.ntmps177 rfl ?_ hO hm
 refine cl c_221 rfl (fun r2 w hr2 hO => zhs x_s 10 x_most z6 r2 _ (hG.own hF hO) zjY (fun y0 r w hG h => zdN (zaK y0 r w hG h)) hr2) fun r2 hr2 => ?_
 exact rt Tryz.results177 rfl

theorem zgs (x_s : Str) (x_most : Int) (R : Bool) (w0 : World) (hG : zH w0) (hm : zcR x_s x_most = some R) :
    Calls Tryz.prog 194 #[str x_s, int x_most] w0 (Ret w0 (fun R => .bool R) R) := by
 rw [zcR] at hm
 have hF : zo [] := zf
 have hO : Dk.Own w0 [] w0 [] := Dk.Own.refl w0
 refine S.enter tb Tryz.func194 rfl Tryz.ntmps194 rfl ?_ hO hm
 refine cl zmz rfl (fun r2 w hr2 hO => zcA x_s x_most r2 _ (hG.own hF hO).1 hr2) fun r2 hr2 => ?_
 refine jv 0 [] [] (fun J E L => ∃ (t6 : Bool), J ((4, .bool t6) :: E) (L) (zcC t6)) rfl ?_ ?_
 refine br rfl (fun hc4 => ?_) fun hc4 => ?_
 refine cl c_87 rfl (fun r5 w hr5 hO => zfA r2.1 r5 _ (hG.own hF hO) hr5) fun r5 hr5 => ?_
 exact en rfl fun _ _ j => ⟨r5 == x_s, j rfl⟩
 exact en rfl fun _ _ j => ⟨false, j rfl⟩
 rintro a w ⟨t6, hf, hO, hm⟩
 rw [zcC] at hm
 refine S.co tb ?_ hf hO hm
 exact rt Tryz.results194 rfl

theorem zgX (x_s : Str) (R : Bool) (w0 : World) (hG : zH w0) (hm : zeY x_s = some R) :
    Calls Tryz.prog 231 #[str x_s] w0 fun e w' => e = .returned (.bool R) ∧ Below w0.heap.size w0 w' := by
  unfold zeY at hm
  split at hm
  · rename_i hs
    obtain ⟨bs, hbs, hm⟩ := ob hm
    cases hm
    exact zok (fun x => zcR x 255) (fun x b W hG h => zgs x 255 b W hG h) x_s hs bs hbs w0 hG
  · cases hm

theorem zds (x_b : UInt8) (R : Bool) (w0 : World) (hG : zt w0) (hm : zao x_b = some R) :
    Calls Tryz.prog 278 #[zB x_b] w0 (Ret w0 (fun R => .bool R) R) := by
 rw [zao] at hm
 have hF : zo [] := zf
 have hO : Dk.Own w0 [] w0 [] := Dk.Own.refl w0
 refine S.enter tb Tryz.func278 rfl Tryz.ntmps278 rfl ?_ hO hm
 refine jv 0 [] [] (fun J E L => ∃ (t7 : Bool), J ((2, .bool t7) :: E) (L) (zcS t7)) rfl ?_ ?_
 refine cl zjY rfl (fun r2 w hr2 hO => zaK x_b r2 _ (hG.own hF hO) hr2) fun r2 hr2 => ?_
 refine br rfl (fun hc3 => ?_) fun hc3 => ?_
 exact en rfl fun _ _ j => ⟨true, j rfl⟩
 refine cl zlA rfl (fun r4 w hr4 hO => zcq x_b r4 _ (hG.own hF hO) hr4) fun r4 hr4 => ?_
 refine vl rfl rfl (fun a w hf hO => ziP (b := r4) (c := 97) hf rfl rfl) ?_
 refine br rfl (fun hc5 => ?_) fun hc5 => ?_
 refine cl zlA rfl (fun r6 w hr6 hO => zcq x_b r6 _ (hG.own hF hO) hr6) fun r6 hr6 => ?_
 refine vl rfl rfl (fun a w hf hO => ziO (b := r6) (c := 102) hf rfl rfl) ?_
 exact en rfl fun _ _ j => ⟨decide (r6 ≤ 102), j rfl⟩
 exact en rfl fun _ _ j => ⟨false, j rfl⟩
 rintro a w ⟨t7, hf, hO, hm⟩
 rw [zcS] at hm
 refine S.co tb ?_ hf hO hm
 exact rt Tryz.results278 rfl

end Go.Proofs
end
section
set_option linter.unusedVariables false
set_option maxHeartbeats 1000000
set_option linter.unusedSimpArgs false
set_option maxRecDepth 100000
namespace Go.Proofs
open Go.Dk Go.Dm Go.RowKit

theorem zd0 (x_s : Str) (x_last : Bool) (R : Int) (w0 : World) (hG : zH w0) (hm : zch x_s x_last = some R) :
    Calls Tryz.prog 259 #[str x_s, .bool x_last] w0 (Ret w0 (fun R => int R) R) := by
 rw [zch] at hm
 have hF : zo [] := zf
 have hO : Dk.Own w0 [] w0 [] := Dk.Own.refl w0
 refine S.enter tb Tryz.func259 rfl Tryz.ntmps259 rfl ?_ hO hm
 refine br rfl (fun hc3 => ?_) fun hc3 => ?_
 exact rt Tryz.results259 rfl
 refine rw_ rfl fun a w hf hO hm => ?_
 obtain ⟨r6, hr6, hm⟩ := ob hm
 refine zg (zi c_206 hf (vs := [str x_s, str [58]]) rfl) rfl hf rfl rfl (zgV x_s [58] r6 _ (hG.own hF hO).1 hr6) ?_
 rintro e w' ⟨p7, c8, he, hO'⟩
 refine ⟨_, he, fun a hf => ?_⟩
 have hO := hO.call hO' (by simp [Res.shared])
 refine S.op tb ?_ hf hO hm
 refine lv [1, 5, 13, 14] [0] (fun J E L k => ∃ (i12 : Int) (i13 : Int), J ((6, int i12) :: (15, int i13) :: E) (L) (zC x_last r6 k i12 i13)) rfl (fun _ _ j => ⟨0, 0, j rfl⟩) ?_
 rintro n1 a w ⟨i12, i13, hf, hO, hm⟩
 obtain _ | n1 := n1
 rw [zC] at hm
 cases hm
 rw [zC] at hm
 refine S.co tb ?_ hf hO hm
 refine br rfl (fun hc15 => ?_) fun hc15 => ?_
 refine jv 3 [1, 5, 13, 14, 15] [0] (fun J E L => ∃ (i36 : Int), J ((6, int i36) :: E) (L) (zb1 (zC x_last r6 n1) i13 i36)) rfl ?_ ?_
 refine rw_ rfl fun a w hf hO hm => ?_
 obtain ⟨x17, hx17, hm⟩ := ob hm
 obtain ⟨b18, o19, hix17, hSx17, hAx17⟩ := zdY (enc := zh) (sz := 1) (xs := r6) 61 Tryz.underlying61 zhS (by decide) (fun _ => rfl) hO (i := 0) rfl hx17
 refine zaS (zy hix17 hf rfl rfl) rfl hf rfl rfl fun a hf => ?_
 refine S.op tb ?_ hf hO hm
 refine vl rfl rfl (fun a w hf hO => zk (o := 0) zbC (hSx17 _ (hO.rowSees (i := 0) rfl)) rfl hf rfl) ?_
 refine jv 6 [1, 5, 6, 8, 13, 14, 15] [0] (fun J E L => ∃ (t25 : Bool), J ((20, .bool t25) :: E) (L) (zba (zC x_last r6 n1) i12 i13 x17 t25)) rfl ?_ ?_
 refine br rfl (fun hc21 => ?_) fun hc21 => ?_
 refine bi rfl fun i22 hi22 => ?_
 refine br rfl (fun hc23 => ?_) fun hc23 => ?_
 refine cl c_231 rfl (fun r24 w hr24 hO => zgX x17 r24 _ (hG.own hF hO) hr24) fun r24 hr24 => ?_
 exact en rfl fun _ _ j => ⟨r24, j rfl⟩
 exact en rfl fun _ _ j => ⟨false, j rfl⟩
 exact en rfl fun _ _ j => ⟨false, j rfl⟩
 rintro a w ⟨t25, hf, hO, hm⟩
 rw [zba] at hm
 refine S.co tb ?_ hf hO hm
 refine br rfl (fun hc26 => ?_) fun hc26 => ?_
 refine bi rfl fun i27 hi27 => ?_
 exact en rfl fun _ _ j => ⟨i27, j rfl⟩
 refine jv 6 [1, 5, 6, 13, 14, 15] [0] (fun J E L => ∃ (t32 : Bool), J ((35, .bool t32) :: E) (L) (za9 (zC x_last r6 n1) i12 i13 t32)) rfl ?_ ?_
 refine br rfl (fun hc28 => ?_) fun hc28 => ?_
 refine br rfl (fun hc29 => ?_) fun hc29 => ?_
 refine rw_ rfl fun a w hf hO hm => ?_
 refine zu (vs := [(0, str x17)]) (cs := [str x17]) (e := 9) (sz := 1) hf rfl rfl (fun w => by kernel_rfl) rfl rfl hO fun a b30 w hf hO => ?_
 refine S.op tb ?_ hf hO hm
 refine kn (b' := true) hc29 rfl ?_
 refine cl zkQ rfl (fun r31 w hr31 hO => zbp zao ([x17] : List Str) r31 _ (hG.own hF hO).1 zlB (fun y0 r w hG h => zdN (zds y0 r w hG h)) (hO.rowSees (i := 0) rfl) (hO.rowCap (i := 0) rfl) hr31) fun r31 hr31 => ?_
 exact ec [1] rfl rfl rfl fun _ _ j => ⟨r31, j rfl⟩
 exact en rfl fun _ _ j => ⟨false, j rfl⟩
 exact en rfl fun _ _ j => ⟨false, j rfl⟩
 rintro a w ⟨t32, hf, hO, hm⟩
 rw [za9] at hm
 refine S.co tb ?_ hf hO hm
 refine br rfl (fun hc33 => ?_) fun hc33 => ?_
 refine bi rfl fun i34 hi34 => ?_
 exact en rfl fun _ _ j => ⟨i34, j rfl⟩
 exact rt Tryz.results259 rfl
 rintro a w ⟨i36, hf, hO, hm⟩
 rw [zb1] at hm
 refine S.co tb ?_ hf hO hm
 refine bi rfl fun i37 hi37 => ?_
 exact en rfl fun _ _ j => ⟨_, Nat.lt_succ_self _, i36, i37, j rfl⟩
 exact rt Tryz.results259 rfl

theorem zjQ (x_s : Str) (R : Bool) (w0 : World) (hG : zH w0) (hm : zgM x_s = some R) :
    Calls Tryz.prog 230 #[str x_s] w0 (Ret w0 (fun R => .bool R) R) := by
 rw [zgM] at hm
 have hF : zo [] := zf
 have hO : Dk.Own w0 [] w0 [] := Dk.Own.refl w0
 refine S.enter tb Tryz.func230 rfl Tryz.ntmps230 rfl ?_ hO hm
 refine cl zmy rfl (fun r2 w hr2 hO => zeW x_s [58, 58] r2 _ (hG.own hF hO).1 hr2) fun r2 hr2 => ?_
 refine br rfl (fun hc5 => ?_) fun hc5 => ?_
 refine cl znR rfl (fun r6 w hr6 hO => zd0 x_s true r6 _ (hG.own hF hO) hr6) fun r6 hr6 => ?_
 exact rt Tryz.results230 rfl
 refine cl znR rfl (fun r9 w hr9 hO => zd0 r2.1 false r9 _ (hG.own hF hO) hr9) fun r9 hr9 => ?_
 refine cl znR rfl (fun r10 w hr10 hO => zd0 r2.2.1 true r10 _ (hG.own hF hO) hr10) fun r10 hr10 => ?_
 refine jv 0 [] [] (fun J E L => ∃ (t15 : Bool), J ((2, .bool t15) :: E) (L) (zci t15)) rfl ?_ ?_
 refine br rfl (fun hc12 => ?_) fun hc12 => ?_
 refine br rfl (fun hc13 => ?_) fun hc13 => ?_
 refine bi rfl fun i14 hi14 => ?_
 exact en rfl fun _ _ j => ⟨decide (i14 ≤ 7), j rfl⟩
 exact en rfl fun _ _ j => ⟨false, j rfl⟩
 exact en rfl fun _ _ j => ⟨false, j rfl⟩
 rintro a w ⟨t15, hf, hO, hm⟩
 rw [zci] at hm
 refine S.co tb ?_ hf hO hm
 exact rt Tryz.results230 rfl

theorem zib (x_s : Str) (R : Bool) (w0 : World) (hG : zt w0) (hm : zeF x_s = some R) :
    Calls Tryz.prog 261 #[str x_s] w0 (Ret w0 (fun R => .bool R) R) := by
 rw [zeF] at hm
 have hF : zo [] := zf
 have hO : Dk.Own w0 [] w0 [] := Dk.Own.refl w0
 refine S.enter tb Tryz.func261 rfl Tryz.ntmps261 rfl ?_ hO hm
 refine jv 0 [] [] (fun J E L => ∃ (t8 : Bool), J ((2, .bool t8) :: E) (L) (zaR t8)) rfl ?_ ?_
 refine br rfl (fun hc2 => ?_) fun hc2 => ?_
 refine bi rfl fun b3 hb3 => ?_
 refine vl rfl rfl (fun a w hf hO => zaQ (b := b3) (c := 37) hf rfl rfl) ?_
 refine br rfl (fun hc4 => ?_) fun hc4 => ?_
 refine bi rfl fun s5 hs5 => ?_
 refine rw_ rfl fun a w hf hO hm => ?_
 refine zu (vs := [(0, str s5)]) (cs := [str s5]) (e := 9) (sz := 1) hf rfl rfl (fun w => by kernel_rfl) rfl rfl hO fun a b6 w hf hO => ?_
 refine S.op tb ?_ hf hO hm
 refine kn (b' := true) hc4 rfl ?_
 refine cl zkQ rfl (fun r7 w hr7 hO => zbp zao ([s5] : List Str) r7 _ (hG.own hF hO) zlB (fun y0 r w hG h => zdN (zds y0 r w hG h)) (hO.rowSees (i := 0) rfl) (hO.rowCap (i := 0) rfl) hr7) fun r7 hr7 => ?_
 exact ec [] rfl rfl rfl fun _ _ j => ⟨r7, j rfl⟩
 exact en rfl fun _ _ j => ⟨false, j rfl⟩
 exact en rfl fun _ _ j => ⟨false, j rfl⟩
 rintro a w ⟨t8, hf, hO, hm⟩
 rw [zaR] at hm
 refine S.co tb ?_ hf hO hm
 exact rt Tryz.results261 rfl

theorem ze5 (x_b : UInt8) (R : Bool) (w0 : World) (hG : zt w0) (hm : zb2 x_b = some R) :
    Calls Tryz.prog 262 #[zB x_b] w0 (Ret w0 (fun R => .bool R) R) := by
 rw [zb2] at hm
 have hF : zo [] := zf
 have hO : Dk.Own w0 [] w0 [] := Dk.Own.refl w0
 refine S.enter tb Tryz.func262 rfl Tryz.ntmps262 rfl ?_ hO hm
 refine jv 0 [] [] (fun J E L => ∃ (t7 : Bool), J ((2, .bool t7) :: E) (L) (zap t7)) rfl ?_ ?_
 refine cl c_184 rfl (fun r2 w hr2 hO => zg1 x_b r2 _ (hG.own hF hO) hr2) fun r2 hr2 => ?_
 refine br rfl (fun hc3 => ?_) fun hc3 => ?_
 exact en rfl fun _ _ j => ⟨true, j rfl⟩
 refine cl zjY rfl (fun r4 w hr4 hO => zaK x_b r4 _ (hG.own hF hO) hr4) fun r4 hr4 => ?_
 refine br rfl (fun hc5 => ?_) fun hc5 => ?_
 exact en rfl fun _ _ j => ⟨true, j rfl⟩
 refine cl zmA rfl (fun r6 w hr6 hO => zfU x_b [45, 46, 95, 126] r6 _ (hG.own hF hO) hr6) fun r6 hr6 => ?_
 exact en rfl fun _ _ j => ⟨r6, j rfl⟩
 rintro a w ⟨t7, hf, hO, hm⟩
 rw [zap] at hm
 refine S.co tb ?_ hf hO hm
 exact rt Tryz.results262 rfl

theorem zhY (x_b : UInt8) (R : Bool) (w0 : World) (hG : zt w0) (hm : zfY x_b = some R) :
    Calls Tryz.prog 263 #[zB x_b] w0 (Ret w0 (fun R => .bool R) R) := by
 rw [zfY] at hm
 have hF : zo [] := zf
 have hO : Dk.Own w0 [] w0 [] := Dk.Own.refl w0
 refine S.enter tb Tryz.func263 rfl Tryz.ntmps263 rfl ?_ hO hm
 refine cl zmA rfl (fun r2 w hr2 hO => zfU x_b [33, 36, 38, 39, 40, 41, 42, 43, 44, 59, 61] r2 _ (hG.own hF hO) hr2) fun r2 hr2 => ?_
 exact rt Tryz.results263 rfl

theorem zjw (x_s : Str) (R : Bool) (w0 : World) (hG : zt w0) (hm : zgb x_s = some R) :
    Calls Tryz.prog 232 #[str x_s] w0 (Ret w0 (fun R => .bool R) R) := by
 rw [zgb] at hm
 have hF : zo [] := zf
 have hO : Dk.Own w0 [] w0 [] := Dk.Own.refl w0
 refine S.enter tb Tryz.func232 rfl Tryz.ntmps232 rfl ?_ hO hm
 refine br rfl (fun hc3 => ?_) fun hc3 => ?_
 exact rt Tryz.results232 rfl
 refine lv [] [] (fun J E L k => ∃ (s6 : Str), J ((0, str s6) :: E) (L) (zab k s6)) rfl (fun _ _ j => ⟨x_s, j rfl⟩) ?_
 rintro n1 a w ⟨s6, hf, hO, hm⟩
 obtain _ | n1 := n1
 rw [zab] at hm
 cases hm
 rw [zab] at hm
 refine S.co tb ?_ hf hO hm
 refine br rfl (fun hc8 => ?_) fun hc8 => ?_
 refine cl c_261 rfl (fun r10 w hr10 hO => zib s6 r10 _ (hG.own hF hO) hr10) fun r10 hr10 => ?_
 refine br rfl (fun hc12 => ?_) fun hc12 => ?_
 refine bi rfl fun s13 hs13 => ?_
 exact en rfl fun _ _ j => ⟨_, Nat.lt_succ_self _, s13, j rfl⟩
 refine jv 5 [0] [] (fun J E L => ∃ (t19 : Bool), J ((12, .bool t19) :: E) (L) (zda (zab n1) s6 t19)) rfl ?_ ?_
 refine bi rfl fun b14 hb14 => ?_
 refine cl c_262 rfl (fun r15 w hr15 hO => ze5 b14 r15 _ (hG.own hF hO) hr15) fun r15 hr15 => ?_
 refine br rfl (fun hc16 => ?_) fun hc16 => ?_
 exact en rfl fun _ _ j => ⟨true, j rfl⟩
 refine bi rfl fun b17 hb17 => ?_
 refine cl c_263 rfl (fun r18 w hr18 hO => zhY b17 r18 _ (hG.own hF hO) hr18) fun r18 hr18 => ?_
 exact en rfl fun _ _ j => ⟨r18, j rfl⟩
 rintro a w ⟨t19, hf, hO, hm⟩
 rw [zda] at hm
 refine S.co tb ?_ hf hO hm
 refine br rfl (fun hc20 => ?_) fun hc20 => ?_
 refine bi rfl fun s21 hs21 => ?_
 exact en rfl fun _ _ j => ⟨_, Nat.lt_succ_self _, s21, j rfl⟩
 exact rt Tryz.results232 rfl
 exact rt Tryz.results232 rfl

theorem zhZ (x_s : Str) (R : api_Host × Bool) (w0 : World) (hG : zH w0) (hm : zfZ x_s = some R) :
    Calls Tryz.prog 193 #[str x_s] w0 (Ret w0 (fun R => .tuple #[.agg #[int R.1.Kind, str R.1.Name, int R.1.Port], .bool R.2]) R) := by
 rw [zfZ] at hm
 have hF : zo [] := zf
 have hO : Dk.Own w0 [] w0 [] := Dk.Own.refl w0
 refine S.enter tb Tryz.func193 rfl Tryz.ntmps193 rfl ?_ hO hm
 refine al zhb rfl fun b1 => ?_
 refine vl rfl rfl (fun a w hf hO => zl (vs := [(1, str x_s), (2, int (-1))]) (v := .agg #[int 0, str x_s, int (-1)]) hf rfl (by kernel_rfl)) ?_
 refine al zhb rfl fun b3 => ?_
 refine st 0 rfl rfl ?_
 refine jv 0 [2, 4] [1] (fun J E L => ∃ (i24 : Int) (s25 : Str), J (E) (.blk b3 [int i24, str s25, int (-1)] 182 :: L) (zbO i24 s25)) rfl ?_ ?_
 refine jv 2 [0, 2, 4] [0, 1] (fun J E L => ∃ (t14 : Bool), J ((7, .bool t14) :: E) (L) (zbP x_s t14)) rfl ?_ ?_
 refine br rfl (fun hc5 => ?_) fun hc5 => ?_
 refine bi rfl fun b6 hb6 => ?_
 refine vl rfl rfl (fun a w hf hO => zaQ (b := b6) (c := 91) hf rfl rfl) ?_
 refine br rfl (fun hc7 => ?_) fun hc7 => ?_
 refine bi rfl fun i8 hi8 => ?_
 refine bi rfl fun b9 hb9 => ?_
 refine vl rfl rfl (fun a w hf hO => zaQ (b := b9) (c := 93) hf rfl rfl) ?_
 refine br rfl (fun hc10 => ?_) fun hc10 => ?_
 refine bi rfl fun i11 hi11 => ?_
 refine bi rfl fun s12 hs12 => ?_
 refine cl c_230 rfl (fun r13 w hr13 hO => zjQ s12 r13 _ (hG.own hF hO) hr13) fun r13 hr13 => ?_
 exact en rfl fun _ _ j => ⟨r13, j rfl⟩
 exact en rfl fun _ _ j => ⟨false, j rfl⟩
 exact en rfl fun _ _ j => ⟨false, j rfl⟩
 exact en rfl fun _ _ j => ⟨false, j rfl⟩
 rintro a w ⟨t14, hf, hO, hm⟩
 rw [zbP] at hm
 refine S.co tb ?_ hf hO hm
 refine br rfl (fun hc15 => ?_) fun hc15 => ?_
 refine rc_ rfl fun a w hf hO hm => ?_
 obtain ⟨i16, hi16, hm⟩ := ob hm
 obtain ⟨s17, hs17, hm⟩ := ob hm
 refine zcp (S := Unit) (E0 := [(0, str x_s), (2, ptr b1 0), (4, ptr b3 0)]) (by kernel_rfl) (fun k σ w => match k with | 0 => Dk.Own w0 [] w [.blk b3 [int 0, str x_s, int (-1)] 182, .blk b1 [int 0, str [], int 0] 182] | 1 => Dk.Own w0 [] w [.blk b3 [int 3, str x_s, int (-1)] 182, .blk b1 [int 0, str [], int 0] 182] | _ => Dk.Own w0 [] w [.blk b3 [int 3, str s17, int (-1)] 182, .blk b1 [int 0, str [], int 0] 182]) (fun σ => [⟨[(0, str x_s)], some (32, str x_s)⟩, ⟨[(0, str x_s)], some (33, str x_s)⟩, ⟨[(33, str x_s)], some (34, int (x_s.length : Int))⟩, ⟨[(34, int (x_s.length : Int))], some (35, int i16)⟩, ⟨[(32, str x_s), (35, int i16)], some (36, str s17)⟩, ⟨[(4, ptr b3 0)], some (37, ptr b3 0)⟩, ⟨[(37, ptr b3 0)], none⟩, ⟨[(4, ptr b3 0)], some (38, ptr b3 1)⟩, ⟨[(36, str s17), (38, ptr b3 1)], none⟩]) () [6, 8] rfl (fun _ => rfl) (fun _ => rfl) (fun _ => rfl) rfl rfl (by decide) rfl hO.drew (hf.cons rfl (hf.cons rfl (hf.cons rfl hf.nil))) (fun σ => ⟨⟨rfl, trivial⟩, ⟨rfl, trivial⟩, ⟨rfl, trivial⟩, ⟨rfl, trivial⟩, ⟨rfl, rfl, trivial⟩, ⟨rfl, trivial⟩, ⟨rfl, trivial⟩, ⟨rfl, trivial⟩, ⟨rfl, rfl, trivial⟩, trivial⟩) ⟨zj rfl (fun σ => rfl) (fun σ => rfl) (fun σ a w k _ _ _ _ hf => zn hf rfl), zj rfl (fun σ => rfl) (fun σ => rfl) (fun σ a w k _ _ _ _ hf => zn hf rfl), zj rfl (fun σ => rfl) (fun σ => rfl) (fun σ a w k _ _ _ _ hf => zkd (l := x_s) Tryz.underlying9 hf rfl), zj rfl (fun σ => rfl) (fun σ => rfl) (fun σ a w k _ _ _ _ hf => zk5 hf rfl rfl hi16), zj rfl (fun σ => rfl) (fun σ => rfl) (fun σ a w k _ _ _ _ hf => ziR (l := x_s) Tryz.underlying9 hf rfl rfl rfl hs17), zj rfl (fun σ => rfl) (fun σ => rfl) (fun σ a w k _ _ _ _ hf => zr zjV hf rfl), zgI rfl (fun σ => rfl) (fun σ => rfl) rfl (fun σ w (hO : Dk.Own w0 [] w _) => by obtain ⟨w', hO', hr⟩ := zhP (x := (.tmp 37)) (y := (.const (int 3))) (E := [(37, ptr b3 0)]) (i := 0) (o := 0) (v := int 3) znH rfl rfl rfl rfl hO rfl rfl; exact ⟨(), w', hO', ⟨.inr rfl, .inr rfl, .inr rfl, .inr rfl, .inr rfl, .inr rfl, .inr rfl, .inr rfl, .inr rfl, trivial⟩, hr⟩), zj rfl (fun σ => rfl) (fun σ => rfl) (fun σ a w k _ _ _ _ hf => zr zls hf rfl), zgI rfl (fun σ => rfl) (fun σ => rfl) rfl (fun σ w (hO : Dk.Own w0 [] w _) => by obtain ⟨w', hO', hr⟩ := zhP (x := (.tmp 38)) (y := (.tmp 36)) (E := [(36, str s17), (38, ptr b3 1)]) (i := 0) (o := 1) (v := str s17) zhS rfl rfl rfl rfl hO rfl rfl; exact ⟨(), w', hO', ⟨.inr rfl, .inr rfl, .inr rfl, .inr rfl, .inr rfl, .inr rfl, .inr rfl, .inr rfl, .inr rfl, trivial⟩, hr⟩), trivial⟩ ?_
 rintro _ a w hf hO
 have hO : Dk.Own w0 [] w _ := hO
 have hf : Fits 51 [(2, ptr b1 0), (4, ptr b3 0)] a := (hf.cons rfl (hf.cons rfl hf.nil))
 refine S.no tb ?_ hf hO hm
 exact en rfl fun _ _ j => ⟨3, s17, j rfl⟩
 refine cl c_231 rfl (fun r18 w hr18 hO => zgX x_s r18 _ (hG.own hF hO) hr18) fun r18 hr18 => ?_
 refine br rfl (fun hc20 => ?_) fun hc20 => ?_
 refine st 0 rfl rfl ?_
 exact en rfl fun _ _ j => ⟨2, x_s, j rfl⟩
 refine cl c_232 rfl (fun r21 w hr21 hO => zjw x_s r21 _ (hG.own hF hO).1 hr21) fun r21 hr21 => ?_
 refine br rfl (fun hc23 => ?_) fun hc23 => ?_
 refine st 0 rfl rfl ?_
 exact en rfl fun _ _ j => ⟨1, x_s, j rfl⟩
 exact en rfl fun _ _ j => ⟨0, x_s, j rfl⟩
 rintro a w ⟨i24, s25, hf, hO, hm⟩
 rw [zbO] at hm
 refine S.co tb ?_ hf hO hm
 refine rc_ rfl fun a w hf hO hm => ?_
 refine zcp (S := Unit) (E0 := [(2, ptr b1 0), (4, ptr b3 0)]) (by kernel_rfl) (fun k σ w => match k with | 0 => Dk.Own w0 [] w [.blk b3 [int i24, str s25, int (-1)] 182, .blk b1 [int 0, str [], int 0] 182] | _ => Dk.Own w0 [] w [.blk b3 [int i24, str s25, int (-1)] 182, .blk b1 [int i24, str s25, int (-1)] 182]) (fun σ => [⟨[(4, ptr b3 0)], some (47, .agg #[int i24, str s25, int (-1)])⟩, ⟨[(4, ptr b3 0)], some (48, ptr b3 0)⟩, ⟨[(48, ptr b3 0)], some (49, int i24)⟩, ⟨[(49, int i24)], some (50, .bool (!(i24 == 0)))⟩, ⟨[(2, ptr b1 0), (47, .agg #[int i24, str s25, int (-1)])], none⟩, ⟨[(50, .bool (!(i24 == 0)))], some (3, .bool (!(i24 == 0)))⟩]) () [4] rfl (fun _ => rfl) (fun _ => rfl) (fun _ => rfl) rfl rfl (by decide) rfl hO.drew (hf.cons rfl (hf.cons rfl hf.nil)) (fun σ => ⟨⟨rfl, trivial⟩, ⟨rfl, trivial⟩, ⟨rfl, trivial⟩, ⟨rfl, trivial⟩, ⟨rfl, rfl, trivial⟩, ⟨rfl, trivial⟩, trivial⟩) ⟨zj rfl (fun σ => rfl) (fun σ => rfl) (fun σ a w k hk hlo hup hst hf => match k, hk, hlo, hup, hst, hf with | 0, _, _, _, hst, hf => have hO : Dk.Own w0 [] w _ := hst; zaO (o := 0) (vs := [int i24, str s25, int (-1)]) zha zgz (hO.blkSees (i := 0) rfl) rfl rfl hf rfl | 1, _, _, _, hst, hf => have hO : Dk.Own w0 [] w _ := hst; zaO (o := 0) (vs := [int i24, str s25, int (-1)]) zha zgz (hO.blkSees (i := 0) rfl) rfl rfl hf rfl | k + 2, hk, _, _, _, _ => absurd hk (by simp)), zj rfl (fun σ => rfl) (fun σ => rfl) (fun σ a w k _ _ _ _ hf => zr zjV hf rfl), zj rfl (fun σ => rfl) (fun σ => rfl) (fun σ a w k hk hlo hup hst hf => match k, hk, hlo, hup, hst, hf with | 0, _, _, _, hst, hf => have hO : Dk.Own w0 [] w _ := hst; zk (o := 0) zl1 (hO.blkSees (i := 0) rfl) rfl hf rfl | 1, _, _, _, hst, hf => have hO : Dk.Own w0 [] w _ := hst; zk (o := 0) zl1 (hO.blkSees (i := 0) rfl) rfl hf rfl | k + 2, hk, _, _, _, _ => absurd hk (by simp)), zj rfl (fun σ => rfl) (fun σ => rfl) (fun σ a w k _ _ _ _ hf => zn1 (m := i24) (n := 0) hf rfl rfl), zgI rfl (fun σ => rfl) (fun σ => rfl) rfl (fun σ w (hO : Dk.Own w0 [] w _) => by obtain ⟨w', hO', hr⟩ := zji (x := (.tmp 2)) (y := (.tmp 47)) (E := [(2, ptr b1 0), (47, .agg #[int i24, str s25, int (-1)])]) (i := 1) (n := 3) (vs := [int i24, str s25, int (-1)]) zgz rfl rfl rfl (by simp [Value.oneCell']) hO rfl rfl; exact ⟨(), w', hO', ⟨.inr rfl, .inr rfl, .inr rfl, .inr rfl, .inr rfl, .inr rfl, trivial⟩, hr⟩), zj rfl (fun σ => rfl) (fun σ => rfl) (fun σ a w k _ _ _ _ hf => zv hf rfl), trivial⟩ ?_
 rintro _ a w hf hO
 have hO : Dk.Own w0 [] w _ := hO
 have hf : Fits 51 [(2, ptr b1 0), (3, .bool (!(i24 == 0)))] a := (hf.cons rfl (hf.cons rfl hf.nil))
 refine S.no tb ?_ hf hO hm
 refine re_ rfl fun a w hf hO hm => ?_
 obtain rfl := Option.some.inj hm
 exact zb Tryz.results193 hf (.cell rfl (ze (n := 3) (vs := [int i24, str s25, int (-1)]) zha zgz rfl ((hO.blkSees (i := 1) rfl).cells (o := 0) (n := 3) rfl)) (.tmp rfl .nil)) ⟨rfl, hO.below⟩

theorem zeC (x_s : Str) (R : api_Host × Int) (w0 : World) (hG : zH w0) (hm : zcT x_s = some R) :
    Calls Tryz.prog 141 #[str x_s] w0 (Ret w0 (fun R => .tuple #[.agg #[int R.1.Kind, str R.1.Name, int R.1.Port], int R.2]) R) := by
 rw [zcT] at hm
 have hF : zo [] := zf
 have hO : Dk.Own w0 [] w0 [] := Dk.Own.refl w0
 refine S.enter tb Tryz.func141 rfl Tryz.ntmps141 rfl ?_ hO hm
 refine al zhb rfl fun b1 => ?_
 refine cl c_193 rfl (fun r3 w hr3 hO => zhZ x_s r3 _ (hG.own hF hO) hr3) fun r3 hr3 => ?_
 refine al zhb rfl fun b4 => ?_
 refine st 0 rfl rfl ?_
 refine br rfl (fun hc7 => ?_) fun hc7 => ?_
 refine ld 0 rfl rfl ?_
 refine st 1 rfl rfl ?_
 refine re_ rfl fun a w hf hO hm => ?_
 obtain rfl := Option.some.inj hm
 exact zb Tryz.results141 hf (.cell rfl (ze (n := 3) (vs := [int r3.1.Kind, str r3.1.Name, int r3.1.Port]) zha zgz rfl ((hO.blkSees (i := 1) rfl).cells (o := 0) (n := 3) rfl)) (.tmp rfl .nil)) ⟨rfl, hO.below⟩
 refine cl c_166 rfl (fun r10 w hr10 hO => zdX x_s 58 r10 _ (hG.own hF hO).1 hr10) fun r10 hr10 => ?_
 refine br rfl (fun hc13 => ?_) fun hc13 => ?_
 refine vl rfl rfl (fun a w hf hO => zl (vs := []) (v := .agg #[int 0, str [], int 0]) hf rfl (by kernel_rfl)) ?_
 refine st 1 rfl rfl ?_
 refine re_ rfl fun a w hf hO hm => ?_
 obtain rfl := Option.some.inj hm
 exact zb Tryz.results141 hf (.cell rfl (ze (n := 3) (vs := [int 0, str [], int 0]) zha zgz rfl ((hO.blkSees (i := 1) rfl).cells (o := 0) (n := 3) rfl)) (.tmp rfl .nil)) ⟨rfl, hO.below⟩
 refine bi rfl fun s16 hs16 => ?_
 refine cl c_193 rfl (fun r17 w hr17 hO => zhZ s16 r17 _ (hG.own hF hO) hr17) fun r17 hr17 => ?_
 refine al zhb rfl fun b18 => ?_
 refine st 0 rfl rfl ?_
 refine jv 1 [0, 2, 6, 7] [0, 1, 2] (fun J E L => ∃ (t24 : Bool), J ((37, .bool t24) :: E) (L) (zcD x_s r10 r17 t24)) rfl ?_ ?_
 refine br rfl (fun hc20 => ?_) fun hc20 => ?_
 exact en rfl fun _ _ j => ⟨true, j rfl⟩
 refine bi rfl fun i21 hi21 => ?_
 refine bi rfl fun s22 hs22 => ?_
 refine cl c_194 rfl (fun r23 w hr23 hO => zgs s22 65535 r23 _ (hG.own hF hO) hr23) fun r23 hr23 => ?_
 exact en rfl fun _ _ j => ⟨!r23, j rfl⟩
 rintro a w ⟨t24, hf, hO, hm⟩
 rw [zcD] at hm
 refine S.co tb ?_ hf hO hm
 refine br rfl (fun hc25 => ?_) fun hc25 => ?_
 refine vl rfl rfl (fun a w hf hO => zl (vs := []) (v := .agg #[int 0, str [], int 0]) hf rfl (by kernel_rfl)) ?_
 refine st 2 rfl rfl ?_
 refine re_ rfl fun a w hf hO hm => ?_
 obtain rfl := Option.some.inj hm
 exact zb Tryz.results141 hf (.cell rfl (ze (n := 3) (vs := [int 0, str [], int 0]) zha zgz rfl ((hO.blkSees (i := 2) rfl).cells (o := 0) (n := 3) rfl)) (.tmp rfl .nil)) ⟨rfl, hO.below⟩
 refine bi rfl fun i28 hi28 => ?_
 refine bi rfl fun s29 hs29 => ?_
 refine cl zmz rfl (fun r30 w hr30 hO => zcA s29 65535 r30 _ (hG.own hF hO).1 hr30) fun r30 hr30 => ?_
 refine st 0 rfl rfl ?_
 refine ld 0 rfl rfl ?_
 refine st 2 rfl rfl ?_
 refine re_ rfl fun a w hf hO hm => ?_
 obtain rfl := Option.some.inj hm
 exact zb Tryz.results141 hf (.cell rfl (ze (n := 3) (vs := [int r17.1.Kind, str r17.1.Name, int r30.1]) zha zgz rfl ((hO.blkSees (i := 2) rfl).cells (o := 0) (n := 3) rfl)) (.tmp rfl .nil)) ⟨rfl, hO.below⟩

set_option maxHeartbeats 4000000 in
set_option maxRecDepth 100000 in
theorem zmI (s : ByteArray) (R : Str) (w0 : World) (hG : zt w0) (hsz : s.size < 4294967281) (hm : s.data.toList.mapM zan = some R)
    (hlow : ∀ b c w, zan b = some c → zt w → Calls Tryz.prog 225 #[.int .u8 (b.toNat : Int)] w fun e w' => e = .returned (.int .u8 (c.toNat : Int)) ∧ Below w.heap.size w w') :
    Calls Tryz.prog 229 #[.string s] w0 fun e w' => e = .returned (.string ⟨R.toArray⟩) ∧ Below w0.heap.size w0 w' := by
  obtain ⟨hlen, hat⟩ := mapM_at hm
  have HL : Aside (R.length = s.size) := hlen.trans (Lib.size_eq s).symm
  have HT : Aside (∀ (i : Nat) (a : UInt8), s.data.toList[i]? = some a → ∃ b, R[i]? = some b ∧ zan a = some b) := hat
  clear hlen hat hm
  have hcv := fun w => run_bytes_of_string (P := Tryz.prog) w 9 141 5 s Tryz.underlying9 Tryz.underlying141 Tryz.underlying5
  go_enter Tryz.func229, Tryz.ntmps229
  go_wp2
  go_loopg [4, 5, 10] s.size (fun g _ _ v wx => ∃ i : Nat, i + g = s.size ∧ v = .int .i64 (i : Int) ∧ Below w0.heap.size w0 wx ∧ ∃ (cur : Array Value) (fz : Nat × Nat), wx.heap[w0.heap.size]? = some (.cells cur 5 fz) ∧ cur.size ≤ fz.1 ∧ s.size ≤ cur.size ∧ ∀ j, j < s.size → cur[j]? = ((if j < i then R[j]? else s.data.toList[j]?).map zB))
  case atStart =>
    have hrow : (bytesRow s (grownCap w0 s.size 0 5)).size = s.size + (grownCap w0 s.size 0 5 - s.size) := by
      have := Lib.size_eq s
      unfold bytesRow
      rw [Array.size_append, Array.size_map, Array.size_replicate]
      rfl
    refine ⟨0, by omega, rfl, ((Below.refl _ _).alloc (Nat.le_refl _) _).drew, _, _, ziG _, Nat.le_refl _, ?_, fun j hj => ?_⟩
    · omega
    · rw [if_neg (by omega)]
      unfold bytesRow
      rw [Array.getElem?_append_left (by simp [← Lib.size_eq]; exact hj), Array.getElem?_map]
      congr 1
      exact (Array.getElem?_toList ..).symm
  case round =>
    obtain ⟨i, hig, rfl, hB, cur, fz, hcur, hfz, hsc, hcell⟩ := hrel
    have HG : Aside (zt wr) := hG.own zf ((Dk.Own.refl w0).grow hB)
    have HB : Aside (Below w0.heap.size w0 wr) := hB
    have HC : Aside (wr.heap[w0.heap.size]? = some (.cells cur 5 fz)) := hcur
    have HF : Aside (cur.size ≤ fz.1 ∧ s.size ≤ cur.size) := ⟨hfz, hsc⟩
    have HX : Aside (∀ j, j < s.size → cur[j]? = ((if j < i then R[j]? else s.data.toList[j]?).map zB)) := hcell
    clear hB hcell hfz hsc hcur
    by_cases hi : i < s.size
    · obtain ⟨x, hx⟩ : ∃ x, s.data.toList[i]? = some x := ⟨_, Lib.data_getElem? s i hi⟩
      obtain ⟨y, hyR, hy⟩ := HT.out i x hx
      have hcx : wr.cell? ⟨w0.heap.size, i, none⟩ = some (.int .u8 (x.toNat : Int)) := by
        have := HX.out i hi
        rw [if_neg (by omega), hx] at this
        simp [World.cell?, HC.out, this]
      have hfr : wr.frozen? ⟨w0.heap.size, i, none⟩ = false := by
        have := HF.out
        simp [World.frozen?, HC.out]; omega
      have hii : (i : Int) < (s.size : Int) := by omega
      have HY : Aside (R[i]? = some y) := hyR
      have HO : Aside (zan x = some y) := hy
      clear hyR hy hx
      go_wp2_with (go_at_call 225; refine (hlow x y _ HO.out HG.out).mono ?_; rintro e w' ⟨rfl, hb⟩; have hcx' : w'.cell? ⟨w0.heap.size, i, none⟩ = some (.int .u8 (x.toNat : Int)) := (hb.cell (p := ⟨w0.heap.size, i, none⟩) (Array.getElem?_eq_some_iff.1 HC.out).1).trans hcx; have hfr' : w'.frozen? ⟨w0.heap.size, i, none⟩ = false := (hb.frozen (p := ⟨w0.heap.size, i, none⟩) (Array.getElem?_eq_some_iff.1 HC.out).1).trans hfr)
      go_roundg (gk - 1)
      case measure => omega
      case rel =>
        have hlt := (Array.getElem?_eq_some_iff.1 HC.out).1
        have hcw : w'.heap[w0.heap.size]? = some (.cells cur 5 fz) := (hb.block _ hlt).trans HC.out
        refine ⟨i + 1, by omega, rfl, ?_, cur.setIfInBounds i (.int .u8 (y.toNat : Int)), fz, ?_, ?_, ?_, fun j hj => ?_⟩
        · exact (HB.out.trans (hb.mono HB.out.size)).setCell (p := ⟨w0.heap.size, i, none⟩) (Nat.le_refl _) _
        · simp [World.setCell, Array.getElem?_modify, hcw]
        · have := HF.out; simp; omega
        · have := HF.out; simp; omega
        · by_cases hji : j = i
          · subst hji
            have := HF.out
            rw [if_pos (by omega), HY.out, Array.getElem?_setIfInBounds_self_of_lt (by omega)]
            rfl
          · rw [Array.getElem?_setIfInBounds_ne (Ne.symm hji), HX.out j hj]
            by_cases h2 : j < i
            · rw [if_pos h2, if_pos (by omega)]
            · rw [if_neg h2, if_neg (by omega)]
    · have hsi : i = s.size := by omega
      have hbk : ∀ w, wr.heap = w.heap → (convert 141 9 (.slice (some ⟨w0.heap.size, 0, none⟩) s.size (grownCap w0 s.size 0 5))).run Tryz.prog w = .ok (.string ⟨R.toArray⟩) w := by
        intro w hw
        have := run_convert_bytes_back (P := Tryz.prog) w 141 9 5 ⟨w0.heap.size, 0, none⟩ (grownCap w0 s.size 0 5) R Tryz.underlying141 Tryz.underlying5 Tryz.underlying9 (fun j hj => by
          have hjs : j < s.size := by rw [← HL.out]; exact hj
          have h1 := HX.out j hjs
          rw [if_pos (by omega), List.getElem?_eq_getElem hj] at h1
          rw [zm4]
          simp [World.cell?, ← hw, HC.out, h1])
        rw [HL.out] at this
        exact this
      have hni : ¬ ((i : Int) < (s.size : Int)) := by omega
      have hbk1 := hbk wr rfl
      go_wp2
      go_ret
      exact ⟨rfl, HB.out⟩

theorem zgy (x_s : Str) (R : Str) (w0 : World) (hG : zt w0) (hm : zfG x_s = some R) :
    Calls Tryz.prog 229 #[str x_s] w0 fun e w' => e = .returned (str R) ∧ Below w0.heap.size w0 w' := by
  unfold zfG at hm
  split at hm
  · rename_i h
    exact zmI ⟨x_s.toArray⟩ R w0 hG h hm fun b c w hbc hGw => zcq b c w hGw hbc
  · cases hm

theorem zjR (x_b : UInt8) (R : Bool) (w0 : World) (hG : zt w0) (hm : zgN x_b = some R) :
    Calls Tryz.prog 294 #[zB x_b] w0 (Ret w0 (fun R => .bool R) R) := by
 rw [zgN] at hm
 have hF : zo [] := zf
 have hO : Dk.Own w0 [] w0 [] := Dk.Own.refl w0
 refine S.enter tb Tryz.func294 rfl Tryz.ntmps294 rfl ?_ hO hm
 refine jv 0 [] [] (fun J E L => ∃ (t7 : Bool), J ((2, .bool t7) :: E) (L) (zcj t7)) rfl ?_ ?_
 refine cl c_262 rfl (fun r2 w hr2 hO => ze5 x_b r2 _ (hG.own hF hO) hr2) fun r2 hr2 => ?_
 refine br rfl (fun hc3 => ?_) fun hc3 => ?_
 exact en rfl fun _ _ j => ⟨true, j rfl⟩
 refine cl c_263 rfl (fun r4 w hr4 hO => zhY x_b r4 _ (hG.own hF hO) hr4) fun r4 hr4 => ?_
 refine br rfl (fun hc5 => ?_) fun hc5 => ?_
 exact en rfl fun _ _ j => ⟨true, j rfl⟩
 refine cl zmA rfl (fun r6 w hr6 hO => zfU x_b [58, 64] r6 _ (hG.own hF hO) hr6) fun r6 hr6 => ?_
 exact en rfl fun _ _ j => ⟨r6, j rfl⟩
 rintro a w ⟨t7, hf, hO, hm⟩
 rw [zcj] at hm
 refine S.co tb ?_ hf hO hm
 exact rt Tryz.results294 rfl

theorem zjS (x_s : Str) (x_more : Str) (R : Bool) (w0 : World) (hG : zt w0) (hm : zi3 x_s x_more = some R) :
    Calls Tryz.prog 293 #[str x_s, str x_more] w0 (Ret w0 (fun R => .bool R) R) := by
 rw [zi3] at hm
 have hF : zo [] := zf
 have hO : Dk.Own w0 [] w0 [] := Dk.Own.refl w0
 refine S.enter tb Tryz.func293 rfl Tryz.ntmps293 rfl ?_ hO hm
 refine lv [0, 1] [] (fun J E L k => ∃ (i3 : Int), J ((5, int i3) :: E) (L) (zbv x_s x_more k i3)) rfl (fun _ _ j => ⟨0, j rfl⟩) ?_
 rintro n1 a w ⟨i3, hf, hO, hm⟩
 obtain _ | n1 := n1
 rw [zbv] at hm
 cases hm
 rw [zbv] at hm
 refine S.co tb ?_ hf hO hm
 refine br rfl (fun hc5 => ?_) fun hc5 => ?_
 refine jv 3 [0, 1] [] (fun J E L => ∃ (i27 : Int), J ((5, int i27) :: E) (L) (zf0 (zbv x_s x_more n1) i27)) rfl ?_ ?_
 refine jv 6 [0, 1, 5] [] (fun J E L => ∃ (t12 : Bool), J ((12, .bool t12) :: E) (L) (zf1 (zbv x_s x_more n1) x_s i3 t12)) rfl ?_ ?_
 refine bi rfl fun b7 hb7 => ?_
 refine cl c_294 rfl (fun r8 w hr8 hO => zjR b7 r8 _ (hG.own hF hO) hr8) fun r8 hr8 => ?_
 refine br rfl (fun hc9 => ?_) fun hc9 => ?_
 exact en rfl fun _ _ j => ⟨true, j rfl⟩
 refine bi rfl fun b10 hb10 => ?_
 refine cl c_226 rfl (fun r11 w hr11 hO => zfo x_more b10 r11 _ (hG.own hF hO) hr11) fun r11 hr11 => ?_
 exact en rfl fun _ _ j => ⟨decide (0 ≤ r11), j rfl⟩
 rintro a w ⟨t12, hf, hO, hm⟩
 rw [zf1] at hm
 refine S.co tb ?_ hf hO hm
 refine br rfl (fun hc13 => ?_) fun hc13 => ?_
 exact en rfl fun _ _ j => ⟨i3, j rfl⟩
 refine jv 6 [0, 1, 5] [] (fun J E L => ∃ (t23 : Bool), J ((25, .bool t23) :: E) (L) (zfa (zbv x_s x_more n1) i3 t23)) rfl ?_ ?_
 refine bi rfl fun b14 hb14 => ?_
 refine vl rfl rfl (fun a w hf hO => zaQ (b := b14) (c := 37) hf rfl rfl) ?_
 refine br rfl (fun hc15 => ?_) fun hc15 => ?_
 refine bi rfl fun i16 hi16 => ?_
 refine br rfl (fun hc17 => ?_) fun hc17 => ?_
 refine bi rfl fun i18 hi18 => ?_
 refine bi rfl fun i19 hi19 => ?_
 refine bi rfl fun s20 hs20 => ?_
 refine rw_ rfl fun a w hf hO hm => ?_
 refine zu (vs := [(0, str s20)]) (cs := [str s20]) (e := 9) (sz := 1) hf rfl rfl (fun w => by kernel_rfl) rfl rfl hO fun a b21 w hf hO => ?_
 refine S.op tb ?_ hf hO hm
 refine kn (b' := true) hc17 rfl ?_
 refine cl zkQ rfl (fun r22 w hr22 hO => zbp zao ([s20] : List Str) r22 _ (hG.own hF hO) zlB (fun y0 r w hG h => zdN (zds y0 r w hG h)) (hO.rowSees (i := 0) rfl) (hO.rowCap (i := 0) rfl) hr22) fun r22 hr22 => ?_
 exact ec [] rfl rfl rfl fun _ _ j => ⟨r22, j rfl⟩
 exact en rfl fun _ _ j => ⟨false, j rfl⟩
 exact en rfl fun _ _ j => ⟨false, j rfl⟩
 rintro a w ⟨t23, hf, hO, hm⟩
 rw [zfa] at hm
 refine S.co tb ?_ hf hO hm
 refine br rfl (fun hc24 => ?_) fun hc24 => ?_
 refine bi rfl fun i25 hi25 => ?_
 exact en rfl fun _ _ j => ⟨i25, j rfl⟩
 exact rt Tryz.results293 rfl
 rintro a w ⟨i27, hf, hO, hm⟩
 rw [zf0] at hm
 refine S.co tb ?_ hf hO hm
 refine bi rfl fun i28 hi28 => ?_
 exact en rfl fun _ _ j => ⟨_, Nat.lt_succ_self _, i28, j rfl⟩
 exact rt Tryz.results293 rfl

theorem zkO (x_s : Str) (R : Bool) (w0 : World) (hG : zt w0) (hm : zio x_s = some R) :
    Calls Tryz.prog 289 #[str x_s] w0 (Ret w0 (fun R => .bool R) R) := by
 rw [zio] at hm
 have hF : zo [] := zf
 have hO : Dk.Own w0 [] w0 [] := Dk.Own.refl w0
 refine S.enter tb Tryz.func289 rfl Tryz.ntmps289 rfl ?_ hO hm
 refine jv 0 [] [] (fun J E L => ∃ (t5 : Bool), J ((2, .bool t5) :: E) (L) (zeZ t5)) rfl ?_ ?_
 refine cl znQ rfl (fun r2 w hr2 hO => zdi x_s [47] r2 _ (hG.own hF hO) hr2) fun r2 hr2 => ?_
 refine br rfl (fun hc3 => ?_) fun hc3 => ?_
 refine cl c_293 rfl (fun r4 w hr4 hO => zjS x_s [47] r4 _ (hG.own hF hO) hr4) fun r4 hr4 => ?_
 exact en rfl fun _ _ j => ⟨r4, j rfl⟩
 exact en rfl fun _ _ j => ⟨false, j rfl⟩
 rintro a w ⟨t5, hf, hO, hm⟩
 rw [zeZ] at hm
 refine S.co tb ?_ hf hO hm
 exact rt Tryz.results289 rfl

end Go.Proofs
end
section
set_option linter.unusedVariables false
set_option maxHeartbeats 1000000
set_option linter.unusedSimpArgs false
set_option maxRecDepth 100000
namespace Go.Proofs
open Go.Dk Go.Dm Go.RowKit

theorem zkA (x_s : Str) (R : Bool) (w0 : World) (hG : zt w0) (hm : zhB x_s = some R) :
    Calls Tryz.prog 290 #[str x_s] w0 (Ret w0 (fun R => .bool R) R) := by
 rw [zhB] at hm
 have hF : zo [] := zf
 have hO : Dk.Own w0 [] w0 [] := Dk.Own.refl w0
 refine S.enter tb Tryz.func290 rfl Tryz.ntmps290 rfl ?_ hO hm
 refine cl c_293 rfl (fun r2 w hr2 hO => zjS x_s [47, 63] r2 _ (hG.own hF hO) hr2) fun r2 hr2 => ?_
 exact rt Tryz.results290 rfl

theorem zlQ (x_s : Str) (R : Str × Str × Bool × Int) (w0 : World) (hG : zt w0) (hm : zjk x_s = some R) :
    Calls Tryz.prog 276 #[str x_s] w0 (Ret w0 (fun R => .tuple #[str R.1, str R.2.1, .bool R.2.2.1, int R.2.2.2]) R) := by
 rw [zjk] at hm
 have hF : zo [] := zf
 have hO : Dk.Own w0 [] w0 [] := Dk.Own.refl w0
 refine S.enter tb Tryz.func276 rfl Tryz.ntmps276 rfl ?_ hO hm
 refine cl zmy rfl (fun r2 w hr2 hO => zeW x_s [63] r2 _ (hG.own hF hO) hr2) fun r2 hr2 => ?_
 refine jv 1 [2, 3, 4] [] (fun J E L => ∃ (t7 : Bool), J ((19, .bool t7) :: E) (L) (zfv r2 t7)) rfl ?_ ?_
 refine cl c_289 rfl (fun r4 w hr4 hO => zkO r2.1 r4 _ (hG.own hF hO) hr4) fun r4 hr4 => ?_
 refine br rfl (fun hc5 => ?_) fun hc5 => ?_
 exact en rfl fun _ _ j => ⟨true, j rfl⟩
 refine cl c_290 rfl (fun r6 w hr6 hO => zkA r2.2.1 r6 _ (hG.own hF hO) hr6) fun r6 hr6 => ?_
 exact en rfl fun _ _ j => ⟨!r6, j rfl⟩
 rintro a w ⟨t7, hf, hO, hm⟩
 rw [zfv] at hm
 refine S.co tb ?_ hf hO hm
 refine br rfl (fun hc8 => ?_) fun hc8 => ?_
 exact rt Tryz.results276 rfl
 exact rt Tryz.results276 rfl

theorem zh2 (x_t : api_Target) (x_s : Str) (R : api_Target × Bool) (w0 : World) (hG : zt w0) (hm : zf2 x_t x_s = some R) :
    Calls Tryz.prog 255 #[.agg #[int x_t.Kind, str x_t.Scheme, int x_t.Host.Kind, str x_t.Host.Name, int x_t.Host.Port, str x_t.Path, str x_t.Query, .bool x_t.HasQuery], str x_s] w0 (Ret w0 (fun R => .tuple #[.agg #[int R.1.Kind, str R.1.Scheme, int R.1.Host.Kind, str R.1.Host.Name, int R.1.Host.Port, str R.1.Path, str R.1.Query, .bool R.1.HasQuery], .bool R.2]) R) := by
 rw [zf2] at hm
 have hF : zo [] := zf
 have hO : Dk.Own w0 [] w0 [] := Dk.Own.refl w0
 refine S.enter tb Tryz.func255 rfl Tryz.ntmps255 rfl ?_ hO hm
 refine bo rfl fun b1 => ?_
 refine al zhc rfl fun b2 => ?_
 refine br rfl (fun hc5 => ?_) fun hc5 => ?_
 refine ld 1 rfl rfl ?_
 refine st 0 rfl rfl ?_
 refine re_ rfl fun a w hf hO hm => ?_
 obtain rfl := Option.some.inj hm
 exact zb Tryz.results255 hf (.cell rfl (ze (n := 8) (vs := [int x_t.Kind, str x_t.Scheme, int x_t.Host.Kind, str x_t.Host.Name, int x_t.Host.Port, str x_t.Path, str x_t.Query, .bool x_t.HasQuery]) zdh zcM rfl ((hO.blkSees (i := 0) rfl).cells (o := 0) (n := 8) rfl)) (.tmp rfl .nil)) ⟨rfl, hO.below⟩
 refine bi rfl fun b9 hb9 => ?_
 refine vl rfl rfl (fun a w hf hO => zaQ (b := b9) (c := 63) hf rfl rfl) ?_
 refine jv 0 [2, 4, 7] [0, 1] (fun J E L => ∃ (s14 : Str), J ((1, str s14) :: E) (L) (zeh x_t b9 s14)) rfl ?_ ?_
 refine br rfl (fun hc12 => ?_) fun hc12 => ?_
 refine bi rfl fun s13 hs13 => ?_
 exact en rfl fun _ _ j => ⟨s13, j rfl⟩
 exact en rfl fun _ _ j => ⟨x_s, j rfl⟩
 rintro a w ⟨s14, hf, hO, hm⟩
 rw [zeh] at hm
 refine S.co tb ?_ hf hO hm
 refine cl c_276 rfl (fun r15 w hr15 hO => zlQ s14 r15 _ (hG.own hF hO) hr15) fun r15 hr15 => ?_
 refine st 1 rfl rfl ?_
 refine st 1 rfl rfl ?_
 refine st 1 rfl rfl ?_
 refine jv 0 [2, 4, 6] [0] (fun J E L => ∃ (s19 : Str), J (E) (.blk b1 [int x_t.Kind, str x_t.Scheme, int x_t.Host.Kind, str x_t.Host.Name, int x_t.Host.Port, str s19, str r15.2.1, .bool r15.2.2.1] 207 :: L) (zeg x_t r15 s19)) rfl ?_ ?_
 refine br rfl (fun hc18 => ?_) fun hc18 => ?_
 refine st 1 rfl rfl ?_
 exact ec [1, 0] rfl rfl rfl fun _ _ j => ⟨[], j rfl⟩
 exact ec [1, 0] rfl rfl rfl fun _ _ j => ⟨r15.1, j rfl⟩
 rintro a w ⟨s19, hf, hO, hm⟩
 rw [zeg] at hm
 refine S.co tb ?_ hf hO hm
 refine ld 0 rfl rfl ?_
 refine st 1 rfl rfl ?_
 refine re_ rfl fun a w hf hO hm => ?_
 obtain rfl := Option.some.inj hm
 exact zb Tryz.results255 hf (.cell rfl (ze (n := 8) (vs := [int x_t.Kind, str x_t.Scheme, int x_t.Host.Kind, str x_t.Host.Name, int x_t.Host.Port, str s19, str r15.2.1, .bool r15.2.2.1]) zdh zcM rfl ((hO.blkSees (i := 1) rfl).cells (o := 0) (n := 8) rfl)) (.tmp rfl .nil)) ⟨rfl, hO.below⟩

theorem ziT (x_s : Str) (R : api_Target × Bool) (w0 : World) (hG : zH w0) (hm : zfg x_s = some R) :
    Calls Tryz.prog 254 #[str x_s] w0 (Ret w0 (fun R => .tuple #[.agg #[int R.1.Kind, str R.1.Scheme, int R.1.Host.Kind, str R.1.Host.Name, int R.1.Host.Port, str R.1.Path, str R.1.Query, .bool R.1.HasQuery], .bool R.2]) R) := by
 rw [zfg] at hm
 have hF : zo [] := zf
 have hO : Dk.Own w0 [] w0 [] := Dk.Own.refl w0
 refine S.enter tb Tryz.func254 rfl Tryz.ntmps254 rfl ?_ hO hm
 refine al zhc rfl fun b1 => ?_
 refine cl zmy rfl (fun r3 w hr3 hO => zeW x_s [58, 47, 47] r3 _ (hG.own hF hO).1 hr3) fun r3 hr3 => ?_
 refine cl znP rfl (fun r5 w hr5 hO => zgy r3.1 r5 _ (hG.own hF hO).1 hr5) fun r5 hr5 => ?_
 refine vl rfl rfl (fun a w hf hO => zl (vs := [(0, int 2), (1, str r5)]) (v := .agg #[int 2, str r5, int 0, str [], int 0, str [], str [], .bool false]) hf rfl (by kernel_rfl)) ?_
 refine al zhc rfl fun b6 => ?_
 refine st 0 rfl rfl ?_
 refine jv 1 [2, 5, 7] [0, 1] (fun J E L => ∃ (t10 : Bool), J ((31, .bool t10) :: E) (L) (zbb r3 r5 t10)) rfl ?_ ?_
 refine br rfl (fun hc8 => ?_) fun hc8 => ?_
 exact en rfl fun _ _ j => ⟨true, j rfl⟩
 refine ld 0 rfl rfl ?_
 refine br rfl (fun hc9 => ?_) fun hc9 => ?_
 refine ld 0 rfl rfl ?_
 exact en rfl fun _ _ j => ⟨!(r5 == [104, 116, 116, 112, 115]), j rfl⟩
 exact en rfl fun _ _ j => ⟨false, j rfl⟩
 rintro a w ⟨t10, hf, hO, hm⟩
 rw [zbb] at hm
 refine S.co tb ?_ hf hO hm
 refine br rfl (fun hc11 => ?_) fun hc11 => ?_
 refine ld 0 rfl rfl ?_
 refine st 1 rfl rfl ?_
 refine re_ rfl fun a w hf hO hm => ?_
 obtain rfl := Option.some.inj hm
 exact zb Tryz.results254 hf (.cell rfl (ze (n := 8) (vs := [int 2, str r5, int 0, str [], int 0, str [], str [], .bool false]) zdh zcM rfl ((hO.blkSees (i := 1) rfl).cells (o := 0) (n := 8) rfl)) (.tmp rfl .nil)) ⟨rfl, hO.below⟩
 refine cl c_164 rfl (fun r14 w hr14 hO => zfC r3.2.1 [47, 63] r14 _ (hG.own hF hO).1 hr14) fun r14 hr14 => ?_
 refine jv 0 [2, 5, 7] [0, 1] (fun J E L => ∃ (i18 : Int), J ((8, int i18) :: E) (L) (zb3 r3 r5 i18)) rfl ?_ ?_
 refine br rfl (fun hc17 => ?_) fun hc17 => ?_
 exact en rfl fun _ _ j => ⟨(r3.2.1.length : Int), j rfl⟩
 exact en rfl fun _ _ j => ⟨r14, j rfl⟩
 rintro a w ⟨i18, hf, hO, hm⟩
 rw [zb3] at hm
 refine S.co tb ?_ hf hO hm
 refine bi rfl fun s19 hs19 => ?_
 refine cl znN rfl (fun r20 w hr20 hO => zeC s19 r20 _ (hG.own hF hO) hr20) fun r20 hr20 => ?_
 refine al zhb rfl fun b21 => ?_
 refine st 0 rfl rfl ?_
 refine br rfl (fun hc24 => ?_) fun hc24 => ?_
 refine ld 1 rfl rfl ?_
 refine st 2 rfl rfl ?_
 refine re_ rfl fun a w hf hO hm => ?_
 obtain rfl := Option.some.inj hm
 exact zb Tryz.results254 hf (.cell rfl (ze (n := 8) (vs := [int 2, str r5, int 0, str [], int 0, str [], str [], .bool false]) zdh zcM rfl ((hO.blkSees (i := 2) rfl).cells (o := 0) (n := 8) rfl)) (.tmp rfl .nil)) ⟨rfl, hO.below⟩
 refine ld 0 rfl rfl ?_
 refine st 1 rfl rfl ?_
 refine rc_ rfl fun a w hf hO hm => ?_
 obtain ⟨s28, hs28, hm⟩ := ob hm
 obtain ⟨r29, hr29, hm⟩ := ob hm
 refine zcp (S := Unit) (E0 := [(2, ptr b1 0), (5, str r3.2.1), (7, ptr b6 0), (8, int i18)]) (by kernel_rfl) (fun k σ w => match k with | 0 => Dk.Own w0 [] w [.blk b21 [int r20.1.Kind, str r20.1.Name, int r20.1.Port] 182, .blk b6 [int 2, str r5, int r20.1.Kind, str r20.1.Name, int r20.1.Port, str [], str [], .bool false] 207, .blk b1 [int 0, str [], int 0, str [], int 0, str [], str [], .bool false] 207] | 1 => Dk.Own w0 [] w [.blk b21 [int r20.1.Kind, str r20.1.Name, int r20.1.Port] 182, .blk b6 [int 2, str r5, int r20.1.Kind, str r20.1.Name, int r20.1.Port, str [], str [], .bool false] 207, .blk b1 [int 0, str [], int 0, str [], int 0, str [], str [], .bool false] 207] | _ => Dk.Own w0 [] w [.blk b21 [int r20.1.Kind, str r20.1.Name, int r20.1.Port] 182, .blk b6 [int 2, str r5, int r20.1.Kind, str r20.1.Name, int r20.1.Port, str [], str [], .bool false] 207, .blk b1 [int r29.1.Kind, str r29.1.Scheme, int r29.1.Host.Kind, str r29.1.Host.Name, int r29.1.Host.Port, str r29.1.Path, str r29.1.Query, .bool r29.1.HasQuery] 207]) (fun σ => [⟨[(7, ptr b6 0)], some (51, .agg #[int 2, str r5, int r20.1.Kind, str r20.1.Name, int r20.1.Port, str [], str [], .bool false])⟩, ⟨[(5, str r3.2.1)], some (52, str r3.2.1)⟩, ⟨[(8, int i18)], some (53, int i18)⟩, ⟨[(52, str r3.2.1), (53, int i18)], some (54, str s28)⟩, ⟨[(51, .agg #[int 2, str r5, int r20.1.Kind, str r20.1.Name, int r20.1.Port, str [], str [], .bool false]), (54, str s28)], some (55, .tuple #[.agg #[int r29.1.Kind, str r29.1.Scheme, int r29.1.Host.Kind, str r29.1.Host.Name, int r29.1.Host.Port, str r29.1.Path, str r29.1.Query, .bool r29.1.HasQuery], .bool r29.2])⟩, ⟨[(55, .tuple #[.agg #[int r29.1.Kind, str r29.1.Scheme, int r29.1.Host.Kind, str r29.1.Host.Name, int r29.1.Host.Port, str r29.1.Path, str r29.1.Query, .bool r29.1.HasQuery], .bool r29.2])], some (56, .agg #[int r29.1.Kind, str r29.1.Scheme, int r29.1.Host.Kind, str r29.1.Host.Name, int r29.1.Host.Port, str r29.1.Path, str r29.1.Query, .bool r29.1.HasQuery])⟩, ⟨[(55, .tuple #[.agg #[int r29.1.Kind, str r29.1.Scheme, int r29.1.Host.Kind, str r29.1.Host.Name, int r29.1.Host.Port, str r29.1.Path, str r29.1.Query, .bool r29.1.HasQuery], .bool r29.2])], some (57, .bool r29.2)⟩, ⟨[(2, ptr b1 0), (56, .agg #[int r29.1.Kind, str r29.1.Scheme, int r29.1.Host.Kind, str r29.1.Host.Name, int r29.1.Host.Port, str r29.1.Path, str r29.1.Query, .bool r29.1.HasQuery])], none⟩, ⟨[(57, .bool r29.2)], some (3, .bool r29.2)⟩]) () [4, 7] rfl (fun _ => rfl) (fun _ => rfl) (fun _ => rfl) rfl rfl (by decide) rfl hO.drew (hf.cons rfl (hf.cons rfl (hf.cons rfl (hf.cons rfl hf.nil)))) (fun σ => ⟨⟨rfl, trivial⟩, ⟨rfl, trivial⟩, ⟨rfl, trivial⟩, ⟨rfl, rfl, trivial⟩, ⟨rfl, rfl, trivial⟩, ⟨rfl, trivial⟩, ⟨rfl, trivial⟩, ⟨rfl, rfl, trivial⟩, ⟨rfl, trivial⟩, trivial⟩) ⟨zj rfl (fun σ => rfl) (fun σ => rfl) (fun σ a w k hk hlo hup hst hf => match k, hk, hlo, hup, hst, hf with | 0, _, _, _, hst, hf => have hO : Dk.Own w0 [] w _ := hst; zaO (o := 0) (vs := [int 2, str r5, int r20.1.Kind, str r20.1.Name, int r20.1.Port, str [], str [], .bool false]) zdh zcM (hO.blkSees (i := 1) rfl) rfl rfl hf rfl | 1, _, _, _, hst, hf => have hO : Dk.Own w0 [] w _ := hst; zaO (o := 0) (vs := [int 2, str r5, int r20.1.Kind, str r20.1.Name, int r20.1.Port, str [], str [], .bool false]) zdh zcM (hO.blkSees (i := 1) rfl) rfl rfl hf rfl | 2, _, _, _, hst, hf => have hO : Dk.Own w0 [] w _ := hst; zaO (o := 0) (vs := [int 2, str r5, int r20.1.Kind, str r20.1.Name, int r20.1.Port, str [], str [], .bool false]) zdh zcM (hO.blkSees (i := 1) rfl) rfl rfl hf rfl | k + 3, hk, _, _, _, _ => absurd hk (by simp)), zj rfl (fun σ => rfl) (fun σ => rfl) (fun σ a w k _ _ _ _ hf => zn hf rfl), zj rfl (fun σ => rfl) (fun σ => rfl) (fun σ a w k _ _ _ _ hf => zn hf rfl), zj rfl (fun σ => rfl) (fun σ => rfl) (fun σ a w k _ _ _ _ hf => zhN (l := r3.2.1) Tryz.underlying9 hf rfl rfl hs28), zd7 rfl (fun σ => rfl) (fun σ => rfl) rfl (fun σ a w (_ : _) hf => zi c_255 hf (vs := [.agg #[int 2, str r5, int r20.1.Kind, str r20.1.Name, int r20.1.Port, str [], str [], .bool false], str s28]) rfl) (fun σ w (hO : Dk.Own w0 [] w _) => (zh2 (⟨2, r5, r20.1, [], [], false⟩ : api_Target) s28 r29 _ (hG.own hF hO).1 hr29).mono fun e w' h => by obtain ⟨he, hb⟩ := h; exact ⟨(), he, hO.grow hb, .inr rfl, .inr rfl, .inr rfl, .inr rfl, .inr rfl, .inr rfl, .inr rfl, .inr rfl, .inr rfl, trivial⟩), zj rfl (fun σ => rfl) (fun σ => rfl) (fun σ a w k _ _ _ _ hf => zdM hf rfl rfl), zj rfl (fun σ => rfl) (fun σ => rfl) (fun σ a w k _ _ _ _ hf => zdM hf rfl rfl), zgI rfl (fun σ => rfl) (fun σ => rfl) rfl (fun σ w (hO : Dk.Own w0 [] w _) => by obtain ⟨w', hO', hr⟩ := zji (x := (.tmp 2)) (y := (.tmp 56)) (E := [(2, ptr b1 0), (56, .agg #[int r29.1.Kind, str r29.1.Scheme, int r29.1.Host.Kind, str r29.1.Host.Name, int r29.1.Host.Port, str r29.1.Path, str r29.1.Query, .bool r29.1.HasQuery])]) (i := 2) (n := 8) (vs := [int r29.1.Kind, str r29.1.Scheme, int r29.1.Host.Kind, str r29.1.Host.Name, int r29.1.Host.Port, str r29.1.Path, str r29.1.Query, .bool r29.1.HasQuery]) zcM rfl rfl rfl (by simp [Value.oneCell']) hO rfl rfl; exact ⟨(), w', hO', ⟨.inr rfl, .inr rfl, .inr rfl, .inr rfl, .inr rfl, .inr rfl, .inr rfl, .inr rfl, .inr rfl, trivial⟩, hr⟩), zj rfl (fun σ => rfl) (fun σ => rfl) (fun σ a w k _ _ _ _ hf => zv hf rfl), trivial⟩ ?_
 rintro _ a w hf hO
 have hO : Dk.Own w0 [] w _ := hO
 have hf : Fits 58 [(2, ptr b1 0), (3, .bool r29.2)] a := (hf.cons rfl (hf.cons rfl hf.nil))
 refine S.no tb ?_ hf hO hm
 refine re_ rfl fun a w hf hO hm => ?_
 obtain rfl := Option.some.inj hm
 exact zb Tryz.results254 hf (.cell rfl (ze (n := 8) (vs := [int r29.1.Kind, str r29.1.Scheme, int r29.1.Host.Kind, str r29.1.Host.Name, int r29.1.Host.Port, str r29.1.Path, str r29.1.Query, .bool r29.1.HasQuery]) zdh zcM rfl ((hO.blkSees (i := 2) rfl).cells (o := 0) (n := 8) rfl)) (.tmp rfl .nil)) ⟨rfl, hO.below⟩

theorem zlR (x_method : Str) (x_s : Str) (R : api_Target × Bool) (w0 : World) (hG : zH w0) (hm : zjl x_method x_s = some R) :
    Calls Tryz.prog 219 #[str x_method, str x_s] w0 (Ret w0 (fun R => .tuple #[.agg #[int R.1.Kind, str R.1.Scheme, int R.1.Host.Kind, str R.1.Host.Name, int R.1.Host.Port, str R.1.Path, str R.1.Query, .bool R.1.HasQuery], .bool R.2]) R) := by
 rw [zjl] at hm
 have hF : zo [] := zf
 have hO : Dk.Own w0 [] w0 [] := Dk.Own.refl w0
 refine S.enter tb Tryz.func219 rfl Tryz.ntmps219 rfl ?_ hO hm
 refine al zhc rfl fun b1 => ?_
 refine br rfl (fun hc4 => ?_) fun hc4 => ?_
 refine vl rfl rfl (fun a w hf hO => zl (vs := [(0, int 4)]) (v := .agg #[int 4, str [], int 0, str [], int 0, str [], str [], .bool false]) hf rfl (by kernel_rfl)) ?_
 refine st 0 rfl rfl ?_
 refine re_ rfl fun a w hf hO hm => ?_
 obtain rfl := Option.some.inj hm
 exact zb Tryz.results219 hf (.cell rfl (ze (n := 8) (vs := [int 4, str [], int 0, str [], int 0, str [], str [], .bool false]) zdh zcM rfl ((hO.blkSees (i := 0) rfl).cells (o := 0) (n := 8) rfl)) (.tmp rfl .nil)) ⟨rfl, hO.below⟩
 refine cl znQ rfl (fun r7 w hr7 hO => zdi x_s [47] r7 _ (hG.own hF hO).1 hr7) fun r7 hr7 => ?_
 refine br rfl (fun hc9 => ?_) fun hc9 => ?_
 refine cl c_254 rfl (fun r10 w hr10 hO => ziT x_s r10 _ (hG.own hF hO) hr10) fun r10 hr10 => ?_
 refine st 0 rfl rfl ?_
 refine re_ rfl fun a w hf hO hm => ?_
 obtain rfl := Option.some.inj hm
 exact zb Tryz.results219 hf (.cell rfl (ze (n := 8) (vs := [int r10.1.Kind, str r10.1.Scheme, int r10.1.Host.Kind, str r10.1.Host.Name, int r10.1.Host.Port, str r10.1.Path, str r10.1.Query, .bool r10.1.HasQuery]) zdh zcM rfl ((hO.blkSees (i := 0) rfl).cells (o := 0) (n := 8) rfl)) (.tmp rfl .nil)) ⟨rfl, hO.below⟩
 refine vl rfl rfl (fun a w hf hO => zl (vs := [(0, int 1)]) (v := .agg #[int 1, str [], int 0, str [], int 0, str [], str [], .bool false]) hf rfl (by kernel_rfl)) ?_
 refine cl c_255 rfl (fun r13 w hr13 hO => zh2 ((⟨1, [], (⟨0, [], 0⟩ : api_Host), [], [], false⟩ : api_Target)) x_s r13 _ (hG.own hF hO).1 hr13) fun r13 hr13 => ?_
 refine al zhc rfl fun b14 => ?_
 refine st 0 rfl rfl ?_
 refine ld 0 rfl rfl ?_
 refine st 1 rfl rfl ?_
 refine re_ rfl fun a w hf hO hm => ?_
 obtain rfl := Option.some.inj hm
 exact zb Tryz.results219 hf (.cell rfl (ze (n := 8) (vs := [int r13.1.Kind, str r13.1.Scheme, int r13.1.Host.Kind, str r13.1.Host.Name, int r13.1.Host.Port, str r13.1.Path, str r13.1.Query, .bool r13.1.HasQuery]) zdh zcM rfl ((hO.blkSees (i := 1) rfl).cells (o := 0) (n := 8) rfl)) (.tmp rfl .nil)) ⟨rfl, hO.below⟩

theorem zkf (x_method : Str) (x_s : Str) (R : api_Target × Int) (w0 : World) (hG : zH w0) (hm : zgO x_method x_s = some R) :
    Calls Tryz.prog 173 #[str x_method, str x_s] w0 (Ret w0 (fun R => .tuple #[.agg #[int R.1.Kind, str R.1.Scheme, int R.1.Host.Kind, str R.1.Host.Name, int R.1.Host.Port, str R.1.Path, str R.1.Query, .bool R.1.HasQuery], int R.2]) R) := by
 rw [zgO] at hm
 have hF : zo [] := zf
 have hO : Dk.Own w0 [] w0 [] := Dk.Own.refl w0
 refine S.enter tb Tryz.func173 rfl Tryz.ntmps173 rfl ?_ hO hm
 refine al zhc rfl fun b1 => ?_
 refine br rfl (fun hc4 => ?_) fun hc4 => ?_
 refine cl znN rfl (fun r5 w hr5 hO => zeC x_s r5 _ (hG.own hF hO) hr5) fun r5 hr5 => ?_
 refine al zhb rfl fun b6 => ?_
 refine st 0 rfl rfl ?_
 refine jv 2 [4, 6] [0, 1] (fun J E L => ∃ (t9 : Bool), J ((23, .bool t9) :: E) (L) (zdG r5 t9)) rfl ?_ ?_
 refine br rfl (fun hc8 => ?_) fun hc8 => ?_
 exact en rfl fun _ _ j => ⟨true, j rfl⟩
 refine ld 0 rfl rfl ?_
 exact en rfl fun _ _ j => ⟨decide (r5.1.Port < 0), j rfl⟩
 rintro a w ⟨t9, hf, hO, hm⟩
 rw [zdG] at hm
 refine S.co tb ?_ hf hO hm
 refine br rfl (fun hc10 => ?_) fun hc10 => ?_
 refine vl rfl rfl (fun a w hf hO => zl (vs := []) (v := .agg #[int 0, str [], int 0, str [], int 0, str [], str [], .bool false]) hf rfl (by kernel_rfl)) ?_
 refine st 1 rfl rfl ?_
 refine re_ rfl fun a w hf hO hm => ?_
 obtain rfl := Option.some.inj hm
 exact zb Tryz.results173 hf (.cell rfl (ze (n := 8) (vs := [int 0, str [], int 0, str [], int 0, str [], str [], .bool false]) zdh zcM rfl ((hO.blkSees (i := 1) rfl).cells (o := 0) (n := 8) rfl)) (.tmp rfl .nil)) ⟨rfl, hO.below⟩
 refine ld 0 rfl rfl ?_
 refine vl rfl rfl (fun a w hf hO => zl (vs := [(0, int 3), (2, .agg #[int r5.1.Kind, str r5.1.Name, int r5.1.Port])]) (v := .agg #[int 3, str [], int r5.1.Kind, str r5.1.Name, int r5.1.Port, str [], str [], .bool false]) hf rfl (by kernel_rfl)) ?_
 refine st 1 rfl rfl ?_
 refine re_ rfl fun a w hf hO hm => ?_
 obtain rfl := Option.some.inj hm
 exact zb Tryz.results173 hf (.cell rfl (ze (n := 8) (vs := [int 3, str [], int r5.1.Kind, str r5.1.Name, int r5.1.Port, str [], str [], .bool false]) zdh zcM rfl ((hO.blkSees (i := 1) rfl).cells (o := 0) (n := 8) rfl)) (.tmp rfl .nil)) ⟨rfl, hO.below⟩
 refine cl c_219 rfl (fun r15 w hr15 hO => zlR x_method x_s r15 _ (hG.own hF hO) hr15) fun r15 hr15 => ?_
 refine al zhc rfl fun b16 => ?_
 refine st 0 rfl rfl ?_
 refine br rfl (fun hc19 => ?_) fun hc19 => ?_
 refine vl rfl rfl (fun a w hf hO => zl (vs := []) (v := .agg #[int 0, str [], int 0, str [], int 0, str [], str [], .bool false]) hf rfl (by kernel_rfl)) ?_
 refine st 1 rfl rfl ?_
 refine re_ rfl fun a w hf hO hm => ?_
 obtain rfl := Option.some.inj hm
 exact zb Tryz.results173 hf (.cell rfl (ze (n := 8) (vs := [int 0, str [], int 0, str [], int 0, str [], str [], .bool false]) zdh zcM rfl ((hO.blkSees (i := 1) rfl).cells (o := 0) (n := 8) rfl)) (.tmp rfl .nil)) ⟨rfl, hO.below⟩
 refine ld 0 rfl rfl ?_
 refine st 1 rfl rfl ?_
 refine re_ rfl fun a w hf hO hm => ?_
 obtain rfl := Option.some.inj hm
 exact zb Tryz.results173 hf (.cell rfl (ze (n := 8) (vs := [int r15.1.Kind, str r15.1.Scheme, int r15.1.Host.Kind, str r15.1.Host.Name, int r15.1.Host.Port, str r15.1.Path, str r15.1.Query, .bool r15.1.HasQuery]) zdh zcM rfl ((hO.blkSees (i := 1) rfl).cells (o := 0) (n := 8) rfl)) (.tmp rfl .nil)) ⟨rfl, hO.below⟩

theorem zhV (x_a0 : Str) (R : api_Head × Int) (w0 : World) (hG : zH w0) (hm : zei x_a0 = some R) :
    Calls Tryz.prog 120 #[str x_a0] w0 fun e w' => ∃ (p0 : Option Addr) (c0 : Nat), e = .returned (.tuple #[.agg #[int R.1.Kind, str R.1.Method, str R.1.Target, int R.1.Code, str R.1.Reason, int R.1.Minor, .slice p0 R.1.Fields.length c0], int R.2]) ∧ Dk.Own w0 [] w' [.row (.slice p0 R.1.Fields.length c0) 107 2 R.1.Fields.length (cells za R.1.Fields)] := by
 rw [zei] at hm
 have hF : zo [] := zf
 have hO : Dk.Own w0 [] w0 [] := Dk.Own.refl w0
 refine S.enter tb Tryz.func120 rfl Tryz.ntmps120 rfl ?_ hO hm
 refine al zfR rfl fun b1 => ?_
 refine nl 107 2 ?_
 refine vl rfl rfl (fun a w hf hO => zl (vs := [(0, int 1)]) (v := .agg #[int 1, str [], str [], int 0, str [], int 0, .slice none 0 0]) hf rfl (by kernel_rfl)) ?_
 refine al zfR rfl fun b3 => ?_
 refine nl 107 2 ?_
 refine st 1 rfl rfl ?_
 refine nl 107 2 ?_
 refine cl c_166 rfl (fun r5 w hr5 hO => zdX x_a0 32 r5 _ (hG.own hF hO).1 hr5) fun r5 hr5 => ?_
 refine bi rfl fun i6 hi6 => ?_
 refine bi rfl fun s7 hs7 => ?_
 refine cl c_165 rfl (fun r8 w hr8 hO => zfX s7 r8 _ (hG.own hF hO).1 hr8) fun r8 hr8 => ?_
 refine br rfl (fun hc10 => ?_) fun hc10 => ?_
 refine vl rfl rfl (fun a w hf hO => zl (vs := []) (v := .agg #[int 0, str [], str [], int 0, str [], int 0, .slice none 0 0]) hf rfl (by kernel_rfl)) ?_
 refine st 4 rfl rfl ?_
 refine nl 107 2 ?_
 refine re_ rfl fun a w hf hO hm => ?_
 obtain rfl := Option.some.inj hm
 exact zb Tryz.results120 hf (.cell rfl (ze (n := 7) (vs := [int 0, str [], str [], int 0, str [], int 0, .slice none 0 0]) zdq zdf rfl ((hO.blkSees (i := 5) rfl).cells (o := 0) (n := 7) rfl)) (.tmp rfl .nil)) ⟨none, 0, rfl, (hO.sub (.cons_cons _ (.cons _ (.cons _ (.cons _ (.cons _ (.cons _ .slnil)))))))⟩
 refine rw_ rfl fun a w hf hO hm => ?_
 obtain ⟨r13, hr13, hm⟩ := ob hm
 refine zg (zi zkE hf (vs := [str x_a0]) rfl) rfl hf rfl rfl (zeD x_a0 r13 _ (hG.own hF hO).1 hr13) ?_
 rintro e w' ⟨b14, he, hO'⟩
 refine ⟨_, he, fun a hf => ?_⟩
 have hO := hO.call hO' (by simp [Res.shared])
 refine S.op tb ?_ hf hO hm
 refine vl rfl rfl (fun a w hf hO => zl (vs := [(0, ptr b14 0)]) (v := .agg #[ptr b14 0]) hf rfl (by kernel_rfl)) ?_
 refine al zl3 rfl fun b15 => ?_
 refine st 0 rfl rfl ?_
 refine ld 0 rfl rfl ?_
 refine rw_ rfl fun a w hf hO hm => ?_
 obtain ⟨r17, hr17, hm⟩ := ob hm
 have hch18 := (show Dk.Own w0 [] _ ([.blk b14 [str r13.f_s, int r13.f_at] 289] ++ [.blk b15 [ptr b14 0] 254, .row (.slice none 0 0) 107 2 0 (cells za []), .row (.slice none 0 0) 107 2 0 (cells za []), .blk b3 [int 1, str [], str [], int 0, str [], int 0, .slice none 0 0] 31, .row (.slice none 0 0) 107 2 0 (cells za []), .blk b1 [int 0, str [], str [], int 0, str [], int 0, .slice none 0 0] 31]) from hO.choose [1, 0, 2, 3, 4, 5, 6] rfl)
 have hfar18 := Dk.Own.far hch18 rfl hF hG.size
 have hlend18 := hch18.lend (S := []) rfl trivial
 have hcl18 := zbo r13 r17 _ (hG.own hF hO).1 hfar18 hlend18 hr17
 refine zg (zi zmx hf (vs := [ptr b14 0]) rfl) rfl hf rfl rfl (hcl18) ?_
 rintro e w' ⟨he, hO'⟩
 refine ⟨_, he, fun a hf => ?_⟩
 have hO := hch18.back rfl hO' rfl
 refine S.op tb ?_ hf hO hm
 refine ld 1 rfl rfl ?_
 refine rw_ rfl fun a w hf hO hm => ?_
 obtain ⟨r20, hr20, hm⟩ := ob hm
 have hch21 := (show Dk.Own w0 [] _ ([.blk b14 [str r17.2.2.f_s, int r17.2.2.f_at] 289] ++ [.blk b15 [ptr b14 0] 254, .row (.slice none 0 0) 107 2 0 (cells za []), .row (.slice none 0 0) 107 2 0 (cells za []), .blk b3 [int 1, str [], str [], int 0, str [], int 0, .slice none 0 0] 31, .row (.slice none 0 0) 107 2 0 (cells za []), .blk b1 [int 0, str [], str [], int 0, str [], int 0, .slice none 0 0] 31]) from hO)
 have hfar21 := Dk.Own.far hch21 rfl hF hG.size
 have hlend21 := hch21.lend (S := []) rfl trivial
 have hcl21 := zq r17.2.2 32 r20 _ (hG.own hF hO).1 hfar21 hlend21 hr20
 refine zg (zi zet hf (vs := [ptr b14 0, zB 32]) rfl) rfl hf rfl rfl (hcl21) ?_
 rintro e w' ⟨he, hO'⟩
 refine ⟨_, he, fun a hf => ?_⟩
 have hO := hch21.back rfl hO' rfl
 refine S.op tb ?_ hf hO hm
 refine ld 1 rfl rfl ?_
 refine rw_ rfl fun a w hf hO hm => ?_
 obtain ⟨r23, hr23, hm⟩ := ob hm
 have hch24 := (show Dk.Own w0 [] _ ([.blk b14 [str r20.2.f_s, int r20.2.f_at] 289] ++ [.blk b15 [ptr b14 0] 254, .row (.slice none 0 0) 107 2 0 (cells za []), .row (.slice none 0 0) 107 2 0 (cells za []), .blk b3 [int 1, str [], str [], int 0, str [], int 0, .slice none 0 0] 31, .row (.slice none 0 0) 107 2 0 (cells za []), .blk b1 [int 0, str [], str [], int 0, str [], int 0, .slice none 0 0] 31]) from hO)
 have hfar24 := Dk.Own.far hch24 rfl hF hG.size
 have hlend24 := hch24.lend (S := []) rfl trivial
 have hcl24 := zaD r20.2 zbD r23 _ (hG.own hF hO).1 hfar24 hlend24 c_171 (fun y0 r w hG h => zdN (zg7 y0 r w hG h)) hr23
 refine zg (zi zlx hf (vs := [ptr b14 0, .func (.func 171) #[] #[]]) rfl) rfl hf rfl rfl (hcl24) ?_
 rintro e w' ⟨he, hO'⟩
 refine ⟨_, he, fun a hf => ?_⟩
 have hO := hch24.back rfl hO' rfl
 refine S.op tb ?_ hf hO hm
 refine ld 1 rfl rfl ?_
 refine rw_ rfl fun a w hf hO hm => ?_
 obtain ⟨r26, hr26, hm⟩ := ob hm
 have hch27 := (show Dk.Own w0 [] _ ([.blk b14 [str r23.2.f_s, int r23.2.f_at] 289] ++ [.blk b15 [ptr b14 0] 254, .row (.slice none 0 0) 107 2 0 (cells za []), .row (.slice none 0 0) 107 2 0 (cells za []), .blk b3 [int 1, str [], str [], int 0, str [], int 0, .slice none 0 0] 31, .row (.slice none 0 0) 107 2 0 (cells za []), .blk b1 [int 0, str [], str [], int 0, str [], int 0, .slice none 0 0] 31]) from hO)
 have hfar27 := Dk.Own.far hch27 rfl hF hG.size
 have hlend27 := hch27.lend (S := []) rfl trivial
 have hcl27 := zq r23.2 32 r26 _ (hG.own hF hO).1 hfar27 hlend27 hr26
 refine zg (zi zet hf (vs := [ptr b14 0, zB 32]) rfl) rfl hf rfl rfl (hcl27) ?_
 rintro e w' ⟨he, hO'⟩
 refine ⟨_, he, fun a hf => ?_⟩
 have hO := hch27.back rfl hO' rfl
 refine S.op tb ?_ hf hO hm
 refine ld 1 rfl rfl ?_
 refine rw_ rfl fun a w hf hO hm => ?_
 obtain ⟨r29, hr29, hm⟩ := ob hm
 have hch30 := (show Dk.Own w0 [] _ ([.blk b14 [str r26.2.f_s, int r26.2.f_at] 289] ++ [.blk b15 [ptr b14 0] 254, .row (.slice none 0 0) 107 2 0 (cells za []), .row (.slice none 0 0) 107 2 0 (cells za []), .blk b3 [int 1, str [], str [], int 0, str [], int 0, .slice none 0 0] 31, .row (.slice none 0 0) 107 2 0 (cells za []), .blk b1 [int 0, str [], str [], int 0, str [], int 0, .slice none 0 0] 31]) from hO)
 have hfar30 := Dk.Own.far hch30 rfl hF hG.size
 have hlend30 := hch30.lend (S := []) rfl trivial
 have hcl30 := zd6 (⟨r26.2⟩ : startline_line) r29 _ (hG.own hF hO).1 hfar30 hlend30 hr29
 refine zg (zi c_172 hf (vs := [.agg #[ptr b14 0]]) rfl) rfl hf rfl rfl (hcl30) ?_
 rintro e w' ⟨he, hO'⟩
 refine ⟨_, he, fun a hf => ?_⟩
 have hO := hch30.back rfl hO' rfl
 refine S.op tb ?_ hf hO hm
 refine cl c_173 rfl (fun r32 w hr32 hO => zkf r17.1 r23.1 r32 _ (hG.own hF hO) hr32) fun r32 hr32 => ?_
 refine al zhc rfl fun b33 => ?_
 refine st 0 rfl rfl ?_
 refine jv 1 [2, 4, 6, 9, 11] [0, 1, 2, 3, 4, 5, 6, 7] (fun J E L => ∃ (t41 : Bool), J ((75, .bool t41) :: E) (L) (zJ r17 r23 r29 t41)) rfl ?_ ?_
 refine br rfl (fun hc35 => ?_) fun hc35 => ?_
 exact en rfl fun _ _ j => ⟨true, j rfl⟩
 refine br rfl (fun hc36 => ?_) fun hc36 => ?_
 exact en rfl fun _ _ j => ⟨true, j rfl⟩
 refine br rfl (fun hc37 => ?_) fun hc37 => ?_
 exact en rfl fun _ _ j => ⟨true, j rfl⟩
 refine br rfl (fun hc38 => ?_) fun hc38 => ?_
 exact en rfl fun _ _ j => ⟨true, j rfl⟩
 refine ld 2 rfl rfl ?_
 refine cl zly rfl (fun r39 w hr39 hO => za8 r29.2.2 r39 _ (hG.own hF hO).1 (hO.blkSees (i := 1) rfl) hr39) fun r39 hr39 => ?_
 refine br rfl (fun hc40 => ?_) fun hc40 => ?_
 exact en rfl fun _ _ j => ⟨true, j rfl⟩
 exact en rfl fun _ _ j => ⟨!(r32.2 == 0), j rfl⟩
 rintro a w ⟨t41, hf, hO, hm⟩
 rw [zJ] at hm
 refine S.co tb ?_ hf hO hm
 refine br rfl (fun hc42 => ?_) fun hc42 => ?_
 refine vl rfl rfl (fun a w hf hO => zl (vs := []) (v := .agg #[int 0, str [], str [], int 0, str [], int 0, .slice none 0 0]) hf rfl (by kernel_rfl)) ?_
 refine st 7 rfl rfl ?_
 refine nl 107 2 ?_
 refine re_ rfl fun a w hf hO hm => ?_
 obtain rfl := Option.some.inj hm
 exact zb Tryz.results120 hf (.cell rfl (ze (n := 7) (vs := [int 0, str [], str [], int 0, str [], int 0, .slice none 0 0]) zdq zdf rfl ((hO.blkSees (i := 8) rfl).cells (o := 0) (n := 7) rfl)) (.tmp rfl .nil)) ⟨none, 0, rfl, (hO.sub (.cons_cons _ (.cons _ (.cons _ (.cons _ (.cons _ (.cons _ (.cons _ (.cons _ (.cons _ .slnil))))))))))⟩
 refine st 5 rfl rfl ?_
 refine st 5 rfl rfl ?_
 refine st 5 rfl rfl ?_
 refine ld 5 rfl rfl ?_
 refine st 7 rfl rfl ?_
 refine re_ rfl fun a w hf hO hm => ?_
 obtain rfl := Option.some.inj hm
 exact zb Tryz.results120 hf (.cell rfl (ze (n := 7) (vs := [int 1, str r17.1, str r23.1, int 0, str [], int r29.1, .slice none 0 0]) zdq zdf rfl ((hO.blkSees (i := 7) rfl).cells (o := 0) (n := 7) rfl)) (.tmp rfl .nil)) ⟨none, 0, rfl, (hO.sub (.cons _ (.cons _ (.cons _ (.cons_cons _ (.cons _ (.cons _ (.cons _ (.cons _ .slnil)))))))))⟩

theorem ziU (x_b : UInt8) (R : Bool) (w0 : World) (hG : zt w0) (hm : zfh x_b = some R) :
    Calls Tryz.prog 130 #[zB x_b] w0 (Ret w0 (fun R => .bool R) R) := by
 rw [zfh] at hm
 have hF : zo [] := zf
 have hO : Dk.Own w0 [] w0 [] := Dk.Own.refl w0
 refine S.enter tb Tryz.func130 rfl Tryz.ntmps130 rfl ?_ hO hm
 refine jv 0 [] [] (fun J E L => ∃ (t3 : Bool), J ((2, .bool t3) :: E) (L) (zb4 t3)) rfl ?_ ?_
 refine vl rfl rfl (fun a w hf hO => zlK (b := x_b) (c := 32) hf rfl rfl) ?_
 refine br rfl (fun hc2 => ?_) fun hc2 => ?_
 refine vl rfl rfl (fun a w hf hO => zn3 (b := x_b) (c := 127) hf rfl rfl) ?_
 exact en rfl fun _ _ j => ⟨decide (x_b < 127), j rfl⟩
 exact en rfl fun _ _ j => ⟨false, j rfl⟩
 rintro a w ⟨t3, hf, hO, hm⟩
 rw [zb4] at hm
 refine S.co tb ?_ hf hO hm
 exact rt Tryz.results130 rfl

theorem zgY (x_b : UInt8) (R : Bool) (w0 : World) (hG : zt w0) (hm : zdx x_b = some R) :
    Calls Tryz.prog 131 #[zB x_b] w0 (Ret w0 (fun R => .bool R) R) := by
 rw [zdx] at hm
 have hF : zo [] := zf
 have hO : Dk.Own w0 [] w0 [] := Dk.Own.refl w0
 refine S.enter tb Tryz.func131 rfl Tryz.ntmps131 rfl ?_ hO hm
 refine jv 0 [] [] (fun J E L => ∃ (t3 : Bool), J ((2, .bool t3) :: E) (L) (zdb t3)) rfl ?_ ?_
 refine vl rfl rfl (fun a w hf hO => zaQ (b := x_b) (c := 32) hf rfl rfl) ?_
 refine br rfl (fun hc2 => ?_) fun hc2 => ?_
 exact en rfl fun _ _ j => ⟨true, j rfl⟩
 refine vl rfl rfl (fun a w hf hO => zaQ (b := x_b) (c := 9) hf rfl rfl) ?_
 exact en rfl fun _ _ j => ⟨x_b == 9, j rfl⟩
 rintro a w ⟨t3, hf, hO, hm⟩
 rw [zdb] at hm
 refine S.co tb ?_ hf hO hm
 exact rt Tryz.results131 rfl

theorem zce (x_b : UInt8) (R : Bool) (w0 : World) (hG : zt w0) (hm : zah x_b = some R) :
    Calls Tryz.prog 96 #[zB x_b] w0 (Ret w0 (fun R => .bool R) R) := by
 rw [zah] at hm
 have hF : zo [] := zf
 have hO : Dk.Own w0 [] w0 [] := Dk.Own.refl w0
 refine S.enter tb Tryz.func96 rfl Tryz.ntmps96 rfl ?_ hO hm
 refine jv 0 [] [] (fun J E L => ∃ (t6 : Bool), J ((2, .bool t6) :: E) (L) (zbQ t6)) rfl ?_ ?_
 refine cl c_130 rfl (fun r2 w hr2 hO => ziU x_b r2 _ (hG.own hF hO) hr2) fun r2 hr2 => ?_
 refine br rfl (fun hc3 => ?_) fun hc3 => ?_
 exact en rfl fun _ _ j => ⟨true, j rfl⟩
 refine cl c_131 rfl (fun r4 w hr4 hO => zgY x_b r4 _ (hG.own hF hO) hr4) fun r4 hr4 => ?_
 refine br rfl (fun hc5 => ?_) fun hc5 => ?_
 exact en rfl fun _ _ j => ⟨true, j rfl⟩
 refine vl rfl rfl (fun a w hf hO => zlK (b := x_b) (c := 127) hf rfl rfl) ?_
 exact en rfl fun _ _ j => ⟨decide (127 < x_b), j rfl⟩
 rintro a w ⟨t6, hf, hO, hm⟩
 rw [zbQ] at hm
 refine S.co tb ?_ hf hO hm
 exact rt Tryz.results96 rfl

theorem zij (x_a0 : Str) (R : api_Head × Int) (w0 : World) (hG : zt w0) (hm : zeG x_a0 = some R) :
    Calls Tryz.prog 121 #[str x_a0] w0 fun e w' => ∃ (p0 : Option Addr) (c0 : Nat), e = .returned (.tuple #[.agg #[int R.1.Kind, str R.1.Method, str R.1.Target, int R.1.Code, str R.1.Reason, int R.1.Minor, .slice p0 R.1.Fields.length c0], int R.2]) ∧ Dk.Own w0 [] w' [.row (.slice p0 R.1.Fields.length c0) 107 2 R.1.Fields.length (cells za R.1.Fields)] := by
 rw [zeG] at hm
 have hF : zo [] := zf
 have hO : Dk.Own w0 [] w0 [] := Dk.Own.refl w0
 refine S.enter tb Tryz.func121 rfl Tryz.ntmps121 rfl ?_ hO hm
 refine al zfR rfl fun b1 => ?_
 refine nl 107 2 ?_
 refine cl zmy rfl (fun r3 w hr3 hO => zeW x_a0 [32] r3 _ (hG.own hF hO) hr3) fun r3 hr3 => ?_
 refine cl c_165 rfl (fun r5 w hr5 hO => zfX r3.1 r5 _ (hG.own hF hO) hr5) fun r5 hr5 => ?_
 refine br rfl (fun hc7 => ?_) fun hc7 => ?_
 refine vl rfl rfl (fun a w hf hO => zl (vs := []) (v := .agg #[int 0, str [], str [], int 0, str [], int 0, .slice none 0 0]) hf rfl (by kernel_rfl)) ?_
 refine st 1 rfl rfl ?_
 refine nl 107 2 ?_
 refine re_ rfl fun a w hf hO hm => ?_
 obtain rfl := Option.some.inj hm
 exact zb Tryz.results121 hf (.cell rfl (ze (n := 7) (vs := [int 0, str [], str [], int 0, str [], int 0, .slice none 0 0]) zdq zdf rfl ((hO.blkSees (i := 2) rfl).cells (o := 0) (n := 7) rfl)) (.tmp rfl .nil)) ⟨none, 0, rfl, (hO.sub (.cons_cons _ (.cons _ (.cons _ .slnil))))⟩
 refine rw_ rfl fun a w hf hO hm => ?_
 obtain ⟨r10, hr10, hm⟩ := ob hm
 refine zg (zi zkE hf (vs := [str x_a0]) rfl) rfl hf rfl rfl (zeD x_a0 r10 _ (hG.own hF hO) hr10) ?_
 rintro e w' ⟨b11, he, hO'⟩
 refine ⟨_, he, fun a hf => ?_⟩
 have hO := hO.call hO' (by simp [Res.shared])
 refine S.op tb ?_ hf hO hm
 refine vl rfl rfl (fun a w hf hO => zl (vs := [(0, ptr b11 0)]) (v := .agg #[ptr b11 0]) hf rfl (by kernel_rfl)) ?_
 refine al zl3 rfl fun b12 => ?_
 refine st 0 rfl rfl ?_
 refine ld 0 rfl rfl ?_
 refine rw_ rfl fun a w hf hO hm => ?_
 obtain ⟨r14, hr14, hm⟩ := ob hm
 have hch15 := (show Dk.Own w0 [] _ ([.blk b11 [str r10.f_s, int r10.f_at] 289] ++ [.blk b12 [ptr b11 0] 254, .row (.slice none 0 0) 107 2 0 (cells za []), .blk b1 [int 0, str [], str [], int 0, str [], int 0, .slice none 0 0] 31]) from hO.choose [1, 0, 2, 3] rfl)
 have hfar15 := Dk.Own.far hch15 rfl hF hG.size
 have hlend15 := hch15.lend (S := []) rfl trivial
 have hcl15 := zd6 (⟨r10⟩ : startline_line) r14 _ (hG.own hF hO) hfar15 hlend15 hr14
 refine zg (zi c_172 hf (vs := [.agg #[ptr b11 0]]) rfl) rfl hf rfl rfl (hcl15) ?_
 rintro e w' ⟨he, hO'⟩
 refine ⟨_, he, fun a hf => ?_⟩
 have hO := hch15.back rfl hO' rfl
 refine S.op tb ?_ hf hO hm
 refine ld 1 rfl rfl ?_
 refine rw_ rfl fun a w hf hO hm => ?_
 obtain ⟨r17, hr17, hm⟩ := ob hm
 have hch18 := (show Dk.Own w0 [] _ ([.blk b11 [str r14.2.2.f_s, int r14.2.2.f_at] 289] ++ [.blk b12 [ptr b11 0] 254, .row (.slice none 0 0) 107 2 0 (cells za []), .blk b1 [int 0, str [], str [], int 0, str [], int 0, .slice none 0 0] 31]) from hO)
 have hfar18 := Dk.Own.far hch18 rfl hF hG.size
 have hlend18 := hch18.lend (S := []) rfl trivial
 have hcl18 := zq r14.2.2 32 r17 _ (hG.own hF hO) hfar18 hlend18 hr17
 refine zg (zi zet hf (vs := [ptr b11 0, zB 32]) rfl) rfl hf rfl rfl (hcl18) ?_
 rintro e w' ⟨he, hO'⟩
 refine ⟨_, he, fun a hf => ?_⟩
 have hO := hch18.back rfl hO' rfl
 refine S.op tb ?_ hf hO hm
 refine ld 1 rfl rfl ?_
 refine rw_ rfl fun a w hf hO hm => ?_
 obtain ⟨r20, hr20, hm⟩ := ob hm
 have hch21 := (show Dk.Own w0 [] _ ([.blk b11 [str r17.2.f_s, int r17.2.f_at] 289] ++ [.blk b12 [ptr b11 0] 254, .row (.slice none 0 0) 107 2 0 (cells za []), .blk b1 [int 0, str [], str [], int 0, str [], int 0, .slice none 0 0] 31]) from hO)
 have hfar21 := Dk.Own.far hch21 rfl hF hG.size
 have hlend21 := hch21.lend (S := []) rfl trivial
 have hcl21 := zaD r17.2 z6 r20 _ (hG.own hF hO) hfar21 hlend21 zjY (fun y0 r w hG h => zdN (zaK y0 r w hG h)) hr20
 refine zg (zi zlx hf (vs := [ptr b11 0, .func (.func 176) #[] #[]]) rfl) rfl hf rfl rfl (hcl21) ?_
 rintro e w' ⟨he, hO'⟩
 refine ⟨_, he, fun a hf => ?_⟩
 have hO := hch21.back rfl hO' rfl
 refine S.op tb ?_ hf hO hm
 refine ld 1 rfl rfl ?_
 refine rw_ rfl fun a w hf hO hm => ?_
 obtain ⟨r23, hr23, hm⟩ := ob hm
 have hch24 := (show Dk.Own w0 [] _ ([.blk b11 [str r20.2.f_s, int r20.2.f_at] 289] ++ [.blk b12 [ptr b11 0] 254, .row (.slice none 0 0) 107 2 0 (cells za []), .blk b1 [int 0, str [], str [], int 0, str [], int 0, .slice none 0 0] 31]) from hO)
 have hfar24 := Dk.Own.far hch24 rfl hF hG.size
 have hlend24 := hch24.lend (S := []) rfl trivial
 have hcl24 := zq r20.2 32 r23 _ (hG.own hF hO) hfar24 hlend24 hr23
 refine zg (zi zet hf (vs := [ptr b11 0, zB 32]) rfl) rfl hf rfl rfl (hcl24) ?_
 rintro e w' ⟨he, hO'⟩
 refine ⟨_, he, fun a hf => ?_⟩
 have hO := hch24.back rfl hO' rfl
 refine S.op tb ?_ hf hO hm
 refine cl zmz rfl (fun r26 w hr26 hO => zcA r20.1 599 r26 _ (hG.own hF hO) hr26) fun r26 hr26 => ?_
 refine jv 1 [2, 7, 8, 13] [0, 1, 2, 3] (fun J E L => ∃ (t37 : Bool), J ((76, .bool t37) :: E) (L) (zF r14 r23 r26 t37)) rfl ?_ ?_
 refine br rfl (fun hc28 => ?_) fun hc28 => ?_
 exact en rfl fun _ _ j => ⟨true, j rfl⟩
 refine br rfl (fun hc29 => ?_) fun hc29 => ?_
 exact en rfl fun _ _ j => ⟨true, j rfl⟩
 refine br rfl (fun hc30 => ?_) fun hc30 => ?_
 exact en rfl fun _ _ j => ⟨true, j rfl⟩
 refine br rfl (fun hc31 => ?_) fun hc31 => ?_
 exact en rfl fun _ _ j => ⟨true, j rfl⟩
 refine br rfl (fun hc32 => ?_) fun hc32 => ?_
 exact en rfl fun _ _ j => ⟨true, j rfl⟩
 refine br rfl (fun hc33 => ?_) fun hc33 => ?_
 exact en rfl fun _ _ j => ⟨true, j rfl⟩
 refine ld 1 rfl rfl ?_
 refine cl zkF rfl (fun r34 w hr34 hO => zam r23.2 r34 _ (hG.own hF hO) (hO.blkSees (i := 0) rfl) hr34) fun r34 hr34 => ?_
 refine rw_ rfl fun a w hf hO hm => ?_
 refine zu (vs := [(0, str r34)]) (cs := [str r34]) (e := 9) (sz := 1) hf rfl rfl (fun w => by kernel_rfl) rfl rfl hO fun a b35 w hf hO => ?_
 refine S.op tb ?_ hf hO hm
 refine kn (b' := false) hc33 rfl ?_
 refine cl zkQ rfl (fun r36 w hr36 hO => zbp zah ([r34] : List Str) r36 _ (hG.own hF hO) c_96 (fun y0 r w hG h => zdN (zce y0 r w hG h)) (hO.rowSees (i := 0) rfl) (hO.rowCap (i := 0) rfl) hr36) fun r36 hr36 => ?_
 exact ec [1, 2, 3, 4] rfl rfl rfl fun _ _ j => ⟨!r36, j rfl⟩
 rintro a w ⟨t37, hf, hO, hm⟩
 rw [zF] at hm
 refine S.co tb ?_ hf hO hm
 refine br rfl (fun hc38 => ?_) fun hc38 => ?_
 refine vl rfl rfl (fun a w hf hO => zl (vs := []) (v := .agg #[int 0, str [], str [], int 0, str [], int 0, .slice none 0 0]) hf rfl (by kernel_rfl)) ?_
 refine st 3 rfl rfl ?_
 refine nl 107 2 ?_
 refine re_ rfl fun a w hf hO hm => ?_
 obtain rfl := Option.some.inj hm
 exact zb Tryz.results121 hf (.cell rfl (ze (n := 7) (vs := [int 0, str [], str [], int 0, str [], int 0, .slice none 0 0]) zdq zdf rfl ((hO.blkSees (i := 4) rfl).cells (o := 0) (n := 7) rfl)) (.tmp rfl .nil)) ⟨none, 0, rfl, (hO.sub (.cons_cons _ (.cons _ (.cons _ (.cons _ (.cons _ .slnil))))))⟩
 refine ld 1 rfl rfl ?_
 refine cl zkF rfl (fun r41 w hr41 hO => zam r23.2 r41 _ (hG.own hF hO) (hO.blkSees (i := 0) rfl) hr41) fun r41 hr41 => ?_
 refine vl rfl rfl (fun a w hf hO => zl (vs := [(0, int 2), (5, int r14.1), (3, int r26.1), (4, str r41)]) (v := .agg #[int 2, str [], str [], int r26.1, str r41, int r14.1, .slice none 0 0]) hf rfl (by kernel_rfl)) ?_
 refine st 3 rfl rfl ?_
 refine nl 107 2 ?_
 refine re_ rfl fun a w hf hO hm => ?_
 obtain rfl := Option.some.inj hm
 exact zb Tryz.results121 hf (.cell rfl (ze (n := 7) (vs := [int 2, str [], str [], int r26.1, str r41, int r14.1, .slice none 0 0]) zdq zdf rfl ((hO.blkSees (i := 4) rfl).cells (o := 0) (n := 7) rfl)) (.tmp rfl .nil)) ⟨none, 0, rfl, (hO.sub (.cons_cons _ (.cons _ (.cons _ (.cons _ (.cons _ .slnil))))))⟩

theorem zcB (x_kind : Int) (x_s : Str) (R : api_Head × Int) (w0 : World) (hG : zH w0) (hm : zbn x_kind x_s = some R) :
    Calls Tryz.prog 88 #[int x_kind, str x_s] w0 fun e w' => ∃ (p0 : Option Addr) (c0 : Nat), e = .returned (.tuple #[.agg #[int R.1.Kind, str R.1.Method, str R.1.Target, int R.1.Code, str R.1.Reason, int R.1.Minor, .slice p0 R.1.Fields.length c0], int R.2]) ∧ Dk.Own w0 [] w' [.row (.slice p0 R.1.Fields.length c0) 107 2 R.1.Fields.length (cells za R.1.Fields)] := by
 rw [zbn] at hm
 have hF : zo [] := zf
 have hO : Dk.Own w0 [] w0 [] := Dk.Own.refl w0
 refine S.enter tb Tryz.func88 rfl Tryz.ntmps88 rfl ?_ hO hm
 refine al zfR rfl fun b1 => ?_
 refine nl 107 2 ?_
 refine jv 2 [0, 1, 4] [0, 1] (fun J E L => ∃ (t4 : Bool), J ((6, .bool t4) :: E) (L) (zb5 x_kind x_s t4)) rfl ?_ ?_
 refine br rfl (fun hc3 => ?_) fun hc3 => ?_
 exact en rfl fun _ _ j => ⟨!(x_kind == 2), j rfl⟩
 exact en rfl fun _ _ j => ⟨false, j rfl⟩
 rintro a w ⟨t4, hf, hO, hm⟩
 rw [zb5] at hm
 refine S.co tb ?_ hf hO hm
 refine br rfl (fun hc5 => ?_) fun hc5 => ?_
 refine vl rfl rfl (fun a w hf hO => zl (vs := []) (v := .agg #[int 0, str [], str [], int 0, str [], int 0, .slice none 0 0]) hf rfl (by kernel_rfl)) ?_
 refine st 1 rfl rfl ?_
 refine nl 107 2 ?_
 refine re_ rfl fun a w hf hO hm => ?_
 obtain rfl := Option.some.inj hm
 exact zb Tryz.results88 hf (.cell rfl (ze (n := 7) (vs := [int 0, str [], str [], int 0, str [], int 0, .slice none 0 0]) zdq zdf rfl ((hO.blkSees (i := 2) rfl).cells (o := 0) (n := 7) rfl)) (.tmp rfl .nil)) ⟨none, 0, rfl, (hO.sub (.cons_cons _ (.cons _ (.cons _ .slnil))))⟩
 refine cl c_119 rfl (fun r7 w hr7 hO => zev x_s [13, 10] r7 _ (hG.own hF hO).1 hr7) fun r7 hr7 => ?_
 refine br rfl (fun hc9 => ?_) fun hc9 => ?_
 refine vl rfl rfl (fun a w hf hO => zl (vs := []) (v := .agg #[int 0, str [], str [], int 0, str [], int 0, .slice none 0 0]) hf rfl (by kernel_rfl)) ?_
 refine st 1 rfl rfl ?_
 refine nl 107 2 ?_
 refine re_ rfl fun a w hf hO hm => ?_
 obtain rfl := Option.some.inj hm
 exact zb Tryz.results88 hf (.cell rfl (ze (n := 7) (vs := [int 0, str [], str [], int 0, str [], int 0, .slice none 0 0]) zdq zdf rfl ((hO.blkSees (i := 2) rfl).cells (o := 0) (n := 7) rfl)) (.tmp rfl .nil)) ⟨none, 0, rfl, (hO.sub (.cons_cons _ (.cons _ (.cons _ .slnil))))⟩
 refine br rfl (fun hc12 => ?_) fun hc12 => ?_
 refine rw_ rfl fun a w hf hO hm => ?_
 obtain ⟨r13, hr13, hm⟩ := ob hm
 refine zg (zi c_120 hf (vs := [str x_s]) rfl) rfl hf rfl rfl (zhV x_s r13 _ (hG.own hF hO) hr13) ?_
 rintro e w' ⟨p14, c15, he, hO'⟩
 refine ⟨_, he, fun a hf => ?_⟩
 have hO := hO.call hO' (by simp [Res.shared])
 refine S.op tb ?_ hf hO hm
 refine st 2 rfl rfl ?_
 refine re_ rfl fun a w hf hO hm => ?_
 obtain rfl := Option.some.inj hm
 exact zb Tryz.results88 hf (.cell rfl (ze (n := 7) (vs := [int r13.1.Kind, str r13.1.Method, str r13.1.Target, int r13.1.Code, str r13.1.Reason, int r13.1.Minor, .slice p14 r13.1.Fields.length c15]) zdq zdf rfl ((hO.blkSees (i := 2) rfl).cells (o := 0) (n := 7) rfl)) (.tmp rfl .nil)) ⟨p14, c15, rfl, (hO.sub (.cons_cons _ (.cons _ (.cons _ .slnil))))⟩
 refine rw_ rfl fun a w hf hO hm => ?_
 obtain ⟨r18, hr18, hm⟩ := ob hm
 refine zg (zi c_121 hf (vs := [str x_s]) rfl) rfl hf rfl rfl (zij x_s r18 _ (hG.own hF hO).1 hr18) ?_
 rintro e w' ⟨p19, c20, he, hO'⟩
 refine ⟨_, he, fun a hf => ?_⟩
 have hO := hO.call hO' (by simp [Res.shared])
 refine S.op tb ?_ hf hO hm
 refine st 2 rfl rfl ?_
 refine re_ rfl fun a w hf hO hm => ?_
 obtain rfl := Option.some.inj hm
 exact zb Tryz.results88 hf (.cell rfl (ze (n := 7) (vs := [int r18.1.Kind, str r18.1.Method, str r18.1.Target, int r18.1.Code, str r18.1.Reason, int r18.1.Minor, .slice p19 r18.1.Fields.length c20]) zdq zdf rfl ((hO.blkSees (i := 2) rfl).cells (o := 0) (n := 7) rfl)) (.tmp rfl .nil)) ⟨p19, c20, rfl, (hO.sub (.cons_cons _ (.cons _ (.cons _ .slnil))))⟩

end Go.Proofs
end
section
set_option linter.unusedVariables false
set_option maxHeartbeats 1000000
set_option linter.unusedSimpArgs false
set_option maxRecDepth 100000
namespace Go.Proofs
open Go.Dk Go.Dm Go.RowKit

theorem zgq (x_a0 : api_Head) (R : Str × Int) (w0 : World) (hG : zH w0) {x_a0_p0 : Option Addr} {x_a0_c0 : Nat} (hs0 : zw w0 x_a0_p0 (cells za x_a0.Fields)) (hc0 : x_a0.Fields.length ≤ x_a0_c0) (hm : zej x_a0 = some R) :
    Calls Tryz.prog 58 #[.agg #[int x_a0.Kind, str x_a0.Method, str x_a0.Target, int x_a0.Code, str x_a0.Reason, int x_a0.Minor, .slice x_a0_p0 x_a0.Fields.length x_a0_c0]] w0 (Ret w0 (fun R => .tuple #[str R.1, int R.2]) R) := by
 rw [zej] at hm
 have hF : zo [] := zf
 have hO : Dk.Own w0 [] w0 [] := Dk.Own.refl w0
 have hO := hO.addShr hs0 (by simp [Res.shared])
 refine S.enter tb Tryz.func58 rfl Tryz.ntmps58 rfl ?_ hO hm
 refine bo rfl fun b1 => ?_
 refine ld 0 rfl rfl ?_
 refine cl c_87 rfl (fun r3 w hr3 hO => zfA x_a0.Minor r3 _ (hG.own hF hO) hr3) fun r3 hr3 => ?_
 refine bi rfl fun s4 hs4 => ?_
 refine ld 0 rfl rfl ?_
 refine ld 0 rfl rfl ?_
 refine rw_ rfl fun a w hf hO hm => ?_
 refine zu (vs := [(0, str x_a0.Method), (1, str x_a0.Target), (2, str s4)]) (cs := [str x_a0.Method, str x_a0.Target, str s4]) (e := 9) (sz := 1) hf rfl rfl (fun w => by kernel_rfl) rfl rfl hO fun a b6 w hf hO => ?_
 refine S.op tb ?_ hf hO hm
 refine cl c_73 rfl (fun r7 w hr7 hO => zd1 [32] ([x_a0.Method, x_a0.Target, s4] : List Str) r7 _ (hG.own hF hO).1 (hO.rowSees (i := 0) rfl) (hO.rowCap (i := 0) rfl) hr7) fun r7 hr7 => ?_
 refine jv 0 [1] [0, 1, 2] (fun J E L => ∃ (s14 : Str), J ((5, str s14) :: E) (L) (zcF x_a0 s14)) rfl ?_ ?_
 refine ld 1 rfl rfl ?_
 refine br rfl (fun hc10 => ?_) fun hc10 => ?_
 refine rc_ rfl fun a w hf hO hm => ?_
 obtain ⟨r11, hr11, hm⟩ := ob hm
 obtain ⟨r13, hr13, hm⟩ := ob hm
 refine zcp (S := Nat) (E0 := [(1, ptr b1 0), (4, str s4), (5, str r7)]) (by kernel_rfl) (fun k σ w => match k with | 0 => Dk.Own w0 [] w [.row (.slice (some ⟨b6, 0, none⟩) (([x_a0.Method, x_a0.Target, s4] : List Str).length) 3) 9 1 (([x_a0.Method, x_a0.Target, s4] : List Str).length) (cells zh ([x_a0.Method, x_a0.Target, s4] : List Str)), .blk b1 [int x_a0.Kind, str x_a0.Method, str x_a0.Target, int x_a0.Code, str x_a0.Reason, int x_a0.Minor, .slice x_a0_p0 x_a0.Fields.length x_a0_c0] 31, .shr x_a0_p0 (cells za x_a0.Fields)] | 1 => Dk.Own w0 [] w [.row (.slice (some ⟨b6, 0, none⟩) (([x_a0.Method, x_a0.Target, s4] : List Str).length) 3) 9 1 (([x_a0.Method, x_a0.Target, s4] : List Str).length) (cells zh ([x_a0.Method, x_a0.Target, s4] : List Str)), .blk b1 [int x_a0.Kind, str x_a0.Method, str x_a0.Target, int x_a0.Code, str x_a0.Reason, int x_a0.Minor, .slice x_a0_p0 x_a0.Fields.length x_a0_c0] 31, .shr x_a0_p0 (cells za x_a0.Fields)] | 2 => Dk.Own w0 [] w [.row (.slice (some ⟨σ, 0, none⟩) (([s4, r11, x_a0.Reason] : List Str).length) 3) 9 1 (([s4, r11, x_a0.Reason] : List Str).length) (cells zh ([s4, r11, x_a0.Reason] : List Str)), .row (.slice (some ⟨b6, 0, none⟩) (([x_a0.Method, x_a0.Target, s4] : List Str).length) 3) 9 1 (([x_a0.Method, x_a0.Target, s4] : List Str).length) (cells zh ([x_a0.Method, x_a0.Target, s4] : List Str)), .blk b1 [int x_a0.Kind, str x_a0.Method, str x_a0.Target, int x_a0.Code, str x_a0.Reason, int x_a0.Minor, .slice x_a0_p0 x_a0.Fields.length x_a0_c0] 31, .shr x_a0_p0 (cells za x_a0.Fields)] | _ => Dk.Own w0 [] w [.row (.slice (some ⟨σ, 0, none⟩) (([s4, r11, x_a0.Reason] : List Str).length) 3) 9 1 (([s4, r11, x_a0.Reason] : List Str).length) (cells zh ([s4, r11, x_a0.Reason] : List Str)), .row (.slice (some ⟨b6, 0, none⟩) (([x_a0.Method, x_a0.Target, s4] : List Str).length) 3) 9 1 (([x_a0.Method, x_a0.Target, s4] : List Str).length) (cells zh ([x_a0.Method, x_a0.Target, s4] : List Str)), .blk b1 [int x_a0.Kind, str x_a0.Method, str x_a0.Target, int x_a0.Code, str x_a0.Reason, int x_a0.Minor, .slice x_a0_p0 x_a0.Fields.length x_a0_c0] 31, .shr x_a0_p0 (cells za x_a0.Fields)]) (fun σ => [⟨[(4, str s4)], some (23, str s4)⟩, ⟨[(1, ptr b1 0)], some (24, ptr b1 3)⟩, ⟨[(24, ptr b1 3)], some (25, int x_a0.Code)⟩, ⟨[(25, int x_a0.Code)], some (26, str r11)⟩, ⟨[(1, ptr b1 0)], some (27, ptr b1 4)⟩, ⟨[(27, ptr b1 4)], some (28, str x_a0.Reason)⟩, ⟨[(23, str s4), (26, str r11), (28, str x_a0.Reason)], some (29, .slice (some ⟨σ, 0, none⟩) (([s4, r11, x_a0.Reason] : List Str).length) 3)⟩, ⟨[(29, .slice (some ⟨σ, 0, none⟩) (([s4, r11, x_a0.Reason] : List Str).length) 3)], some (30, str r13)⟩, ⟨[(30, str r13)], some (5, str r13)⟩]) (0) [3, 6, 7] rfl (fun _ => rfl) (fun _ => rfl) (fun _ => rfl) rfl rfl (by decide) rfl hO.drew (hf.cons rfl (hf.cons rfl (hf.cons rfl hf.nil))) (fun σ => ⟨⟨rfl, trivial⟩, ⟨rfl, trivial⟩, ⟨rfl, trivial⟩, ⟨rfl, trivial⟩, ⟨rfl, trivial⟩, ⟨rfl, trivial⟩, ⟨rfl, rfl, rfl, trivial⟩, ⟨rfl, trivial⟩, ⟨rfl, trivial⟩, trivial⟩) ⟨zj rfl (fun σ => rfl) (fun σ => rfl) (fun σ a w k _ _ _ _ hf => zn hf rfl), zj rfl (fun σ => rfl) (fun σ => rfl) (fun σ a w k _ _ _ _ hf => zr zmv hf rfl), zj rfl (fun σ => rfl) (fun σ => rfl) (fun σ a w k hk hlo hup hst hf => match k, hk, hlo, hup, hst, hf with | 0, _, _, _, hst, hf => have hO : Dk.Own w0 [] w _ := hst; zk (o := 3) ze6 (hO.blkSees (i := 1) rfl) rfl hf rfl | 1, _, _, _, hst, hf => have hO : Dk.Own w0 [] w _ := hst; zk (o := 3) ze6 (hO.blkSees (i := 1) rfl) rfl hf rfl | 2, _, _, _, hst, hf => have hO : Dk.Own w0 [] w _ := hst; zk (o := 3) ze6 (hO.blkSees (i := 2) rfl) rfl hf rfl | 3, _, _, _, hst, hf => have hO : Dk.Own w0 [] w _ := hst; zk (o := 3) ze6 (hO.blkSees (i := 2) rfl) rfl hf rfl | k + 4, hk, _, _, _, _ => absurd hk (by simp)), zd7 rfl (fun σ => rfl) (fun σ => rfl) rfl (fun σ a w (_ : _) hf => zi c_87 hf (vs := [int x_a0.Code]) rfl) (fun σ w (hO : Dk.Own w0 [] w _) => (zfA x_a0.Code r11 _ (hG.own hF hO) hr11).mono fun e w' h => by obtain ⟨he, hb⟩ := h; exact ⟨(σ), he, hO.grow hb, .inr rfl, .inr rfl, .inr rfl, .inr rfl, .inr rfl, .inr rfl, .inr rfl, .inr rfl, .inr rfl, trivial⟩), zj rfl (fun σ => rfl) (fun σ => rfl) (fun σ a w k _ _ _ _ hf => zr zmw hf rfl), zj rfl (fun σ => rfl) (fun σ => rfl) (fun σ a w k hk hlo hup hst hf => match k, hk, hlo, hup, hst, hf with | 0, _, _, _, hst, hf => have hO : Dk.Own w0 [] w _ := hst; zk (o := 4) zbC (hO.blkSees (i := 1) rfl) rfl hf rfl | 1, _, _, _, hst, hf => have hO : Dk.Own w0 [] w _ := hst; zk (o := 4) zbC (hO.blkSees (i := 1) rfl) rfl hf rfl | 2, _, _, _, hst, hf => have hO : Dk.Own w0 [] w _ := hst; zk (o := 4) zbC (hO.blkSees (i := 2) rfl) rfl hf rfl | 3, _, _, _, hst, hf => have hO : Dk.Own w0 [] w _ := hst; zk (o := 4) zbC (hO.blkSees (i := 2) rfl) rfl hf rfl | k + 4, hk, _, _, _, _ => absurd hk (by simp)), zik rfl (fun σ => rfl) (fun σ => rfl) rfl (fun σ w (hO : Dk.Own w0 [] w _) => by obtain ⟨b12, w', hO', hr⟩ := zdu (E := [(23, str s4), (26, str r11), (28, str x_a0.Reason)]) (parts := #[(0, (.tmp 23)), (1, (.tmp 26)), (2, (.tmp 28))]) (t' := 61) (n := 3) (vs := [(0, str s4), (1, str r11), (2, str x_a0.Reason)]) (cs := [str s4, str r11, str x_a0.Reason]) (e := 9) (sz := 1) (fun w => by kernel_rfl) rfl rfl hO rfl; exact ⟨(b12), w', hO', ⟨.inr rfl, .inr rfl, .inr rfl, .inr rfl, .inr rfl, .inr rfl, .inl rfl, .inl rfl, .inr rfl, trivial⟩, hr⟩), zd7 rfl (fun σ => rfl) (fun σ => rfl) rfl (fun σ a w (_ : _) hf => zi c_73 hf (vs := [str [32], .slice (some ⟨σ, 0, none⟩) (([s4, r11, x_a0.Reason] : List Str).length) 3]) rfl) (fun σ w (hO : Dk.Own w0 [] w _) => (zd1 [32] ([s4, r11, x_a0.Reason] : List Str) r13 _ (hG.own hF hO).1 (hO.rowSees (i := 0) rfl) (hO.rowCap (i := 0) rfl) hr13).mono fun e w' h => by obtain ⟨he, hb⟩ := h; exact ⟨(σ), he, hO.grow hb, .inr rfl, .inr rfl, .inr rfl, .inr rfl, .inr rfl, .inr rfl, .inr rfl, .inr rfl, .inr rfl, trivial⟩), zj rfl (fun σ => rfl) (fun σ => rfl) (fun σ a w k _ _ _ _ hf => zv hf rfl), trivial⟩ ?_
 rintro b12 a w hf hO
 have hO : Dk.Own w0 [] w _ := hO
 have hf : Fits 81 [(1, ptr b1 0), (5, str r13)] a := (hf.cons rfl (hf.cons rfl hf.nil))
 refine S.no tb ?_ hf hO hm
 exact ec [1, 2, 3] rfl rfl rfl fun _ _ j => ⟨r13, j rfl⟩
 exact en rfl fun _ _ j => ⟨r7, j rfl⟩
 rintro a w ⟨s14, hf, hO, hm⟩
 rw [zcF] at hm
 refine S.co tb ?_ hf hO hm
 refine ld 1 rfl rfl ?_
 refine rw_ rfl fun a w hf hO hm => ?_
 obtain ⟨r15, hr15, hm⟩ := ob hm
 refine zg (zi c_88 hf (vs := [int x_a0.Kind, str s14]) rfl) rfl hf rfl rfl (zcB x_a0.Kind s14 r15 _ (hG.own hF hO) hr15) ?_
 rintro e w' ⟨p16, c17, he, hO'⟩
 refine ⟨_, he, fun a hf => ?_⟩
 have hO := hO.call hO' (by simp [Res.shared])
 refine S.op tb ?_ hf hO hm
 refine al zfR rfl fun b18 => ?_
 refine nl 107 2 ?_
 refine st 1 rfl rfl ?_
 refine br rfl (fun hc21 => ?_) fun hc21 => ?_
 exact rt Tryz.results58 rfl
 refine jv 0 [5, 7] [0, 1, 2, 3, 4, 5] (fun J E L => ∃ (t28 : Bool), J ((8, .bool t28) :: E) (L) (zai s14 r15 t28)) rfl ?_ ?_
 refine ld 1 rfl rfl ?_
 refine ld 4 rfl rfl ?_
 refine br rfl (fun hc24 => ?_) fun hc24 => ?_
 refine ld 1 rfl rfl ?_
 refine ld 4 rfl rfl ?_
 refine br rfl (fun hc25 => ?_) fun hc25 => ?_
 refine ld 1 rfl rfl ?_
 refine ld 4 rfl rfl ?_
 refine br rfl (fun hc26 => ?_) fun hc26 => ?_
 refine ld 1 rfl rfl ?_
 refine ld 4 rfl rfl ?_
 refine br rfl (fun hc27 => ?_) fun hc27 => ?_
 refine ld 1 rfl rfl ?_
 refine ld 4 rfl rfl ?_
 exact en rfl fun _ _ j => ⟨r15.1.Reason == x_a0.Reason, j rfl⟩
 exact en rfl fun _ _ j => ⟨false, j rfl⟩
 exact en rfl fun _ _ j => ⟨false, j rfl⟩
 exact en rfl fun _ _ j => ⟨false, j rfl⟩
 exact en rfl fun _ _ j => ⟨false, j rfl⟩
 rintro a w ⟨t28, hf, hO, hm⟩
 rw [zai] at hm
 refine S.co tb ?_ hf hO hm
 refine jv 1 [5] [0, 1, 2, 3, 4, 5] (fun J E L => ∃ (t30 : Bool), J ((79, .bool t30) :: E) (L) (zcE s14 t30)) rfl ?_ ?_
 refine br rfl (fun hc29 => ?_) fun hc29 => ?_
 exact en rfl fun _ _ j => ⟨true, j rfl⟩
 exact en rfl fun _ _ j => ⟨!t28, j rfl⟩
 rintro a w ⟨t30, hf, hO, hm⟩
 rw [zcE] at hm
 refine S.co tb ?_ hf hO hm
 refine br rfl (fun hc31 => ?_) fun hc31 => ?_
 exact rt Tryz.results58 rfl
 exact rt Tryz.results58 rfl

theorem zh1 (x_s : Str) (R : Bool) (w0 : World) (hG : zt w0) (hm : zf3 x_s = some R) :
    Calls Tryz.prog 94 #[str x_s] w0 (Ret w0 (fun R => .bool R) R) := by
 rw [zf3] at hm
 have hF : zo [] := zf
 have hO : Dk.Own w0 [] w0 [] := Dk.Own.refl w0
 refine S.enter tb Tryz.func94 rfl Tryz.ntmps94 rfl ?_ hO hm
 refine jv 0 [] [] (fun J E L => ∃ (t5 : Bool), J ((2, .bool t5) :: E) (L) (zek t5)) rfl ?_ ?_
 refine br rfl (fun hc2 => ?_) fun hc2 => ?_
 refine rw_ rfl fun a w hf hO hm => ?_
 refine zu (vs := [(0, str x_s)]) (cs := [str x_s]) (e := 9) (sz := 1) hf rfl rfl (fun w => by kernel_rfl) rfl rfl hO fun a b3 w hf hO => ?_
 refine S.op tb ?_ hf hO hm
 refine kn (b' := true) hc2 rfl ?_
 refine cl zkQ rfl (fun r4 w hr4 hO => zbp zcr ([x_s] : List Str) r4 _ (hG.own hF hO) c_129 (fun y0 r w hG h => zdN (zgW y0 r w hG h)) (hO.rowSees (i := 0) rfl) (hO.rowCap (i := 0) rfl) hr4) fun r4 hr4 => ?_
 exact ec [] rfl rfl rfl fun _ _ j => ⟨r4, j rfl⟩
 exact en rfl fun _ _ j => ⟨false, j rfl⟩
 rintro a w ⟨t5, hf, hO, hm⟩
 rw [zek] at hm
 refine S.co tb ?_ hf hO hm
 exact rt Tryz.results94 rfl

theorem zfT (x_f : api_Field) (R : Int) (w0 : World) (hG : zt w0) (hm : zdH x_f = some R) :
    Calls Tryz.prog 69 #[.agg #[str x_f.Name, str x_f.Value]] w0 (Ret w0 (fun R => int R) R) := by
 rw [zdH] at hm
 have hF : zo [] := zf
 have hO : Dk.Own w0 [] w0 [] := Dk.Own.refl w0
 refine S.enter tb Tryz.func69 rfl Tryz.ntmps69 rfl ?_ hO hm
 refine bo rfl fun b1 => ?_
 refine ld 0 rfl rfl ?_
 refine cl c_94 rfl (fun r3 w hr3 hO => zh1 x_f.Name r3 _ (hG.own hF hO) hr3) fun r3 hr3 => ?_
 refine br rfl (fun hc5 => ?_) fun hc5 => ?_
 exact rt Tryz.results69 rfl
 refine jv 2 [] [0] (fun J E L => ∃ (t11 : Bool), J ((8, .bool t11) :: E) (L) (zb6 t11)) rfl ?_ ?_
 refine rc_ rfl fun a w hf hO hm => ?_
 obtain ⟨r8, hr8, hm⟩ := ob hm
 rcases zmH (!r8) with hc9 | hc9
 have hm := it hc9 hm
 refine zkL (S := Nat) (E0 := [(1, ptr b1 0)]) (by kernel_rfl) (fun k σ w => match k with | 0 => Dk.Own w0 [] w [.blk b1 [str x_f.Name, str x_f.Value] 107] | 1 => Dk.Own w0 [] w [.row (.slice (some ⟨σ, 0, none⟩) (([x_f.Value] : List Str).length) 1) 9 1 (([x_f.Value] : List Str).length) (cells zh ([x_f.Value] : List Str)), .blk b1 [str x_f.Name, str x_f.Value] 107] | _ => Dk.Own w0 [] w [.row (.slice (some ⟨σ, 0, none⟩) (([x_f.Value] : List Str).length) 1) 9 1 (([x_f.Value] : List Str).length) (cells zh ([x_f.Value] : List Str)), .blk b1 [str x_f.Name, str x_f.Value] 107]) (fun σ => [⟨[(1, ptr b1 0)], some (9, ptr b1 1)⟩, ⟨[(9, ptr b1 1)], some (10, str x_f.Value)⟩, ⟨[(10, str x_f.Value)], some (11, .slice (some ⟨σ, 0, none⟩) (([x_f.Value] : List Str).length) 1)⟩, ⟨[(11, .slice (some ⟨σ, 0, none⟩) (([x_f.Value] : List Str).length) 1)], some (12, .bool r8)⟩, ⟨[(12, .bool r8)], some (13, .bool (!r8))⟩, ⟨[(13, .bool (!r8))], some (14, .bool (!r8))⟩, ⟨[(14, .bool (!r8))], some (15, undef)⟩, ⟨[(14, .bool (!r8))], some (16, undef)⟩, ⟨[(14, .bool (!r8))], some (17, undef)⟩, ⟨[(14, .bool (!r8))], some (18, undef)⟩, ⟨[(14, .bool (!r8))], some (19, undef)⟩, ⟨[(14, .bool (!r8))], some (20, undef)⟩, ⟨[(14, .bool (!r8)), (20, undef)], some (21, .bool true)⟩, ⟨[(21, .bool true)], some (8, .bool true)⟩]) (0) [2, 3] [6, 7, 8, 9, 10, 11] ⟨zdj rfl rfl, zdj rfl rfl, zdj rfl rfl, zdj rfl rfl, zdj rfl rfl, zdj rfl rfl, zff (u := fun σ => !r8) rfl (fun σ => rfl) rfl (fun σ => rfl) (fun σ => by rw [hc9] <;> rfl), zff (u := fun σ => !r8) rfl (fun σ => rfl) rfl (fun σ => rfl) (fun σ => by rw [hc9] <;> rfl), zff (u := fun σ => !r8) rfl (fun σ => rfl) rfl (fun σ => rfl) (fun σ => by rw [hc9] <;> rfl), zff (u := fun σ => !r8) rfl (fun σ => rfl) rfl (fun σ => rfl) (fun σ => by rw [hc9] <;> rfl), zff (u := fun σ => !r8) rfl (fun σ => rfl) rfl (fun σ => rfl) (fun σ => by rw [hc9] <;> rfl), zff (u := fun σ => !r8) rfl (fun σ => rfl) rfl (fun σ => rfl) (fun σ => by rw [hc9] <;> rfl), zdj rfl rfl, zdj rfl rfl, trivial⟩ (fun σ => ⟨.inl rfl, .inl rfl, .inl rfl, .inl rfl, .inl rfl, .inl rfl, .inr ⟨rfl, rfl⟩, .inr ⟨rfl, rfl⟩, .inr ⟨rfl, rfl⟩, .inr ⟨rfl, rfl⟩, .inr ⟨rfl, rfl⟩, .inr ⟨rfl, rfl⟩, .inl rfl, .inl rfl, trivial⟩) (fun _ => rfl) (fun _ => rfl) (fun _ => rfl) rfl rfl (by decide) rfl hO.drew (hf.cons rfl hf.nil) (fun σ => ⟨⟨rfl, trivial⟩, ⟨rfl, trivial⟩, ⟨rfl, trivial⟩, ⟨rfl, trivial⟩, ⟨rfl, trivial⟩, ⟨rfl, trivial⟩, ⟨rfl, trivial⟩, ⟨rfl, trivial⟩, ⟨rfl, trivial⟩, ⟨rfl, trivial⟩, ⟨rfl, trivial⟩, ⟨rfl, trivial⟩, ⟨rfl, rfl, trivial⟩, ⟨rfl, trivial⟩, trivial⟩) ⟨.inr ⟨rfl, zj rfl (fun σ => rfl) (fun σ => rfl) (fun σ a w k _ _ _ _ hf => zr zhd hf rfl)⟩, .inr ⟨rfl, zj rfl (fun σ => rfl) (fun σ => rfl) (fun σ a w k hk hlo hup hst hf => match k, hk, hlo, hup, hst, hf with | 0, _, _, _, hst, hf => have hO : Dk.Own w0 [] w _ := hst; zk (o := 1) zbC (hO.blkSees (i := 0) rfl) rfl hf rfl | 1, _, _, _, hst, hf => have hO : Dk.Own w0 [] w _ := hst; zk (o := 1) zbC (hO.blkSees (i := 1) rfl) rfl hf rfl | 2, _, _, _, hst, hf => have hO : Dk.Own w0 [] w _ := hst; zk (o := 1) zbC (hO.blkSees (i := 1) rfl) rfl hf rfl | k + 3, hk, _, _, _, _ => absurd hk (by simp))⟩, .inr ⟨rfl, zik rfl (fun σ => rfl) (fun σ => rfl) rfl (fun σ w (hO : Dk.Own w0 [] w _) => by obtain ⟨b7, w', hO', hr⟩ := zdu (E := [(10, str x_f.Value)]) (parts := #[(0, (.tmp 10))]) (t' := 61) (n := 1) (vs := [(0, str x_f.Value)]) (cs := [str x_f.Value]) (e := 9) (sz := 1) (fun w => by kernel_rfl) rfl rfl hO rfl; exact ⟨(b7), w', hO', ⟨.inr rfl, .inr rfl, .inl rfl, .inl rfl, .inr rfl, .inr rfl, .inr rfl, .inr rfl, .inr rfl, .inr rfl, .inr rfl, .inr rfl, .inr rfl, .inr rfl, trivial⟩, hr⟩)⟩, .inr ⟨rfl, zd7 rfl (fun σ => rfl) (fun σ => rfl) rfl (fun σ a w (_ : _) hf => zi zkQ hf (vs := [.func (.func 96) #[] #[], .slice (some ⟨σ, 0, none⟩) (([x_f.Value] : List Str).length) 1]) rfl) (fun σ w (hO : Dk.Own w0 [] w _) => (zbp zah ([x_f.Value] : List Str) r8 _ (hG.own hF hO) c_96 (fun y0 r w hG h => zdN (zce y0 r w hG h)) (hO.rowSees (i := 0) rfl) (hO.rowCap (i := 0) rfl) hr8).mono fun e w' h => by obtain ⟨he, hb⟩ := h; exact ⟨(σ), he, hO.grow hb, .inr rfl, .inr rfl, .inr rfl, .inr rfl, .inr rfl, .inr rfl, .inr rfl, .inr rfl, .inr rfl, .inr rfl, .inr rfl, .inr rfl, .inr rfl, .inr rfl, trivial⟩)⟩, .inr ⟨rfl, zj rfl (fun σ => rfl) (fun σ => rfl) (fun σ a w k _ _ _ _ hf => zmf hf rfl)⟩, .inr ⟨rfl, zj rfl (fun σ => rfl) (fun σ => rfl) (fun σ a w k _ _ _ _ hf => zn hf rfl)⟩, .inl rfl, .inl rfl, .inl rfl, .inl rfl, .inl rfl, .inl rfl, .inr ⟨rfl, zj rfl (fun σ => rfl) (fun σ => rfl) (fun σ a w k _ _ _ _ hf => zkI hf rfl hc9 rfl)⟩, .inr ⟨rfl, zj rfl (fun σ => rfl) (fun σ => rfl) (fun σ a w k _ _ _ _ hf => zv hf rfl)⟩, trivial⟩ ?_
 rintro b7 a w hf hO
 have hO : Dk.Own w0 [] w _ := hO
 have hf : Fits 22 [(8, .bool true)] a := (hf.cons rfl hf.nil)
 refine S.no tb ?_ hf hO hm
 exact ec [1] rfl rfl rfl fun _ _ j => ⟨true, j rfl⟩
 have hm := ie hc9 hm
 obtain ⟨r10, hr10, hm⟩ := ob hm
 refine zkL (S := Nat) (E0 := [(1, ptr b1 0)]) (by kernel_rfl) (fun k σ w => match k with | 0 => Dk.Own w0 [] w [.blk b1 [str x_f.Name, str x_f.Value] 107] | 1 => Dk.Own w0 [] w [.row (.slice (some ⟨σ, 0, none⟩) (([x_f.Value] : List Str).length) 1) 9 1 (([x_f.Value] : List Str).length) (cells zh ([x_f.Value] : List Str)), .blk b1 [str x_f.Name, str x_f.Value] 107] | 2 => Dk.Own w0 [] w [.row (.slice (some ⟨σ, 0, none⟩) (([x_f.Value] : List Str).length) 1) 9 1 (([x_f.Value] : List Str).length) (cells zh ([x_f.Value] : List Str)), .blk b1 [str x_f.Name, str x_f.Value] 107] | _ => Dk.Own w0 [] w [.row (.slice (some ⟨σ, 0, none⟩) (([x_f.Value] : List Str).length) 1) 9 1 (([x_f.Value] : List Str).length) (cells zh ([x_f.Value] : List Str)), .blk b1 [str x_f.Name, str x_f.Value] 107]) (fun σ => [⟨[(1, ptr b1 0)], some (9, ptr b1 1)⟩, ⟨[(9, ptr b1 1)], some (10, str x_f.Value)⟩, ⟨[(10, str x_f.Value)], some (11, .slice (some ⟨σ, 0, none⟩) (([x_f.Value] : List Str).length) 1)⟩, ⟨[(11, .slice (some ⟨σ, 0, none⟩) (([x_f.Value] : List Str).length) 1)], some (12, .bool r8)⟩, ⟨[(12, .bool r8)], some (13, .bool (!r8))⟩, ⟨[(13, .bool (!r8))], some (14, .bool (!r8))⟩, ⟨[(1, ptr b1 0), (14, .bool (!r8))], some (15, ptr b1 1)⟩, ⟨[(15, ptr b1 1), (14, .bool (!r8))], some (16, str x_f.Value)⟩, ⟨[(16, str x_f.Value), (14, .bool (!r8))], some (17, str r10)⟩, ⟨[(1, ptr b1 0), (14, .bool (!r8))], some (18, ptr b1 1)⟩, ⟨[(18, ptr b1 1), (14, .bool (!r8))], some (19, str x_f.Value)⟩, ⟨[(17, str r10), (19, str x_f.Value), (14, .bool (!r8))], some (20, .bool (!(r10 == x_f.Value)))⟩, ⟨[(14, .bool (!r8)), (20, .bool (!(r10 == x_f.Value)))], some (21, .bool (!(r10 == x_f.Value)))⟩, ⟨[(21, .bool (!(r10 == x_f.Value)))], some (8, .bool (!(r10 == x_f.Value)))⟩]) (0) [2, 3, 8] [] ⟨zdj rfl rfl, zdj rfl rfl, zdj rfl rfl, zdj rfl rfl, zdj rfl rfl, zdj rfl rfl, zff (u := fun σ => !r8) rfl (fun σ => rfl) rfl (fun σ => rfl) (fun σ => by rw [hc9] <;> rfl), zff (u := fun σ => !r8) rfl (fun σ => rfl) rfl (fun σ => rfl) (fun σ => by rw [hc9] <;> rfl), zff (u := fun σ => !r8) rfl (fun σ => rfl) rfl (fun σ => rfl) (fun σ => by rw [hc9] <;> rfl), zff (u := fun σ => !r8) rfl (fun σ => rfl) rfl (fun σ => rfl) (fun σ => by rw [hc9] <;> rfl), zff (u := fun σ => !r8) rfl (fun σ => rfl) rfl (fun σ => rfl) (fun σ => by rw [hc9] <;> rfl), zff (u := fun σ => !r8) rfl (fun σ => rfl) rfl (fun σ => rfl) (fun σ => by rw [hc9] <;> rfl), zdj rfl rfl, zdj rfl rfl, trivial⟩ (fun σ => ⟨.inl rfl, .inl rfl, .inl rfl, .inl rfl, .inl rfl, .inl rfl, .inl rfl, .inl rfl, .inl rfl, .inl rfl, .inl rfl, .inl rfl, .inl rfl, .inl rfl, trivial⟩) (fun _ => rfl) (fun _ => rfl) (fun _ => rfl) rfl rfl (by decide) rfl hO.drew (hf.cons rfl hf.nil) (fun σ => ⟨⟨rfl, trivial⟩, ⟨rfl, trivial⟩, ⟨rfl, trivial⟩, ⟨rfl, trivial⟩, ⟨rfl, trivial⟩, ⟨rfl, trivial⟩, ⟨rfl, rfl, trivial⟩, ⟨rfl, rfl, trivial⟩, ⟨rfl, rfl, trivial⟩, ⟨rfl, rfl, trivial⟩, ⟨rfl, rfl, trivial⟩, ⟨rfl, rfl, rfl, trivial⟩, ⟨rfl, rfl, trivial⟩, ⟨rfl, trivial⟩, trivial⟩) ⟨.inr ⟨rfl, zj rfl (fun σ => rfl) (fun σ => rfl) (fun σ a w k _ _ _ _ hf => zr zhd hf rfl)⟩, .inr ⟨rfl, zj rfl (fun σ => rfl) (fun σ => rfl) (fun σ a w k hk hlo hup hst hf => match k, hk, hlo, hup, hst, hf with | 0, _, _, _, hst, hf => have hO : Dk.Own w0 [] w _ := hst; zk (o := 1) zbC (hO.blkSees (i := 0) rfl) rfl hf rfl | 1, _, _, _, hst, hf => have hO : Dk.Own w0 [] w _ := hst; zk (o := 1) zbC (hO.blkSees (i := 1) rfl) rfl hf rfl | 2, _, _, _, hst, hf => have hO : Dk.Own w0 [] w _ := hst; zk (o := 1) zbC (hO.blkSees (i := 1) rfl) rfl hf rfl | 3, _, _, _, hst, hf => have hO : Dk.Own w0 [] w _ := hst; zk (o := 1) zbC (hO.blkSees (i := 1) rfl) rfl hf rfl | k + 4, hk, _, _, _, _ => absurd hk (by simp))⟩, .inr ⟨rfl, zik rfl (fun σ => rfl) (fun σ => rfl) rfl (fun σ w (hO : Dk.Own w0 [] w _) => by obtain ⟨b7, w', hO', hr⟩ := zdu (E := [(10, str x_f.Value)]) (parts := #[(0, (.tmp 10))]) (t' := 61) (n := 1) (vs := [(0, str x_f.Value)]) (cs := [str x_f.Value]) (e := 9) (sz := 1) (fun w => by kernel_rfl) rfl rfl hO rfl; exact ⟨(b7), w', hO', ⟨.inr rfl, .inr rfl, .inl rfl, .inl rfl, .inr rfl, .inr rfl, .inr rfl, .inr rfl, .inr rfl, .inr rfl, .inr rfl, .inr rfl, .inr rfl, .inr rfl, trivial⟩, hr⟩)⟩, .inr ⟨rfl, zd7 rfl (fun σ => rfl) (fun σ => rfl) rfl (fun σ a w (_ : _) hf => zi zkQ hf (vs := [.func (.func 96) #[] #[], .slice (some ⟨σ, 0, none⟩) (([x_f.Value] : List Str).length) 1]) rfl) (fun σ w (hO : Dk.Own w0 [] w _) => (zbp zah ([x_f.Value] : List Str) r8 _ (hG.own hF hO) c_96 (fun y0 r w hG h => zdN (zce y0 r w hG h)) (hO.rowSees (i := 0) rfl) (hO.rowCap (i := 0) rfl) hr8).mono fun e w' h => by obtain ⟨he, hb⟩ := h; exact ⟨(σ), he, hO.grow hb, .inr rfl, .inr rfl, .inr rfl, .inr rfl, .inr rfl, .inr rfl, .inr rfl, .inr rfl, .inr rfl, .inr rfl, .inr rfl, .inr rfl, .inr rfl, .inr rfl, trivial⟩)⟩, .inr ⟨rfl, zj rfl (fun σ => rfl) (fun σ => rfl) (fun σ a w k _ _ _ _ hf => zmf hf rfl)⟩, .inr ⟨rfl, zj rfl (fun σ => rfl) (fun σ => rfl) (fun σ a w k _ _ _ _ hf => zn hf rfl)⟩, .inr ⟨rfl, zj rfl (fun σ => rfl) (fun σ => rfl) (fun σ a w k _ _ _ _ hf => zr zhd hf rfl)⟩, .inr ⟨rfl, zj rfl (fun σ => rfl) (fun σ => rfl) (fun σ a w k hk hlo hup hst hf => match k, hk, hlo, hup, hst, hf with | 0, _, _, _, hst, hf => have hO : Dk.Own w0 [] w _ := hst; zk (o := 1) zbC (hO.blkSees (i := 0) rfl) rfl hf rfl | 1, _, _, _, hst, hf => have hO : Dk.Own w0 [] w _ := hst; zk (o := 1) zbC (hO.blkSees (i := 1) rfl) rfl hf rfl | 2, _, _, _, hst, hf => have hO : Dk.Own w0 [] w _ := hst; zk (o := 1) zbC (hO.blkSees (i := 1) rfl) rfl hf rfl | 3, _, _, _, hst, hf => have hO : Dk.Own w0 [] w _ := hst; zk (o := 1) zbC (hO.blkSees (i := 1) rfl) rfl hf rfl | k + 4, hk, _, _, _, _ => absurd hk (by simp))⟩, .inr ⟨rfl, zd7 rfl (fun σ => rfl) (fun σ => rfl) rfl (fun σ a w (_ : _) hf => zi c_97 hf (vs := [str x_f.Value, str [32, 9]]) rfl) (fun σ w (hO : Dk.Own w0 [] w _) => (zfD x_f.Value [32, 9] r10 _ (hG.own hF hO) hr10).mono fun e w' h => by obtain ⟨he, hb⟩ := h; exact ⟨(σ), he, hO.grow hb, .inr rfl, .inr rfl, .inr rfl, .inr rfl, .inr rfl, .inr rfl, .inr rfl, .inr rfl, .inr rfl, .inr rfl, .inr rfl, .inr rfl, .inr rfl, .inr rfl, trivial⟩)⟩, .inr ⟨rfl, zj rfl (fun σ => rfl) (fun σ => rfl) (fun σ a w k _ _ _ _ hf => zr zhd hf rfl)⟩, .inr ⟨rfl, zj rfl (fun σ => rfl) (fun σ => rfl) (fun σ a w k hk hlo hup hst hf => match k, hk, hlo, hup, hst, hf with | 0, _, _, _, hst, hf => have hO : Dk.Own w0 [] w _ := hst; zk (o := 1) zbC (hO.blkSees (i := 0) rfl) rfl hf rfl | 1, _, _, _, hst, hf => have hO : Dk.Own w0 [] w _ := hst; zk (o := 1) zbC (hO.blkSees (i := 1) rfl) rfl hf rfl | 2, _, _, _, hst, hf => have hO : Dk.Own w0 [] w _ := hst; zk (o := 1) zbC (hO.blkSees (i := 1) rfl) rfl hf rfl | 3, _, _, _, hst, hf => have hO : Dk.Own w0 [] w _ := hst; zk (o := 1) zbC (hO.blkSees (i := 1) rfl) rfl hf rfl | k + 4, hk, _, _, _, _ => absurd hk (by simp))⟩, .inr ⟨rfl, zj rfl (fun σ => rfl) (fun σ => rfl) (fun σ a w k _ _ _ _ hf => zlL (l := r10) (m := x_f.Value) hf rfl rfl)⟩, .inr ⟨rfl, zj rfl (fun σ => rfl) (fun σ => rfl) (fun σ a w k _ _ _ _ hf => zkJ hf rfl hc9 rfl)⟩, .inr ⟨rfl, zj rfl (fun σ => rfl) (fun σ => rfl) (fun σ a w k _ _ _ _ hf => zv hf rfl)⟩, trivial⟩ ?_
 rintro b7 a w hf hO
 have hO : Dk.Own w0 [] w _ := hO
 have hf : Fits 22 [(8, .bool (!(r10 == x_f.Value)))] a := (hf.cons rfl hf.nil)
 refine S.no tb ?_ hf hO hm
 exact ec [1] rfl rfl rfl fun _ _ j => ⟨!(r10 == x_f.Value), j rfl⟩
 rintro a w ⟨t11, hf, hO, hm⟩
 rw [zb6] at hm
 refine S.co tb ?_ hf hO hm
 refine br rfl (fun hc12 => ?_) fun hc12 => ?_
 exact rt Tryz.results69 rfl
 exact rt Tryz.results69 rfl

theorem zaP (x_s : List api_Field) (R : List api_Field) (w0 : World) (hG : zt w0) {x_s_p0 : Option Addr} {x_s_c0 : Nat} (hs0 : zw w0 x_s_p0 (cells za x_s)) (hc0 : x_s.length ≤ x_s_c0) (hm : zK x_s = some R) :
    Calls Tryz.prog 190 #[.slice x_s_p0 x_s.length x_s_c0] w0 fun e w' => ∃ (p0 : Option Addr) (c0 : Nat), e = .returned (.slice p0 R.length c0) ∧ Dk.Own w0 [] w' [.row (.slice p0 R.length c0) 107 2 R.length (cells za R)] := by
 rw [zK] at hm
 have hF : zo [] := zf
 have hO : Dk.Own w0 [] w0 [] := Dk.Own.refl w0
 have hO := hO.addShr hs0 (by simp [Res.shared])
 refine S.enter tb Tryz.func190 rfl Tryz.ntmps190 rfl ?_ hO hm
 refine nl 107 2 ?_
 refine vl rfl rfl (fun a w hf hO => zmX (ad := x_s_p0) Tryz.underlying29 hf rfl rfl) ?_
 refine rc_ rfl fun a w hf hO hm => ?_
 rcases zmH (x_s_p0.isNone) with hc3 | hc3
 have hxhc3 : x_s = [] := zmY (enc := za) (sz := 2) (fun _ => rfl) (by decide) (hO.sees (i := 1) rfl) hc3
 rw [hxhc3] at hm
 have hm : some [] = some R := by first | exact hm | (rw [hxhc3]; exact hm) | simpa [hxhc3] using hm
 refine zmS hf rfl hc3 ?_
 refine S.co tb ?_ hf hO hm
 refine nl 107 2 ?_
 refine re_ rfl fun a w hf hO hm => ?_
 obtain rfl := Option.some.inj hm
 exact zb Tryz.results190 hf (.tmp rfl .nil) ⟨none, 0, rfl, (hO.sub (.cons_cons _ (.cons _ (.cons _ .slnil))))⟩
 refine zmT hf rfl hc3 ?_
 refine S.co tb ?_ hf hO hm
 refine rw_ rfl fun a w hf hO hm => ?_
 refine zu (vs := []) (cs := []) (e := 107) (sz := 2) hf rfl rfl (fun w => by kernel_rfl) rfl rfl hO fun a b6 w hf hO => ?_
 refine S.op tb ?_ hf hO hm
 refine rw_ rfl fun a w hf hO hm => ?_
 obtain ⟨hg9, hm⟩ := og hm
 refine zfB zlk (enc := za) (xs := []) (ys := x_s) (i := 0) (fun _ => rfl) rfl (hO.sees (i := 2) rfl) (by simp [za, Value.oneCell']) hg9 hf rfl rfl rfl hO fun a p7 c8 w hf hO => ?_
 refine S.op tb ?_ hf hO hm
 refine re_ rfl fun a w hf hO hm => ?_
 obtain rfl := Option.some.inj hm
 exact zb Tryz.results190 hf (.tmp rfl .nil) ⟨p7, c8, rfl, (hO.sub (.cons_cons _ (.cons _ (.cons _ .slnil))))⟩

theorem zje (x_l : List api_Field) (R : bag_Bag) (w0 : World) (hG : zt w0) {x_l_p0 : Option Addr} {x_l_c0 : Nat} (hs0 : zw w0 x_l_p0 (cells za x_l)) (hc0 : x_l.length ≤ x_l_c0) (hm : zjI x_l = some R) :
    Calls Tryz.prog 139 #[.slice x_l_p0 x_l.length x_l_c0] w0 fun e w' => ∃ (b0 : Nat) (p1 : Option Addr) (c1 : Nat), e = .returned (ptr b0 0) ∧ Dk.Own w0 [] w' [.blk b0 [.slice p1 R.f_l.length c1] 272, .row (.slice p1 R.f_l.length c1) 107 2 R.f_l.length (cells za R.f_l)] := by
 rw [zjI] at hm
 have hF : zo [] := zf
 have hO : Dk.Own w0 [] w0 [] := Dk.Own.refl w0
 have hO := hO.addShr hs0 (by simp [Res.shared])
 refine S.enter tb Tryz.func139 rfl Tryz.ntmps139 rfl ?_ hO hm
 refine rw_ rfl fun a w hf hO hm => ?_
 obtain ⟨r2, hr2, hm⟩ := ob hm
 refine zg (zi c_190 hf (vs := [.slice x_l_p0 x_l.length x_l_c0]) rfl) rfl hf rfl rfl (zaP x_l r2 _ (hG.own hF hO) (hO.sees (i := 0) rfl) hc0 hr2) ?_
 rintro e w' ⟨p3, c4, he, hO'⟩
 refine ⟨_, he, fun a hf => ?_⟩
 have hO := hO.call hO' (by simp [Res.shared])
 refine S.op tb ?_ hf hO hm
 refine vl rfl rfl (fun a w hf hO => zl (vs := [(0, .slice p3 r2.length c4)]) (v := .agg #[.slice p3 r2.length c4]) hf rfl (by kernel_rfl)) ?_
 refine bo rfl fun b5 => ?_
 refine re_ rfl fun a w hf hO hm => ?_
 obtain rfl := Option.some.inj hm
 exact zb Tryz.results139 hf (.tmp rfl .nil) ⟨b5, p3, c4, rfl, (hO.sub (.cons_cons _ (.cons_cons _ (.cons _ .slnil))))⟩

theorem zj8 (x_b : bag_Bag) (R : List api_Field) (w0 : World) (hG : zt w0) {x_b_b0 : Nat} {x_b_p1 : Option Addr} {x_b_c1 : Nat} (hs0 : zw w0 (some ⟨x_b_b0, 0, none⟩) [.slice x_b_p1 x_b.f_l.length x_b_c1]) (hs1 : zw w0 x_b_p1 (cells za x_b.f_l)) (hc1 : x_b.f_l.length ≤ x_b_c1) (hm : zgP x_b = some R) :
    Calls Tryz.prog 191 #[ptr x_b_b0 0] w0 fun e w' => ∃ (p0 : Option Addr) (c0 : Nat), e = .returned (.slice p0 R.length c0) ∧ Dk.Own w0 [] w' [.row (.slice p0 R.length c0) 107 2 R.length (cells za R)] := by
 rw [zgP] at hm
 have hF : zo [] := zf
 have hO : Dk.Own w0 [] w0 [] := Dk.Own.refl w0
 have hO := hO.addShr hs0 (by simp [Res.shared])
 have hO := hO.addShr hs1 (by simp [Res.shared])
 refine S.enter tb Tryz.func191 rfl Tryz.ntmps191 rfl ?_ hO hm
 refine nl 107 2 ?_
 refine vl rfl rfl (fun a w hf hO => zZ Tryz.underlying217 hf rfl rfl) ?_
 refine kn (b' := false) rfl rfl ?_
 refine ld 2 rfl rfl ?_
 refine rw_ rfl fun a w hf hO hm => ?_
 obtain ⟨r4, hr4, hm⟩ := ob hm
 refine zg (zi c_190 hf (vs := [.slice x_b_p1 x_b.f_l.length x_b_c1]) rfl) rfl hf rfl rfl (zaP x_b.f_l r4 _ (hG.own hF hO) (hO.sees (i := 1) rfl) hc1 hr4) ?_
 rintro e w' ⟨p5, c6, he, hO'⟩
 refine ⟨_, he, fun a hf => ?_⟩
 have hO := hO.call hO' (by simp [Res.shared])
 refine S.op tb ?_ hf hO hm
 refine re_ rfl fun a w hf hO hm => ?_
 obtain rfl := Option.some.inj hm
 exact zb Tryz.results191 hf (.tmp rfl .nil) ⟨p5, c6, rfl, (hO.sub (.cons_cons _ (.cons _ (.cons _ (.cons _ .slnil)))))⟩

theorem ziJ (x_a : Str) (x_b : Str) (R : Bool) (w0 : World) (hG : zt w0) (hm : zgQ x_a x_b = some R) :
    Calls Tryz.prog 192 #[str x_a, str x_b] w0 (Ret w0 (fun R => .bool R) R) := by
 rw [zgQ] at hm
 have hF : zo [] := zf
 have hO : Dk.Own w0 [] w0 [] := Dk.Own.refl w0
 refine S.enter tb Tryz.func192 rfl Tryz.ntmps192 rfl ?_ hO hm
 refine cl znP rfl (fun r2 w hr2 hO => zgy x_a r2 _ (hG.own hF hO) hr2) fun r2 hr2 => ?_
 refine cl znP rfl (fun r3 w hr3 hO => zgy x_b r3 _ (hG.own hF hO) hr3) fun r3 hr3 => ?_
 exact rt Tryz.results192 rfl

theorem zeE (x_b : bag_Bag) (x_name : Str) (R : List Str) (w0 : World) (hG : zt w0) {x_b_b0 : Nat} {x_b_p1 : Option Addr} {x_b_c1 : Nat} (hs0 : zw w0 (some ⟨x_b_b0, 0, none⟩) [.slice x_b_p1 x_b.f_l.length x_b_c1]) (hs1 : zw w0 x_b_p1 (cells za x_b.f_l)) (hc1 : x_b.f_l.length ≤ x_b_c1) (hm : zcU x_b x_name = some R) :
    Calls Tryz.prog 140 #[ptr x_b_b0 0, str x_name] w0 fun e w' => ∃ (p0 : Option Addr) (c0 : Nat), e = .returned (.slice p0 R.length c0) ∧ Dk.Own w0 [] w' [.row (.slice p0 R.length c0) 9 1 R.length (cells zh R)] := by
 rw [zcU] at hm
 have hF : zo [] := zf
 have hO : Dk.Own w0 [] w0 [] := Dk.Own.refl w0
 have hO := hO.addShr hs0 (by simp [Res.shared])
 have hO := hO.addShr hs1 (by simp [Res.shared])
 refine S.enter tb Tryz.func140 rfl Tryz.ntmps140 rfl ?_ hO hm
 refine nl 9 1 ?_
 refine nl 9 1 ?_
 refine rw_ rfl fun a w hf hO hm => ?_
 obtain ⟨r3, hr3, hm⟩ := ob hm
 refine zg (zi c_191 hf (vs := [ptr x_b_b0 0]) rfl) rfl hf rfl rfl (zj8 x_b r3 _ (hG.own hF hO) (hO.sees (i := 3) rfl) (hO.sees (i := 2) rfl) hc1 hr3) ?_
 rintro e w' ⟨p4, c5, he, hO'⟩
 refine ⟨_, he, fun a hf => ?_⟩
 have hO := hO.call hO' (by simp [Res.shared])
 refine S.op tb ?_ hf hO hm
 refine ch [1, 0, 2, 3, 4] rfl rfl ?_
 refine lv [1, 9, 10] [1, 2, 3, 4] (fun J E L k => ∃ (p7 : Option Addr) (c8 : Nat) (l9 : List Str) (i10 : Int), J ((5, .slice p7 l9.length c8) :: (11, int i10) :: E) (.row (.slice p7 l9.length c8) 9 1 l9.length (cells zh l9) :: L) (zaj x_name r3 k l9 i10)) rfl (fun _ _ j => ⟨none, 0, [], 0, j rfl⟩) ?_
 rintro n1 a w ⟨p7, c8, l9, i10, hf, hO, hm⟩
 obtain _ | n1 := n1
 rw [zaj] at hm
 cases hm
 rw [zaj] at hm
 refine S.co tb ?_ hf hO hm
 refine br rfl (fun hc12 => ?_) fun hc12 => ?_
 refine jv 3 [1, 9, 10, 11] [1, 2, 3, 4] (fun J E L => ∃ (p26 : Option Addr) (c27 : Nat) (l28 : List Str), J ((5, .slice p26 l28.length c27) :: E) (.row (.slice p26 l28.length c27) 9 1 l28.length (cells zh l28) :: L) (zcG (zaj x_name r3 n1) i10 l28)) rfl ?_ ?_
 refine rw_ rfl fun a w hf hO hm => ?_
 obtain ⟨x14, hx14, hm⟩ := ob hm
 obtain ⟨b15, o16, hix14, hSx14, hAx14⟩ := zdY (enc := za) (sz := 2) (xs := r3) 29 Tryz.underlying29 za7 (by decide) (fun _ => rfl) hO (i := 1) rfl hx14
 refine zaS (zy hix14 hf rfl rfl) rfl hf rfl rfl fun a hf => ?_
 refine S.op tb ?_ hf hO hm
 refine vl rfl rfl (fun a w hf hO => zaO (o := 0) (vs := [str x14.Name, str x14.Value]) zcK za7 (hSx14 _ (hO.rowSees (i := 1) rfl)) rfl rfl hf rfl) ?_
 refine al zid rfl fun b17 => ?_
 refine st 0 rfl rfl ?_
 refine ld 0 rfl rfl ?_
 refine cl c_192 rfl (fun r19 w hr19 hO => ziJ x14.Name x_name r19 _ (hG.own hF hO) hr19) fun r19 hr19 => ?_
 refine br rfl (fun hc21 => ?_) fun hc21 => ?_
 refine ld 0 rfl rfl ?_
 refine rw_ rfl fun a w hf hO hm => ?_
 refine zu (vs := [(0, str x14.Value)]) (cs := [str x14.Value]) (e := 9) (sz := 1) hf rfl rfl (fun w => by kernel_rfl) rfl rfl hO fun a b22 w hf hO => ?_
 refine S.op tb ?_ hf hO hm
 refine rw_ rfl fun a w hf hO hm => ?_
 obtain ⟨hg25, hm⟩ := og hm
 refine zbz zjp (enc := zh) (xs := l9) (ys := ([x14.Value] : List Str)) (i := 2) (fun _ => rfl) rfl (hO.rowSees (i := 0) rfl) (by simp [cells, zh, Value.oneCell']) hg25 hf rfl rfl rfl hO fun a p23 c24 w hf hO => ?_
 refine S.op tb ?_ hf hO hm
 exact ec [2, 3, 4, 5, 6] rfl rfl rfl fun _ _ j => ⟨p23, c24, l9 ++ ([x14.Value] : List Str), j rfl⟩
 exact ec [1, 2, 3, 4, 5] rfl rfl rfl fun _ _ j => ⟨p7, c8, l9, j rfl⟩
 rintro a w ⟨p26, c27, l28, hf, hO, hm⟩
 rw [zcG] at hm
 refine S.co tb ?_ hf hO hm
 refine bi rfl fun i29 hi29 => ?_
 exact en rfl fun _ _ j => ⟨_, Nat.lt_succ_self _, p26, c27, l28, i29, j rfl⟩
 refine re_ rfl fun a w hf hO hm => ?_
 obtain rfl := Option.some.inj hm
 exact zb Tryz.results140 hf (.tmp rfl .nil) ⟨p7, c8, rfl, (hO.sub (.cons_cons _ (.cons _ (.cons _ (.cons _ (.cons _ .slnil))))))⟩

theorem zk1 (x_h : api_Head) (R : Bool) (w0 : World) (hG : zH w0) {x_h_p0 : Option Addr} {x_h_c0 : Nat} (hs0 : zw w0 x_h_p0 (cells za x_h.Fields)) (hc0 : x_h.Fields.length ≤ x_h_c0) (hm : ziq x_h = some R) :
    Calls Tryz.prog 98 #[.agg #[int x_h.Kind, str x_h.Method, str x_h.Target, int x_h.Code, str x_h.Reason, int x_h.Minor, .slice x_h_p0 x_h.Fields.length x_h_c0]] w0 (Ret w0 (fun R => .bool R) R) := by
 rw [ziq] at hm
 have hF : zo [] := zf
 have hO : Dk.Own w0 [] w0 [] := Dk.Own.refl w0
 have hO := hO.addShr hs0 (by simp [Res.shared])
 refine S.enter tb Tryz.func98 rfl Tryz.ntmps98 rfl ?_ hO hm
 refine bo rfl fun b1 => ?_
 refine ld 0 rfl rfl ?_
 refine br rfl (fun hc4 => ?_) fun hc4 => ?_
 exact rt Tryz.results98 rfl
 refine ld 0 rfl rfl ?_
 refine rw_ rfl fun a w hf hO hm => ?_
 obtain ⟨r7, hr7, hm⟩ := ob hm
 refine zg (zi c_139 hf (vs := [.slice x_h_p0 x_h.Fields.length x_h_c0]) rfl) rfl hf rfl rfl (zje x_h.Fields r7 _ (hG.own hF hO).1 (hO.sees (i := 1) rfl) hc0 hr7) ?_
 rintro e w' ⟨b8, p9, c10, he, hO'⟩
 refine ⟨_, he, fun a hf => ?_⟩
 have hO := hO.call hO' (by simp [Res.shared])
 refine S.op tb ?_ hf hO hm
 refine rw_ rfl fun a w hf hO hm => ?_
 obtain ⟨r11, hr11, hm⟩ := ob hm
 refine zg (zi znM hf (vs := [ptr b8 0, str [72, 111, 115, 116]]) rfl) rfl hf rfl rfl (zeE r7 [72, 111, 115, 116] r11 _ (hG.own hF hO).1 (hO.blkSees (i := 0) rfl) (hO.rowSees (i := 1) rfl) (hO.rowCap (i := 1) rfl) hr11) ?_
 rintro e w' ⟨p12, c13, he, hO'⟩
 refine ⟨_, he, fun a hf => ?_⟩
 have hO := hO.call hO' (by simp [Res.shared])
 refine S.op tb ?_ hf hO hm
 refine jv 1 [3] [0, 1, 2, 3, 4] (fun J E L => ∃ (t16 : Bool), J ((24, .bool t16) :: E) (L) (ze1 r11 t16)) rfl ?_ ?_
 refine br rfl (fun hc15 => ?_) fun hc15 => ?_
 exact en rfl fun _ _ j => ⟨true, j rfl⟩
 refine ld 3 rfl rfl ?_
 exact en rfl fun _ _ j => ⟨decide ((r11.length : Int) < x_h.Minor), j rfl⟩
 rintro a w ⟨t16, hf, hO, hm⟩
 rw [ze1] at hm
 refine S.co tb ?_ hf hO hm
 refine br rfl (fun hc17 => ?_) fun hc17 => ?_
 exact rt Tryz.results98 rfl
 refine lv [25, 26] [0, 1, 2, 3, 4] (fun J E L k => ∃ (i21 : Int), J ((27, int i21) :: E) (L) (zbA r11 k i21)) rfl (fun _ _ j => ⟨0, j rfl⟩) ?_
 rintro n2 a w ⟨i21, hf, hO, hm⟩
 obtain _ | n2 := n2
 rw [zbA] at hm
 cases hm
 rw [zbA] at hm
 refine S.co tb ?_ hf hO hm
 refine br rfl (fun hc23 => ?_) fun hc23 => ?_
 refine rw_ rfl fun a w hf hO hm => ?_
 obtain ⟨x25, hx25, hm⟩ := ob hm
 obtain ⟨b26, o27, hix25, hSx25, hAx25⟩ := zdY (enc := zh) (sz := 1) (xs := r11) 61 Tryz.underlying61 zhS (by decide) (fun _ => rfl) hO (i := 0) rfl hx25
 refine zaS (zy hix25 hf rfl rfl) rfl hf rfl rfl fun a hf => ?_
 refine S.op tb ?_ hf hO hm
 refine vl rfl rfl (fun a w hf hO => zk (o := 0) zbC (hSx25 _ (hO.rowSees (i := 0) rfl)) rfl hf rfl) ?_
 refine cl znN rfl (fun r29 w hr29 hO => zeC x25 r29 _ (hG.own hF hO) hr29) fun r29 hr29 => ?_
 refine al zhb rfl fun b30 => ?_
 refine st 0 rfl rfl ?_
 refine jv 5 [25, 26, 27] [0, 1, 2, 3, 4, 5] (fun J E L => ∃ (t33 : Bool), J ((41, .bool t33) :: E) (L) (ze0 (zbA r11 n2) i21 t33)) rfl ?_ ?_
 refine br rfl (fun hc32 => ?_) fun hc32 => ?_
 exact en rfl fun _ _ j => ⟨!(x25 == []), j rfl⟩
 exact en rfl fun _ _ j => ⟨false, j rfl⟩
 rintro a w ⟨t33, hf, hO, hm⟩
 rw [ze0] at hm
 refine S.co tb ?_ hf hO hm
 refine br rfl (fun hc34 => ?_) fun hc34 => ?_
 exact rt Tryz.results98 rfl
 refine bi rfl fun i37 hi37 => ?_
 exact ec [1, 2, 3, 4, 5] rfl rfl rfl fun _ _ j => ⟨_, Nat.lt_succ_self _, i37, j rfl⟩
 exact rt Tryz.results98 rfl

theorem ziK (x_h : api_Head) (R : Int) (w0 : World) (hG : zH w0) {x_h_p0 : Option Addr} {x_h_c0 : Nat} (hs0 : zw w0 x_h_p0 (cells za x_h.Fields)) (hc0 : x_h.Fields.length ≤ x_h_c0) (hm : zgR x_h = some R) :
    Calls Tryz.prog 70 #[.agg #[int x_h.Kind, str x_h.Method, str x_h.Target, int x_h.Code, str x_h.Reason, int x_h.Minor, .slice x_h_p0 x_h.Fields.length x_h_c0]] w0 (Ret w0 (fun R => int R) R) := by
 rw [zgR] at hm
 have hF : zo [] := zf
 have hO : Dk.Own w0 [] w0 [] := Dk.Own.refl w0
 have hO := hO.addShr hs0 (by simp [Res.shared])
 refine S.enter tb Tryz.func70 rfl Tryz.ntmps70 rfl ?_ hO hm
 refine bo rfl fun b1 => ?_
 refine ld 0 rfl rfl ?_
 refine br rfl (fun hc4 => ?_) fun hc4 => ?_
 exact rt Tryz.results70 rfl
 refine ld 0 rfl rfl ?_
 refine cl c_98 rfl (fun r6 w hr6 hO => zk1 x_h r6 _ (hG.own hF hO) (hO.sees (i := 1) rfl) hc0 hr6) fun r6 hr6 => ?_
 refine br rfl (fun hc8 => ?_) fun hc8 => ?_
 exact rt Tryz.results70 rfl
 exact rt Tryz.results70 rfl

theorem ziL (x_h : api_Head) (R : Int) (w0 : World) (hG : zH w0) {x_h_p0 : Option Addr} {x_h_c0 : Nat} (hs0 : zw w0 x_h_p0 (cells za x_h.Fields)) (hc0 : x_h.Fields.length ≤ x_h_c0) (hm : zgS x_h = some R) :
    Calls Tryz.prog 38 #[.agg #[int x_h.Kind, str x_h.Method, str x_h.Target, int x_h.Code, str x_h.Reason, int x_h.Minor, .slice x_h_p0 x_h.Fields.length x_h_c0]] w0 (Ret w0 (fun R => int R) R) := by
 rw [zgS] at hm
 have hF : zo [] := zf
 have hO : Dk.Own w0 [] w0 [] := Dk.Own.refl w0
 have hO := hO.addShr hs0 (by simp [Res.shared])
 refine S.enter tb Tryz.func38 rfl Tryz.ntmps38 rfl ?_ hO hm
 refine bo rfl fun b1 => ?_
 refine ld 0 rfl rfl ?_
 refine cl c_58 rfl (fun r3 w hr3 hO => zgq x_h r3 _ (hG.own hF hO) (hO.sees (i := 1) rfl) hc0 hr3) fun r3 hr3 => ?_
 refine br rfl (fun hc6 => ?_) fun hc6 => ?_
 exact rt Tryz.results38 rfl
 refine ld 0 rfl rfl ?_
 refine lv [1, 17, 18] [0, 1] (fun J E L k => ∃ (i10 : Int), J ((19, int i10) :: E) (L) (zdy x_h k i10)) rfl (fun _ _ j => ⟨0, j rfl⟩) ?_
 rintro n1 a w ⟨i10, hf, hO, hm⟩
 obtain _ | n1 := n1
 rw [zdy] at hm
 cases hm
 rw [zdy] at hm
 refine S.co tb ?_ hf hO hm
 refine br rfl (fun hc12 => ?_) fun hc12 => ?_
 refine rw_ rfl fun a w hf hO hm => ?_
 obtain ⟨x14, hx14, hm⟩ := ob hm
 obtain ⟨b15, o16, hix14, hSx14⟩ := zd3 (enc := za) (sz := 2) (xs := x_h.Fields) 29 Tryz.underlying29 za7 (by decide) (fun _ => rfl) (hO.sees (i := 1) rfl) hx14
 refine zaS (zy hix14 hf rfl rfl) rfl hf rfl rfl fun a hf => ?_
 refine S.op tb ?_ hf hO hm
 refine vl rfl rfl (fun a w hf hO => zaO (o := 0) (vs := [str x14.Name, str x14.Value]) zcK za7 (hSx14 _ (hO.sees (i := 1) rfl)) rfl rfl hf rfl) ?_
 refine al zid rfl fun b17 => ?_
 refine st 0 rfl rfl ?_
 refine ld 0 rfl rfl ?_
 refine cl c_69 rfl (fun r19 w hr19 hO => zfT x14 r19 _ (hG.own hF hO).1 hr19) fun r19 hr19 => ?_
 refine br rfl (fun hc22 => ?_) fun hc22 => ?_
 exact rt Tryz.results38 rfl
 refine bi rfl fun i25 hi25 => ?_
 exact ec [1, 2] rfl rfl rfl fun _ _ j => ⟨_, Nat.lt_succ_self _, i25, j rfl⟩
 refine ld 0 rfl rfl ?_
 refine cl c_70 rfl (fun r27 w hr27 hO => ziK x_h r27 _ (hG.own hF hO) (hO.sees (i := 1) rfl) hc0 hr27) fun r27 hr27 => ?_
 exact rt Tryz.results38 rfl

theorem zey (x_p : commas_splitter) (x_at : Int) (R : commas_splitter) (w0 : World) (hG : zt w0) {x_p_b0 : Nat} {x_p_b1 : Nat} {x_p_p2 : Option Addr} {x_p_c2 : Nat} {F : List Nat} (hF : zo F) (hO : Dk.Own w0 F w0 [.blk x_p_b0 [ptr x_p_b1 0, .slice x_p_p2 x_p.f_out.length x_p_c2, int x_p.f_from, str x_p.f_s] 297, .blk x_p_b1 [str x_p.Scanner.f_s, int x_p.Scanner.f_at] 289, .row (.slice x_p_p2 x_p.f_out.length x_p_c2) 9 1 x_p.f_out.length (cells zh x_p.f_out)]) (hm : zbE x_p x_at = some R) :
    Calls Tryz.prog 234 #[ptr x_p_b0 0, int x_at] w0 fun e w' => ∃ (p0 : Option Addr) (c0 : Nat), e = .returned (.tuple #[]) ∧ Dk.Own w0 F w' [.blk x_p_b0 [ptr x_p_b1 0, .slice p0 R.f_out.length c0, int R.f_from, str R.f_s] 297, .blk x_p_b1 [str R.Scanner.f_s, int R.Scanner.f_at] 289, .row (.slice p0 R.f_out.length c0) 9 1 R.f_out.length (cells zh R.f_out)] := by
 rw [zbE] at hm
 refine S.enter tb Tryz.func234 rfl Tryz.ntmps234 rfl ?_ hO hm
 refine jv 0 [0] [1] (fun J E L => ∃ (p10 : Option Addr) (c11 : Nat) (l12 : List Str), J (E) (.blk x_p_b0 [ptr x_p_b1 0, .slice p10 l12.length c11, int x_p.f_from, str x_p.f_s] 297 :: .row (.slice p10 l12.length c11) 9 1 l12.length (cells zh l12) :: L) (zaV x_p l12)) rfl ?_ ?_
 refine rc_ rfl fun a w hf hO hm => ?_
 refine zbM (by kernel_rfl) (by kernel_rfl) hO ?_
 refine zm (fun w hO => zn hf rfl) rfl hf rfl rfl fun a hf => ?_
 refine zm (fun w hO => zp hf rfl) rfl hf rfl rfl fun a hf => ?_
 refine zm (fun w hO => zr zlw hf rfl) rfl hf rfl rfl fun a hf => ?_
 refine zm (fun w hO => zk (o := 3) zbC (hO.blkSees (i := 0) rfl) rfl hf rfl) rfl hf rfl rfl fun a hf => ?_
 refine zm (fun w hO => zn hf rfl) rfl hf rfl rfl fun a hf => ?_
 refine zm (fun w hO => zp hf rfl) rfl hf rfl rfl fun a hf => ?_
 refine zm (fun w hO => zr zlv hf rfl) rfl hf rfl rfl fun a hf => ?_
 refine zm (fun w hO => zk (o := 2) ze6 (hO.blkSees (i := 0) rfl) rfl hf rfl) rfl hf rfl rfl fun a hf => ?_
 refine zm (fun w hO => zn hf rfl) rfl hf rfl rfl fun a hf => ?_
 obtain ⟨s1, hs1, hm⟩ := ob hm
 refine zm (fun w hO => ziR (l := x_p.f_s) Tryz.underlying9 hf rfl rfl rfl hs1) rfl hf rfl rfl fun a hf => ?_
 obtain ⟨r2, hr2, hm⟩ := ob hm
 refine q_call (fun w hO => zi c_97 hf (vs := [str s1, str [32, 9]]) rfl) rfl hf rfl rfl (fun w hO => (zfD s1 [32, 9] r2 _ (hG.own hF hO) hr2).mono fun e w' ⟨he, hb⟩ => ⟨he, hO.grow hb⟩) fun a hf => ?_
 refine zm (fun w hO => zv hf rfl) rfl hf rfl rfl fun a hf => ?_
 refine wpQuiet_nil ?_
 intro w hO
 refine S.no tb ?_ hf hO hm
 refine br rfl (fun hc5 => ?_) fun hc5 => ?_
 refine ld 0 rfl rfl ?_
 refine rw_ rfl fun a w hf hO hm => ?_
 refine zu (vs := [(0, str r2)]) (cs := [str r2]) (e := 9) (sz := 1) hf rfl rfl (fun w => by kernel_rfl) rfl rfl hO fun a b6 w hf hO => ?_
 refine S.op tb ?_ hf hO hm
 refine rw_ rfl fun a w hf hO hm => ?_
 obtain ⟨hg9, hm⟩ := og hm
 refine zbz zjp (enc := zh) (xs := x_p.f_out) (ys := ([r2] : List Str)) (i := 3) (fun _ => rfl) rfl (hO.rowSees (i := 0) rfl) (by simp [cells, zh, Value.oneCell']) hg9 hf rfl rfl rfl hO fun a p7 c8 w hf hO => ?_
 refine S.op tb ?_ hf hO hm
 refine st 1 rfl rfl ?_
 exact ec [1, 3, 2] rfl rfl rfl fun _ _ j => ⟨p7, c8, x_p.f_out ++ ([r2] : List Str), j rfl⟩
 exact ec [0, 2, 1] rfl rfl rfl fun _ _ j => ⟨x_p_p2, x_p_c2, x_p.f_out, j rfl⟩
 rintro a w ⟨p10, c11, l12, hf, hO, hm⟩
 rw [zaV] at hm
 refine S.co tb ?_ hf hO hm
 refine ld 0 rfl rfl ?_
 refine cl zlz rfl (fun r13 w hr13 hO => zbr x_p.Scanner r13 _ (hG.own hF hO) (hO.blkSees (i := 2) rfl) hr13) fun r13 hr13 => ?_
 refine st 0 rfl rfl ?_
 refine rn_ rfl fun a w hf hO hm => ?_
 obtain rfl := Option.some.inj hm
 exact ziS Tryz.results234 hf .nil ⟨p10, c11, rfl, (hO.choose [0, 2, 1] rfl)⟩

end Go.Proofs
end
