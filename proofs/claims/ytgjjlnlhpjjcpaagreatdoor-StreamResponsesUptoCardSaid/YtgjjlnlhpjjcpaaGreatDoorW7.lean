/-
  Walks, written by a program (wip/gen): what its model says, the function returns; what was there before is as it was.
  Walks, written by a program (wip/gen): what its model says, the function returns; what was there before is as it was.
  Walks, written by a program (wip/gen): what its model says, the function returns; what was there before is as it was.
  Walks, written by a program (wip/gen): what its model says, the function returns; what was there before is as it was.
  Walks, written by a program (wip/gen): what its model says, the function returns; what was there before is as it was.

-/
import Derived.Test.YtgjjlnlhpjjcpaaGreatDoorLib
import Derived.Test.YtgjjlnlhpjjcpaaGreatDoorSq
section
set_option linter.unusedVariables false
set_option maxHeartbeats 1000000
set_option linter.unusedSimpArgs false
set_option maxRecDepth 100000
namespace Go.Proofs
open Go.Dk Go.Dm Go.RowKit
open Tryz (prog)
set_option maxHeartbeats 1000000

theorem zxn (x_kind : Int) (x_limit : Int) (R : Option accum_Accum × Int) (w0 : World) (hG : zo w0) (hm : zko x_kind x_limit = some R) :
    Calls prog 41 #[int x_kind,int x_limit] w0 fun e w' => ztB R.1 (e = .returned (.tuple #[.pointer none,int R.2]) ∧ Below w0.heap.size w0 w') (fun x => ∃ b0 p1 c1 p2 c2,e = .returned (.tuple #[ptr b0 0,int R.2]) ∧ Dk.Own w0 [] w' [.blk b0 (zli x p1 c1 p2 c2) 143, .row (.slice p1 x.f_buf.length c1) 5 1 x.f_buf.length (cells zi x.f_buf), .row (.slice p2 x.f_got.Fields.length c2) 110 2 x.f_got.Fields.length (cells zb x.f_got.Fields)]) := by
 rw [zko] at hm;refine S.ent0 tb Tryz.func41 rfl Tryz.ntmps41 rfl hm ?_;refine jv 1 [0,1] [] (fun J E L => ∃ t6,J ((19, .bool t6) :: E) (L) (zee x_kind x_limit t6)) rfl ?_ ?_;refine br0 rfl ?_ ?_;refine br0 rfl ?_ ?_;exact en0 rfl;refine br0 rfl ?_ ?_;exact en0 rfl;exact en0 rfl;refine br0 rfl ?_ ?_;exact en0 rfl;exact en0 rfl;refine oJ1 tb fun t6 => ?_;rw [zee];refine br0 rfl ?_ ?_;refine re_ rfl fun a w hf hO hm => ?_;cases hm;exact zfE Tryz.results41 hf (.tmp rfl (.tmp rfl .nil)) ⟨rfl,hO.below⟩
 refine bu0 (.agg #[int x_kind,int x_limit, .slice none 0 0,int 0, .bool false,int 0, .bool false,int 0,str [],str [],int 0,str [],int 0, .slice none 0 0]) rfl rfl <| bo rfl fun b10 => nl 5 1 <| nl 110 2 <| re_ rfl fun a w hf hO hm => ?_
 cases hm;exact zfE Tryz.results41 hf (.tmp rfl (.tmp rfl .nil)) ⟨b10,none,0,none,0,rfl,(hO.choose [2,1,0] rfl)⟩

theorem zpI (x_a : accum_Accum) (R : Bool) (w0 : World) (hG : zo w0) {x_a_b0 : Nat} {x_a_p1 : Option Addr} {x_a_c1 : Nat} {x_a_p2 : Option Addr} {x_a_c2 : Nat} (hs0 : zH w0 (some ⟨x_a_b0,0,none⟩) (yl4 x_a x_a_p1 x_a_c1 x_a_p2 x_a_c2)) (hs1 : zH w0 x_a_p1 (cells zi x_a.f_buf)) (hc1 : x_a.f_buf.length ≤ x_a_c1) (hs2 : zH w0 x_a_p2 (cells zb x_a.f_got.Fields)) (hc2 : x_a.f_got.Fields.length ≤ x_a_c2) (hm : zeQ x_a = some R) :
    Calls prog 111 #[ptr x_a_b0 0] w0 (Ret w0 (fun R => .bool R) R) := by
 rw [zeQ] at hm;have hO := Dk.Own.refl w0;have hO := hO.addS hs0;have hO := hO.addS hs1;have hO := hO.addS hs2;refine S.enter tb Tryz.func111 rfl Tryz.ntmps111 rfl ?_ hO hm
 refine ld 2 rfl rfl <| jv 0 [0,3] [0,1,2] (fun J E L => ∃ t8,J ((4, .bool t8) :: E) (L) (zb5 x_a t8)) rfl ?_ ?_
 refine br rfl (fun hc3 => ?_) fun hc3 => ?_
 refine ld 2 rfl rfl <| bi rfl fun i4 hi4 => rw_ rfl fun a w hf hO hm => ?_
 obtain ⟨x5,hx5,hm⟩ := ob hm;obtain ⟨b6,o7,hix5,hSx5⟩ := zgp (enc := zi) (sz := 1) (xs := x_a.f_buf) 141 Tryz.underlying141 sz_5 (by decide) (fun _ => rfl) (hO.sees (i := 1) rfl) hx5;refine zY (zg hix5 hf rfl rfl) rfl hf rfl rfl fun a hf => ?_;refine S.op tb ?_ hf hO hm;refine kn (b' := true) hc3 rfl ?_
 exact vl rfl rfl (fun a w hf hO => zh (o := 0) ag_5 (hSx5 _ (hO.sees (i := 1) rfl)) rfl hf rfl) <| vl rfl rfl (fun a w hf hO => zt (b := x5) (c := 13) hf rfl rfl) <| en0 rfl
 exact en0 rfl;refine oJ1 tb fun t8 => ?_;rw [zb5]
 refine ld 2 rfl rfl <| bi rfl fun i9 hi9 => rw_ rfl fun a w hf hO hm => ?_
 obtain ⟨x10,hx10,hm⟩ := ob hm;obtain ⟨b11,o12,hix10,hSx10⟩ := zgp (enc := zi) (sz := 1) (xs := x_a.f_buf) 141 Tryz.underlying141 sz_5 (by decide) (fun _ => rfl) (hO.sees (i := 1) rfl) hx10;refine zY (zg hix10 hf rfl rfl) rfl hf rfl rfl fun a hf => ?_;refine S.op tb ?_ hf hO hm
 exact vl rfl rfl (fun a w hf hO => zh (o := 0) ag_5 (hSx10 _ (hO.sees (i := 1) rfl)) rfl hf rfl) <| vl rfl rfl (fun a w hf hO => zt (b := x10) (c := 10) hf rfl rfl) <| vl rfl rfl (fun a w hf hO => zwt Tryz.underlying4 hf rfl rfl) <| rt Tryz.results111 rfl

theorem zi4 (x_s : Str) (x_chars : Str) (R : Bool) (w0 : World) (hG : zo w0) (hm : strings_ContainsAny x_s x_chars = some R) :
    Calls prog 116 #[str x_s,str x_chars] w0 (Ret w0 (fun R => .bool R) R) := by
 rw [strings_ContainsAny] at hm;refine S.ent0 tb Tryz.func116 rfl Tryz.ntmps116 rfl hm ?_;exact clg c_157 hG.o rfl (zku x_s x_chars) fun r2 hr2 => rt Tryz.results116 rfl

theorem zjY (x_s : Str) (x_c : UInt8) (R : Int) (w0 : World) (hG : zo w0) (hm : zbQ x_s x_c = some R) :
    Calls prog 207 #[str x_s,zao x_c] w0 (Ret w0 (fun R => int R) R) := by
 rw [zbQ] at hm;refine S.ent0 tb Tryz.func207 rfl Tryz.ntmps207 rfl hm ?_;refine bi rfl fun i2 hi2 => lw [0,1] [] (fun J E L k => ∃ i4,J ((5,int i4) :: E) (L) (zW x_s x_c k i4)) rfl ?_;refine lJ1 tb fun n1 i4 => ?_;rw [zW];refine br0 rfl ?_ ?_
 refine bi rfl fun b8 hb8 => vl rfl rfl (fun a w hf hO => zt (b := b8) (c := x_c) hf rfl rfl) <| br0 rfl ?_ ?_
 exact rt Tryz.results207 rfl;exact bi rfl fun i13 hi13 => el0 rfl;exact rt Tryz.results207 rfl

theorem zii (x_s : Str) (x_c : UInt8) (R : Int) (w0 : World) (hG : zo w0) (hm : zaR x_s x_c = some R) :
    Calls prog 159 #[str x_s,zao x_c] w0 (Ret w0 (fun R => int R) R) := by
 rw [zaR] at hm;refine S.ent0 tb Tryz.func159 rfl Tryz.ntmps159 rfl hm ?_;exact clg c_207 hG.o rfl (zjY x_s x_c) fun r2 hr2 => rt Tryz.results159 rfl

theorem zjq (x_s : Str) (R : scan_Scanner) (w0 : World) (hG : zo w0) (hm : ziE x_s = some R) :
    Calls prog 160 #[str x_s] w0 fun e w' => ∃ b0,e = .returned (ptr b0 0) ∧ Dk.Own w0 [] w' [.blk b0 [str R.f_s,int R.f_at] 277] := by
 rw [ziE] at hm;refine S.ent0 tb Tryz.func160 rfl Tryz.ntmps160 rfl hm ?_
 exact bu0 (.agg #[str x_s,int 0]) rfl rfl <| bo rfl fun b2 => rm0 Tryz.results160 [0] [] rfl

theorem zb9 (x_c : scan_Scanner) (R : Str) (w0 : World) (hG : zo w0) {x_c_b0 : Nat} (hs0 : zH w0 (some ⟨x_c_b0,0,none⟩) [str x_c.f_s,int x_c.f_at]) (hm : zX x_c = some R) :
    Calls prog 171 #[ptr x_c_b0 0] w0 (Ret w0 (fun R => str R) R) := by
 rw [zX] at hm;have hO := Dk.Own.refl w0;have hO := hO.addS hs0;refine S.enter tb Tryz.func171 rfl Tryz.ntmps171 rfl ?_ hO hm
 refine vl rfl rfl (fun a w hf hO => zc2 Tryz.underlying244 hf rfl rfl) <| kn (b' := false) rfl rfl <| rc_ rfl fun a w hf hO hm => ?_
 refine zbV (by kernel_rfl) (by kernel_rfl) hO ?_;refine zbn (τ := tb) rfl hf fun a hf => ?_;refine zac (fun w hO => zh (o := 0) zdp (hO.sees (i := 0) rfl) rfl hf rfl) rfl hf rfl rfl fun a hf => ?_;refine zbn (τ := tb) rfl hf fun a hf => ?_;refine zac (fun w hO => zh (o := 1) zkB (hO.sees (i := 0) rfl) rfl hf rfl) rfl hf rfl rfl fun a hf => ?_;obtain ⟨s4,hs4,hm⟩ := ob hm;refine zac (fun w hO => zi8 (l := x_c.f_s) Tryz.underlying9 hf rfl rfl hs4) rfl hf rfl rfl fun a hf => ?_;refine zbn (τ := tb) rfl hf fun a hf => ?_;refine wpQuiet_nil ?_;intro w hO;refine S.no tb ?_ hf hO hm;exact rt Tryz.results171 rfl

theorem zmg (x_s : Str) (x_prefix : Str) (R : Bool) (w0 : World) (hG : zo w0) (hm : stringslite_HasPrefix x_s x_prefix = some R) :
    Calls prog 263 #[str x_s,str x_prefix] w0 (Ret w0 (fun R => .bool R) R) := by
 rw [stringslite_HasPrefix] at hm;refine S.ent0 tb Tryz.func263 rfl Tryz.ntmps263 rfl hm ?_;refine jv 0 [] [] (fun J E L => ∃ t4,J ((4, .bool t4) :: E) (L) (zaL t4)) rfl ?_ ?_;refine br0 rfl ?_ ?_;exact bi rfl fun s3 hs3 => en0 rfl;exact en0 rfl;refine oJ1 tb fun t4 => ?_;rw [zaL];exact rt Tryz.results263 rfl

theorem zhq (x_s : Str) (x_prefix : Str) (R : Bool) (w0 : World) (hG : zo w0) (hm : strings_HasPrefix x_s x_prefix = some R) :
    Calls prog 242 #[str x_s,str x_prefix] w0 (Ret w0 (fun R => .bool R) R) := by
 rw [strings_HasPrefix] at hm;refine S.ent0 tb Tryz.func242 rfl Tryz.ntmps242 rfl hm ?_;exact clg c_263 hG.o rfl (zmg x_s x_prefix) fun r2 hr2 => rt Tryz.results242 rfl

theorem zoQ (x_c : scan_Scanner) (x_t : Str) (R : Bool × scan_Scanner) (w0 : World) (hG : zo w0) {x_c_b0 : Nat} {F : List Nat} (hF : zfF F) (hO : Dk.Own w0 F w0 [.blk x_c_b0 [str x_c.f_s,int x_c.f_at] 277]) (hm : zc4 x_c x_t = some R) :
    Calls prog 240 #[ptr x_c_b0 0,str x_t] w0 fun e w' => e = .returned (.bool R.1) ∧ Dk.Own w0 F w' [.blk x_c_b0 [str R.2.f_s,int R.2.f_at] 277] := by
 rw [zc4] at hm;refine S.enter tb Tryz.func240 rfl Tryz.ntmps240 rfl ?_ hO hm;refine cl zuM rfl (fun r2 w hr2 hO => zb9 x_c r2 _ (hG.own hF hO) (hO.blkSees (i := 0) rfl) hr2) fun r2 hr2 => clg zB6 (hG.own hF) rfl (zhq r2 x_t) fun r3 hr3 => br0 rfl ?_ ?_;exact rm0 Tryz.results240 [0] [] rfl
 exact vl rfl rfl (fun a w hf hO => zot Tryz.underlying244 hf rfl rfl) <| kn (b' := true) rfl rfl <| ld 0 rfl rfl <| bi rfl fun i9 hi9 => st 0 rfl rfl <| rm0 Tryz.results240 [0] [] rfl

theorem zdU (x_c : scan_Scanner) (R : Bool) (w0 : World) (hG : zo w0) {x_c_b0 : Nat} (hs0 : zH w0 (some ⟨x_c_b0,0,none⟩) [str x_c.f_s,int x_c.f_at]) (hm : zaM x_c = some R) :
    Calls prog 167 #[ptr x_c_b0 0] w0 (Ret w0 (fun R => .bool R) R) := by
 rw [zaM] at hm;have hO := Dk.Own.refl w0;have hO := hO.addS hs0;refine S.enter tb Tryz.func167 rfl Tryz.ntmps167 rfl ?_ hO hm;exact cl zuM rfl (fun r2 w hr2 hO => zb9 x_c r2 _ (hG.o hO) (hO.sees (i := 0) rfl) hr2) fun r2 hr2 => rt Tryz.results167 rfl

theorem zbg (x_c : scan_Scanner) (R : UInt8 × Bool) (w0 : World) (hG : zo w0) {x_c_b0 : Nat} (hs0 : zH w0 (some ⟨x_c_b0,0,none⟩) [str x_c.f_s,int x_c.f_at]) (hm : zE x_c = some R) :
    Calls prog 208 #[ptr x_c_b0 0] w0 (Ret w0 (fun R => .tuple #[zao R.1, .bool R.2]) R) := by
 rw [zE] at hm;have hO := Dk.Own.refl w0;have hO := hO.addS hs0;refine S.enter tb Tryz.func208 rfl Tryz.ntmps208 rfl ?_ hO hm;refine cl zwz rfl (fun r2 w hr2 hO => zdU x_c r2 _ (hG.o hO) (hO.sees (i := 0) rfl) hr2) fun r2 hr2 => br0 rfl ?_ ?_;exact rt Tryz.results208 rfl;refine rc_ rfl fun a w hf hO hm => ?_;refine zbV (by kernel_rfl) (by kernel_rfl) hO ?_;refine zbn (τ := tb) rfl hf fun a hf => ?_;refine zac (fun w hO => zh (o := 0) zdp (hO.sees (i := 0) rfl) rfl hf rfl) rfl hf rfl rfl fun a hf => ?_;refine zbn (τ := tb) rfl hf fun a hf => ?_;refine zac (fun w hO => zh (o := 1) zkB (hO.sees (i := 0) rfl) rfl hf rfl) rfl hf rfl rfl fun a hf => ?_;obtain ⟨b7,hb7,hm⟩ := ob hm;refine zac (fun w hO => zpX (l := x_c.f_s) Tryz.underlying9 hf rfl rfl hb7) rfl hf rfl rfl fun a hf => ?_;refine zbn (τ := tb) rfl hf fun a hf => ?_;refine wpQuiet_nil ?_;intro w hO;refine S.no tb ?_ hf hO hm;exact rt Tryz.results208 rfl

end Go.Proofs
end
section
set_option linter.unusedVariables false
set_option maxHeartbeats 1000000
set_option linter.unusedSimpArgs false
set_option maxRecDepth 100000
namespace Go.Proofs
open Go.Dk Go.Dm Go.RowKit
open Tryz (prog)
set_option maxHeartbeats 1000000

theorem zdg (x_b : UInt8) (R : Bool) (w0 : World) (hG : zo w0) (hm : zah x_b = some R) :
    Calls prog 169 #[zao x_b] w0 (Ret w0 (fun R => .bool R) R) := by
 rw [zah] at hm;refine S.ent0 tb Tryz.func169 rfl Tryz.ntmps169 rfl hm ?_;refine jv 0 [] [] (fun J E L => ∃ t3,J ((2, .bool t3) :: E) (L) (zg8 t3)) rfl ?_ ?_
 refine vl rfl rfl (fun a w hf hO => znu (b := x_b) (c := 48) hf rfl rfl) <| br0 rfl ?_ ?_
 exact vl rfl rfl (fun a w hf hO => zpW (b := x_b) (c := 57) hf rfl rfl) <| en0 rfl
 exact en0 rfl;refine oJ1 tb fun t3 => ?_;rw [zg8];exact rt Tryz.results169 rfl

theorem zs (x_c : scan_Scanner) (x_b : UInt8) (R : Bool × scan_Scanner) (w0 : World) (hG : zo w0) {x_c_b0 : Nat} {F : List Nat} (hF : zfF F) (hO : Dk.Own w0 F w0 [.blk x_c_b0 [str x_c.f_s,int x_c.f_at] 277]) (hm : zj x_c x_b = some R) :
    Calls prog 162 #[ptr x_c_b0 0,zao x_b] w0 fun e w' => e = .returned (.bool R.1) ∧ Dk.Own w0 F w' [.blk x_c_b0 [str R.2.f_s,int R.2.f_at] 277] := by
 rw [zj] at hm;refine S.enter tb Tryz.func162 rfl Tryz.ntmps162 rfl ?_ hO hm;refine cl zsH rfl (fun r2 w hr2 hO => zbg x_c r2 _ (hG.own hF hO) (hO.blkSees (i := 0) rfl) hr2) fun r2 hr2 => jv 1 [0] [0] (fun J E L => ∃ t5,J ((18, .bool t5) :: E) (L) (zcK x_c t5)) rfl ?_ ?_;refine br0 rfl ?_ ?_;exact en0 rfl
 exact vl rfl rfl (fun a w hf hO => zbd (b := r2.1) (c := x_b) hf rfl rfl) <| en0 rfl
 refine oJ1 tb fun t5 => ?_;rw [zcK];refine br0 rfl ?_ ?_;exact rm0 Tryz.results162 [0] [] rfl
 exact ld 0 rfl rfl <| bi rfl fun i9 hi9 => st 0 rfl rfl <| rm0 Tryz.results162 [0] [] rfl

theorem ziT (x_p : startline_line) (R : Int × Bool × scan_Scanner) (w0 : World) (hG : zo w0) {x_p_b0 : Nat} {F : List Nat} (hF : zfF F) (hO : Dk.Own w0 F w0 [.blk x_p_b0 [str x_p.Scanner.f_s,int x_p.Scanner.f_at] 277]) (hm : zbH x_p = some R) :
    Calls prog 241 #[.agg #[ptr x_p_b0 0]] w0 fun e w' => e = .returned (.tuple #[int R.1, .bool R.2.1]) ∧ Dk.Own w0 F w' [.blk x_p_b0 [str R.2.2.f_s,int R.2.2.f_at] 277] := by
 rw [zbH] at hm;refine S.enter tb Tryz.func241 rfl Tryz.ntmps241 rfl ?_ hO hm;refine bo rfl fun b1 => ld 0 rfl rfl ?_;refine cl zsH rfl (fun r3 w hr3 hO => zbg x_p.Scanner r3 _ (hG.own hF hO) (hO.blkSees (i := 1) rfl) hr3) fun r3 hr3 => jv 1 [1,4] [0,1] (fun J E L => ∃ t7,J ((18, .bool t7) :: E) (L) (zbG x_p r3 t7)) rfl ?_ ?_;refine br0 rfl ?_ ?_;exact en0 rfl;exact clg zsG (hG.own hF) rfl (zdg r3.1) fun r6 hr6 => en0 rfl;refine oJ1 tb fun t7 => ?_;rw [zbG];refine br0 rfl ?_ ?_;exact rm0 Tryz.results241 [1] [] rfl;refine ld 0 rfl rfl ?_
 exact cw0 ziZ [1,0] 1 [] rfl (fun r11 w hr11 hO hfar12 hlend12 => zs x_p.Scanner r3.1 r11 _ (hG.own hF hO) hfar12 hlend12 hr11) (fun _ _ => trivial) hF hG.size fun r11 hr11 => vl rfl rfl (fun a w hf hO => zsz (b := r3.1) (c := 48) hf rfl rfl) <| vl rfl rfl (fun a w hf hO => zqY Tryz.underlying3 Tryz.underlying5 (zsC _) hf (kd := .u8) rfl) <| rm0 Tryz.results241 [0] [] rfl

theorem zhM (x_p : startline_line) (R : Int × Int × Bool × scan_Scanner) (w0 : World) (hG : zo w0) {x_p_b0 : Nat} {F : List Nat} (hF : zfF F) (hO : Dk.Own w0 F w0 [.blk x_p_b0 [str x_p.Scanner.f_s,int x_p.Scanner.f_at] 277]) (hm : za6 x_p = some R) :
    Calls prog 206 #[.agg #[ptr x_p_b0 0]] w0 fun e w' => e = .returned (.tuple #[int R.1,int R.2.1, .bool R.2.2.1]) ∧ Dk.Own w0 F w' [.blk x_p_b0 [str R.2.2.2.f_s,int R.2.2.2.f_at] 277] := by
 rw [za6] at hm;refine S.enter tb Tryz.func206 rfl Tryz.ntmps206 rfl ?_ hO hm;refine bo rfl fun b1 => ld 0 rfl rfl ?_;refine cw0 c_240 [1,0] 1 [] rfl (fun r3 w hr3 hO hfar4 hlend4 => zoQ x_p.Scanner [72,84,84,80,47] r3 _ (hG.own hF hO) hfar4 hlend4 hr3) (fun _ _ => trivial) hF hG.size fun r3 hr3 => br0 rfl ?_ ?_;exact rm0 Tryz.results206 [0] [] rfl;refine ld 1 rfl rfl ?_;refine cw0 c_241 [0,1] 1 [] rfl (fun r9 w hr9 hO hfar10 hlend10 => ziT (⟨r3.2⟩ : startline_line) r9 _ (hG.own hF hO) hfar10 hlend10 hr9) (fun _ _ => trivial) hF hG.size fun r9 hr9 => ld 1 rfl rfl ?_;refine cw0 ziZ [0,1] 1 [] rfl (fun r12 w hr12 hO hfar13 hlend13 => zs r9.2.2 46 r12 _ (hG.own hF hO) hfar13 hlend13 hr12) (fun _ _ => trivial) hF hG.size fun r12 hr12 => ld 1 rfl rfl ?_;refine cw0 c_241 [0,1] 1 [] rfl (fun r15 w hr15 hO hfar16 hlend16 => ziT (⟨r12.2⟩ : startline_line) r15 _ (hG.own hF hO) hfar16 hlend16 hr15) (fun _ _ => trivial) hF hG.size fun r15 hr15 => jv 0 [] [0,1] (fun J E L => ∃ t20,J ((2,int r9.1) :: (3,int r15.1) :: (4, .bool t20) :: E) (L) (zbe r9 r15 t20)) rfl ?_ ?_;refine br0 rfl ?_ ?_;refine br0 rfl ?_ ?_;exact en0 rfl;exact en0 rfl;exact en0 rfl;refine oJ1 tb fun t20 => ?_;rw [zbe];exact rm0 Tryz.results206 [0] [] rfl

theorem zlp (x_s : Str) (R : Bool) (w0 : World) (hG : zo w0) (hm : zd2 x_s = some R) :
    Calls prog 158 #[str x_s] w0 (Ret w0 (fun R => .bool R) R) := by
 rw [zd2] at hm;refine S.ent0 tb Tryz.func158 rfl Tryz.ntmps158 rfl hm ?_
 refine cm1 zuL rfl (fun r2 w hr2 hO => zjq x_s r2 _ (hG.o hO) hr2) fun r2 hr2 b3 => bu0 (.agg #[ptr b3 0]) rfl rfl <| al zxT rfl fun b4 => st 0 rfl rfl <| ld 0 rfl rfl ?_
 refine cw0 c_206 [1,0] 1 [] rfl (fun r6 w hr6 hO hfar7 hlend7 => zhM (⟨r2⟩ : startline_line) r6 _ (hG.o hO) hfar7 hlend7 hr6) (fun _ _ => trivial) zad hG.size fun r6 hr6 => jv 0 [] [0,1] (fun J E L => ∃ t13,J ((2, .bool t13) :: E) (L) (zbC t13)) rfl ?_ ?_;refine br0 rfl ?_ ?_;refine ld 1 rfl rfl ?_;refine cl zwz rfl (fun r10 w hr10 hO => zdU r6.2.2.2 r10 _ (hG.o hO) (hO.blkSees (i := 0) rfl) hr10) fun r10 hr10 => br0 rfl ?_ ?_;refine br0 rfl ?_ ?_;exact en0 rfl;exact en0 rfl;exact en0 rfl;exact en0 rfl;refine oJ1 tb fun t13 => ?_;rw [zbC];exact rt Tryz.results158 rfl

theorem zes (x_c : scan_Scanner) (R : Int) (w0 : World) (hG : zo w0) {x_c_b0 : Nat} (hs0 : zH w0 (some ⟨x_c_b0,0,none⟩) [str x_c.f_s,int x_c.f_at]) (hm : zcb x_c = some R) :
    Calls prog 209 #[ptr x_c_b0 0] w0 (Ret w0 (fun R => int R) R) := by
 rw [zcb] at hm;have hO := Dk.Own.refl w0;have hO := hO.addS hs0;refine S.enter tb Tryz.func209 rfl Tryz.ntmps209 rfl ?_ hO hm
 exact vl rfl rfl (fun a w hf hO => zc2 Tryz.underlying244 hf rfl rfl) <| kn (b' := false) rfl rfl <| ld 0 rfl rfl <| rt Tryz.results209 rfl

theorem zc0 (x_c : scan_Scanner) (x_is : UInt8 → Option Bool) (R : Str × scan_Scanner) (w0 : World) (hG : zo w0) {x_c_b0 : Nat} {F : List Nat} (hF : zfF F) (hO : Dk.Own w0 F w0 [.blk x_c_b0 [str x_c.f_s,int x_c.f_at] 277]) {x_is_f : Nat} {x_is_p x_is_c : Array Value} (x_is_k : zc prog x_is_f) (x_is_h : ∀ (y0 : UInt8) (r : Bool) (w : World),zo w → x_is y0 = some r → Calls prog x_is_f (x_is_p ++ [zao y0].toArray ++ x_is_c) w fun e w' => e = .returned (.bool r) ∧ Below w.heap.size w w') (hm : zai x_c x_is = some R) :
    Calls prog 163 #[ptr x_c_b0 0, .func (.func x_is_f) x_is_p x_is_c] w0 fun e w' => e = .returned (str R.1) ∧ Dk.Own w0 F w' [.blk x_c_b0 [str R.2.f_s,int R.2.f_at] 277] := by
 rw [zai] at hm;refine S.enter tb Tryz.func163 rfl Tryz.ntmps163 rfl ?_ hO hm;refine cl zwB rfl (fun r2 w hr2 hO => zes x_c r2 _ (hG.own hF hO) (hO.blkSees (i := 0) rfl) hr2) fun r2 hr2 => jv 0 [0,5] [] (fun J E L => ∃ s14 i15,J (E) (.blk x_c_b0 [str s14,int i15] 277 :: L) (zci r2 s14 i15)) rfl ?_ ?_;refine lw [0,1,5] [] (fun J E L k => ∃ s4 i5,J (E) (.blk x_c_b0 [str s4,int i5] 277 :: L) (z7 x_is r2 k s4 i5)) rfl ?_;refine lJ2 tb fun n1 s4 i5 => ?_;rw [z7];refine cl zsH rfl (fun r6 w hr6 hO => zbg (⟨s4,i5⟩ : scan_Scanner) r6 _ (hG.own hF hO) (hO.blkSees (i := 0) rfl) hr6) fun r6 hr6 => jv 5 [0,1,5] [0] (fun J E L => ∃ t10,J ((22, .bool t10) :: E) (L) (zbo (z7 x_is r2 n1) r2 s4 i5 t10)) rfl ?_ ?_;refine br rfl (fun hc8 => ?_) fun hc8 => ?_;exact en0 rfl;refine rw_ rfl fun a w hf hO hm => ?_;obtain ⟨r9,hr9,hm⟩ := ob hm;refine oc (zwv x_is_k hf rfl (vs := [zao r6.1]) rfl) hf rfl (x_is_h r6.1 r9 _ (hG.own hF hO) hr9) hO fun a w' hf hO => ?_;refine S.op tb ?_ hf hO hm
 exact kn (b' := false) hc8 rfl <| en0 rfl
 refine oJ1 tb fun t10 => ?_;rw [zbo];refine br0 rfl ?_ ?_;exact en0 rfl
 exact ld 0 rfl rfl <| bi rfl fun i13 hi13 => st 0 rfl rfl <| el0 rfl
 refine oJ2 tb fun s14 i15 => ?_;rw [zci]
 refine vl rfl rfl (fun a w hf hO => zc2 Tryz.underlying244 hf rfl rfl) <| kn (b' := false) rfl rfl <| rc_ rfl fun a w hf hO hm => ?_
 refine zbV (by kernel_rfl) (by kernel_rfl) hO ?_;refine zbn (τ := tb) rfl hf fun a hf => ?_;refine zac (fun w hO => zh (o := 0) zdp (hO.blkSees (i := 0) rfl) rfl hf rfl) rfl hf rfl rfl fun a hf => ?_;refine zbn (τ := tb) rfl hf fun a hf => ?_;refine zac (fun w hO => zh (o := 1) zkB (hO.blkSees (i := 0) rfl) rfl hf rfl) rfl hf rfl rfl fun a hf => ?_;obtain ⟨s18,hs18,hm⟩ := ob hm;refine zac (fun w hO => zlS (l := s14) Tryz.underlying9 hf rfl rfl rfl hs18) rfl hf rfl rfl fun a hf => ?_;refine zbn (τ := tb) rfl hf fun a hf => ?_;refine wpQuiet_nil ?_;intro w hO;refine S.no tb ?_ hf hO hm;exact rm0 Tryz.results163 [0] [] rfl

theorem zf7 (x_b : UInt8) (R : UInt8) (w0 : World) (hG : zo w0) (hm : zbh x_b = some R) :
    Calls prog 213 #[zao x_b] w0 (Ret w0 (fun R => zao R) R) := by
 rw [zbh] at hm;refine S.ent0 tb Tryz.func213 rfl Tryz.ntmps213 rfl hm ?_;refine jv 1 [0] [] (fun J E L => ∃ t3,J ((8, .bool t3) :: E) (L) (ziF x_b t3)) rfl ?_ ?_
 refine vl rfl rfl (fun a w hf hO => znu (b := x_b) (c := 65) hf rfl rfl) <| br0 rfl ?_ ?_
 exact vl rfl rfl (fun a w hf hO => zpW (b := x_b) (c := 90) hf rfl rfl) <| en0 rfl
 exact en0 rfl;refine oJ1 tb fun t3 => ?_;rw [ziF];refine br0 rfl ?_ ?_
 exact vl rfl rfl (fun a w hf hO => zAw (b := x_b) (c := 32) hf rfl rfl) <| rt Tryz.results213 rfl
 exact rt Tryz.results213 rfl

theorem zna (x_b : UInt8) (R : Bool) (w0 : World) (hG : zo w0) (hm : zjx x_b = some R) :
    Calls prog 174 #[zao x_b] w0 (Ret w0 (fun R => .bool R) R) := by
 rw [zjx] at hm;refine S.ent0 tb Tryz.func174 rfl Tryz.ntmps174 rfl hm ?_;refine jv 0 [] [] (fun J E L => ∃ t5,J ((2, .bool t5) :: E) (L) (zg9 t5)) rfl ?_ ?_
 refine clg zwC hG.o rfl (zf7 x_b) fun r2 hr2 => vl rfl rfl (fun a w hf hO => znu (b := r2) (c := 97) hf rfl rfl) <| br0 rfl ?_ ?_
 exact clg zwC hG.o rfl (zf7 x_b) fun r4 hr4 => vl rfl rfl (fun a w hf hO => zpW (b := r4) (c := 122) hf rfl rfl) <| en0 rfl
 exact en0 rfl;refine oJ1 tb fun t5 => ?_;rw [zg9];exact rt Tryz.results174 rfl

theorem zlq (x_b : UInt8) (x_l : Str) (R : Bool) (w0 : World) (hG : zo w0) (hm : zkp x_b x_l = some R) :
    Calls prog 175 #[zao x_b,str x_l] w0 (Ret w0 (fun R => .bool R) R) := by
 rw [zkp] at hm;refine S.ent0 tb Tryz.func175 rfl Tryz.ntmps175 rfl hm ?_;exact clg c_214 hG.o rfl (zka x_l x_b) fun r2 hr2 => rt Tryz.results175 rfl

theorem znb (x_b : UInt8) (R : Bool) (w0 : World) (hG : zo w0) (hm : zdr x_b = some R) :
    Calls prog 122 #[zao x_b] w0 (Ret w0 (fun R => .bool R) R) := by
 rw [zdr] at hm;refine S.ent0 tb Tryz.func122 rfl Tryz.ntmps122 rfl hm ?_;refine jv 0 [] [] (fun J E L => ∃ t7,J ((2, .bool t7) :: E) (L) (zeR t7)) rfl ?_ ?_;refine clg c_174 hG.o rfl (zna x_b) fun r2 hr2 => br0 rfl ?_ ?_;exact en0 rfl;refine clg zsG hG.o rfl (zdg x_b) fun r4 hr4 => br0 rfl ?_ ?_;exact en0 rfl;exact clg zyR hG.o rfl (zlq x_b [33,35,36,37,38,39,42,43,45,46,94,95,96,124,126]) fun r6 hr6 => en0 rfl;refine oJ1 tb fun t7 => ?_;rw [zeR];exact rt Tryz.results122 rfl

theorem zet (x_c : scan_Scanner) (R : Str × Bool × scan_Scanner) (w0 : World) (hG : zo w0) {x_c_b0 : Nat} {F : List Nat} (hF : zfF F) (hO : Dk.Own w0 F w0 [.blk x_c_b0 [str x_c.f_s,int x_c.f_at] 277]) (hm : zaU x_c = some R) :
    Calls prog 161 #[ptr x_c_b0 0] w0 fun e w' => e = .returned (.tuple #[str R.1, .bool R.2.1]) ∧ Dk.Own w0 F w' [.blk x_c_b0 [str R.2.2.f_s,int R.2.2.f_at] 277] := by
 rw [zaU] at hm;refine S.enter tb Tryz.func161 rfl Tryz.ntmps161 rfl ?_ hO hm;exact cw0 zwy [0] 1 [] rfl (fun r2 w hr2 hO hfar3 hlend3 => zc0 x_c zdr r2 _ (hG.own hF hO) hfar3 hlend3 c_122 (fun y0 r w hG h => zi9 (znb y0 r w hG h)) hr2) (fun _ _ => trivial) hF hG.size fun r2 hr2 => rm0 Tryz.results161 [0] [] rfl

end Go.Proofs
end
section
set_option linter.unusedVariables false
set_option maxHeartbeats 1000000
set_option linter.unusedSimpArgs false
set_option maxRecDepth 100000
namespace Go.Proofs
open Go.Dk Go.Dm Go.RowKit
open Tryz (prog)
set_option maxHeartbeats 1000000

theorem znk (x_b : UInt8) (R : Bool) (w0 : World) (hG : zo w0) (hm : zdk x_b = some R) :
    Calls prog 164 #[zao x_b] w0 (Ret w0 (fun R => .bool R) R) := by
 rw [zdk] at hm;refine S.ent0 tb Tryz.func164 rfl Tryz.ntmps164 rfl hm ?_
 exact vl rfl rfl (fun a w hf hO => zbd (b := x_b) (c := 32) hf rfl rfl) <| rt Tryz.results164 rfl

theorem ziU (x_p : startline_line) (R : Int × Bool × scan_Scanner) (w0 : World) (hG : zo w0) {x_p_b0 : Nat} {F : List Nat} (hF : zfF F) (hO : Dk.Own w0 F w0 [.blk x_p_b0 [str x_p.Scanner.f_s,int x_p.Scanner.f_at] 277]) (hm : zbJ x_p = some R) :
    Calls prog 165 #[.agg #[ptr x_p_b0 0]] w0 fun e w' => e = .returned (.tuple #[int R.1, .bool R.2.1]) ∧ Dk.Own w0 F w' [.blk x_p_b0 [str R.2.2.f_s,int R.2.2.f_at] 277] := by
 rw [zbJ] at hm;refine S.enter tb Tryz.func165 rfl Tryz.ntmps165 rfl ?_ hO hm;refine bo rfl fun b1 => ld 0 rfl rfl ?_;refine cw0 c_206 [1,0] 1 [] rfl (fun r3 w hr3 hO hfar4 hlend4 => zhM x_p r3 _ (hG.own hF hO) hfar4 hlend4 hr3) (fun _ _ => trivial) hF hG.size fun r3 hr3 => jv 0 [] [0,1] (fun J E L => ∃ t8,J ((2,int r3.2.1) :: (3, .bool t8) :: E) (L) (zbI r3 t8)) rfl ?_ ?_;refine br0 rfl ?_ ?_;refine br0 rfl ?_ ?_;exact en0 rfl;exact en0 rfl;exact en0 rfl;refine oJ1 tb fun t8 => ?_;rw [zbI];exact rm0 Tryz.results165 [0] [] rfl

theorem zg6 (x_is : UInt8 → Option Bool) (x_l : List Str) (R : Bool) (w0 : World) (hG : zo w0) {x_is_f : Nat} {x_is_p x_is_c : Array Value} (x_is_k : zc prog x_is_f) (x_is_h : ∀ (y0 : UInt8) (r : Bool) (w : World),zo w → x_is y0 = some r → Calls prog x_is_f (x_is_p ++ [zao y0].toArray ++ x_is_c) w fun e w' => e = .returned (.bool r) ∧ Below w.heap.size w w') {x_l_p0 : Option Addr} {x_l_c0 : Nat} (hs0 : zH w0 x_l_p0 (cells zd x_l)) (hc0 : x_l.length ≤ x_l_c0) (hm : zeS x_is x_l = some R) :
    Calls prog 86 #[.func (.func x_is_f) x_is_p x_is_c, .slice x_l_p0 x_l.length x_l_c0] w0 (Ret w0 (fun R => .bool R) R) := by
 rw [zeS] at hm;have hO := Dk.Own.refl w0;have hO := hO.addS hs0;refine S.enter tb Tryz.func86 rfl Tryz.ntmps86 rfl ?_ hO hm;refine lw [0,8,9] [0] (fun J E L k => ∃ i3,J ((10,int i3) :: E) (L) (zeg x_is x_l k i3)) rfl ?_;refine lJ1 tb fun n1 i3 => ?_;rw [zeg];refine br0 rfl ?_ ?_;refine rw_ rfl fun a w hf hO hm => ?_;obtain ⟨x7,hx7,hm⟩ := ob hm;obtain ⟨b8,o9,hix7,hSx7⟩ := zgp (enc := zd) (sz := 1) (xs := x_l) 30 Tryz.underlying30 zex (by decide) (fun _ => rfl) (hO.sees (i := 0) rfl) hx7;refine zY (zg hix7 hf rfl rfl) rfl hf rfl rfl fun a hf => ?_;refine S.op tb ?_ hf hO hm
 refine vl rfl rfl (fun a w hf hO => zh (o := 0) zdp (hSx7 _ (hO.sees (i := 0) rfl)) rfl hf rfl) <| lw [0,6,8,9,10,15] [0] (fun J E L k => ∃ i12,J ((16,int i12) :: E) (L) (zef (zeg x_is x_l n1) x_is i3 x7 k i12)) rfl ?_
 refine lJ1 tb fun n2 i12 => ?_;rw [zef];refine br0 rfl ?_ ?_;refine bi rfl fun b17 hb17 => rw_ rfl fun a w hf hO hm => ?_;obtain ⟨r18,hr18,hm⟩ := ob hm;refine oc (zwv x_is_k hf rfl (vs := [zao b17]) rfl) hf rfl (x_is_h b17 r18 _ (hG.o hO) hr18) hO fun a w' hf hO => ?_;refine S.op tb ?_ hf hO hm;refine br0 rfl ?_ ?_;exact rt Tryz.results86 rfl;exact bi rfl fun i23 hi23 => el0 rfl;exact bi rfl fun i25 hi25 => el0 rfl;exact rt Tryz.results86 rfl

theorem zr8 (x_b : UInt8) (R : Int) (w0 : World) (hG : zo w0) (hm : zhx x_b = some R) :
    Calls prog 245 #[zao x_b] w0 (Ret w0 (fun R => int R) R) := by
 rw [zhx] at hm;refine S.ent0 tb Tryz.func245 rfl Tryz.ntmps245 rfl hm ?_;refine clg zsG hG.o rfl (zdg x_b) fun r2 hr2 => br0 rfl ?_ ?_
 exact vl rfl rfl (fun a w hf hO => zsz (b := x_b) (c := 48) hf rfl rfl) <| vl rfl rfl (fun a w hf hO => zqY Tryz.underlying3 Tryz.underlying5 (zsC _) hf (kd := .u8) rfl) <| rt Tryz.results245 rfl
 exact clg zwC hG.o rfl (zf7 x_b) fun r7 hr7 => vl rfl rfl (fun a w hf hO => zsz (b := r7) (c := 97) hf rfl rfl) <| vl rfl rfl (fun a w hf hO => zqY Tryz.underlying3 Tryz.underlying5 (zsC _) hf (kd := .u8) rfl) <| bi rfl fun i8 hi8 => rt Tryz.results245 rfl

theorem zoa (x_s : Str) (x_base : Int) (x_most : Int) (x_is : UInt8 → Option Bool) (R : Int × Int) (w0 : World) (hG : zo w0) {x_is_f : Nat} {x_is_p x_is_c : Array Value} (x_is_k : zc prog x_is_f) (x_is_h : ∀ (y0 : UInt8) (r : Bool) (w : World),zo w → x_is y0 = some r → Calls prog x_is_f (x_is_p ++ [zao y0].toArray ++ x_is_c) w fun e w' => e = .returned (.bool r) ∧ Below w.heap.size w w') (hm : zha x_s x_base x_most x_is = some R) :
    Calls prog 212 #[str x_s,int x_base,int x_most, .func (.func x_is_f) x_is_p x_is_c] w0 (Ret w0 (fun R => .tuple #[int R.1,int R.2]) R) := by
 rw [zha] at hm;refine S.ent0 tb Tryz.func212 rfl Tryz.ntmps212 rfl hm ?_;refine jv 1 [0,1,2] [] (fun J E L => ∃ t5,J ((21, .bool t5) :: E) (L) (zd4 x_s x_base x_most t5)) rfl ?_ ?_;refine br rfl (fun hc2 => ?_) fun hc2 => ?_;exact en0 rfl;refine rw_ rfl fun a w hf hO hm => ?_;refine zn (vs := [(0,str x_s)]) (cs := [str x_s]) (e := 9) (sz := 1) hf rfl rfl (fun w => by kernel_rfl) rfl rfl hO fun a b3 w hf hO => ?_;refine S.op tb ?_ hf hO hm;refine kn (b' := false) hc2 rfl ?_;exact cl zxV rfl (fun r4 w hr4 hO => zg6 x_is ([x_s] : List Str) r4 _ (hG.o hO) x_is_k x_is_h (hO.rowSees (i := 0) rfl) (hO.rowCap (i := 0) rfl) hr4) fun r4 hr4 => ec0 [] rfl rfl rfl;refine oJ1 tb fun t5 => ?_;rw [zd4];refine br0 rfl ?_ ?_;exact rt Tryz.results212 rfl;refine lw [0,1,2,23] [] (fun J E L k => ∃ i11 i12,J ((10,int i11) :: (24,int i12) :: E) (L) (zbA x_s x_base x_most k i11 i12)) rfl ?_;refine lJ2 tb fun n2 i11 i12 => ?_;rw [zbA];refine br0 rfl ?_ ?_;refine bi rfl fun b17 hb17 => clg c_245 hG.o rfl (zr8 b17) fun r18 hr18 => jv 6 [0,1,2,10,12,23,24] [] (fun J E L => ∃ t23,J ((42, .bool t23) :: E) (L) (zd3 (zbA x_s x_base x_most n2) x_base i11 i12 r18 t23)) rfl ?_ ?_;refine br0 rfl ?_ ?_;exact en0 rfl;exact bi rfl fun i21 hi21 => bi rfl fun i22 hi22 => en0 rfl;refine oJ1 tb fun t23 => ?_;rw [zd3];refine br0 rfl ?_ ?_;exact rt Tryz.results212 rfl;exact bi rfl fun i27 hi27 => bi rfl fun i28 hi28 => bi rfl fun i30 hi30 => el0 rfl;exact rt Tryz.results212 rfl

theorem zgg (x_s : Str) (x_most : Int) (R : Int × Int) (w0 : World) (hG : zo w0) (hm : zcc x_s x_most = some R) :
    Calls prog 170 #[str x_s,int x_most] w0 (Ret w0 (fun R => .tuple #[int R.1,int R.2]) R) := by
 rw [zcc] at hm;refine S.ent0 tb Tryz.func170 rfl Tryz.ntmps170 rfl hm ?_;exact cl c_212 rfl (fun r2 w hr2 hO => zoa x_s 10 x_most zah r2 _ (hG.o hO) zsG (fun y0 r w hG h => zi9 (zdg y0 r w hG h)) hr2) fun r2 hr2 => rt Tryz.results170 rfl

theorem ztF (x_n : Int) (x_base : Int) (R : Str) (w0 : World) (hG : za2 w0) (hm : zkl x_n x_base = some R) :
    Calls prog 115 #[int x_n,int x_base] w0 (Ret w0 (fun R => str R) R) := by
 rw [zkl] at hm;refine S.ent0 tb Tryz.func115 rfl Tryz.ntmps115 rfl hm ?_;refine br0 rfl ?_ ?_;exact rt Tryz.results115 rfl;exact clg c_156 hG.o rfl (zoH x_n x_base) fun r6 hr6 => rt Tryz.results115 rfl

theorem ztG (x_n : Int) (R : Str) (w0 : World) (hG : za2 w0) (hm : ziG x_n = some R) :
    Calls prog 79 #[int x_n] w0 (Ret w0 (fun R => str R) R) := by
 rw [ziG] at hm;refine S.ent0 tb Tryz.func79 rfl Tryz.ntmps79 rfl hm ?_;exact clg c_115 hG.o rfl (ztF x_n 10) fun r2 hr2 => rt Tryz.results79 rfl

theorem zmh (x_s : Str) (x_most : Int) (R : Bool) (w0 : World) (hG : za2 w0) (hm : zdC x_s x_most = some R) :
    Calls prog 184 #[str x_s,int x_most] w0 (Ret w0 (fun R => .bool R) R) := by
 rw [zdC] at hm;refine S.ent0 tb Tryz.func184 rfl Tryz.ntmps184 rfl hm ?_;refine clg zyQ (fun h => (hG.o h).1) rfl (zgg x_s x_most) fun r2 hr2 => jv 0 [] [] (fun J E L => ∃ t6,J ((4, .bool t6) :: E) (L) (zc5 t6)) rfl ?_ ?_;refine br0 rfl ?_ ?_;exact clg c_79 hG.o rfl (ztG r2.1) fun r5 hr5 => en0 rfl;exact en0 rfl;refine oJ1 tb fun t6 => ?_;rw [zc5];exact rt Tryz.results184 rfl

theorem znc (x_s : Str) (R : Bool) (w0 : World) (hG : za2 w0) (hm : zfU x_s = some R) :
    Calls prog 219 #[str x_s] w0 fun e w' => e = .returned (.bool R) ∧ Below w0.heap.size w0 w' := by
  unfold zfU at hm
  split at hm
  · rename_i hs
    obtain ⟨bs,hbs,hm⟩ := ob hm;cases hm;exact zC1 (fun x => zdC x 255) (fun x b W hG h => zmh x 255 b W hG h) x_s hs bs hbs w0 hG
  · cases hm

theorem zhO (x_b : UInt8) (R : Bool) (w0 : World) (hG : zo w0) (hm : zaV x_b = some R) :
    Calls prog 266 #[zao x_b] w0 (Ret w0 (fun R => .bool R) R) := by
 rw [zaV] at hm;refine S.ent0 tb Tryz.func266 rfl Tryz.ntmps266 rfl hm ?_;refine jv 0 [] [] (fun J E L => ∃ t7,J ((2, .bool t7) :: E) (L) (zgs t7)) rfl ?_ ?_;refine clg zsG hG.o rfl (zdg x_b) fun r2 hr2 => br0 rfl ?_ ?_;exact en0 rfl
 refine clg zwC hG.o rfl (zf7 x_b) fun r4 hr4 => vl rfl rfl (fun a w hf hO => znu (b := r4) (c := 97) hf rfl rfl) <| br0 rfl ?_ ?_
 exact clg zwC hG.o rfl (zf7 x_b) fun r6 hr6 => vl rfl rfl (fun a w hf hO => zpW (b := r6) (c := 102) hf rfl rfl) <| en0 rfl
 exact en0 rfl;refine oJ1 tb fun t7 => ?_;rw [zgs];exact rt Tryz.results266 rfl

theorem ziV (x_s : Str) (x_last : Bool) (R : Int) (w0 : World) (hG : za2 w0) (hm : zdb x_s x_last = some R) :
    Calls prog 247 #[str x_s, .bool x_last] w0 (Ret w0 (fun R => int R) R) := by
 rw [zdb] at hm;refine S.ent0 tb Tryz.func247 rfl Tryz.ntmps247 rfl hm ?_;refine br0 rfl ?_ ?_;exact rt Tryz.results247 rfl;refine cm2 c_199 rfl (fun r6 w hr6 hO => zmX x_s [58] r6 _ (hG.o hO).1 hr6) fun r6 hr6 p7 c8 => lw [1,5,13,14] [0] (fun J E L k => ∃ i12 i13,J ((6,int i12) :: (15,int i13) :: E) (L) (zS x_last r6 k i12 i13)) rfl ?_;refine lJ2 tb fun n1 i12 i13 => ?_;rw [zS];refine br0 rfl ?_ ?_;refine jv 3 [1,5,13,14,15] [0] (fun J E L => ∃ i36,J ((6,int i36) :: E) (L) (zco (zS x_last r6 n1) i13 i36)) rfl ?_ ?_;refine rw_ rfl fun a w hf hO hm => ?_;obtain ⟨x17,hx17,hm⟩ := ob hm;obtain ⟨b18,o19,hix17,hSx17,hAx17⟩ := zG (enc := zd) (sz := 1) (xs := r6) 30 Tryz.underlying30 zex (by decide) (fun _ => rfl) hO (i := 0) rfl hx17;refine zY (zg hix17 hf rfl rfl) rfl hf rfl rfl fun a hf => ?_;refine S.op tb ?_ hf hO hm
 refine vl rfl rfl (fun a w hf hO => zh (o := 0) zdp (hSx17 _ (hO.rowSees (i := 0) rfl)) rfl hf rfl) <| jv 6 [1,5,6,8,13,14,15] [0] (fun J E L => ∃ t25,J ((20, .bool t25) :: E) (L) (zbE (zS x_last r6 n1) i12 i13 x17 t25)) rfl ?_ ?_
 refine br0 rfl ?_ ?_;refine bi rfl fun i22 hi22 => br0 rfl ?_ ?_;exact clg c_219 hG.o rfl (znc x17) fun r24 hr24 => en0 rfl;exact en0 rfl;exact en0 rfl;refine oJ1 tb fun t25 => ?_;rw [zbE];refine br0 rfl ?_ ?_;exact bi rfl fun i27 hi27 => en0 rfl;refine jv 6 [1,5,6,13,14,15] [0] (fun J E L => ∃ t32,J ((35, .bool t32) :: E) (L) (zbD (zS x_last r6 n1) i12 i13 t32)) rfl ?_ ?_;refine br0 rfl ?_ ?_;refine br rfl (fun hc29 => ?_) fun hc29 => ?_;refine rw_ rfl fun a w hf hO hm => ?_;refine zn (vs := [(0,str x17)]) (cs := [str x17]) (e := 9) (sz := 1) hf rfl rfl (fun w => by kernel_rfl) rfl rfl hO fun a b30 w hf hO => ?_;refine S.op tb ?_ hf hO hm;refine kn (b' := true) hc29 rfl ?_;exact cl zxV rfl (fun r31 w hr31 hO => zg6 zaV ([x17] : List Str) r31 _ (hG.o hO).1 zwD (fun y0 r w hG h => zi9 (zhO y0 r w hG h)) (hO.rowSees (i := 0) rfl) (hO.rowCap (i := 0) rfl) hr31) fun r31 hr31 => ec0 [1] rfl rfl rfl;exact en0 rfl;exact en0 rfl;refine oJ1 tb fun t32 => ?_;rw [zbD];refine br0 rfl ?_ ?_;exact bi rfl fun i34 hi34 => en0 rfl;exact rt Tryz.results247 rfl;refine oJ1 tb fun i36 => ?_;rw [zco];exact bi rfl fun i37 hi37 => el0 rfl;exact rt Tryz.results247 rfl

end Go.Proofs
end
section
set_option linter.unusedVariables false
set_option maxHeartbeats 1000000
set_option linter.unusedSimpArgs false
set_option maxRecDepth 100000
namespace Go.Proofs
open Go.Dk Go.Dm Go.RowKit
open Tryz (prog)
set_option maxHeartbeats 1000000

theorem zte (x_s : Str) (R : Bool) (w0 : World) (hG : za2 w0) (hm : zhb x_s = some R) :
    Calls prog 218 #[str x_s] w0 (Ret w0 (fun R => .bool R) R) := by
 rw [zhb] at hm;refine S.ent0 tb Tryz.func218 rfl Tryz.ntmps218 rfl hm ?_;refine clg zyP (fun h => (hG.o h).1) rfl (zjr x_s [58,58]) fun r2 hr2 => br0 rfl ?_ ?_;exact clg zB7 hG.o rfl (ziV x_s true) fun r6 hr6 => rt Tryz.results218 rfl;refine clg zB7 hG.o rfl (ziV r2.1 false) fun r9 hr9 => clg zB7 hG.o rfl (ziV r2.2.1 true) fun r10 hr10 => jv 0 [] [] (fun J E L => ∃ t15,J ((2, .bool t15) :: E) (L) (zcd t15)) rfl ?_ ?_;refine br0 rfl ?_ ?_;refine br0 rfl ?_ ?_;exact bi rfl fun i14 hi14 => en0 rfl;exact en0 rfl;exact en0 rfl;refine oJ1 tb fun t15 => ?_;rw [zcd];exact rt Tryz.results218 rfl

theorem zpv (x_s : Str) (R : Bool) (w0 : World) (hG : zo w0) (hm : zhc x_s = some R) :
    Calls prog 249 #[str x_s] w0 (Ret w0 (fun R => .bool R) R) := by
 rw [zhc] at hm;refine S.ent0 tb Tryz.func249 rfl Tryz.ntmps249 rfl hm ?_;refine jv 0 [] [] (fun J E L => ∃ t8,J ((2, .bool t8) :: E) (L) (zar t8)) rfl ?_ ?_;refine br0 rfl ?_ ?_
 refine bi rfl fun b3 hb3 => vl rfl rfl (fun a w hf hO => zt (b := b3) (c := 37) hf rfl rfl) <| br rfl (fun hc4 => ?_) fun hc4 => ?_
 refine bi rfl fun s5 hs5 => rw_ rfl fun a w hf hO hm => ?_;refine zn (vs := [(0,str s5)]) (cs := [str s5]) (e := 9) (sz := 1) hf rfl rfl (fun w => by kernel_rfl) rfl rfl hO fun a b6 w hf hO => ?_;refine S.op tb ?_ hf hO hm;refine kn (b' := true) hc4 rfl ?_;exact cl zxV rfl (fun r7 w hr7 hO => zg6 zaV ([s5] : List Str) r7 _ (hG.o hO) zwD (fun y0 r w hG h => zi9 (zhO y0 r w hG h)) (hO.rowSees (i := 0) rfl) (hO.rowCap (i := 0) rfl) hr7) fun r7 hr7 => ec0 [] rfl rfl rfl;exact en0 rfl;exact en0 rfl;refine oJ1 tb fun t8 => ?_;rw [zar];exact rt Tryz.results249 rfl

theorem zjI (x_b : UInt8) (R : Bool) (w0 : World) (hG : zo w0) (hm : zcp x_b = some R) :
    Calls prog 250 #[zao x_b] w0 (Ret w0 (fun R => .bool R) R) := by
 rw [zcp] at hm;refine S.ent0 tb Tryz.func250 rfl Tryz.ntmps250 rfl hm ?_;refine jv 0 [] [] (fun J E L => ∃ t7,J ((2, .bool t7) :: E) (L) (zcj t7)) rfl ?_ ?_;refine clg c_174 hG.o rfl (zna x_b) fun r2 hr2 => br0 rfl ?_ ?_;exact en0 rfl;refine clg zsG hG.o rfl (zdg x_b) fun r4 hr4 => br0 rfl ?_ ?_;exact en0 rfl;exact clg zyR hG.o rfl (zlq x_b [45,46,95,126]) fun r6 hr6 => en0 rfl;refine oJ1 tb fun t7 => ?_;rw [zcj];exact rt Tryz.results250 rfl

theorem zo3 (x_b : UInt8) (R : Bool) (w0 : World) (hG : zo w0) (hm : zh3 x_b = some R) :
    Calls prog 251 #[zao x_b] w0 (Ret w0 (fun R => .bool R) R) := by
 rw [zh3] at hm;refine S.ent0 tb Tryz.func251 rfl Tryz.ntmps251 rfl hm ?_;exact clg zyR hG.o rfl (zlq x_b [33,36,38,39,40,41,42,43,44,59,61]) fun r2 hr2 => rt Tryz.results251 rfl

theorem zr2 (x_s : Str) (R : Bool) (w0 : World) (hG : zo w0) (hm : zhy x_s = some R) :
    Calls prog 220 #[str x_s] w0 (Ret w0 (fun R => .bool R) R) := by
 rw [zhy] at hm;refine S.ent0 tb Tryz.func220 rfl Tryz.ntmps220 rfl hm ?_;refine br0 rfl ?_ ?_;exact rt Tryz.results220 rfl;refine lw [] [] (fun J E L k => ∃ s6,J ((0,str s6) :: E) (L) (za7 k s6)) rfl ?_;refine lJ1 tb fun n1 s6 => ?_;rw [za7];refine br0 rfl ?_ ?_;refine clg c_249 hG.o rfl (zpv s6) fun r10 hr10 => br0 rfl ?_ ?_;exact bi rfl fun s13 hs13 => el0 rfl;refine jv 5 [0] [] (fun J E L => ∃ t19,J ((12, .bool t19) :: E) (L) (zeT (za7 n1) s6 t19)) rfl ?_ ?_;refine bi rfl fun b14 hb14 => clg c_250 hG.o rfl (zjI b14) fun r15 hr15 => br0 rfl ?_ ?_;exact en0 rfl;exact bi rfl fun b17 hb17 => clg c_251 hG.o rfl (zo3 b17) fun r18 hr18 => en0 rfl;refine oJ1 tb fun t19 => ?_;rw [zeT];refine br0 rfl ?_ ?_;exact bi rfl fun s21 hs21 => el0 rfl;exact rt Tryz.results220 rfl;exact rt Tryz.results220 rfl

theorem zo4 (x_s : Str) (R : api_Host × Bool) (w0 : World) (hG : za2 w0) (hm : zh4 x_s = some R) :
    Calls prog 183 #[str x_s] w0 (Ret w0 (fun R => .tuple #[(yv6 R.1), .bool R.2]) R) := by
 rw [zh4] at hm;refine S.ent0 tb Tryz.func183 rfl Tryz.ntmps183 rfl hm ?_
 refine al zit rfl fun b1 => bu0 (.agg #[int 0,str x_s,int (-1)]) rfl rfl <| al zit rfl fun b3 => st 0 rfl rfl <| jv 0 [2,4] [1] (fun J E L => ∃ i24 s25,J (E) (.blk b3 [int i24,str s25,int (-1)] 175 :: L) (zdD i24 s25)) rfl ?_ ?_
 refine jv 2 [0,2,4] [0,1] (fun J E L => ∃ t14,J ((7, .bool t14) :: E) (L) (zcL x_s t14)) rfl ?_ ?_;refine br0 rfl ?_ ?_
 refine bi rfl fun b6 hb6 => vl rfl rfl (fun a w hf hO => zt (b := b6) (c := 91) hf rfl rfl) <| br0 rfl ?_ ?_
 refine bi rfl fun i8 hi8 => bi rfl fun b9 hb9 => vl rfl rfl (fun a w hf hO => zt (b := b9) (c := 93) hf rfl rfl) <| br0 rfl ?_ ?_
 exact bi rfl fun i11 hi11 => bi rfl fun s12 hs12 => clg c_218 hG.o rfl (zte s12) fun r13 hr13 => en0 rfl;exact en0 rfl;exact en0 rfl;exact en0 rfl;refine oJ1 tb fun t14 => ?_;rw [zcL];refine br0 rfl ?_ ?_;refine rc_ rfl fun a w hf hO hm => ?_;obtain ⟨i16,hi16,hm⟩ := ob hm;obtain ⟨s17,hs17,hm⟩ := ob hm;refine dS (S := Unit) [(0,str x_s),(2,ptr b1 0),(4,ptr b3 0)] (fun _ => (fun (q0 : Res) => [[.blk b3 [int 0,str x_s,int (-1)] 175,q0],[.blk b3 [int 3,str x_s,int (-1)] 175,q0],[.blk b3 [int 3,str s17,int (-1)] 175,q0]]) (.blk b1 [int 0,str [],int 0] 175)) (fun σ => [⟨[(0,str x_s)],some (32,str x_s)⟩,⟨[(0,str x_s)],some (33,str x_s)⟩,⟨[(33,str x_s)],some (34,int (x_s.length : Int))⟩,⟨[(34,int (x_s.length : Int))],some (35,int i16)⟩,⟨[(32,str x_s),(35,int i16)],some (36,str s17)⟩,⟨[(4,ptr b3 0)],some (37,ptr b3 0)⟩,⟨[(37,ptr b3 0)],none⟩,⟨[(4,ptr b3 0)],some (38,ptr b3 1)⟩,⟨[(36,str s17),(38,ptr b3 1)],none⟩]) () [6,8] hO hf ⟨sE tb,sE tb,sE tb,sP (fun hf => zxJ hf rfl rfl hi16),sP (fun hf => zlS (l := x_s) Tryz.underlying9 hf rfl rfl rfl hs17),sE tb,sK 0 (@fun σ w hO => match zoC (x := (.tmp 37)) (y := (.const (int 3))) (E := [(37,ptr b3 0)]) (i := 0) (o := 0) (v := int 3) zBS rfl rfl rfl rfl hO rfl rfl with | ⟨w',hO',hr⟩ => vR (σ := σ) () hO' hr),sE tb,sK 1 (@fun σ w hO => match zoC (x := (.tmp 38)) (y := (.tmp 36)) (E := [(36,str s17),(38,ptr b3 1)]) (i := 0) (o := 1) (v := str s17) zex rfl rfl rfl rfl hO rfl rfl with | ⟨w',hO',hr⟩ => vR (σ := σ) () hO' hr),trivial⟩ ?_;rintro _ a w hf hO;have hO : Dk.Own w0 [] w _ := hO;have hf : Fits 51 [(2,ptr b1 0),(4,ptr b3 0)] a := (hf.cons rfl (hf.cons rfl hf.nil));refine S.no tb ?_ hf hO hm;exact en0 rfl;refine clg c_219 hG.o rfl (znc x_s) fun r18 hr18 => br0 rfl ?_ ?_
 exact st 0 rfl rfl <| en0 rfl
 refine clg c_220 (fun h => (hG.o h).1) rfl (zr2 x_s) fun r21 hr21 => br0 rfl ?_ ?_
 exact st 0 rfl rfl <| en0 rfl
 exact en0 rfl;refine oJ2 tb fun i24 s25 => ?_;rw [zdD];refine rc_ rfl fun a w hf hO hm => ?_;refine dS (S := Unit) [(2,ptr b1 0),(4,ptr b3 0)] (fun _ => (fun (q0 : Res) => [[q0, .blk b1 [int 0,str [],int 0] 175],[q0, .blk b1 [int i24,str s25,int (-1)] 175]]) (.blk b3 [int i24,str s25,int (-1)] 175)) (fun σ => [⟨[(4,ptr b3 0)],some (47, .agg #[int i24,str s25,int (-1)])⟩,⟨[(4,ptr b3 0)],some (48,ptr b3 0)⟩,⟨[(48,ptr b3 0)],some (49,int i24)⟩,⟨[(49,int i24)],some (50, .bool (!(i24 == 0)))⟩,⟨[(2,ptr b1 0),(47, .agg #[int i24,str s25,int (-1)])],none⟩,⟨[(50, .bool (!(i24 == 0)))],some (3, .bool (!(i24 == 0)))⟩]) () [4] hO hf ⟨sD tb 0 [0],sE tb,sD tb 0 [0,0],sE tb,sK 0 (@fun σ w hO => match zd9 (x := (.tmp 2)) (y := (.tmp 47)) (E := [(2,ptr b1 0),(47, .agg #[int i24,str s25,int (-1)])]) (i := 1) (n := 3) (vs := [int i24,str s25,int (-1)]) zBT rfl rfl rfl (by simp [Value.oneCell']) hO rfl rfl with | ⟨w',hO',hr⟩ => vR (σ := σ) () hO' hr),sE tb,trivial⟩ ?_;rintro _ a w hf hO;have hO : Dk.Own w0 [] w _ := hO;have hf : Fits 51 [(2,ptr b1 0),(3, .bool (!(i24 == 0)))] a := (hf.cons rfl (hf.cons rfl hf.nil));refine S.no tb ?_ hf hO hm;exact rb0 Tryz.results183 [1] rfl

theorem zjg (x_s : Str) (R : api_Host × Int) (w0 : World) (hG : za2 w0) (hm : zdE x_s = some R) :
    Calls prog 134 #[str x_s] w0 (Ret w0 (fun R => .tuple #[(yv6 R.1),int R.2]) R) := by
 rw [zdE] at hm;refine S.ent0 tb Tryz.func134 rfl Tryz.ntmps134 rfl hm ?_
 refine al zit rfl fun b1 => clg c_183 hG.o rfl (zo4 x_s) fun r3 hr3 => al zit rfl fun b4 => st 0 rfl rfl <| br0 rfl ?_ ?_
 exact ld 0 rfl rfl <| st 1 rfl rfl <| rb0 Tryz.results134 [1] rfl
 refine clg c_159 (fun h => (hG.o h).1) rfl (zii x_s 58) fun r10 hr10 => br0 rfl ?_ ?_
 exact bu0 (.agg #[int 0,str [],int 0]) rfl rfl <| st 1 rfl rfl <| rb0 Tryz.results134 [1] rfl
 refine bi rfl fun s16 hs16 => clg c_183 hG.o rfl (zo4 s16) fun r17 hr17 => al zit rfl fun b18 => st 0 rfl rfl <| jv 1 [0,2,6,7] [0,1,2] (fun J E L => ∃ t24,J ((37, .bool t24) :: E) (L) (zeh x_s r10 r17 t24)) rfl ?_ ?_
 refine br0 rfl ?_ ?_;exact en0 rfl;exact bi rfl fun i21 hi21 => bi rfl fun s22 hs22 => clg c_184 hG.o rfl (zmh s22 65535) fun r23 hr23 => en0 rfl;refine oJ1 tb fun t24 => ?_;rw [zeh];refine br0 rfl ?_ ?_
 exact bu0 (.agg #[int 0,str [],int 0]) rfl rfl <| st 2 rfl rfl <| rb0 Tryz.results134 [2] rfl
 exact bi rfl fun i28 hi28 => bi rfl fun s29 hs29 => clg zyQ (fun h => (hG.o h).1) rfl (zgg s29 65535) fun r30 hr30 => st 0 rfl rfl <| ld 0 rfl rfl <| st 2 rfl rfl <| rb0 Tryz.results134 [2] rfl

set_option maxHeartbeats 4000000 in
set_option maxRecDepth 100000 in
theorem zzM (s : ByteArray) (R : Str) (w0 : World) (hG : zo w0) (hsz : s.size < 4294967281) (hm : s.data.toList.mapM zbh = some R)
    (hlow : ∀ b c w,zbh b = some c → zo w → Calls prog 213 #[.int .u8 (b.toNat : Int)] w fun e w' => e = .returned (.int .u8 (c.toNat : Int)) ∧ Below w.heap.size w w') :
    Calls prog 217 #[.string s] w0 fun e w' => e = .returned (.string ⟨R.toArray⟩) ∧ Below w0.heap.size w0 w' := by
  obtain ⟨hlen,hat⟩ := mapM_at hm;have HL : Aside (R.length = s.size) := hlen.trans (Lib.size_eq s).symm;have HT : Aside (∀ (i : Nat) (a : UInt8),s.data.toList[i]? = some a → ∃ b,R[i]? = some b ∧ zbh a = some b) := hat
  clear hlen hat hm
  have hcv := fun w => run_bytes_of_string (P := prog) w 9 141 5 s Tryz.underlying9 Tryz.underlying141 Tryz.underlying5
  go_enter Tryz.func217,Tryz.ntmps217
  go_wp2
  go_loopg [4,5,10] s.size (fun g _ _ v wx => ∃ i : Nat,i + g = s.size ∧ v = .int .i64 (i : Int) ∧ Below w0.heap.size w0 wx ∧ ∃ (cur : Array Value) (fz : Nat × Nat),wx.heap[w0.heap.size]? = some (.cells cur 5 fz) ∧ cur.size ≤ fz.1 ∧ s.size ≤ cur.size ∧ ∀ j,j < s.size → cur[j]? = ((if j < i then R[j]? else s.data.toList[j]?).map zao))
  case atStart =>
    have hrow : (bytesRow s (grownCap w0 s.size 0 5)).size = s.size + (grownCap w0 s.size 0 5 - s.size) := by
      have := Lib.size_eq s;unfold bytesRow;rw [Array.size_append,Array.size_map,Array.size_replicate];rfl
    refine ⟨0,by omega,rfl,((Below.refl _ _).alloc (Nat.le_refl _) _).drew,_,_,ztu _,Nat.le_refl _,?_,fun j hj => ?_⟩
    · omega
    · rw [if_neg (by omega)]
      unfold bytesRow;rw [Array.getElem?_append_left (by simp [← Lib.size_eq]; exact hj),Array.getElem?_map]
      congr 1
      exact (Array.getElem?_toList ..).symm
  case round =>
    obtain ⟨i,hig,rfl,hB,cur,fz,hcur,hfz,hsc,hcell⟩ := hrel;have HG : Aside (zo wr) := hG.own zad ((Dk.Own.refl w0).grow hB);have HB : Aside (Below w0.heap.size w0 wr) := hB;have HC : Aside (wr.heap[w0.heap.size]? = some (.cells cur 5 fz)) := hcur;have HF : Aside (cur.size ≤ fz.1 ∧ s.size ≤ cur.size) := ⟨hfz,hsc⟩;have HX : Aside (∀ j,j < s.size → cur[j]? = ((if j < i then R[j]? else s.data.toList[j]?).map zao)) := hcell
    clear hB hcell hfz hsc hcur
    by_cases hi : i < s.size
    · obtain ⟨x,hx⟩ : ∃ x,s.data.toList[i]? = some x := ⟨_,Lib.data_getElem? s i hi⟩
      obtain ⟨y,hyR,hy⟩ := HT.out i x hx
      have hcx : wr.cell? ⟨w0.heap.size,i,none⟩ = some (.int .u8 (x.toNat : Int)) := by
        have := HX.out i hi;rw [if_neg (by omega),hx] at this;simp [World.cell?,HC.out,this]
      have hfr : wr.frozen? ⟨w0.heap.size,i,none⟩ = false := by
        have := HF.out;simp [World.frozen?,HC.out]; omega
      have hii : (i : Int) < (s.size : Int) := by omega
      have HY : Aside (R[i]? = some y) := hyR;have HO : Aside (zbh x = some y) := hy
      clear hyR hy hx
      go_wp2_with (go_at_call 213; refine (hlow x y _ HO.out HG.out).mono ?_; rintro e w' ⟨rfl,hb⟩; have hcx' : w'.cell? ⟨w0.heap.size,i,none⟩ = some (.int .u8 (x.toNat : Int)) := (hb.cell (p := ⟨w0.heap.size,i,none⟩) (Array.getElem?_eq_some_iff.1 HC.out).1).trans hcx; have hfr' : w'.frozen? ⟨w0.heap.size,i,none⟩ = false := (hb.frozen (p := ⟨w0.heap.size,i,none⟩) (Array.getElem?_eq_some_iff.1 HC.out).1).trans hfr)
      go_roundg (gk - 1)
      case measure => omega
      case rel =>
        have hlt := (Array.getElem?_eq_some_iff.1 HC.out).1;have hcw : w'.heap[w0.heap.size]? = some (.cells cur 5 fz) := (hb.block _ hlt).trans HC.out;refine ⟨i + 1,by omega,rfl,?_,cur.setIfInBounds i (.int .u8 (y.toNat : Int)),fz,?_,?_,?_,fun j hj => ?_⟩
        · exact (HB.out.trans (hb.mono HB.out.size)).setCell (p := ⟨w0.heap.size,i,none⟩) (Nat.le_refl _) _
        · simp [World.setCell,Array.getElem?_modify,hcw]
        · have := HF.out; simp; omega
        · have := HF.out; simp; omega
        · by_cases hji : j = i
          · subst hji
            have := HF.out;rw [if_pos (by omega),HY.out,Array.getElem?_setIfInBounds_self_of_lt (by omega)];rfl
          · rw [Array.getElem?_setIfInBounds_ne (Ne.symm hji),HX.out j hj]
            by_cases h2 : j < i
            · rw [if_pos h2,if_pos (by omega)]
            · rw [if_neg h2,if_neg (by omega)]
    · have hsi : i = s.size := by omega
      have hbk : ∀ w,wr.heap = w.heap → (convert 141 9 (.slice (some ⟨w0.heap.size,0,none⟩) s.size (grownCap w0 s.size 0 5))).run prog w = .ok (.string ⟨R.toArray⟩) w := by
        intro w hw
        have := run_convert_bytes_back (P := prog) w 141 9 5 ⟨w0.heap.size,0,none⟩ (grownCap w0 s.size 0 5) R Tryz.underlying141 Tryz.underlying5 Tryz.underlying9 (fun j hj => by
          have hjs : j < s.size := by rw [← HL.out]; exact hj
          have h1 := HX.out j hjs;rw [if_pos (by omega),ygg hj] at h1;rw [zAe]
          simp [World.cell?, ← hw,HC.out,h1])
        rw [HL.out] at this;exact this
      have hni : ¬ ((i : Int) < (s.size : Int)) := by omega
      have hbk1 := hbk wr rfl
      go_wp2
      go_ret
      exact ⟨rfl,HB.out⟩

theorem zmy (x_s : Str) (R : Str) (w0 : World) (hG : zo w0) (hm : zhU x_s = some R) :
    Calls prog 217 #[str x_s] w0 fun e w' => e = .returned (str R) ∧ Below w0.heap.size w0 w' := by
  unfold zhU at hm
  split at hm
  · rename_i h
    exact zzM ⟨x_s.toArray⟩ R w0 hG h hm fun b c w hbc hGw => zf7 b c w hGw hbc
  · cases hm

theorem ztf (x_b : UInt8) (R : Bool) (w0 : World) (hG : zo w0) (hm : ziH x_b = some R) :
    Calls prog 282 #[zao x_b] w0 (Ret w0 (fun R => .bool R) R) := by
 rw [ziH] at hm;refine S.ent0 tb Tryz.func282 rfl Tryz.ntmps282 rfl hm ?_;refine jv 0 [] [] (fun J E L => ∃ t7,J ((2, .bool t7) :: E) (L) (zfJ t7)) rfl ?_ ?_;refine clg c_250 hG.o rfl (zjI x_b) fun r2 hr2 => br0 rfl ?_ ?_;exact en0 rfl;refine clg c_251 hG.o rfl (zo3 x_b) fun r4 hr4 => br0 rfl ?_ ?_;exact en0 rfl;exact clg zyR hG.o rfl (zlq x_b [58,64]) fun r6 hr6 => en0 rfl;refine oJ1 tb fun t7 => ?_;rw [zfJ];exact rt Tryz.results282 rfl

theorem ztg (x_s : Str) (x_more : Str) (R : Bool) (w0 : World) (hG : zo w0) (hm : zl6 x_s x_more = some R) :
    Calls prog 281 #[str x_s,str x_more] w0 (Ret w0 (fun R => .bool R) R) := by
 rw [zl6] at hm;refine S.ent0 tb Tryz.func281 rfl Tryz.ntmps281 rfl hm ?_;refine lw [0,1] [] (fun J E L k => ∃ i3,J ((5,int i3) :: E) (L) (zce x_s x_more k i3)) rfl ?_;refine lJ1 tb fun n1 i3 => ?_;rw [zce];refine br0 rfl ?_ ?_;refine jv 3 [0,1] [] (fun J E L => ∃ i27,J ((5,int i27) :: E) (L) (zh5 (zce x_s x_more n1) i27)) rfl ?_ ?_;refine jv 6 [0,1,5] [] (fun J E L => ∃ t12,J ((12, .bool t12) :: E) (L) (zjJ (zce x_s x_more n1) x_s i3 t12)) rfl ?_ ?_;refine bi rfl fun b7 hb7 => clg c_282 hG.o rfl (ztf b7) fun r8 hr8 => br0 rfl ?_ ?_;exact en0 rfl;exact bi rfl fun b10 hb10 => clg c_214 hG.o rfl (zka x_more b10) fun r11 hr11 => en0 rfl;refine oJ1 tb fun t12 => ?_;rw [zjJ];refine br0 rfl ?_ ?_;exact en0 rfl;refine jv 6 [0,1,5] [] (fun J E L => ∃ t23,J ((25, .bool t23) :: E) (L) (zfd (zce x_s x_more n1) i3 t23)) rfl ?_ ?_
 refine bi rfl fun b14 hb14 => vl rfl rfl (fun a w hf hO => zt (b := b14) (c := 37) hf rfl rfl) <| br0 rfl ?_ ?_
 refine bi rfl fun i16 hi16 => br rfl (fun hc17 => ?_) fun hc17 => ?_;refine bi rfl fun i18 hi18 => bi rfl fun i19 hi19 => bi rfl fun s20 hs20 => rw_ rfl fun a w hf hO hm => ?_;refine zn (vs := [(0,str s20)]) (cs := [str s20]) (e := 9) (sz := 1) hf rfl rfl (fun w => by kernel_rfl) rfl rfl hO fun a b21 w hf hO => ?_;refine S.op tb ?_ hf hO hm;refine kn (b' := true) hc17 rfl ?_;exact cl zxV rfl (fun r22 w hr22 hO => zg6 zaV ([s20] : List Str) r22 _ (hG.o hO) zwD (fun y0 r w hG h => zi9 (zhO y0 r w hG h)) (hO.rowSees (i := 0) rfl) (hO.rowCap (i := 0) rfl) hr22) fun r22 hr22 => ec0 [] rfl rfl rfl;exact en0 rfl;exact en0 rfl;refine oJ1 tb fun t23 => ?_;rw [zfd];refine br0 rfl ?_ ?_;exact bi rfl fun i25 hi25 => en0 rfl;exact rt Tryz.results281 rfl;refine oJ1 tb fun i27 => ?_;rw [zh5];exact bi rfl fun i28 hi28 => el0 rfl;exact rt Tryz.results281 rfl

theorem zvJ (x_s : Str) (R : Bool) (w0 : World) (hG : zo w0) (hm : zkQ x_s = some R) :
    Calls prog 277 #[str x_s] w0 (Ret w0 (fun R => .bool R) R) := by
 rw [zkQ] at hm;refine S.ent0 tb Tryz.func277 rfl Tryz.ntmps277 rfl hm ?_;refine jv 0 [] [] (fun J E L => ∃ t5,J ((2, .bool t5) :: E) (L) (zhz t5)) rfl ?_ ?_;refine clg zB6 hG.o rfl (zhq x_s [47]) fun r2 hr2 => br0 rfl ?_ ?_;exact clg c_281 hG.o rfl (ztg x_s [47]) fun r4 hr4 => en0 rfl;exact en0 rfl;refine oJ1 tb fun t5 => ?_;rw [zhz];exact rt Tryz.results277 rfl

theorem zuf (x_s : Str) (R : Bool) (w0 : World) (hG : zo w0) (hm : zjK x_s = some R) :
    Calls prog 278 #[str x_s] w0 (Ret w0 (fun R => .bool R) R) := by
 rw [zjK] at hm;refine S.ent0 tb Tryz.func278 rfl Tryz.ntmps278 rfl hm ?_;exact clg c_281 hG.o rfl (ztg x_s [47,63]) fun r2 hr2 => rt Tryz.results278 rfl

end Go.Proofs
end
section
set_option linter.unusedVariables false
set_option maxHeartbeats 1000000
set_option linter.unusedSimpArgs false
set_option maxRecDepth 100000
namespace Go.Proofs
open Go.Dk Go.Dm Go.RowKit
open Tryz (prog)
set_option maxHeartbeats 1000000

theorem zw9 (x_s : Str) (R : Str × Str × Bool × Int) (w0 : World) (hG : zo w0) (hm : zl7 x_s = some R) :
    Calls prog 264 #[str x_s] w0 (Ret w0 (fun R => .tuple #[str R.1,str R.2.1, .bool R.2.2.1,int R.2.2.2]) R) := by
 rw [zl7] at hm;refine S.ent0 tb Tryz.func264 rfl Tryz.ntmps264 rfl hm ?_;refine clg zyP hG.o rfl (zjr x_s [63]) fun r2 hr2 => jv 1 [2,3,4] [] (fun J E L => ∃ t7,J ((19, .bool t7) :: E) (L) (ziI r2 t7)) rfl ?_ ?_;refine clg c_277 hG.o rfl (zvJ r2.1) fun r4 hr4 => br0 rfl ?_ ?_;exact en0 rfl;exact clg c_278 hG.o rfl (zuf r2.2.1) fun r6 hr6 => en0 rfl;refine oJ1 tb fun t7 => ?_;rw [ziI];refine br0 rfl ?_ ?_;exact rt Tryz.results264 rfl;exact rt Tryz.results264 rfl

theorem zpa (x_t : api_Target) (x_s : Str) (R : api_Target × Bool) (w0 : World) (hG : zo w0) (hm : zh6 x_t x_s = some R) :
    Calls prog 244 #[(zdY x_t),str x_s] w0 (Ret w0 (fun R => .tuple #[(zdY R.1), .bool R.2]) R) := by
 rw [zh6] at hm;refine S.ent0 tb Tryz.func244 rfl Tryz.ntmps244 rfl hm ?_;refine bo rfl fun b1 => al zja rfl fun b2 => br0 rfl ?_ ?_
 exact ld 1 rfl rfl <| st 0 rfl rfl <| rb0 Tryz.results244 [0] rfl
 refine bi rfl fun b9 hb9 => vl rfl rfl (fun a w hf hO => zt (b := b9) (c := 63) hf rfl rfl) <| jv 0 [2,4,7] [0,1] (fun J E L => ∃ s14,J ((1,str s14) :: E) (L) (zgu x_t b9 s14)) rfl ?_ ?_
 refine br0 rfl ?_ ?_;exact bi rfl fun s13 hs13 => en0 rfl;exact en0 rfl;refine oJ1 tb fun s14 => ?_;rw [zgu]
 refine clg c_264 hG.o rfl (zw9 s14) fun r15 hr15 => st 1 rfl rfl <| st 1 rfl rfl <| st 1 rfl rfl <| jv 0 [2,4,6] [0] (fun J E L => ∃ s19,J (E) (.blk b1 [int x_t.Kind,str x_t.Scheme,int x_t.Host.Kind,str x_t.Host.Name,int x_t.Host.Port,str s19,str r15.2.1, .bool r15.2.2.1] 188 :: L) (zgt x_t r15 s19)) rfl ?_ ?_
 refine br0 rfl ?_ ?_
 exact st 1 rfl rfl <| ec0 [1,0] rfl rfl rfl
 exact ec0 [1,0] rfl rfl rfl;refine oJ1 tb fun s19 => ?_;rw [zgt]
 exact ld 0 rfl rfl <| st 1 rfl rfl <| rb0 Tryz.results244 [1] rfl

theorem zqa (x_s : Str) (R : api_Target × Bool) (w0 : World) (hG : za2 w0) (hm : zfK x_s = some R) :
    Calls prog 243 #[str x_s] w0 (Ret w0 (fun R => .tuple #[(zdY R.1), .bool R.2]) R) := by
 rw [zfK] at hm;refine S.ent0 tb Tryz.func243 rfl Tryz.ntmps243 rfl hm ?_
 refine al zja rfl fun b1 => clg zyP (fun h => (hG.o h).1) rfl (zjr x_s [58,47,47]) fun r3 hr3 => clg zB5 (fun h => (hG.o h).1) rfl (zmy r3.1) fun r5 hr5 => bu0 (.agg #[int 2,str r5,int 0,str [],int 0,str [],str [], .bool false]) rfl rfl <| al zja rfl fun b6 => st 0 rfl rfl <| jv 1 [2,5,7] [0,1] (fun J E L => ∃ t10,J ((31, .bool t10) :: E) (L) (zaD r3 r5 t10)) rfl ?_ ?_
 refine br0 rfl ?_ ?_;exact en0 rfl
 refine ld 0 rfl rfl <| br0 rfl ?_ ?_
 exact ld 0 rfl rfl <| en0 rfl
 exact en0 rfl;refine oJ1 tb fun t10 => ?_;rw [zaD];refine br0 rfl ?_ ?_
 exact ld 0 rfl rfl <| st 1 rfl rfl <| rb0 Tryz.results243 [1] rfl
 refine clg c_157 (fun h => (hG.o h).1) rfl (zku r3.2.1 [47,63]) fun r14 hr14 => jv 0 [2,5,7] [0,1] (fun J E L => ∃ i18,J ((8,int i18) :: E) (L) (zcq r3 r5 i18)) rfl ?_ ?_;refine br0 rfl ?_ ?_;exact en0 rfl;exact en0 rfl;refine oJ1 tb fun i18 => ?_;rw [zcq]
 refine bi rfl fun s19 hs19 => clg zB2 hG.o rfl (zjg s19) fun r20 hr20 => al zit rfl fun b21 => st 0 rfl rfl <| br0 rfl ?_ ?_
 exact ld 1 rfl rfl <| st 2 rfl rfl <| rb0 Tryz.results243 [2] rfl
 refine ld 0 rfl rfl <| st 1 rfl rfl <| rc_ rfl fun a w hf hO hm => ?_
 obtain ⟨s28,hs28,hm⟩ := ob hm;obtain ⟨r29,hr29,hm⟩ := ob hm;refine dS (S := Unit) [(2,ptr b1 0),(5,str r3.2.1),(7,ptr b6 0),(8,int i18)] (fun _ => (fun (q0 q1 q2 : Res) => [[q0,q1,q2],[q0,q1,q2],[q0,q1, .blk b1 (zwx r29.1) 188]]) (.blk b21 (yl6 r20.1) 175) (.blk b6 [int 2,str r5,int r20.1.Kind,str r20.1.Name,int r20.1.Port,str [],str [], .bool false] 188) (.blk b1 [int 0,str [],int 0,str [],int 0,str [],str [], .bool false] 188)) (fun σ => [⟨[(7,ptr b6 0)],some (51, .agg #[int 2,str r5,int r20.1.Kind,str r20.1.Name,int r20.1.Port,str [],str [], .bool false])⟩,⟨[(5,str r3.2.1)],some (52,str r3.2.1)⟩,⟨[(8,int i18)],some (53,int i18)⟩,⟨[(52,str r3.2.1),(53,int i18)],some (54,str s28)⟩,⟨[(51, .agg #[int 2,str r5,int r20.1.Kind,str r20.1.Name,int r20.1.Port,str [],str [], .bool false]),(54,str s28)],some (55, .tuple #[(zdY r29.1), .bool r29.2])⟩,⟨[(55, .tuple #[(zdY r29.1), .bool r29.2])],some (56,(zdY r29.1))⟩,⟨[(55, .tuple #[(zdY r29.1), .bool r29.2])],some (57, .bool r29.2)⟩,⟨[(2,ptr b1 0),(56,(zdY r29.1))],none⟩,⟨[(57, .bool r29.2)],some (3, .bool r29.2)⟩]) () [4,7] hO hf ⟨sD tb 0 [1],sE tb,sE tb,sP (fun hf => zi8 (l := r3.2.1) Tryz.underlying9 hf rfl rfl hs28),sC 0 (fun hf => zbU c_244 hf (vs := [.agg #[int 2,str r5,int r20.1.Kind,str r20.1.Name,int r20.1.Port,str [],str [], .bool false],str s28]) rfl) (@fun σ w hO => (zpa (⟨2,r5,r20.1,[],[],false⟩ : api_Target) s28 r29 _ (hG.o hO).1 hr29).mono fun e w' ⟨he,hb⟩ => cR (σ := σ) () he (hO.grow hb)),sE tb,sE tb,sK 1 (@fun σ w hO => match zd9 (x := (.tmp 2)) (y := (.tmp 56)) (E := [(2,ptr b1 0),(56,(zdY r29.1))]) (i := 2) (n := 8) (vs := (yl8 r29.1)) zq0 rfl rfl rfl (by simp [Value.oneCell']) hO rfl rfl with | ⟨w',hO',hr⟩ => vR (σ := σ) () hO' hr),sE tb,trivial⟩ ?_;rintro _ a w hf hO;have hO : Dk.Own w0 [] w _ := hO;have hf : Fits 58 [(2,ptr b1 0),(3, .bool r29.2)] a := (hf.cons rfl (hf.cons rfl hf.nil));refine S.no tb ?_ hf hO hm;exact rb0 Tryz.results243 [2] rfl

theorem zxa (x_method : Str) (x_s : Str) (R : api_Target × Bool) (w0 : World) (hG : za2 w0) (hm : zl8 x_method x_s = some R) :
    Calls prog 210 #[str x_method,str x_s] w0 (Ret w0 (fun R => .tuple #[(zdY R.1), .bool R.2]) R) := by
 rw [zl8] at hm;refine S.ent0 tb Tryz.func210 rfl Tryz.ntmps210 rfl hm ?_;refine al zja rfl fun b1 => br0 rfl ?_ ?_
 exact bu0 (.agg #[int 4,str [],int 0,str [],int 0,str [],str [], .bool false]) rfl rfl <| st 0 rfl rfl <| rb0 Tryz.results210 [0] rfl
 refine clg zB6 (fun h => (hG.o h).1) rfl (zhq x_s [47]) fun r7 hr7 => br0 rfl ?_ ?_
 exact clg c_243 hG.o rfl (zqa x_s) fun r10 hr10 => st 0 rfl rfl <| rb0 Tryz.results210 [0] rfl
 exact bu0 (.agg #[int 1,str [],int 0,str [],int 0,str [],str [], .bool false]) rfl rfl <| clg c_244 (fun h => (hG.o h).1) rfl (zpa ((⟨1,[],(⟨0,[],0⟩ : api_Host),[],[],false⟩ : api_Target)) x_s) fun r13 hr13 => al zja rfl fun b14 => st 0 rfl rfl <| ld 0 rfl rfl <| st 1 rfl rfl <| rb0 Tryz.results210 [1] rfl

theorem zto (x_method : Str) (x_s : Str) (R : api_Target × Int) (w0 : World) (hG : za2 w0) (hm : ziJ x_method x_s = some R) :
    Calls prog 166 #[str x_method,str x_s] w0 (Ret w0 (fun R => .tuple #[(zdY R.1),int R.2]) R) := by
 rw [ziJ] at hm;refine S.ent0 tb Tryz.func166 rfl Tryz.ntmps166 rfl hm ?_;refine al zja rfl fun b1 => br0 rfl ?_ ?_
 refine clg zB2 hG.o rfl (zjg x_s) fun r5 hr5 => al zit rfl fun b6 => st 0 rfl rfl <| jv 2 [4,6] [0,1] (fun J E L => ∃ t9,J ((23, .bool t9) :: E) (L) (zfL r5 t9)) rfl ?_ ?_
 refine br0 rfl ?_ ?_;exact en0 rfl
 exact ld 0 rfl rfl <| en0 rfl
 refine oJ1 tb fun t9 => ?_;rw [zfL];refine br0 rfl ?_ ?_
 exact bu0 zuJ rfl rfl <| st 1 rfl rfl <| rb0 Tryz.results166 [1] rfl
 exact ld 0 rfl rfl <| bu0 (.agg #[int 3,str [],int r5.1.Kind,str r5.1.Name,int r5.1.Port,str [],str [], .bool false]) rfl rfl <| st 1 rfl rfl <| rb0 Tryz.results166 [1] rfl
 refine clg c_210 hG.o rfl (zxa x_method x_s) fun r15 hr15 => al zja rfl fun b16 => st 0 rfl rfl <| br0 rfl ?_ ?_
 exact bu0 zuJ rfl rfl <| st 1 rfl rfl <| rb0 Tryz.results166 [1] rfl
 exact ld 0 rfl rfl <| st 1 rfl rfl <| rb0 Tryz.results166 [1] rfl

theorem zoN (x_a0 : Str) (R : api_Head × Int) (w0 : World) (hG : za2 w0) (hm : zei x_a0 = some R) :
    Calls prog 117 #[str x_a0] w0 fun e w' => ∃ p0 c0,e = .returned (.tuple #[(zir R.1 p0 c0),int R.2]) ∧ Dk.Own w0 [] w' [.row (.slice p0 R.1.Fields.length c0) 110 2 R.1.Fields.length (cells zb R.1.Fields)] := by
 rw [zei] at hm;refine S.ent0 tb Tryz.func117 rfl Tryz.ntmps117 rfl hm ?_
 refine al zkb rfl fun b1 => nl 110 2 <| bu0 (.agg #[int 1,str [],str [],int 0,str [],int 0, .slice none 0 0]) rfl rfl <| al zkb rfl fun b3 => nl 110 2 <| st 1 rfl rfl <| nl 110 2 <| clg c_159 (fun h => (hG.o h).1) rfl (zii x_a0 32) fun r5 hr5 => bi rfl fun i6 hi6 => bi rfl fun s7 hs7 => clg c_158 (fun h => (hG.o h).1) rfl (zlp s7) fun r8 hr8 => br0 rfl ?_ ?_
 exact bu0 zis rfl rfl <| st 4 rfl rfl <| nl 110 2 <| rm0 Tryz.results117 [0] [5] rfl
 refine cm1 zuL rfl (fun r13 w hr13 hO => zjq x_a0 r13 _ (hG.o hO).1 hr13) fun r13 hr13 b14 => bu0 (.agg #[ptr b14 0]) rfl rfl <| al zxT rfl fun b15 => st 0 rfl rfl <| ld 0 rfl rfl ?_
 refine cw0 zyO [1,0,2,3,4,5,6] 1 [] rfl (fun r17 w hr17 hO hfar18 hlend18 => zet r13 r17 _ (hG.o hO).1 hfar18 hlend18 hr17) (fun _ _ => trivial) zad hG.size fun r17 hr17 => ld 1 rfl rfl ?_;refine cw0 ziZ [0,1,2,3,4,5,6] 1 [] rfl (fun r20 w hr20 hO hfar21 hlend21 => zs r17.2.2 32 r20 _ (hG.o hO).1 hfar21 hlend21 hr20) (fun _ _ => trivial) zad hG.size fun r20 hr20 => ld 1 rfl rfl ?_;refine cw0 zwy [0,1,2,3,4,5,6] 1 [] rfl (fun r23 w hr23 hO hfar24 hlend24 => zc0 r20.2 zdk r23 _ (hG.o hO).1 hfar24 hlend24 c_164 (fun y0 r w hG h => zi9 (znk y0 r w hG h)) hr23) (fun _ _ => trivial) zad hG.size fun r23 hr23 => ld 1 rfl rfl ?_;refine cw0 ziZ [0,1,2,3,4,5,6] 1 [] rfl (fun r26 w hr26 hO hfar27 hlend27 => zs r23.2 32 r26 _ (hG.o hO).1 hfar27 hlend27 hr26) (fun _ _ => trivial) zad hG.size fun r26 hr26 => ld 1 rfl rfl ?_
 refine cw0 c_165 [0,1,2,3,4,5,6] 1 [] rfl (fun r29 w hr29 hO hfar30 hlend30 => ziU (⟨r26.2⟩ : startline_line) r29 _ (hG.o hO).1 hfar30 hlend30 hr29) (fun _ _ => trivial) zad hG.size fun r29 hr29 => clg c_166 hG.o rfl (zto r17.1 r23.1) fun r32 hr32 => al zja rfl fun b33 => st 0 rfl rfl <| jv 1 [2,4,6,9,11] [0,1,2,3,4,5,6,7] (fun J E L => ∃ t41,J ((75, .bool t41) :: E) (L) (zae r17 r23 r29 t41)) rfl ?_ ?_
 refine br0 rfl ?_ ?_;exact en0 rfl;refine br0 rfl ?_ ?_;exact en0 rfl;refine br0 rfl ?_ ?_;exact en0 rfl;refine br0 rfl ?_ ?_;exact en0 rfl;refine ld 2 rfl rfl ?_;refine cl zwz rfl (fun r39 w hr39 hO => zdU r29.2.2 r39 _ (hG.o hO).1 (hO.blkSees (i := 1) rfl) hr39) fun r39 hr39 => br0 rfl ?_ ?_;exact en0 rfl;exact en0 rfl;refine oJ1 tb fun t41 => ?_;rw [zae];refine br0 rfl ?_ ?_
 exact bu0 zis rfl rfl <| st 7 rfl rfl <| nl 110 2 <| rm0 Tryz.results117 [0] [8] rfl
 exact st 5 rfl rfl <| st 5 rfl rfl <| st 5 rfl rfl <| ld 5 rfl rfl <| st 7 rfl rfl <| rm0 Tryz.results117 [3] [7] rfl

theorem zqb (x_b : UInt8) (R : Bool) (w0 : World) (hG : zo w0) (hm : zj7 x_b = some R) :
    Calls prog 123 #[zao x_b] w0 (Ret w0 (fun R => .bool R) R) := by
 rw [zj7] at hm;refine S.ent0 tb Tryz.func123 rfl Tryz.ntmps123 rfl hm ?_;refine jv 0 [] [] (fun J E L => ∃ t3,J ((2, .bool t3) :: E) (L) (zfr t3)) rfl ?_ ?_
 refine vl rfl rfl (fun a w hf hO => zws (b := x_b) (c := 32) hf rfl rfl) <| br0 rfl ?_ ?_
 exact vl rfl rfl (fun a w hf hO => zAv (b := x_b) (c := 127) hf rfl rfl) <| en0 rfl
 exact en0 rfl;refine oJ1 tb fun t3 => ?_;rw [zfr];exact rt Tryz.results123 rfl

theorem zm9 (x_b : UInt8) (R : Bool) (w0 : World) (hG : zo w0) (hm : zez x_b = some R) :
    Calls prog 124 #[zao x_b] w0 (Ret w0 (fun R => .bool R) R) := by
 rw [zez] at hm;refine S.ent0 tb Tryz.func124 rfl Tryz.ntmps124 rfl hm ?_;refine jv 0 [] [] (fun J E L => ∃ t3,J ((2, .bool t3) :: E) (L) (zhd t3)) rfl ?_ ?_
 refine vl rfl rfl (fun a w hf hO => zt (b := x_b) (c := 32) hf rfl rfl) <| br0 rfl ?_ ?_
 exact en0 rfl
 exact vl rfl rfl (fun a w hf hO => zt (b := x_b) (c := 9) hf rfl rfl) <| en0 rfl
 refine oJ1 tb fun t3 => ?_;rw [zhd];exact rt Tryz.results124 rfl

theorem zj6 (x_b : UInt8) (R : Bool) (w0 : World) (hG : zo w0) (hm : zcz x_b = some R) :
    Calls prog 87 #[zao x_b] w0 (Ret w0 (fun R => .bool R) R) := by
 rw [zcz] at hm;refine S.ent0 tb Tryz.func87 rfl Tryz.ntmps87 rfl hm ?_;refine jv 0 [] [] (fun J E L => ∃ t6,J ((2, .bool t6) :: E) (L) (zeU t6)) rfl ?_ ?_;refine clg c_123 hG.o rfl (zqb x_b) fun r2 hr2 => br0 rfl ?_ ?_;exact en0 rfl;refine clg c_124 hG.o rfl (zm9 x_b) fun r4 hr4 => br0 rfl ?_ ?_;exact en0 rfl
 exact vl rfl rfl (fun a w hf hO => zws (b := x_b) (c := 127) hf rfl rfl) <| en0 rfl
 refine oJ1 tb fun t6 => ?_;rw [zeU];exact rt Tryz.results87 rfl

theorem zpz (x_a0 : Str) (R : api_Head × Int) (w0 : World) (hG : zo w0) (hm : zeV x_a0 = some R) :
    Calls prog 118 #[str x_a0] w0 fun e w' => ∃ p0 c0,e = .returned (.tuple #[(zir R.1 p0 c0),int R.2]) ∧ Dk.Own w0 [] w' [.row (.slice p0 R.1.Fields.length c0) 110 2 R.1.Fields.length (cells zb R.1.Fields)] := by
 rw [zeV] at hm;refine S.ent0 tb Tryz.func118 rfl Tryz.ntmps118 rfl hm ?_
 refine al zkb rfl fun b1 => nl 110 2 <| clg zyP hG.o rfl (zjr x_a0 [32]) fun r3 hr3 => clg c_158 hG.o rfl (zlp r3.1) fun r5 hr5 => br0 rfl ?_ ?_
 exact bu0 zis rfl rfl <| st 1 rfl rfl <| nl 110 2 <| rm0 Tryz.results118 [0] [2] rfl
 refine cm1 zuL rfl (fun r10 w hr10 hO => zjq x_a0 r10 _ (hG.o hO) hr10) fun r10 hr10 b11 => bu0 (.agg #[ptr b11 0]) rfl rfl <| al zxT rfl fun b12 => st 0 rfl rfl <| ld 0 rfl rfl ?_
 refine cw0 c_165 [1,0,2,3] 1 [] rfl (fun r14 w hr14 hO hfar15 hlend15 => ziU (⟨r10⟩ : startline_line) r14 _ (hG.o hO) hfar15 hlend15 hr14) (fun _ _ => trivial) zad hG.size fun r14 hr14 => ld 1 rfl rfl ?_;refine cw0 ziZ [0,1,2,3] 1 [] rfl (fun r17 w hr17 hO hfar18 hlend18 => zs r14.2.2 32 r17 _ (hG.o hO) hfar18 hlend18 hr17) (fun _ _ => trivial) zad hG.size fun r17 hr17 => ld 1 rfl rfl ?_;refine cw0 zwy [0,1,2,3] 1 [] rfl (fun r20 w hr20 hO hfar21 hlend21 => zc0 r17.2 zah r20 _ (hG.o hO) hfar21 hlend21 zsG (fun y0 r w hG h => zi9 (zdg y0 r w hG h)) hr20) (fun _ _ => trivial) zad hG.size fun r20 hr20 => ld 1 rfl rfl ?_;refine cw0 ziZ [0,1,2,3] 1 [] rfl (fun r23 w hr23 hO hfar24 hlend24 => zs r20.2 32 r23 _ (hG.o hO) hfar24 hlend24 hr23) (fun _ _ => trivial) zad hG.size fun r23 hr23 => clg zyQ hG.o rfl (zgg r20.1 599) fun r26 hr26 => jv 1 [2,7,8,13] [0,1,2,3] (fun J E L => ∃ t37,J ((76, .bool t37) :: E) (L) (zab r14 r23 r26 t37)) rfl ?_ ?_;refine br0 rfl ?_ ?_;exact en0 rfl;refine br0 rfl ?_ ?_;exact en0 rfl;refine br0 rfl ?_ ?_;exact en0 rfl;refine br0 rfl ?_ ?_;exact en0 rfl;refine br0 rfl ?_ ?_;exact en0 rfl;refine br rfl (fun hc33 => ?_) fun hc33 => ?_;exact en0 rfl;refine ld 1 rfl rfl ?_;refine cl zuM rfl (fun r34 w hr34 hO => zb9 r23.2 r34 _ (hG.o hO) (hO.blkSees (i := 0) rfl) hr34) fun r34 hr34 => rw_ rfl fun a w hf hO hm => ?_;refine zn (vs := [(0,str r34)]) (cs := [str r34]) (e := 9) (sz := 1) hf rfl rfl (fun w => by kernel_rfl) rfl rfl hO fun a b35 w hf hO => ?_;refine S.op tb ?_ hf hO hm;refine kn (b' := false) hc33 rfl ?_;exact cl zxV rfl (fun r36 w hr36 hO => zg6 zcz ([r34] : List Str) r36 _ (hG.o hO) c_87 (fun y0 r w hG h => zi9 (zj6 y0 r w hG h)) (hO.rowSees (i := 0) rfl) (hO.rowCap (i := 0) rfl) hr36) fun r36 hr36 => ec0 [1,2,3,4] rfl rfl rfl;refine oJ1 tb fun t37 => ?_;rw [zab];refine br0 rfl ?_ ?_
 exact bu0 zis rfl rfl <| st 3 rfl rfl <| nl 110 2 <| rm0 Tryz.results118 [0] [4] rfl
 refine ld 1 rfl rfl ?_
 exact cl zuM rfl (fun r41 w hr41 hO => zb9 r23.2 r41 _ (hG.o hO) (hO.blkSees (i := 0) rfl) hr41) fun r41 hr41 => bu0 (.agg #[int 2,str [],str [],int r26.1,str r41,int r14.1, .slice none 0 0]) rfl rfl <| st 3 rfl rfl <| nl 110 2 <| rm0 Tryz.results118 [0] [4] rfl

theorem ziA (x_kind : Int) (x_s : Str) (R : api_Head × Int) (w0 : World) (hG : za2 w0) (hm : zdc x_kind x_s = some R) :
    Calls prog 80 #[int x_kind,str x_s] w0 fun e w' => ∃ p0 c0,e = .returned (.tuple #[(zir R.1 p0 c0),int R.2]) ∧ Dk.Own w0 [] w' [.row (.slice p0 R.1.Fields.length c0) 110 2 R.1.Fields.length (cells zb R.1.Fields)] := by
 rw [zdc] at hm;refine S.ent0 tb Tryz.func80 rfl Tryz.ntmps80 rfl hm ?_
 refine al zkb rfl fun b1 => nl 110 2 <| jv 2 [0,1,4] [0,1] (fun J E L => ∃ t4,J ((6, .bool t4) :: E) (L) (zdF x_kind x_s t4)) rfl ?_ ?_
 refine br0 rfl ?_ ?_;exact en0 rfl;exact en0 rfl;refine oJ1 tb fun t4 => ?_;rw [zdF];refine br0 rfl ?_ ?_
 exact bu0 zis rfl rfl <| st 1 rfl rfl <| nl 110 2 <| rm0 Tryz.results80 [0] [2] rfl
 refine clg c_116 (fun h => (hG.o h).1) rfl (zi4 x_s [13,10]) fun r7 hr7 => br0 rfl ?_ ?_
 exact bu0 zis rfl rfl <| st 1 rfl rfl <| nl 110 2 <| rm0 Tryz.results80 [0] [2] rfl
 refine br0 rfl ?_ ?_
 exact cm2 c_117 rfl (fun r13 w hr13 hO => zoN x_s r13 _ (hG.o hO) hr13) fun r13 hr13 p14 c15 => st 2 rfl rfl <| rm0 Tryz.results80 [0] [2] rfl
 exact cm2 c_118 rfl (fun r18 w hr18 hO => zpz x_s r18 _ (hG.o hO).1 hr18) fun r18 hr18 p19 c20 => st 2 rfl rfl <| rm0 Tryz.results80 [0] [2] rfl

theorem zi1 (x_c : scan_Scanner) (R : Str × scan_Scanner) (w0 : World) (hG : zo w0) {x_c_b0 : Nat} {F : List Nat} (hF : zfF F) (hO : Dk.Own w0 F w0 [.blk x_c_b0 [str x_c.f_s,int x_c.f_at] 277]) (hm : zaP x_c = some R) :
    Calls prog 197 #[ptr x_c_b0 0] w0 fun e w' => e = .returned (str R.1) ∧ Dk.Own w0 F w' [.blk x_c_b0 [str R.2.f_s,int R.2.f_at] 277] := by
 rw [zaP] at hm;refine S.enter tb Tryz.func197 rfl Tryz.ntmps197 rfl ?_ hO hm;exact cw0 zwy [0] 1 [] rfl (fun r2 w hr2 hO hfar3 hlend3 => zc0 x_c zez r2 _ (hG.own hF hO) hfar3 hlend3 c_124 (fun y0 r w hG h => zi9 (zm9 y0 r w hG h)) hr2) (fun _ _ => trivial) hF hG.size fun r2 hr2 => rm0 Tryz.results197 [0] [] rfl

end Go.Proofs
end
section
set_option linter.unusedVariables false
set_option maxHeartbeats 1000000
set_option linter.unusedSimpArgs false
set_option maxRecDepth 100000
namespace Go.Proofs
open Go.Dk Go.Dm Go.RowKit
open Tryz (prog)
set_option maxHeartbeats 1000000

theorem ziB (x_s : Str) (R : api_Field × Int) (w0 : World) (hG : zo w0) (hm : zcf x_s = some R) :
    Calls prog 153 #[str x_s] w0 (Ret w0 (fun R => .tuple #[.agg #[str R.1.Name,str R.1.Value],int R.2]) R) := by
 rw [zcf] at hm;refine S.ent0 tb Tryz.func153 rfl Tryz.ntmps153 rfl hm ?_;refine al znx rfl fun b1 => clg c_116 hG.o rfl (zi4 x_s [13,10]) fun r3 hr3 => br0 rfl ?_ ?_
 exact bu0 (.agg #[str [],str []]) rfl rfl <| st 0 rfl rfl <| rb0 Tryz.results153 [0] rfl
 refine cm1 zuL rfl (fun r8 w hr8 hO => zjq x_s r8 _ (hG.o hO) hr8) fun r8 hr8 b9 => ?_;refine cw0 c_197 [0,1] 1 [] rfl (fun r11 w hr11 hO hfar12 hlend12 => zi1 r8 r11 _ (hG.o hO) hfar12 hlend12 hr11) (fun _ _ => trivial) zad hG.size fun r11 hr11 => br0 rfl ?_ ?_
 exact bu0 (.agg #[str [],str []]) rfl rfl <| st 1 rfl rfl <| rb0 Tryz.results153 [1] rfl
 refine cw0 zyO [0,1] 1 [] rfl (fun r17 w hr17 hO hfar18 hlend18 => zet r11.2 r17 _ (hG.o hO) hfar18 hlend18 hr17) (fun _ _ => trivial) zad hG.size fun r17 hr17 => ?_;refine cw0 c_197 [0,1] 1 [] rfl (fun r20 w hr20 hO hfar21 hlend21 => zi1 r17.2.2 r20 _ (hG.o hO) hfar21 hlend21 hr20) (fun _ _ => trivial) zad hG.size fun r20 hr20 => jv 2 [2,4,5,7] [1] (fun J E L => ∃ t26 s27 i28,J ((24, .bool t26) :: E) (.blk b9 [str s27,int i28] 277 :: L) (zdG r17 r20 t26 s27 i28)) rfl ?_ ?_;refine br rfl (fun hc23 => ?_) fun hc23 => ?_;exact en0 rfl
 exact cw0 ziZ [0,1] 1 [] rfl (fun r24 w hr24 hO hfar25 hlend25 => zs r20.2 58 r24 _ (hG.o hO) hfar25 hlend25 hr24) (fun _ _ => trivial) zad hG.size fun r24 hr24 => kn (b' := false) hc23 rfl <| en0 rfl
 refine oJ3 tb fun t26 s27 i28 => ?_;rw [zdG];refine br0 rfl ?_ ?_
 exact bu0 (.agg #[str [],str []]) rfl rfl <| st 1 rfl rfl <| rb0 Tryz.results153 [1] rfl
 refine br0 rfl ?_ ?_
 exact bu0 (.agg #[str [],str []]) rfl rfl <| st 1 rfl rfl <| rb0 Tryz.results153 [1] rfl
 refine cl zuM rfl (fun r34 w hr34 hO => zb9 (⟨s27,i28⟩ : scan_Scanner) r34 _ (hG.o hO) (hO.blkSees (i := 0) rfl) hr34) fun r34 hr34 => rw_ rfl fun a w hf hO hm => ?_;refine zn (vs := [(0,str r34)]) (cs := [str r34]) (e := 9) (sz := 1) hf rfl rfl (fun w => by kernel_rfl) rfl rfl hO fun a b35 w hf hO => ?_;refine S.op tb ?_ hf hO hm;refine cl zxV rfl (fun r36 w hr36 hO => zg6 zcz ([r34] : List Str) r36 _ (hG.o hO) c_87 (fun y0 r w hG h => zi9 (zj6 y0 r w hG h)) (hO.rowSees (i := 0) rfl) (hO.rowCap (i := 0) rfl) hr36) fun r36 hr36 => br0 rfl ?_ ?_
 exact bu0 (.agg #[str [],str []]) rfl rfl <| st 2 rfl rfl <| rb0 Tryz.results153 [2] rfl
 exact cl zuM rfl (fun r41 w hr41 hO => zb9 (⟨s27,i28⟩ : scan_Scanner) r41 _ (hG.o hO) (hO.blkSees (i := 1) rfl) hr41) fun r41 hr41 => clg c_88 hG.o rfl (znn r41 [32,9]) fun r42 hr42 => bu0 (.agg #[str r17.1,str r42]) rfl rfl <| st 2 rfl rfl <| rb0 Tryz.results153 [2] rfl

theorem zdi (x_s : List api_Field) (R : List api_Field) (w0 : World) (hG : zo w0) {x_s_p0 : Option Addr} {x_s_c0 : Nat} (hs0 : zH w0 x_s_p0 (cells zb x_s)) (hc0 : x_s.length ≤ x_s_c0) (hm : zK x_s = some R) :
    Calls prog 180 #[.slice x_s_p0 x_s.length x_s_c0] w0 fun e w' => ∃ p0 c0,e = .returned (.slice p0 R.length c0) ∧ Dk.Own w0 [] w' [.row (.slice p0 R.length c0) 110 2 R.length (cells zb R)] := by
 rw [zK] at hm;have hO := Dk.Own.refl w0;have hO := hO.addS hs0;refine S.enter tb Tryz.func180 rfl Tryz.ntmps180 rfl ?_ hO hm
 refine nl 110 2 <| vl rfl rfl (fun a w hf hO => zzj (ad := x_s_p0) Tryz.underlying33 hf rfl rfl) <| rc_ rfl fun a w hf hO hm => ?_
 rcases zdX (x_s_p0.isNone) with hc3 | hc3
 have hxhc3 : x_s = [] := zzk (enc := zb) (sz := 2) (fun _ => rfl) (by decide) (hO.sees (i := 1) rfl) hc3;rw [hxhc3] at hm
 have hm : some [] = some R := by first | exact hm | (rw [hxhc3]; exact hm) | simpa [hxhc3] using hm
 refine zzN hf rfl hc3 ?_;refine S.co tb ?_ hf hO hm
 exact nl 110 2 <| rm0 Tryz.results180 [0] [] rfl
 refine zzO hf rfl hc3 ?_;refine S.co tb ?_ hf hO hm;refine rw_ rfl fun a w hf hO hm => ?_;refine zn (vs := []) (cs := []) (e := 110) (sz := 2) hf rfl rfl (fun w => by kernel_rfl) rfl rfl hO fun a b6 w hf hO => ?_;refine S.op tb ?_ hf hO hm;refine rw_ rfl fun a w hf hO hm => ?_;obtain ⟨hg9,hm⟩ := og hm;refine zmt zsF (enc := zb) (xs := []) (ys := x_s) (i := 0) (fun _ => rfl) rfl (hO.sees (i := 2) rfl) (by simp [zb,Value.oneCell']) hg9 hf rfl rfl rfl hO fun a p7 c8 w hf hO => ?_;refine S.op tb ?_ hf hO hm;exact rm0 Tryz.results180 [0] [] rfl

theorem zq9 (x_l : List api_Field) (R : bag_Bag) (w0 : World) (hG : zo w0) {x_l_p0 : Option Addr} {x_l_c0 : Nat} (hs0 : zH w0 x_l_p0 (cells zb x_l)) (hc0 : x_l.length ≤ x_l_c0) (hm : zoA x_l = some R) :
    Calls prog 132 #[.slice x_l_p0 x_l.length x_l_c0] w0 fun e w' => ∃ b0 p1 c1,e = .returned (ptr b0 0) ∧ Dk.Own w0 [] w' [.blk b0 [.slice p1 R.f_l.length c1] 263, .row (.slice p1 R.f_l.length c1) 110 2 R.f_l.length (cells zb R.f_l)] := by
 rw [zoA] at hm;have hO := Dk.Own.refl w0;have hO := hO.addS hs0;refine S.enter tb Tryz.func132 rfl Tryz.ntmps132 rfl ?_ hO hm
 exact cm2 c_180 rfl (fun r2 w hr2 hO => zdi x_l r2 _ (hG.o hO) (hO.sees (i := 0) rfl) hc0 hr2) fun r2 hr2 p3 c4 => bu0 (.agg #[.slice p3 r2.length c4]) rfl rfl <| bo rfl fun b5 => rm0 Tryz.results132 [0,1] [] rfl

theorem ztq (x_b : bag_Bag) (R : List api_Field) (w0 : World) (hG : zo w0) {x_b_b0 : Nat} {x_b_p1 : Option Addr} {x_b_c1 : Nat} (hs0 : zH w0 (some ⟨x_b_b0,0,none⟩) [.slice x_b_p1 x_b.f_l.length x_b_c1]) (hs1 : zH w0 x_b_p1 (cells zb x_b.f_l)) (hc1 : x_b.f_l.length ≤ x_b_c1) (hm : zkm x_b = some R) :
    Calls prog 181 #[ptr x_b_b0 0] w0 fun e w' => ∃ p0 c0,e = .returned (.slice p0 R.length c0) ∧ Dk.Own w0 [] w' [.row (.slice p0 R.length c0) 110 2 R.length (cells zb R)] := by
 rw [zkm] at hm;have hO := Dk.Own.refl w0;have hO := hO.addS hs0;have hO := hO.addS hs1;refine S.enter tb Tryz.func181 rfl Tryz.ntmps181 rfl ?_ hO hm
 refine nl 110 2 <| vl rfl rfl (fun a w hf hO => zc2 Tryz.underlying211 hf rfl rfl) <| kn (b' := false) rfl rfl <| ld 2 rfl rfl ?_
 exact cm2 c_180 rfl (fun r4 w hr4 hO => zdi x_b.f_l r4 _ (hG.o hO) (hO.sees (i := 1) rfl) hc1 hr4) fun r4 hr4 p5 c6 => rm0 Tryz.results181 [0] [] rfl

theorem zqd (x_a : Str) (x_b : Str) (R : Bool) (w0 : World) (hG : zo w0) (hm : zjk x_a x_b = some R) :
    Calls prog 182 #[str x_a,str x_b] w0 (Ret w0 (fun R => .bool R) R) := by
 rw [zjk] at hm;refine S.ent0 tb Tryz.func182 rfl Tryz.ntmps182 rfl hm ?_;exact clg zB5 hG.o rfl (zmy x_a) fun r2 hr2 => clg zB5 hG.o rfl (zmy x_b) fun r3 hr3 => rt Tryz.results182 rfl

theorem zji (x_b : bag_Bag) (x_name : Str) (R : List Str) (w0 : World) (hG : zo w0) {x_b_b0 : Nat} {x_b_p1 : Option Addr} {x_b_c1 : Nat} (hs0 : zH w0 (some ⟨x_b_b0,0,none⟩) [.slice x_b_p1 x_b.f_l.length x_b_c1]) (hs1 : zH w0 x_b_p1 (cells zb x_b.f_l)) (hc1 : x_b.f_l.length ≤ x_b_c1) (hm : zdH x_b x_name = some R) :
    Calls prog 133 #[ptr x_b_b0 0,str x_name] w0 fun e w' => ∃ p0 c0,e = .returned (.slice p0 R.length c0) ∧ Dk.Own w0 [] w' [.row (.slice p0 R.length c0) 9 1 R.length (cells zd R)] := by
 rw [zdH] at hm;have hO := Dk.Own.refl w0;have hO := hO.addS hs0;have hO := hO.addS hs1;refine S.enter tb Tryz.func133 rfl Tryz.ntmps133 rfl ?_ hO hm
 refine nl 9 1 <| nl 9 1 ?_
 refine cm2 c_181 rfl (fun r3 w hr3 hO => ztq x_b r3 _ (hG.o hO) (hO.sees (i := 3) rfl) (hO.sees (i := 2) rfl) hc1 hr3) fun r3 hr3 p4 c5 => ch [1,0,2,3,4] rfl rfl ?_;refine lw [1,9,10] [1,2,3,4] (fun J E L k => ∃ p7 c8, ∃ (l9 : List Str), ∃ i10,J ((5, .slice p7 l9.length c8) :: (11,int i10) :: E) (.row (.slice p7 l9.length c8) 9 1 l9.length (cells zd l9) :: L) (zbi x_name r3 k l9 i10)) rfl ?_;refine lJ4 tb fun n1 p7 c8 l9 i10 => ?_;rw [zbi];refine br0 rfl ?_ ?_;refine jv 3 [1,9,10,11] [1,2,3,4] (fun J E L => ∃ p26 c27, ∃ (l28 : List Str),J ((5, .slice p26 l28.length c27) :: E) (.row (.slice p26 l28.length c27) 9 1 l28.length (cells zd l28) :: L) (zej (zbi x_name r3 n1) i10 l28)) rfl ?_ ?_;refine rw_ rfl fun a w hf hO hm => ?_;obtain ⟨x14,hx14,hm⟩ := ob hm;obtain ⟨b15,o16,hix14,hSx14,hAx14⟩ := zG (enc := zb) (sz := 2) (xs := r3) 33 Tryz.underlying33 zlA (by decide) (fun _ => rfl) hO (i := 1) rfl hx14;refine zY (zg hix14 hf rfl rfl) rfl hf rfl rfl fun a hf => ?_;refine S.op tb ?_ hf hO hm
 refine vl rfl rfl (fun a w hf hO => zgo (o := 0) (vs := [str x14.Name,str x14.Value]) zsE zlA (hSx14 _ (hO.rowSees (i := 1) rfl)) rfl rfl hf rfl) <| al znx rfl fun b17 => st 0 rfl rfl <| ld 0 rfl rfl <| clg c_182 hG.o rfl (zqd x14.Name x_name) fun r19 hr19 => br0 rfl ?_ ?_
 refine ld 0 rfl rfl <| rw_ rfl fun a w hf hO hm => ?_
 refine zn (vs := [(0,str x14.Value)]) (cs := [str x14.Value]) (e := 9) (sz := 1) hf rfl rfl (fun w => by kernel_rfl) rfl rfl hO fun a b22 w hf hO => ?_;refine S.op tb ?_ hf hO hm;refine rw_ rfl fun a w hf hO hm => ?_;obtain ⟨hg25,hm⟩ := og hm;refine zaC znz (enc := zd) (xs := l9) (ys := ([x14.Value] : List Str)) (i := 2) (fun _ => rfl) rfl (hO.rowSees (i := 0) rfl) (by simp [cells,zd,Value.oneCell']) hg25 hf rfl rfl rfl hO fun a p23 c24 w hf hO => ?_;refine S.op tb ?_ hf hO hm;exact ec0 [2,3,4,5,6] rfl rfl rfl;exact ec0 [1,2,3,4,5] rfl rfl rfl;refine oJ3 tb fun p26 c27 l28 => ?_;rw [zej];exact bi rfl fun i29 hi29 => el0 rfl;exact rm0 Tryz.results133 [0] [] rfl

theorem zvX (x_h : api_Head) (R : Bool) (w0 : World) (hG : za2 w0) {x_h_p0 : Option Addr} {x_h_c0 : Nat} (hs0 : zH w0 x_h_p0 (cells zb x_h.Fields)) (hc0 : x_h.Fields.length ≤ x_h_c0) (hm : zkR x_h = some R) :
    Calls prog 89 #[(zir x_h x_h_p0 x_h_c0)] w0 (Ret w0 (fun R => .bool R) R) := by
 rw [zkR] at hm;have hO := Dk.Own.refl w0;have hO := hO.addS hs0;refine S.enter tb Tryz.func89 rfl Tryz.ntmps89 rfl ?_ hO hm
 refine bo rfl fun b1 => ld 0 rfl rfl <| br0 rfl ?_ ?_
 exact rt Tryz.results89 rfl;refine ld 0 rfl rfl ?_;refine cm3 c_132 rfl (fun r7 w hr7 hO => zq9 x_h.Fields r7 _ (hG.o hO).1 (hO.sees (i := 1) rfl) hc0 hr7) fun r7 hr7 b8 p9 c10 => ?_;refine cm2 zB1 rfl (fun r11 w hr11 hO => zji r7 [72,111,115,116] r11 _ (hG.o hO).1 (hO.blkSees (i := 0) rfl) (hO.rowSees (i := 1) rfl) (hO.rowCap (i := 1) rfl) hr11) fun r11 hr11 p12 c13 => jv 1 [3] [0,1,2,3,4] (fun J E L => ∃ t16,J ((24, .bool t16) :: E) (L) (zeA r11 t16)) rfl ?_ ?_;refine br0 rfl ?_ ?_;exact en0 rfl
 exact ld 3 rfl rfl <| en0 rfl
 refine oJ1 tb fun t16 => ?_;rw [zeA];refine br0 rfl ?_ ?_;exact rt Tryz.results89 rfl;refine lw [25,26] [0,1,2,3,4] (fun J E L k => ∃ i21,J ((27,int i21) :: E) (L) (zds r11 k i21)) rfl ?_;refine lJ1 tb fun n2 i21 => ?_;rw [zds];refine br0 rfl ?_ ?_;refine rw_ rfl fun a w hf hO hm => ?_;obtain ⟨x25,hx25,hm⟩ := ob hm;obtain ⟨b26,o27,hix25,hSx25,hAx25⟩ := zG (enc := zd) (sz := 1) (xs := r11) 30 Tryz.underlying30 zex (by decide) (fun _ => rfl) hO (i := 0) rfl hx25;refine zY (zg hix25 hf rfl rfl) rfl hf rfl rfl fun a hf => ?_;refine S.op tb ?_ hf hO hm
 refine vl rfl rfl (fun a w hf hO => zh (o := 0) zdp (hSx25 _ (hO.rowSees (i := 0) rfl)) rfl hf rfl) <| clg zB2 hG.o rfl (zjg x25) fun r29 hr29 => al zit rfl fun b30 => st 0 rfl rfl <| jv 5 [25,26,27] [0,1,2,3,4,5] (fun J E L => ∃ t33,J ((41, .bool t33) :: E) (L) (zhA (zds r11 n2) i21 t33)) rfl ?_ ?_
 refine br0 rfl ?_ ?_;exact en0 rfl;exact en0 rfl;refine oJ1 tb fun t33 => ?_;rw [zhA];refine br0 rfl ?_ ?_;exact rt Tryz.results89 rfl;exact bi rfl fun i37 hi37 => ecl [1,2,3,4,5] rfl rfl rfl;exact rt Tryz.results89 rfl

theorem zvY (x_h : api_Head) (R : Int) (w0 : World) (hG : za2 w0) {x_h_p0 : Option Addr} {x_h_c0 : Nat} (hs0 : zH w0 x_h_p0 (cells zb x_h.Fields)) (hc0 : x_h.Fields.length ≤ x_h_c0) (hm : zkS x_h = some R) :
    Calls prog 60 #[(zir x_h x_h_p0 x_h_c0)] w0 (Ret w0 (fun R => int R) R) := by
 rw [zkS] at hm;have hO := Dk.Own.refl w0;have hO := hO.addS hs0;refine S.enter tb Tryz.func60 rfl Tryz.ntmps60 rfl ?_ hO hm
 refine bo rfl fun b1 => ld 0 rfl rfl <| br0 rfl ?_ ?_
 exact rt Tryz.results60 rfl;refine ld 0 rfl rfl ?_;refine cl c_89 rfl (fun r6 w hr6 hO => zvX x_h r6 _ (hG.o hO) (hO.sees (i := 1) rfl) hc0 hr6) fun r6 hr6 => br0 rfl ?_ ?_;exact rt Tryz.results60 rfl;exact rt Tryz.results60 rfl

theorem zvZ (x_a0 : Int) (x_a1 : Str) (x_a2 : Int) (R : api_Head × Int) (w0 : World) (hG : za2 w0) (hm : zkT x_a0 x_a1 x_a2 = some R) :
    Calls prog 154 #[int x_a0,str x_a1,int x_a2] w0 fun e w' => ∃ p0 c0,e = .returned (.tuple #[(zir R.1 p0 c0),int R.2]) ∧ Dk.Own w0 [] w' [.row (.slice p0 R.1.Fields.length c0) 110 2 R.1.Fields.length (cells zb R.1.Fields)] := by
 rw [zkT] at hm;refine S.ent0 tb Tryz.func154 rfl Tryz.ntmps154 rfl hm ?_
 refine al zkb rfl fun b1 => nl 110 2 <| cm2 c_80 rfl (fun r3 w hr3 hO => ziA x_a0 [] r3 _ (hG.o hO) hr3) fun r3 hr3 p4 c5 => al zkb rfl fun b6 => nl 110 2 <| st 1 rfl rfl <| br0 rfl ?_ ?_
 exact bu0 zis rfl rfl <| st 4 rfl rfl <| nl 110 2 <| rm0 Tryz.results154 [0] [5] rfl
 refine clg c_198 (fun h => (hG.o h).1) rfl (zj2 x_a1 [13,10,13,10]) fun r12 hr12 => br0 rfl ?_ ?_
 exact bu0 zis rfl rfl <| st 4 rfl rfl <| nl 110 2 <| rm0 Tryz.results154 [0] [5] rfl
 refine jv 2 [0,1,6,10] [0,1,2,3,4] (fun J E L => ∃ t19,J ((36, .bool t19) :: E) (L) (zfW x_a0 x_a1 r12 t19)) rfl ?_ ?_;refine br0 rfl ?_ ?_;exact en0 rfl;exact bi rfl fun i18 hi18 => en0 rfl;refine oJ1 tb fun t19 => ?_;rw [zfW];refine br0 rfl ?_ ?_
 exact bu0 zis rfl rfl <| st 4 rfl rfl <| nl 110 2 <| rm0 Tryz.results154 [0] [5] rfl
 refine bi rfl fun s23 hs23 => cm2 c_199 rfl (fun r24 w hr24 hO => zmX s23 [13,10] r24 _ (hG.o hO).1 hr24) fun r24 hr24 p25 c26 => rw_ rfl fun a w hf hO hm => ?_;obtain ⟨x28,hx28,hm⟩ := ob hm;obtain ⟨b29,o30,hix28,hSx28,hAx28⟩ := zG (enc := zd) (sz := 1) (xs := r24) 30 Tryz.underlying30 zex (by decide) (fun _ => rfl) hO (i := 0) rfl hx28;refine zY (zg hix28 hf rfl rfl) rfl hf rfl rfl fun a hf => ?_;refine S.op tb ?_ hf hO hm
 refine vl rfl rfl (fun a w hf hO => zh (o := 0) zdp (hSx28 _ (hO.rowSees (i := 0) rfl)) rfl hf rfl) <| cm2 c_80 rfl (fun r31 w hr31 hO => ziA x_a0 x28 r31 _ (hG.o hO) hr31) fun r31 hr31 p32 c33 => al zkb rfl fun b34 => nl 110 2 <| st 1 rfl rfl <| br0 rfl ?_ ?_
 exact bu0 zis rfl rfl <| st 8 rfl rfl <| nl 110 2 <| rm0 Tryz.results154 [0] [9] rfl
 refine jv 0 [6,12] [0,4,5,6,7,8] (fun J E L => ∃ i75 s76 s77 i78 s79 i80 p81 c82, ∃ (l83 : List api_Field),J (E) (.blk b34 [int i75,str s76,str s77,int i78,str s79,int i80, .slice p81 l83.length c82] 35 :: .row (.slice p81 l83.length c82) 110 2 l83.length (cells zb l83) :: .shr p25 (cells zd r24) :: L) (zhB i75 s76 s77 i78 s79 i80 l83)) rfl ?_ ?_;refine rw_ rfl fun a w hf hO hm => ?_;obtain ⟨l41,hl41,hm⟩ := ob hm;have hcr40 := hO.rowCap (i := 3) rfl;have hO := hO.giveRow (i := 3) rfl;obtain ⟨p42,c43,hrl41,hVl41,hCl41,hPl41⟩ := zzH (enc := zd) (xs := r24) 30 Tryz.underlying30 zex (fun _ => rfl) (hO.sees (i := 3) rfl) hcr40 hl41;have hO := hO.share (i := 3) rfl hPl41 (hVl41 _ (hO.sees (i := 3) rfl));refine zY (zvD Tryz.underlying30 hrl41 hf rfl rfl) rfl hf rfl rfl fun a hf => ?_;refine S.op tb ?_ hf hO hm;refine ch [2,3,0,1,4,5,6,7,8,9] rfl rfl ?_;refine lw [6,12,64,65] [2,3,4,5,6,7,8,9] (fun J E L k => ∃ i45 s46 s47 i48 s49 i50 p51 c52, ∃ (l53 : List api_Field), ∃ i54,J ((66,int i54) :: E) (.blk b34 [int i45,str s46,str s47,int i48,str s49,int i50, .slice p51 l53.length c52] 35 :: .row (.slice p51 l53.length c52) 110 2 l53.length (cells zb l53) :: L) (zfV l41 k i45 s46 s47 i48 s49 i50 l53 i54)) rfl ?_;refine lJ10 tb fun n2 i45 s46 s47 i48 s49 i50 p51 c52 l53 i54 => ?_;rw [zfV];refine br0 rfl ?_ ?_;refine rw_ rfl fun a w hf hO hm => ?_;obtain ⟨x58,hx58,hm⟩ := ob hm;obtain ⟨b59,o60,hix58,hSx58⟩ := zgp (enc := zd) (sz := 1) (xs := l41) 30 Tryz.underlying30 zex (by decide) (fun _ => rfl) (hO.sees (i := 2) rfl) hx58;refine zY (zg hix58 hf rfl rfl) rfl hf rfl rfl fun a hf => ?_;refine S.op tb ?_ hf hO hm
 refine vl rfl rfl (fun a w hf hO => zh (o := 0) zdp (hSx58 _ (hO.sees (i := 2) rfl)) rfl hf rfl) <| clg zB4 (fun h => (hG.o h).1) rfl (ziB x58) fun r62 hr62 => al znx rfl fun b63 => st 0 rfl rfl <| br0 rfl ?_ ?_
 exact bu0 zis rfl rfl <| st 10 rfl rfl <| nl 110 2 <| rm0 Tryz.results154 [0] [11] rfl
 refine ld 1 rfl rfl <| ld 0 rfl rfl <| rw_ rfl fun a w hf hO hm => ?_
 refine zn (vs := [(0, .agg #[str r62.1.Name,str r62.1.Value])]) (cs := [str r62.1.Name,str r62.1.Value]) (e := 110) (sz := 2) hf rfl rfl (fun w => by kernel_rfl) rfl rfl hO fun a b69 w hf hO => ?_;refine S.op tb ?_ hf hO hm;refine rw_ rfl fun a w hf hO hm => ?_;obtain ⟨hg72,hm⟩ := og hm;refine zaC zsF (enc := zb) (xs := l53) (ys := [r62.1]) (i := 3) (fun _ => rfl) rfl (hO.rowSees (i := 0) rfl) (by simp [cells,zb,Value.oneCell']) hg72 hf rfl rfl rfl hO fun a p70 c71 w hf hO => ?_;refine S.op tb ?_ hf hO hm
 exact st 2 rfl rfl <| bi rfl fun i74 hi74 => ecl [2,3,4,5,6,7,8,9,10,11] rfl rfl rfl
 exact ec0 [0,1,4,3,5,6,7,8,9] rfl rfl rfl;refine oJ9 tb fun i75 s76 s77 i78 s79 i80 p81 c82 l83 => ?_;rw [zhB];refine ld 0 rfl rfl ?_;refine cl c_60 rfl (fun r84 w hr84 hO => zvY (⟨i75,s76,s77,i78,s79,i80,l83⟩ : api_Head) r84 _ (hG.o hO) (hO.rowSees (i := 1) rfl) (hO.rowCap (i := 1) rfl) hr84) fun r84 hr84 => br0 rfl ?_ ?_
 exact bu0 zis rfl rfl <| st 8 rfl rfl <| nl 110 2 <| rm0 Tryz.results154 [0] [9] rfl
 exact ld 0 rfl rfl <| st 8 rfl rfl <| rm0 Tryz.results154 [1] [8] rfl

theorem zpB (x_a : accum_Accum) (x_s : Str) (R : Bool × Int × accum_Accum) (w0 : World) (hG : za2 w0) {x_a_b0 : Nat} {x_a_p1 : Option Addr} {x_a_c1 : Nat} {x_a_p2 : Option Addr} {x_a_c2 : Nat} {F : List Nat} (hF : zfF F) (hO : Dk.Own w0 F w0 [.blk x_a_b0 (zli x_a x_a_p1 x_a_c1 x_a_p2 x_a_c2) 143, .row (.slice x_a_p1 x_a.f_buf.length x_a_c1) 5 1 x_a.f_buf.length (cells zi x_a.f_buf), .row (.slice x_a_p2 x_a.f_got.Fields.length x_a_c2) 110 2 x_a.f_got.Fields.length (cells zb x_a.f_got.Fields)]) (hm : zeW x_a x_s = some R) :
    Calls prog 112 #[ptr x_a_b0 0,str x_s] w0 fun e w' => ∃ p0 c0 p1 c1,e = .returned (.tuple #[.bool R.1,int R.2.1]) ∧ Dk.Own w0 F w' [.blk x_a_b0 (zli R.2.2 p0 c0 p1 c1) 143, .row (.slice p0 R.2.2.f_buf.length c0) 5 1 R.2.2.f_buf.length (cells zi R.2.2.f_buf), .row (.slice p1 R.2.2.f_got.Fields.length c1) 110 2 R.2.2.f_got.Fields.length (cells zb R.2.2.f_got.Fields)] := by
 rw [zeW] at hm;refine S.enter tb Tryz.func112 rfl Tryz.ntmps112 rfl ?_ hO hm;refine jv 0 [0] [0,1,2] (fun J E L => ∃ i16,J ((6,int i16) :: E) (L) (zdl x_a i16)) rfl ?_ ?_
 refine ld 0 rfl rfl <| br0 rfl ?_ ?_
 exact ld 0 rfl rfl <| cm2 c_80 rfl (fun r5 w hr5 hO => ziA x_a.f_kind x_s r5 _ (hG.own hF hO) hr5) fun r5 hr5 p6 c7 => ec0 [1,2,3] rfl rfl rfl
 refine br0 rfl ?_ ?_;exact clg zB4 (fun h => (hG.own hF h).1) rfl (ziB x_s) fun r10 hr10 => en0 rfl;refine rc_ rfl fun a w hf hO hm => ?_;obtain ⟨r11,hr11,hm⟩ := ob hm;refine dS (S := Option Addr × Nat) [(0,ptr x_a_b0 0)] (fun σ => (fun (q0 q1 q2 q3 : Res) => [[q0,q1,q2],[q3,q0,q1,q2],[q3, .blk x_a_b0 [int x_a.f_kind,int x_a.f_limit, .slice x_a_p1 x_a.f_buf.length x_a_c1,int x_a.f_from, .bool x_a.f_took,int x_a.f_bad, .bool x_a.f_whole,int r11.1.Kind,str r11.1.Method,str r11.1.Target,int r11.1.Code,str r11.1.Reason,int r11.1.Minor, .slice (σ.1) r11.1.Fields.length (σ.2)] 143,q1,q2]]) (.blk x_a_b0 (zli x_a x_a_p1 x_a_c1 x_a_p2 x_a_c2) 143) (.row (.slice x_a_p1 x_a.f_buf.length x_a_c1) 5 1 x_a.f_buf.length (cells zi x_a.f_buf)) (.row (.slice x_a_p2 x_a.f_got.Fields.length x_a_c2) 110 2 x_a.f_got.Fields.length (cells zb x_a.f_got.Fields)) (.row (.slice (σ.1) r11.1.Fields.length (σ.2)) 110 2 r11.1.Fields.length (cells zb r11.1.Fields))) (fun σ => [⟨[(0,ptr x_a_b0 0)],some (8,ptr x_a_b0 0)⟩,⟨[(0,ptr x_a_b0 0)],some (9,ptr x_a_b0 0)⟩,⟨[(9,ptr x_a_b0 0)],some (10,ptr x_a_b0 0)⟩,⟨[(10,ptr x_a_b0 0)],some (11,ptr x_a_b0 0)⟩,⟨[(11,ptr x_a_b0 0)],some (12,int x_a.f_kind)⟩,⟨[(0,ptr x_a_b0 0)],some (13,ptr x_a_b0 0)⟩,⟨[(13,ptr x_a_b0 0)],some (14,ptr x_a_b0 0)⟩,⟨[(14,ptr x_a_b0 0)],some (15,ptr x_a_b0 2)⟩,⟨[(15,ptr x_a_b0 2)],some (16, .slice x_a_p1 x_a.f_buf.length x_a_c1)⟩,⟨[(16, .slice x_a_p1 x_a.f_buf.length x_a_c1)],some (17,str x_a.f_buf)⟩,⟨[(0,ptr x_a_b0 0)],some (18,ptr x_a_b0 0)⟩,⟨[(18,ptr x_a_b0 0)],some (19,ptr x_a_b0 0)⟩,⟨[(19,ptr x_a_b0 0)],some (20,ptr x_a_b0 1)⟩,⟨[(20,ptr x_a_b0 1)],some (21,int x_a.f_limit)⟩,⟨[(12,int x_a.f_kind),(17,str x_a.f_buf),(21,int x_a.f_limit)],some (22, .tuple #[(zir r11.1 (σ.1) (σ.2)),int r11.2])⟩,⟨[(22, .tuple #[(zir r11.1 (σ.1) (σ.2)),int r11.2])],some (7, .tuple #[(zir r11.1 (σ.1) (σ.2)),int r11.2])⟩,⟨[(7, .tuple #[(zir r11.1 (σ.1) (σ.2)),int r11.2])],some (23,(zir r11.1 (σ.1) (σ.2)))⟩,⟨[(7, .tuple #[(zir r11.1 (σ.1) (σ.2)),int r11.2])],some (24,int r11.2)⟩,⟨[(8,ptr x_a_b0 0)],some (25,ptr x_a_b0 0)⟩,⟨[(25,ptr x_a_b0 0)],some (26,ptr x_a_b0 7)⟩,⟨[(23,(zir r11.1 (σ.1) (σ.2))),(26,ptr x_a_b0 7)],none⟩,⟨[(24,int r11.2)],some (6,int r11.2)⟩]) (none,0) [14,20] hO hf ⟨sE tb,sE tb,sE tb,sE tb,sD tb 0 [0],sE tb,sE tb,sE tb,sD tb 0 [0],sL 0 0 (fun hf => fun hO => zkz (en := zi) (l := x_a.f_buf) (fun _ => rfl) Tryz.underlying9 Tryz.underlying141 Tryz.underlying5 (hO.rowSees (i := 1) rfl) hf rfl),sE tb,sE tb,sE tb,sD tb 0 [0],sC 0 (fun hf => zbU c_154 hf (vs := [int x_a.f_kind,str x_a.f_buf,int x_a.f_limit]) rfl) (@fun σ w hO => (zvZ x_a.f_kind x_a.f_buf x_a.f_limit r11 _ (hG.own hF hO) hr11).mono fun e w' ⟨p12,c13,he,hO'⟩ => cR (σ := σ) (p12,c13) he (hO.call hO' (by simp [Res.shared]))),sE tb,sE tb,sE tb,sE tb,sE tb,sK 1 (@fun σ w hO => match zz4 (x := (.tmp 26)) (y := (.tmp 23)) (E := [(23,(zir r11.1 (σ.1) (σ.2))),(26,ptr x_a_b0 7)]) (i := 1) (n := 7) (o := 7) (vs := [int r11.1.Kind,str r11.1.Method,str r11.1.Target,int r11.1.Code,str r11.1.Reason,int r11.1.Minor, .slice (σ.1) r11.1.Fields.length (σ.2)]) (cs' := [int x_a.f_kind,int x_a.f_limit, .slice x_a_p1 x_a.f_buf.length x_a_c1,int x_a.f_from, .bool x_a.f_took,int x_a.f_bad, .bool x_a.f_whole,int r11.1.Kind,str r11.1.Method,str r11.1.Target,int r11.1.Code,str r11.1.Reason,int r11.1.Minor, .slice (σ.1) r11.1.Fields.length (σ.2)]) zBV rfl rfl rfl (by simp [Value.oneCell']) rfl hO rfl rfl with | ⟨w',hO',hr⟩ => vR (σ := σ) ((σ.1),(σ.2)) hO' hr),sE tb,trivial⟩ ?_;rintro ⟨p12,c13⟩ a w hf hO;have hO : Dk.Own w0 F w [.row (.slice p12 r11.1.Fields.length c13) 110 2 r11.1.Fields.length (cells zb r11.1.Fields), .blk x_a_b0 [int x_a.f_kind,int x_a.f_limit, .slice x_a_p1 x_a.f_buf.length x_a_c1,int x_a.f_from, .bool x_a.f_took,int x_a.f_bad, .bool x_a.f_whole,int r11.1.Kind,str r11.1.Method,str r11.1.Target,int r11.1.Code,str r11.1.Reason,int r11.1.Minor, .slice p12 r11.1.Fields.length c13] 143, .row (.slice x_a_p1 x_a.f_buf.length x_a_c1) 5 1 x_a.f_buf.length (cells zi x_a.f_buf), .row (.slice x_a_p2 x_a.f_got.Fields.length x_a_c2) 110 2 x_a.f_got.Fields.length (cells zb x_a.f_got.Fields)] := hO;have hf : Fits 62 [(6,int r11.2)] a := (hf.cons rfl hf.nil);refine S.no tb ?_ hf hO hm;exact rm0 Tryz.results112 [1,2,0] [] rfl;refine oJ1 tb fun i16 => ?_;rw [zdl]
 exact ld 0 rfl rfl <| st 0 rfl rfl <| rm0 Tryz.results112 [0,1,2] [] rfl

theorem zpC (x_a : accum_Accum) (x_b : UInt8) (R : Bool × Int × accum_Accum) (w0 : World) (hG : za2 w0) {x_a_b0 : Nat} {x_a_p1 : Option Addr} {x_a_c1 : Nat} {x_a_p2 : Option Addr} {x_a_c2 : Nat} {F : List Nat} (hF : zfF F) (hO : Dk.Own w0 F w0 [.blk x_a_b0 (zli x_a x_a_p1 x_a_c1 x_a_p2 x_a_c2) 143, .row (.slice x_a_p1 x_a.f_buf.length x_a_c1) 5 1 x_a.f_buf.length (cells zi x_a.f_buf), .row (.slice x_a_p2 x_a.f_got.Fields.length x_a_c2) 110 2 x_a.f_got.Fields.length (cells zb x_a.f_got.Fields)]) (hm : zdx x_a x_b = some R) :
    Calls prog 73 #[ptr x_a_b0 0,zao x_b] w0 fun e w' => ∃ p0 c0 p1 c1,e = .returned (.tuple #[.bool R.1,int R.2.1]) ∧ Dk.Own w0 F w' [.blk x_a_b0 (zli R.2.2 p0 c0 p1 c1) 143, .row (.slice p0 R.2.2.f_buf.length c0) 5 1 R.2.2.f_buf.length (cells zi R.2.2.f_buf), .row (.slice p1 R.2.2.f_got.Fields.length c1) 110 2 R.2.2.f_got.Fields.length (cells zb R.2.2.f_got.Fields)] := by
 rw [zdx] at hm;refine S.enter tb Tryz.func73 rfl Tryz.ntmps73 rfl ?_ hO hm;refine rc_ rfl fun a w hf hO hm => ?_;refine zbV (by kernel_rfl) (by kernel_rfl) hO ?_;refine zbn (τ := tb) rfl hf fun a hf => ?_;refine zac (fun w hO => zh (o := 2) zAJ (hO.blkSees (i := 0) rfl) rfl hf rfl) rfl hf rfl rfl fun a hf => ?_;refine zbn (τ := tb) rfl hf fun a hf => ?_;refine zac (fun w hO => zh (o := 1) zkB (hO.blkSees (i := 0) rfl) rfl hf rfl) rfl hf rfl rfl fun a hf => ?_;refine zbn (τ := tb) rfl hf fun a hf => ?_;refine wpQuiet_nil ?_;intro w hO;refine S.no tb ?_ hf hO hm;refine br0 rfl ?_ ?_;exact rm0 Tryz.results73 [0,1,2] [] rfl
 refine ld 0 rfl rfl <| rw_ rfl fun a w hf hO hm => ?_
 refine zn (vs := [(0,zao x_b)]) (cs := [zao x_b]) (e := 5) (sz := 1) hf rfl rfl (fun w => by kernel_rfl) rfl rfl hO fun a b6 w hf hO => ?_;refine S.op tb ?_ hf hO hm;refine rw_ rfl fun a w hf hO hm => ?_;obtain ⟨hg9,hm⟩ := og hm;refine zaC zxU (enc := zi) (xs := x_a.f_buf) (ys := [x_b]) (i := 2) (fun _ => rfl) rfl (hO.rowSees (i := 0) rfl) (by simp [cells,zi,Value.oneCell']) hg9 hf rfl rfl rfl hO fun a p7 c8 w hf hO => ?_;refine S.op tb ?_ hf hO hm;refine st 1 rfl rfl ?_;refine cl c_111 rfl (fun r11 w hr11 hO => zpI (⟨x_a.f_kind,x_a.f_limit,x_a.f_buf ++ [x_b],x_a.f_from,x_a.f_took,x_a.f_bad,x_a.f_whole,x_a.f_got⟩ : accum_Accum) r11 _ (hG.own hF hO).1 (hO.blkSees (i := 1) rfl) (hO.rowSees (i := 2) rfl) (hO.rowCap (i := 2) rfl) (hO.rowSees (i := 3) rfl) (hO.rowCap (i := 3) rfl) hr11) fun r11 hr11 => br0 rfl ?_ ?_;exact rm0 Tryz.results73 [1,2,3] [] rfl
 refine vl rfl rfl (fun a w hf hO => zbd (b := x_b) (c := 10) hf rfl rfl) <| br0 rfl ?_ ?_
 exact rm0 Tryz.results73 [1,2,3] [] rfl;refine rc_ rfl fun a w hf hO hm => ?_;obtain ⟨i20,hi20,hm⟩ := ob hm;obtain ⟨l21,hl21,hm⟩ := ob hm;obtain ⟨p22,c23,hrl21,hVl21,hCl21,hPl21⟩ := zCh (enc := zi) (xs := x_a.f_buf ++ [x_b]) 141 Tryz.underlying141 sz_5 (fun _ => rfl) (hO.rowSees (i := 2) rfl) (hO.rowCap (i := 2) rfl) hl21;obtain ⟨r24,hr24,hm⟩ := ob hm;refine dS (S := Option Addr × Nat × Option Addr × Nat) [(0,ptr x_a_b0 0)] (fun σ => (fun (q0 : Res) => [[q0, .blk x_a_b0 [int x_a.f_kind,int x_a.f_limit, .slice p7 ((x_a.f_buf ++ [x_b]).length) c8,int x_a.f_from, .bool x_a.f_took,int x_a.f_bad, .bool x_a.f_whole,int x_a.f_got.Kind,str x_a.f_got.Method,str x_a.f_got.Target,int x_a.f_got.Code,str x_a.f_got.Reason,int x_a.f_got.Minor, .slice x_a_p2 x_a.f_got.Fields.length x_a_c2] 143, .row (.slice p7 ((x_a.f_buf ++ [x_b]).length) c8) 5 1 ((x_a.f_buf ++ [x_b]).length) (cells zi (x_a.f_buf ++ [x_b])), .row (.slice x_a_p2 x_a.f_got.Fields.length x_a_c2) 110 2 x_a.f_got.Fields.length (cells zb x_a.f_got.Fields)],[.blk x_a_b0 (zli r24.2.2 (σ.1) (σ.2.1) (σ.2.2.1) (σ.2.2.2)) 143, .row (.slice (σ.1) r24.2.2.f_buf.length (σ.2.1)) 5 1 r24.2.2.f_buf.length (cells zi r24.2.2.f_buf), .row (.slice (σ.2.2.1) r24.2.2.f_got.Fields.length (σ.2.2.2)) 110 2 r24.2.2.f_got.Fields.length (cells zb r24.2.2.f_got.Fields),q0]]) (.row (.slice (some ⟨b6,0,none⟩) ([x_b].length) 1) 5 1 ([x_b].length) (cells zi [x_b]))) (fun σ => [⟨[(0,ptr x_a_b0 0)],some (30,ptr x_a_b0 0)⟩,⟨[(0,ptr x_a_b0 0)],some (31,ptr x_a_b0 0)⟩,⟨[(31,ptr x_a_b0 0)],some (32,ptr x_a_b0 0)⟩,⟨[(32,ptr x_a_b0 0)],some (33,ptr x_a_b0 2)⟩,⟨[(33,ptr x_a_b0 2)],some (34, .slice p7 ((x_a.f_buf ++ [x_b]).length) c8)⟩,⟨[(0,ptr x_a_b0 0)],some (35,ptr x_a_b0 0)⟩,⟨[(35,ptr x_a_b0 0)],some (36,ptr x_a_b0 0)⟩,⟨[(36,ptr x_a_b0 0)],some (37,ptr x_a_b0 3)⟩,⟨[(37,ptr x_a_b0 3)],some (38,int x_a.f_from)⟩,⟨[(0,ptr x_a_b0 0)],some (39,ptr x_a_b0 0)⟩,⟨[(39,ptr x_a_b0 0)],some (40,ptr x_a_b0 0)⟩,⟨[(40,ptr x_a_b0 0)],some (41,ptr x_a_b0 2)⟩,⟨[(41,ptr x_a_b0 2)],some (42, .slice p7 ((x_a.f_buf ++ [x_b]).length) c8)⟩,⟨[(42, .slice p7 ((x_a.f_buf ++ [x_b]).length) c8)],some (43,int (((x_a.f_buf ++ [x_b]).length : Int)))⟩,⟨[(43,int (((x_a.f_buf ++ [x_b]).length : Int)))],some (44,int i20)⟩,⟨[(34, .slice p7 ((x_a.f_buf ++ [x_b]).length) c8),(38,int x_a.f_from),(44,int i20)],some (45, .slice p22 l21.length c23)⟩,⟨[(45, .slice p22 l21.length c23)],some (46,str l21)⟩,⟨[(30,ptr x_a_b0 0),(46,str l21)],some (47, .tuple #[.bool r24.1,int r24.2.1])⟩,⟨[(47, .tuple #[.bool r24.1,int r24.2.1])],some (48, .bool r24.1)⟩,⟨[(47, .tuple #[.bool r24.1,int r24.2.1])],some (49,int r24.2.1)⟩,⟨[(48, .bool r24.1)],some (4, .bool r24.1)⟩,⟨[(49,int r24.2.1)],some (5,int r24.2.1)⟩]) (none,0,none,0) [17] hO hf ⟨sE tb,sE tb,sE tb,sE tb,sD tb 0 [1],sE tb,sE tb,sE tb,sD tb 0 [1],sE tb,sE tb,sE tb,sD tb 0 [1],sE tb,sP (fun hf => zxJ hf rfl rfl hi20),sP (fun hf => zwP Tryz.underlying141 hrl21 hf rfl rfl rfl),sL 0 0 (fun hf => fun hO => zkz (en := zi) (l := l21) (fun _ => rfl) Tryz.underlying9 Tryz.underlying141 Tryz.underlying5 (hVl21 _ (hO.rowSees (i := 2) rfl)) hf rfl),sC 0 (fun hf => zbU c_112 hf (vs := [ptr x_a_b0 0,str l21]) rfl) (@fun σ w hO => have hch := (show Dk.Own w0 F _ ([.blk x_a_b0 [int x_a.f_kind,int x_a.f_limit, .slice p7 ((x_a.f_buf ++ [x_b]).length) c8,int x_a.f_from, .bool x_a.f_took,int x_a.f_bad, .bool x_a.f_whole,int x_a.f_got.Kind,str x_a.f_got.Method,str x_a.f_got.Target,int x_a.f_got.Code,str x_a.f_got.Reason,int x_a.f_got.Minor, .slice x_a_p2 x_a.f_got.Fields.length x_a_c2] 143, .row (.slice p7 ((x_a.f_buf ++ [x_b]).length) c8) 5 1 ((x_a.f_buf ++ [x_b]).length) (cells zi (x_a.f_buf ++ [x_b])), .row (.slice x_a_p2 x_a.f_got.Fields.length x_a_c2) 110 2 x_a.f_got.Fields.length (cells zb x_a.f_got.Fields)] ++ [.row (.slice (some ⟨b6,0,none⟩) ([x_b].length) 1) 5 1 ([x_b].length) (cells zi [x_b])]) from hO.choose [1,2,3,0] rfl); (zpB (⟨x_a.f_kind,x_a.f_limit,x_a.f_buf ++ [x_b],x_a.f_from,x_a.f_took,x_a.f_bad,x_a.f_whole,x_a.f_got⟩ : accum_Accum) l21 r24 _ (hG.own hF hO) (Dk.Own.far hch rfl hF hG.size) (hch.lend (S := []) rfl trivial) hr24).mono fun e w' ⟨p25,c26,p27,c28,he,hO'⟩ => cR (σ := σ) (p25,c26,p27,c28) he (hch.back rfl hO' rfl)),sE tb,sE tb,sE tb,sE tb,trivial⟩ ?_;rintro ⟨p25,c26,p27,c28⟩ a w hf hO;have hO : Dk.Own w0 F w [.blk x_a_b0 (zli r24.2.2 p25 c26 p27 c28) 143, .row (.slice p25 r24.2.2.f_buf.length c26) 5 1 r24.2.2.f_buf.length (cells zi r24.2.2.f_buf), .row (.slice p27 r24.2.2.f_got.Fields.length c28) 110 2 r24.2.2.f_got.Fields.length (cells zb r24.2.2.f_got.Fields), .row (.slice (some ⟨b6,0,none⟩) ([x_b].length) 1) 5 1 ([x_b].length) (cells zi [x_b])] := hO;have hf : Fits 50 [(4, .bool r24.1),(5,int r24.2.1)] a := (hf.cons rfl (hf.cons rfl hf.nil));refine S.no tb ?_ hf hO hm;exact rm0 Tryz.results73 [0,1,2] [] rfl

theorem zpD (x_a0 : accum_Accum) (x_a1 : Str) (R : Int × Bool × Int × accum_Accum) (w0 : World) (hG : za2 w0) {x_a0_b0 : Nat} {x_a0_p1 : Option Addr} {x_a0_c1 : Nat} {x_a0_p2 : Option Addr} {x_a0_c2 : Nat} {F : List Nat} (hF : zfF F) (hO : Dk.Own w0 F w0 [.blk x_a0_b0 (zli x_a0 x_a0_p1 x_a0_c1 x_a0_p2 x_a0_c2) 143, .row (.slice x_a0_p1 x_a0.f_buf.length x_a0_c1) 5 1 x_a0.f_buf.length (cells zi x_a0.f_buf), .row (.slice x_a0_p2 x_a0.f_got.Fields.length x_a0_c2) 110 2 x_a0.f_got.Fields.length (cells zb x_a0.f_got.Fields)]) (hm : zdy x_a0 x_a1 = some R) :
    Calls prog 42 #[ptr x_a0_b0 0,str x_a1] w0 fun e w' => ∃ p0 c0 p1 c1,e = .returned (.tuple #[int R.1, .bool R.2.1,int R.2.2.1]) ∧ Dk.Own w0 F w' [.blk x_a0_b0 (zli R.2.2.2 p0 c0 p1 c1) 143, .row (.slice p0 R.2.2.2.f_buf.length c0) 5 1 R.2.2.2.f_buf.length (cells zi R.2.2.2.f_buf), .row (.slice p1 R.2.2.2.f_got.Fields.length c1) 110 2 R.2.2.2.f_got.Fields.length (cells zb R.2.2.2.f_got.Fields)] := by
 rw [zdy] at hm;refine S.enter tb Tryz.func42 rfl Tryz.ntmps42 rfl ?_ hO hm
 refine vl rfl rfl (fun a w hf hO => zc2 Tryz.underlying93 hf rfl rfl) <| kn (b' := false) rfl rfl <| jv 2 [0,1] [0,1,2] (fun J E L => ∃ t4,J ((11, .bool t4) :: E) (L) (zdn x_a0 x_a1 t4)) rfl ?_ ?_
 refine ld 0 rfl rfl <| br0 rfl ?_ ?_
 exact en0 rfl
 exact ld 0 rfl rfl <| en0 rfl
 refine oJ1 tb fun t4 => ?_;rw [zdn];refine br0 rfl ?_ ?_;exact rm0 Tryz.results42 [0,1,2] [] rfl;refine jv 0 [1] [] (fun J E L => ∃ i49 i50 p51 c52, ∃ (l53 : List UInt8), ∃ i54 t55 i56 t57 i58 s59 s60 i61 s62 i63 p64 c65, ∃ (l66 : List api_Field),J (E) (.blk x_a0_b0 [int i49,int i50, .slice p51 l53.length c52,int i54, .bool t55,int i56, .bool t57,int i58,str s59,str s60,int i61,str s62,int i63, .slice p64 l66.length c65] 143 :: .row (.slice p51 l53.length c52) 5 1 l53.length (cells zi l53) :: .row (.slice p64 l66.length c65) 110 2 l66.length (cells zb l66) :: L) (zeM x_a1 i49 i50 l53 i54 t55 i56 t57 i58 s59 s60 i61 s62 i63 l66)) rfl ?_ ?_;refine lw [0,1,24] [] (fun J E L k => ∃ i9 i10 p11 c12, ∃ (l13 : List UInt8), ∃ i14 t15 i16 t17 i18 s19 s20 i21 s22 i23 p24 c25, ∃ (l26 : List api_Field), ∃ i27,J ((25,int i27) :: E) (.blk x_a0_b0 [int i9,int i10, .slice p11 l13.length c12,int i14, .bool t15,int i16, .bool t17,int i18,str s19,str s20,int i21,str s22,int i23, .slice p24 l26.length c25] 143 :: .row (.slice p11 l13.length c12) 5 1 l13.length (cells zi l13) :: .row (.slice p24 l26.length c25) 110 2 l26.length (cells zb l26) :: L) (zas x_a1 k i9 i10 l13 i14 t15 i16 t17 i18 s19 s20 i21 s22 i23 l26 i27)) rfl ?_;refine lJ19 tb fun n2 i9 i10 p11 c12 l13 i14 t15 i16 t17 i18 s19 s20 i21 s22 i23 p24 c25 l26 i27 => ?_;rw [zas];refine br0 rfl ?_ ?_
 refine st 0 rfl rfl <| bi rfl fun b33 hb33 => ?_
 refine cw4 c_73 [0,1,2] 3 [] rfl (fun r34 w hr34 hO hfar39 hlend39 => zpC ((⟨i9,i10,l13,i14,true,i16,t17,(⟨i18,s19,s20,i21,s22,i23,l26⟩ : api_Head)⟩ : accum_Accum)) b33 r34 _ (hG.own hF hO) hfar39 hlend39 hr34) (fun _ _ => trivial) hF hG.size fun r34 hr34 p35 c36 p37 c38 => st 0 rfl rfl <| st 0 rfl rfl <| jv 5 [0,1,7,24,25] [0,1,2] (fun J E L => ∃ t42,J ((55, .bool t42) :: E) (L) (zdm (zas x_a1 n2) i27 r34 t42)) rfl ?_ ?_
 refine ld 0 rfl rfl <| br0 rfl ?_ ?_
 exact en0 rfl
 exact ld 0 rfl rfl <| en0 rfl
 refine oJ1 tb fun t42 => ?_;rw [zdm];refine br0 rfl ?_ ?_
 refine st 0 rfl rfl <| nl 5 1 <| rc_ rfl fun a w hf hO hm => ?_
 refine zbV (by kernel_rfl) (by kernel_rfl) hO ?_;refine zbn (τ := tb) rfl hf fun a hf => ?_;obtain ⟨i45,hi45,hm⟩ := ob hm;refine zac (fun w hO => zvs hf rfl rfl hi45) rfl hf rfl rfl fun a hf => ?_;refine zbn (τ := tb) rfl hf fun a hf => ?_;refine zac (fun w hO => zh (o := 6) ag_4 (hO.blkSees (i := 1) rfl) rfl hf rfl) rfl hf rfl rfl fun a hf => ?_;refine zbn (τ := tb) rfl hf fun a hf => ?_;refine zac (fun w hO => zh (o := 5) ag_24 (hO.blkSees (i := 1) rfl) rfl hf rfl) rfl hf rfl rfl fun a hf => ?_;refine zbn (τ := tb) rfl hf fun a hf => ?_;refine wpQuiet_nil ?_;intro w hO;refine S.no tb ?_ hf hO hm;exact rm0 Tryz.results42 [1,0,3] [] rfl;exact bi rfl fun i48 hi48 => el0 rfl;exact en0 rfl;refine oJ18 tb fun i49 i50 p51 c52 l53 i54 t55 i56 t57 i58 s59 s60 i61 s62 i63 p64 c65 l66 => ?_;rw [zeM];exact rm0 Tryz.results42 [0,1,2] [] rfl

end Go.Proofs
end
section
set_option linter.unusedVariables false
set_option maxHeartbeats 1000000
set_option linter.unusedSimpArgs false
set_option maxRecDepth 100000
namespace Go.Proofs
open Go.Dk Go.Dm Go.RowKit
open Tryz (prog)
set_option maxHeartbeats 1000000

theorem zpo (x_a : accum_Accum) (R : api_Head × Bool) (w0 : World) (hG : zo w0) {x_a_b0 : Nat} {x_a_p1 : Option Addr} {x_a_c1 : Nat} {x_a_p2 : Option Addr} {x_a_c2 : Nat} (hs0 : zH w0 (some ⟨x_a_b0,0,none⟩) (yl4 x_a x_a_p1 x_a_c1 x_a_p2 x_a_c2)) (hs1 : zH w0 x_a_p1 (cells zi x_a.f_buf)) (hc1 : x_a.f_buf.length ≤ x_a_c1) (hs2 : zH w0 x_a_p2 (cells zb x_a.f_got.Fields)) (hc2 : x_a.f_got.Fields.length ≤ x_a_c2) (hm : zeX x_a = some R) :
    Calls prog 43 #[ptr x_a_b0 0] w0 fun e w' => ∃ p0 c0,e = .returned (.tuple #[(zir R.1 p0 c0), .bool R.2]) ∧ Dk.Own w0 [] w' [.row (.slice p0 R.1.Fields.length c0) 110 2 R.1.Fields.length (cells zb R.1.Fields)] := by
 rw [zeX] at hm;have hO := Dk.Own.refl w0;have hO := hO.addS hs0;have hO := hO.addS hs1;have hO := hO.addS hs2;refine S.enter tb Tryz.func43 rfl Tryz.ntmps43 rfl ?_ hO hm
 refine al zkb rfl fun b1 => nl 110 2 <| vl rfl rfl (fun a w hf hO => zc2 Tryz.underlying93 hf rfl rfl) <| kn (b' := false) rfl rfl <| ld 4 rfl rfl <| br0 rfl ?_ ?_
 exact bu0 zis rfl rfl <| st 1 rfl rfl <| nl 110 2 <| rm0 Tryz.results43 [0] [2] rfl
 refine ld 4 rfl rfl <| al zkb rfl fun b7 => nl 110 2 <| st 1 rfl rfl <| rw_ rfl fun a w hf hO hm => ?_
 refine zn (vs := []) (cs := []) (e := 110) (sz := 2) hf rfl rfl (fun w => by kernel_rfl) rfl rfl hO fun a b9 w hf hO => ?_;refine S.op tb ?_ hf hO hm
 refine ld 2 rfl rfl <| rw_ rfl fun a w hf hO hm => ?_
 obtain ⟨hg12,hm⟩ := og hm;refine zmt zsF (enc := zb) (xs := []) (ys := x_a.f_got.Fields) (i := 0) (fun _ => rfl) rfl (hO.sees (i := 5) rfl) (by simp [zb,Value.oneCell']) hg12 hf rfl rfl rfl hO fun a p10 c11 w hf hO => ?_;refine S.op tb ?_ hf hO hm
 exact st 2 rfl rfl <| ld 2 rfl rfl <| st 4 rfl rfl <| rm0 Tryz.results43 [0] [4] rfl

theorem ziY (x_p : commas_splitter) (x_at : Int) (R : commas_splitter) (w0 : World) (hG : zo w0) {x_p_b0 : Nat} {x_p_b1 : Nat} {x_p_p2 : Option Addr} {x_p_c2 : Nat} {F : List Nat} (hF : zfF F) (hO : Dk.Own w0 F w0 [.blk x_p_b0 [ptr x_p_b1 0, .slice x_p_p2 x_p.f_out.length x_p_c2,int x_p.f_from,str x_p.f_s] 285, .blk x_p_b1 [str x_p.Scanner.f_s,int x_p.Scanner.f_at] 277, .row (.slice x_p_p2 x_p.f_out.length x_p_c2) 9 1 x_p.f_out.length (cells zd x_p.f_out)]) (hm : zb6 x_p x_at = some R) :
    Calls prog 222 #[ptr x_p_b0 0,int x_at] w0 fun e w' => ∃ p0 c0,e = .returned (.tuple #[]) ∧ Dk.Own w0 F w' [.blk x_p_b0 [ptr x_p_b1 0, .slice p0 R.f_out.length c0,int R.f_from,str R.f_s] 285, .blk x_p_b1 [str R.Scanner.f_s,int R.Scanner.f_at] 277, .row (.slice p0 R.f_out.length c0) 9 1 R.f_out.length (cells zd R.f_out)] := by
 rw [zb6] at hm;refine S.enter tb Tryz.func222 rfl Tryz.ntmps222 rfl ?_ hO hm;refine jv 0 [0] [1] (fun J E L => ∃ p10 c11, ∃ (l12 : List Str),J (E) (.blk x_p_b0 [ptr x_p_b1 0, .slice p10 l12.length c11,int x_p.f_from,str x_p.f_s] 285 :: .row (.slice p10 l12.length c11) 9 1 l12.length (cells zd l12) :: L) (zbW x_p l12)) rfl ?_ ?_;refine rc_ rfl fun a w hf hO hm => ?_;refine zbV (by kernel_rfl) (by kernel_rfl) hO ?_;refine zbn (τ := tb) rfl hf fun a hf => ?_;refine zac (fun w hO => zh (o := 3) zdp (hO.blkSees (i := 0) rfl) rfl hf rfl) rfl hf rfl rfl fun a hf => ?_;refine zbn (τ := tb) rfl hf fun a hf => ?_;refine zac (fun w hO => zh (o := 2) zkB (hO.blkSees (i := 0) rfl) rfl hf rfl) rfl hf rfl rfl fun a hf => ?_;refine zbn (τ := tb) rfl hf fun a hf => ?_;obtain ⟨s1,hs1,hm⟩ := ob hm;refine zac (fun w hO => zlS (l := x_p.f_s) Tryz.underlying9 hf rfl rfl rfl hs1) rfl hf rfl rfl fun a hf => ?_;obtain ⟨r2,hr2,hm⟩ := ob hm;refine zvE (fun w hO => zbU c_88 hf (vs := [str s1,str [32,9]]) rfl) rfl hf rfl rfl (fun w hO => (znn s1 [32,9] r2 _ (hG.own hF hO) hr2).mono fun e w' ⟨he,hb⟩ => ⟨he,hO.grow hb⟩) fun a hf => ?_;refine zbn (τ := tb) rfl hf fun a hf => ?_;refine wpQuiet_nil ?_;intro w hO;refine S.no tb ?_ hf hO hm;refine br0 rfl ?_ ?_
 refine ld 0 rfl rfl <| rw_ rfl fun a w hf hO hm => ?_
 refine zn (vs := [(0,str r2)]) (cs := [str r2]) (e := 9) (sz := 1) hf rfl rfl (fun w => by kernel_rfl) rfl rfl hO fun a b6 w hf hO => ?_;refine S.op tb ?_ hf hO hm;refine rw_ rfl fun a w hf hO hm => ?_;obtain ⟨hg9,hm⟩ := og hm;refine zaC znz (enc := zd) (xs := x_p.f_out) (ys := ([r2] : List Str)) (i := 3) (fun _ => rfl) rfl (hO.rowSees (i := 0) rfl) (by simp [cells,zd,Value.oneCell']) hg9 hf rfl rfl rfl hO fun a p7 c8 w hf hO => ?_;refine S.op tb ?_ hf hO hm
 exact st 1 rfl rfl <| ec0 [1,3,2] rfl rfl rfl
 exact ec0 [0,2,1] rfl rfl rfl;refine oJ3 tb fun p10 c11 l12 => ?_;rw [zbW];refine ld 0 rfl rfl ?_
 exact cl zwB rfl (fun r13 w hr13 hO => zes x_p.Scanner r13 _ (hG.own hF hO) (hO.blkSees (i := 2) rfl) hr13) fun r13 hr13 => st 0 rfl rfl <| rm0 Tryz.results222 [0,2,1] [] rfl

theorem zla (x_p : commas_splitter) (R : Bool × commas_splitter) (w0 : World) (hG : zo w0) {x_p_b0 : Nat} {x_p_b1 : Nat} {x_p_p2 : Option Addr} {x_p_c2 : Nat} {F : List Nat} (hF : zfF F) (hO : Dk.Own w0 F w0 [.blk x_p_b0 [ptr x_p_b1 0, .slice x_p_p2 x_p.f_out.length x_p_c2,int x_p.f_from,str x_p.f_s] 285, .blk x_p_b1 [str x_p.Scanner.f_s,int x_p.Scanner.f_at] 277, .row (.slice x_p_p2 x_p.f_out.length x_p_c2) 9 1 x_p.f_out.length (cells zd x_p.f_out)]) (hm : zbK x_p = some R) :
    Calls prog 252 #[ptr x_p_b0 0] w0 fun e w' => ∃ p0 c0,e = .returned (.bool R.1) ∧ Dk.Own w0 F w' [.blk x_p_b0 [ptr x_p_b1 0, .slice p0 R.2.f_out.length c0,int R.2.f_from,str R.2.f_s] 285, .blk x_p_b1 [str R.2.Scanner.f_s,int R.2.Scanner.f_at] 277, .row (.slice p0 R.2.f_out.length c0) 9 1 R.2.f_out.length (cells zd R.2.f_out)] := by
 rw [zbK] at hm;refine S.enter tb Tryz.func252 rfl Tryz.ntmps252 rfl ?_ hO hm;refine jv 0 [] [0,2] (fun J E L => ∃ s33 i34,J (E) (.blk x_p_b1 [str s33,int i34] 277 :: L) (zdI x_p s33 i34)) rfl ?_ ?_;refine ch [1,0,2] rfl rfl ?_;refine lw [0] [1,2] (fun J E L k => ∃ s3 i4 i5,J ((3,int i5) :: E) (.blk x_p_b1 [str s3,int i4] 277 :: L) (zr x_p k s3 i4 i5)) rfl ?_;refine lJ3 tb fun n1 s3 i4 i5 => ?_;rw [zr];refine br0 rfl ?_ ?_;refine ld 1 rfl rfl ?_;refine cl zsH rfl (fun r9 w hr9 hO => zbg (⟨s3,i4⟩ : scan_Scanner) r9 _ (hG.own hF hO) (hO.blkSees (i := 0) rfl) hr9) fun r9 hr9 => br0 rfl ?_ ?_;exact rm0 Tryz.results252 [1,0,2] [] rfl;refine ld 1 rfl rfl ?_
 refine cw0 ziZ [0,1,2] 1 [] rfl (fun r15 w hr15 hO hfar16 hlend16 => zs (⟨s3,i4⟩ : scan_Scanner) r9.1 r15 _ (hG.own hF hO) hfar16 hlend16 hr15) (fun _ _ => trivial) hF hG.size fun r15 hr15 => vl rfl rfl (fun a w hf hO => zt (b := r9.1) (c := 40) hf rfl rfl) <| br0 rfl ?_ ?_
 exact bi rfl fun i21 hi21 => el0 rfl
 refine vl rfl rfl (fun a w hf hO => zt (b := r9.1) (c := 41) hf rfl rfl) <| br0 rfl ?_ ?_
 exact bi rfl fun i24 hi24 => el0 rfl
 refine vl rfl rfl (fun a w hf hO => zt (b := r9.1) (c := 92) hf rfl rfl) <| br0 rfl ?_ ?_
 refine ld 1 rfl rfl ?_;refine cl zsH rfl (fun r27 w hr27 hO => zbg r15.2 r27 _ (hG.own hF hO) (hO.blkSees (i := 0) rfl) hr27) fun r27 hr27 => br0 rfl ?_ ?_;refine ld 1 rfl rfl ?_;exact cw0 ziZ [0,1,2] 1 [] rfl (fun r31 w hr31 hO hfar32 hlend32 => zs r15.2 r27.1 r31 _ (hG.own hF hO) hfar32 hlend32 hr31) (fun _ _ => trivial) hF hG.size fun r31 hr31 => el0 rfl;exact el0 rfl;exact el0 rfl;exact en0 rfl;refine oJ2 tb fun s33 i34 => ?_;rw [zdI];exact rm0 Tryz.results252 [1,0,2] [] rfl

theorem znq (x_r : quoted_reader) (R : Bool × quoted_reader) (w0 : World) (hG : zo w0) {x_r_b0 : Nat} {x_r_b1 : Nat} {x_r_p2 : Option Addr} {x_r_c2 : Nat} {F : List Nat} (hF : zfF F) (hO : Dk.Own w0 F w0 [.blk x_r_b0 [ptr x_r_b1 0, .slice x_r_p2 x_r.f_out.length x_r_c2] 324, .blk x_r_b1 [str x_r.Scanner.f_s,int x_r.Scanner.f_at] 277, .row (.slice x_r_p2 x_r.f_out.length x_r_c2) 5 1 x_r.f_out.length (cells zi x_r.f_out)]) (hm : zcr x_r = some R) :
    Calls prog 268 #[ptr x_r_b0 0] w0 fun e w' => ∃ p0 c0,e = .returned (.bool R.1) ∧ Dk.Own w0 F w' [.blk x_r_b0 [ptr x_r_b1 0, .slice p0 R.2.f_out.length c0] 324, .blk x_r_b1 [str R.2.Scanner.f_s,int R.2.Scanner.f_at] 277, .row (.slice p0 R.2.f_out.length c0) 5 1 R.2.f_out.length (cells zi R.2.f_out)] := by
 rw [zcr] at hm;refine S.enter tb Tryz.func268 rfl Tryz.ntmps268 rfl ?_ hO hm;refine ld 0 rfl rfl ?_;refine cw0 ziZ [1,0,2] 1 [] rfl (fun r2 w hr2 hO hfar3 hlend3 => zs x_r.Scanner 92 r2 _ (hG.own hF hO) hfar3 hlend3 hr2) (fun _ _ => trivial) hF hG.size fun r2 hr2 => ld 1 rfl rfl ?_;refine cl zsH rfl (fun r5 w hr5 hO => zbg r2.2 r5 _ (hG.own hF hO) (hO.blkSees (i := 0) rfl) hr5) fun r5 hr5 => jv 1 [0,3] [0,1,2] (fun J E L => ∃ t9,J ((24, .bool t9) :: E) (L) (zck x_r r2 r5 t9)) rfl ?_ ?_;refine br0 rfl ?_ ?_;exact en0 rfl;exact clg c_87 (hG.own hF) rfl (zj6 r5.1) fun r8 hr8 => en0 rfl;refine oJ1 tb fun t9 => ?_;rw [zck];refine br0 rfl ?_ ?_;exact rm0 Tryz.results268 [1,0,2] [] rfl
 refine ld 1 rfl rfl <| rw_ rfl fun a w hf hO hm => ?_
 refine zn (vs := [(0,zao r5.1)]) (cs := [zao r5.1]) (e := 5) (sz := 1) hf rfl rfl (fun w => by kernel_rfl) rfl rfl hO fun a b13 w hf hO => ?_;refine S.op tb ?_ hf hO hm;refine rw_ rfl fun a w hf hO hm => ?_;obtain ⟨hg16,hm⟩ := og hm;refine zaC zxU (enc := zi) (xs := x_r.f_out) (ys := [r5.1]) (i := 3) (fun _ => rfl) rfl (hO.rowSees (i := 0) rfl) (by simp [cells,zi,Value.oneCell']) hg16 hf rfl rfl rfl hO fun a p14 c15 w hf hO => ?_;refine S.op tb ?_ hf hO hm
 refine st 2 rfl rfl <| ld 2 rfl rfl ?_
 exact cw0 ziZ [1,0,2,3] 1 [] rfl (fun r18 w hr18 hO hfar19 hlend19 => zs r2.2 r5.1 r18 _ (hG.own hF hO) hfar19 hlend19 hr18) (fun _ _ => trivial) hF hG.size fun r18 hr18 => rm0 Tryz.results268 [2,0,3] [] rfl

theorem zoI (x_c : scan_Scanner) (x_at : Int) (R : Bool × scan_Scanner) (w0 : World) (hG : zo w0) {x_c_b0 : Nat} {F : List Nat} (hF : zfF F) (hO : Dk.Own w0 F w0 [.blk x_c_b0 [str x_c.f_s,int x_c.f_at] 277]) (hm : zek x_c x_at = some R) :
    Calls prog 269 #[ptr x_c_b0 0,int x_at] w0 fun e w' => e = .returned (.bool R.1) ∧ Dk.Own w0 F w' [.blk x_c_b0 [str R.2.f_s,int R.2.f_at] 277] := by
 rw [zek] at hm;refine S.enter tb Tryz.func269 rfl Tryz.ntmps269 rfl ?_ hO hm;refine jv 1 [0,1] [0] (fun J E L => ∃ t4,J ((12, .bool t4) :: E) (L) (zcM x_c x_at t4)) rfl ?_ ?_;refine br0 rfl ?_ ?_;exact en0 rfl;exact cl zwB rfl (fun r3 w hr3 hO => zes x_c r3 _ (hG.own hF hO) (hO.blkSees (i := 0) rfl) hr3) fun r3 hr3 => en0 rfl;refine oJ1 tb fun t4 => ?_;rw [zcM];refine br0 rfl ?_ ?_;exact rm0 Tryz.results269 [0] [] rfl
 exact vl rfl rfl (fun a w hf hO => zot Tryz.underlying244 hf rfl rfl) <| kn (b' := true) rfl rfl <| st 0 rfl rfl <| rm0 Tryz.results269 [0] [] rfl

theorem zoV (x_c : scan_Scanner) (R : Str × Bool × scan_Scanner) (w0 : World) (hG : zo w0) {x_c_b0 : Nat} {F : List Nat} (hF : zfF F) (hO : Dk.Own w0 F w0 [.blk x_c_b0 [str x_c.f_s,int x_c.f_at] 277]) (hm : zh7 x_c = some R) :
    Calls prog 253 #[ptr x_c_b0 0] w0 fun e w' => e = .returned (.tuple #[str R.1, .bool R.2.1]) ∧ Dk.Own w0 F w' [.blk x_c_b0 [str R.2.2.f_s,int R.2.2.f_at] 277] := by
 rw [zh7] at hm;refine S.enter tb Tryz.func253 rfl Tryz.ntmps253 rfl ?_ hO hm
 refine cl zwB rfl (fun r2 w hr2 hO => zes x_c r2 _ (hG.own hF hO) (hO.blkSees (i := 0) rfl) hr2) fun r2 hr2 => bu0 (.agg #[ptr x_c_b0 0, .slice none 0 0]) rfl rfl <| bo rfl fun b4 => nl 5 1 <| ld 1 rfl rfl ?_
 refine cw0 ziZ [2,0,1] 1 [] rfl (fun r6 w hr6 hO hfar7 hlend7 => zs x_c 34 r6 _ (hG.own hF hO) hfar7 hlend7 hr6) (fun _ _ => trivial) hF hG.size fun r6 hr6 => jv 0 [4,5] [] (fun J E L => ∃ t27 s28 i29 p30 c31, ∃ (l32 : List UInt8),J ((6, .bool t27) :: E) (.blk x_c_b0 [str s28,int i29] 277 :: .row (.slice p30 l32.length c31) 5 1 l32.length (cells zi l32) :: .blk b4 [ptr x_c_b0 0, .slice p30 l32.length c31] 324 :: L) (zgv r2 t27 s28 i29 l32)) rfl ?_ ?_;refine lw [4,5] [] (fun J E L k => ∃ s9 i10 p11 c12, ∃ (l13 : List UInt8), ∃ t14,J ((6, .bool t14) :: E) (.blk x_c_b0 [str s9,int i10] 277 :: .row (.slice p11 l13.length c12) 5 1 l13.length (cells zi l13) :: .blk b4 [ptr x_c_b0 0, .slice p11 l13.length c12] 324 :: L) (zbp r2 k s9 i10 l13 t14)) rfl ?_;refine lJ6 tb fun n1 s9 i10 p11 c12 l13 t14 => ?_;rw [zbp];refine jv 4 [4,5,6] [1,2] (fun J E L => ∃ t18 s19 i20,J ((25, .bool t18) :: E) (.blk x_c_b0 [str s19,int i20] 277 :: L) (zeY (zbp r2 n1) r2 l13 t14 t18 s19 i20)) rfl ?_ ?_;refine br rfl (fun hc15 => ?_) fun hc15 => ?_;refine ld 2 rfl rfl ?_
 exact cw0 ziZ [0,1,2] 1 [] rfl (fun r16 w hr16 hO hfar17 hlend17 => zs (⟨s9,i10⟩ : scan_Scanner) 34 r16 _ (hG.own hF hO) hfar17 hlend17 hr16) (fun _ _ => trivial) hF hG.size fun r16 hr16 => kn (b' := true) hc15 rfl <| en0 rfl
 exact en0 rfl;refine oJ3 tb fun t18 s19 i20 => ?_;rw [zeY];refine br0 rfl ?_ ?_;exact cw2 c_268 [2,0,1] 3 [] rfl (fun r23 w hr23 hO hfar26 hlend26 => znq ((⟨(⟨s19,i20⟩ : scan_Scanner),l13⟩ : quoted_reader)) r23 _ (hG.own hF hO) hfar26 hlend26 hr23) (fun _ _ => trivial) hF hG.size fun r23 hr23 p24 c25 => ecl [1,2,0] rfl rfl rfl;exact en0 rfl;refine oJ6 tb fun t27 s28 i29 p30 c31 l32 => ?_;rw [zgv];refine br0 rfl ?_ ?_;refine ld 2 rfl rfl ?_;exact cw0 c_269 [0,1,2] 1 [] rfl (fun r35 w hr35 hO hfar36 hlend36 => zoI (⟨s28,i29⟩ : scan_Scanner) r2 r35 _ (hG.own hF hO) hfar36 hlend36 hr35) (fun _ _ => trivial) hF hG.size fun r35 hr35 => rm0 Tryz.results253 [0] [] rfl;refine ld 2 rfl rfl ?_
 exact vl rfl rfl (fun a w hf hO => zkz (en := zi) (l := l32) (fun _ => rfl) Tryz.underlying9 Tryz.underlying141 Tryz.underlying5 (hO.rowSees (i := 1) rfl) hf rfl) <| rm0 Tryz.results253 [0] [] rfl

theorem zmk (x_p : commas_splitter) (R : Bool × commas_splitter) (w0 : World) (hG : zo w0) {x_p_b0 : Nat} {x_p_b1 : Nat} {x_p_p2 : Option Addr} {x_p_c2 : Nat} {F : List Nat} (hF : zfF F) (hO : Dk.Own w0 F w0 [.blk x_p_b0 [ptr x_p_b1 0, .slice x_p_p2 x_p.f_out.length x_p_c2,int x_p.f_from,str x_p.f_s] 285, .blk x_p_b1 [str x_p.Scanner.f_s,int x_p.Scanner.f_at] 277, .row (.slice x_p_p2 x_p.f_out.length x_p_c2) 9 1 x_p.f_out.length (cells zd x_p.f_out)]) (hm : zaz x_p = some R) :
    Calls prog 221 #[ptr x_p_b0 0] w0 fun e w' => ∃ p0 c0,e = .returned (.bool R.1) ∧ Dk.Own w0 F w' [.blk x_p_b0 [ptr x_p_b1 0, .slice p0 R.2.f_out.length c0,int R.2.f_from,str R.2.f_s] 285, .blk x_p_b1 [str R.2.Scanner.f_s,int R.2.Scanner.f_at] 277, .row (.slice p0 R.2.f_out.length c0) 9 1 R.2.f_out.length (cells zd R.2.f_out)] := by
 rw [zaz] at hm;refine S.enter tb Tryz.func221 rfl Tryz.ntmps221 rfl ?_ hO hm;refine ld 0 rfl rfl ?_;refine cl zwB rfl (fun r2 w hr2 hO => zes x_p.Scanner r2 _ (hG.own hF hO) (hO.blkSees (i := 1) rfl) hr2) fun r2 hr2 => jv 0 [] [] (fun J E L => ∃ p32 c33, ∃ (l34 : List Str), ∃ i35 s36 s37 i38,J (E) (.blk x_p_b0 [ptr x_p_b1 0, .slice p32 l34.length c33,int i35,str s36] 285 :: .blk x_p_b1 [str s37,int i38] 277 :: .row (.slice p32 l34.length c33) 9 1 l34.length (cells zd l34) :: L) (zc6 l34 i35 s36 s37 i38)) rfl ?_ ?_;refine ld 0 rfl rfl ?_;refine cw0 ziZ [1,0,2] 1 [] rfl (fun r4 w hr4 hO hfar5 hlend5 => zs x_p.Scanner 44 r4 _ (hG.own hF hO) hfar5 hlend5 hr4) (fun _ _ => trivial) hF hG.size fun r4 hr4 => br0 rfl ?_ ?_;exact cw2 c_222 [1,0,2] 3 [] rfl (fun r8 w hr8 hO hfar11 hlend11 => ziY (⟨r4.2,x_p.f_out,x_p.f_from,x_p.f_s⟩ : commas_splitter) r2 r8 _ (hG.own hF hO) hfar11 hlend11 hr8) (fun _ _ => trivial) hF hG.size fun r8 hr8 p9 c10 => en0 rfl;refine ld 1 rfl rfl ?_;refine cw0 ziZ [0,1,2] 1 [] rfl (fun r12 w hr12 hO hfar13 hlend13 => zs r4.2 40 r12 _ (hG.own hF hO) hfar13 hlend13 hr12) (fun _ _ => trivial) hF hG.size fun r12 hr12 => br0 rfl ?_ ?_;exact cw2 c_252 [1,0,2] 3 [] rfl (fun r16 w hr16 hO hfar19 hlend19 => zla (⟨r12.2,x_p.f_out,x_p.f_from,x_p.f_s⟩ : commas_splitter) r16 _ (hG.own hF hO) hfar19 hlend19 hr16) (fun _ _ => trivial) hF hG.size fun r16 hr16 p17 c18 => rm0 Tryz.results221 [0,1,2] [] rfl;refine ld 1 rfl rfl ?_
 refine cl zsH rfl (fun r21 w hr21 hO => zbg r12.2 r21 _ (hG.own hF hO) (hO.blkSees (i := 0) rfl) hr21) fun r21 hr21 => vl rfl rfl (fun a w hf hO => zt (b := r21.1) (c := 34) hf rfl rfl) <| br0 rfl ?_ ?_
 refine ld 1 rfl rfl ?_;exact cw0 c_253 [0,1,2] 1 [] rfl (fun r25 w hr25 hO hfar26 hlend26 => zoV r12.2 r25 _ (hG.own hF hO) hfar26 hlend26 hr25) (fun _ _ => trivial) hF hG.size fun r25 hr25 => rm0 Tryz.results221 [1,0,2] [] rfl;refine ld 1 rfl rfl ?_;exact cw0 ziZ [0,1,2] 1 [] rfl (fun r30 w hr30 hO hfar31 hlend31 => zs r12.2 r21.1 r30 _ (hG.own hF hO) hfar31 hlend31 hr30) (fun _ _ => trivial) hF hG.size fun r30 hr30 => ec0 [1,0,2] rfl rfl rfl;refine oJ7 tb fun p32 c33 l34 i35 s36 s37 i38 => ?_;rw [zc6];exact rm0 Tryz.results221 [0,1,2] [] rfl

theorem znr (x_s : Str) (R : List Str × Int) (w0 : World) (hG : zo w0) (hm : zhe x_s = some R) :
    Calls prog 186 #[str x_s] w0 fun e w' => ∃ p0 c0,e = .returned (.tuple #[.slice p0 R.1.length c0,int R.2]) ∧ Dk.Own w0 [] w' [.row (.slice p0 R.1.length c0) 9 1 R.1.length (cells zd R.1)] := by
 rw [zhe] at hm;refine S.ent0 tb Tryz.func186 rfl Tryz.ntmps186 rfl hm ?_
 refine nl 9 1 <| cm1 zuL rfl (fun r2 w hr2 hO => zjq x_s r2 _ (hG.o hO) hr2) fun r2 hr2 b3 => bu0 (.agg #[ptr b3 0, .slice none 0 0,int 0,str x_s]) rfl rfl <| bo rfl fun b4 => nl 9 1 <| jv 0 [0,4] [3] (fun J E L => ∃ p24 c25, ∃ (l26 : List Str), ∃ i27 s28 s29 i30,J (E) (.row (.slice p24 l26.length c25) 9 1 l26.length (cells zd l26) :: .blk b4 [ptr b3 0, .slice p24 l26.length c25,int i27,str s28] 285 :: .blk b3 [str s29,int i30] 277 :: L) (zhQ x_s l26 i27 s28 s29 i30)) rfl ?_ ?_
 refine lw [0,4] [3] (fun J E L k => ∃ p6 c7, ∃ (l8 : List Str), ∃ i9 s10 s11 i12,J (E) (.row (.slice p6 l8.length c7) 9 1 l8.length (cells zd l8) :: .blk b4 [ptr b3 0, .slice p6 l8.length c7,int i9,str s10] 285 :: .blk b3 [str s11,int i12] 277 :: L) (zdd x_s k l8 i9 s10 s11 i12)) rfl ?_;refine lJ7 tb fun n1 p6 c7 l8 i9 s10 s11 i12 => ?_;rw [zdd];refine ld 1 rfl rfl ?_;refine cl zwz rfl (fun r13 w hr13 hO => zdU (⟨s11,i12⟩ : scan_Scanner) r13 _ (hG.o hO) (hO.blkSees (i := 2) rfl) hr13) fun r13 hr13 => br0 rfl ?_ ?_;refine cw2 c_221 [1,2,0,3] 3 [] rfl (fun r17 w hr17 hO hfar20 hlend20 => zmk ((⟨(⟨s11,i12⟩ : scan_Scanner),l8,i9,s10⟩ : commas_splitter)) r17 _ (hG.o hO) hfar20 hlend20 hr17) (fun _ _ => trivial) zad hG.size fun r17 hr17 p18 c19 => br0 rfl ?_ ?_
 exact nl 9 1 <| rm0 Tryz.results186 [0] [] rfl
 exact ecl [2,0,1,3] rfl rfl rfl;exact en0 rfl;refine oJ7 tb fun p24 c25 l26 i27 s28 s29 i30 => ?_;rw [zhQ]
 exact cw2 c_222 [1,2,0,3] 3 [] rfl (fun r31 w hr31 hO hfar34 hlend34 => ziY ((⟨(⟨s29,i30⟩ : scan_Scanner),l26,i27,s28⟩ : commas_splitter)) (x_s.length : Int) r31 _ (hG.o hO) hfar34 hlend34 hr31) (fun _ _ => trivial) zad hG.size fun r31 hr31 p32 c33 => ld 0 rfl rfl <| rm0 Tryz.results186 [2] [] rfl

theorem ztW (x_s : Str) (R : Bool) (w0 : World) (hG : zo w0) (hm : zjL x_s = some R) :
    Calls prog 85 #[str x_s] w0 (Ret w0 (fun R => .bool R) R) := by
 rw [zjL] at hm;refine S.ent0 tb Tryz.func85 rfl Tryz.ntmps85 rfl hm ?_;refine jv 0 [] [] (fun J E L => ∃ t5,J ((2, .bool t5) :: E) (L) (zgw t5)) rfl ?_ ?_;refine br rfl (fun hc2 => ?_) fun hc2 => ?_;refine rw_ rfl fun a w hf hO hm => ?_;refine zn (vs := [(0,str x_s)]) (cs := [str x_s]) (e := 9) (sz := 1) hf rfl rfl (fun w => by kernel_rfl) rfl rfl hO fun a b3 w hf hO => ?_;refine S.op tb ?_ hf hO hm;refine kn (b' := true) hc2 rfl ?_;exact cl zxV rfl (fun r4 w hr4 hO => zg6 zdr ([x_s] : List Str) r4 _ (hG.o hO) c_122 (fun y0 r w hG h => zi9 (znb y0 r w hG h)) (hO.rowSees (i := 0) rfl) (hO.rowCap (i := 0) rfl) hr4) fun r4 hr4 => ec0 [] rfl rfl rfl;exact en0 rfl;refine oJ1 tb fun t5 => ?_;rw [zgw];exact rt Tryz.results85 rfl

theorem zrZ (x_l : List Str) (R : List Str × Int) (w0 : World) (hG : zo w0) {x_l_p0 : Option Addr} {x_l_c0 : Nat} (hs0 : zH w0 x_l_p0 (cells zd x_l)) (hc0 : x_l.length ≤ x_l_c0) (hm : zhC x_l = some R) :
    Calls prog 185 #[.slice x_l_p0 x_l.length x_l_c0] w0 fun e w' => ∃ p0 c0,e = .returned (.tuple #[.slice p0 R.1.length c0,int R.2]) ∧ Dk.Own w0 [] w' [.row (.slice p0 R.1.length c0) 9 1 R.1.length (cells zd R.1)] := by
 rw [zhC] at hm;have hO := Dk.Own.refl w0;have hO := hO.addS hs0;refine S.enter tb Tryz.func185 rfl Tryz.ntmps185 rfl ?_ hO hm
 refine nl 9 1 <| nl 9 1 <| lw [11,12] [1,2] (fun J E L k => ∃ p4 c5, ∃ (l6 : List Str), ∃ i7,J ((4, .slice p4 l6.length c5) :: (13,int i7) :: E) (.row (.slice p4 l6.length c5) 9 1 l6.length (cells zd l6) :: L) (zct x_l k l6 i7)) rfl ?_
 refine lJ4 tb fun n1 p4 c5 l6 i7 => ?_;rw [zct];refine br0 rfl ?_ ?_;refine rw_ rfl fun a w hf hO hm => ?_;obtain ⟨x11,hx11,hm⟩ := ob hm;obtain ⟨b12,o13,hix11,hSx11⟩ := zgp (enc := zd) (sz := 1) (xs := x_l) 30 Tryz.underlying30 zex (by decide) (fun _ => rfl) (hO.sees (i := 2) rfl) hx11;refine zY (zg hix11 hf rfl rfl) rfl hf rfl rfl fun a hf => ?_;refine S.op tb ?_ hf hO hm
 refine vl rfl rfl (fun a w hf hO => zh (o := 0) zdp (hSx11 _ (hO.sees (i := 2) rfl)) rfl hf rfl) <| cm2 c_186 rfl (fun r15 w hr15 hO => znr x11 r15 _ (hG.o hO) hr15) fun r15 hr15 p16 c17 => br0 rfl ?_ ?_
 exact nl 9 1 <| rm0 Tryz.results185 [0] [] rfl
 refine lw [4,7,11,12,13,25,26] [0,1,2,3] (fun J E L k => ∃ i24,J ((27,int i24) :: E) (L) (zcs (zct x_l n1) l6 i7 r15 k i24)) rfl ?_;refine lJ1 tb fun n2 i24 => ?_;rw [zcs];refine br0 rfl ?_ ?_;refine rw_ rfl fun a w hf hO hm => ?_;obtain ⟨x28,hx28,hm⟩ := ob hm;obtain ⟨b29,o30,hix28,hSx28,hAx28⟩ := zG (enc := zd) (sz := 1) (xs := r15.1) 30 Tryz.underlying30 zex (by decide) (fun _ => rfl) hO (i := 0) rfl hx28;refine zY (zg hix28 hf rfl rfl) rfl hf rfl rfl fun a hf => ?_;refine S.op tb ?_ hf hO hm
 refine vl rfl rfl (fun a w hf hO => zh (o := 0) zdp (hSx28 _ (hO.rowSees (i := 0) rfl)) rfl hf rfl) <| clg c_85 hG.o rfl (ztW x28) fun r32 hr32 => br0 rfl ?_ ?_
 exact nl 9 1 <| rm0 Tryz.results185 [0] [] rfl
 exact bi rfl fun i37 hi37 => el0 rfl;refine rw_ rfl fun a w hf hO hm => ?_;obtain ⟨hg41,hm⟩ := og hm;refine zmt znz (enc := zd) (xs := l6) (ys := r15.1) (i := 1) (fun _ => rfl) rfl (hO.rowSees (i := 0) rfl) (by simp [zd,Value.oneCell']) hg41 hf rfl rfl rfl hO fun a p39 c40 w hf hO => ?_;refine S.op tb ?_ hf hO hm;exact bi rfl fun i43 hi43 => ecl [1,2,3] rfl rfl rfl;exact rm0 Tryz.results185 [0] [] rfl

theorem zml (x_r : length_reader) (x_l : List Str) (R : api_Frame × Int) (w0 : World) (hG : zo w0) {x_r_b0 : Nat} {x_r_p1 : Option Addr} {x_r_c1 : Nat} (hs0 : zH w0 (some ⟨x_r_b0,0,none⟩) [.slice x_r_p1 x_r.Bag.f_l.length x_r_c1]) (hs1 : zH w0 x_r_p1 (cells zb x_r.Bag.f_l)) (hc1 : x_r.Bag.f_l.length ≤ x_r_c1) {x_l_p2 : Option Addr} {x_l_c2 : Nat} (hs2 : zH w0 x_l_p2 (cells zd x_l)) (hc2 : x_l.length ≤ x_l_c2) (hm : zcN x_r x_l = some R) :
    Calls prog 135 #[.agg #[ptr x_r_b0 0,int x_r.f_minor], .slice x_l_p2 x_l.length x_l_c2] w0 (Ret w0 (fun R => .tuple #[.agg #[int R.1.Kind,int R.1.N],int R.2]) R) := by
 rw [zcN] at hm;have hO := Dk.Own.refl w0;have hO := hO.addS hs0;have hO := hO.addS hs1;have hO := hO.addS hs2;refine S.enter tb Tryz.func135 rfl Tryz.ntmps135 rfl ?_ hO hm;refine bo rfl fun b1 => al zny rfl fun b2 => ?_;refine cm2 c_185 rfl (fun r4 w hr4 hO => zrZ x_l r4 _ (hG.o hO) (hO.sees (i := 2) rfl) hc2 hr4) fun r4 hr4 p5 c6 => jv 1 [4] [0,1,2,3,4,5] (fun J E L => ∃ t15,J ((31, .bool t15) :: E) (L) (zat t15)) rfl ?_ ?_;refine br0 rfl ?_ ?_;exact en0 rfl
 refine ld 2 rfl rfl <| br0 rfl ?_ ?_
 exact en0 rfl;refine br rfl (fun hc10 => ?_) fun hc10 => ?_;exact en0 rfl;refine rw_ rfl fun a w hf hO hm => ?_;obtain ⟨x11,hx11,hm⟩ := ob hm;obtain ⟨b12,o13,hix11,hSx11,hAx11⟩ := zG (enc := zd) (sz := 1) (xs := r4.1) 30 Tryz.underlying30 zex (by decide) (fun _ => rfl) hO (i := 0) rfl hx11;refine zY (zg hix11 hf rfl rfl) rfl hf rfl rfl fun a hf => ?_;refine S.op tb ?_ hf hO hm;refine kn (b' := false) hc10 rfl ?_
 exact vl rfl rfl (fun a w hf hO => zh (o := 0) zdp (hSx11 _ (hO.rowSees (i := 0) rfl)) rfl hf rfl) <| clg c_182 hG.o rfl (zqd x11 [99,104,117,110,107,101,100]) fun r14 hr14 => en0 rfl
 refine oJ1 tb fun t15 => ?_;rw [zat];refine br0 rfl ?_ ?_
 exact bu0 (.agg #[int 0,int 0]) rfl rfl <| st 1 rfl rfl <| rb0 Tryz.results135 [1] rfl
 exact bu0 (.agg #[int 3,int 0]) rfl rfl <| st 1 rfl rfl <| rb0 Tryz.results135 [1] rfl

theorem zlQ (x_r : length_reader) (x_l : List Str) (R : api_Frame × Int) (w0 : World) (hG : zo w0) {x_r_b0 : Nat} {x_r_p1 : Option Addr} {x_r_c1 : Nat} (hs0 : zH w0 (some ⟨x_r_b0,0,none⟩) [.slice x_r_p1 x_r.Bag.f_l.length x_r_c1]) (hs1 : zH w0 x_r_p1 (cells zb x_r.Bag.f_l)) (hc1 : x_r.Bag.f_l.length ≤ x_r_c1) {x_l_p2 : Option Addr} {x_l_c2 : Nat} (hs2 : zH w0 x_l_p2 (cells zd x_l)) (hc2 : x_l.length ≤ x_l_c2) (hm : zcl x_r x_l = some R) :
    Calls prog 136 #[.agg #[ptr x_r_b0 0,int x_r.f_minor], .slice x_l_p2 x_l.length x_l_c2] w0 (Ret w0 (fun R => .tuple #[.agg #[int R.1.Kind,int R.1.N],int R.2]) R) := by
 rw [zcl] at hm;have hO := Dk.Own.refl w0;have hO := hO.addS hs0;have hO := hO.addS hs1;have hO := hO.addS hs2;refine S.enter tb Tryz.func136 rfl Tryz.ntmps136 rfl ?_ hO hm;refine bo rfl fun b1 => al zny rfl fun b2 => lw [4,15,16] [0,1,2,3,4] (fun J E L k => ∃ i6 i7,J ((6,int i6) :: (17,int i7) :: E) (L) (zT x_l k i6 i7)) rfl ?_;refine lJ2 tb fun n1 i6 i7 => ?_;rw [zT];refine br0 rfl ?_ ?_;refine rw_ rfl fun a w hf hO hm => ?_;obtain ⟨x11,hx11,hm⟩ := ob hm;obtain ⟨b12,o13,hix11,hSx11⟩ := zgp (enc := zd) (sz := 1) (xs := x_l) 30 Tryz.underlying30 zex (by decide) (fun _ => rfl) (hO.sees (i := 2) rfl) hx11;refine zY (zg hix11 hf rfl rfl) rfl hf rfl rfl fun a hf => ?_;refine S.op tb ?_ hf hO hm
 refine vl rfl rfl (fun a w hf hO => zh (o := 0) zdp (hSx11 _ (hO.sees (i := 2) rfl)) rfl hf rfl) <| cm2 c_186 rfl (fun r15 w hr15 hO => znr x11 r15 _ (hG.o hO) hr15) fun r15 hr15 p16 c17 => br0 rfl ?_ ?_
 exact bu0 (.agg #[int 0,int 0]) rfl rfl <| st 1 rfl rfl <| rb0 Tryz.results136 [1] rfl
 refine lw [4,15,16,17,29,30] [0,1,2,3,4,5] (fun J E L k => ∃ i24 i25,J ((6,int i24) :: (31,int i25) :: E) (L) (zC (zT x_l n1) i7 r15 k i24 i25)) rfl ?_;refine lJ2 tb fun n2 i24 i25 => ?_;rw [zC];refine br0 rfl ?_ ?_;refine rw_ rfl fun a w hf hO hm => ?_;obtain ⟨x29,hx29,hm⟩ := ob hm;obtain ⟨b30,o31,hix29,hSx29,hAx29⟩ := zG (enc := zd) (sz := 1) (xs := r15.1) 30 Tryz.underlying30 zex (by decide) (fun _ => rfl) hO (i := 0) rfl hx29;refine zY (zg hix29 hf rfl rfl) rfl hf rfl rfl fun a hf => ?_;refine S.op tb ?_ hf hO hm
 refine vl rfl rfl (fun a w hf hO => zh (o := 0) zdp (hSx29 _ (hO.rowSees (i := 0) rfl)) rfl hf rfl) <| clg zyQ hG.o rfl (zgg x29 1099511627776) fun r33 hr33 => jv 10 [4,13,15,16,17,29,30,31] [0,1,2,3,4,5] (fun J E L => ∃ t37,J ((50, .bool t37) :: E) (L) (zaj (zC (zT x_l n1) i7 r15 n2) i25 r33 t37)) rfl ?_ ?_
 refine br0 rfl ?_ ?_;exact en0 rfl;refine br0 rfl ?_ ?_;exact en0 rfl;exact en0 rfl;refine oJ1 tb fun t37 => ?_;rw [zaj];refine br0 rfl ?_ ?_
 exact bu0 (.agg #[int 0,int 0]) rfl rfl <| st 1 rfl rfl <| rb0 Tryz.results136 [1] rfl
 exact bi rfl fun i42 hi42 => el0 rfl;exact bi rfl fun i44 hi44 => ecl [1,2,3,4,5] rfl rfl rfl;refine br0 rfl ?_ ?_
 exact bu0 (.agg #[int 0,int 0]) rfl rfl <| st 0 rfl rfl <| rb0 Tryz.results136 [0] rfl
 exact bu0 (.agg #[int 2,int i6]) rfl rfl <| st 0 rfl rfl <| rb0 Tryz.results136 [0] rfl

end Go.Proofs
end
section
set_option linter.unusedVariables false
set_option maxHeartbeats 1000000
set_option linter.unusedSimpArgs false
set_option maxRecDepth 100000
namespace Go.Proofs
open Go.Dk Go.Dm Go.RowKit
open Tryz (prog)
set_option maxHeartbeats 1000000

theorem zrP (x_h : api_Head) (x_none : Int) (R : api_Frame × Int) (w0 : World) (hG : zo w0) {x_h_p0 : Option Addr} {x_h_c0 : Nat} (hs0 : zH w0 x_h_p0 (cells zb x_h.Fields)) (hc0 : x_h.Fields.length ≤ x_h_c0) (hm : zkq x_h x_none = some R) :
    Calls prog 90 #[(zir x_h x_h_p0 x_h_c0),int x_none] w0 (Ret w0 (fun R => .tuple #[.agg #[int R.1.Kind,int R.1.N],int R.2]) R) := by
 rw [zkq] at hm;have hO := Dk.Own.refl w0;have hO := hO.addS hs0;refine S.enter tb Tryz.func90 rfl Tryz.ntmps90 rfl ?_ hO hm;refine bo rfl fun b1 => al zny rfl fun b2 => rc_ rfl fun a w hf hO hm => ?_;obtain ⟨r4,hr4,hm⟩ := ob hm;refine zoq (S := Nat × Option Addr × Nat × Nat) (E0 := [(1,int x_none),(2,ptr b1 0),(4,ptr b2 0)]) (by kernel_rfl) (fun bs σ w => match bs with | [false,false,false] => Dk.Own w0 [] w [.blk b2 [int 0,int 0] 38, .blk b1 (zt0 x_h x_h_p0 x_h_c0) 35, .shr x_h_p0 (cells zb x_h.Fields)] | [true,false,false] => Dk.Own w0 [] w [.blk (σ.1) [.slice (σ.2.1) r4.f_l.length (σ.2.2.1)] 263, .row (.slice (σ.2.1) r4.f_l.length (σ.2.2.1)) 110 2 r4.f_l.length (cells zb r4.f_l), .blk b2 [int 0,int 0] 38, .blk b1 (zt0 x_h x_h_p0 x_h_c0) 35, .shr x_h_p0 (cells zb x_h.Fields)] | [false,true,false] => Dk.Own w0 [] w [.blk (σ.2.2.2) [.pointer none,int 0] 217, .blk b2 [int 0,int 0] 38, .blk b1 (zt0 x_h x_h_p0 x_h_c0) 35, .shr x_h_p0 (cells zb x_h.Fields)] | [true,true,false] => Dk.Own w0 [] w [.blk (σ.2.2.2) [.pointer none,int 0] 217, .blk (σ.1) [.slice (σ.2.1) r4.f_l.length (σ.2.2.1)] 263, .row (.slice (σ.2.1) r4.f_l.length (σ.2.2.1)) 110 2 r4.f_l.length (cells zb r4.f_l), .blk b2 [int 0,int 0] 38, .blk b1 (zt0 x_h x_h_p0 x_h_c0) 35, .shr x_h_p0 (cells zb x_h.Fields)] | [true,true,true] => Dk.Own w0 [] w [.blk (σ.2.2.2) [ptr (σ.1) 0,int x_h.Minor] 217, .blk (σ.1) [.slice (σ.2.1) r4.f_l.length (σ.2.2.1)] 263, .row (.slice (σ.2.1) r4.f_l.length (σ.2.2.1)) 110 2 r4.f_l.length (cells zb r4.f_l), .blk b2 [int 0,int 0] 38, .blk b1 (zt0 x_h x_h_p0 x_h_c0) 35, .shr x_h_p0 (cells zb x_h.Fields)] | _ => False) (fun σ => [⟨[(2,ptr b1 0)],some (9,ptr b1 6)⟩,⟨[(9,ptr b1 6)],some (10, .slice x_h_p0 x_h.Fields.length x_h_c0)⟩,⟨[(10, .slice x_h_p0 x_h.Fields.length x_h_c0)],some (11,ptr (σ.1) 0)⟩,⟨[(2,ptr b1 0)],some (12,ptr b1 5)⟩,⟨[(12,ptr b1 5)],some (13,int x_h.Minor)⟩,⟨[(11,ptr (σ.1) 0),(13,int x_h.Minor)],some (14, .agg #[ptr (σ.1) 0,int x_h.Minor])⟩,⟨[],some (6,ptr (σ.2.2.2) 0)⟩,⟨[(6,ptr (σ.2.2.2) 0),(14, .agg #[ptr (σ.1) 0,int x_h.Minor])],none⟩]) (0,none,0,0) [2,6,7] rfl (fun _ => rfl) (fun _ => rfl) (fun _ => rfl) rfl (by decide) rfl hO.drew (hf.cons rfl (hf.cons rfl (hf.cons rfl hf.nil))) (fun σ => eE) ⟨sUp (fun σ => rfl) (fun σ => rfl) fun σ a w hf => zjD zyG hf rfl,zjs rfl (fun σ => rfl) (fun σ => rfl) (fun σ a w => by refine bs3 ?_ ?_ ?_ ?_ ?_ ?_ ?_ ?_; exact (fun _ hO hf => zh (o := 6) zAL (hO.blkSees (i := 1) rfl) rfl hf rfl); exact (fun h _ _ => nk h); exact (fun _ hO hf => zh (o := 6) zAL (hO.blkSees (i := 2) rfl) rfl hf rfl); exact (fun h _ _ => nk h); exact (fun _ h _ => False.elim h); exact (fun _ h _ => False.elim h); exact (fun _ h _ => False.elim h); exact (fun h _ _ => nk h)),zsc rfl (fun σ => rfl) (fun σ => rfl) rfl (fun σ a w hf => zbU c_132 hf (vs := [.slice x_h_p0 x_h.Fields.length x_h_c0]) rfl) (fun σ w => by refine bs3 ?_ ?_ ?_ ?_ ?_ ?_ ?_ ?_; exact (fun _ hO => (zq9 x_h.Fields r4 _ (hG.o hO) (hO.sees (i := 2) rfl) hc0 hr4).mono fun e w' h => by obtain ⟨b5,p6,c7,he,hO'⟩ := h; exact ⟨(b5,p6,c7,(σ.2.2.2)),he,hO.call hO' (by simp [Res.shared]),eZ⟩); exact (fun h _ => nk h); exact (fun _ hO => (zq9 x_h.Fields r4 _ (hG.o hO) (hO.sees (i := 3) rfl) hc0 hr4).mono fun e w' h => by obtain ⟨b5,p6,c7,he,hO'⟩ := h; exact ⟨(b5,p6,c7,(σ.2.2.2)),he,(hO.call hO' (by simp [Res.shared])).choose [2,0,1,3,4,5] rfl,eZ⟩); exact (fun h _ => nk h); exact (fun _ h => False.elim h); exact (fun _ h => False.elim h); exact (fun _ h => False.elim h); exact (fun h _ => nk h)),sUp (fun σ => rfl) (fun σ => rfl) fun σ a w hf => zjD zyF hf rfl,zjs rfl (fun σ => rfl) (fun σ => rfl) (fun σ a w => by refine bs3 ?_ ?_ ?_ ?_ ?_ ?_ ?_ ?_; exact (fun _ hO hf => zh (o := 5) zkB (hO.blkSees (i := 1) rfl) rfl hf rfl); exact (fun _ hO hf => zh (o := 5) zkB (hO.blkSees (i := 3) rfl) rfl hf rfl); exact (fun _ hO hf => zh (o := 5) zkB (hO.blkSees (i := 2) rfl) rfl hf rfl); exact (fun _ hO hf => zh (o := 5) zkB (hO.blkSees (i := 4) rfl) rfl hf rfl); exact (fun _ h _ => False.elim h); exact (fun _ h _ => False.elim h); exact (fun _ h _ => False.elim h); exact (fun h _ _ => nk h)),sUp (fun σ => rfl) (fun σ => rfl) fun σ a w hf => zp6 (vs := [(0,ptr (σ.1) 0),(1,int x_h.Minor)]) (v := .agg #[ptr (σ.1) 0,int x_h.Minor]) hf rfl (by kernel_rfl),zvh rfl (fun σ => rfl) (fun σ => rfl) rfl (fun σ w => by refine bs3 ?_ ?_ ?_ ?_ ?_ ?_ ?_ ?_; exact (fun _ hO => by obtain ⟨b8,w',hO',hr⟩ := ziS (E := []) zAN hO; exact ⟨((σ.1),(σ.2.1),(σ.2.2.1),b8),w',hO',eZ,hr⟩); exact (fun _ hO => by obtain ⟨b8,w',hO',hr⟩ := ziS (E := []) zAN hO; exact ⟨((σ.1),(σ.2.1),(σ.2.2.1),b8),w',hO',eZ,hr⟩); exact (fun h _ => nk h); exact (fun h _ => nk h); exact (fun _ h => False.elim h); exact (fun _ h => False.elim h); exact (fun _ h => False.elim h); exact (fun h _ => nk h)),zsd rfl (fun σ => rfl) (fun σ => rfl) rfl (fun σ w => by refine bs3 ?_ ?_ ?_ ?_ ?_ ?_ ?_ ?_; exact (fun h _ => nk h); exact (fun h _ => nk h); exact (fun h _ => nk h); exact (fun _ hO => by obtain ⟨w',hO',hr⟩ := zd9 (x := (.tmp 6)) (y := (.tmp 14)) (E := [(6,ptr (σ.2.2.2) 0),(14, .agg #[ptr (σ.1) 0,int x_h.Minor])]) (i := 0) (n := 2) (vs := [ptr (σ.1) 0,int x_h.Minor]) zBU rfl rfl rfl (by simp [Value.oneCell']) hO rfl rfl; exact ⟨((σ.1),(σ.2.1),(σ.2.2.1),(σ.2.2.2)),w',hO',eZ,hr⟩); exact (fun _ h => False.elim h); exact (fun _ h => False.elim h); exact (fun _ h => False.elim h); exact (fun h _ => nk h)),trivial⟩ ?_;rintro ⟨b5,p6,c7,b8⟩ a w hf hO;have hO : Dk.Own w0 [] w _ := hO;have hf : Fits 51 [(1,int x_none),(4,ptr b2 0),(6,ptr b8 0)] a := (hf.cons rfl (hf.cons rfl (hf.cons rfl hf.nil)));refine S.no tb ?_ hf hO hm;refine rc_ rfl fun a w hf hO hm => ?_;obtain ⟨r10,hr10,hm⟩ := ob hm;obtain ⟨r13,hr13,hm⟩ := ob hm;refine dS (S := Option Addr × Nat × Option Addr × Nat) [(1,int x_none),(4,ptr b2 0),(6,ptr b8 0)] (fun σ => (fun (q0 q1 q2 q3 q4 q5 q6 : Res) => [[q0,q1,q2,q3,q4,q5],[q6,q0,q1,q2,q3,q4,q5],[.row (.slice (σ.2.2.1) r13.length (σ.2.2.2)) 9 1 r13.length (cells zd r13),q6,q0,q1,q2,q3,q4,q5]]) (.blk b8 [ptr b5 0,int x_h.Minor] 217) (.blk b5 [.slice p6 r4.f_l.length c7] 263) (.row (.slice p6 r4.f_l.length c7) 110 2 r4.f_l.length (cells zb r4.f_l)) (.blk b2 [int 0,int 0] 38) (.blk b1 (zt0 x_h x_h_p0 x_h_c0) 35) (.shr x_h_p0 (cells zb x_h.Fields)) (.row (.slice (σ.1) r10.length (σ.2.1)) 9 1 r10.length (cells zd r10))) (fun σ => [⟨[(6,ptr b8 0)],some (15,ptr b8 0)⟩,⟨[(15,ptr b8 0)],some (16,ptr b5 0)⟩,⟨[(16,ptr b5 0)],some (17, .slice (σ.1) r10.length (σ.2.1))⟩,⟨[(6,ptr b8 0)],some (18,ptr b8 0)⟩,⟨[(18,ptr b8 0)],some (19,ptr b5 0)⟩,⟨[(19,ptr b5 0)],some (20, .slice (σ.2.2.1) r13.length (σ.2.2.2))⟩,⟨[(17, .slice (σ.1) r10.length (σ.2.1))],some (7, .slice (σ.1) r10.length (σ.2.1))⟩,⟨[(20, .slice (σ.2.2.1) r13.length (σ.2.2.2))],some (8, .slice (σ.2.2.1) r13.length (σ.2.2.2))⟩]) (none,0,none,0) [2,5] hO hf ⟨sE tb,sD tb 0 [0],sC 0 (fun hf => zbU zB1 hf (vs := [ptr b5 0,str [84,114,97,110,115,102,101,114,45,69,110,99,111,100,105,110,103]]) rfl) (@fun σ w hO => (zji r4 [84,114,97,110,115,102,101,114,45,69,110,99,111,100,105,110,103] r10 _ (hG.o hO) (hO.blkSees (i := 1) rfl) (hO.rowSees (i := 2) rfl) (hO.rowCap (i := 2) rfl) hr10).mono fun e w' ⟨p11,c12,he,hO'⟩ => cR (σ := σ) (p11,c12,(σ.2.2.1),(σ.2.2.2)) he (hO.call hO' (by simp [Res.shared]))),sE tb,sD tb 0 [0,1],sC 1 (fun hf => zbU zB1 hf (vs := [ptr b5 0,str [67,111,110,116,101,110,116,45,76,101,110,103,116,104]]) rfl) (@fun σ w hO => (zji r4 [67,111,110,116,101,110,116,45,76,101,110,103,116,104] r13 _ (hG.o hO) (hO.blkSees (i := 2) rfl) (hO.rowSees (i := 3) rfl) (hO.rowCap (i := 3) rfl) hr13).mono fun e w' ⟨p14,c15,he,hO'⟩ => cR (σ := σ) ((σ.1),(σ.2.1),p14,c15) he (hO.call hO' (by simp [Res.shared]))),sE tb,sE tb,trivial⟩ ?_;rintro ⟨p11,c12,p14,c15⟩ a w hf hO;have hO : Dk.Own w0 [] w _ := hO;have hf : Fits 51 [(1,int x_none),(4,ptr b2 0),(6,ptr b8 0),(7, .slice p11 r10.length c12),(8, .slice p14 r13.length c15)] a := (hf.cons rfl (hf.cons rfl (hf.cons rfl (hf.cons rfl (hf.cons rfl hf.nil)))));refine S.no tb ?_ hf hO hm;refine jv 2 [1,4,6,7,8] [0,1,2,3,4,5,6,7] (fun J E L => ∃ t18,J ((21, .bool t18) :: E) (L) (zfs x_h x_none r4 r10 r13 t18)) rfl ?_ ?_;refine br0 rfl ?_ ?_;exact en0 rfl;exact en0 rfl;refine oJ1 tb fun t18 => ?_;rw [zfs];refine br0 rfl ?_ ?_
 exact bu0 (.agg #[int 0,int 0]) rfl rfl <| st 5 rfl rfl <| rb0 Tryz.results90 [5] rfl
 refine br0 rfl ?_ ?_;refine ld 2 rfl rfl ?_
 exact cl c_135 rfl (fun r23 w hr23 hO => zml (⟨r4,x_h.Minor⟩ : length_reader) r10 r23 _ (hG.o hO) (hO.blkSees (i := 3) rfl) (hO.rowSees (i := 4) rfl) (hO.rowCap (i := 4) rfl) (hO.rowSees (i := 1) rfl) (hO.rowCap (i := 1) rfl) hr23) fun r23 hr23 => st 5 rfl rfl <| rb0 Tryz.results90 [5] rfl
 refine br0 rfl ?_ ?_;refine ld 2 rfl rfl ?_
 exact cl c_136 rfl (fun r27 w hr27 hO => zlQ (⟨r4,x_h.Minor⟩ : length_reader) r13 r27 _ (hG.o hO) (hO.blkSees (i := 3) rfl) (hO.rowSees (i := 4) rfl) (hO.rowCap (i := 4) rfl) (hO.rowSees (i := 0) rfl) (hO.rowCap (i := 0) rfl) hr27) fun r27 hr27 => st 5 rfl rfl <| rb0 Tryz.results90 [5] rfl
 exact bu0 (.agg #[int x_none,int 0]) rfl rfl <| st 5 rfl rfl <| rb0 Tryz.results90 [5] rfl

theorem zrf (x_h : api_Head) (R : api_Frame × Int) (w0 : World) (hG : zo w0) {x_h_p0 : Option Addr} {x_h_c0 : Nat} (hs0 : zH w0 x_h_p0 (cells zb x_h.Fields)) (hc0 : x_h.Fields.length ≤ x_h_c0) (hm : ziK x_h = some R) :
    Calls prog 61 #[(zir x_h x_h_p0 x_h_c0)] w0 (Ret w0 (fun R => .tuple #[.agg #[int R.1.Kind,int R.1.N],int R.2]) R) := by
 rw [ziK] at hm;have hO := Dk.Own.refl w0;have hO := hO.addS hs0;refine S.enter tb Tryz.func61 rfl Tryz.ntmps61 rfl ?_ hO hm;refine bo rfl fun b1 => al zny rfl fun b2 => ld 1 rfl rfl ?_
 exact cl c_90 rfl (fun r4 w hr4 hO => zrP x_h 1 r4 _ (hG.o hO) (hO.sees (i := 2) rfl) hc0 hr4) fun r4 hr4 => st 0 rfl rfl <| rb0 Tryz.results61 [0] rfl

theorem zqo (x_method : Str) (x_code : Int) (R : Bool) (w0 : World) (hG : zo w0) (hm : zfM x_method x_code = some R) :
    Calls prog 91 #[str x_method,int x_code] w0 (Ret w0 (fun R => .bool R) R) := by
 rw [zfM] at hm;refine S.ent0 tb Tryz.func91 rfl Tryz.ntmps91 rfl hm ?_;refine jv 0 [] [] (fun J E L => ∃ t7,J ((4, .bool t7) :: E) (L) (zaE t7)) rfl ?_ ?_;refine br0 rfl ?_ ?_;exact en0 rfl;refine br0 rfl ?_ ?_;exact en0 rfl;refine br0 rfl ?_ ?_;exact en0 rfl;refine br0 rfl ?_ ?_;exact en0 rfl;refine br0 rfl ?_ ?_;exact en0 rfl;exact en0 rfl;refine oJ1 tb fun t7 => ?_;rw [zaE];exact rt Tryz.results91 rfl

theorem zqp (x_method : Str) (x_h : api_Head) (R : api_Frame × Int) (w0 : World) (hG : zo w0) {x_h_p0 : Option Addr} {x_h_c0 : Nat} (hs0 : zH w0 x_h_p0 (cells zb x_h.Fields)) (hc0 : x_h.Fields.length ≤ x_h_c0) (hm : zhR x_method x_h = some R) :
    Calls prog 62 #[str x_method,(zir x_h x_h_p0 x_h_c0)] w0 (Ret w0 (fun R => .tuple #[.agg #[int R.1.Kind,int R.1.N],int R.2]) R) := by
 rw [zhR] at hm;have hO := Dk.Own.refl w0;have hO := hO.addS hs0;refine S.enter tb Tryz.func62 rfl Tryz.ntmps62 rfl ?_ hO hm
 refine bo rfl fun b1 => al zny rfl fun b2 => ld 1 rfl rfl <| clg c_91 hG.o rfl (zqo x_method x_h.Code) fun r4 hr4 => br0 rfl ?_ ?_
 exact bu0 (.agg #[int 1,int 0]) rfl rfl <| st 0 rfl rfl <| rb0 Tryz.results62 [0] rfl
 refine ld 1 rfl rfl ?_
 exact cl c_90 rfl (fun r9 w hr9 hO => zrP x_h 4 r9 _ (hG.o hO) (hO.sees (i := 2) rfl) hc0 hr9) fun r9 hr9 => st 0 rfl rfl <| rb0 Tryz.results62 [0] rfl

theorem zr6 (x_method : Str) (x_h : api_Head) (R : api_Frame × Int) (w0 : World) (hG : zo w0) {x_h_p0 : Option Addr} {x_h_c0 : Nat} (hs0 : zH w0 x_h_p0 (cells zb x_h.Fields)) (hc0 : x_h.Fields.length ≤ x_h_c0) (hm : zhD x_method x_h = some R) :
    Calls prog 31 #[str x_method,(zir x_h x_h_p0 x_h_c0)] w0 (Ret w0 (fun R => .tuple #[.agg #[int R.1.Kind,int R.1.N],int R.2]) R) := by
 rw [zhD] at hm;have hO := Dk.Own.refl w0;have hO := hO.addS hs0;refine S.enter tb Tryz.func31 rfl Tryz.ntmps31 rfl ?_ hO hm
 refine bo rfl fun b1 => al zny rfl fun b2 => ld 1 rfl rfl <| br0 rfl ?_ ?_
 refine ld 1 rfl rfl ?_
 exact cl c_61 rfl (fun r6 w hr6 hO => zrf x_h r6 _ (hG.o hO) (hO.sees (i := 2) rfl) hc0 hr6) fun r6 hr6 => st 0 rfl rfl <| rb0 Tryz.results31 [0] rfl
 refine ld 1 rfl rfl ?_
 exact cl c_62 rfl (fun r9 w hr9 hO => zqp x_method x_h r9 _ (hG.o hO) (hO.sees (i := 2) rfl) hc0 hr9) fun r9 hr9 => st 0 rfl rfl <| rb0 Tryz.results31 [0] rfl

theorem zuo (x_limit : Int) (R : Option dechunk_Decoder × Int) (w0 : World) (hG : zo w0) (hm : zjM x_limit = some R) :
    Calls prog 74 #[int x_limit] w0 fun e w' => ztB R.1 (e = .returned (.tuple #[.pointer none,int R.2]) ∧ Below w0.heap.size w0 w') (fun x => ∃ b0 p1 c1 p2 c2,e = .returned (.tuple #[ptr b0 0,int R.2]) ∧ Dk.Own w0 [] w' [.blk b0 (zgm x p1 c1 p2 c2) 201, .row (.slice p1 x.f_line.length c1) 5 1 x.f_line.length (cells zi x.f_line), .row (.slice p2 x.f_trailers.length c2) 110 2 x.f_trailers.length (cells zb x.f_trailers)]) := by
 rw [zjM] at hm;refine S.ent0 tb Tryz.func74 rfl Tryz.ntmps74 rfl hm ?_;refine jv 1 [0] [] (fun J E L => ∃ t3,J ((9, .bool t3) :: E) (L) (ziL x_limit t3)) rfl ?_ ?_;refine br0 rfl ?_ ?_;exact en0 rfl;exact en0 rfl;refine oJ1 tb fun t3 => ?_;rw [ziL];refine br0 rfl ?_ ?_;refine re_ rfl fun a w hf hO hm => ?_;cases hm;exact zfE Tryz.results74 hf (.tmp rfl (.tmp rfl .nil)) ⟨rfl,hO.below⟩
 refine bu0 (.agg #[int x_limit,int 0, .slice none 0 0,int 0,int 0,int 0, .slice none 0 0]) rfl rfl <| bo rfl fun b7 => nl 5 1 <| nl 110 2 <| re_ rfl fun a w hf hO hm => ?_
 cases hm;exact zfE Tryz.results74 hf (.tmp rfl (.tmp rfl .nil)) ⟨b7,none,0,none,0,rfl,(hO.choose [2,1,0] rfl)⟩

theorem zyn (x_a0 : api_Frame) (x_a1 : Int) (R : Option (Bool × body_Body) × Int) (w0 : World) (hG : zo w0) (hm : zl9 x_a0 x_a1 = some R) :
    Calls prog 44 #[.agg #[int x_a0.Kind,int x_a0.N],int x_a1] w0 fun e w' => ztB R.1 (e = .returned (.tuple #[.pointer none,int R.2]) ∧ Below w0.heap.size w0 w') (fun x => bE x.1 (∃ b0 b1 p2 c2 p3 c3,e = .returned (.tuple #[ptr b0 0,int R.2]) ∧ Dk.Own w0 [] w' [.blk b0 [ptr b1 0,int x.2.f_frame.Kind,int x.2.f_frame.N,int x.2.f_left, .bool x.2.f_done, .bool x.2.f_bad] 150, .blk b1 (zgm x.2.Decoder p2 c2 p3 c3) 201, .row (.slice p2 x.2.Decoder.f_line.length c2) 5 1 x.2.Decoder.f_line.length (cells zi x.2.Decoder.f_line), .row (.slice p3 x.2.Decoder.f_trailers.length c3) 110 2 x.2.Decoder.f_trailers.length (cells zb x.2.Decoder.f_trailers)]) (∃ b0,e = .returned (.tuple #[ptr b0 0,int R.2]) ∧ Dk.Own w0 [] w' [.blk b0 [.pointer none,int x.2.f_frame.Kind,int x.2.f_frame.N,int x.2.f_left, .bool x.2.f_done, .bool x.2.f_bad] 150])) := by
 rw [zl9] at hm;refine S.ent0 tb Tryz.func44 rfl Tryz.ntmps44 rfl hm ?_;refine bo rfl fun b1 => jn 0 (fun a w => (∃ i11,Fits 65 [(2,ptr b1 0),(6, .pointer none),(7,int i11)] a ∧ Dk.Own w0 [] w [.blk b1 [int x_a0.Kind,int x_a0.N] 38] ∧ zn0 x_a0 i11 = some R) ∨ (∃ b28 i29 i30 i31 p32 c33, ∃ (l34 : List UInt8), ∃ i35 i36 i37 p38 c39, ∃ (l40 : List api_Field),Fits 65 [(2,ptr b1 0),(6,ptr b28 0),(7,int i29)] a ∧ Dk.Own w0 [] w [.blk b28 [int i30,int i31, .slice p32 l34.length c33,int i35,int i36,int i37, .slice p38 l40.length c39] 201, .row (.slice p32 l34.length c33) 5 1 l34.length (cells zi l34), .row (.slice p38 l40.length c39) 110 2 l40.length (cells zb l40), .blk b1 [int x_a0.Kind,int x_a0.N] 38] ∧ zjP x_a0 i29 i30 i31 l34 i35 i36 i37 l40 = some R)) rfl ?_ ?_;refine rw_ rfl fun a w hf hO hm => ?_;obtain ⟨r3,hr3,hm⟩ := ob hm;refine znw (zbU c_74 hf (vs := [int x_a1]) rfl) rfl hf rfl rfl (zuo x_a1 r3 _ (hG.o hO) hr3) ?_;rintro e w' hpost4
 rcases hopt4 : r3.1 with _ | x5
 have hm := zyl hopt4 hm;obtain ⟨he,hb⟩ := zv3 hopt4 hpost4;refine ⟨_,he,fun a hf => ?_⟩;have hO := hO.grow hb;refine S.op tb ?_ hf hO hm;refine eo rfl fun a w hf hO hm => ?_;exact Or.inl ⟨r3.2,hf.sel rfl,hO,hm⟩;have hm := zym hopt4 hm;obtain ⟨b6,p7,c8,p9,c10,he,hO'⟩ := zv4 hopt4 hpost4;refine ⟨_,he,fun a hf => ?_⟩;have hO := hO.call hO' (by simp [Res.shared]);refine S.op tb ?_ hf hO hm;refine eo rfl fun a w hf hO hm => ?_;exact Or.inr (⟨b6,r3.2,x5.f_limit,x5.f_at,p7,c8,x5.f_line,x5.f_left,x5.f_sum,x5.f_spent,p9,c10,x5.f_trailers,hf.sel rfl,hO,hm⟩);rintro a w (⟨i11,hf,hO,hm⟩ | ⟨b28,i29,i30,i31,p32,c33,l34,i35,i36,i37,p38,c39,l40,hf,hO,hm⟩);rw [zn0] at hm;refine S.co tb ?_ hf hO hm;refine jv 1 [2,6] [0] (fun J E L => ∃ t16,J ((35, .bool t16) :: E) (L) (zgx x_a0 t16)) rfl ?_ ?_;refine br0 rfl ?_ ?_;exact en0 rfl
 refine ld 0 rfl rfl <| br0 rfl ?_ ?_
 exact en0 rfl
 refine ld 0 rfl rfl <| br0 rfl ?_ ?_
 exact en0 rfl
 refine ld 0 rfl rfl <| br0 rfl ?_ ?_
 exact en0 rfl
 exact ld 0 rfl rfl <| en0 rfl
 refine oJ1 tb fun t16 => ?_;rw [zgx];refine br0 rfl ?_ ?_;refine re_ rfl fun a w hf hO hm => ?_;cases hm;exact zfE Tryz.results44 hf (.tmp rfl (.tmp rfl .nil)) ⟨rfl,hO.below⟩
 refine ld 0 rfl rfl <| ld 0 rfl rfl <| bu0 (.agg #[.pointer none,int x_a0.Kind,int x_a0.N,int x_a0.N, .bool false, .bool false]) rfl rfl <| bo rfl fun b20 => jv 0 [2,8] [0,1] (fun J E L => J (E) (L) (zlk x_a0)) rfl ?_ ?_
 refine ld 1 rfl rfl <| br0 rfl ?_ ?_
 exact st 0 rfl rfl <| en0 rfl
 exact en0 rfl;refine oJ0 tb ?_;rw [zlk];refine jv 0 [8] [1] (fun J E L => ∃ t26,J (E) (.blk b20 [.pointer none,int x_a0.Kind,int x_a0.N,int x_a0.N, .bool t26, .bool false] 150 :: L) (zjN x_a0 t26)) rfl ?_ ?_
 refine ld 1 rfl rfl <| br0 rfl ?_ ?_
 exact st 0 rfl rfl <| en0 rfl
 refine ld 1 rfl rfl <| br0 rfl ?_ ?_
 exact ld 1 rfl rfl <| st 0 rfl rfl <| en0 rfl
 exact st 0 rfl rfl <| en0 rfl
 refine oJ1 tb fun t26 => ?_;rw [zjN];refine re_ rfl fun a w hf hO hm => ?_;cases hm;exact zfE Tryz.results44 hf (.tmp rfl (.tmp rfl .nil)) ⟨b20,rfl,(hO.sub (.cons_cons _ (.cons _ .slnil)))⟩;rw [zjP] at hm;refine S.co tb ?_ hf hO hm;refine jv 1 [2,6] [0,1,2,3] (fun J E L => ∃ t45,J ((35, .bool t45) :: E) (L) (zgy x_a0 i30 i31 l34 i35 i36 i37 l40 t45)) rfl ?_ ?_;refine br0 rfl ?_ ?_;exact en0 rfl
 refine ld 3 rfl rfl <| br0 rfl ?_ ?_
 exact en0 rfl
 refine ld 3 rfl rfl <| br0 rfl ?_ ?_
 exact en0 rfl
 refine ld 3 rfl rfl <| br0 rfl ?_ ?_
 exact en0 rfl
 exact ld 3 rfl rfl <| en0 rfl
 refine oJ1 tb fun t45 => ?_;rw [zgy];refine br0 rfl ?_ ?_;refine re_ rfl fun a w hf hO hm => ?_;cases hm;exact zfE Tryz.results44 hf (.tmp rfl (.tmp rfl .nil)) ⟨rfl,hO.below⟩
 refine ld 3 rfl rfl <| ld 3 rfl rfl <| bu0 (.agg #[.pointer none,int x_a0.Kind,int x_a0.N,int x_a0.N, .bool false, .bool false]) rfl rfl <| bo rfl fun b49 => jn 0 (fun a w => (Fits 65 [(2,ptr b1 0),(8,ptr b49 0)] a ∧ Dk.Own w0 [] w [.blk b49 [ptr b28 0,int x_a0.Kind,int x_a0.N,int x_a0.N, .bool false, .bool false] 150, .blk b28 [int i30,int i31, .slice p32 l34.length c33,int i35,int i36,int i37, .slice p38 l40.length c39] 201, .row (.slice p32 l34.length c33) 5 1 l34.length (cells zi l34), .row (.slice p38 l40.length c39) 110 2 l40.length (cells zb l40), .blk b1 [int x_a0.Kind,int x_a0.N] 38] ∧ zn1 x_a0 i30 i31 l34 i35 i36 i37 l40 = some R) ∨ (Fits 65 [(2,ptr b1 0),(8,ptr b49 0)] a ∧ Dk.Own w0 [] w [.blk b49 [.pointer none,int x_a0.Kind,int x_a0.N,int x_a0.N, .bool false, .bool false] 150, .blk b28 [int i30,int i31, .slice p32 l34.length c33,int i35,int i36,int i37, .slice p38 l40.length c39] 201, .row (.slice p32 l34.length c33) 5 1 l34.length (cells zi l34), .row (.slice p38 l40.length c39) 110 2 l40.length (cells zb l40), .blk b1 [int x_a0.Kind,int x_a0.N] 38] ∧ zn2 x_a0 = some R)) rfl ?_ ?_
 refine ld 4 rfl rfl <| br0 rfl ?_ ?_
 refine st 0 rfl rfl <| eo rfl fun a w hf hO hm => ?_
 exact Or.inl ⟨hf.sel rfl,hO,hm⟩;refine eo rfl fun a w hf hO hm => ?_;exact Or.inr (⟨hf.sel rfl,hO,hm⟩);rintro a w (⟨hf,hO,hm⟩ | ⟨hf,hO,hm⟩);rw [zn1] at hm;refine S.co tb ?_ hf hO hm;refine jv 0 [8] [1,2,3,4] (fun J E L => ∃ t55,J (E) (.blk b49 [ptr b28 0,int x_a0.Kind,int x_a0.N,int x_a0.N, .bool t55, .bool false] 150 :: L) (zjO x_a0 i30 i31 l34 i35 i36 i37 l40 t55)) rfl ?_ ?_
 refine ld 4 rfl rfl <| br0 rfl ?_ ?_
 exact st 0 rfl rfl <| en0 rfl
 refine ld 4 rfl rfl <| br0 rfl ?_ ?_
 exact ld 4 rfl rfl <| st 0 rfl rfl <| en0 rfl
 exact st 0 rfl rfl <| en0 rfl
 refine oJ1 tb fun t55 => ?_;rw [zjO];refine re_ rfl fun a w hf hO hm => ?_;cases hm;exact zfE Tryz.results44 hf (.tmp rfl (.tmp rfl .nil)) ⟨b49,b28,p32,c33,p38,c39,rfl,(hO.sub (.cons_cons _ (.cons_cons _ (.cons_cons _ (.cons_cons _ (.cons _ .slnil))))))⟩;rw [zn2] at hm;refine S.co tb ?_ hf hO hm;refine jv 0 [8] [1,2,3,4] (fun J E L => ∃ t59,J (E) (.blk b49 [.pointer none,int x_a0.Kind,int x_a0.N,int x_a0.N, .bool t59, .bool false] 150 :: L) (ziM x_a0 t59)) rfl ?_ ?_
 refine ld 4 rfl rfl <| br0 rfl ?_ ?_
 exact st 0 rfl rfl <| en0 rfl
 refine ld 4 rfl rfl <| br0 rfl ?_ ?_
 exact ld 4 rfl rfl <| st 0 rfl rfl <| en0 rfl
 exact st 0 rfl rfl <| en0 rfl
 refine oJ1 tb fun t59 => ?_;rw [ziM];refine re_ rfl fun a w hf hO hm => ?_;cases hm;exact zfE Tryz.results44 hf (.tmp rfl (.tmp rfl .nil)) ⟨b49,rfl,(hO.sub (.cons_cons _ (.cons _ (.cons _ (.cons _ (.cons _ .slnil))))))⟩

theorem zme (x_b : body_Body) (R : Bool) (w0 : World) (hG : zo w0) {x_b_b0 : Nat} {x_b_b1 : Nat} {x_b_p2 : Option Addr} {x_b_c2 : Nat} {x_b_p3 : Option Addr} {x_b_c3 : Nat} (hs0 : zH w0 (some ⟨x_b_b0,0,none⟩) [ptr x_b_b1 0,int x_b.f_frame.Kind,int x_b.f_frame.N,int x_b.f_left, .bool x_b.f_done, .bool x_b.f_bad]) (hs1 : zH w0 (some ⟨x_b_b1,0,none⟩) (yl14 x_b.Decoder x_b_p2 x_b_c2 x_b_p3 x_b_c3)) (hs2 : zH w0 x_b_p2 (cells zi x_b.Decoder.f_line)) (hc2 : x_b.Decoder.f_line.length ≤ x_b_c2) (hs3 : zH w0 x_b_p3 (cells zb x_b.Decoder.f_trailers)) (hc3 : x_b.Decoder.f_trailers.length ≤ x_b_c3) (hm : zdJ x_b = some R) :
    Calls prog 75 #[ptr x_b_b0 0] w0 (Ret w0 (fun R => .bool R) R) := by
 rw [zdJ] at hm;have hO := Dk.Own.refl w0;have hO := hO.addS hs0;have hO := hO.addS hs1;have hO := hO.addS hs2;have hO := hO.addS hs3;refine S.enter tb Tryz.func75 rfl Tryz.ntmps75 rfl ?_ hO hm
 exact vl rfl rfl (fun a w hf hO => zot Tryz.underlying101 hf rfl rfl) <| kn (b' := true) rfl rfl <| ld 3 rfl rfl <| rt Tryz.results75 rfl

theorem zmM (x_d : dechunk_Decoder) (x_s : Str) (R : Str × dechunk_Decoder) (w0 : World) (hG : zo w0) {x_d_b0 : Nat} {x_d_p1 : Option Addr} {x_d_c1 : Nat} {x_d_p2 : Option Addr} {x_d_c2 : Nat} {F : List Nat} (hF : zfF F) (hO : Dk.Own w0 F w0 [.blk x_d_b0 (zgm x_d x_d_p1 x_d_c1 x_d_p2 x_d_c2) 201, .row (.slice x_d_p1 x_d.f_line.length x_d_c1) 5 1 x_d.f_line.length (cells zi x_d.f_line), .row (.slice x_d_p2 x_d.f_trailers.length x_d_c2) 110 2 x_d.f_trailers.length (cells zb x_d.f_trailers)]) (hm : zbL x_d x_s = some R) :
    Calls prog 200 #[ptr x_d_b0 0,str x_s] w0 fun e w' => ∃ p0 c0 p1 c1,e = .returned (str R.1) ∧ Dk.Own w0 F w' [.blk x_d_b0 (zgm R.2 p0 c0 p1 c1) 201, .row (.slice p0 R.2.f_line.length c0) 5 1 R.2.f_line.length (cells zi R.2.f_line), .row (.slice p1 R.2.f_trailers.length c1) 110 2 R.2.f_trailers.length (cells zb R.2.f_trailers)] := by
 rw [zbL] at hm;refine S.enter tb Tryz.func200 rfl Tryz.ntmps200 rfl ?_ hO hm
 refine ld 0 rfl rfl <| vl rfl rfl (fun a w hf hO => zqX (m := x_d.f_left) (n := (x_s.length : Int)) hf rfl rfl) <| ld 0 rfl rfl <| bi rfl fun i3 hi3 => st 0 rfl rfl <| jv 0 [1,5] [1,2] (fun J E L => ∃ i7 i8,J (E) (.blk x_d_b0 [int x_d.f_limit,int i7, .slice x_d_p1 x_d.f_line.length x_d_c1,int i8,int x_d.f_sum,int x_d.f_spent, .slice x_d_p2 x_d.f_trailers.length x_d_c2] 201 :: L) (zau x_d x_s i7 i8)) rfl ?_ ?_
 refine ld 0 rfl rfl <| br0 rfl ?_ ?_
 exact st 0 rfl rfl <| st 0 rfl rfl <| en0 rfl
 exact en0 rfl;refine oJ2 tb fun i7 i8 => ?_;rw [zau];exact bi rfl fun s9 hs9 => rm0 Tryz.results200 [0,1,2] [] rfl

theorem zmf (x_d : dechunk_Decoder) (x_b : UInt8) (R : Int × dechunk_Decoder) (w0 : World) (hG : zo w0) {x_d_b0 : Nat} {x_d_p1 : Option Addr} {x_d_c1 : Nat} {x_d_p2 : Option Addr} {x_d_c2 : Nat} {F : List Nat} (hF : zfF F) (hO : Dk.Own w0 F w0 [.blk x_d_b0 (zgm x_d x_d_p1 x_d_c1 x_d_p2 x_d_c2) 201, .row (.slice x_d_p1 x_d.f_line.length x_d_c1) 5 1 x_d.f_line.length (cells zi x_d.f_line), .row (.slice x_d_p2 x_d.f_trailers.length x_d_c2) 110 2 x_d.f_trailers.length (cells zb x_d.f_trailers)]) (hm : zcm x_d x_b = some R) :
    Calls prog 201 #[ptr x_d_b0 0,zao x_b] w0 fun e w' => ∃ p0 c0 p1 c1,e = .returned (int R.1) ∧ Dk.Own w0 F w' [.blk x_d_b0 (zgm R.2 p0 c0 p1 c1) 201, .row (.slice p0 R.2.f_line.length c0) 5 1 R.2.f_line.length (cells zi R.2.f_line), .row (.slice p1 R.2.f_trailers.length c1) 110 2 R.2.f_trailers.length (cells zb R.2.f_trailers)] := by
 rw [zcm] at hm;refine S.enter tb Tryz.func201 rfl Tryz.ntmps201 rfl ?_ hO hm;refine jv 0 [0,1] [0,1,2] (fun J E L => ∃ b5,J ((5,zao b5) :: E) (L) (zaN x_d x_b b5)) rfl ?_ ?_
 refine ld 0 rfl rfl <| br0 rfl ?_ ?_
 exact en0 rfl;exact en0 rfl;refine oJ1 tb fun b5 => ?_;rw [zaN]
 refine vl rfl rfl (fun a w hf hO => zbd (b := x_b) (c := b5) hf rfl rfl) <| br0 rfl ?_ ?_
 exact rm0 Tryz.results201 [0,1,2] [] rfl
 refine ld 0 rfl rfl <| bi rfl fun i10 hi10 => st 0 rfl rfl <| jv 0 [] [1,2] (fun J E L => ∃ i14,J (E) (.blk x_d_b0 [int x_d.f_limit,int i14, .slice x_d_p1 x_d.f_line.length x_d_c1,int i10,int x_d.f_sum,int x_d.f_spent, .slice x_d_p2 x_d.f_trailers.length x_d_c2] 201 :: L) (zcA x_d i10 i14)) rfl ?_ ?_
 refine ld 0 rfl rfl <| br0 rfl ?_ ?_
 exact st 0 rfl rfl <| en0 rfl
 exact en0 rfl;refine oJ1 tb fun i14 => ?_;rw [zcA];exact rm0 Tryz.results201 [0,1,2] [] rfl

theorem zup (x_s : Str) (x_most : Int) (R : Int × Int) (w0 : World) (hG : zo w0) (hm : zjQ x_s x_most = some R) :
    Calls prog 273 #[str x_s,int x_most] w0 (Ret w0 (fun R => .tuple #[int R.1,int R.2]) R) := by
 rw [zjQ] at hm;refine S.ent0 tb Tryz.func273 rfl Tryz.ntmps273 rfl hm ?_;exact cl c_212 rfl (fun r2 w hr2 hO => zoa x_s 16 x_most zaV r2 _ (hG.o hO) zwD (fun y0 r w hG h => zi9 (zhO y0 r w hG h)) hr2) fun r2 hr2 => rt Tryz.results273 rfl

theorem zuq (x_c : scan_Scanner) (R : Str × Bool × scan_Scanner) (w0 : World) (hG : zo w0) {x_c_b0 : Nat} {F : List Nat} (hF : zfF F) (hO : Dk.Own w0 F w0 [.blk x_c_b0 [str x_c.f_s,int x_c.f_at] 277]) (hm : zh8 x_c = some R) :
    Calls prog 280 #[ptr x_c_b0 0] w0 fun e w' => e = .returned (.tuple #[str R.1, .bool R.2.1]) ∧ Dk.Own w0 F w' [.blk x_c_b0 [str R.2.2.f_s,int R.2.2.f_at] 277] := by
 rw [zh8] at hm;refine S.enter tb Tryz.func280 rfl Tryz.ntmps280 rfl ?_ hO hm;refine cw0 zyO [0] 1 [] rfl (fun r2 w hr2 hO hfar3 hlend3 => zet x_c r2 _ (hG.own hF hO) hfar3 hlend3 hr2) (fun _ _ => trivial) hF hG.size fun r2 hr2 => br0 rfl ?_ ?_;exact rm0 Tryz.results280 [0] [] rfl;exact cw0 c_253 [0] 1 [] rfl (fun r9 w hr9 hO hfar10 hlend10 => zoV r2.2.2 r9 _ (hG.own hF hO) hfar10 hlend10 hr9) (fun _ _ => trivial) hF hG.size fun r9 hr9 => rm0 Tryz.results280 [0] [] rfl

end Go.Proofs
end
