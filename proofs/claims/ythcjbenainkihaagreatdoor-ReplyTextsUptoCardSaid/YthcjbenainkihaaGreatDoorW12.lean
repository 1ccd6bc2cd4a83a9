/-
  Walks, written by a program (wip/gen): what its model says, the function returns; what was there before is as it was.
  Walks, written by a program (wip/gen): what its model says, the function returns; what was there before is as it was.
  Walks, written by a program (wip/gen): what its model says, the function returns; what was there before is as it was.
-/
import Derived.Test.YthcjbenainkihaaGreatDoorLib
import Derived.Test.YthcjbenainkihaaGreatDoorW5
import Derived.Test.YthcjbenainkihaaGreatDoorW9
section
set_option linter.unusedVariables false
set_option maxHeartbeats 1000000
set_option linter.unusedSimpArgs false
set_option maxRecDepth 100000
namespace Go.Proofs
open Go.Dk Go.Dm Go.RowKit

theorem zh5 (x_a : accum_Accum) (x_b : UInt8) (R : Bool × Int × accum_Accum) (w0 : World) (hG : zH w0) {x_a_b0 : Nat} {x_a_p1 : Option Addr} {x_a_c1 : Nat} {x_a_p2 : Option Addr} {x_a_c2 : Nat} {F : List Nat} (hF : zo F) (hO : Dk.Own w0 F w0 [.blk x_a_b0 [int x_a.f_kind, int x_a.f_limit, .slice x_a_p1 x_a.f_buf.length x_a_c1, int x_a.f_from, .bool x_a.f_took, int x_a.f_bad, .bool x_a.f_whole, int x_a.f_got.Kind, str x_a.f_got.Method, str x_a.f_got.Target, int x_a.f_got.Code, str x_a.f_got.Reason, int x_a.f_got.Minor, .slice x_a_p2 x_a.f_got.Fields.length x_a_c2] 143, .row (.slice x_a_p1 x_a.f_buf.length x_a_c1) 5 1 x_a.f_buf.length (cells zc x_a.f_buf), .row (.slice x_a_p2 x_a.f_got.Fields.length x_a_c2) 107 2 x_a.f_got.Fields.length (cells za x_a.f_got.Fields)]) (hm : zeM x_a x_b = some R) :
    Calls Tryz.prog 78 #[ptr x_a_b0 0, zB x_b] w0 fun e w' => ∃ (p0 : Option Addr) (c0 : Nat) (p1 : Option Addr) (c1 : Nat), e = .returned (.tuple #[.bool R.1, int R.2.1]) ∧ Dk.Own w0 F w' [.blk x_a_b0 [int R.2.2.f_kind, int R.2.2.f_limit, .slice p0 R.2.2.f_buf.length c0, int R.2.2.f_from, .bool R.2.2.f_took, int R.2.2.f_bad, .bool R.2.2.f_whole, int R.2.2.f_got.Kind, str R.2.2.f_got.Method, str R.2.2.f_got.Target, int R.2.2.f_got.Code, str R.2.2.f_got.Reason, int R.2.2.f_got.Minor, .slice p1 R.2.2.f_got.Fields.length c1] 143, .row (.slice p0 R.2.2.f_buf.length c0) 5 1 R.2.2.f_buf.length (cells zc R.2.2.f_buf), .row (.slice p1 R.2.2.f_got.Fields.length c1) 107 2 R.2.2.f_got.Fields.length (cells za R.2.2.f_got.Fields)] := by
 rw [zeM] at hm
 refine S.enter tb Tryz.func78 rfl Tryz.ntmps78 rfl ?_ hO hm
 refine rc_ rfl fun a w hf hO hm => ?_
 refine zbM (by kernel_rfl) (by kernel_rfl) hO ?_
 refine zm (fun w hO => zn hf rfl) rfl hf rfl rfl fun a hf => ?_
 refine zm (fun w hO => zp hf rfl) rfl hf rfl rfl fun a hf => ?_
 refine zm (fun w hO => zr zhe hf rfl) rfl hf rfl rfl fun a hf => ?_
 refine zm (fun w hO => zk (o := 2) zic (hO.blkSees (i := 0) rfl) rfl hf rfl) rfl hf rfl rfl fun a hf => ?_
 refine zm (fun w hO => ziQ Tryz.underlying141 hf rfl) rfl hf rfl rfl fun a hf => ?_
 refine zm (fun w hO => zn hf rfl) rfl hf rfl rfl fun a hf => ?_
 refine zm (fun w hO => zp hf rfl) rfl hf rfl rfl fun a hf => ?_
 refine zm (fun w hO => zr zjT hf rfl) rfl hf rfl rfl fun a hf => ?_
 refine zm (fun w hO => zk (o := 1) ze6 (hO.blkSees (i := 0) rfl) rfl hf rfl) rfl hf rfl rfl fun a hf => ?_
 refine zm (fun w hO => zk6 (m := (x_a.f_buf.length : Int)) (n := x_a.f_limit) hf rfl rfl) rfl hf rfl rfl fun a hf => ?_
 refine wpQuiet_nil ?_
 intro w hO
 refine S.no tb ?_ hf hO hm
 refine br rfl (fun hc3 => ?_) fun hc3 => ?_
 refine re_ rfl fun a w hf hO hm => ?_
 obtain rfl := Option.some.inj hm
 exact zb Tryz.results78 hf (.tmp rfl (.tmp rfl .nil)) ⟨x_a_p1, x_a_c1, x_a_p2, x_a_c2, rfl, hO⟩
 refine ld 0 rfl rfl ?_
 refine rw_ rfl fun a w hf hO hm => ?_
 refine zu (vs := [(0, zB x_b)]) (cs := [zB x_b]) (e := 5) (sz := 1) hf rfl rfl (fun w => by kernel_rfl) rfl rfl hO fun a b6 w hf hO => ?_
 refine S.op tb ?_ hf hO hm
 refine rw_ rfl fun a w hf hO hm => ?_
 obtain ⟨hg9, hm⟩ := og hm
 refine zbz zl4 (enc := zc) (xs := x_a.f_buf) (ys := [x_b]) (i := 2) (fun _ => rfl) rfl (hO.rowSees (i := 0) rfl) (by simp [cells, zc, Value.oneCell']) hg9 hf rfl rfl rfl hO fun a p7 c8 w hf hO => ?_
 refine S.op tb ?_ hf hO hm
 refine st 1 rfl rfl ?_
 refine cl c_111 rfl (fun r11 w hr11 hO => zie (⟨x_a.f_kind, x_a.f_limit, x_a.f_buf ++ [x_b], x_a.f_from, x_a.f_took, x_a.f_bad, x_a.f_whole, x_a.f_got⟩ : accum_Accum) r11 _ (hG.own hF hO).1 (hO.blkSees (i := 1) rfl) (hO.rowSees (i := 2) rfl) (hO.rowCap (i := 2) rfl) (hO.rowSees (i := 3) rfl) (hO.rowCap (i := 3) rfl) hr11) fun r11 hr11 => ?_
 refine br rfl (fun hc13 => ?_) fun hc13 => ?_
 refine re_ rfl fun a w hf hO hm => ?_
 obtain rfl := Option.some.inj hm
 exact zb Tryz.results78 hf (.tmp rfl (.tmp rfl .nil)) ⟨p7, c8, x_a_p2, x_a_c2, rfl, (hO.sub (.cons _ (.cons_cons _ (.cons_cons _ (.cons_cons _ .slnil)))))⟩
 refine vl rfl rfl (fun a w hf hO => zhp (b := x_b) (c := 10) hf rfl rfl) ?_
 refine br rfl (fun hc17 => ?_) fun hc17 => ?_
 refine re_ rfl fun a w hf hO hm => ?_
 obtain rfl := Option.some.inj hm
 exact zb Tryz.results78 hf (.tmp rfl (.tmp rfl .nil)) ⟨p7, c8, x_a_p2, x_a_c2, rfl, (hO.sub (.cons _ (.cons_cons _ (.cons_cons _ (.cons_cons _ .slnil)))))⟩
 refine rc_ rfl fun a w hf hO hm => ?_
 obtain ⟨i20, hi20, hm⟩ := ob hm
 obtain ⟨l21, hl21, hm⟩ := ob hm
 obtain ⟨p22, c23, hrl21, hVl21, hCl21, _⟩ := znU (enc := zc) (xs := x_a.f_buf ++ [x_b]) 141 Tryz.underlying141 sz_5 (fun _ => rfl) (hO.rowSees (i := 2) rfl) (hO.rowCap (i := 2) rfl) hl21
 obtain ⟨r24, hr24, hm⟩ := ob hm
 refine zcp (S := Option Addr × Nat × Option Addr × Nat) (E0 := [(0, ptr x_a_b0 0)]) (by kernel_rfl) (fun k σ w => match k with | 0 => Dk.Own w0 F w [.row (.slice (some ⟨b6, 0, none⟩) ([x_b].length) 1) 5 1 ([x_b].length) (cells zc [x_b]), .blk x_a_b0 [int x_a.f_kind, int x_a.f_limit, .slice p7 ((x_a.f_buf ++ [x_b]).length) c8, int x_a.f_from, .bool x_a.f_took, int x_a.f_bad, .bool x_a.f_whole, int x_a.f_got.Kind, str x_a.f_got.Method, str x_a.f_got.Target, int x_a.f_got.Code, str x_a.f_got.Reason, int x_a.f_got.Minor, .slice x_a_p2 x_a.f_got.Fields.length x_a_c2] 143, .row (.slice p7 ((x_a.f_buf ++ [x_b]).length) c8) 5 1 ((x_a.f_buf ++ [x_b]).length) (cells zc (x_a.f_buf ++ [x_b])), .row (.slice x_a_p2 x_a.f_got.Fields.length x_a_c2) 107 2 x_a.f_got.Fields.length (cells za x_a.f_got.Fields)] | _ => Dk.Own w0 F w [.blk x_a_b0 [int r24.2.2.f_kind, int r24.2.2.f_limit, .slice (σ.1) r24.2.2.f_buf.length (σ.2.1), int r24.2.2.f_from, .bool r24.2.2.f_took, int r24.2.2.f_bad, .bool r24.2.2.f_whole, int r24.2.2.f_got.Kind, str r24.2.2.f_got.Method, str r24.2.2.f_got.Target, int r24.2.2.f_got.Code, str r24.2.2.f_got.Reason, int r24.2.2.f_got.Minor, .slice (σ.2.2.1) r24.2.2.f_got.Fields.length (σ.2.2.2)] 143, .row (.slice (σ.1) r24.2.2.f_buf.length (σ.2.1)) 5 1 r24.2.2.f_buf.length (cells zc r24.2.2.f_buf), .row (.slice (σ.2.2.1) r24.2.2.f_got.Fields.length (σ.2.2.2)) 107 2 r24.2.2.f_got.Fields.length (cells za r24.2.2.f_got.Fields), .row (.slice (some ⟨b6, 0, none⟩) ([x_b].length) 1) 5 1 ([x_b].length) (cells zc [x_b])]) (fun σ => [⟨[(0, ptr x_a_b0 0)], some (30, ptr x_a_b0 0)⟩, ⟨[(0, ptr x_a_b0 0)], some (31, ptr x_a_b0 0)⟩, ⟨[(31, ptr x_a_b0 0)], some (32, ptr x_a_b0 0)⟩, ⟨[(32, ptr x_a_b0 0)], some (33, ptr x_a_b0 2)⟩, ⟨[(33, ptr x_a_b0 2)], some (34, .slice p7 ((x_a.f_buf ++ [x_b]).length) c8)⟩, ⟨[(0, ptr x_a_b0 0)], some (35, ptr x_a_b0 0)⟩, ⟨[(35, ptr x_a_b0 0)], some (36, ptr x_a_b0 0)⟩, ⟨[(36, ptr x_a_b0 0)], some (37, ptr x_a_b0 3)⟩, ⟨[(37, ptr x_a_b0 3)], some (38, int x_a.f_from)⟩, ⟨[(0, ptr x_a_b0 0)], some (39, ptr x_a_b0 0)⟩, ⟨[(39, ptr x_a_b0 0)], some (40, ptr x_a_b0 0)⟩, ⟨[(40, ptr x_a_b0 0)], some (41, ptr x_a_b0 2)⟩, ⟨[(41, ptr x_a_b0 2)], some (42, .slice p7 ((x_a.f_buf ++ [x_b]).length) c8)⟩, ⟨[(42, .slice p7 ((x_a.f_buf ++ [x_b]).length) c8)], some (43, int (((x_a.f_buf ++ [x_b]).length : Int)))⟩, ⟨[(43, int (((x_a.f_buf ++ [x_b]).length : Int)))], some (44, int i20)⟩, ⟨[(34, .slice p7 ((x_a.f_buf ++ [x_b]).length) c8), (38, int x_a.f_from), (44, int i20)], some (45, .slice p22 l21.length c23)⟩, ⟨[(45, .slice p22 l21.length c23)], some (46, str l21)⟩, ⟨[(30, ptr x_a_b0 0), (46, str l21)], some (47, .tuple #[.bool r24.1, int r24.2.1])⟩, ⟨[(47, .tuple #[.bool r24.1, int r24.2.1])], some (48, .bool r24.1)⟩, ⟨[(47, .tuple #[.bool r24.1, int r24.2.1])], some (49, int r24.2.1)⟩, ⟨[(48, .bool r24.1)], some (4, .bool r24.1)⟩, ⟨[(49, int r24.2.1)], some (5, int r24.2.1)⟩]) (none, 0, none, 0) [17] rfl (fun _ => rfl) (fun _ => rfl) (fun _ => rfl) rfl rfl (by decide) rfl hO.drew (hf.cons rfl hf.nil) (fun σ => ⟨⟨rfl, trivial⟩, ⟨rfl, trivial⟩, ⟨rfl, trivial⟩, ⟨rfl, trivial⟩, ⟨rfl, trivial⟩, ⟨rfl, trivial⟩, ⟨rfl, trivial⟩, ⟨rfl, trivial⟩, ⟨rfl, trivial⟩, ⟨rfl, trivial⟩, ⟨rfl, trivial⟩, ⟨rfl, trivial⟩, ⟨rfl, trivial⟩, ⟨rfl, trivial⟩, ⟨rfl, trivial⟩, ⟨rfl, rfl, rfl, trivial⟩, ⟨rfl, trivial⟩, ⟨rfl, rfl, trivial⟩, ⟨rfl, trivial⟩, ⟨rfl, trivial⟩, ⟨rfl, trivial⟩, ⟨rfl, trivial⟩, trivial⟩) ⟨zj rfl (fun σ => rfl) (fun σ => rfl) (fun σ a w k _ _ _ _ hf => zn hf rfl), zj rfl (fun σ => rfl) (fun σ => rfl) (fun σ a w k _ _ _ _ hf => zn hf rfl), zj rfl (fun σ => rfl) (fun σ => rfl) (fun σ a w k _ _ _ _ hf => zp hf rfl), zj rfl (fun σ => rfl) (fun σ => rfl) (fun σ a w k _ _ _ _ hf => zr zhe hf rfl), zj rfl (fun σ => rfl) (fun σ => rfl) (fun σ a w k hk hlo hup hst hf => match k, hk, hlo, hup, hst, hf with | 0, _, _, _, hst, hf => have hO : Dk.Own w0 F w [.row (.slice (some ⟨b6, 0, none⟩) ([x_b].length) 1) 5 1 ([x_b].length) (cells zc [x_b]), .blk x_a_b0 [int x_a.f_kind, int x_a.f_limit, .slice p7 ((x_a.f_buf ++ [x_b]).length) c8, int x_a.f_from, .bool x_a.f_took, int x_a.f_bad, .bool x_a.f_whole, int x_a.f_got.Kind, str x_a.f_got.Method, str x_a.f_got.Target, int x_a.f_got.Code, str x_a.f_got.Reason, int x_a.f_got.Minor, .slice x_a_p2 x_a.f_got.Fields.length x_a_c2] 143, .row (.slice p7 ((x_a.f_buf ++ [x_b]).length) c8) 5 1 ((x_a.f_buf ++ [x_b]).length) (cells zc (x_a.f_buf ++ [x_b])), .row (.slice x_a_p2 x_a.f_got.Fields.length x_a_c2) 107 2 x_a.f_got.Fields.length (cells za x_a.f_got.Fields)] := hst; zk (o := 2) zic (hO.blkSees (i := 1) rfl) rfl hf rfl | 1, _, _, hup, _, _ => absurd (hup 0 (by decide) (by kernel_rfl)) (by decide) | k + 2, hk, _, _, _, _ => absurd hk (by simp)), zj rfl (fun σ => rfl) (fun σ => rfl) (fun σ a w k _ _ _ _ hf => zn hf rfl), zj rfl (fun σ => rfl) (fun σ => rfl) (fun σ a w k _ _ _ _ hf => zp hf rfl), zj rfl (fun σ => rfl) (fun σ => rfl) (fun σ a w k _ _ _ _ hf => zr zlm hf rfl), zj rfl (fun σ => rfl) (fun σ => rfl) (fun σ a w k hk hlo hup hst hf => match k, hk, hlo, hup, hst, hf with | 0, _, _, _, hst, hf => have hO : Dk.Own w0 F w [.row (.slice (some ⟨b6, 0, none⟩) ([x_b].length) 1) 5 1 ([x_b].length) (cells zc [x_b]), .blk x_a_b0 [int x_a.f_kind, int x_a.f_limit, .slice p7 ((x_a.f_buf ++ [x_b]).length) c8, int x_a.f_from, .bool x_a.f_took, int x_a.f_bad, .bool x_a.f_whole, int x_a.f_got.Kind, str x_a.f_got.Method, str x_a.f_got.Target, int x_a.f_got.Code, str x_a.f_got.Reason, int x_a.f_got.Minor, .slice x_a_p2 x_a.f_got.Fields.length x_a_c2] 143, .row (.slice p7 ((x_a.f_buf ++ [x_b]).length) c8) 5 1 ((x_a.f_buf ++ [x_b]).length) (cells zc (x_a.f_buf ++ [x_b])), .row (.slice x_a_p2 x_a.f_got.Fields.length x_a_c2) 107 2 x_a.f_got.Fields.length (cells za x_a.f_got.Fields)] := hst; zk (o := 3) ze6 (hO.blkSees (i := 1) rfl) rfl hf rfl | 1, _, _, hup, _, _ => absurd (hup 0 (by decide) (by kernel_rfl)) (by decide) | k + 2, hk, _, _, _, _ => absurd hk (by simp)), zj rfl (fun σ => rfl) (fun σ => rfl) (fun σ a w k _ _ _ _ hf => zn hf rfl), zj rfl (fun σ => rfl) (fun σ => rfl) (fun σ a w k _ _ _ _ hf => zp hf rfl), zj rfl (fun σ => rfl) (fun σ => rfl) (fun σ a w k _ _ _ _ hf => zr zhe hf rfl), zj rfl (fun σ => rfl) (fun σ => rfl) (fun σ a w k hk hlo hup hst hf => match k, hk, hlo, hup, hst, hf with | 0, _, _, _, hst, hf => have hO : Dk.Own w0 F w [.row (.slice (some ⟨b6, 0, none⟩) ([x_b].length) 1) 5 1 ([x_b].length) (cells zc [x_b]), .blk x_a_b0 [int x_a.f_kind, int x_a.f_limit, .slice p7 ((x_a.f_buf ++ [x_b]).length) c8, int x_a.f_from, .bool x_a.f_took, int x_a.f_bad, .bool x_a.f_whole, int x_a.f_got.Kind, str x_a.f_got.Method, str x_a.f_got.Target, int x_a.f_got.Code, str x_a.f_got.Reason, int x_a.f_got.Minor, .slice x_a_p2 x_a.f_got.Fields.length x_a_c2] 143, .row (.slice p7 ((x_a.f_buf ++ [x_b]).length) c8) 5 1 ((x_a.f_buf ++ [x_b]).length) (cells zc (x_a.f_buf ++ [x_b])), .row (.slice x_a_p2 x_a.f_got.Fields.length x_a_c2) 107 2 x_a.f_got.Fields.length (cells za x_a.f_got.Fields)] := hst; zk (o := 2) zic (hO.blkSees (i := 1) rfl) rfl hf rfl | 1, _, _, hup, _, _ => absurd (hup 0 (by decide) (by kernel_rfl)) (by decide) | k + 2, hk, _, _, _, _ => absurd hk (by simp)), zj rfl (fun σ => rfl) (fun σ => rfl) (fun σ a w k _ _ _ _ hf => ziQ Tryz.underlying141 hf rfl), zj rfl (fun σ => rfl) (fun σ => rfl) (fun σ a w k _ _ _ _ hf => zk5 hf rfl rfl hi20), zj rfl (fun σ => rfl) (fun σ => rfl) (fun σ a w k _ _ _ _ hf => zlF Tryz.underlying141 hrl21 hf rfl rfl rfl), zj rfl (fun σ => rfl) (fun σ => rfl) (fun σ a w k hk hlo hup hst hf => match k, hk, hlo, hup, hst, hf with | 0, _, _, _, hst, hf => have hO : Dk.Own w0 F w [.row (.slice (some ⟨b6, 0, none⟩) ([x_b].length) 1) 5 1 ([x_b].length) (cells zc [x_b]), .blk x_a_b0 [int x_a.f_kind, int x_a.f_limit, .slice p7 ((x_a.f_buf ++ [x_b]).length) c8, int x_a.f_from, .bool x_a.f_took, int x_a.f_bad, .bool x_a.f_whole, int x_a.f_got.Kind, str x_a.f_got.Method, str x_a.f_got.Target, int x_a.f_got.Code, str x_a.f_got.Reason, int x_a.f_got.Minor, .slice x_a_p2 x_a.f_got.Fields.length x_a_c2] 143, .row (.slice p7 ((x_a.f_buf ++ [x_b]).length) c8) 5 1 ((x_a.f_buf ++ [x_b]).length) (cells zc (x_a.f_buf ++ [x_b])), .row (.slice x_a_p2 x_a.f_got.Fields.length x_a_c2) 107 2 x_a.f_got.Fields.length (cells za x_a.f_got.Fields)] := hst; zcP (en := zc) (l := l21) (fun _ => rfl) Tryz.underlying9 Tryz.underlying141 Tryz.underlying5 (hVl21 _ (hO.rowSees (i := 2) rfl)) hf rfl | 1, _, _, hup, _, _ => absurd (hup 0 (by decide) (by kernel_rfl)) (by decide) | k + 2, hk, _, _, _, _ => absurd hk (by simp)), zd7 rfl (fun σ => rfl) (fun σ => rfl) rfl (fun σ a w (_ : _) hf => zi c_112 hf (vs := [ptr x_a_b0 0, str l21]) rfl) (fun σ w (hO : Dk.Own w0 F w [.row (.slice (some ⟨b6, 0, none⟩) ([x_b].length) 1) 5 1 ([x_b].length) (cells zc [x_b]), .blk x_a_b0 [int x_a.f_kind, int x_a.f_limit, .slice p7 ((x_a.f_buf ++ [x_b]).length) c8, int x_a.f_from, .bool x_a.f_took, int x_a.f_bad, .bool x_a.f_whole, int x_a.f_got.Kind, str x_a.f_got.Method, str x_a.f_got.Target, int x_a.f_got.Code, str x_a.f_got.Reason, int x_a.f_got.Minor, .slice x_a_p2 x_a.f_got.Fields.length x_a_c2] 143, .row (.slice p7 ((x_a.f_buf ++ [x_b]).length) c8) 5 1 ((x_a.f_buf ++ [x_b]).length) (cells zc (x_a.f_buf ++ [x_b])), .row (.slice x_a_p2 x_a.f_got.Fields.length x_a_c2) 107 2 x_a.f_got.Fields.length (cells za x_a.f_got.Fields)]) => (zif (⟨x_a.f_kind, x_a.f_limit, x_a.f_buf ++ [x_b], x_a.f_from, x_a.f_took, x_a.f_bad, x_a.f_whole, x_a.f_got⟩ : accum_Accum) l21 r24 _ (hG.own hF hO) (Dk.Own.far (show Dk.Own w0 F _ ([.blk x_a_b0 [int x_a.f_kind, int x_a.f_limit, .slice p7 ((x_a.f_buf ++ [x_b]).length) c8, int x_a.f_from, .bool x_a.f_took, int x_a.f_bad, .bool x_a.f_whole, int x_a.f_got.Kind, str x_a.f_got.Method, str x_a.f_got.Target, int x_a.f_got.Code, str x_a.f_got.Reason, int x_a.f_got.Minor, .slice x_a_p2 x_a.f_got.Fields.length x_a_c2] 143, .row (.slice p7 ((x_a.f_buf ++ [x_b]).length) c8) 5 1 ((x_a.f_buf ++ [x_b]).length) (cells zc (x_a.f_buf ++ [x_b])), .row (.slice x_a_p2 x_a.f_got.Fields.length x_a_c2) 107 2 x_a.f_got.Fields.length (cells za x_a.f_got.Fields)] ++ [.row (.slice (some ⟨b6, 0, none⟩) ([x_b].length) 1) 5 1 ([x_b].length) (cells zc [x_b])]) from hO.choose [1, 2, 3, 0] rfl) rfl hF hG.size) ((show Dk.Own w0 F _ ([.blk x_a_b0 [int x_a.f_kind, int x_a.f_limit, .slice p7 ((x_a.f_buf ++ [x_b]).length) c8, int x_a.f_from, .bool x_a.f_took, int x_a.f_bad, .bool x_a.f_whole, int x_a.f_got.Kind, str x_a.f_got.Method, str x_a.f_got.Target, int x_a.f_got.Code, str x_a.f_got.Reason, int x_a.f_got.Minor, .slice x_a_p2 x_a.f_got.Fields.length x_a_c2] 143, .row (.slice p7 ((x_a.f_buf ++ [x_b]).length) c8) 5 1 ((x_a.f_buf ++ [x_b]).length) (cells zc (x_a.f_buf ++ [x_b])), .row (.slice x_a_p2 x_a.f_got.Fields.length x_a_c2) 107 2 x_a.f_got.Fields.length (cells za x_a.f_got.Fields)] ++ [.row (.slice (some ⟨b6, 0, none⟩) ([x_b].length) 1) 5 1 ([x_b].length) (cells zc [x_b])]) from hO.choose [1, 2, 3, 0] rfl).lend (S := []) rfl trivial) hr24).mono fun e w' h => by obtain ⟨p25, c26, p27, c28, he, hO'⟩ := h; exact ⟨(p25, c26, p27, c28), he, (show Dk.Own w0 F _ ([.blk x_a_b0 [int x_a.f_kind, int x_a.f_limit, .slice p7 ((x_a.f_buf ++ [x_b]).length) c8, int x_a.f_from, .bool x_a.f_took, int x_a.f_bad, .bool x_a.f_whole, int x_a.f_got.Kind, str x_a.f_got.Method, str x_a.f_got.Target, int x_a.f_got.Code, str x_a.f_got.Reason, int x_a.f_got.Minor, .slice x_a_p2 x_a.f_got.Fields.length x_a_c2] 143, .row (.slice p7 ((x_a.f_buf ++ [x_b]).length) c8) 5 1 ((x_a.f_buf ++ [x_b]).length) (cells zc (x_a.f_buf ++ [x_b])), .row (.slice x_a_p2 x_a.f_got.Fields.length x_a_c2) 107 2 x_a.f_got.Fields.length (cells za x_a.f_got.Fields)] ++ [.row (.slice (some ⟨b6, 0, none⟩) ([x_b].length) 1) 5 1 ([x_b].length) (cells zc [x_b])]) from hO.choose [1, 2, 3, 0] rfl).back rfl hO' rfl, .inr rfl, .inr rfl, .inr rfl, .inr rfl, .inr rfl, .inr rfl, .inr rfl, .inr rfl, .inr rfl, .inr rfl, .inr rfl, .inr rfl, .inr rfl, .inr rfl, .inr rfl, .inr rfl, .inr rfl, .inr rfl, .inr rfl, .inr rfl, .inr rfl, .inr rfl, trivial⟩), zj rfl (fun σ => rfl) (fun σ => rfl) (fun σ a w k _ _ _ _ hf => zdM hf rfl rfl), zj rfl (fun σ => rfl) (fun σ => rfl) (fun σ a w k _ _ _ _ hf => zdM hf rfl rfl), zj rfl (fun σ => rfl) (fun σ => rfl) (fun σ a w k _ _ _ _ hf => zv hf rfl), zj rfl (fun σ => rfl) (fun σ => rfl) (fun σ a w k _ _ _ _ hf => zv hf rfl), trivial⟩ ?_
 rintro ⟨p25, c26, p27, c28⟩ a w hf hO
 have hO : Dk.Own w0 F w [.blk x_a_b0 [int r24.2.2.f_kind, int r24.2.2.f_limit, .slice p25 r24.2.2.f_buf.length c26, int r24.2.2.f_from, .bool r24.2.2.f_took, int r24.2.2.f_bad, .bool r24.2.2.f_whole, int r24.2.2.f_got.Kind, str r24.2.2.f_got.Method, str r24.2.2.f_got.Target, int r24.2.2.f_got.Code, str r24.2.2.f_got.Reason, int r24.2.2.f_got.Minor, .slice p27 r24.2.2.f_got.Fields.length c28] 143, .row (.slice p25 r24.2.2.f_buf.length c26) 5 1 r24.2.2.f_buf.length (cells zc r24.2.2.f_buf), .row (.slice p27 r24.2.2.f_got.Fields.length c28) 107 2 r24.2.2.f_got.Fields.length (cells za r24.2.2.f_got.Fields), .row (.slice (some ⟨b6, 0, none⟩) ([x_b].length) 1) 5 1 ([x_b].length) (cells zc [x_b])] := hO
 have hf : Fits 50 [(4, .bool r24.1), (5, int r24.2.1)] a := (hf.cons rfl (hf.cons rfl hf.nil))
 refine S.no tb ?_ hf hO hm
 refine re_ rfl fun a w hf hO hm => ?_
 obtain rfl := Option.some.inj hm
 exact zb Tryz.results78 hf (.tmp rfl (.tmp rfl .nil)) ⟨p25, c26, p27, c28, rfl, (hO.sub (.cons_cons _ (.cons_cons _ (.cons_cons _ (.cons _ .slnil)))))⟩

theorem zh6 (x_a0 : accum_Accum) (x_a1 : Str) (R : Int × Bool × Int × accum_Accum) (w0 : World) (hG : zH w0) {x_a0_b0 : Nat} {x_a0_p1 : Option Addr} {x_a0_c1 : Nat} {x_a0_p2 : Option Addr} {x_a0_c2 : Nat} {F : List Nat} (hF : zo F) (hO : Dk.Own w0 F w0 [.blk x_a0_b0 [int x_a0.f_kind, int x_a0.f_limit, .slice x_a0_p1 x_a0.f_buf.length x_a0_c1, int x_a0.f_from, .bool x_a0.f_took, int x_a0.f_bad, .bool x_a0.f_whole, int x_a0.f_got.Kind, str x_a0.f_got.Method, str x_a0.f_got.Target, int x_a0.f_got.Code, str x_a0.f_got.Reason, int x_a0.f_got.Minor, .slice x_a0_p2 x_a0.f_got.Fields.length x_a0_c2] 143, .row (.slice x_a0_p1 x_a0.f_buf.length x_a0_c1) 5 1 x_a0.f_buf.length (cells zc x_a0.f_buf), .row (.slice x_a0_p2 x_a0.f_got.Fields.length x_a0_c2) 107 2 x_a0.f_got.Fields.length (cells za x_a0.f_got.Fields)]) (hm : zbT x_a0 x_a1 = some R) :
    Calls Tryz.prog 46 #[ptr x_a0_b0 0, str x_a1] w0 fun e w' => ∃ (p0 : Option Addr) (c0 : Nat) (p1 : Option Addr) (c1 : Nat), e = .returned (.tuple #[int R.1, .bool R.2.1, int R.2.2.1]) ∧ Dk.Own w0 F w' [.blk x_a0_b0 [int R.2.2.2.f_kind, int R.2.2.2.f_limit, .slice p0 R.2.2.2.f_buf.length c0, int R.2.2.2.f_from, .bool R.2.2.2.f_took, int R.2.2.2.f_bad, .bool R.2.2.2.f_whole, int R.2.2.2.f_got.Kind, str R.2.2.2.f_got.Method, str R.2.2.2.f_got.Target, int R.2.2.2.f_got.Code, str R.2.2.2.f_got.Reason, int R.2.2.2.f_got.Minor, .slice p1 R.2.2.2.f_got.Fields.length c1] 143, .row (.slice p0 R.2.2.2.f_buf.length c0) 5 1 R.2.2.2.f_buf.length (cells zc R.2.2.2.f_buf), .row (.slice p1 R.2.2.2.f_got.Fields.length c1) 107 2 R.2.2.2.f_got.Fields.length (cells za R.2.2.2.f_got.Fields)] := by
 rw [zbT] at hm
 refine S.enter tb Tryz.func46 rfl Tryz.ntmps46 rfl ?_ hO hm
 refine vl rfl rfl (fun a w hf hO => zZ Tryz.underlying86 hf rfl rfl) ?_
 refine kn (b' := false) rfl rfl ?_
 refine jv 2 [0, 1] [0, 1, 2] (fun J E L => ∃ (t4 : Bool), J ((11, .bool t4) :: E) (L) (zbJ x_a0 x_a1 t4)) rfl ?_ ?_
 refine ld 0 rfl rfl ?_
 refine br rfl (fun hc3 => ?_) fun hc3 => ?_
 exact en rfl fun _ _ j => ⟨true, j rfl⟩
 refine ld 0 rfl rfl ?_
 exact en rfl fun _ _ j => ⟨x_a0.f_whole, j rfl⟩
 rintro a w ⟨t4, hf, hO, hm⟩
 rw [zbJ] at hm
 refine S.co tb ?_ hf hO hm
 refine br rfl (fun hc5 => ?_) fun hc5 => ?_
 refine re_ rfl fun a w hf hO hm => ?_
 obtain rfl := Option.some.inj hm
 exact zb Tryz.results46 hf (.tmp rfl (.tmp rfl (.tmp rfl .nil))) ⟨x_a0_p1, x_a0_c1, x_a0_p2, x_a0_c2, rfl, hO⟩
 refine jv 0 [1] [] (fun J E L => ∃ (i49 : Int) (i50 : Int) (p51 : Option Addr) (c52 : Nat) (l53 : List UInt8) (i54 : Int) (t55 : Bool) (i56 : Int) (t57 : Bool) (i58 : Int) (s59 : Str) (s60 : Str) (i61 : Int) (s62 : Str) (i63 : Int) (p64 : Option Addr) (c65 : Nat) (l66 : List api_Field), J (E) (.blk x_a0_b0 [int i49, int i50, .slice p51 l53.length c52, int i54, .bool t55, int i56, .bool t57, int i58, str s59, str s60, int i61, str s62, int i63, .slice p64 l66.length c65] 143 :: .row (.slice p51 l53.length c52) 5 1 l53.length (cells zc l53) :: .row (.slice p64 l66.length c65) 107 2 l66.length (cells za l66) :: L) (zdm x_a1 i49 i50 l53 i54 t55 i56 t57 i58 s59 s60 i61 s62 i63 l66)) rfl ?_ ?_
 refine lv [0, 1, 24] [] (fun J E L k => ∃ (i9 : Int) (i10 : Int) (p11 : Option Addr) (c12 : Nat) (l13 : List UInt8) (i14 : Int) (t15 : Bool) (i16 : Int) (t17 : Bool) (i18 : Int) (s19 : Str) (s20 : Str) (i21 : Int) (s22 : Str) (i23 : Int) (p24 : Option Addr) (c25 : Nat) (l26 : List api_Field) (i27 : Int), J ((25, int i27) :: E) (.blk x_a0_b0 [int i9, int i10, .slice p11 l13.length c12, int i14, .bool t15, int i16, .bool t17, int i18, str s19, str s20, int i21, str s22, int i23, .slice p24 l26.length c25] 143 :: .row (.slice p11 l13.length c12) 5 1 l13.length (cells zc l13) :: .row (.slice p24 l26.length c25) 107 2 l26.length (cells za l26) :: L) (zT x_a1 k i9 i10 l13 i14 t15 i16 t17 i18 s19 s20 i21 s22 i23 l26 i27)) rfl (fun _ _ j => ⟨x_a0.f_kind, x_a0.f_limit, x_a0_p1, x_a0_c1, x_a0.f_buf, x_a0.f_from, x_a0.f_took, x_a0.f_bad, x_a0.f_whole, x_a0.f_got.Kind, x_a0.f_got.Method, x_a0.f_got.Target, x_a0.f_got.Code, x_a0.f_got.Reason, x_a0.f_got.Minor, x_a0_p2, x_a0_c2, x_a0.f_got.Fields, 0, j rfl⟩) ?_
 rintro n2 a w ⟨i9, i10, p11, c12, l13, i14, t15, i16, t17, i18, s19, s20, i21, s22, i23, p24, c25, l26, i27, hf, hO, hm⟩
 obtain _ | n2 := n2
 rw [zT] at hm
 cases hm
 rw [zT] at hm
 refine S.co tb ?_ hf hO hm
 refine br rfl (fun hc29 => ?_) fun hc29 => ?_
 refine st 0 rfl rfl ?_
 refine bi rfl fun b33 hb33 => ?_
 refine rw_ rfl fun a w hf hO hm => ?_
 obtain ⟨r34, hr34, hm⟩ := ob hm
 have hch39 := (show Dk.Own w0 F _ ([.blk x_a0_b0 [int i9, int i10, .slice p11 l13.length c12, int i14, .bool true, int i16, .bool t17, int i18, str s19, str s20, int i21, str s22, int i23, .slice p24 l26.length c25] 143, .row (.slice p11 l13.length c12) 5 1 l13.length (cells zc l13), .row (.slice p24 l26.length c25) 107 2 l26.length (cells za l26)] ++ []) from hO)
 have hfar39 := Dk.Own.far hch39 rfl hF hG.size
 have hlend39 := hch39.lend (S := []) rfl trivial
 have hcl39 := zh5 ((⟨i9, i10, l13, i14, true, i16, t17, (⟨i18, s19, s20, i21, s22, i23, l26⟩ : api_Head)⟩ : accum_Accum)) b33 r34 _ (hG.own hF hO) hfar39 hlend39 hr34
 refine zg (zi c_78 hf (vs := [ptr x_a0_b0 0, zB b33]) rfl) rfl hf rfl rfl (hcl39) ?_
 rintro e w' ⟨p35, c36, p37, c38, he, hO'⟩
 refine ⟨_, he, fun a hf => ?_⟩
 have hO := hch39.back rfl hO' rfl
 refine S.op tb ?_ hf hO hm
 refine st 0 rfl rfl ?_
 refine st 0 rfl rfl ?_
 refine jv 5 [0, 1, 7, 24, 25] [0, 1, 2] (fun J E L => ∃ (t42 : Bool), J ((55, .bool t42) :: E) (L) (zbI (zT x_a1 n2) i27 r34 t42)) rfl ?_ ?_
 refine ld 0 rfl rfl ?_
 refine br rfl (fun hc41 => ?_) fun hc41 => ?_
 exact en rfl fun _ _ j => ⟨true, j rfl⟩
 refine ld 0 rfl rfl ?_
 exact en rfl fun _ _ j => ⟨!(r34.2.1 == 0), j rfl⟩
 rintro a w ⟨t42, hf, hO, hm⟩
 rw [zbI] at hm
 refine S.co tb ?_ hf hO hm
 refine br rfl (fun hc43 => ?_) fun hc43 => ?_
 refine st 0 rfl rfl ?_
 refine nl 5 1 ?_
 refine rc_ rfl fun a w hf hO hm => ?_
 refine zbM (by kernel_rfl) (by kernel_rfl) hO ?_
 refine zm (fun w hO => zn hf rfl) rfl hf rfl rfl fun a hf => ?_
 obtain ⟨i45, hi45, hm⟩ := ob hm
 refine zm (fun w hO => zn0 hf rfl rfl hi45) rfl hf rfl rfl fun a hf => ?_
 refine zm (fun w hO => zn hf rfl) rfl hf rfl rfl fun a hf => ?_
 refine zm (fun w hO => zp hf rfl) rfl hf rfl rfl fun a hf => ?_
 refine zm (fun w hO => zr zlo hf rfl) rfl hf rfl rfl fun a hf => ?_
 refine zm (fun w hO => zk (o := 6) ag_4 (hO.blkSees (i := 1) rfl) rfl hf rfl) rfl hf rfl rfl fun a hf => ?_
 refine zm (fun w hO => zn hf rfl) rfl hf rfl rfl fun a hf => ?_
 refine zm (fun w hO => zp hf rfl) rfl hf rfl rfl fun a hf => ?_
 refine zm (fun w hO => zr zln hf rfl) rfl hf rfl rfl fun a hf => ?_
 refine zm (fun w hO => zk (o := 5) ag_22 (hO.blkSees (i := 1) rfl) rfl hf rfl) rfl hf rfl rfl fun a hf => ?_
 refine zm (fun w hO => zv hf rfl) rfl hf rfl rfl fun a hf => ?_
 refine zm (fun w hO => zv hf rfl) rfl hf rfl rfl fun a hf => ?_
 refine zm (fun w hO => zv hf rfl) rfl hf rfl rfl fun a hf => ?_
 refine wpQuiet_nil ?_
 intro w hO
 refine S.no tb ?_ hf hO hm
 refine re_ rfl fun a w hf hO hm => ?_
 obtain rfl := Option.some.inj hm
 exact zb Tryz.results46 hf (.tmp rfl (.tmp rfl (.tmp rfl .nil))) ⟨none, 0, p37, c38, rfl, (hO.choose [1, 0, 3] rfl)⟩
 refine bi rfl fun i48 hi48 => ?_
 exact en rfl fun _ _ j => ⟨_, Nat.lt_succ_self _, r34.2.2.f_kind, r34.2.2.f_limit, p35, c36, r34.2.2.f_buf, r34.2.2.f_from, r34.2.2.f_took, r34.2.1, r34.1, r34.2.2.f_got.Kind, r34.2.2.f_got.Method, r34.2.2.f_got.Target, r34.2.2.f_got.Code, r34.2.2.f_got.Reason, r34.2.2.f_got.Minor, p37, c38, r34.2.2.f_got.Fields, i48, j rfl⟩
 exact en rfl fun _ _ j => ⟨i9, i10, p11, c12, l13, i14, t15, i16, t17, i18, s19, s20, i21, s22, i23, p24, c25, l26, j rfl⟩
 rintro a w ⟨i49, i50, p51, c52, l53, i54, t55, i56, t57, i58, s59, s60, i61, s62, i63, p64, c65, l66, hf, hO, hm⟩
 rw [zdm] at hm
 refine S.co tb ?_ hf hO hm
 refine re_ rfl fun a w hf hO hm => ?_
 obtain rfl := Option.some.inj hm
 exact zb Tryz.results46 hf (.tmp rfl (.tmp rfl (.tmp rfl .nil))) ⟨p51, c52, p64, c65, rfl, hO⟩

theorem zh7 (x_a : accum_Accum) (R : api_Head × Bool) (w0 : World) (hG : zt w0) {x_a_b0 : Nat} {x_a_p1 : Option Addr} {x_a_c1 : Nat} {x_a_p2 : Option Addr} {x_a_c2 : Nat} (hs0 : zw w0 (some ⟨x_a_b0, 0, none⟩) [int x_a.f_kind, int x_a.f_limit, .slice x_a_p1 x_a.f_buf.length x_a_c1, int x_a.f_from, .bool x_a.f_took, int x_a.f_bad, .bool x_a.f_whole, int x_a.f_got.Kind, str x_a.f_got.Method, str x_a.f_got.Target, int x_a.f_got.Code, str x_a.f_got.Reason, int x_a.f_got.Minor, .slice x_a_p2 x_a.f_got.Fields.length x_a_c2]) (hs1 : zw w0 x_a_p1 (cells zc x_a.f_buf)) (hc1 : x_a.f_buf.length ≤ x_a_c1) (hs2 : zw w0 x_a_p2 (cells za x_a.f_got.Fields)) (hc2 : x_a.f_got.Fields.length ≤ x_a_c2) (hm : zbU x_a = some R) :
    Calls Tryz.prog 47 #[ptr x_a_b0 0] w0 fun e w' => ∃ (p0 : Option Addr) (c0 : Nat), e = .returned (.tuple #[.agg #[int R.1.Kind, str R.1.Method, str R.1.Target, int R.1.Code, str R.1.Reason, int R.1.Minor, .slice p0 R.1.Fields.length c0], .bool R.2]) ∧ Dk.Own w0 [] w' [.row (.slice p0 R.1.Fields.length c0) 107 2 R.1.Fields.length (cells za R.1.Fields)] := by
 rw [zbU] at hm
 have hF : zo [] := zf
 have hO : Dk.Own w0 [] w0 [] := Dk.Own.refl w0
 have hO := hO.addShr hs0 (by simp [Res.shared])
 have hO := hO.addShr hs1 (by simp [Res.shared])
 have hO := hO.addShr hs2 (by simp [Res.shared])
 refine S.enter tb Tryz.func47 rfl Tryz.ntmps47 rfl ?_ hO hm
 refine al zfR rfl fun b1 => ?_
 refine nl 107 2 ?_
 refine vl rfl rfl (fun a w hf hO => zZ Tryz.underlying86 hf rfl rfl) ?_
 refine kn (b' := false) rfl rfl ?_
 refine ld 4 rfl rfl ?_
 refine br rfl (fun hc4 => ?_) fun hc4 => ?_
 refine vl rfl rfl (fun a w hf hO => zl (vs := []) (v := .agg #[int 0, str [], str [], int 0, str [], int 0, .slice none 0 0]) hf rfl (by kernel_rfl)) ?_
 refine st 1 rfl rfl ?_
 refine nl 107 2 ?_
 refine re_ rfl fun a w hf hO hm => ?_
 obtain rfl := Option.some.inj hm
 exact zb Tryz.results47 hf (.cell rfl (ze (n := 7) (vs := [int 0, str [], str [], int 0, str [], int 0, .slice none 0 0]) zdq zdf rfl ((hO.blkSees (i := 2) rfl).cells (o := 0) (n := 7) rfl)) (.tmp rfl .nil)) ⟨none, 0, rfl, (hO.sub (.cons_cons _ (.cons _ (.cons _ (.cons _ (.cons _ (.cons _ .slnil)))))))⟩
 refine ld 4 rfl rfl ?_
 refine al zfR rfl fun b7 => ?_
 refine nl 107 2 ?_
 refine st 1 rfl rfl ?_
 refine rw_ rfl fun a w hf hO hm => ?_
 refine zu (vs := []) (cs := []) (e := 107) (sz := 2) hf rfl rfl (fun w => by kernel_rfl) rfl rfl hO fun a b9 w hf hO => ?_
 refine S.op tb ?_ hf hO hm
 refine ld 2 rfl rfl ?_
 refine rw_ rfl fun a w hf hO hm => ?_
 obtain ⟨hg12, hm⟩ := og hm
 refine zfB zlk (enc := za) (xs := []) (ys := x_a.f_got.Fields) (i := 0) (fun _ => rfl) rfl (hO.sees (i := 5) rfl) (by simp [za, Value.oneCell']) hg12 hf rfl rfl rfl hO fun a p10 c11 w hf hO => ?_
 refine S.op tb ?_ hf hO hm
 refine st 2 rfl rfl ?_
 refine ld 2 rfl rfl ?_
 refine st 4 rfl rfl ?_
 refine re_ rfl fun a w hf hO hm => ?_
 obtain rfl := Option.some.inj hm
 exact zb Tryz.results47 hf (.cell rfl (ze (n := 7) (vs := [int x_a.f_got.Kind, str x_a.f_got.Method, str x_a.f_got.Target, int x_a.f_got.Code, str x_a.f_got.Reason, int x_a.f_got.Minor, .slice p10 x_a.f_got.Fields.length c11]) zdq zdf rfl ((hO.blkSees (i := 4) rfl).cells (o := 0) (n := 7) rfl)) (.tmp rfl .nil)) ⟨p10, c11, rfl, (hO.sub (.cons_cons _ (.cons _ (.cons _ (.cons _ (.cons _ (.cons _ (.cons _ (.cons _ .slnil)))))))))⟩

theorem zkq (x_limit : Int) (R : Option dechunk_Decoder × Int) (w0 : World) (hG : zt w0) (hm : zhE x_limit = some R) :
    Calls Tryz.prog 79 #[int x_limit] w0 fun e w' => zjj R.1 (e = .returned (.tuple #[.pointer none, int R.2]) ∧ Below w0.heap.size w0 w') (fun x => ∃ (b0 : Nat) (p1 : Option Addr) (c1 : Nat) (p2 : Option Addr) (c2 : Nat), e = .returned (.tuple #[ptr b0 0, int R.2]) ∧ Dk.Own w0 [] w' [.blk b0 [int x.f_limit, int x.f_at, .slice p1 x.f_line.length c1, int x.f_left, int x.f_sum, int x.f_spent, .slice p2 x.f_trailers.length c2] 194, .row (.slice p1 x.f_line.length c1) 5 1 x.f_line.length (cells zc x.f_line), .row (.slice p2 x.f_trailers.length c2) 107 2 x.f_trailers.length (cells za x.f_trailers)]) := by
 rw [zhE] at hm
 have hF : zo [] := zf
 have hO : Dk.Own w0 [] w0 [] := Dk.Own.refl w0
 refine S.enter tb Tryz.func79 rfl Tryz.ntmps79 rfl ?_ hO hm
 refine jv 1 [0] [] (fun J E L => ∃ (t3 : Bool), J ((9, .bool t3) :: E) (L) (zep x_limit t3)) rfl ?_ ?_
 refine br rfl (fun hc2 => ?_) fun hc2 => ?_
 exact en rfl fun _ _ j => ⟨true, j rfl⟩
 exact en rfl fun _ _ j => ⟨decide (65536 < x_limit), j rfl⟩
 rintro a w ⟨t3, hf, hO, hm⟩
 rw [zep] at hm
 refine S.co tb ?_ hf hO hm
 refine br rfl (fun hc4 => ?_) fun hc4 => ?_
 refine re_ rfl fun a w hf hO hm => ?_
 obtain rfl := Option.some.inj hm
 exact zb Tryz.results79 hf (.tmp rfl (.tmp rfl .nil)) ⟨rfl, hO.below⟩
 refine vl rfl rfl (fun a w hf hO => zl (vs := [(0, int x_limit)]) (v := .agg #[int x_limit, int 0, .slice none 0 0, int 0, int 0, int 0, .slice none 0 0]) hf rfl (by kernel_rfl)) ?_
 refine bo rfl fun b7 => ?_
 refine nl 5 1 ?_
 refine nl 107 2 ?_
 refine re_ rfl fun a w hf hO hm => ?_
 obtain rfl := Option.some.inj hm
 exact zb Tryz.results79 hf (.tmp rfl (.tmp rfl .nil)) ⟨b7, none, 0, none, 0, rfl, (hO.choose [2, 1, 0] rfl)⟩

theorem zjO (x_a0 : api_Frame) (x_a1 : Int) (R : Option (Bool × body_Body) × Int) (w0 : World) (hG : zt w0) (hm : zi4 x_a0 x_a1 = some R) :
    Calls Tryz.prog 48 #[.agg #[int x_a0.Kind, int x_a0.N], int x_a1] w0 fun e w' => zjj R.1 (e = .returned (.tuple #[.pointer none, int R.2]) ∧ Below w0.heap.size w0 w') (fun x => bE x.1 (∃ (b0 : Nat) (b1 : Nat) (p2 : Option Addr) (c2 : Nat) (p3 : Option Addr) (c3 : Nat), e = .returned (.tuple #[ptr b0 0, int R.2]) ∧ Dk.Own w0 [] w' [.blk b0 [ptr b1 0, int x.2.f_frame.Kind, int x.2.f_frame.N, int x.2.f_left, .bool x.2.f_done, .bool x.2.f_bad] 150, .blk b1 [int x.2.Decoder.f_limit, int x.2.Decoder.f_at, .slice p2 x.2.Decoder.f_line.length c2, int x.2.Decoder.f_left, int x.2.Decoder.f_sum, int x.2.Decoder.f_spent, .slice p3 x.2.Decoder.f_trailers.length c3] 194, .row (.slice p2 x.2.Decoder.f_line.length c2) 5 1 x.2.Decoder.f_line.length (cells zc x.2.Decoder.f_line), .row (.slice p3 x.2.Decoder.f_trailers.length c3) 107 2 x.2.Decoder.f_trailers.length (cells za x.2.Decoder.f_trailers)]) (∃ (b0 : Nat), e = .returned (.tuple #[ptr b0 0, int R.2]) ∧ Dk.Own w0 [] w' [.blk b0 [.pointer none, int x.2.f_frame.Kind, int x.2.f_frame.N, int x.2.f_left, .bool x.2.f_done, .bool x.2.f_bad] 150])) := by
 rw [zi4] at hm
 have hF : zo [] := zf
 have hO : Dk.Own w0 [] w0 [] := Dk.Own.refl w0
 refine S.enter tb Tryz.func48 rfl Tryz.ntmps48 rfl ?_ hO hm
 refine bo rfl fun b1 => ?_
 refine jn 0 (fun a w => (∃ (i11 : Int), Fits 65 [(2, ptr b1 0), (6, .pointer none), (7, int i11)] a ∧ Dk.Own w0 [] w [.blk b1 [int x_a0.Kind, int x_a0.N] 34] ∧ zhF x_a0 i11 = some R) ∨ (∃ (b28 : Nat) (i29 : Int) (i30 : Int) (i31 : Int) (p32 : Option Addr) (c33 : Nat) (l34 : List UInt8) (i35 : Int) (i36 : Int) (i37 : Int) (p38 : Option Addr) (c39 : Nat) (l40 : List api_Field), Fits 65 [(2, ptr b1 0), (6, ptr b28 0), (7, int i29)] a ∧ Dk.Own w0 [] w [.blk b28 [int i30, int i31, .slice p32 l34.length c33, int i35, int i36, int i37, .slice p38 l40.length c39] 194, .row (.slice p32 l34.length c33) 5 1 l34.length (cells zc l34), .row (.slice p38 l40.length c39) 107 2 l40.length (cells za l40), .blk b1 [int x_a0.Kind, int x_a0.N] 34] ∧ zhI x_a0 i29 i30 i31 l34 i35 i36 i37 l40 = some R)) rfl ?_ ?_
 refine rw_ rfl fun a w hf hO hm => ?_
 obtain ⟨r3, hr3, hm⟩ := ob hm
 refine zg (zi c_79 hf (vs := [int x_a1]) rfl) rfl hf rfl rfl (zkq x_a1 r3 _ (hG.own hF hO) hr3) ?_
 rintro e w' hpost4
 rcases hopt4 : r3.1 with _ | x5
 have hm := zkn hopt4 hm
 obtain ⟨he, hb⟩ := zi0 hopt4 hpost4
 refine ⟨_, he, fun a hf => ?_⟩
 have hO := hO.grow hb
 refine S.op tb ?_ hf hO hm
 refine eo rfl fun a w hf hO hm => ?_
 exact Or.inl ⟨r3.2, hf.sel rfl, hO, hm⟩
 have hm := zko hopt4 hm
 obtain ⟨b6, p7, c8, p9, c10, he, hO'⟩ := zi1 hopt4 hpost4
 refine ⟨_, he, fun a hf => ?_⟩
 have hO := hO.call hO' (by simp [Res.shared])
 refine S.op tb ?_ hf hO hm
 refine eo rfl fun a w hf hO hm => ?_
 exact Or.inr (⟨b6, r3.2, x5.f_limit, x5.f_at, p7, c8, x5.f_line, x5.f_left, x5.f_sum, x5.f_spent, p9, c10, x5.f_trailers, hf.sel rfl, hO, hm⟩)
 rintro a w (⟨i11, hf, hO, hm⟩ | ⟨b28, i29, i30, i31, p32, c33, l34, i35, i36, i37, p38, c39, l40, hf, hO, hm⟩)
 rw [zhF] at hm
 refine S.co tb ?_ hf hO hm
 refine jv 1 [2, 6] [0] (fun J E L => ∃ (t16 : Bool), J ((35, .bool t16) :: E) (L) (zcY x_a0 t16)) rfl ?_ ?_
 refine br rfl (fun hc12 => ?_) fun hc12 => ?_
 exact en rfl fun _ _ j => ⟨true, j rfl⟩
 refine ld 0 rfl rfl ?_
 refine br rfl (fun hc13 => ?_) fun hc13 => ?_
 exact en rfl fun _ _ j => ⟨true, j rfl⟩
 refine ld 0 rfl rfl ?_
 refine br rfl (fun hc14 => ?_) fun hc14 => ?_
 exact en rfl fun _ _ j => ⟨true, j rfl⟩
 refine ld 0 rfl rfl ?_
 refine br rfl (fun hc15 => ?_) fun hc15 => ?_
 exact en rfl fun _ _ j => ⟨true, j rfl⟩
 refine ld 0 rfl rfl ?_
 exact en rfl fun _ _ j => ⟨decide (1099511627776 < x_a0.N), j rfl⟩
 rintro a w ⟨t16, hf, hO, hm⟩
 rw [zcY] at hm
 refine S.co tb ?_ hf hO hm
 refine br rfl (fun hc17 => ?_) fun hc17 => ?_
 refine re_ rfl fun a w hf hO hm => ?_
 obtain rfl := Option.some.inj hm
 exact zb Tryz.results48 hf (.tmp rfl (.tmp rfl .nil)) ⟨rfl, hO.below⟩
 refine ld 0 rfl rfl ?_
 refine ld 0 rfl rfl ?_
 refine vl rfl rfl (fun a w hf hO => zl (vs := [(1, .agg #[int x_a0.Kind, int x_a0.N]), (2, int x_a0.N)]) (v := .agg #[.pointer none, int x_a0.Kind, int x_a0.N, int x_a0.N, .bool false, .bool false]) hf rfl (by kernel_rfl)) ?_
 refine bo rfl fun b20 => ?_
 refine jv 0 [2, 8] [0, 1] (fun J E L => J (E) (L) (zf6 x_a0)) rfl ?_ ?_
 refine ld 1 rfl rfl ?_
 refine br rfl (fun hc23 => ?_) fun hc23 => ?_
 refine st 0 rfl rfl ?_
 exact en rfl fun _ _ j => j rfl
 exact en rfl fun _ _ j => j rfl
 rintro a w ⟨hf, hO, hm⟩
 rw [zf6] at hm
 refine S.co tb ?_ hf hO hm
 refine jv 0 [8] [1] (fun J E L => ∃ (t26 : Bool), J (E) (.blk b20 [.pointer none, int x_a0.Kind, int x_a0.N, int x_a0.N, .bool t26, .bool false] 150 :: L) (zfb x_a0 t26)) rfl ?_ ?_
 refine ld 1 rfl rfl ?_
 refine br rfl (fun hc24 => ?_) fun hc24 => ?_
 refine st 0 rfl rfl ?_
 exact en rfl fun _ _ j => ⟨true, j rfl⟩
 refine ld 1 rfl rfl ?_
 refine br rfl (fun hc25 => ?_) fun hc25 => ?_
 refine ld 1 rfl rfl ?_
 refine st 0 rfl rfl ?_
 exact en rfl fun _ _ j => ⟨x_a0.N == 0, j rfl⟩
 refine st 0 rfl rfl ?_
 exact en rfl fun _ _ j => ⟨false, j rfl⟩
 rintro a w ⟨t26, hf, hO, hm⟩
 rw [zfb] at hm
 refine S.co tb ?_ hf hO hm
 refine re_ rfl fun a w hf hO hm => ?_
 obtain rfl := Option.some.inj hm
 exact zb Tryz.results48 hf (.tmp rfl (.tmp rfl .nil)) ⟨b20, rfl, (hO.sub (.cons_cons _ (.cons _ .slnil)))⟩
 rw [zhI] at hm
 refine S.co tb ?_ hf hO hm
 refine jv 1 [2, 6] [0, 1, 2, 3] (fun J E L => ∃ (t45 : Bool), J ((35, .bool t45) :: E) (L) (zcZ x_a0 i30 i31 l34 i35 i36 i37 l40 t45)) rfl ?_ ?_
 refine br rfl (fun hc41 => ?_) fun hc41 => ?_
 exact en rfl fun _ _ j => ⟨true, j rfl⟩
 refine ld 3 rfl rfl ?_
 refine br rfl (fun hc42 => ?_) fun hc42 => ?_
 exact en rfl fun _ _ j => ⟨true, j rfl⟩
 refine ld 3 rfl rfl ?_
 refine br rfl (fun hc43 => ?_) fun hc43 => ?_
 exact en rfl fun _ _ j => ⟨true, j rfl⟩
 refine ld 3 rfl rfl ?_
 refine br rfl (fun hc44 => ?_) fun hc44 => ?_
 exact en rfl fun _ _ j => ⟨true, j rfl⟩
 refine ld 3 rfl rfl ?_
 exact en rfl fun _ _ j => ⟨decide (1099511627776 < x_a0.N), j rfl⟩
 rintro a w ⟨t45, hf, hO, hm⟩
 rw [zcZ] at hm
 refine S.co tb ?_ hf hO hm
 refine br rfl (fun hc46 => ?_) fun hc46 => ?_
 refine re_ rfl fun a w hf hO hm => ?_
 obtain rfl := Option.some.inj hm
 exact zb Tryz.results48 hf (.tmp rfl (.tmp rfl .nil)) ⟨rfl, hO.below⟩
 refine ld 3 rfl rfl ?_
 refine ld 3 rfl rfl ?_
 refine vl rfl rfl (fun a w hf hO => zl (vs := [(1, .agg #[int x_a0.Kind, int x_a0.N]), (2, int x_a0.N)]) (v := .agg #[.pointer none, int x_a0.Kind, int x_a0.N, int x_a0.N, .bool false, .bool false]) hf rfl (by kernel_rfl)) ?_
 refine bo rfl fun b49 => ?_
 refine jn 0 (fun a w => (Fits 65 [(2, ptr b1 0), (8, ptr b49 0)] a ∧ Dk.Own w0 [] w [.blk b49 [ptr b28 0, int x_a0.Kind, int x_a0.N, int x_a0.N, .bool false, .bool false] 150, .blk b28 [int i30, int i31, .slice p32 l34.length c33, int i35, int i36, int i37, .slice p38 l40.length c39] 194, .row (.slice p32 l34.length c33) 5 1 l34.length (cells zc l34), .row (.slice p38 l40.length c39) 107 2 l40.length (cells za l40), .blk b1 [int x_a0.Kind, int x_a0.N] 34] ∧ zhG x_a0 i30 i31 l34 i35 i36 i37 l40 = some R) ∨ (Fits 65 [(2, ptr b1 0), (8, ptr b49 0)] a ∧ Dk.Own w0 [] w [.blk b49 [.pointer none, int x_a0.Kind, int x_a0.N, int x_a0.N, .bool false, .bool false] 150, .blk b28 [int i30, int i31, .slice p32 l34.length c33, int i35, int i36, int i37, .slice p38 l40.length c39] 194, .row (.slice p32 l34.length c33) 5 1 l34.length (cells zc l34), .row (.slice p38 l40.length c39) 107 2 l40.length (cells za l40), .blk b1 [int x_a0.Kind, int x_a0.N] 34] ∧ zhH x_a0 = some R)) rfl ?_ ?_
 refine ld 4 rfl rfl ?_
 refine br rfl (fun hc52 => ?_) fun hc52 => ?_
 refine st 0 rfl rfl ?_
 refine eo rfl fun a w hf hO hm => ?_
 exact Or.inl ⟨hf.sel rfl, hO, hm⟩
 refine eo rfl fun a w hf hO hm => ?_
 exact Or.inr (⟨hf.sel rfl, hO, hm⟩)
 rintro a w (⟨hf, hO, hm⟩ | ⟨hf, hO, hm⟩)
 rw [zhG] at hm
 refine S.co tb ?_ hf hO hm
 refine jv 0 [8] [1, 2, 3, 4] (fun J E L => ∃ (t55 : Bool), J (E) (.blk b49 [ptr b28 0, int x_a0.Kind, int x_a0.N, int x_a0.N, .bool t55, .bool false] 150 :: L) (zfc x_a0 i30 i31 l34 i35 i36 i37 l40 t55)) rfl ?_ ?_
 refine ld 4 rfl rfl ?_
 refine br rfl (fun hc53 => ?_) fun hc53 => ?_
 refine st 0 rfl rfl ?_
 exact en rfl fun _ _ j => ⟨true, j rfl⟩
 refine ld 4 rfl rfl ?_
 refine br rfl (fun hc54 => ?_) fun hc54 => ?_
 refine ld 4 rfl rfl ?_
 refine st 0 rfl rfl ?_
 exact en rfl fun _ _ j => ⟨x_a0.N == 0, j rfl⟩
 refine st 0 rfl rfl ?_
 exact en rfl fun _ _ j => ⟨false, j rfl⟩
 rintro a w ⟨t55, hf, hO, hm⟩
 rw [zfc] at hm
 refine S.co tb ?_ hf hO hm
 refine re_ rfl fun a w hf hO hm => ?_
 obtain rfl := Option.some.inj hm
 exact zb Tryz.results48 hf (.tmp rfl (.tmp rfl .nil)) ⟨b49, b28, p32, c33, p38, c39, rfl, (hO.sub (.cons_cons _ (.cons_cons _ (.cons_cons _ (.cons_cons _ (.cons _ .slnil))))))⟩
 rw [zhH] at hm
 refine S.co tb ?_ hf hO hm
 refine jv 0 [8] [1, 2, 3, 4] (fun J E L => ∃ (t59 : Bool), J (E) (.blk b49 [.pointer none, int x_a0.Kind, int x_a0.N, int x_a0.N, .bool t59, .bool false] 150 :: L) (zeq x_a0 t59)) rfl ?_ ?_
 refine ld 4 rfl rfl ?_
 refine br rfl (fun hc57 => ?_) fun hc57 => ?_
 refine st 0 rfl rfl ?_
 exact en rfl fun _ _ j => ⟨true, j rfl⟩
 refine ld 4 rfl rfl ?_
 refine br rfl (fun hc58 => ?_) fun hc58 => ?_
 refine ld 4 rfl rfl ?_
 refine st 0 rfl rfl ?_
 exact en rfl fun _ _ j => ⟨x_a0.N == 0, j rfl⟩
 refine st 0 rfl rfl ?_
 exact en rfl fun _ _ j => ⟨false, j rfl⟩
 rintro a w ⟨t59, hf, hO, hm⟩
 rw [zeq] at hm
 refine S.co tb ?_ hf hO hm
 refine re_ rfl fun a w hf hO hm => ?_
 obtain rfl := Option.some.inj hm
 exact zb Tryz.results48 hf (.tmp rfl (.tmp rfl .nil)) ⟨b49, rfl, (hO.sub (.cons_cons _ (.cons _ (.cons _ (.cons _ (.cons _ .slnil))))))⟩

theorem zgi (x_b : body_Body) (R : Bool) (w0 : World) (hG : zt w0) {x_b_b0 : Nat} {x_b_b1 : Nat} {x_b_p2 : Option Addr} {x_b_c2 : Nat} {x_b_p3 : Option Addr} {x_b_c3 : Nat} (hs0 : zw w0 (some ⟨x_b_b0, 0, none⟩) [ptr x_b_b1 0, int x_b.f_frame.Kind, int x_b.f_frame.N, int x_b.f_left, .bool x_b.f_done, .bool x_b.f_bad]) (hs1 : zw w0 (some ⟨x_b_b1, 0, none⟩) [int x_b.Decoder.f_limit, int x_b.Decoder.f_at, .slice x_b_p2 x_b.Decoder.f_line.length x_b_c2, int x_b.Decoder.f_left, int x_b.Decoder.f_sum, int x_b.Decoder.f_spent, .slice x_b_p3 x_b.Decoder.f_trailers.length x_b_c3]) (hs2 : zw w0 x_b_p2 (cells zc x_b.Decoder.f_line)) (hc2 : x_b.Decoder.f_line.length ≤ x_b_c2) (hs3 : zw w0 x_b_p3 (cells za x_b.Decoder.f_trailers)) (hc3 : x_b.Decoder.f_trailers.length ≤ x_b_c3) (hm : zer x_b = some R) :
    Calls Tryz.prog 80 #[ptr x_b_b0 0] w0 (Ret w0 (fun R => .bool R) R) := by
 rw [zer] at hm
 have hF : zo [] := zf
 have hO : Dk.Own w0 [] w0 [] := Dk.Own.refl w0
 have hO := hO.addShr hs0 (by simp [Res.shared])
 have hO := hO.addShr hs1 (by simp [Res.shared])
 have hO := hO.addShr hs2 (by simp [Res.shared])
 have hO := hO.addShr hs3 (by simp [Res.shared])
 refine S.enter tb Tryz.func80 rfl Tryz.ntmps80 rfl ?_ hO hm
 refine vl rfl rfl (fun a w hf hO => zhM Tryz.underlying94 hf rfl rfl) ?_
 refine kn (b' := true) rfl rfl ?_
 refine ld 3 rfl rfl ?_
 exact rt Tryz.results80 rfl

theorem zgw (x_d : dechunk_Decoder) (x_s : Str) (R : Str × dechunk_Decoder) (w0 : World) (hG : zt w0) {x_d_b0 : Nat} {x_d_p1 : Option Addr} {x_d_c1 : Nat} {x_d_p2 : Option Addr} {x_d_c2 : Nat} {F : List Nat} (hF : zo F) (hO : Dk.Own w0 F w0 [.blk x_d_b0 [int x_d.f_limit, int x_d.f_at, .slice x_d_p1 x_d.f_line.length x_d_c1, int x_d.f_left, int x_d.f_sum, int x_d.f_spent, .slice x_d_p2 x_d.f_trailers.length x_d_c2] 194, .row (.slice x_d_p1 x_d.f_line.length x_d_c1) 5 1 x_d.f_line.length (cells zc x_d.f_line), .row (.slice x_d_p2 x_d.f_trailers.length x_d_c2) 107 2 x_d.f_trailers.length (cells za x_d.f_trailers)]) (hm : zc0 x_d x_s = some R) :
    Calls Tryz.prog 207 #[ptr x_d_b0 0, str x_s] w0 fun e w' => ∃ (p0 : Option Addr) (c0 : Nat) (p1 : Option Addr) (c1 : Nat), e = .returned (str R.1) ∧ Dk.Own w0 F w' [.blk x_d_b0 [int R.2.f_limit, int R.2.f_at, .slice p0 R.2.f_line.length c0, int R.2.f_left, int R.2.f_sum, int R.2.f_spent, .slice p1 R.2.f_trailers.length c1] 194, .row (.slice p0 R.2.f_line.length c0) 5 1 R.2.f_line.length (cells zc R.2.f_line), .row (.slice p1 R.2.f_trailers.length c1) 107 2 R.2.f_trailers.length (cells za R.2.f_trailers)] := by
 rw [zc0] at hm
 refine S.enter tb Tryz.func207 rfl Tryz.ntmps207 rfl ?_ hO hm
 refine ld 0 rfl rfl ?_
 refine vl rfl rfl (fun a w hf hO => zmm (m := x_d.f_left) (n := (x_s.length : Int)) hf rfl rfl) ?_
 refine ld 0 rfl rfl ?_
 refine bi rfl fun i3 hi3 => ?_
 refine st 0 rfl rfl ?_
 refine jv 0 [1, 5] [1, 2] (fun J E L => ∃ (i7 : Int) (i8 : Int), J (E) (.blk x_d_b0 [int x_d.f_limit, int i7, .slice x_d_p1 x_d.f_line.length x_d_c1, int i8, int x_d.f_sum, int x_d.f_spent, .slice x_d_p2 x_d.f_trailers.length x_d_c2] 194 :: L) (zaG x_d x_s i7 i8)) rfl ?_ ?_
 refine ld 0 rfl rfl ?_
 refine br rfl (fun hc6 => ?_) fun hc6 => ?_
 refine st 0 rfl rfl ?_
 refine st 0 rfl rfl ?_
 exact en rfl fun _ _ j => ⟨2, 2, j rfl⟩
 exact en rfl fun _ _ j => ⟨x_d.f_at, i3, j rfl⟩
 rintro a w ⟨i7, i8, hf, hO, hm⟩
 rw [zaG] at hm
 refine S.co tb ?_ hf hO hm
 refine bi rfl fun s9 hs9 => ?_
 refine re_ rfl fun a w hf hO hm => ?_
 obtain rfl := Option.some.inj hm
 exact zb Tryz.results207 hf (.tmp rfl .nil) ⟨x_d_p1, x_d_c1, x_d_p2, x_d_c2, rfl, hO⟩

theorem zgj (x_d : dechunk_Decoder) (x_b : UInt8) (R : Int × dechunk_Decoder) (w0 : World) (hG : zt w0) {x_d_b0 : Nat} {x_d_p1 : Option Addr} {x_d_c1 : Nat} {x_d_p2 : Option Addr} {x_d_c2 : Nat} {F : List Nat} (hF : zo F) (hO : Dk.Own w0 F w0 [.blk x_d_b0 [int x_d.f_limit, int x_d.f_at, .slice x_d_p1 x_d.f_line.length x_d_c1, int x_d.f_left, int x_d.f_sum, int x_d.f_spent, .slice x_d_p2 x_d.f_trailers.length x_d_c2] 194, .row (.slice x_d_p1 x_d.f_line.length x_d_c1) 5 1 x_d.f_line.length (cells zc x_d.f_line), .row (.slice x_d_p2 x_d.f_trailers.length x_d_c2) 107 2 x_d.f_trailers.length (cells za x_d.f_trailers)]) (hm : zcx x_d x_b = some R) :
    Calls Tryz.prog 208 #[ptr x_d_b0 0, zB x_b] w0 fun e w' => ∃ (p0 : Option Addr) (c0 : Nat) (p1 : Option Addr) (c1 : Nat), e = .returned (int R.1) ∧ Dk.Own w0 F w' [.blk x_d_b0 [int R.2.f_limit, int R.2.f_at, .slice p0 R.2.f_line.length c0, int R.2.f_left, int R.2.f_sum, int R.2.f_spent, .slice p1 R.2.f_trailers.length c1] 194, .row (.slice p0 R.2.f_line.length c0) 5 1 R.2.f_line.length (cells zc R.2.f_line), .row (.slice p1 R.2.f_trailers.length c1) 107 2 R.2.f_trailers.length (cells za R.2.f_trailers)] := by
 rw [zcx] at hm
 refine S.enter tb Tryz.func208 rfl Tryz.ntmps208 rfl ?_ hO hm
 refine jv 0 [0, 1] [0, 1, 2] (fun J E L => ∃ (b5 : UInt8), J ((5, zB b5) :: E) (L) (zay x_d x_b b5)) rfl ?_ ?_
 refine ld 0 rfl rfl ?_
 refine br rfl (fun hc4 => ?_) fun hc4 => ?_
 exact en rfl fun _ _ j => ⟨10, j rfl⟩
 exact en rfl fun _ _ j => ⟨13, j rfl⟩
 rintro a w ⟨b5, hf, hO, hm⟩
 rw [zay] at hm
 refine S.co tb ?_ hf hO hm
 refine vl rfl rfl (fun a w hf hO => zhp (b := x_b) (c := b5) hf rfl rfl) ?_
 refine br rfl (fun hc7 => ?_) fun hc7 => ?_
 refine re_ rfl fun a w hf hO hm => ?_
 obtain rfl := Option.some.inj hm
 exact zb Tryz.results208 hf (.tmp rfl .nil) ⟨x_d_p1, x_d_c1, x_d_p2, x_d_c2, rfl, hO⟩
 refine ld 0 rfl rfl ?_
 refine bi rfl fun i10 hi10 => ?_
 refine st 0 rfl rfl ?_
 refine jv 0 [] [1, 2] (fun J E L => ∃ (i14 : Int), J (E) (.blk x_d_b0 [int x_d.f_limit, int i14, .slice x_d_p1 x_d.f_line.length x_d_c1, int i10, int x_d.f_sum, int x_d.f_spent, .slice x_d_p2 x_d.f_trailers.length x_d_c2] 194 :: L) (zax x_d i10 i14)) rfl ?_ ?_
 refine ld 0 rfl rfl ?_
 refine br rfl (fun hc13 => ?_) fun hc13 => ?_
 refine st 0 rfl rfl ?_
 exact en rfl fun _ _ j => ⟨0, j rfl⟩
 exact en rfl fun _ _ j => ⟨x_d.f_at, j rfl⟩
 rintro a w ⟨i14, hf, hO, hm⟩
 rw [zax] at hm
 refine S.co tb ?_ hf hO hm
 refine re_ rfl fun a w hf hO hm => ?_
 obtain rfl := Option.some.inj hm
 exact zb Tryz.results208 hf (.tmp rfl .nil) ⟨x_d_p1, x_d_c1, x_d_p2, x_d_c2, rfl, hO⟩

theorem zkr (x_s : Str) (x_most : Int) (R : Int × Int) (w0 : World) (hG : zt w0) (hm : zhJ x_s x_most = some R) :
    Calls Tryz.prog 285 #[str x_s, int x_most] w0 (Ret w0 (fun R => .tuple #[int R.1, int R.2]) R) := by
 rw [zhJ] at hm
 have hF : zo [] := zf
 have hO : Dk.Own w0 [] w0 [] := Dk.Own.refl w0
 refine S.enter tb Tryz.func285 rfl Tryz.ntmps285 rfl ?_ hO hm
 refine cl c_221 rfl (fun r2 w hr2 hO => zhs x_s 16 x_most zao r2 _ (hG.own hF hO) zlB (fun y0 r w hG h => zdN (zds y0 r w hG h)) hr2) fun r2 hr2 => ?_
 exact rt Tryz.results285 rfl

theorem zks (x_c : scan_Scanner) (R : Str × Bool × scan_Scanner) (w0 : World) (hG : zt w0) {x_c_b0 : Nat} {F : List Nat} (hF : zo F) (hO : Dk.Own w0 F w0 [.blk x_c_b0 [str x_c.f_s, int x_c.f_at] 289]) (hm : zhK x_c = some R) :
    Calls Tryz.prog 292 #[ptr x_c_b0 0] w0 fun e w' => e = .returned (.tuple #[str R.1, .bool R.2.1]) ∧ Dk.Own w0 F w' [.blk x_c_b0 [str R.2.2.f_s, int R.2.2.f_at] 289] := by
 rw [zhK] at hm
 refine S.enter tb Tryz.func292 rfl Tryz.ntmps292 rfl ?_ hO hm
 refine rw_ rfl fun a w hf hO hm => ?_
 obtain ⟨r2, hr2, hm⟩ := ob hm
 have hch3 := (show Dk.Own w0 F _ ([.blk x_c_b0 [str x_c.f_s, int x_c.f_at] 289] ++ []) from hO)
 have hfar3 := Dk.Own.far hch3 rfl hF hG.size
 have hlend3 := hch3.lend (S := []) rfl trivial
 have hcl3 := zbo x_c r2 _ (hG.own hF hO) hfar3 hlend3 hr2
 refine zg (zi zmx hf (vs := [ptr x_c_b0 0]) rfl) rfl hf rfl rfl (hcl3) ?_
 rintro e w' ⟨he, hO'⟩
 refine ⟨_, he, fun a hf => ?_⟩
 have hO := hch3.back rfl hO' rfl
 refine S.op tb ?_ hf hO hm
 refine br rfl (fun hc6 => ?_) fun hc6 => ?_
 refine re_ rfl fun a w hf hO hm => ?_
 obtain rfl := Option.some.inj hm
 exact zb Tryz.results292 hf (.tmp rfl (.tmp rfl .nil)) ⟨rfl, hO⟩
 refine rw_ rfl fun a w hf hO hm => ?_
 obtain ⟨r9, hr9, hm⟩ := ob hm
 have hch10 := (show Dk.Own w0 F _ ([.blk x_c_b0 [str r2.2.2.f_s, int r2.2.2.f_at] 289] ++ []) from hO)
 have hfar10 := Dk.Own.far hch10 rfl hF hG.size
 have hlend10 := hch10.lend (S := []) rfl trivial
 have hcl10 := zh0 r2.2.2 r9 _ (hG.own hF hO) hfar10 hlend10 hr9
 refine zg (zi c_265 hf (vs := [ptr x_c_b0 0]) rfl) rfl hf rfl rfl (hcl10) ?_
 rintro e w' ⟨he, hO'⟩
 refine ⟨_, he, fun a hf => ?_⟩
 have hO := hch10.back rfl hO' rfl
 refine S.op tb ?_ hf hO hm
 refine re_ rfl fun a w hf hO hm => ?_
 obtain rfl := Option.some.inj hm
 exact zb Tryz.results292 hf (.tmp rfl (.tmp rfl .nil)) ⟨rfl, hO⟩

theorem zgx (x_r : chunkline_reader) (R : api_Attr × Bool × scan_Scanner) (w0 : World) (hG : zt w0) {x_r_b0 : Nat} {F : List Nat} (hF : zo F) (hO : Dk.Own w0 F w0 [.blk x_r_b0 [str x_r.Scanner.f_s, int x_r.Scanner.f_at] 289]) (hm : zc1 x_r = some R) :
    Calls Tryz.prog 286 #[.agg #[ptr x_r_b0 0]] w0 fun e w' => e = .returned (.tuple #[.agg #[str R.1.Name, str R.1.Value, .bool R.1.Has], .bool R.2.1]) ∧ Dk.Own w0 F w' [.blk x_r_b0 [str R.2.2.f_s, int R.2.2.f_at] 289] := by
 rw [zc1] at hm
 refine S.enter tb Tryz.func286 rfl Tryz.ntmps286 rfl ?_ hO hm
 refine bo rfl fun b1 => ?_
 refine al zm9 rfl fun b2 => ?_
 refine ld 1 rfl rfl ?_
 refine rw_ rfl fun a w hf hO hm => ?_
 obtain ⟨r4, hr4, hm⟩ := ob hm
 have hch5 := (show Dk.Own w0 F _ ([.blk x_r_b0 [str x_r.Scanner.f_s, int x_r.Scanner.f_at] 289] ++ [.blk b2 [str [], str [], .bool false] 283, .blk b1 [ptr x_r_b0 0] 338]) from hO.choose [2, 0, 1] rfl)
 have hfar5 := Dk.Own.far hch5 rfl hF hG.size
 have hlend5 := hch5.lend (S := []) rfl trivial
 have hcl5 := zbo x_r.Scanner r4 _ (hG.own hF hO) hfar5 hlend5 hr4
 refine zg (zi zmx hf (vs := [ptr x_r_b0 0]) rfl) rfl hf rfl rfl (hcl5) ?_
 rintro e w' ⟨he, hO'⟩
 refine ⟨_, he, fun a hf => ?_⟩
 have hO := hch5.back rfl hO' rfl
 refine S.op tb ?_ hf hO hm
 refine jv 1 [1, 2, 4, 5] [1, 2] (fun J E L => ∃ (t10 : Bool) (s11 : Str) (i12 : Int), J ((21, .bool t10) :: E) (.blk x_r_b0 [str s11, int i12] 289 :: L) (zaH r4 t10 s11 i12)) rfl ?_ ?_
 refine br rfl (fun hc7 => ?_) fun hc7 => ?_
 exact en rfl fun _ _ j => ⟨true, r4.2.2.f_s, r4.2.2.f_at, j rfl⟩
 refine ld 2 rfl rfl ?_
 refine rw_ rfl fun a w hf hO hm => ?_
 obtain ⟨r8, hr8, hm⟩ := ob hm
 have hch9 := (show Dk.Own w0 F _ ([.blk x_r_b0 [str r4.2.2.f_s, int r4.2.2.f_at] 289] ++ [.blk b2 [str [], str [], .bool false] 283, .blk b1 [ptr x_r_b0 0] 338]) from hO)
 have hfar9 := Dk.Own.far hch9 rfl hF hG.size
 have hlend9 := hch9.lend (S := []) rfl trivial
 have hcl9 := zq r4.2.2 61 r8 _ (hG.own hF hO) hfar9 hlend9 hr8
 refine zg (zi zet hf (vs := [ptr x_r_b0 0, zB 61]) rfl) rfl hf rfl rfl (hcl9) ?_
 rintro e w' ⟨he, hO'⟩
 refine ⟨_, he, fun a hf => ?_⟩
 have hO := hch9.back rfl hO' rfl
 refine S.op tb ?_ hf hO hm
 refine kn (b' := false) hc7 rfl ?_
 exact en rfl fun _ _ j => ⟨!r8.1, r8.2.f_s, r8.2.f_at, j rfl⟩
 rintro a w ⟨t10, s11, i12, hf, hO, hm⟩
 rw [zaH] at hm
 refine S.co tb ?_ hf hO hm
 refine br rfl (fun hc13 => ?_) fun hc13 => ?_
 refine vl rfl rfl (fun a w hf hO => zl (vs := [(0, str r4.1)]) (v := .agg #[str r4.1, str [], .bool false]) hf rfl (by kernel_rfl)) ?_
 refine st 1 rfl rfl ?_
 refine re_ rfl fun a w hf hO hm => ?_
 obtain rfl := Option.some.inj hm
 exact zb Tryz.results286 hf (.cell rfl (ze (n := 3) (vs := [str r4.1, str [], .bool false]) zl2 zl5 rfl ((hO.blkSees (i := 1) rfl).cells (o := 0) (n := 3) rfl)) (.tmp rfl .nil)) ⟨rfl, (hO.sub (.cons_cons _ (.cons _ (.cons _ .slnil))))⟩
 refine ld 2 rfl rfl ?_
 refine rw_ rfl fun a w hf hO hm => ?_
 obtain ⟨r16, hr16, hm⟩ := ob hm
 have hch17 := (show Dk.Own w0 F _ ([.blk x_r_b0 [str s11, int i12] 289] ++ [.blk b2 [str [], str [], .bool false] 283, .blk b1 [ptr x_r_b0 0] 338]) from hO)
 have hfar17 := Dk.Own.far hch17 rfl hF hG.size
 have hlend17 := hch17.lend (S := []) rfl trivial
 have hcl17 := zks (⟨s11, i12⟩ : scan_Scanner) r16 _ (hG.own hF hO) hfar17 hlend17 hr16
 refine zg (zi c_292 hf (vs := [ptr x_r_b0 0]) rfl) rfl hf rfl rfl (hcl17) ?_
 rintro e w' ⟨he, hO'⟩
 refine ⟨_, he, fun a hf => ?_⟩
 have hO := hch17.back rfl hO' rfl
 refine S.op tb ?_ hf hO hm
 refine vl rfl rfl (fun a w hf hO => zl (vs := [(0, str r4.1), (1, str r16.1), (2, .bool true)]) (v := .agg #[str r4.1, str r16.1, .bool true]) hf rfl (by kernel_rfl)) ?_
 refine st 1 rfl rfl ?_
 refine re_ rfl fun a w hf hO hm => ?_
 obtain rfl := Option.some.inj hm
 exact zb Tryz.results286 hf (.cell rfl (ze (n := 3) (vs := [str r4.1, str r16.1, .bool true]) zl2 zl5 rfl ((hO.blkSees (i := 1) rfl).cells (o := 0) (n := 3) rfl)) (.tmp rfl .nil)) ⟨rfl, (hO.sub (.cons_cons _ (.cons _ (.cons _ .slnil))))⟩

theorem ziv (x_s : Str) (R : Int × List api_Attr × Int) (w0 : World) (hG : zt w0) (hm : zfl x_s = some R) :
    Calls Tryz.prog 269 #[str x_s] w0 fun e w' => ∃ (p0 : Option Addr) (c0 : Nat), e = .returned (.tuple #[int R.1, .slice p0 R.2.1.length c0, int R.2.2]) ∧ Dk.Own w0 [] w' [.row (.slice p0 R.2.1.length c0) 283 3 R.2.1.length (cells zat R.2.1)] := by
 rw [zfl] at hm
 have hF : zo [] := zf
 have hO : Dk.Own w0 [] w0 [] := Dk.Own.refl w0
 refine S.enter tb Tryz.func269 rfl Tryz.ntmps269 rfl ?_ hO hm
 refine nl 283 3 ?_
 refine rw_ rfl fun a w hf hO hm => ?_
 obtain ⟨r2, hr2, hm⟩ := ob hm
 refine zg (zi zkE hf (vs := [str x_s]) rfl) rfl hf rfl rfl (zeD x_s r2 _ (hG.own hF hO) hr2) ?_
 rintro e w' ⟨b3, he, hO'⟩
 refine ⟨_, he, fun a hf => ?_⟩
 have hO := hO.call hO' (by simp [Res.shared])
 refine S.op tb ?_ hf hO hm
 refine vl rfl rfl (fun a w hf hO => zl (vs := [(0, ptr b3 0)]) (v := .agg #[ptr b3 0]) hf rfl (by kernel_rfl)) ?_
 refine al al_338 rfl fun b4 => ?_
 refine st 0 rfl rfl ?_
 refine ld 0 rfl rfl ?_
 refine rw_ rfl fun a w hf hO hm => ?_
 obtain ⟨r6, hr6, hm⟩ := ob hm
 have hch7 := (show Dk.Own w0 [] _ ([.blk b3 [str r2.f_s, int r2.f_at] 289] ++ [.blk b4 [ptr b3 0] 338, .row (.slice none 0 0) 283 3 0 (cells zat [])]) from hO.choose [1, 0, 2] rfl)
 have hfar7 := Dk.Own.far hch7 rfl hF hG.size
 have hlend7 := hch7.lend (S := []) rfl trivial
 have hcl7 := zaD r2 zao r6 _ (hG.own hF hO) hfar7 hlend7 zlB (fun y0 r w hG h => zdN (zds y0 r w hG h)) hr6
 refine zg (zi zlx hf (vs := [ptr b3 0, .func (.func 278) #[] #[]]) rfl) rfl hf rfl rfl (hcl7) ?_
 rintro e w' ⟨he, hO'⟩
 refine ⟨_, he, fun a hf => ?_⟩
 have hO := hch7.back rfl hO' rfl
 refine S.op tb ?_ hf hO hm
 refine cl c_285 rfl (fun r9 w hr9 hO => zkr r6.1 1099511627776 r9 _ (hG.own hF hO) hr9) fun r9 hr9 => ?_
 refine nl 283 3 ?_
 refine jv 0 [5, 7, 8] [2, 3] (fun J E L => ∃ (p34 : Option Addr) (c35 : Nat) (l36 : List api_Attr) (s37 : Str) (i38 : Int), J ((9, .slice p34 l36.length c35) :: E) (.blk b3 [str s37, int i38] 289 :: .row (.slice p34 l36.length c35) 283 3 l36.length (cells zat l36) :: L) (zdT r9 l36 s37 i38)) rfl ?_ ?_
 refine lv [5, 7, 8] [2, 3] (fun J E L k => ∃ (p12 : Option Addr) (c13 : Nat) (l14 : List api_Attr) (s15 : Str) (i16 : Int), J ((9, .slice p12 l14.length c13) :: E) (.row (.slice p12 l14.length c13) 283 3 l14.length (cells zat l14) :: .blk b3 [str s15, int i16] 289 :: L) (zbg r9 k l14 s15 i16)) rfl (fun _ _ j => ⟨none, 0, [], r6.2.f_s, r6.2.f_at, j rfl⟩) ?_
 rintro n1 a w ⟨p12, c13, l14, s15, i16, hf, hO, hm⟩
 obtain _ | n1 := n1
 rw [zbg] at hm
 cases hm
 rw [zbg] at hm
 refine S.co tb ?_ hf hO hm
 refine ld 2 rfl rfl ?_
 refine rw_ rfl fun a w hf hO hm => ?_
 obtain ⟨r17, hr17, hm⟩ := ob hm
 have hch18 := (show Dk.Own w0 [] _ ([.blk b3 [str s15, int i16] 289] ++ [.row (.slice p12 l14.length c13) 283 3 l14.length (cells zat l14), .blk b4 [ptr b3 0] 338, .row (.slice none 0 0) 283 3 0 (cells zat [])]) from hO.choose [1, 0, 2, 3] rfl)
 have hfar18 := Dk.Own.far hch18 rfl hF hG.size
 have hlend18 := hch18.lend (S := []) rfl trivial
 have hcl18 := zq (⟨s15, i16⟩ : scan_Scanner) 59 r17 _ (hG.own hF hO) hfar18 hlend18 hr17
 refine zg (zi zet hf (vs := [ptr b3 0, zB 59]) rfl) rfl hf rfl rfl (hcl18) ?_
 rintro e w' ⟨he, hO'⟩
 refine ⟨_, he, fun a hf => ?_⟩
 have hO := hch18.back rfl hO' rfl
 refine S.op tb ?_ hf hO hm
 refine br rfl (fun hc20 => ?_) fun hc20 => ?_
 refine ld 2 rfl rfl ?_
 refine rw_ rfl fun a w hf hO hm => ?_
 obtain ⟨r22, hr22, hm⟩ := ob hm
 have hch23 := (show Dk.Own w0 [] _ ([.blk b3 [str r17.2.f_s, int r17.2.f_at] 289] ++ [.row (.slice p12 l14.length c13) 283 3 l14.length (cells zat l14), .blk b4 [ptr b3 0] 338, .row (.slice none 0 0) 283 3 0 (cells zat [])]) from hO)
 have hfar23 := Dk.Own.far hch23 rfl hF hG.size
 have hlend23 := hch23.lend (S := []) rfl trivial
 have hcl23 := zgx (⟨r17.2⟩ : chunkline_reader) r22 _ (hG.own hF hO) hfar23 hlend23 hr22
 refine zg (zi c_286 hf (vs := [.agg #[ptr b3 0]]) rfl) rfl hf rfl rfl (hcl23) ?_
 rintro e w' ⟨he, hO'⟩
 refine ⟨_, he, fun a hf => ?_⟩
 have hO := hch23.back rfl hO' rfl
 refine S.op tb ?_ hf hO hm
 refine al zm9 rfl fun b24 => ?_
 refine st 0 rfl rfl ?_
 refine br rfl (fun hc27 => ?_) fun hc27 => ?_
 refine nl 283 3 ?_
 refine re_ rfl fun a w hf hO hm => ?_
 obtain rfl := Option.some.inj hm
 exact zb Tryz.results269 hf (.tmp rfl (.tmp rfl (.tmp rfl .nil))) ⟨none, 0, rfl, (hO.sub (.cons_cons _ (.cons _ (.cons _ (.cons _ (.cons _ (.cons _ .slnil)))))))⟩
 refine ld 0 rfl rfl ?_
 refine rw_ rfl fun a w hf hO hm => ?_
 refine zu (vs := [(0, .agg #[str r22.1.Name, str r22.1.Value, .bool r22.1.Has])]) (cs := [str r22.1.Name, str r22.1.Value, .bool r22.1.Has]) (e := 283) (sz := 3) hf rfl rfl (fun w => by kernel_rfl) rfl rfl hO fun a b30 w hf hO => ?_
 refine S.op tb ?_ hf hO hm
 refine rw_ rfl fun a w hf hO hm => ?_
 obtain ⟨hg33, hm⟩ := og hm
 refine zbz el_244 (enc := zat) (xs := l14) (ys := [r22.1]) (i := 3) (fun _ => rfl) rfl (hO.rowSees (i := 0) rfl) (by simp [cells, zat, Value.oneCell']) hg33 hf rfl rfl rfl hO fun a p31 c32 w hf hO => ?_
 refine S.op tb ?_ hf hO hm
 exact ec [3, 2, 4, 5] rfl rfl rfl fun _ _ j => ⟨_, Nat.lt_succ_self _, p31, c32, l14 ++ [r22.1], r22.2.2.f_s, r22.2.2.f_at, j rfl⟩
 exact en rfl fun _ _ j => ⟨p12, c13, l14, r17.2.f_s, r17.2.f_at, j rfl⟩
 rintro a w ⟨p34, c35, l36, s37, i38, hf, hO, hm⟩
 rw [zdT] at hm
 refine S.co tb ?_ hf hO hm
 refine jv 2 [7, 8, 9] [0, 1, 2, 3] (fun J E L => ∃ (t41 : Bool), J ((37, .bool t41) :: E) (L) (zcc r9 l36 t41)) rfl ?_ ?_
 refine ld 2 rfl rfl ?_
 refine cl zly rfl (fun r39 w hr39 hO => za8 (⟨s37, i38⟩ : scan_Scanner) r39 _ (hG.own hF hO) (hO.blkSees (i := 0) rfl) hr39) fun r39 hr39 => ?_
 refine br rfl (fun hc40 => ?_) fun hc40 => ?_
 exact en rfl fun _ _ j => ⟨true, j rfl⟩
 exact en rfl fun _ _ j => ⟨r9.2 == 2, j rfl⟩
 rintro a w ⟨t41, hf, hO, hm⟩
 rw [zcc] at hm
 refine S.co tb ?_ hf hO hm
 refine br rfl (fun hc42 => ?_) fun hc42 => ?_
 refine nl 283 3 ?_
 refine re_ rfl fun a w hf hO hm => ?_
 obtain rfl := Option.some.inj hm
 exact zb Tryz.results269 hf (.tmp rfl (.tmp rfl (.tmp rfl .nil))) ⟨none, 0, rfl, (hO.sub (.cons_cons _ (.cons _ (.cons _ (.cons _ (.cons _ .slnil))))))⟩
 refine br rfl (fun hc45 => ?_) fun hc45 => ?_
 refine nl 283 3 ?_
 refine re_ rfl fun a w hf hO hm => ?_
 obtain rfl := Option.some.inj hm
 exact zb Tryz.results269 hf (.tmp rfl (.tmp rfl (.tmp rfl .nil))) ⟨none, 0, rfl, (hO.sub (.cons_cons _ (.cons _ (.cons _ (.cons _ (.cons _ .slnil))))))⟩
 refine re_ rfl fun a w hf hO hm => ?_
 obtain rfl := Option.some.inj hm
 exact zb Tryz.results269 hf (.tmp rfl (.tmp rfl (.tmp rfl .nil))) ⟨p34, c35, rfl, (hO.sub (.cons _ (.cons_cons _ (.cons _ (.cons _ .slnil)))))⟩

end Go.Proofs
end
section
set_option linter.unusedVariables false
set_option maxHeartbeats 1000000
set_option linter.unusedSimpArgs false
set_option maxRecDepth 100000
namespace Go.Proofs
open Go.Dk Go.Dm Go.RowKit

theorem zgA (x_d : dechunk_Decoder) (x_s : Str) (R : Int × dechunk_Decoder) (w0 : World) (hG : zt w0) {x_d_b0 : Nat} {x_d_p1 : Option Addr} {x_d_c1 : Nat} {x_d_p2 : Option Addr} {x_d_c2 : Nat} {F : List Nat} (hF : zo F) (hO : Dk.Own w0 F w0 [.blk x_d_b0 [int x_d.f_limit, int x_d.f_at, .slice x_d_p1 x_d.f_line.length x_d_c1, int x_d.f_left, int x_d.f_sum, int x_d.f_spent, .slice x_d_p2 x_d.f_trailers.length x_d_c2] 194, .row (.slice x_d_p1 x_d.f_line.length x_d_c1) 5 1 x_d.f_line.length (cells zc x_d.f_line), .row (.slice x_d_p2 x_d.f_trailers.length x_d_c2) 107 2 x_d.f_trailers.length (cells za x_d.f_trailers)]) (hm : zc2 x_d x_s = some R) :
    Calls Tryz.prog 242 #[ptr x_d_b0 0, str x_s] w0 fun e w' => ∃ (p0 : Option Addr) (c0 : Nat) (p1 : Option Addr) (c1 : Nat), e = .returned (int R.1) ∧ Dk.Own w0 F w' [.blk x_d_b0 [int R.2.f_limit, int R.2.f_at, .slice p0 R.2.f_line.length c0, int R.2.f_left, int R.2.f_sum, int R.2.f_spent, .slice p1 R.2.f_trailers.length c1] 194, .row (.slice p0 R.2.f_line.length c0) 5 1 R.2.f_line.length (cells zc R.2.f_line), .row (.slice p1 R.2.f_trailers.length c1) 107 2 R.2.f_trailers.length (cells za R.2.f_trailers)] := by
 rw [zc2] at hm
 refine S.enter tb Tryz.func242 rfl Tryz.ntmps242 rfl ?_ hO hm
 refine rw_ rfl fun a w hf hO hm => ?_
 obtain ⟨r2, hr2, hm⟩ := ob hm
 refine zg (zi c_269 hf (vs := [str x_s]) rfl) rfl hf rfl rfl (ziv x_s r2 _ (hG.own hF hO) hr2) ?_
 rintro e w' ⟨p3, c4, he, hO'⟩
 refine ⟨_, he, fun a hf => ?_⟩
 have hO := hO.call hO' (by simp [Res.shared])
 refine S.op tb ?_ hf hO hm
 refine br rfl (fun hc7 => ?_) fun hc7 => ?_
 refine re_ rfl fun a w hf hO hm => ?_
 obtain rfl := Option.some.inj hm
 exact zb Tryz.results242 hf (.tmp rfl .nil) ⟨x_d_p1, x_d_c1, x_d_p2, x_d_c2, rfl, (hO.sub (.cons _ (.cons_cons _ (.cons_cons _ (.cons_cons _ .slnil)))))⟩
 refine ld 1 rfl rfl ?_
 refine bi rfl fun i9 hi9 => ?_
 refine br rfl (fun hc11 => ?_) fun hc11 => ?_
 refine re_ rfl fun a w hf hO hm => ?_
 obtain rfl := Option.some.inj hm
 exact zb Tryz.results242 hf (.tmp rfl .nil) ⟨x_d_p1, x_d_c1, x_d_p2, x_d_c2, rfl, (hO.sub (.cons _ (.cons_cons _ (.cons_cons _ (.cons_cons _ .slnil)))))⟩
 refine br rfl (fun hc14 => ?_) fun hc14 => ?_
 refine st 1 rfl rfl ?_
 refine re_ rfl fun a w hf hO hm => ?_
 obtain rfl := Option.some.inj hm
 exact zb Tryz.results242 hf (.tmp rfl .nil) ⟨x_d_p1, x_d_c1, x_d_p2, x_d_c2, rfl, (hO.sub (.cons _ (.cons_cons _ (.cons_cons _ (.cons_cons _ .slnil)))))⟩
 refine st 1 rfl rfl ?_
 refine st 1 rfl rfl ?_
 refine ld 1 rfl rfl ?_
 refine bi rfl fun i19 hi19 => ?_
 refine st 1 rfl rfl ?_
 refine re_ rfl fun a w hf hO hm => ?_
 obtain rfl := Option.some.inj hm
 exact zb Tryz.results242 hf (.tmp rfl .nil) ⟨x_d_p1, x_d_c1, x_d_p2, x_d_c2, rfl, (hO.sub (.cons _ (.cons_cons _ (.cons_cons _ (.cons_cons _ .slnil)))))⟩

theorem zfN (x_d : dechunk_Decoder) (x_s : Str) (R : Bool × Int × dechunk_Decoder) (w0 : World) (hG : zt w0) {x_d_b0 : Nat} {x_d_p1 : Option Addr} {x_d_c1 : Nat} {x_d_p2 : Option Addr} {x_d_c2 : Nat} {F : List Nat} (hF : zo F) (hO : Dk.Own w0 F w0 [.blk x_d_b0 [int x_d.f_limit, int x_d.f_at, .slice x_d_p1 x_d.f_line.length x_d_c1, int x_d.f_left, int x_d.f_sum, int x_d.f_spent, .slice x_d_p2 x_d.f_trailers.length x_d_c2] 194, .row (.slice x_d_p1 x_d.f_line.length x_d_c1) 5 1 x_d.f_line.length (cells zc x_d.f_line), .row (.slice x_d_p2 x_d.f_trailers.length x_d_c2) 107 2 x_d.f_trailers.length (cells za x_d.f_trailers)]) (hm : zbV x_d x_s = some R) :
    Calls Tryz.prog 243 #[ptr x_d_b0 0, str x_s] w0 fun e w' => ∃ (p0 : Option Addr) (c0 : Nat) (p1 : Option Addr) (c1 : Nat), e = .returned (.tuple #[.bool R.1, int R.2.1]) ∧ Dk.Own w0 F w' [.blk x_d_b0 [int R.2.2.f_limit, int R.2.2.f_at, .slice p0 R.2.2.f_line.length c0, int R.2.2.f_left, int R.2.2.f_sum, int R.2.2.f_spent, .slice p1 R.2.2.f_trailers.length c1] 194, .row (.slice p0 R.2.2.f_line.length c0) 5 1 R.2.2.f_line.length (cells zc R.2.2.f_line), .row (.slice p1 R.2.2.f_trailers.length c1) 107 2 R.2.2.f_trailers.length (cells za R.2.2.f_trailers)] := by
 rw [zbV] at hm
 refine S.enter tb Tryz.func243 rfl Tryz.ntmps243 rfl ?_ hO hm
 refine br rfl (fun hc3 => ?_) fun hc3 => ?_
 refine re_ rfl fun a w hf hO hm => ?_
 obtain rfl := Option.some.inj hm
 exact zb Tryz.results243 hf (.tmp rfl (.tmp rfl .nil)) ⟨x_d_p1, x_d_c1, x_d_p2, x_d_c2, rfl, hO⟩
 refine cl znO rfl (fun r6 w hr6 hO => zd5 x_s r6 _ (hG.own hF hO) hr6) fun r6 hr6 => ?_
 refine al zid rfl fun b7 => ?_
 refine st 0 rfl rfl ?_
 refine br rfl (fun hc10 => ?_) fun hc10 => ?_
 refine re_ rfl fun a w hf hO hm => ?_
 obtain rfl := Option.some.inj hm
 exact zb Tryz.results243 hf (.tmp rfl (.tmp rfl .nil)) ⟨x_d_p1, x_d_c1, x_d_p2, x_d_c2, rfl, (hO.sub (.cons _ (.cons_cons _ (.cons_cons _ (.cons_cons _ .slnil)))))⟩
 refine ld 1 rfl rfl ?_
 refine br rfl (fun hc13 => ?_) fun hc13 => ?_
 refine re_ rfl fun a w hf hO hm => ?_
 obtain rfl := Option.some.inj hm
 exact zb Tryz.results243 hf (.tmp rfl (.tmp rfl .nil)) ⟨x_d_p1, x_d_c1, x_d_p2, x_d_c2, rfl, (hO.sub (.cons _ (.cons_cons _ (.cons_cons _ (.cons_cons _ .slnil)))))⟩
 refine rc_ rfl fun a w hf hO hm => ?_
 obtain ⟨hg19, hm⟩ := og hm
 refine zcp (S := Nat × Option Addr × Nat) (E0 := [(0, ptr x_d_b0 0), (6, ptr b7 0)]) (by kernel_rfl) (fun k σ w => match k with | 0 => Dk.Own w0 F w [.blk b7 [str r6.1.Name, str r6.1.Value] 107, .blk x_d_b0 [int x_d.f_limit, int x_d.f_at, .slice x_d_p1 x_d.f_line.length x_d_c1, int x_d.f_left, int x_d.f_sum, int x_d.f_spent, .slice x_d_p2 x_d.f_trailers.length x_d_c2] 194, .row (.slice x_d_p1 x_d.f_line.length x_d_c1) 5 1 x_d.f_line.length (cells zc x_d.f_line), .row (.slice x_d_p2 x_d.f_trailers.length x_d_c2) 107 2 x_d.f_trailers.length (cells za x_d.f_trailers)] | 1 => Dk.Own w0 F w [.row (.slice (some ⟨(σ.1), 0, none⟩) ([r6.1].length) 1) 107 2 ([r6.1].length) (cells za [r6.1]), .blk b7 [str r6.1.Name, str r6.1.Value] 107, .blk x_d_b0 [int x_d.f_limit, int x_d.f_at, .slice x_d_p1 x_d.f_line.length x_d_c1, int x_d.f_left, int x_d.f_sum, int x_d.f_spent, .slice x_d_p2 x_d.f_trailers.length x_d_c2] 194, .row (.slice x_d_p1 x_d.f_line.length x_d_c1) 5 1 x_d.f_line.length (cells zc x_d.f_line), .row (.slice x_d_p2 x_d.f_trailers.length x_d_c2) 107 2 x_d.f_trailers.length (cells za x_d.f_trailers)] | 2 => Dk.Own w0 F w [.row (.slice (some ⟨(σ.1), 0, none⟩) ([r6.1].length) 1) 107 2 ([r6.1].length) (cells za [r6.1]), .blk b7 [str r6.1.Name, str r6.1.Value] 107, .blk x_d_b0 [int x_d.f_limit, int x_d.f_at, .slice x_d_p1 x_d.f_line.length x_d_c1, int x_d.f_left, int x_d.f_sum, int x_d.f_spent, .slice x_d_p2 x_d.f_trailers.length x_d_c2] 194, .row (.slice x_d_p1 x_d.f_line.length x_d_c1) 5 1 x_d.f_line.length (cells zc x_d.f_line), .row (.slice (σ.2.1) ((x_d.f_trailers ++ [r6.1]).length) (σ.2.2)) 107 2 ((x_d.f_trailers ++ [r6.1]).length) (cells za (x_d.f_trailers ++ [r6.1]))] | _ => Dk.Own w0 F w [.row (.slice (some ⟨(σ.1), 0, none⟩) ([r6.1].length) 1) 107 2 ([r6.1].length) (cells za [r6.1]), .blk b7 [str r6.1.Name, str r6.1.Value] 107, .blk x_d_b0 [int x_d.f_limit, int x_d.f_at, .slice x_d_p1 x_d.f_line.length x_d_c1, int x_d.f_left, int x_d.f_sum, int x_d.f_spent, .slice (σ.2.1) ((x_d.f_trailers ++ [r6.1]).length) (σ.2.2)] 194, .row (.slice x_d_p1 x_d.f_line.length x_d_c1) 5 1 x_d.f_line.length (cells zc x_d.f_line), .row (.slice (σ.2.1) ((x_d.f_trailers ++ [r6.1]).length) (σ.2.2)) 107 2 ((x_d.f_trailers ++ [r6.1]).length) (cells za (x_d.f_trailers ++ [r6.1]))]) (fun σ => [⟨[(0, ptr x_d_b0 0)], some (26, ptr x_d_b0 0)⟩, ⟨[(0, ptr x_d_b0 0)], some (27, ptr x_d_b0 0)⟩, ⟨[(27, ptr x_d_b0 0)], some (28, ptr x_d_b0 0)⟩, ⟨[(28, ptr x_d_b0 0)], some (29, ptr x_d_b0 6)⟩, ⟨[(29, ptr x_d_b0 6)], some (30, .slice x_d_p2 x_d.f_trailers.length x_d_c2)⟩, ⟨[(6, ptr b7 0)], some (31, .agg #[str r6.1.Name, str r6.1.Value])⟩, ⟨[(31, .agg #[str r6.1.Name, str r6.1.Value])], some (32, .slice (some ⟨(σ.1), 0, none⟩) ([r6.1].length) 1)⟩, ⟨[(30, .slice x_d_p2 x_d.f_trailers.length x_d_c2), (32, .slice (some ⟨(σ.1), 0, none⟩) ([r6.1].length) 1)], some (33, .slice (σ.2.1) ((x_d.f_trailers ++ [r6.1]).length) (σ.2.2))⟩, ⟨[(26, ptr x_d_b0 0)], some (34, ptr x_d_b0 0)⟩, ⟨[(34, ptr x_d_b0 0)], some (35, ptr x_d_b0 6)⟩, ⟨[(33, .slice (σ.2.1) ((x_d.f_trailers ++ [r6.1]).length) (σ.2.2)), (35, ptr x_d_b0 6)], none⟩]) (0, none, 0) [6, 7, 10] rfl (fun _ => rfl) (fun _ => rfl) (fun _ => rfl) rfl rfl (by decide) rfl hO.drew (hf.cons rfl (hf.cons rfl hf.nil)) (fun σ => ⟨⟨rfl, trivial⟩, ⟨rfl, trivial⟩, ⟨rfl, trivial⟩, ⟨rfl, trivial⟩, ⟨rfl, trivial⟩, ⟨rfl, trivial⟩, ⟨rfl, trivial⟩, ⟨rfl, rfl, trivial⟩, ⟨rfl, trivial⟩, ⟨rfl, trivial⟩, ⟨rfl, rfl, trivial⟩, trivial⟩) ⟨zj rfl (fun σ => rfl) (fun σ => rfl) (fun σ a w k _ _ _ _ hf => zn hf rfl), zj rfl (fun σ => rfl) (fun σ => rfl) (fun σ a w k _ _ _ _ hf => zn hf rfl), zj rfl (fun σ => rfl) (fun σ => rfl) (fun σ a w k _ _ _ _ hf => zp hf rfl), zj rfl (fun σ => rfl) (fun σ => rfl) (fun σ a w k _ _ _ _ hf => zr zjW hf rfl), zj rfl (fun σ => rfl) (fun σ => rfl) (fun σ a w k hk hlo hup hst hf => match k, hk, hlo, hup, hst, hf with | 0, _, _, _, hst, hf => have hO : Dk.Own w0 F w [.blk b7 [str r6.1.Name, str r6.1.Value] 107, .blk x_d_b0 [int x_d.f_limit, int x_d.f_at, .slice x_d_p1 x_d.f_line.length x_d_c1, int x_d.f_left, int x_d.f_sum, int x_d.f_spent, .slice x_d_p2 x_d.f_trailers.length x_d_c2] 194, .row (.slice x_d_p1 x_d.f_line.length x_d_c1) 5 1 x_d.f_line.length (cells zc x_d.f_line), .row (.slice x_d_p2 x_d.f_trailers.length x_d_c2) 107 2 x_d.f_trailers.length (cells za x_d.f_trailers)] := hst; zk (o := 6) zkC (hO.blkSees (i := 1) rfl) rfl hf rfl | 1, _, _, _, hst, hf => have hO : Dk.Own w0 F w [.row (.slice (some ⟨(σ.1), 0, none⟩) ([r6.1].length) 1) 107 2 ([r6.1].length) (cells za [r6.1]), .blk b7 [str r6.1.Name, str r6.1.Value] 107, .blk x_d_b0 [int x_d.f_limit, int x_d.f_at, .slice x_d_p1 x_d.f_line.length x_d_c1, int x_d.f_left, int x_d.f_sum, int x_d.f_spent, .slice x_d_p2 x_d.f_trailers.length x_d_c2] 194, .row (.slice x_d_p1 x_d.f_line.length x_d_c1) 5 1 x_d.f_line.length (cells zc x_d.f_line), .row (.slice x_d_p2 x_d.f_trailers.length x_d_c2) 107 2 x_d.f_trailers.length (cells za x_d.f_trailers)] := hst; zk (o := 6) zkC (hO.blkSees (i := 2) rfl) rfl hf rfl | 2, _, _, _, hst, hf => have hO : Dk.Own w0 F w [.row (.slice (some ⟨(σ.1), 0, none⟩) ([r6.1].length) 1) 107 2 ([r6.1].length) (cells za [r6.1]), .blk b7 [str r6.1.Name, str r6.1.Value] 107, .blk x_d_b0 [int x_d.f_limit, int x_d.f_at, .slice x_d_p1 x_d.f_line.length x_d_c1, int x_d.f_left, int x_d.f_sum, int x_d.f_spent, .slice x_d_p2 x_d.f_trailers.length x_d_c2] 194, .row (.slice x_d_p1 x_d.f_line.length x_d_c1) 5 1 x_d.f_line.length (cells zc x_d.f_line), .row (.slice (σ.2.1) ((x_d.f_trailers ++ [r6.1]).length) (σ.2.2)) 107 2 ((x_d.f_trailers ++ [r6.1]).length) (cells za (x_d.f_trailers ++ [r6.1]))] := hst; zk (o := 6) zkC (hO.blkSees (i := 2) rfl) rfl hf rfl | 3, _, _, hup, _, _ => absurd (hup 1 (by decide) (by kernel_rfl)) (by decide) | k + 4, hk, _, _, _, _ => absurd hk (by simp)), zj rfl (fun σ => rfl) (fun σ => rfl) (fun σ a w k hk hlo hup hst hf => match k, hk, hlo, hup, hst, hf with | 0, _, _, _, hst, hf => have hO : Dk.Own w0 F w [.blk b7 [str r6.1.Name, str r6.1.Value] 107, .blk x_d_b0 [int x_d.f_limit, int x_d.f_at, .slice x_d_p1 x_d.f_line.length x_d_c1, int x_d.f_left, int x_d.f_sum, int x_d.f_spent, .slice x_d_p2 x_d.f_trailers.length x_d_c2] 194, .row (.slice x_d_p1 x_d.f_line.length x_d_c1) 5 1 x_d.f_line.length (cells zc x_d.f_line), .row (.slice x_d_p2 x_d.f_trailers.length x_d_c2) 107 2 x_d.f_trailers.length (cells za x_d.f_trailers)] := hst; zaO (o := 0) (vs := [str r6.1.Name, str r6.1.Value]) zcK za7 (hO.blkSees (i := 0) rfl) rfl rfl hf rfl | 1, _, _, _, hst, hf => have hO : Dk.Own w0 F w [.row (.slice (some ⟨(σ.1), 0, none⟩) ([r6.1].length) 1) 107 2 ([r6.1].length) (cells za [r6.1]), .blk b7 [str r6.1.Name, str r6.1.Value] 107, .blk x_d_b0 [int x_d.f_limit, int x_d.f_at, .slice x_d_p1 x_d.f_line.length x_d_c1, int x_d.f_left, int x_d.f_sum, int x_d.f_spent, .slice x_d_p2 x_d.f_trailers.length x_d_c2] 194, .row (.slice x_d_p1 x_d.f_line.length x_d_c1) 5 1 x_d.f_line.length (cells zc x_d.f_line), .row (.slice x_d_p2 x_d.f_trailers.length x_d_c2) 107 2 x_d.f_trailers.length (cells za x_d.f_trailers)] := hst; zaO (o := 0) (vs := [str r6.1.Name, str r6.1.Value]) zcK za7 (hO.blkSees (i := 1) rfl) rfl rfl hf rfl | 2, _, _, _, hst, hf => have hO : Dk.Own w0 F w [.row (.slice (some ⟨(σ.1), 0, none⟩) ([r6.1].length) 1) 107 2 ([r6.1].length) (cells za [r6.1]), .blk b7 [str r6.1.Name, str r6.1.Value] 107, .blk x_d_b0 [int x_d.f_limit, int x_d.f_at, .slice x_d_p1 x_d.f_line.length x_d_c1, int x_d.f_left, int x_d.f_sum, int x_d.f_spent, .slice x_d_p2 x_d.f_trailers.length x_d_c2] 194, .row (.slice x_d_p1 x_d.f_line.length x_d_c1) 5 1 x_d.f_line.length (cells zc x_d.f_line), .row (.slice (σ.2.1) ((x_d.f_trailers ++ [r6.1]).length) (σ.2.2)) 107 2 ((x_d.f_trailers ++ [r6.1]).length) (cells za (x_d.f_trailers ++ [r6.1]))] := hst; zaO (o := 0) (vs := [str r6.1.Name, str r6.1.Value]) zcK za7 (hO.blkSees (i := 1) rfl) rfl rfl hf rfl | 3, _, _, _, hst, hf => have hO : Dk.Own w0 F w [.row (.slice (some ⟨(σ.1), 0, none⟩) ([r6.1].length) 1) 107 2 ([r6.1].length) (cells za [r6.1]), .blk b7 [str r6.1.Name, str r6.1.Value] 107, .blk x_d_b0 [int x_d.f_limit, int x_d.f_at, .slice x_d_p1 x_d.f_line.length x_d_c1, int x_d.f_left, int x_d.f_sum, int x_d.f_spent, .slice (σ.2.1) ((x_d.f_trailers ++ [r6.1]).length) (σ.2.2)] 194, .row (.slice x_d_p1 x_d.f_line.length x_d_c1) 5 1 x_d.f_line.length (cells zc x_d.f_line), .row (.slice (σ.2.1) ((x_d.f_trailers ++ [r6.1]).length) (σ.2.2)) 107 2 ((x_d.f_trailers ++ [r6.1]).length) (cells za (x_d.f_trailers ++ [r6.1]))] := hst; zaO (o := 0) (vs := [str r6.1.Name, str r6.1.Value]) zcK za7 (hO.blkSees (i := 1) rfl) rfl rfl hf rfl | k + 4, hk, _, _, _, _ => absurd hk (by simp)), zik rfl (fun σ => rfl) (fun σ => rfl) rfl (fun σ w (hO : Dk.Own w0 F w [.blk b7 [str r6.1.Name, str r6.1.Value] 107, .blk x_d_b0 [int x_d.f_limit, int x_d.f_at, .slice x_d_p1 x_d.f_line.length x_d_c1, int x_d.f_left, int x_d.f_sum, int x_d.f_spent, .slice x_d_p2 x_d.f_trailers.length x_d_c2] 194, .row (.slice x_d_p1 x_d.f_line.length x_d_c1) 5 1 x_d.f_line.length (cells zc x_d.f_line), .row (.slice x_d_p2 x_d.f_trailers.length x_d_c2) 107 2 x_d.f_trailers.length (cells za x_d.f_trailers)]) => by obtain ⟨b16, w', hO', hr⟩ := zdu (E := [(31, .agg #[str r6.1.Name, str r6.1.Value])]) (parts := #[(0, (.tmp 31))]) (t' := 29) (n := 1) (vs := [(0, .agg #[str r6.1.Name, str r6.1.Value])]) (cs := [str r6.1.Name, str r6.1.Value]) (e := 107) (sz := 2) (fun w => by kernel_rfl) rfl rfl hO rfl; exact ⟨(b16, (σ.2.1), (σ.2.2)), w', hO', ⟨.inr rfl, .inr rfl, .inr rfl, .inr rfl, .inr rfl, .inr rfl, .inl rfl, .inl rfl, .inr rfl, .inr rfl, .inr rfl, trivial⟩, hr⟩), zik rfl (fun σ => rfl) (fun σ => rfl) rfl (fun σ w (hO : Dk.Own w0 F w [.row (.slice (some ⟨(σ.1), 0, none⟩) ([r6.1].length) 1) 107 2 ([r6.1].length) (cells za [r6.1]), .blk b7 [str r6.1.Name, str r6.1.Value] 107, .blk x_d_b0 [int x_d.f_limit, int x_d.f_at, .slice x_d_p1 x_d.f_line.length x_d_c1, int x_d.f_left, int x_d.f_sum, int x_d.f_spent, .slice x_d_p2 x_d.f_trailers.length x_d_c2] 194, .row (.slice x_d_p1 x_d.f_line.length x_d_c1) 5 1 x_d.f_line.length (cells zc x_d.f_line), .row (.slice x_d_p2 x_d.f_trailers.length x_d_c2) 107 2 x_d.f_trailers.length (cells za x_d.f_trailers)]) => by obtain ⟨p17, c18, w', hO', hr⟩ := zkM (E := [(30, .slice x_d_p2 x_d.f_trailers.length x_d_c2), (32, .slice (some ⟨(σ.1), 0, none⟩) ([r6.1].length) 1)]) (x := (.tmp 30)) (y := (.tmp 32)) zlk (enc := za) (xs := x_d.f_trailers) (ys := [r6.1]) (i := 4) (fun _ => rfl) rfl (hO.rowSees (i := 0) rfl) (by simp [cells, za, Value.oneCell']) hg19 hO rfl rfl; exact ⟨((σ.1), p17, c18), w', hO', ⟨.inr rfl, .inr rfl, .inr rfl, .inr rfl, .inr rfl, .inr rfl, .inr rfl, .inl rfl, .inr rfl, .inr rfl, .inl rfl, trivial⟩, hr⟩), zj rfl (fun σ => rfl) (fun σ => rfl) (fun σ a w k _ _ _ _ hf => zp hf rfl), zj rfl (fun σ => rfl) (fun σ => rfl) (fun σ a w k _ _ _ _ hf => zr zjW hf rfl), zgI rfl (fun σ => rfl) (fun σ => rfl) rfl (fun σ w (hO : Dk.Own w0 F w [.row (.slice (some ⟨(σ.1), 0, none⟩) ([r6.1].length) 1) 107 2 ([r6.1].length) (cells za [r6.1]), .blk b7 [str r6.1.Name, str r6.1.Value] 107, .blk x_d_b0 [int x_d.f_limit, int x_d.f_at, .slice x_d_p1 x_d.f_line.length x_d_c1, int x_d.f_left, int x_d.f_sum, int x_d.f_spent, .slice x_d_p2 x_d.f_trailers.length x_d_c2] 194, .row (.slice x_d_p1 x_d.f_line.length x_d_c1) 5 1 x_d.f_line.length (cells zc x_d.f_line), .row (.slice (σ.2.1) ((x_d.f_trailers ++ [r6.1]).length) (σ.2.2)) 107 2 ((x_d.f_trailers ++ [r6.1]).length) (cells za (x_d.f_trailers ++ [r6.1]))]) => by obtain ⟨w', hO', hr⟩ := zhP (x := (.tmp 35)) (y := (.tmp 33)) (E := [(33, .slice (σ.2.1) ((x_d.f_trailers ++ [r6.1]).length) (σ.2.2)), (35, ptr x_d_b0 6)]) (i := 2) (o := 6) (v := .slice (σ.2.1) ((x_d.f_trailers ++ [r6.1]).length) (σ.2.2)) sz_29 rfl rfl rfl rfl hO rfl rfl; exact ⟨((σ.1), (σ.2.1), (σ.2.2)), w', hO', ⟨.inr rfl, .inr rfl, .inr rfl, .inr rfl, .inr rfl, .inr rfl, .inr rfl, .inr rfl, .inr rfl, .inr rfl, .inr rfl, trivial⟩, hr⟩), trivial⟩ ?_
 rintro ⟨b16, p17, c18⟩ a w hf hO
 have hO : Dk.Own w0 F w [.row (.slice (some ⟨b16, 0, none⟩) ([r6.1].length) 1) 107 2 ([r6.1].length) (cells za [r6.1]), .blk b7 [str r6.1.Name, str r6.1.Value] 107, .blk x_d_b0 [int x_d.f_limit, int x_d.f_at, .slice x_d_p1 x_d.f_line.length x_d_c1, int x_d.f_left, int x_d.f_sum, int x_d.f_spent, .slice p17 ((x_d.f_trailers ++ [r6.1]).length) c18] 194, .row (.slice x_d_p1 x_d.f_line.length x_d_c1) 5 1 x_d.f_line.length (cells zc x_d.f_line), .row (.slice p17 ((x_d.f_trailers ++ [r6.1]).length) c18) 107 2 ((x_d.f_trailers ++ [r6.1]).length) (cells za (x_d.f_trailers ++ [r6.1]))] := hO
 have hf : Fits 36 [] a := hf.nil
 refine S.no tb ?_ hf hO hm
 refine re_ rfl fun a w hf hO hm => ?_
 obtain rfl := Option.some.inj hm
 exact zb Tryz.results243 hf (.tmp rfl (.tmp rfl .nil)) ⟨x_d_p1, x_d_c1, p17, c18, rfl, (hO.sub (.cons _ (.cons _ (.cons_cons _ (.cons_cons _ (.cons_cons _ .slnil))))))⟩

theorem zgl (x_a0 : dechunk_Decoder) (x_a1 : UInt8) (R : Bool × Int × dechunk_Decoder) (w0 : World) (hG : zt w0) {x_a0_b0 : Nat} {x_a0_p1 : Option Addr} {x_a0_c1 : Nat} {x_a0_p2 : Option Addr} {x_a0_c2 : Nat} {F : List Nat} (hF : zo F) (hO : Dk.Own w0 F w0 [.blk x_a0_b0 [int x_a0.f_limit, int x_a0.f_at, .slice x_a0_p1 x_a0.f_line.length x_a0_c1, int x_a0.f_left, int x_a0.f_sum, int x_a0.f_spent, .slice x_a0_p2 x_a0.f_trailers.length x_a0_c2] 194, .row (.slice x_a0_p1 x_a0.f_line.length x_a0_c1) 5 1 x_a0.f_line.length (cells zc x_a0.f_line), .row (.slice x_a0_p2 x_a0.f_trailers.length x_a0_c2) 107 2 x_a0.f_trailers.length (cells za x_a0.f_trailers)]) (hm : zcy x_a0 x_a1 = some R) :
    Calls Tryz.prog 209 #[ptr x_a0_b0 0, zB x_a1] w0 fun e w' => ∃ (p0 : Option Addr) (c0 : Nat) (p1 : Option Addr) (c1 : Nat), e = .returned (.tuple #[.bool R.1, int R.2.1]) ∧ Dk.Own w0 F w' [.blk x_a0_b0 [int R.2.2.f_limit, int R.2.2.f_at, .slice p0 R.2.2.f_line.length c0, int R.2.2.f_left, int R.2.2.f_sum, int R.2.2.f_spent, .slice p1 R.2.2.f_trailers.length c1] 194, .row (.slice p0 R.2.2.f_line.length c0) 5 1 R.2.2.f_line.length (cells zc R.2.2.f_line), .row (.slice p1 R.2.2.f_trailers.length c1) 107 2 R.2.2.f_trailers.length (cells za R.2.2.f_trailers)] := by
 rw [zcy] at hm
 refine S.enter tb Tryz.func209 rfl Tryz.ntmps209 rfl ?_ hO hm
 refine jv 0 [0, 1] [1, 2] (fun J E L => ∃ (i5 : Int), J (E) (.blk x_a0_b0 [int x_a0.f_limit, int x_a0.f_at, .slice x_a0_p1 x_a0.f_line.length x_a0_c1, int x_a0.f_left, int x_a0.f_sum, int i5, .slice x_a0_p2 x_a0.f_trailers.length x_a0_c2] 194 :: L) (zaB x_a0 x_a1 i5)) rfl ?_ ?_
 refine ld 0 rfl rfl ?_
 refine br rfl (fun hc3 => ?_) fun hc3 => ?_
 refine ld 0 rfl rfl ?_
 refine bi rfl fun i4 hi4 => ?_
 refine st 0 rfl rfl ?_
 exact en rfl fun _ _ j => ⟨i4, j rfl⟩
 exact en rfl fun _ _ j => ⟨x_a0.f_spent, j rfl⟩
 rintro a w ⟨i5, hf, hO, hm⟩
 rw [zaB] at hm
 refine S.co tb ?_ hf hO hm
 refine ld 0 rfl rfl ?_
 refine jv 0 [0, 1, 6] [0, 1, 2] (fun J E L => ∃ (t12 : Bool), J ((7, .bool t12) :: E) (L) (zaA x_a0 x_a1 i5 t12)) rfl ?_ ?_
 refine br rfl (fun hc7 => ?_) fun hc7 => ?_
 refine ld 0 rfl rfl ?_
 refine bi rfl fun i8 hi8 => ?_
 refine rw_ rfl fun a w hf hO hm => ?_
 obtain ⟨x9, hx9, hm⟩ := ob hm
 obtain ⟨b10, o11, hix9, hSx9, hAx9⟩ := zdY (enc := zc) (sz := 1) (xs := x_a0.f_line) 141 Tryz.underlying141 sz_5 (by decide) (fun _ => rfl) hO (i := 1) rfl hx9
 refine zaS (zy hix9 hf rfl rfl) rfl hf rfl rfl fun a hf => ?_
 refine S.op tb ?_ hf hO hm
 refine kn (b' := true) hc7 rfl ?_
 refine vl rfl rfl (fun a w hf hO => zk (o := 0) ag_5 (hSx9 _ (hO.rowSees (i := 1) rfl)) rfl hf rfl) ?_
 refine vl rfl rfl (fun a w hf hO => zaQ (b := x9) (c := 13) hf rfl rfl) ?_
 exact en rfl fun _ _ j => ⟨x9 == 13, j rfl⟩
 exact en rfl fun _ _ j => ⟨false, j rfl⟩
 rintro a w ⟨t12, hf, hO, hm⟩
 rw [zaA] at hm
 refine S.co tb ?_ hf hO hm
 refine jv 2 [0, 1, 6, 7] [0, 1, 2] (fun J E L => ∃ (t14 : Bool), J ((39, .bool t14) :: E) (L) (zaz x_a0 x_a1 i5 t12 t14)) rfl ?_ ?_
 refine rc_ rfl fun a w hf hO hm => ?_
 refine zbM (by kernel_rfl) (by kernel_rfl) hO ?_
 refine zm (fun w hO => zn hf rfl) rfl hf rfl rfl fun a hf => ?_
 refine zm (fun w hO => zk6 (m := (x_a0.f_line.length : Int)) (n := 4098) hf rfl rfl) rfl hf rfl rfl fun a hf => ?_
 refine zm (fun w hO => zn hf rfl) rfl hf rfl rfl fun a hf => ?_
 rcases zmH (decide (4098 ≤ (x_a0.f_line.length : Int))) with hc13 | hc13
 have hm := it hc13 hm
 refine zgF rfl hf rfl rfl (hc13) rfl rfl fun a hf => ?_
 refine zgF rfl hf rfl rfl (hc13) rfl rfl fun a hf => ?_
 refine zgF rfl hf rfl rfl (hc13) rfl rfl fun a hf => ?_
 refine zgF rfl hf rfl rfl (hc13) rfl rfl fun a hf => ?_
 refine zgF rfl hf rfl rfl (hc13) rfl rfl fun a hf => ?_
 refine zgF rfl hf rfl rfl (hc13) rfl rfl fun a hf => ?_
 refine zgF rfl hf rfl rfl (hc13) rfl rfl fun a hf => ?_
 refine zgF rfl hf rfl rfl (hc13) rfl rfl fun a hf => ?_
 refine zgF rfl hf rfl rfl (hc13) rfl rfl fun a hf => ?_
 refine zm (fun w hO => zkI hf rfl hc13 rfl) rfl hf rfl rfl fun a hf => ?_
 refine zm (fun w hO => zv hf rfl) rfl hf rfl rfl fun a hf => ?_
 refine wpQuiet_nil ?_
 intro w hO
 refine S.no tb ?_ hf hO hm
 exact en rfl fun _ _ j => ⟨true, j rfl⟩
 have hm := ie hc13 hm
 refine zfs rfl hf rfl rfl (hc13) ?_
 refine zm (fun w hO => zn hf rfl) rfl hf rfl rfl fun a hf => ?_
 refine zfs rfl hf rfl rfl (hc13) ?_
 refine zm (fun w hO => zp hf rfl) rfl hf rfl rfl fun a hf => ?_
 refine zfs rfl hf rfl rfl (hc13) ?_
 refine zm (fun w hO => zr zlu hf rfl) rfl hf rfl rfl fun a hf => ?_
 refine zfs rfl hf rfl rfl (hc13) ?_
 refine zm (fun w hO => zk (o := 5) ze6 (hO.blkSees (i := 0) rfl) rfl hf rfl) rfl hf rfl rfl fun a hf => ?_
 refine zfs rfl hf rfl rfl (hc13) ?_
 refine zm (fun w hO => zn hf rfl) rfl hf rfl rfl fun a hf => ?_
 refine zfs rfl hf rfl rfl (hc13) ?_
 refine zm (fun w hO => zp hf rfl) rfl hf rfl rfl fun a hf => ?_
 refine zfs rfl hf rfl rfl (hc13) ?_
 refine zm (fun w hO => zr zlt hf rfl) rfl hf rfl rfl fun a hf => ?_
 refine zfs rfl hf rfl rfl (hc13) ?_
 refine zm (fun w hO => zk (o := 0) ze6 (hO.blkSees (i := 0) rfl) rfl hf rfl) rfl hf rfl rfl fun a hf => ?_
 refine zfs rfl hf rfl rfl (hc13) ?_
 refine zm (fun w hO => zn2 (m := i5) (n := x_a0.f_limit) hf rfl rfl) rfl hf rfl rfl fun a hf => ?_
 refine zm (fun w hO => zkJ hf rfl hc13 rfl) rfl hf rfl rfl fun a hf => ?_
 refine zm (fun w hO => zv hf rfl) rfl hf rfl rfl fun a hf => ?_
 refine wpQuiet_nil ?_
 intro w hO
 refine S.no tb ?_ hf hO hm
 exact en rfl fun _ _ j => ⟨decide (x_a0.f_limit < i5), j rfl⟩
 rintro a w ⟨t14, hf, hO, hm⟩
 rw [zaz] at hm
 refine S.co tb ?_ hf hO hm
 refine br rfl (fun hc15 => ?_) fun hc15 => ?_
 refine re_ rfl fun a w hf hO hm => ?_
 obtain rfl := Option.some.inj hm
 exact zb Tryz.results209 hf (.tmp rfl (.tmp rfl .nil)) ⟨x_a0_p1, x_a0_c1, x_a0_p2, x_a0_c2, rfl, hO⟩
 refine vl rfl rfl (fun a w hf hO => zaQ (b := x_a1) (c := 10) hf rfl rfl) ?_
 refine vl rfl rfl (fun a w hf hO => zkb Tryz.underlying4 hf rfl rfl) ?_
 refine br rfl (fun hc18 => ?_) fun hc18 => ?_
 refine re_ rfl fun a w hf hO hm => ?_
 obtain rfl := Option.some.inj hm
 exact zb Tryz.results209 hf (.tmp rfl (.tmp rfl .nil)) ⟨x_a0_p1, x_a0_c1, x_a0_p2, x_a0_c2, rfl, hO⟩
 refine vl rfl rfl (fun a w hf hO => zhp (b := x_a1) (c := 10) hf rfl rfl) ?_
 refine br rfl (fun hc21 => ?_) fun hc21 => ?_
 refine ld 0 rfl rfl ?_
 refine rw_ rfl fun a w hf hO hm => ?_
 refine zu (vs := [(0, zB x_a1)]) (cs := [zB x_a1]) (e := 5) (sz := 1) hf rfl rfl (fun w => by kernel_rfl) rfl rfl hO fun a b22 w hf hO => ?_
 refine S.op tb ?_ hf hO hm
 refine rw_ rfl fun a w hf hO hm => ?_
 obtain ⟨hg25, hm⟩ := og hm
 refine zbz zl4 (enc := zc) (xs := x_a0.f_line) (ys := [x_a1]) (i := 2) (fun _ => rfl) rfl (hO.rowSees (i := 0) rfl) (by simp [cells, zc, Value.oneCell']) hg25 hf rfl rfl rfl hO fun a p23 c24 w hf hO => ?_
 refine S.op tb ?_ hf hO hm
 refine st 1 rfl rfl ?_
 refine re_ rfl fun a w hf hO hm => ?_
 obtain rfl := Option.some.inj hm
 exact zb Tryz.results209 hf (.tmp rfl (.tmp rfl .nil)) ⟨p23, c24, x_a0_p2, x_a0_c2, rfl, (hO.sub (.cons _ (.cons_cons _ (.cons_cons _ (.cons_cons _ .slnil)))))⟩
 refine ld 0 rfl rfl ?_
 refine bi rfl fun i29 hi29 => ?_
 refine rw_ rfl fun a w hf hO hm => ?_
 obtain ⟨l31, hl31, hm⟩ := ob hm
 have hcr30 := hO.rowCap (i := 1) rfl
 have hO := hO.giveRow (i := 1) rfl
 obtain ⟨p32, c33, hrl31, hVl31, hCl31, hPl31⟩ := zoC (enc := zc) (xs := x_a0.f_line) 141 Tryz.underlying141 sz_5 (fun _ => rfl) (hO.sees (i := 1) rfl) hcr30 hl31
 have hO := hO.share (i := 1) rfl hPl31 (hVl31 _ (hO.sees (i := 1) rfl))
 refine zaS (zl9 Tryz.underlying141 hrl31 hf rfl rfl) rfl hf rfl rfl fun a hf => ?_
 refine S.op tb ?_ hf hO hm
 refine vl rfl rfl (fun a w hf hO => zcP (en := zc) (l := l31) (fun _ => rfl) Tryz.underlying9 Tryz.underlying141 Tryz.underlying5 (hO.sees (i := 0) rfl) hf rfl) ?_
 refine st 1 rfl rfl ?_
 refine nl 5 1 ?_
 refine ld 2 rfl rfl ?_
 refine br rfl (fun hc37 => ?_) fun hc37 => ?_
 refine rw_ rfl fun a w hf hO hm => ?_
 obtain ⟨r38, hr38, hm⟩ := ob hm
 have hch43 := (show Dk.Own w0 F _ ([.blk x_a0_b0 [int x_a0.f_limit, int x_a0.f_at, .slice none 0 0, int x_a0.f_left, int x_a0.f_sum, int i5, .slice x_a0_p2 x_a0.f_trailers.length x_a0_c2] 194, .row (.slice none 0 0) 5 1 0 (cells zc []), .row (.slice x_a0_p2 x_a0.f_trailers.length x_a0_c2) 107 2 x_a0.f_trailers.length (cells za x_a0.f_trailers)] ++ [.shr p32 (cells zc l31), .shr x_a0_p1 (cells zc x_a0.f_line)]) from hO.choose [2, 0, 4, 1, 3] rfl)
 have hfar43 := Dk.Own.far hch43 rfl hF hG.size
 have hlend43 := hch43.lend (S := []) rfl trivial
 have hcl43 := zgA (⟨x_a0.f_limit, x_a0.f_at, [], x_a0.f_left, x_a0.f_sum, i5, x_a0.f_trailers⟩ : dechunk_Decoder) l31 r38 _ (hG.own hF hO) hfar43 hlend43 hr38
 refine zg (zi c_242 hf (vs := [ptr x_a0_b0 0, str l31]) rfl) rfl hf rfl rfl (hcl43) ?_
 rintro e w' ⟨p39, c40, p41, c42, he, hO'⟩
 refine ⟨_, he, fun a hf => ?_⟩
 have hO := hch43.back rfl hO' rfl
 refine S.op tb ?_ hf hO hm
 refine re_ rfl fun a w hf hO hm => ?_
 obtain rfl := Option.some.inj hm
 exact zb Tryz.results209 hf (.tmp rfl (.tmp rfl .nil)) ⟨p39, c40, p41, c42, rfl, (hO.sub (.cons_cons _ (.cons_cons _ (.cons_cons _ (.cons _ (.cons _ .slnil))))))⟩
 refine rw_ rfl fun a w hf hO hm => ?_
 obtain ⟨r46, hr46, hm⟩ := ob hm
 have hch51 := (show Dk.Own w0 F _ ([.blk x_a0_b0 [int x_a0.f_limit, int x_a0.f_at, .slice none 0 0, int x_a0.f_left, int x_a0.f_sum, int i5, .slice x_a0_p2 x_a0.f_trailers.length x_a0_c2] 194, .row (.slice none 0 0) 5 1 0 (cells zc []), .row (.slice x_a0_p2 x_a0.f_trailers.length x_a0_c2) 107 2 x_a0.f_trailers.length (cells za x_a0.f_trailers)] ++ [.shr p32 (cells zc l31), .shr x_a0_p1 (cells zc x_a0.f_line)]) from hO.choose [2, 0, 4, 1, 3] rfl)
 have hfar51 := Dk.Own.far hch51 rfl hF hG.size
 have hlend51 := hch51.lend (S := []) rfl trivial
 have hcl51 := zfN (⟨x_a0.f_limit, x_a0.f_at, [], x_a0.f_left, x_a0.f_sum, i5, x_a0.f_trailers⟩ : dechunk_Decoder) l31 r46 _ (hG.own hF hO) hfar51 hlend51 hr46
 refine zg (zi c_243 hf (vs := [ptr x_a0_b0 0, str l31]) rfl) rfl hf rfl rfl (hcl51) ?_
 rintro e w' ⟨p47, c48, p49, c50, he, hO'⟩
 refine ⟨_, he, fun a hf => ?_⟩
 have hO := hch51.back rfl hO' rfl
 refine S.op tb ?_ hf hO hm
 refine re_ rfl fun a w hf hO hm => ?_
 obtain rfl := Option.some.inj hm
 exact zb Tryz.results209 hf (.tmp rfl (.tmp rfl .nil)) ⟨p47, c48, p49, c50, rfl, (hO.sub (.cons_cons _ (.cons_cons _ (.cons_cons _ (.cons _ (.cons _ .slnil))))))⟩

theorem zgB (x_d : dechunk_Decoder) (x_s : Str) (R : Int × Str × Bool × Int × dechunk_Decoder) (w0 : World) (hG : zt w0) {x_d_b0 : Nat} {x_d_p1 : Option Addr} {x_d_c1 : Nat} {x_d_p2 : Option Addr} {x_d_c2 : Nat} {F : List Nat} (hF : zo F) (hO : Dk.Own w0 F w0 [.blk x_d_b0 [int x_d.f_limit, int x_d.f_at, .slice x_d_p1 x_d.f_line.length x_d_c1, int x_d.f_left, int x_d.f_sum, int x_d.f_spent, .slice x_d_p2 x_d.f_trailers.length x_d_c2] 194, .row (.slice x_d_p1 x_d.f_line.length x_d_c1) 5 1 x_d.f_line.length (cells zc x_d.f_line), .row (.slice x_d_p2 x_d.f_trailers.length x_d_c2) 107 2 x_d.f_trailers.length (cells za x_d.f_trailers)]) (hm : zc3 x_d x_s = some R) :
    Calls Tryz.prog 158 #[ptr x_d_b0 0, str x_s] w0 fun e w' => ∃ (p0 : Option Addr) (c0 : Nat) (p1 : Option Addr) (c1 : Nat), e = .returned (.tuple #[int R.1, str R.2.1, .bool R.2.2.1, int R.2.2.2.1]) ∧ Dk.Own w0 F w' [.blk x_d_b0 [int R.2.2.2.2.f_limit, int R.2.2.2.2.f_at, .slice p0 R.2.2.2.2.f_line.length c0, int R.2.2.2.2.f_left, int R.2.2.2.2.f_sum, int R.2.2.2.2.f_spent, .slice p1 R.2.2.2.2.f_trailers.length c1] 194, .row (.slice p0 R.2.2.2.2.f_line.length c0) 5 1 R.2.2.2.2.f_line.length (cells zc R.2.2.2.2.f_line), .row (.slice p1 R.2.2.2.2.f_trailers.length c1) 107 2 R.2.2.2.2.f_trailers.length (cells za R.2.2.2.2.f_trailers)] := by
 rw [zc3] at hm
 refine S.enter tb Tryz.func158 rfl Tryz.ntmps158 rfl ?_ hO hm
 refine ld 0 rfl rfl ?_
 refine br rfl (fun hc4 => ?_) fun hc4 => ?_
 refine rw_ rfl fun a w hf hO hm => ?_
 obtain ⟨r5, hr5, hm⟩ := ob hm
 have hch10 := (show Dk.Own w0 F _ ([.blk x_d_b0 [int x_d.f_limit, int x_d.f_at, .slice x_d_p1 x_d.f_line.length x_d_c1, int x_d.f_left, int x_d.f_sum, int x_d.f_spent, .slice x_d_p2 x_d.f_trailers.length x_d_c2] 194, .row (.slice x_d_p1 x_d.f_line.length x_d_c1) 5 1 x_d.f_line.length (cells zc x_d.f_line), .row (.slice x_d_p2 x_d.f_trailers.length x_d_c2) 107 2 x_d.f_trailers.length (cells za x_d.f_trailers)] ++ []) from hO)
 have hfar10 := Dk.Own.far hch10 rfl hF hG.size
 have hlend10 := hch10.lend (S := []) rfl trivial
 have hcl10 := zgw x_d x_s r5 _ (hG.own hF hO) hfar10 hlend10 hr5
 refine zg (zi c_207 hf (vs := [ptr x_d_b0 0, str x_s]) rfl) rfl hf rfl rfl (hcl10) ?_
 rintro e w' ⟨p6, c7, p8, c9, he, hO'⟩
 refine ⟨_, he, fun a hf => ?_⟩
 have hO := hch10.back rfl hO' rfl
 refine S.op tb ?_ hf hO hm
 refine re_ rfl fun a w hf hO hm => ?_
 obtain rfl := Option.some.inj hm
 exact zb Tryz.results158 hf (.tmp rfl (.tmp rfl (.tmp rfl (.tmp rfl .nil)))) ⟨p6, c7, p8, c9, rfl, hO⟩
 refine br rfl (fun hc14 => ?_) fun hc14 => ?_
 refine bi rfl fun b15 hb15 => ?_
 refine rw_ rfl fun a w hf hO hm => ?_
 obtain ⟨r16, hr16, hm⟩ := ob hm
 have hch21 := (show Dk.Own w0 F _ ([.blk x_d_b0 [int x_d.f_limit, int x_d.f_at, .slice x_d_p1 x_d.f_line.length x_d_c1, int x_d.f_left, int x_d.f_sum, int x_d.f_spent, .slice x_d_p2 x_d.f_trailers.length x_d_c2] 194, .row (.slice x_d_p1 x_d.f_line.length x_d_c1) 5 1 x_d.f_line.length (cells zc x_d.f_line), .row (.slice x_d_p2 x_d.f_trailers.length x_d_c2) 107 2 x_d.f_trailers.length (cells za x_d.f_trailers)] ++ []) from hO)
 have hfar21 := Dk.Own.far hch21 rfl hF hG.size
 have hlend21 := hch21.lend (S := []) rfl trivial
 have hcl21 := zgj x_d b15 r16 _ (hG.own hF hO) hfar21 hlend21 hr16
 refine zg (zi c_208 hf (vs := [ptr x_d_b0 0, zB b15]) rfl) rfl hf rfl rfl (hcl21) ?_
 rintro e w' ⟨p17, c18, p19, c20, he, hO'⟩
 refine ⟨_, he, fun a hf => ?_⟩
 have hO := hch21.back rfl hO' rfl
 refine S.op tb ?_ hf hO hm
 refine re_ rfl fun a w hf hO hm => ?_
 obtain rfl := Option.some.inj hm
 exact zb Tryz.results158 hf (.tmp rfl (.tmp rfl (.tmp rfl (.tmp rfl .nil)))) ⟨p17, c18, p19, c20, rfl, hO⟩
 refine bi rfl fun b24 hb24 => ?_
 refine rw_ rfl fun a w hf hO hm => ?_
 obtain ⟨r25, hr25, hm⟩ := ob hm
 have hch30 := (show Dk.Own w0 F _ ([.blk x_d_b0 [int x_d.f_limit, int x_d.f_at, .slice x_d_p1 x_d.f_line.length x_d_c1, int x_d.f_left, int x_d.f_sum, int x_d.f_spent, .slice x_d_p2 x_d.f_trailers.length x_d_c2] 194, .row (.slice x_d_p1 x_d.f_line.length x_d_c1) 5 1 x_d.f_line.length (cells zc x_d.f_line), .row (.slice x_d_p2 x_d.f_trailers.length x_d_c2) 107 2 x_d.f_trailers.length (cells za x_d.f_trailers)] ++ []) from hO)
 have hfar30 := Dk.Own.far hch30 rfl hF hG.size
 have hlend30 := hch30.lend (S := []) rfl trivial
 have hcl30 := zgl x_d b24 r25 _ (hG.own hF hO) hfar30 hlend30 hr25
 refine zg (zi c_209 hf (vs := [ptr x_d_b0 0, zB b24]) rfl) rfl hf rfl rfl (hcl30) ?_
 rintro e w' ⟨p26, c27, p28, c29, he, hO'⟩
 refine ⟨_, he, fun a hf => ?_⟩
 have hO := hch30.back rfl hO' rfl
 refine S.op tb ?_ hf hO hm
 refine re_ rfl fun a w hf hO hm => ?_
 obtain rfl := Option.some.inj hm
 exact zb Tryz.results158 hf (.tmp rfl (.tmp rfl (.tmp rfl (.tmp rfl .nil)))) ⟨p26, c27, p28, c29, rfl, hO⟩

theorem zgC (x_d : dechunk_Decoder) (x_s : Str) (R : Int × Str × Bool × Int × dechunk_Decoder) (w0 : World) (hG : zt w0) {x_d_b0 : Nat} {x_d_p1 : Option Addr} {x_d_c1 : Nat} {x_d_p2 : Option Addr} {x_d_c2 : Nat} {F : List Nat} (hF : zo F) (hO : Dk.Own w0 F w0 [.blk x_d_b0 [int x_d.f_limit, int x_d.f_at, .slice x_d_p1 x_d.f_line.length x_d_c1, int x_d.f_left, int x_d.f_sum, int x_d.f_spent, .slice x_d_p2 x_d.f_trailers.length x_d_c2] 194, .row (.slice x_d_p1 x_d.f_line.length x_d_c1) 5 1 x_d.f_line.length (cells zc x_d.f_line), .row (.slice x_d_p2 x_d.f_trailers.length x_d_c2) 107 2 x_d.f_trailers.length (cells za x_d.f_trailers)]) (hm : zc4 x_d x_s = some R) :
    Calls Tryz.prog 113 #[ptr x_d_b0 0, str x_s] w0 fun e w' => ∃ (p0 : Option Addr) (c0 : Nat) (p1 : Option Addr) (c1 : Nat), e = .returned (.tuple #[int R.1, str R.2.1, .bool R.2.2.1, int R.2.2.2.1]) ∧ Dk.Own w0 F w' [.blk x_d_b0 [int R.2.2.2.2.f_limit, int R.2.2.2.2.f_at, .slice p0 R.2.2.2.2.f_line.length c0, int R.2.2.2.2.f_left, int R.2.2.2.2.f_sum, int R.2.2.2.2.f_spent, .slice p1 R.2.2.2.2.f_trailers.length c1] 194, .row (.slice p0 R.2.2.2.2.f_line.length c0) 5 1 R.2.2.2.2.f_line.length (cells zc R.2.2.2.2.f_line), .row (.slice p1 R.2.2.2.2.f_trailers.length c1) 107 2 R.2.2.2.2.f_trailers.length (cells za R.2.2.2.2.f_trailers)] := by
 rw [zc4] at hm
 refine S.enter tb Tryz.func113 rfl Tryz.ntmps113 rfl ?_ hO hm
 refine vl rfl rfl (fun a w hf hO => zZ Tryz.underlying146 hf rfl rfl) ?_
 refine kn (b' := false) rfl rfl ?_
 refine ld 0 rfl rfl ?_
 refine br rfl (fun hc4 => ?_) fun hc4 => ?_
 refine re_ rfl fun a w hf hO hm => ?_
 obtain rfl := Option.some.inj hm
 exact zb Tryz.results113 hf (.tmp rfl (.tmp rfl (.tmp rfl (.tmp rfl .nil)))) ⟨x_d_p1, x_d_c1, x_d_p2, x_d_c2, rfl, hO⟩
 refine nl 5 1 ?_
 refine jv 0 [0] [] (fun J E L => ∃ (i44 : Int) (t45 : Bool) (i46 : Int) (p47 : Option Addr) (c48 : Nat) (l49 : List UInt8) (i50 : Int) (i51 : Int) (p52 : Option Addr) (c53 : Nat) (l54 : List UInt8) (i55 : Int) (i56 : Int) (i57 : Int) (p58 : Option Addr) (c59 : Nat) (l60 : List api_Field), J ((4, int i44) :: (6, .bool t45) :: (7, int i46) :: (8, .slice p47 l49.length c48) :: E) (.row (.slice p47 l49.length c48) 5 1 l49.length (cells zc l49) :: .blk x_d_b0 [int i50, int i51, .slice p52 l54.length c53, int i55, int i56, int i57, .slice p58 l60.length c59] 194 :: .row (.slice p52 l54.length c53) 5 1 l54.length (cells zc l54) :: .row (.slice p58 l60.length c59) 107 2 l60.length (cells za l60) :: L) (zbW i44 t45 i46 l49 i50 i51 l54 i55 i56 i57 l60)) rfl ?_ ?_
 refine lv [0, 1] [] (fun J E L k => ∃ (p8 : Option Addr) (c9 : Nat) (l10 : List UInt8) (i11 : Int) (i12 : Int) (p13 : Option Addr) (c14 : Nat) (l15 : List UInt8) (i16 : Int) (i17 : Int) (i18 : Int) (p19 : Option Addr) (c20 : Nat) (l21 : List api_Field) (i22 : Int) (t23 : Bool) (i24 : Int), J ((4, int i22) :: (6, .bool t23) :: (7, int i24) :: (8, .slice p8 l10.length c9) :: E) (.row (.slice p8 l10.length c9) 5 1 l10.length (cells zc l10) :: .blk x_d_b0 [int i11, int i12, .slice p13 l15.length c14, int i16, int i17, int i18, .slice p19 l21.length c20] 194 :: .row (.slice p13 l15.length c14) 5 1 l15.length (cells zc l15) :: .row (.slice p19 l21.length c20) 107 2 l21.length (cells za l21) :: L) (zA x_s k l10 i11 i12 l15 i16 i17 i18 l21 i22 t23 i24)) rfl (fun _ _ j => ⟨none, 0, [], x_d.f_limit, x_d.f_at, x_d_p1, x_d_c1, x_d.f_line, x_d.f_left, x_d.f_sum, x_d.f_spent, x_d_p2, x_d_c2, x_d.f_trailers, 0, false, 0, j rfl⟩) ?_
 rintro n1 a w ⟨p8, c9, l10, i11, i12, p13, c14, l15, i16, i17, i18, p19, c20, l21, i22, t23, i24, hf, hO, hm⟩
 obtain _ | n1 := n1
 rw [zA] at hm
 cases hm
 rw [zA] at hm
 refine S.co tb ?_ hf hO hm
 refine jv 4 [0, 1, 4, 6, 7, 8] [0, 1, 2, 3] (fun J E L => ∃ (t27 : Bool), J ((30, .bool t27) :: E) (L) (zac (zA x_s n1) x_s l10 i11 i12 l15 i16 i17 i18 l21 i22 t23 i24 t27)) rfl ?_ ?_
 refine br rfl (fun hc25 => ?_) fun hc25 => ?_
 refine br rfl (fun hc26 => ?_) fun hc26 => ?_
 exact en rfl fun _ _ j => ⟨i24 == 0, j rfl⟩
 exact en rfl fun _ _ j => ⟨false, j rfl⟩
 exact en rfl fun _ _ j => ⟨false, j rfl⟩
 rintro a w ⟨t27, hf, hO, hm⟩
 rw [zac] at hm
 refine S.co tb ?_ hf hO hm
 refine br rfl (fun hc28 => ?_) fun hc28 => ?_
 refine bi rfl fun s31 hs31 => ?_
 refine rw_ rfl fun a w hf hO hm => ?_
 obtain ⟨r32, hr32, hm⟩ := ob hm
 have hch37 := (show Dk.Own w0 F _ ([.blk x_d_b0 [int i11, int i12, .slice p13 l15.length c14, int i16, int i17, int i18, .slice p19 l21.length c20] 194, .row (.slice p13 l15.length c14) 5 1 l15.length (cells zc l15), .row (.slice p19 l21.length c20) 107 2 l21.length (cells za l21)] ++ [.row (.slice p8 l10.length c9) 5 1 l10.length (cells zc l10)]) from hO.choose [1, 2, 3, 0] rfl)
 have hfar37 := Dk.Own.far hch37 rfl hF hG.size
 have hlend37 := hch37.lend (S := []) rfl trivial
 have hcl37 := zgB (⟨i11, i12, l15, i16, i17, i18, l21⟩ : dechunk_Decoder) s31 r32 _ (hG.own hF hO) hfar37 hlend37 hr32
 refine zg (zi c_158 hf (vs := [ptr x_d_b0 0, str s31]) rfl) rfl hf rfl rfl (hcl37) ?_
 rintro e w' ⟨p33, c34, p35, c36, he, hO'⟩
 refine ⟨_, he, fun a hf => ?_⟩
 have hO := hch37.back rfl hO' rfl
 refine S.op tb ?_ hf hO hm
 refine rw_ rfl fun a w hf hO hm => ?_
 obtain ⟨hg41, hm⟩ := og hm
 refine zj7 (en := zc) (xs := l10) (s := r32.2.1) (i := 3) (fun _ => rfl) zlj rfl hg41 hf rfl rfl rfl hO fun a p39 c40 w hf hO => ?_
 refine S.op tb ?_ hf hO hm
 refine bi rfl fun i43 hi43 => ?_
 exact ec [3, 0, 1, 2] rfl rfl rfl fun _ _ j => ⟨_, Nat.lt_succ_self _, p39, c40, l10 ++ r32.2.1, r32.2.2.2.2.f_limit, r32.2.2.2.2.f_at, p33, c34, r32.2.2.2.2.f_line, r32.2.2.2.2.f_left, r32.2.2.2.2.f_sum, r32.2.2.2.2.f_spent, p35, c36, r32.2.2.2.2.f_trailers, i43, r32.2.2.1, r32.2.2.2.1, j rfl⟩
 exact en rfl fun _ _ j => ⟨i22, t23, i24, p8, c9, l10, i11, i12, p13, c14, l15, i16, i17, i18, p19, c20, l21, j rfl⟩
 rintro a w ⟨i44, t45, i46, p47, c48, l49, i50, i51, p52, c53, l54, i55, i56, i57, p58, c59, l60, hf, hO, hm⟩
 rw [zbW] at hm
 refine S.co tb ?_ hf hO hm
 refine jv 0 [4, 6, 7, 8] [0, 3] (fun J E L => ∃ (i64 : Int) (p65 : Option Addr) (c66 : Nat) (l67 : List UInt8), J (E) (.blk x_d_b0 [int i50, int i64, .slice p65 l67.length c66, int i55, int i56, int i57, .slice p58 l60.length c59] 194 :: .row (.slice p65 l67.length c66) 5 1 l67.length (cells zc l67) :: L) (zaI i44 t45 i46 l49 i50 i55 i56 i57 l60 i64 l67)) rfl ?_ ?_
 refine jv 1 [0, 4, 6, 7, 8] [0, 1, 2, 3] (fun J E L => ∃ (t62 : Bool), J ((51, .bool t62) :: E) (L) (zaJ i44 t45 i46 l49 i50 i51 l54 i55 i56 i57 l60 t62)) rfl ?_ ?_
 refine br rfl (fun hc61 => ?_) fun hc61 => ?_
 exact en rfl fun _ _ j => ⟨true, j rfl⟩
 exact en rfl fun _ _ j => ⟨!(i46 == 0), j rfl⟩
 rintro a w ⟨t62, hf, hO, hm⟩
 rw [zaJ] at hm
 refine S.co tb ?_ hf hO hm
 refine br rfl (fun hc63 => ?_) fun hc63 => ?_
 refine st 1 rfl rfl ?_
 refine st 1 rfl rfl ?_
 refine nl 5 1 ?_
 exact ec [2, 0, 1, 4] rfl rfl rfl fun _ _ j => ⟨4, none, 0, [], j rfl⟩
 exact ec [1, 2, 0, 3] rfl rfl rfl fun _ _ j => ⟨i51, p52, c53, l54, j rfl⟩
 rintro a w ⟨i64, p65, c66, l67, hf, hO, hm⟩
 rw [zaI] at hm
 refine S.co tb ?_ hf hO hm
 refine rc_ rfl fun a w hf hO hm => ?_
 refine zbM (by kernel_rfl) (by kernel_rfl) hO ?_
 refine zm (fun w hO => zn hf rfl) rfl hf rfl rfl fun a hf => ?_
 refine zm (fun w hO => zn hf rfl) rfl hf rfl rfl fun a hf => ?_
 refine zm (fun w hO => zcP (en := zc) (l := l49) (fun _ => rfl) Tryz.underlying9 Tryz.underlying141 Tryz.underlying5 (hO.rowSees (i := 2) rfl) hf rfl) rfl hf rfl rfl fun a hf => ?_
 refine zm (fun w hO => zn hf rfl) rfl hf rfl rfl fun a hf => ?_
 refine zm (fun w hO => zn hf rfl) rfl hf rfl rfl fun a hf => ?_
 refine zm (fun w hO => zv hf rfl) rfl hf rfl rfl fun a hf => ?_
 refine zm (fun w hO => zv hf rfl) rfl hf rfl rfl fun a hf => ?_
 refine zm (fun w hO => zv hf rfl) rfl hf rfl rfl fun a hf => ?_
 refine zm (fun w hO => zv hf rfl) rfl hf rfl rfl fun a hf => ?_
 refine wpQuiet_nil ?_
 intro w hO
 refine S.no tb ?_ hf hO hm
 refine re_ rfl fun a w hf hO hm => ?_
 obtain rfl := Option.some.inj hm
 exact zb Tryz.results113 hf (.tmp rfl (.tmp rfl (.tmp rfl (.tmp rfl .nil)))) ⟨p65, c66, p58, c59, rfl, (hO.sub (.cons_cons _ (.cons_cons _ (.cons _ (.cons_cons _ .slnil)))))⟩

theorem zi9 (x_a0 : body_Body) (x_a1 : Str) (R : Int × Str × Bool × Int × body_Body) (w0 : World) (hG : zt w0) {x_a0_b0 : Nat} {x_a0_b1 : Nat} {x_a0_p2 : Option Addr} {x_a0_c2 : Nat} {x_a0_p3 : Option Addr} {x_a0_c3 : Nat} {F : List Nat} (hF : zo F) (hO : Dk.Own w0 F w0 [.blk x_a0_b0 [ptr x_a0_b1 0, int x_a0.f_frame.Kind, int x_a0.f_frame.N, int x_a0.f_left, .bool x_a0.f_done, .bool x_a0.f_bad] 150, .blk x_a0_b1 [int x_a0.Decoder.f_limit, int x_a0.Decoder.f_at, .slice x_a0_p2 x_a0.Decoder.f_line.length x_a0_c2, int x_a0.Decoder.f_left, int x_a0.Decoder.f_sum, int x_a0.Decoder.f_spent, .slice x_a0_p3 x_a0.Decoder.f_trailers.length x_a0_c3] 194, .row (.slice x_a0_p2 x_a0.Decoder.f_line.length x_a0_c2) 5 1 x_a0.Decoder.f_line.length (cells zc x_a0.Decoder.f_line), .row (.slice x_a0_p3 x_a0.Decoder.f_trailers.length x_a0_c3) 107 2 x_a0.Decoder.f_trailers.length (cells za x_a0.Decoder.f_trailers)]) (hm : zfM x_a0 x_a1 = some R) :
    Calls Tryz.prog 81 #[ptr x_a0_b0 0, str x_a1] w0 fun e w' => ∃ (p0 : Option Addr) (c0 : Nat) (p1 : Option Addr) (c1 : Nat), e = .returned (.tuple #[int R.1, str R.2.1, .bool R.2.2.1, int R.2.2.2.1]) ∧ Dk.Own w0 F w' [.blk x_a0_b0 [ptr x_a0_b1 0, int R.2.2.2.2.f_frame.Kind, int R.2.2.2.2.f_frame.N, int R.2.2.2.2.f_left, .bool R.2.2.2.2.f_done, .bool R.2.2.2.2.f_bad] 150, .blk x_a0_b1 [int R.2.2.2.2.Decoder.f_limit, int R.2.2.2.2.Decoder.f_at, .slice p0 R.2.2.2.2.Decoder.f_line.length c0, int R.2.2.2.2.Decoder.f_left, int R.2.2.2.2.Decoder.f_sum, int R.2.2.2.2.Decoder.f_spent, .slice p1 R.2.2.2.2.Decoder.f_trailers.length c1] 194, .row (.slice p0 R.2.2.2.2.Decoder.f_line.length c0) 5 1 R.2.2.2.2.Decoder.f_line.length (cells zc R.2.2.2.2.Decoder.f_line), .row (.slice p1 R.2.2.2.2.Decoder.f_trailers.length c1) 107 2 R.2.2.2.2.Decoder.f_trailers.length (cells za R.2.2.2.2.Decoder.f_trailers)] := by
 rw [zfM] at hm
 refine S.enter tb Tryz.func81 rfl Tryz.ntmps81 rfl ?_ hO hm
 refine vl rfl rfl (fun a w hf hO => zZ Tryz.underlying94 hf rfl rfl) ?_
 refine kn (b' := false) rfl rfl ?_
 refine jv 2 [0, 1] [0, 1, 2, 3] (fun J E L => ∃ (t4 : Bool), J ((11, .bool t4) :: E) (L) (zcI x_a0 x_a1 t4)) rfl ?_ ?_
 refine ld 0 rfl rfl ?_
 refine br rfl (fun hc3 => ?_) fun hc3 => ?_
 exact en rfl fun _ _ j => ⟨true, j rfl⟩
 refine ld 0 rfl rfl ?_
 exact en rfl fun _ _ j => ⟨x_a0.f_bad, j rfl⟩
 rintro a w ⟨t4, hf, hO, hm⟩
 rw [zcI] at hm
 refine S.co tb ?_ hf hO hm
 refine br rfl (fun hc5 => ?_) fun hc5 => ?_
 refine re_ rfl fun a w hf hO hm => ?_
 obtain rfl := Option.some.inj hm
 exact zb Tryz.results81 hf (.tmp rfl (.tmp rfl (.tmp rfl (.tmp rfl .nil)))) ⟨x_a0_p2, x_a0_c2, x_a0_p3, x_a0_c3, rfl, hO⟩
 refine jv 0 [0, 1] [1, 2, 3] (fun J E L => ∃ (i26 : Int) (i27 : Int) (t28 : Bool), J ((4, int i26) :: E) (.blk x_a0_b0 [ptr x_a0_b1 0, int x_a0.f_frame.Kind, int x_a0.f_frame.N, int i27, .bool t28, .bool x_a0.f_bad] 150 :: L) (zcH x_a0 x_a1 i26 i27 t28)) rfl ?_ ?_
 refine ld 0 rfl rfl ?_
 refine br rfl (fun hc11 => ?_) fun hc11 => ?_
 refine ld 0 rfl rfl ?_
 refine rw_ rfl fun a w hf hO hm => ?_
 obtain ⟨r12, hr12, hm⟩ := ob hm
 have hch17 := (show Dk.Own w0 F _ ([.blk x_a0_b1 [int x_a0.Decoder.f_limit, int x_a0.Decoder.f_at, .slice x_a0_p2 x_a0.Decoder.f_line.length x_a0_c2, int x_a0.Decoder.f_left, int x_a0.Decoder.f_sum, int x_a0.Decoder.f_spent, .slice x_a0_p3 x_a0.Decoder.f_trailers.length x_a0_c3] 194, .row (.slice x_a0_p2 x_a0.Decoder.f_line.length x_a0_c2) 5 1 x_a0.Decoder.f_line.length (cells zc x_a0.Decoder.f_line), .row (.slice x_a0_p3 x_a0.Decoder.f_trailers.length x_a0_c3) 107 2 x_a0.Decoder.f_trailers.length (cells za x_a0.Decoder.f_trailers)] ++ [.blk x_a0_b0 [ptr x_a0_b1 0, int x_a0.f_frame.Kind, int x_a0.f_frame.N, int x_a0.f_left, .bool x_a0.f_done, .bool x_a0.f_bad] 150]) from hO.choose [1, 2, 3, 0] rfl)
 have hfar17 := Dk.Own.far hch17 rfl hF hG.size
 have hlend17 := hch17.lend (S := []) rfl trivial
 have hcl17 := zgC x_a0.Decoder x_a1 r12 _ (hG.own hF hO) hfar17 hlend17 hr12
 refine zg (zi c_113 hf (vs := [ptr x_a0_b1 0, str x_a1]) rfl) rfl hf rfl rfl (hcl17) ?_
 rintro e w' ⟨p13, c14, p15, c16, he, hO'⟩
 refine ⟨_, he, fun a hf => ?_⟩
 have hO := hch17.back rfl hO' rfl
 refine S.op tb ?_ hf hO hm
 refine st 3 rfl rfl ?_
 refine st 3 rfl rfl ?_
 refine re_ rfl fun a w hf hO hm => ?_
 obtain rfl := Option.some.inj hm
 exact zb Tryz.results81 hf (.tmp rfl (.tmp rfl (.tmp rfl (.tmp rfl .nil)))) ⟨p13, c14, p15, c16, rfl, (hO.choose [3, 0, 1, 2] rfl)⟩
 refine br rfl (fun hc22 => ?_) fun hc22 => ?_
 refine ld 0 rfl rfl ?_
 refine vl rfl rfl (fun a w hf hO => zmm (m := (x_a1.length : Int)) (n := x_a0.f_left) hf rfl rfl) ?_
 refine ld 0 rfl rfl ?_
 refine bi rfl fun i24 hi24 => ?_
 refine st 0 rfl rfl ?_
 refine ld 0 rfl rfl ?_
 refine st 0 rfl rfl ?_
 exact en rfl fun _ _ j => ⟨min (x_a1.length : Int) x_a0.f_left, i24, i24 == 0, j rfl⟩
 exact en rfl fun _ _ j => ⟨(x_a1.length : Int), x_a0.f_left, x_a0.f_done, j rfl⟩
 rintro a w ⟨i26, i27, t28, hf, hO, hm⟩
 rw [zcH] at hm
 refine S.co tb ?_ hf hO hm
 refine rc_ rfl fun a w hf hO hm => ?_
 refine zbM (by kernel_rfl) (by kernel_rfl) hO ?_
 refine zm (fun w hO => zn hf rfl) rfl hf rfl rfl fun a hf => ?_
 refine zm (fun w hO => zn hf rfl) rfl hf rfl rfl fun a hf => ?_
 refine zm (fun w hO => zn hf rfl) rfl hf rfl rfl fun a hf => ?_
 obtain ⟨s29, hs29, hm⟩ := ob hm
 refine zm (fun w hO => zjH (l := x_a1) Tryz.underlying9 hf rfl rfl hs29) rfl hf rfl rfl fun a hf => ?_
 refine zm (fun w hO => zn hf rfl) rfl hf rfl rfl fun a hf => ?_
 refine zm (fun w hO => zp hf rfl) rfl hf rfl rfl fun a hf => ?_
 refine zm (fun w hO => zr zjU hf rfl) rfl hf rfl rfl fun a hf => ?_
 refine zm (fun w hO => zk (o := 4) ag_4 (hO.blkSees (i := 0) rfl) rfl hf rfl) rfl hf rfl rfl fun a hf => ?_
 refine zm (fun w hO => zv hf rfl) rfl hf rfl rfl fun a hf => ?_
 refine zm (fun w hO => zv hf rfl) rfl hf rfl rfl fun a hf => ?_
 refine zm (fun w hO => zv hf rfl) rfl hf rfl rfl fun a hf => ?_
 refine zm (fun w hO => zv hf rfl) rfl hf rfl rfl fun a hf => ?_
 refine wpQuiet_nil ?_
 intro w hO
 refine S.no tb ?_ hf hO hm
 refine re_ rfl fun a w hf hO hm => ?_
 obtain rfl := Option.some.inj hm
 exact zb Tryz.results81 hf (.tmp rfl (.tmp rfl (.tmp rfl (.tmp rfl .nil)))) ⟨x_a0_p2, x_a0_c2, x_a0_p3, x_a0_c3, rfl, hO⟩

theorem zjy (x_b : body_Body) (R : Bool × Int × body_Body) (w0 : World) (hG : zt w0) {x_b_b0 : Nat} {x_b_b1 : Nat} {x_b_p2 : Option Addr} {x_b_c2 : Nat} {x_b_p3 : Option Addr} {x_b_c3 : Nat} {F : List Nat} (hF : zo F) (hO : Dk.Own w0 F w0 [.blk x_b_b0 [ptr x_b_b1 0, int x_b.f_frame.Kind, int x_b.f_frame.N, int x_b.f_left, .bool x_b.f_done, .bool x_b.f_bad] 150, .blk x_b_b1 [int x_b.Decoder.f_limit, int x_b.Decoder.f_at, .slice x_b_p2 x_b.Decoder.f_line.length x_b_c2, int x_b.Decoder.f_left, int x_b.Decoder.f_sum, int x_b.Decoder.f_spent, .slice x_b_p3 x_b.Decoder.f_trailers.length x_b_c3] 194, .row (.slice x_b_p2 x_b.Decoder.f_line.length x_b_c2) 5 1 x_b.Decoder.f_line.length (cells zc x_b.Decoder.f_line), .row (.slice x_b_p3 x_b.Decoder.f_trailers.length x_b_c3) 107 2 x_b.Decoder.f_trailers.length (cells za x_b.Decoder.f_trailers)]) (hm : zgh x_b = some R) :
    Calls Tryz.prog 82 #[ptr x_b_b0 0] w0 fun e w' => ∃ (p0 : Option Addr) (c0 : Nat) (p1 : Option Addr) (c1 : Nat), e = .returned (.tuple #[.bool R.1, int R.2.1]) ∧ Dk.Own w0 F w' [.blk x_b_b0 [ptr x_b_b1 0, int R.2.2.f_frame.Kind, int R.2.2.f_frame.N, int R.2.2.f_left, .bool R.2.2.f_done, .bool R.2.2.f_bad] 150, .blk x_b_b1 [int R.2.2.Decoder.f_limit, int R.2.2.Decoder.f_at, .slice p0 R.2.2.Decoder.f_line.length c0, int R.2.2.Decoder.f_left, int R.2.2.Decoder.f_sum, int R.2.2.Decoder.f_spent, .slice p1 R.2.2.Decoder.f_trailers.length c1] 194, .row (.slice p0 R.2.2.Decoder.f_line.length c0) 5 1 R.2.2.Decoder.f_line.length (cells zc R.2.2.Decoder.f_line), .row (.slice p1 R.2.2.Decoder.f_trailers.length c1) 107 2 R.2.2.Decoder.f_trailers.length (cells za R.2.2.Decoder.f_trailers)] := by
 rw [zgh] at hm
 refine S.enter tb Tryz.func82 rfl Tryz.ntmps82 rfl ?_ hO hm
 refine jv 0 [] [1, 2, 3] (fun J E L => ∃ (t8 : Bool), J (E) (.blk x_b_b0 [ptr x_b_b1 0, int x_b.f_frame.Kind, int x_b.f_frame.N, int x_b.f_left, .bool t8, .bool x_b.f_bad] 150 :: L) (zde x_b t8)) rfl ?_ ?_
 refine vl rfl rfl (fun a w hf hO => zZ Tryz.underlying94 hf rfl rfl) ?_
 refine kn (b' := false) rfl rfl ?_
 refine ld 0 rfl rfl ?_
 refine br rfl (fun hc4 => ?_) fun hc4 => ?_
 refine st 0 rfl rfl ?_
 exact en rfl fun _ _ j => ⟨true, j rfl⟩
 refine ld 0 rfl rfl ?_
 refine br rfl (fun hc6 => ?_) fun hc6 => ?_
 refine re_ rfl fun a w hf hO hm => ?_
 obtain rfl := Option.some.inj hm
 exact zb Tryz.results82 hf (.tmp rfl (.tmp rfl .nil)) ⟨x_b_p2, x_b_c2, x_b_p3, x_b_c3, rfl, hO⟩
 exact en rfl fun _ _ j => ⟨x_b.f_done, j rfl⟩
 rintro a w ⟨t8, hf, hO, hm⟩
 rw [zde] at hm
 refine S.co tb ?_ hf hO hm
 refine re_ rfl fun a w hf hO hm => ?_
 obtain rfl := Option.some.inj hm
 exact zb Tryz.results82 hf (.tmp rfl (.tmp rfl .nil)) ⟨x_b_p2, x_b_c2, x_b_p3, x_b_c3, rfl, hO⟩

theorem zfz (x_d : dechunk_Decoder) (R : List api_Field) (w0 : World) (hG : zt w0) {x_d_b0 : Nat} {x_d_p1 : Option Addr} {x_d_c1 : Nat} {x_d_p2 : Option Addr} {x_d_c2 : Nat} (hs0 : zw w0 (some ⟨x_d_b0, 0, none⟩) [int x_d.f_limit, int x_d.f_at, .slice x_d_p1 x_d.f_line.length x_d_c1, int x_d.f_left, int x_d.f_sum, int x_d.f_spent, .slice x_d_p2 x_d.f_trailers.length x_d_c2]) (hs1 : zw w0 x_d_p1 (cells zc x_d.f_line)) (hc1 : x_d.f_line.length ≤ x_d_c1) (hs2 : zw w0 x_d_p2 (cells za x_d.f_trailers)) (hc2 : x_d.f_trailers.length ≤ x_d_c2) (hm : zbB x_d = some R) :
    Calls Tryz.prog 114 #[ptr x_d_b0 0] w0 fun e w' => ∃ (p0 : Option Addr) (c0 : Nat), e = .returned (.slice p0 R.length c0) ∧ Dk.Own w0 [] w' [.row (.slice p0 R.length c0) 107 2 R.length (cells za R)] := by
 rw [zbB] at hm
 have hF : zo [] := zf
 have hO : Dk.Own w0 [] w0 [] := Dk.Own.refl w0
 have hO := hO.addShr hs0 (by simp [Res.shared])
 have hO := hO.addShr hs1 (by simp [Res.shared])
 have hO := hO.addShr hs2 (by simp [Res.shared])
 refine S.enter tb Tryz.func114 rfl Tryz.ntmps114 rfl ?_ hO hm
 refine nl 107 2 ?_
 refine vl rfl rfl (fun a w hf hO => zZ Tryz.underlying146 hf rfl rfl) ?_
 refine kn (b' := false) rfl rfl ?_
 refine rw_ rfl fun a w hf hO hm => ?_
 refine zu (vs := []) (cs := []) (e := 107) (sz := 2) hf rfl rfl (fun w => by kernel_rfl) rfl rfl hO fun a b4 w hf hO => ?_
 refine S.op tb ?_ hf hO hm
 refine ld 4 rfl rfl ?_
 refine rw_ rfl fun a w hf hO hm => ?_
 obtain ⟨hg7, hm⟩ := og hm
 refine zfB zlk (enc := za) (xs := []) (ys := x_d.f_trailers) (i := 0) (fun _ => rfl) rfl (hO.sees (i := 2) rfl) (by simp [za, Value.oneCell']) hg7 hf rfl rfl rfl hO fun a p5 c6 w hf hO => ?_
 refine S.op tb ?_ hf hO hm
 refine re_ rfl fun a w hf hO hm => ?_
 obtain rfl := Option.some.inj hm
 exact zb Tryz.results114 hf (.tmp rfl .nil) ⟨p5, c6, rfl, (hO.sub (.cons_cons _ (.cons _ (.cons _ (.cons _ (.cons _ .slnil))))))⟩

theorem zhg (x_b : body_Body) (R : List api_Field) (w0 : World) (hG : zt w0) {x_b_b0 : Nat} {x_b_b1 : Nat} {x_b_p2 : Option Addr} {x_b_c2 : Nat} {x_b_p3 : Option Addr} {x_b_c3 : Nat} (hs0 : zw w0 (some ⟨x_b_b0, 0, none⟩) [ptr x_b_b1 0, int x_b.f_frame.Kind, int x_b.f_frame.N, int x_b.f_left, .bool x_b.f_done, .bool x_b.f_bad]) (hs1 : zw w0 (some ⟨x_b_b1, 0, none⟩) [int x_b.Decoder.f_limit, int x_b.Decoder.f_at, .slice x_b_p2 x_b.Decoder.f_line.length x_b_c2, int x_b.Decoder.f_left, int x_b.Decoder.f_sum, int x_b.Decoder.f_spent, .slice x_b_p3 x_b.Decoder.f_trailers.length x_b_c3]) (hs2 : zw w0 x_b_p2 (cells zc x_b.Decoder.f_line)) (hc2 : x_b.Decoder.f_line.length ≤ x_b_c2) (hs3 : zw w0 x_b_p3 (cells za x_b.Decoder.f_trailers)) (hc3 : x_b.Decoder.f_trailers.length ≤ x_b_c3) (hm : zdU x_b = some R) :
    Calls Tryz.prog 83 #[ptr x_b_b0 0] w0 fun e w' => ∃ (p0 : Option Addr) (c0 : Nat), e = .returned (.slice p0 R.length c0) ∧ Dk.Own w0 [] w' [.row (.slice p0 R.length c0) 107 2 R.length (cells za R)] := by
 rw [zdU] at hm
 have hF : zo [] := zf
 have hO : Dk.Own w0 [] w0 [] := Dk.Own.refl w0
 have hO := hO.addShr hs0 (by simp [Res.shared])
 have hO := hO.addShr hs1 (by simp [Res.shared])
 have hO := hO.addShr hs2 (by simp [Res.shared])
 have hO := hO.addShr hs3 (by simp [Res.shared])
 refine S.enter tb Tryz.func83 rfl Tryz.ntmps83 rfl ?_ hO hm
 refine nl 107 2 ?_
 refine vl rfl rfl (fun a w hf hO => zZ Tryz.underlying94 hf rfl rfl) ?_
 refine kn (b' := false) rfl rfl ?_
 refine ld 4 rfl rfl ?_
 refine rw_ rfl fun a w hf hO hm => ?_
 obtain ⟨r4, hr4, hm⟩ := ob hm
 refine zg (zi c_114 hf (vs := [ptr x_b_b1 0]) rfl) rfl hf rfl rfl (zfz x_b.Decoder r4 _ (hG.own hF hO) (hO.sees (i := 3) rfl) (hO.sees (i := 2) rfl) hc2 (hO.sees (i := 1) rfl) hc3 hr4) ?_
 rintro e w' ⟨p5, c6, he, hO'⟩
 refine ⟨_, he, fun a hf => ?_⟩
 have hO := hO.call hO' (by simp [Res.shared])
 refine S.op tb ?_ hf hO hm
 refine re_ rfl fun a w hf hO hm => ?_
 obtain rfl := Option.some.inj hm
 exact zb Tryz.results83 hf (.tmp rfl .nil) ⟨p5, c6, rfl, (hO.sub (.cons_cons _ (.cons _ (.cons _ (.cons _ (.cons _ (.cons _ .slnil)))))))⟩

theorem zeu (x_a0 : message_reader) (x_a1 : Str) (x_a2 : Bool) (R : Int × Int × message_reader) (w0 : World) (hG : zt w0) {x_a0_b0 : Nat} {x_a0_b1 : Nat} {x_a0_b2 : Nat} {x_a0_p3 : Option Addr} {x_a0_c3 : Nat} {x_a0_p4 : Option Addr} {x_a0_c4 : Nat} {x_a0_p5 : Option Addr} {x_a0_c5 : Nat} {x_a0_p6 : Option Addr} {x_a0_c6 : Nat} {F : List Nat} (hF : zo F) (hO : Dk.Own w0 F w0 [.blk x_a0_b0 [ptr x_a0_b1 0, int x_a0.f_m.Head.Kind, str x_a0.f_m.Head.Method, str x_a0.f_m.Head.Target, int x_a0.f_m.Head.Code, str x_a0.f_m.Head.Reason, int x_a0.f_m.Head.Minor, .slice x_a0_p5 x_a0.f_m.Head.Fields.length x_a0_c5, int x_a0.f_m.Frame.Kind, int x_a0.f_m.Frame.N, str x_a0.f_m.Body, .slice x_a0_p6 x_a0.f_m.Trailers.length x_a0_c6] 96, .blk x_a0_b1 [ptr x_a0_b2 0, int x_a0.Body.f_frame.Kind, int x_a0.Body.f_frame.N, int x_a0.Body.f_left, .bool x_a0.Body.f_done, .bool x_a0.Body.f_bad] 150, .blk x_a0_b2 [int x_a0.Body.Decoder.f_limit, int x_a0.Body.Decoder.f_at, .slice x_a0_p3 x_a0.Body.Decoder.f_line.length x_a0_c3, int x_a0.Body.Decoder.f_left, int x_a0.Body.Decoder.f_sum, int x_a0.Body.Decoder.f_spent, .slice x_a0_p4 x_a0.Body.Decoder.f_trailers.length x_a0_c4] 194, .row (.slice x_a0_p3 x_a0.Body.Decoder.f_line.length x_a0_c3) 5 1 x_a0.Body.Decoder.f_line.length (cells zc x_a0.Body.Decoder.f_line), .row (.slice x_a0_p4 x_a0.Body.Decoder.f_trailers.length x_a0_c4) 107 2 x_a0.Body.Decoder.f_trailers.length (cells za x_a0.Body.Decoder.f_trailers), .row (.slice x_a0_p5 x_a0.f_m.Head.Fields.length x_a0_c5) 107 2 x_a0.f_m.Head.Fields.length (cells za x_a0.f_m.Head.Fields), .row (.slice x_a0_p6 x_a0.f_m.Trailers.length x_a0_c6) 107 2 x_a0.f_m.Trailers.length (cells za x_a0.f_m.Trailers)]) (hm : zbK x_a0 x_a1 x_a2 = some R) :
    Calls Tryz.prog 49 #[ptr x_a0_b0 0, str x_a1, .bool x_a2] w0 fun e w' => ∃ (p0 : Option Addr) (c0 : Nat) (p1 : Option Addr) (c1 : Nat) (p2 : Option Addr) (c2 : Nat) (p3 : Option Addr) (c3 : Nat), e = .returned (.tuple #[int R.1, int R.2.1]) ∧ Dk.Own w0 F w' [.blk x_a0_b0 [ptr x_a0_b1 0, int R.2.2.f_m.Head.Kind, str R.2.2.f_m.Head.Method, str R.2.2.f_m.Head.Target, int R.2.2.f_m.Head.Code, str R.2.2.f_m.Head.Reason, int R.2.2.f_m.Head.Minor, .slice p2 R.2.2.f_m.Head.Fields.length c2, int R.2.2.f_m.Frame.Kind, int R.2.2.f_m.Frame.N, str R.2.2.f_m.Body, .slice p3 R.2.2.f_m.Trailers.length c3] 96, .blk x_a0_b1 [ptr x_a0_b2 0, int R.2.2.Body.f_frame.Kind, int R.2.2.Body.f_frame.N, int R.2.2.Body.f_left, .bool R.2.2.Body.f_done, .bool R.2.2.Body.f_bad] 150, .blk x_a0_b2 [int R.2.2.Body.Decoder.f_limit, int R.2.2.Body.Decoder.f_at, .slice p0 R.2.2.Body.Decoder.f_line.length c0, int R.2.2.Body.Decoder.f_left, int R.2.2.Body.Decoder.f_sum, int R.2.2.Body.Decoder.f_spent, .slice p1 R.2.2.Body.Decoder.f_trailers.length c1] 194, .row (.slice p0 R.2.2.Body.Decoder.f_line.length c0) 5 1 R.2.2.Body.Decoder.f_line.length (cells zc R.2.2.Body.Decoder.f_line), .row (.slice p1 R.2.2.Body.Decoder.f_trailers.length c1) 107 2 R.2.2.Body.Decoder.f_trailers.length (cells za R.2.2.Body.Decoder.f_trailers), .row (.slice p2 R.2.2.f_m.Head.Fields.length c2) 107 2 R.2.2.f_m.Head.Fields.length (cells za R.2.2.f_m.Head.Fields), .row (.slice p3 R.2.2.f_m.Trailers.length c3) 107 2 R.2.2.f_m.Trailers.length (cells za R.2.2.f_m.Trailers)] := by
 rw [zbK] at hm
 refine S.enter tb Tryz.func49 rfl Tryz.ntmps49 rfl ?_ hO hm
 refine jv 0 [0, 2] [5, 6] (fun J E L => ∃ (i17 : Int) (i18 : Int) (i19 : Int) (i20 : Int) (t21 : Bool) (t22 : Bool) (i23 : Int) (i24 : Int) (p25 : Option Addr) (c26 : Nat) (l27 : List UInt8) (i28 : Int) (i29 : Int) (i30 : Int) (p31 : Option Addr) (c32 : Nat) (l33 : List api_Field) (s34 : Str), J ((8, int i17) :: E) (.blk x_a0_b1 [ptr x_a0_b2 0, int i18, int i19, int i20, .bool t21, .bool t22] 150 :: .blk x_a0_b2 [int i23, int i24, .slice p25 l27.length c26, int i28, int i29, int i30, .slice p31 l33.length c32] 194 :: .row (.slice p25 l27.length c26) 5 1 l27.length (cells zc l27) :: .row (.slice p31 l33.length c32) 107 2 l33.length (cells za l33) :: .blk x_a0_b0 [ptr x_a0_b1 0, int x_a0.f_m.Head.Kind, str x_a0.f_m.Head.Method, str x_a0.f_m.Head.Target, int x_a0.f_m.Head.Code, str x_a0.f_m.Head.Reason, int x_a0.f_m.Head.Minor, .slice x_a0_p5 x_a0.f_m.Head.Fields.length x_a0_c5, int x_a0.f_m.Frame.Kind, int x_a0.f_m.Frame.N, str s34, .slice x_a0_p6 x_a0.f_m.Trailers.length x_a0_c6] 96 :: L) (zaY x_a0 x_a2 i17 i18 i19 i20 t21 t22 i23 i24 l27 i28 i29 i30 l33 s34)) rfl ?_ ?_
 refine ld 0 rfl rfl ?_
 refine cl c_80 rfl (fun r3 w hr3 hO => zgi x_a0.Body r3 _ (hG.own hF hO) (hO.blkSees (i := 1) rfl) (hO.blkSees (i := 2) rfl) (hO.rowSees (i := 3) rfl) (hO.rowCap (i := 3) rfl) (hO.rowSees (i := 4) rfl) (hO.rowCap (i := 4) rfl) hr3) fun r3 hr3 => ?_
 refine br rfl (fun hc5 => ?_) fun hc5 => ?_
 refine ld 0 rfl rfl ?_
 refine rw_ rfl fun a w hf hO hm => ?_
 obtain ⟨r6, hr6, hm⟩ := ob hm
 have hch11 := (show Dk.Own w0 F _ ([.blk x_a0_b1 [ptr x_a0_b2 0, int x_a0.Body.f_frame.Kind, int x_a0.Body.f_frame.N, int x_a0.Body.f_left, .bool x_a0.Body.f_done, .bool x_a0.Body.f_bad] 150, .blk x_a0_b2 [int x_a0.Body.Decoder.f_limit, int x_a0.Body.Decoder.f_at, .slice x_a0_p3 x_a0.Body.Decoder.f_line.length x_a0_c3, int x_a0.Body.Decoder.f_left, int x_a0.Body.Decoder.f_sum, int x_a0.Body.Decoder.f_spent, .slice x_a0_p4 x_a0.Body.Decoder.f_trailers.length x_a0_c4] 194, .row (.slice x_a0_p3 x_a0.Body.Decoder.f_line.length x_a0_c3) 5 1 x_a0.Body.Decoder.f_line.length (cells zc x_a0.Body.Decoder.f_line), .row (.slice x_a0_p4 x_a0.Body.Decoder.f_trailers.length x_a0_c4) 107 2 x_a0.Body.Decoder.f_trailers.length (cells za x_a0.Body.Decoder.f_trailers)] ++ [.blk x_a0_b0 [ptr x_a0_b1 0, int x_a0.f_m.Head.Kind, str x_a0.f_m.Head.Method, str x_a0.f_m.Head.Target, int x_a0.f_m.Head.Code, str x_a0.f_m.Head.Reason, int x_a0.f_m.Head.Minor, .slice x_a0_p5 x_a0.f_m.Head.Fields.length x_a0_c5, int x_a0.f_m.Frame.Kind, int x_a0.f_m.Frame.N, str x_a0.f_m.Body, .slice x_a0_p6 x_a0.f_m.Trailers.length x_a0_c6] 96, .row (.slice x_a0_p5 x_a0.f_m.Head.Fields.length x_a0_c5) 107 2 x_a0.f_m.Head.Fields.length (cells za x_a0.f_m.Head.Fields), .row (.slice x_a0_p6 x_a0.f_m.Trailers.length x_a0_c6) 107 2 x_a0.f_m.Trailers.length (cells za x_a0.f_m.Trailers)]) from hO.choose [1, 2, 3, 4, 0, 5, 6] rfl)
 have hfar11 := Dk.Own.far hch11 rfl hF hG.size
 have hlend11 := hch11.lend (S := []) rfl trivial
 have hcl11 := zi9 x_a0.Body x_a1 r6 _ (hG.own hF hO) hfar11 hlend11 hr6
 refine zg (zi c_81 hf (vs := [ptr x_a0_b1 0, str x_a1]) rfl) rfl hf rfl rfl (hcl11) ?_
 rintro e w' ⟨p7, c8, p9, c10, he, hO'⟩
 refine ⟨_, he, fun a hf => ?_⟩
 have hO := hch11.back rfl hO' rfl
 refine S.op tb ?_ hf hO hm
 refine br rfl (fun hc14 => ?_) fun hc14 => ?_
 refine re_ rfl fun a w hf hO hm => ?_
 obtain rfl := Option.some.inj hm
 exact zb Tryz.results49 hf (.tmp rfl (.tmp rfl .nil)) ⟨p7, c8, p9, c10, x_a0_p5, x_a0_c5, x_a0_p6, x_a0_c6, rfl, (hO.choose [4, 0, 1, 2, 3, 5, 6] rfl)⟩
 refine st 4 rfl rfl ?_
 exact en rfl fun _ _ j => ⟨r6.1, r6.2.2.2.2.f_frame.Kind, r6.2.2.2.2.f_frame.N, r6.2.2.2.2.f_left, r6.2.2.2.2.f_done, r6.2.2.2.2.f_bad, r6.2.2.2.2.Decoder.f_limit, r6.2.2.2.2.Decoder.f_at, p7, c8, r6.2.2.2.2.Decoder.f_line, r6.2.2.2.2.Decoder.f_left, r6.2.2.2.2.Decoder.f_sum, r6.2.2.2.2.Decoder.f_spent, p9, c10, r6.2.2.2.2.Decoder.f_trailers, r6.2.1, j rfl⟩
 exact ec [1, 2, 3, 4, 0, 5, 6] rfl rfl rfl fun _ _ j => ⟨0, x_a0.Body.f_frame.Kind, x_a0.Body.f_frame.N, x_a0.Body.f_left, x_a0.Body.f_done, x_a0.Body.f_bad, x_a0.Body.Decoder.f_limit, x_a0.Body.Decoder.f_at, x_a0_p3, x_a0_c3, x_a0.Body.Decoder.f_line, x_a0.Body.Decoder.f_left, x_a0.Body.Decoder.f_sum, x_a0.Body.Decoder.f_spent, x_a0_p4, x_a0_c4, x_a0.Body.Decoder.f_trailers, x_a0.f_m.Body, j rfl⟩
 rintro a w ⟨i17, i18, i19, i20, t21, t22, i23, i24, p25, c26, l27, i28, i29, i30, p31, c32, l33, s34, hf, hO, hm⟩
 rw [zaY] at hm
 refine S.co tb ?_ hf hO hm
 refine jv 0 [0, 8] [4, 5, 6] (fun J E L => ∃ (i44 : Int) (i45 : Int) (i46 : Int) (t47 : Bool) (t48 : Bool) (i49 : Int) (i50 : Int) (p51 : Option Addr) (c52 : Nat) (l53 : List UInt8) (i54 : Int) (i55 : Int) (i56 : Int) (p57 : Option Addr) (c58 : Nat) (l59 : List api_Field), J (E) (.blk x_a0_b1 [ptr x_a0_b2 0, int i44, int i45, int i46, .bool t47, .bool t48] 150 :: .blk x_a0_b2 [int i49, int i50, .slice p51 l53.length c52, int i54, int i55, int i56, .slice p57 l59.length c58] 194 :: .row (.slice p51 l53.length c52) 5 1 l53.length (cells zc l53) :: .row (.slice p57 l59.length c58) 107 2 l59.length (cells za l59) :: L) (zaW x_a0 i17 s34 i44 i45 i46 t47 t48 i49 i50 l53 i54 i55 i56 l59)) rfl ?_ ?_
 refine jv 1 [0, 8] [0, 1, 2, 3, 4, 5, 6] (fun J E L => ∃ (t36 : Bool), J ((48, .bool t36) :: E) (L) (zaX x_a0 i17 i18 i19 i20 t21 t22 i23 i24 l27 i28 i29 i30 l33 s34 t36)) rfl ?_ ?_
 refine ld 4 rfl rfl ?_
 refine br rfl (fun hc35 => ?_) fun hc35 => ?_
 exact en rfl fun _ _ j => ⟨x_a2, j rfl⟩
 exact en rfl fun _ _ j => ⟨false, j rfl⟩
 rintro a w ⟨t36, hf, hO, hm⟩
 rw [zaX] at hm
 refine S.co tb ?_ hf hO hm
 refine br rfl (fun hc37 => ?_) fun hc37 => ?_
 refine ld 4 rfl rfl ?_
 refine rw_ rfl fun a w hf hO hm => ?_
 obtain ⟨r38, hr38, hm⟩ := ob hm
 have hch43 := (show Dk.Own w0 F _ ([.blk x_a0_b1 [ptr x_a0_b2 0, int i18, int i19, int i20, .bool t21, .bool t22] 150, .blk x_a0_b2 [int i23, int i24, .slice p25 l27.length c26, int i28, int i29, int i30, .slice p31 l33.length c32] 194, .row (.slice p25 l27.length c26) 5 1 l27.length (cells zc l27), .row (.slice p31 l33.length c32) 107 2 l33.length (cells za l33)] ++ [.blk x_a0_b0 [ptr x_a0_b1 0, int x_a0.f_m.Head.Kind, str x_a0.f_m.Head.Method, str x_a0.f_m.Head.Target, int x_a0.f_m.Head.Code, str x_a0.f_m.Head.Reason, int x_a0.f_m.Head.Minor, .slice x_a0_p5 x_a0.f_m.Head.Fields.length x_a0_c5, int x_a0.f_m.Frame.Kind, int x_a0.f_m.Frame.N, str s34, .slice x_a0_p6 x_a0.f_m.Trailers.length x_a0_c6] 96, .row (.slice x_a0_p5 x_a0.f_m.Head.Fields.length x_a0_c5) 107 2 x_a0.f_m.Head.Fields.length (cells za x_a0.f_m.Head.Fields), .row (.slice x_a0_p6 x_a0.f_m.Trailers.length x_a0_c6) 107 2 x_a0.f_m.Trailers.length (cells za x_a0.f_m.Trailers)]) from hO)
 have hfar43 := Dk.Own.far hch43 rfl hF hG.size
 have hlend43 := hch43.lend (S := []) rfl trivial
 have hcl43 := zjy ((⟨(⟨i23, i24, l27, i28, i29, i30, l33⟩ : dechunk_Decoder), (⟨i18, i19⟩ : api_Frame), i20, t21, t22⟩ : body_Body)) r38 _ (hG.own hF hO) hfar43 hlend43 hr38
 refine zg (zi c_82 hf (vs := [ptr x_a0_b1 0]) rfl) rfl hf rfl rfl (hcl43) ?_
 rintro e w' ⟨p39, c40, p41, c42, he, hO'⟩
 refine ⟨_, he, fun a hf => ?_⟩
 have hO := hch43.back rfl hO' rfl
 refine S.op tb ?_ hf hO hm
 exact en rfl fun _ _ j => ⟨r38.2.2.f_frame.Kind, r38.2.2.f_frame.N, r38.2.2.f_left, r38.2.2.f_done, r38.2.2.f_bad, r38.2.2.Decoder.f_limit, r38.2.2.Decoder.f_at, p39, c40, r38.2.2.Decoder.f_line, r38.2.2.Decoder.f_left, r38.2.2.Decoder.f_sum, r38.2.2.Decoder.f_spent, p41, c42, r38.2.2.Decoder.f_trailers, j rfl⟩
 exact en rfl fun _ _ j => ⟨i18, i19, i20, t21, t22, i23, i24, p25, c26, l27, i28, i29, i30, p31, c32, l33, j rfl⟩
 rintro a w ⟨i44, i45, i46, t47, t48, i49, i50, p51, c52, l53, i54, i55, i56, p57, c58, l59, hf, hO, hm⟩
 rw [zaW] at hm
 refine S.co tb ?_ hf hO hm
 refine ld 4 rfl rfl ?_
 refine cl c_80 rfl (fun r60 w hr60 hO => zgi ((⟨(⟨i49, i50, l53, i54, i55, i56, l59⟩ : dechunk_Decoder), (⟨i44, i45⟩ : api_Frame), i46, t47, t48⟩ : body_Body)) r60 _ (hG.own hF hO) (hO.blkSees (i := 0) rfl) (hO.blkSees (i := 1) rfl) (hO.rowSees (i := 2) rfl) (hO.rowCap (i := 2) rfl) (hO.rowSees (i := 3) rfl) (hO.rowCap (i := 3) rfl) hr60) fun r60 hr60 => ?_
 refine br rfl (fun hc62 => ?_) fun hc62 => ?_
 refine re_ rfl fun a w hf hO hm => ?_
 obtain rfl := Option.some.inj hm
 exact zb Tryz.results49 hf (.tmp rfl (.tmp rfl .nil)) ⟨p51, c52, p57, c58, x_a0_p5, x_a0_c5, x_a0_p6, x_a0_c6, rfl, (hO.choose [4, 0, 1, 2, 3, 5, 6] rfl)⟩
 refine ld 4 rfl rfl ?_
 refine rw_ rfl fun a w hf hO hm => ?_
 obtain ⟨r65, hr65, hm⟩ := ob hm
 refine zg (zi c_83 hf (vs := [ptr x_a0_b1 0]) rfl) rfl hf rfl rfl (zhg ((⟨(⟨i49, i50, l53, i54, i55, i56, l59⟩ : dechunk_Decoder), (⟨i44, i45⟩ : api_Frame), i46, t47, t48⟩ : body_Body)) r65 _ (hG.own hF hO) (hO.blkSees (i := 0) rfl) (hO.blkSees (i := 1) rfl) (hO.rowSees (i := 2) rfl) (hO.rowCap (i := 2) rfl) (hO.rowSees (i := 3) rfl) (hO.rowCap (i := 3) rfl) hr65) ?_
 rintro e w' ⟨p66, c67, he, hO'⟩
 refine ⟨_, he, fun a hf => ?_⟩
 have hO := hO.call hO' (by simp [Res.shared])
 refine S.op tb ?_ hf hO hm
 refine st 5 rfl rfl ?_
 refine re_ rfl fun a w hf hO hm => ?_
 obtain rfl := Option.some.inj hm
 exact zb Tryz.results49 hf (.tmp rfl (.tmp rfl .nil)) ⟨p51, c52, p57, c58, x_a0_p5, x_a0_c5, p66, c67, rfl, (hO.choose [5, 1, 2, 3, 4, 6, 0] rfl)⟩

theorem zg4 (x_a1 : Str) (R : Int × Bool × Int) (w0 : World) (hG : zH w0) (hm : zdn x_a1 = some R) :
    Calls Tryz.prog 46 #[.pointer none, str x_a1] w0 (Ret w0 (fun R => .tuple #[int R.1, .bool R.2.1, int R.2.2]) R) := by
 rw [zdn] at hm
 have hF : zo [] := zf
 have hO : Dk.Own w0 [] w0 [] := Dk.Own.refl w0
 refine S.enter tb Tryz.func46 rfl Tryz.ntmps46 rfl ?_ hO hm
 refine vl rfl rfl (fun a w hf hO => zdZ Tryz.underlying86 hf rfl rfl) ?_
 refine kn (b' := true) rfl rfl ?_
 exact rt Tryz.results46 rfl

theorem zg5 (R : api_Head × Bool) (w0 : World) (hG : zt w0) (hm : zdo = some R) :
    Calls Tryz.prog 47 #[.pointer none] w0 fun e w' => ∃ (p0 : Option Addr) (c0 : Nat), e = .returned (.tuple #[.agg #[int R.1.Kind, str R.1.Method, str R.1.Target, int R.1.Code, str R.1.Reason, int R.1.Minor, .slice p0 R.1.Fields.length c0], .bool R.2]) ∧ Dk.Own w0 [] w' [.row (.slice p0 R.1.Fields.length c0) 107 2 R.1.Fields.length (cells za R.1.Fields)] := by
 rw [zdo] at hm
 have hF : zo [] := zf
 have hO : Dk.Own w0 [] w0 [] := Dk.Own.refl w0
 refine S.enter tb Tryz.func47 rfl Tryz.ntmps47 rfl ?_ hO hm
 refine al zfR rfl fun b1 => ?_
 refine nl 107 2 ?_
 refine vl rfl rfl (fun a w hf hO => zdZ Tryz.underlying86 hf rfl rfl) ?_
 refine kn (b' := true) rfl rfl ?_
 refine vl rfl rfl (fun a w hf hO => zl (vs := []) (v := .agg #[int 0, str [], str [], int 0, str [], int 0, .slice none 0 0]) hf rfl (by kernel_rfl)) ?_
 refine st 1 rfl rfl ?_
 refine nl 107 2 ?_
 refine re_ rfl fun a w hf hO hm => ?_
 obtain rfl := Option.some.inj hm
 exact zb Tryz.results47 hf (.cell rfl (ze (n := 7) (vs := [int 0, str [], str [], int 0, str [], int 0, .slice none 0 0]) zdq zdf rfl ((hO.blkSees (i := 2) rfl).cells (o := 0) (n := 7) rfl)) (.tmp rfl .nil)) ⟨none, 0, rfl, (hO.sub (.cons_cons _ (.cons _ (.cons _ .slnil))))⟩

end Go.Proofs
end
section
set_option linter.unusedVariables false
set_option maxHeartbeats 1000000
set_option linter.unusedSimpArgs false
set_option maxRecDepth 100000
namespace Go.Proofs
open Go.Dk Go.Dm Go.RowKit

theorem zfq (R : Bool) (w0 : World) (hG : zt w0) (hm : zcJ = some R) :
    Calls Tryz.prog 80 #[.pointer none] w0 (Ret w0 (fun R => .bool R) R) := by
 rw [zcJ] at hm
 have hF : zo [] := zf
 have hO : Dk.Own w0 [] w0 [] := Dk.Own.refl w0
 refine S.enter tb Tryz.func80 rfl Tryz.ntmps80 rfl ?_ hO hm
 refine vl rfl rfl (fun a w hf hO => zmZ Tryz.underlying94 hf rfl rfl) ?_
 refine kn (b' := false) rfl rfl ?_
 exact rt Tryz.results80 rfl

theorem zhW (x_a1 : Str) (R : Int × Str × Bool × Int) (w0 : World) (hG : zt w0) (hm : zes x_a1 = some R) :
    Calls Tryz.prog 81 #[.pointer none, str x_a1] w0 (Ret w0 (fun R => .tuple #[int R.1, str R.2.1, .bool R.2.2.1, int R.2.2.2]) R) := by
 rw [zes] at hm
 have hF : zo [] := zf
 have hO : Dk.Own w0 [] w0 [] := Dk.Own.refl w0
 refine S.enter tb Tryz.func81 rfl Tryz.ntmps81 rfl ?_ hO hm
 refine vl rfl rfl (fun a w hf hO => zdZ Tryz.underlying94 hf rfl rfl) ?_
 refine kn (b' := true) rfl rfl ?_
 exact rt Tryz.results81 rfl

theorem zil (R : Bool × Int) (w0 : World) (hG : zt w0) (hm : zeN = some R) :
    Calls Tryz.prog 82 #[.pointer none] w0 (Ret w0 (fun R => .tuple #[.bool R.1, int R.2]) R) := by
 rw [zeN] at hm
 have hF : zo [] := zf
 have hO : Dk.Own w0 [] w0 [] := Dk.Own.refl w0
 refine S.enter tb Tryz.func82 rfl Tryz.ntmps82 rfl ?_ hO hm
 refine vl rfl rfl (fun a w hf hO => zdZ Tryz.underlying94 hf rfl rfl) ?_
 refine kn (b' := true) rfl rfl ?_
 exact rt Tryz.results82 rfl

theorem zgv (R : List api_Field) (w0 : World) (hG : zt w0) (hm : zcz = some R) :
    Calls Tryz.prog 83 #[.pointer none] w0 fun e w' => ∃ (p0 : Option Addr) (c0 : Nat), e = .returned (.slice p0 R.length c0) ∧ Dk.Own w0 [] w' [.row (.slice p0 R.length c0) 107 2 R.length (cells za R)] := by
 rw [zcz] at hm
 have hF : zo [] := zf
 have hO : Dk.Own w0 [] w0 [] := Dk.Own.refl w0
 refine S.enter tb Tryz.func83 rfl Tryz.ntmps83 rfl ?_ hO hm
 refine nl 107 2 ?_
 refine vl rfl rfl (fun a w hf hO => zdZ Tryz.underlying94 hf rfl rfl) ?_
 refine kn (b' := true) rfl rfl ?_
 refine nl 107 2 ?_
 refine re_ rfl fun a w hf hO hm => ?_
 obtain rfl := Option.some.inj hm
 exact zb Tryz.results83 hf (.tmp rfl .nil) ⟨none, 0, rfl, (hO.sub (.cons_cons _ (.cons _ .slnil)))⟩

theorem zcQ (x_a0 : message_reader) (x_a1 : Str) (x_a2 : Bool) (R : Int × Int × message_reader) (w0 : World) (hG : zt w0) {x_a0_b0 : Nat} {x_a0_p1 : Option Addr} {x_a0_c1 : Nat} {x_a0_p2 : Option Addr} {x_a0_c2 : Nat} {F : List Nat} (hF : zo F) (hO : Dk.Own w0 F w0 [.blk x_a0_b0 [.pointer none, int x_a0.f_m.Head.Kind, str x_a0.f_m.Head.Method, str x_a0.f_m.Head.Target, int x_a0.f_m.Head.Code, str x_a0.f_m.Head.Reason, int x_a0.f_m.Head.Minor, .slice x_a0_p1 x_a0.f_m.Head.Fields.length x_a0_c1, int x_a0.f_m.Frame.Kind, int x_a0.f_m.Frame.N, str x_a0.f_m.Body, .slice x_a0_p2 x_a0.f_m.Trailers.length x_a0_c2] 96, .row (.slice x_a0_p1 x_a0.f_m.Head.Fields.length x_a0_c1) 107 2 x_a0.f_m.Head.Fields.length (cells za x_a0.f_m.Head.Fields), .row (.slice x_a0_p2 x_a0.f_m.Trailers.length x_a0_c2) 107 2 x_a0.f_m.Trailers.length (cells za x_a0.f_m.Trailers)]) (hm : zaC x_a0 x_a1 x_a2 = some R) :
    Calls Tryz.prog 49 #[ptr x_a0_b0 0, str x_a1, .bool x_a2] w0 fun e w' => ∃ (p0 : Option Addr) (c0 : Nat) (p1 : Option Addr) (c1 : Nat), e = .returned (.tuple #[int R.1, int R.2.1]) ∧ Dk.Own w0 F w' [.blk x_a0_b0 [.pointer none, int R.2.2.f_m.Head.Kind, str R.2.2.f_m.Head.Method, str R.2.2.f_m.Head.Target, int R.2.2.f_m.Head.Code, str R.2.2.f_m.Head.Reason, int R.2.2.f_m.Head.Minor, .slice p0 R.2.2.f_m.Head.Fields.length c0, int R.2.2.f_m.Frame.Kind, int R.2.2.f_m.Frame.N, str R.2.2.f_m.Body, .slice p1 R.2.2.f_m.Trailers.length c1] 96, .row (.slice p0 R.2.2.f_m.Head.Fields.length c0) 107 2 R.2.2.f_m.Head.Fields.length (cells za R.2.2.f_m.Head.Fields), .row (.slice p1 R.2.2.f_m.Trailers.length c1) 107 2 R.2.2.f_m.Trailers.length (cells za R.2.2.f_m.Trailers)] := by
 rw [zaC] at hm
 refine S.enter tb Tryz.func49 rfl Tryz.ntmps49 rfl ?_ hO hm
 refine jv 0 [0, 2] [1, 2] (fun J E L => ∃ (i12 : Int) (s13 : Str), J ((8, int i12) :: E) (.blk x_a0_b0 [.pointer none, int x_a0.f_m.Head.Kind, str x_a0.f_m.Head.Method, str x_a0.f_m.Head.Target, int x_a0.f_m.Head.Code, str x_a0.f_m.Head.Reason, int x_a0.f_m.Head.Minor, .slice x_a0_p1 x_a0.f_m.Head.Fields.length x_a0_c1, int x_a0.f_m.Frame.Kind, int x_a0.f_m.Frame.N, str s13, .slice x_a0_p2 x_a0.f_m.Trailers.length x_a0_c2] 96 :: L) (zaf x_a0 x_a2 i12 s13)) rfl ?_ ?_
 refine ld 0 rfl rfl ?_
 refine cl c_80 rfl (fun r3 w hr3 hO => zfq r3 _ (hG.own hF hO) hr3) fun r3 hr3 => ?_
 refine br rfl (fun hc5 => ?_) fun hc5 => ?_
 refine ld 0 rfl rfl ?_
 refine cl c_81 rfl (fun r6 w hr6 hO => zhW x_a1 r6 _ (hG.own hF hO) hr6) fun r6 hr6 => ?_
 refine br rfl (fun hc9 => ?_) fun hc9 => ?_
 refine re_ rfl fun a w hf hO hm => ?_
 obtain rfl := Option.some.inj hm
 exact zb Tryz.results49 hf (.tmp rfl (.tmp rfl .nil)) ⟨x_a0_p1, x_a0_c1, x_a0_p2, x_a0_c2, rfl, hO⟩
 refine st 0 rfl rfl ?_
 exact en rfl fun _ _ j => ⟨r6.1, r6.2.1, j rfl⟩
 exact en rfl fun _ _ j => ⟨0, x_a0.f_m.Body, j rfl⟩
 rintro a w ⟨i12, s13, hf, hO, hm⟩
 rw [zaf] at hm
 refine S.co tb ?_ hf hO hm
 refine jv 0 [0, 8] [0, 1, 2] (fun J E L => J (E) (L) (zad x_a0 i12 s13)) rfl ?_ ?_
 refine jv 1 [0, 8] [0, 1, 2] (fun J E L => ∃ (t15 : Bool), J ((48, .bool t15) :: E) (L) (zae x_a0 i12 s13 t15)) rfl ?_ ?_
 refine ld 0 rfl rfl ?_
 refine br rfl (fun hc14 => ?_) fun hc14 => ?_
 exact en rfl fun _ _ j => ⟨x_a2, j rfl⟩
 exact en rfl fun _ _ j => ⟨false, j rfl⟩
 rintro a w ⟨t15, hf, hO, hm⟩
 rw [zae] at hm
 refine S.co tb ?_ hf hO hm
 refine br rfl (fun hc16 => ?_) fun hc16 => ?_
 refine ld 0 rfl rfl ?_
 refine cl c_82 rfl (fun r17 w hr17 hO => zil r17 _ (hG.own hF hO) hr17) fun r17 hr17 => ?_
 exact en rfl fun _ _ j => j rfl
 exact en rfl fun _ _ j => j rfl
 rintro a w ⟨hf, hO, hm⟩
 rw [zad] at hm
 refine S.co tb ?_ hf hO hm
 refine ld 0 rfl rfl ?_
 refine cl c_80 rfl (fun r18 w hr18 hO => zfq r18 _ (hG.own hF hO) hr18) fun r18 hr18 => ?_
 refine br rfl (fun hc20 => ?_) fun hc20 => ?_
 refine re_ rfl fun a w hf hO hm => ?_
 obtain rfl := Option.some.inj hm
 exact zb Tryz.results49 hf (.tmp rfl (.tmp rfl .nil)) ⟨x_a0_p1, x_a0_c1, x_a0_p2, x_a0_c2, rfl, hO⟩
 refine ld 0 rfl rfl ?_
 refine rw_ rfl fun a w hf hO hm => ?_
 obtain ⟨r23, hr23, hm⟩ := ob hm
 refine zg (zi c_83 hf (vs := [.pointer none]) rfl) rfl hf rfl rfl (zgv r23 _ (hG.own hF hO) hr23) ?_
 rintro e w' ⟨p24, c25, he, hO'⟩
 refine ⟨_, he, fun a hf => ?_⟩
 have hO := hO.call hO' (by simp [Res.shared])
 refine S.op tb ?_ hf hO hm
 refine st 1 rfl rfl ?_
 refine re_ rfl fun a w hf hO hm => ?_
 obtain rfl := Option.some.inj hm
 exact zb Tryz.results49 hf (.tmp rfl (.tmp rfl .nil)) ⟨x_a0_p1, x_a0_c1, p24, c25, rfl, (hO.choose [1, 2, 0] rfl)⟩

theorem zez (x_b : body_Body) (R : Bool) (w0 : World) (hG : zt w0) {x_b_b0 : Nat} (hs0 : zw w0 (some ⟨x_b_b0, 0, none⟩) [.pointer none, int x_b.f_frame.Kind, int x_b.f_frame.N, int x_b.f_left, .bool x_b.f_done, .bool x_b.f_bad]) (hm : zbL x_b = some R) :
    Calls Tryz.prog 80 #[ptr x_b_b0 0] w0 (Ret w0 (fun R => .bool R) R) := by
 rw [zbL] at hm
 have hF : zo [] := zf
 have hO : Dk.Own w0 [] w0 [] := Dk.Own.refl w0
 have hO := hO.addShr hs0 (by simp [Res.shared])
 refine S.enter tb Tryz.func80 rfl Tryz.ntmps80 rfl ?_ hO hm
 refine vl rfl rfl (fun a w hf hO => zhM Tryz.underlying94 hf rfl rfl) ?_
 refine kn (b' := true) rfl rfl ?_
 refine ld 0 rfl rfl ?_
 exact rt Tryz.results80 rfl

theorem zfP (x_s : Str) (R : Int × Str × Bool × Int) (w0 : World) (hG : zt w0) (hm : zbX x_s = some R) :
    Calls Tryz.prog 113 #[.pointer none, str x_s] w0 (Ret w0 (fun R => .tuple #[int R.1, str R.2.1, .bool R.2.2.1, int R.2.2.2]) R) := by
 rw [zbX] at hm
 have hF : zo [] := zf
 have hO : Dk.Own w0 [] w0 [] := Dk.Own.refl w0
 refine S.enter tb Tryz.func113 rfl Tryz.ntmps113 rfl ?_ hO hm
 refine vl rfl rfl (fun a w hf hO => zdZ Tryz.underlying146 hf rfl rfl) ?_
 refine kn (b' := true) rfl rfl ?_
 exact rt Tryz.results113 rfl

theorem zg8 (x_a0 : body_Body) (x_a1 : Str) (R : Int × Str × Bool × Int × body_Body) (w0 : World) (hG : zt w0) {x_a0_b0 : Nat} {F : List Nat} (hF : zo F) (hO : Dk.Own w0 F w0 [.blk x_a0_b0 [.pointer none, int x_a0.f_frame.Kind, int x_a0.f_frame.N, int x_a0.f_left, .bool x_a0.f_done, .bool x_a0.f_bad] 150]) (hm : zdp x_a0 x_a1 = some R) :
    Calls Tryz.prog 81 #[ptr x_a0_b0 0, str x_a1] w0 fun e w' => e = .returned (.tuple #[int R.1, str R.2.1, .bool R.2.2.1, int R.2.2.2.1]) ∧ Dk.Own w0 F w' [.blk x_a0_b0 [.pointer none, int R.2.2.2.2.f_frame.Kind, int R.2.2.2.2.f_frame.N, int R.2.2.2.2.f_left, .bool R.2.2.2.2.f_done, .bool R.2.2.2.2.f_bad] 150] := by
 rw [zdp] at hm
 refine S.enter tb Tryz.func81 rfl Tryz.ntmps81 rfl ?_ hO hm
 refine vl rfl rfl (fun a w hf hO => zZ Tryz.underlying94 hf rfl rfl) ?_
 refine kn (b' := false) rfl rfl ?_
 refine jv 2 [0, 1] [0] (fun J E L => ∃ (t4 : Bool), J ((11, .bool t4) :: E) (L) (za0 x_a0 x_a1 t4)) rfl ?_ ?_
 refine ld 0 rfl rfl ?_
 refine br rfl (fun hc3 => ?_) fun hc3 => ?_
 exact en rfl fun _ _ j => ⟨true, j rfl⟩
 refine ld 0 rfl rfl ?_
 exact en rfl fun _ _ j => ⟨x_a0.f_bad, j rfl⟩
 rintro a w ⟨t4, hf, hO, hm⟩
 rw [za0] at hm
 refine S.co tb ?_ hf hO hm
 refine br rfl (fun hc5 => ?_) fun hc5 => ?_
 refine re_ rfl fun a w hf hO hm => ?_
 obtain rfl := Option.some.inj hm
 exact zb Tryz.results81 hf (.tmp rfl (.tmp rfl (.tmp rfl (.tmp rfl .nil)))) ⟨rfl, hO⟩
 refine jv 0 [0, 1] [] (fun J E L => ∃ (i21 : Int) (i22 : Int) (t23 : Bool), J ((4, int i21) :: E) (.blk x_a0_b0 [.pointer none, int x_a0.f_frame.Kind, int x_a0.f_frame.N, int i22, .bool t23, .bool x_a0.f_bad] 150 :: L) (zaZ x_a0 x_a1 i21 i22 t23)) rfl ?_ ?_
 refine ld 0 rfl rfl ?_
 refine br rfl (fun hc11 => ?_) fun hc11 => ?_
 refine ld 0 rfl rfl ?_
 refine cl c_113 rfl (fun r12 w hr12 hO => zfP x_a1 r12 _ (hG.own hF hO) hr12) fun r12 hr12 => ?_
 refine st 0 rfl rfl ?_
 refine st 0 rfl rfl ?_
 refine re_ rfl fun a w hf hO hm => ?_
 obtain rfl := Option.some.inj hm
 exact zb Tryz.results81 hf (.tmp rfl (.tmp rfl (.tmp rfl (.tmp rfl .nil)))) ⟨rfl, hO⟩
 refine br rfl (fun hc17 => ?_) fun hc17 => ?_
 refine ld 0 rfl rfl ?_
 refine vl rfl rfl (fun a w hf hO => zmm (m := (x_a1.length : Int)) (n := x_a0.f_left) hf rfl rfl) ?_
 refine ld 0 rfl rfl ?_
 refine bi rfl fun i19 hi19 => ?_
 refine st 0 rfl rfl ?_
 refine ld 0 rfl rfl ?_
 refine st 0 rfl rfl ?_
 exact en rfl fun _ _ j => ⟨min (x_a1.length : Int) x_a0.f_left, i19, i19 == 0, j rfl⟩
 exact en rfl fun _ _ j => ⟨(x_a1.length : Int), x_a0.f_left, x_a0.f_done, j rfl⟩
 rintro a w ⟨i21, i22, t23, hf, hO, hm⟩
 rw [zaZ] at hm
 refine S.co tb ?_ hf hO hm
 refine rc_ rfl fun a w hf hO hm => ?_
 refine zbM (by kernel_rfl) (by kernel_rfl) hO ?_
 refine zm (fun w hO => zn hf rfl) rfl hf rfl rfl fun a hf => ?_
 refine zm (fun w hO => zn hf rfl) rfl hf rfl rfl fun a hf => ?_
 refine zm (fun w hO => zn hf rfl) rfl hf rfl rfl fun a hf => ?_
 obtain ⟨s24, hs24, hm⟩ := ob hm
 refine zm (fun w hO => zjH (l := x_a1) Tryz.underlying9 hf rfl rfl hs24) rfl hf rfl rfl fun a hf => ?_
 refine zm (fun w hO => zn hf rfl) rfl hf rfl rfl fun a hf => ?_
 refine zm (fun w hO => zp hf rfl) rfl hf rfl rfl fun a hf => ?_
 refine zm (fun w hO => zr zjU hf rfl) rfl hf rfl rfl fun a hf => ?_
 refine zm (fun w hO => zk (o := 4) ag_4 (hO.blkSees (i := 0) rfl) rfl hf rfl) rfl hf rfl rfl fun a hf => ?_
 refine zm (fun w hO => zv hf rfl) rfl hf rfl rfl fun a hf => ?_
 refine zm (fun w hO => zv hf rfl) rfl hf rfl rfl fun a hf => ?_
 refine zm (fun w hO => zv hf rfl) rfl hf rfl rfl fun a hf => ?_
 refine zm (fun w hO => zv hf rfl) rfl hf rfl rfl fun a hf => ?_
 refine wpQuiet_nil ?_
 intro w hO
 refine S.no tb ?_ hf hO hm
 refine re_ rfl fun a w hf hO hm => ?_
 obtain rfl := Option.some.inj hm
 exact zb Tryz.results81 hf (.tmp rfl (.tmp rfl (.tmp rfl (.tmp rfl .nil)))) ⟨rfl, hO⟩

theorem zhA (x_b : body_Body) (R : Bool × Int × body_Body) (w0 : World) (hG : zt w0) {x_b_b0 : Nat} {F : List Nat} (hF : zo F) (hO : Dk.Own w0 F w0 [.blk x_b_b0 [.pointer none, int x_b.f_frame.Kind, int x_b.f_frame.N, int x_b.f_left, .bool x_b.f_done, .bool x_b.f_bad] 150]) (hm : zdV x_b = some R) :
    Calls Tryz.prog 82 #[ptr x_b_b0 0] w0 fun e w' => e = .returned (.tuple #[.bool R.1, int R.2.1]) ∧ Dk.Own w0 F w' [.blk x_b_b0 [.pointer none, int R.2.2.f_frame.Kind, int R.2.2.f_frame.N, int R.2.2.f_left, .bool R.2.2.f_done, .bool R.2.2.f_bad] 150] := by
 rw [zdV] at hm
 refine S.enter tb Tryz.func82 rfl Tryz.ntmps82 rfl ?_ hO hm
 refine jv 0 [] [] (fun J E L => ∃ (t8 : Bool), J (E) (.blk x_b_b0 [.pointer none, int x_b.f_frame.Kind, int x_b.f_frame.N, int x_b.f_left, .bool t8, .bool x_b.f_bad] 150 :: L) (zbl x_b t8)) rfl ?_ ?_
 refine vl rfl rfl (fun a w hf hO => zZ Tryz.underlying94 hf rfl rfl) ?_
 refine kn (b' := false) rfl rfl ?_
 refine ld 0 rfl rfl ?_
 refine br rfl (fun hc4 => ?_) fun hc4 => ?_
 refine st 0 rfl rfl ?_
 exact en rfl fun _ _ j => ⟨true, j rfl⟩
 refine ld 0 rfl rfl ?_
 refine br rfl (fun hc6 => ?_) fun hc6 => ?_
 refine re_ rfl fun a w hf hO hm => ?_
 obtain rfl := Option.some.inj hm
 exact zb Tryz.results82 hf (.tmp rfl (.tmp rfl .nil)) ⟨rfl, hO⟩
 exact en rfl fun _ _ j => ⟨x_b.f_done, j rfl⟩
 rintro a w ⟨t8, hf, hO, hm⟩
 rw [zbl] at hm
 refine S.co tb ?_ hf hO hm
 refine re_ rfl fun a w hf hO hm => ?_
 obtain rfl := Option.some.inj hm
 exact zb Tryz.results82 hf (.tmp rfl (.tmp rfl .nil)) ⟨rfl, hO⟩

theorem ze8 (R : List api_Field) (w0 : World) (hG : zt w0) (hm : za1 = some R) :
    Calls Tryz.prog 114 #[.pointer none] w0 fun e w' => ∃ (p0 : Option Addr) (c0 : Nat), e = .returned (.slice p0 R.length c0) ∧ Dk.Own w0 [] w' [.row (.slice p0 R.length c0) 107 2 R.length (cells za R)] := by
 rw [za1] at hm
 have hF : zo [] := zf
 have hO : Dk.Own w0 [] w0 [] := Dk.Own.refl w0
 refine S.enter tb Tryz.func114 rfl Tryz.ntmps114 rfl ?_ hO hm
 refine nl 107 2 ?_
 refine vl rfl rfl (fun a w hf hO => zdZ Tryz.underlying146 hf rfl rfl) ?_
 refine kn (b' := true) rfl rfl ?_
 refine nl 107 2 ?_
 refine re_ rfl fun a w hf hO hm => ?_
 obtain rfl := Option.some.inj hm
 exact zb Tryz.results114 hf (.tmp rfl .nil) ⟨none, 0, rfl, (hO.sub (.cons_cons _ (.cons _ .slnil)))⟩

theorem zfQ (x_b : body_Body) (R : List api_Field) (w0 : World) (hG : zt w0) {x_b_b0 : Nat} (hs0 : zw w0 (some ⟨x_b_b0, 0, none⟩) [.pointer none, int x_b.f_frame.Kind, int x_b.f_frame.N, int x_b.f_left, .bool x_b.f_done, .bool x_b.f_bad]) (hm : zbY x_b = some R) :
    Calls Tryz.prog 83 #[ptr x_b_b0 0] w0 fun e w' => ∃ (p0 : Option Addr) (c0 : Nat), e = .returned (.slice p0 R.length c0) ∧ Dk.Own w0 [] w' [.row (.slice p0 R.length c0) 107 2 R.length (cells za R)] := by
 rw [zbY] at hm
 have hF : zo [] := zf
 have hO : Dk.Own w0 [] w0 [] := Dk.Own.refl w0
 have hO := hO.addShr hs0 (by simp [Res.shared])
 refine S.enter tb Tryz.func83 rfl Tryz.ntmps83 rfl ?_ hO hm
 refine nl 107 2 ?_
 refine vl rfl rfl (fun a w hf hO => zZ Tryz.underlying94 hf rfl rfl) ?_
 refine kn (b' := false) rfl rfl ?_
 refine ld 1 rfl rfl ?_
 refine rw_ rfl fun a w hf hO hm => ?_
 obtain ⟨r4, hr4, hm⟩ := ob hm
 refine zg (zi c_114 hf (vs := [.pointer none]) rfl) rfl hf rfl rfl (ze8 r4 _ (hG.own hF hO) hr4) ?_
 rintro e w' ⟨p5, c6, he, hO'⟩
 refine ⟨_, he, fun a hf => ?_⟩
 have hO := hO.call hO' (by simp [Res.shared])
 refine S.op tb ?_ hf hO hm
 refine re_ rfl fun a w hf hO hm => ?_
 obtain rfl := Option.some.inj hm
 exact zb Tryz.results83 hf (.tmp rfl .nil) ⟨p5, c6, rfl, (hO.sub (.cons_cons _ (.cons _ (.cons _ .slnil))))⟩

theorem zcg (x_a0 : message_reader) (x_a1 : Str) (x_a2 : Bool) (R : Int × Int × message_reader) (w0 : World) (hG : zt w0) {x_a0_b0 : Nat} {x_a0_b1 : Nat} {x_a0_p2 : Option Addr} {x_a0_c2 : Nat} {x_a0_p3 : Option Addr} {x_a0_c3 : Nat} {F : List Nat} (hF : zo F) (hO : Dk.Own w0 F w0 [.blk x_a0_b0 [ptr x_a0_b1 0, int x_a0.f_m.Head.Kind, str x_a0.f_m.Head.Method, str x_a0.f_m.Head.Target, int x_a0.f_m.Head.Code, str x_a0.f_m.Head.Reason, int x_a0.f_m.Head.Minor, .slice x_a0_p2 x_a0.f_m.Head.Fields.length x_a0_c2, int x_a0.f_m.Frame.Kind, int x_a0.f_m.Frame.N, str x_a0.f_m.Body, .slice x_a0_p3 x_a0.f_m.Trailers.length x_a0_c3] 96, .blk x_a0_b1 [.pointer none, int x_a0.Body.f_frame.Kind, int x_a0.Body.f_frame.N, int x_a0.Body.f_left, .bool x_a0.Body.f_done, .bool x_a0.Body.f_bad] 150, .row (.slice x_a0_p2 x_a0.f_m.Head.Fields.length x_a0_c2) 107 2 x_a0.f_m.Head.Fields.length (cells za x_a0.f_m.Head.Fields), .row (.slice x_a0_p3 x_a0.f_m.Trailers.length x_a0_c3) 107 2 x_a0.f_m.Trailers.length (cells za x_a0.f_m.Trailers)]) (hm : zal x_a0 x_a1 x_a2 = some R) :
    Calls Tryz.prog 49 #[ptr x_a0_b0 0, str x_a1, .bool x_a2] w0 fun e w' => ∃ (p0 : Option Addr) (c0 : Nat) (p1 : Option Addr) (c1 : Nat), e = .returned (.tuple #[int R.1, int R.2.1]) ∧ Dk.Own w0 F w' [.blk x_a0_b0 [ptr x_a0_b1 0, int R.2.2.f_m.Head.Kind, str R.2.2.f_m.Head.Method, str R.2.2.f_m.Head.Target, int R.2.2.f_m.Head.Code, str R.2.2.f_m.Head.Reason, int R.2.2.f_m.Head.Minor, .slice p0 R.2.2.f_m.Head.Fields.length c0, int R.2.2.f_m.Frame.Kind, int R.2.2.f_m.Frame.N, str R.2.2.f_m.Body, .slice p1 R.2.2.f_m.Trailers.length c1] 96, .blk x_a0_b1 [.pointer none, int R.2.2.Body.f_frame.Kind, int R.2.2.Body.f_frame.N, int R.2.2.Body.f_left, .bool R.2.2.Body.f_done, .bool R.2.2.Body.f_bad] 150, .row (.slice p0 R.2.2.f_m.Head.Fields.length c0) 107 2 R.2.2.f_m.Head.Fields.length (cells za R.2.2.f_m.Head.Fields), .row (.slice p1 R.2.2.f_m.Trailers.length c1) 107 2 R.2.2.f_m.Trailers.length (cells za R.2.2.f_m.Trailers)] := by
 rw [zal] at hm
 refine S.enter tb Tryz.func49 rfl Tryz.ntmps49 rfl ?_ hO hm
 refine jv 0 [0, 2] [2, 3] (fun J E L => ∃ (i13 : Int) (i14 : Int) (i15 : Int) (i16 : Int) (t17 : Bool) (t18 : Bool) (s19 : Str), J ((8, int i13) :: E) (.blk x_a0_b1 [.pointer none, int i14, int i15, int i16, .bool t17, .bool t18] 150 :: .blk x_a0_b0 [ptr x_a0_b1 0, int x_a0.f_m.Head.Kind, str x_a0.f_m.Head.Method, str x_a0.f_m.Head.Target, int x_a0.f_m.Head.Code, str x_a0.f_m.Head.Reason, int x_a0.f_m.Head.Minor, .slice x_a0_p2 x_a0.f_m.Head.Fields.length x_a0_c2, int x_a0.f_m.Frame.Kind, int x_a0.f_m.Frame.N, str s19, .slice x_a0_p3 x_a0.f_m.Trailers.length x_a0_c3] 96 :: L) (zY x_a0 x_a2 i13 i14 i15 i16 t17 t18 s19)) rfl ?_ ?_
 refine ld 0 rfl rfl ?_
 refine cl c_80 rfl (fun r3 w hr3 hO => zez (⟨default, x_a0.Body.f_frame, x_a0.Body.f_left, x_a0.Body.f_done, x_a0.Body.f_bad⟩ : body_Body) r3 _ (hG.own hF hO) (hO.blkSees (i := 1) rfl) hr3) fun r3 hr3 => ?_
 refine br rfl (fun hc5 => ?_) fun hc5 => ?_
 refine ld 0 rfl rfl ?_
 refine rw_ rfl fun a w hf hO hm => ?_
 obtain ⟨r6, hr6, hm⟩ := ob hm
 have hch7 := (show Dk.Own w0 F _ ([.blk x_a0_b1 [.pointer none, int x_a0.Body.f_frame.Kind, int x_a0.Body.f_frame.N, int x_a0.Body.f_left, .bool x_a0.Body.f_done, .bool x_a0.Body.f_bad] 150] ++ [.blk x_a0_b0 [ptr x_a0_b1 0, int x_a0.f_m.Head.Kind, str x_a0.f_m.Head.Method, str x_a0.f_m.Head.Target, int x_a0.f_m.Head.Code, str x_a0.f_m.Head.Reason, int x_a0.f_m.Head.Minor, .slice x_a0_p2 x_a0.f_m.Head.Fields.length x_a0_c2, int x_a0.f_m.Frame.Kind, int x_a0.f_m.Frame.N, str x_a0.f_m.Body, .slice x_a0_p3 x_a0.f_m.Trailers.length x_a0_c3] 96, .row (.slice x_a0_p2 x_a0.f_m.Head.Fields.length x_a0_c2) 107 2 x_a0.f_m.Head.Fields.length (cells za x_a0.f_m.Head.Fields), .row (.slice x_a0_p3 x_a0.f_m.Trailers.length x_a0_c3) 107 2 x_a0.f_m.Trailers.length (cells za x_a0.f_m.Trailers)]) from hO.choose [1, 0, 2, 3] rfl)
 have hfar7 := Dk.Own.far hch7 rfl hF hG.size
 have hlend7 := hch7.lend (S := []) rfl trivial
 have hcl7 := zg8 (⟨default, x_a0.Body.f_frame, x_a0.Body.f_left, x_a0.Body.f_done, x_a0.Body.f_bad⟩ : body_Body) x_a1 r6 _ (hG.own hF hO) hfar7 hlend7 hr6
 refine zg (zi c_81 hf (vs := [ptr x_a0_b1 0, str x_a1]) rfl) rfl hf rfl rfl (hcl7) ?_
 rintro e w' ⟨he, hO'⟩
 refine ⟨_, he, fun a hf => ?_⟩
 have hO := hch7.back rfl hO' rfl
 refine S.op tb ?_ hf hO hm
 refine br rfl (fun hc10 => ?_) fun hc10 => ?_
 refine re_ rfl fun a w hf hO hm => ?_
 obtain rfl := Option.some.inj hm
 exact zb Tryz.results49 hf (.tmp rfl (.tmp rfl .nil)) ⟨x_a0_p2, x_a0_c2, x_a0_p3, x_a0_c3, rfl, (hO.choose [1, 0, 2, 3] rfl)⟩
 refine st 1 rfl rfl ?_
 exact en rfl fun _ _ j => ⟨r6.1, r6.2.2.2.2.f_frame.Kind, r6.2.2.2.2.f_frame.N, r6.2.2.2.2.f_left, r6.2.2.2.2.f_done, r6.2.2.2.2.f_bad, r6.2.1, j rfl⟩
 exact ec [1, 0, 2, 3] rfl rfl rfl fun _ _ j => ⟨0, x_a0.Body.f_frame.Kind, x_a0.Body.f_frame.N, x_a0.Body.f_left, x_a0.Body.f_done, x_a0.Body.f_bad, x_a0.f_m.Body, j rfl⟩
 rintro a w ⟨i13, i14, i15, i16, t17, t18, s19, hf, hO, hm⟩
 rw [zY] at hm
 refine S.co tb ?_ hf hO hm
 refine jv 0 [0, 8] [1, 2, 3] (fun J E L => ∃ (i25 : Int) (i26 : Int) (i27 : Int) (t28 : Bool) (t29 : Bool), J (E) (.blk x_a0_b1 [.pointer none, int i25, int i26, int i27, .bool t28, .bool t29] 150 :: L) (zW x_a0 i13 s19 i25 i26 i27 t28 t29)) rfl ?_ ?_
 refine jv 1 [0, 8] [0, 1, 2, 3] (fun J E L => ∃ (t21 : Bool), J ((48, .bool t21) :: E) (L) (zX x_a0 i13 i14 i15 i16 t17 t18 s19 t21)) rfl ?_ ?_
 refine ld 1 rfl rfl ?_
 refine br rfl (fun hc20 => ?_) fun hc20 => ?_
 exact en rfl fun _ _ j => ⟨x_a2, j rfl⟩
 exact en rfl fun _ _ j => ⟨false, j rfl⟩
 rintro a w ⟨t21, hf, hO, hm⟩
 rw [zX] at hm
 refine S.co tb ?_ hf hO hm
 refine br rfl (fun hc22 => ?_) fun hc22 => ?_
 refine ld 1 rfl rfl ?_
 refine rw_ rfl fun a w hf hO hm => ?_
 obtain ⟨r23, hr23, hm⟩ := ob hm
 have hch24 := (show Dk.Own w0 F _ ([.blk x_a0_b1 [.pointer none, int i14, int i15, int i16, .bool t17, .bool t18] 150] ++ [.blk x_a0_b0 [ptr x_a0_b1 0, int x_a0.f_m.Head.Kind, str x_a0.f_m.Head.Method, str x_a0.f_m.Head.Target, int x_a0.f_m.Head.Code, str x_a0.f_m.Head.Reason, int x_a0.f_m.Head.Minor, .slice x_a0_p2 x_a0.f_m.Head.Fields.length x_a0_c2, int x_a0.f_m.Frame.Kind, int x_a0.f_m.Frame.N, str s19, .slice x_a0_p3 x_a0.f_m.Trailers.length x_a0_c3] 96, .row (.slice x_a0_p2 x_a0.f_m.Head.Fields.length x_a0_c2) 107 2 x_a0.f_m.Head.Fields.length (cells za x_a0.f_m.Head.Fields), .row (.slice x_a0_p3 x_a0.f_m.Trailers.length x_a0_c3) 107 2 x_a0.f_m.Trailers.length (cells za x_a0.f_m.Trailers)]) from hO)
 have hfar24 := Dk.Own.far hch24 rfl hF hG.size
 have hlend24 := hch24.lend (S := []) rfl trivial
 have hcl24 := zhA ((⟨default, (⟨i14, i15⟩ : api_Frame), i16, t17, t18⟩ : body_Body)) r23 _ (hG.own hF hO) hfar24 hlend24 hr23
 refine zg (zi c_82 hf (vs := [ptr x_a0_b1 0]) rfl) rfl hf rfl rfl (hcl24) ?_
 rintro e w' ⟨he, hO'⟩
 refine ⟨_, he, fun a hf => ?_⟩
 have hO := hch24.back rfl hO' rfl
 refine S.op tb ?_ hf hO hm
 exact en rfl fun _ _ j => ⟨r23.2.2.f_frame.Kind, r23.2.2.f_frame.N, r23.2.2.f_left, r23.2.2.f_done, r23.2.2.f_bad, j rfl⟩
 exact en rfl fun _ _ j => ⟨i14, i15, i16, t17, t18, j rfl⟩
 rintro a w ⟨i25, i26, i27, t28, t29, hf, hO, hm⟩
 rw [zW] at hm
 refine S.co tb ?_ hf hO hm
 refine ld 1 rfl rfl ?_
 refine cl c_80 rfl (fun r30 w hr30 hO => zez ((⟨default, (⟨i25, i26⟩ : api_Frame), i27, t28, t29⟩ : body_Body)) r30 _ (hG.own hF hO) (hO.blkSees (i := 0) rfl) hr30) fun r30 hr30 => ?_
 refine br rfl (fun hc32 => ?_) fun hc32 => ?_
 refine re_ rfl fun a w hf hO hm => ?_
 obtain rfl := Option.some.inj hm
 exact zb Tryz.results49 hf (.tmp rfl (.tmp rfl .nil)) ⟨x_a0_p2, x_a0_c2, x_a0_p3, x_a0_c3, rfl, (hO.choose [1, 0, 2, 3] rfl)⟩
 refine ld 1 rfl rfl ?_
 refine rw_ rfl fun a w hf hO hm => ?_
 obtain ⟨r35, hr35, hm⟩ := ob hm
 refine zg (zi c_83 hf (vs := [ptr x_a0_b1 0]) rfl) rfl hf rfl rfl (zfQ ((⟨default, (⟨i25, i26⟩ : api_Frame), i27, t28, t29⟩ : body_Body)) r35 _ (hG.own hF hO) (hO.blkSees (i := 0) rfl) hr35) ?_
 rintro e w' ⟨p36, c37, he, hO'⟩
 refine ⟨_, he, fun a hf => ?_⟩
 have hO := hO.call hO' (by simp [Res.shared])
 refine S.op tb ?_ hf hO hm
 refine st 2 rfl rfl ?_
 refine re_ rfl fun a w hf hO hm => ?_
 obtain rfl := Option.some.inj hm
 exact zb Tryz.results49 hf (.tmp rfl (.tmp rfl .nil)) ⟨x_a0_p2, x_a0_c2, p36, c37, rfl, (hO.choose [2, 1, 3, 0] rfl)⟩

end Go.Proofs
end
