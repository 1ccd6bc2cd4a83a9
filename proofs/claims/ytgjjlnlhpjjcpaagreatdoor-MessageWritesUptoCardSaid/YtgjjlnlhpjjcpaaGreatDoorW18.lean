/-
  Walks, written by a program (wip/gen): what its model says, the function returns; what was there before is as it was.
  Walks, written by a program (wip/gen): what its model says, the function returns; what was there before is as it was.
-/
import Derived.Test.YtgjjlnlhpjjcpaaGreatDoorLib
import Derived.Test.YtgjjlnlhpjjcpaaGreatDoorW14
import Derived.Test.YtgjjlnlhpjjcpaaGreatDoorW9
section
set_option linter.unusedVariables false
set_option maxHeartbeats 1000000
set_option linter.unusedSimpArgs false
set_option maxRecDepth 100000
namespace Go.Proofs
open Go.Dk Go.Dm Go.RowKit

theorem zl8 (x_c : enchunk_Encoder) (x_s : Str) (R : Str × Int × enchunk_Encoder) (w0 : World) (hG : zaq w0) {x_c_b0 : Nat} {F : List Nat} (hF : zq F) (hO : Dk.Own w0 F w0 [.blk x_c_b0 [int x_c.f_size, str x_c.f_buf, .bool x_c.f_done] 162]) (hm : zdM x_c x_s = some R) :
    Calls Tryz.prog 53 #[ptr x_c_b0 0, str x_s] w0 fun e w' => e = .returned (.tuple #[str R.1, int R.2.1]) ∧ Dk.Own w0 F w' [.blk x_c_b0 [int R.2.2.f_size, str R.2.2.f_buf, .bool R.2.2.f_done] 162] := by
 rw [zdM] at hm
 refine S.enter tb Tryz.func53 rfl Tryz.ntmps53 rfl ?_ hO hm
 refine cl c_82 rfl (fun r2 w hr2 hO => zgQ x_c r2 _ (hG.own hF hO).1 (hO.blkSees (i := 0) rfl) hr2) fun r2 hr2 => ?_
 refine br rfl (fun hc5 => ?_) fun hc5 => ?_
 refine re_ rfl fun a w hf hO hm => ?_
 obtain rfl := Option.some.inj hm
 exact zc Tryz.results53 hf (.tmp rfl (.tmp rfl .nil)) ⟨rfl, hO⟩
 refine nl 9 1 ?_
 refine ld 1 rfl rfl ?_
 refine bi rfl fun s9 hs9 => ?_
 refine st 1 rfl rfl ?_
 refine jv 0 [] [] (fun J E L => ∃ (p28 : Option Addr) (c29 : Nat) (l30 : List Str) (i31 : Int) (s32 : Str) (t33 : Bool), J ((7, .slice p28 l30.length c29) :: E) (.row (.slice p28 l30.length c29) 9 1 l30.length (cells zf l30) :: .blk x_c_b0 [int i31, str s32, .bool t33] 162 :: L) (zcB l30 i31 s32 t33)) rfl ?_ ?_
 refine lv [0] [] (fun J E L k => ∃ (p11 : Option Addr) (c12 : Nat) (l13 : List Str) (i14 : Int) (s15 : Str) (t16 : Bool), J ((7, .slice p11 l13.length c12) :: E) (.row (.slice p11 l13.length c12) 9 1 l13.length (cells zf l13) :: .blk x_c_b0 [int i14, str s15, .bool t16] 162 :: L) (zap k l13 i14 s15 t16)) rfl (fun _ _ j => ⟨none, 0, [], x_c.f_size, s9, x_c.f_done, j rfl⟩) ?_
 rintro n1 a w ⟨p11, c12, l13, i14, s15, t16, hf, hO, hm⟩
 obtain _ | n1 := n1
 rw [zap] at hm
 cases hm
 rw [zap] at hm
 refine S.co tb ?_ hf hO hm
 refine rc_ rfl fun a w hf hO hm => ?_
 refine zcO (by kernel_rfl) (by kernel_rfl) hO ?_
 refine zj (fun w hO => zA hf rfl) rfl hf rfl rfl fun a hf => ?_
 refine zj (fun w hO => zac hf rfl) rfl hf rfl rfl fun a hf => ?_
 refine zj (fun w hO => zX zuH hf rfl) rfl hf rfl rfl fun a hf => ?_
 refine zj (fun w hO => zk (o := 1) zbx (hO.blkSees (i := 1) rfl) rfl hf rfl) rfl hf rfl rfl fun a hf => ?_
 refine zj (fun w hO => zuw (l := s15) Tryz.underlying9 hf rfl) rfl hf rfl rfl fun a hf => ?_
 refine zj (fun w hO => zA hf rfl) rfl hf rfl rfl fun a hf => ?_
 refine zj (fun w hO => zac hf rfl) rfl hf rfl rfl fun a hf => ?_
 refine zj (fun w hO => zX zuG hf rfl) rfl hf rfl rfl fun a hf => ?_
 refine zj (fun w hO => zk (o := 0) znm (hO.blkSees (i := 1) rfl) rfl hf rfl) rfl hf rfl rfl fun a hf => ?_
 refine zj (fun w hO => zvU (m := (s15.length : Int)) (n := i14) hf rfl rfl) rfl hf rfl rfl fun a hf => ?_
 refine wpQuiet_nil ?_
 intro w hO
 refine S.no tb ?_ hf hO hm
 refine br rfl (fun hc18 => ?_) fun hc18 => ?_
 refine rc_ rfl fun a w hf hO hm => ?_
 obtain ⟨s20, hs20, hm⟩ := ob hm
 obtain ⟨r21, hr21, hm⟩ := ob hm
 obtain ⟨hg25, hm⟩ := og hm
 refine dS (S := Nat × Option Addr × Nat) [(0, ptr x_c_b0 0), (7, .slice p11 l13.length c12)] (fun σ => (fun (q0 q1 q2 : Res) => [[q0, q1], [q0, q1], [q2, q0, q1], [q2, .row (.slice (σ.2.1) ((l13 ++ ([r21] : List Str)).length) (σ.2.2)) 9 1 ((l13 ++ ([r21] : List Str)).length) (cells zf (l13 ++ ([r21] : List Str))), q1]]) (.row (.slice p11 l13.length c12) 9 1 l13.length (cells zf l13)) (.blk x_c_b0 [int i14, str s15, .bool t16] 162) (.row (.slice (some ⟨(σ.1), 0, none⟩) (([r21] : List Str).length) 1) 9 1 (([r21] : List Str).length) (cells zf ([r21] : List Str)))) (fun σ => [⟨[(7, .slice p11 l13.length c12)], some (31, .slice p11 l13.length c12)⟩, ⟨[(0, ptr x_c_b0 0)], some (32, ptr x_c_b0 0)⟩, ⟨[(32, ptr x_c_b0 0)], some (33, ptr x_c_b0 0)⟩, ⟨[(33, ptr x_c_b0 0)], some (34, ptr x_c_b0 1)⟩, ⟨[(34, ptr x_c_b0 1)], some (35, str s15)⟩, ⟨[(0, ptr x_c_b0 0)], some (36, ptr x_c_b0 0)⟩, ⟨[(36, ptr x_c_b0 0)], some (37, ptr x_c_b0 0)⟩, ⟨[(37, ptr x_c_b0 0)], some (38, ptr x_c_b0 0)⟩, ⟨[(38, ptr x_c_b0 0)], some (39, int i14)⟩, ⟨[(35, str s15), (39, int i14)], some (40, str s20)⟩, ⟨[(40, str s20)], some (41, str r21)⟩, ⟨[(41, str r21)], some (42, .slice (some ⟨(σ.1), 0, none⟩) (([r21] : List Str).length) 1)⟩, ⟨[(31, .slice p11 l13.length c12), (42, .slice (some ⟨(σ.1), 0, none⟩) (([r21] : List Str).length) 1)], some (43, .slice (σ.2.1) ((l13 ++ ([r21] : List Str)).length) (σ.2.2))⟩, ⟨[(43, .slice (σ.2.1) ((l13 ++ ([r21] : List Str)).length) (σ.2.2))], some (7, .slice (σ.2.1) ((l13 ++ ([r21] : List Str)).length) (σ.2.2))⟩]) (0, none, 0) [10, 11, 12] hO hf ⟨sE tb, sE tb, sE tb, sE tb, sD tb 0 [1], sE tb, sE tb, sE tb, sD tb 0 [1], sP (fun hf => zoB (l := s15) Tryz.underlying9 hf rfl rfl hs20), sC 0 (fun hf => zak c_83 hf (vs := [str s20]) rfl) (@fun σ w hO => (zj5 s20 r21 _ (hG.own hF hO) hr21).mono fun e w' ⟨he, hb⟩ => cR (σ := σ) ((σ.1), (σ.2.1), (σ.2.2)) he (hO.grow hb)), sV 1 (@fun σ w hO => match zeY (E := [(41, str r21)]) (parts := #[(0, (.tmp 41))]) (t' := 30) (n := 1) (vs := [(0, str r21)]) (cs := [str r21]) (e := 9) (sz := 1) (fun w => by kernel_rfl) rfl rfl hO rfl with | ⟨b22, w', hO', hr⟩ => vR (σ := σ) (b22, (σ.2.1), (σ.2.2)) hO' hr), sV 2 (@fun σ w hO => match zpM (E := [(31, .slice p11 l13.length c12), (42, .slice (some ⟨(σ.1), 0, none⟩) (([r21] : List Str).length) 1)]) (x := (.tmp 31)) (y := (.tmp 42)) zjy (enc := zf) (xs := l13) (ys := ([r21] : List Str)) (i := 1) (fun _ => rfl) rfl (hO.rowSees (i := 0) rfl) (by simp [cells, zf, Value.oneCell']) hg25 hO rfl rfl with | ⟨p23, c24, w', hO', hr⟩ => vR (σ := σ) ((σ.1), p23, c24) hO' hr), sE tb, trivial⟩ ?_
 rintro ⟨b22, p23, c24⟩ a w hf hO
 have hO : Dk.Own w0 F w [.row (.slice (some ⟨b22, 0, none⟩) (([r21] : List Str).length) 1) 9 1 (([r21] : List Str).length) (cells zf ([r21] : List Str)), .row (.slice p23 ((l13 ++ ([r21] : List Str)).length) c24) 9 1 ((l13 ++ ([r21] : List Str)).length) (cells zf (l13 ++ ([r21] : List Str))), .blk x_c_b0 [int i14, str s15, .bool t16] 162] := hO
 have hf : Fits 58 [(0, ptr x_c_b0 0), (7, .slice p23 ((l13 ++ ([r21] : List Str)).length) c24)] a := (hf.cons rfl (hf.cons rfl hf.nil))
 refine S.no tb ?_ hf hO hm
 refine rc_ rfl fun a w hf hO hm => ?_
 obtain ⟨s27, hs27, hm⟩ := ob hm
 refine dS (S := Unit) [(0, ptr x_c_b0 0), (7, .slice p23 ((l13 ++ ([r21] : List Str)).length) c24)] (fun _ => (fun (q0 q1 : Res) => [[q0, q1, .blk x_c_b0 [int i14, str s15, .bool t16] 162], [q0, q1, .blk x_c_b0 [int i14, str s27, .bool t16] 162]]) (.row (.slice (some ⟨b22, 0, none⟩) (([r21] : List Str).length) 1) 9 1 (([r21] : List Str).length) (cells zf ([r21] : List Str))) (.row (.slice p23 ((l13 ++ ([r21] : List Str)).length) c24) 9 1 ((l13 ++ ([r21] : List Str)).length) (cells zf (l13 ++ ([r21] : List Str))))) (fun σ => [⟨[(0, ptr x_c_b0 0)], some (44, ptr x_c_b0 0)⟩, ⟨[(0, ptr x_c_b0 0)], some (45, ptr x_c_b0 0)⟩, ⟨[(45, ptr x_c_b0 0)], some (46, ptr x_c_b0 0)⟩, ⟨[(46, ptr x_c_b0 0)], some (47, ptr x_c_b0 1)⟩, ⟨[(47, ptr x_c_b0 1)], some (48, str s15)⟩, ⟨[(0, ptr x_c_b0 0)], some (49, ptr x_c_b0 0)⟩, ⟨[(49, ptr x_c_b0 0)], some (50, ptr x_c_b0 0)⟩, ⟨[(50, ptr x_c_b0 0)], some (51, ptr x_c_b0 0)⟩, ⟨[(51, ptr x_c_b0 0)], some (52, int i14)⟩, ⟨[(48, str s15), (52, int i14)], some (53, str s27)⟩, ⟨[(44, ptr x_c_b0 0)], some (54, ptr x_c_b0 0)⟩, ⟨[(54, ptr x_c_b0 0)], some (55, ptr x_c_b0 1)⟩, ⟨[(53, str s27), (55, ptr x_c_b0 1)], none⟩]) () [12] hO hf ⟨sE tb, sE tb, sE tb, sE tb, sD tb 0 [2], sE tb, sE tb, sE tb, sD tb 0 [2], sP (fun hf => zkS (l := s15) Tryz.underlying9 hf rfl rfl hs27), sE tb, sE tb, sK 0 (@fun σ w hO => match zpL (x := (.tmp 55)) (y := (.tmp 53)) (E := [(53, str s27), (55, ptr x_c_b0 1)]) (i := 2) (o := 1) (v := str s27) zdD rfl rfl rfl rfl hO rfl rfl with | ⟨w', hO', hr⟩ => vR (σ := σ) () hO' hr), trivial⟩ ?_
 rintro _ a w hf hO
 have hO : Dk.Own w0 F w [.row (.slice (some ⟨b22, 0, none⟩) (([r21] : List Str).length) 1) 9 1 (([r21] : List Str).length) (cells zf ([r21] : List Str)), .row (.slice p23 ((l13 ++ ([r21] : List Str)).length) c24) 9 1 ((l13 ++ ([r21] : List Str)).length) (cells zf (l13 ++ ([r21] : List Str))), .blk x_c_b0 [int i14, str s27, .bool t16] 162] := hO
 have hf : Fits 58 [(0, ptr x_c_b0 0), (7, .slice p23 ((l13 ++ ([r21] : List Str)).length) c24)] a := (hf.cons rfl (hf.cons rfl hf.nil))
 refine S.no tb ?_ hf hO hm
 exact ec [1, 2] rfl rfl rfl fun _ _ j => ⟨_, Nat.lt_succ_self _, p23, c24, l13 ++ ([r21] : List Str), i14, s27, t16, j rfl⟩
 exact en rfl fun _ _ j => ⟨p11, c12, l13, i14, s15, t16, j rfl⟩
 rintro a w ⟨p28, c29, l30, i31, s32, t33, hf, hO, hm⟩
 rw [zcB] at hm
 refine S.co tb ?_ hf hO hm
 refine cl c_63 rfl (fun r34 w hr34 hO => zhm [] l30 r34 _ (hG.own hF hO).1 (hO.rowSees (i := 0) rfl) (hO.rowCap (i := 0) rfl) hr34) fun r34 hr34 => ?_
 refine re_ rfl fun a w hf hO hm => ?_
 obtain rfl := Option.some.inj hm
 exact zc Tryz.results53 hf (.tmp rfl (.tmp rfl .nil)) ⟨rfl, (hO.sub (.cons _ (.cons_cons _ .slnil)))⟩

theorem zl9 (x_c : enchunk_Encoder) (x_trailers : List api_Field) (R : Str × Int × enchunk_Encoder) (w0 : World) (hG : zaq w0) {x_c_b0 : Nat} {x_trailers_p1 : Option Addr} {x_trailers_c1 : Nat} {F : List Nat} (hF : zq F) (hO : Dk.Own w0 F w0 [.blk x_c_b0 [int x_c.f_size, str x_c.f_buf, .bool x_c.f_done] 162, .shr x_trailers_p1 (cells za x_trailers)]) (hcw0 : x_trailers.length ≤ x_trailers_c1) (hm : zdN x_c x_trailers = some R) :
    Calls Tryz.prog 54 #[ptr x_c_b0 0, .slice x_trailers_p1 x_trailers.length x_trailers_c1] w0 fun e w' => e = .returned (.tuple #[str R.1, int R.2.1]) ∧ Dk.Own w0 F w' [.blk x_c_b0 [int R.2.2.f_size, str R.2.2.f_buf, .bool R.2.2.f_done] 162] := by
 rw [zdN] at hm
 refine S.enter tb Tryz.func54 rfl Tryz.ntmps54 rfl ?_ hO hm
 refine cl c_82 rfl (fun r2 w hr2 hO => zgQ x_c r2 _ (hG.own hF hO).1 (hO.blkSees (i := 0) rfl) hr2) fun r2 hr2 => ?_
 refine br rfl (fun hc5 => ?_) fun hc5 => ?_
 refine re_ rfl fun a w hf hO hm => ?_
 obtain rfl := Option.some.inj hm
 exact zc Tryz.results54 hf (.tmp rfl (.tmp rfl .nil)) ⟨rfl, (hO.sub (.cons_cons _ (.cons _ .slnil)))⟩
 refine cl c_33 rfl (fun r8 w hr8 hO => zh0 x_trailers r8 _ (hG.own hF hO).1 (hO.sees (i := 1) rfl) hcw0 hr8) fun r8 hr8 => ?_
 refine br rfl (fun hc11 => ?_) fun hc11 => ?_
 refine re_ rfl fun a w hf hO hm => ?_
 obtain rfl := Option.some.inj hm
 exact zc Tryz.results54 hf (.tmp rfl (.tmp rfl .nil)) ⟨rfl, (hO.sub (.cons_cons _ (.cons _ .slnil)))⟩
 refine ld 0 rfl rfl ?_
 refine cl c_83 rfl (fun r14 w hr14 hO => zj5 x_c.f_buf r14 _ (hG.own hF hO) hr14) fun r14 hr14 => ?_
 refine bi rfl fun s15 hs15 => ?_
 refine st 0 rfl rfl ?_
 refine st 0 rfl rfl ?_
 refine re_ rfl fun a w hf hO hm => ?_
 obtain rfl := Option.some.inj hm
 exact zc Tryz.results54 hf (.tmp rfl (.tmp rfl .nil)) ⟨rfl, (hO.sub (.cons_cons _ (.cons _ .slnil)))⟩

theorem zfc (R : Int) (w0 : World) (hG : zr w0) (hm : zbY = some R) :
    Calls Tryz.prog 82 #[.pointer none] w0 (Ret w0 (fun R => int R) R) := by
 rw [zbY] at hm
 have hF : zq [] := ze
 have hO : Dk.Own w0 [] w0 [] := Dk.Own.refl w0
 refine S.enter tb Tryz.func82 rfl Tryz.ntmps82 rfl ?_ hO hm
 refine vl rfl rfl (fun a w hf hO => zpw Tryz.underlying120 hf rfl rfl) ?_
 refine kn (b' := true) rfl rfl ?_
 exact rt Tryz.results82 rfl

theorem zky (x_s : Str) (R : Str × Int) (w0 : World) (hG : zaq w0) (hm : zev x_s = some R) :
    Calls Tryz.prog 53 #[.pointer none, str x_s] w0 (Ret w0 (fun R => .tuple #[str R.1, int R.2]) R) := by
 rw [zev] at hm
 have hF : zq [] := ze
 have hO : Dk.Own w0 [] w0 [] := Dk.Own.refl w0
 refine S.enter tb Tryz.func53 rfl Tryz.ntmps53 rfl ?_ hO hm
 refine cl c_82 rfl (fun r2 w hr2 hO => zfc r2 _ (hG.own hF hO).1 hr2) fun r2 hr2 => ?_
 refine br rfl (fun hc5 => ?_) fun hc5 => ?_
 exact rt Tryz.results53 rfl
 refine nl 9 1 ?_
 refine rw_ rfl fun a w hf hO hm => ?_
 cases hm

theorem zkz (x_trailers : List api_Field) (R : Str × Int) (w0 : World) (hG : zaq w0) {x_trailers_p0 : Option Addr} {x_trailers_c0 : Nat} (hs0 : zC w0 x_trailers_p0 (cells za x_trailers)) (hc0 : x_trailers.length ≤ x_trailers_c0) (hm : zew x_trailers = some R) :
    Calls Tryz.prog 54 #[.pointer none, .slice x_trailers_p0 x_trailers.length x_trailers_c0] w0 (Ret w0 (fun R => .tuple #[str R.1, int R.2]) R) := by
 rw [zew] at hm
 have hF : zq [] := ze
 have hO : Dk.Own w0 [] w0 [] := Dk.Own.refl w0
 have hO := hO.addShr hs0 (by simp [Res.shared])
 refine S.enter tb Tryz.func54 rfl Tryz.ntmps54 rfl ?_ hO hm
 refine cl c_82 rfl (fun r2 w hr2 hO => zfc r2 _ (hG.own hF hO).1 hr2) fun r2 hr2 => ?_
 refine br rfl (fun hc5 => ?_) fun hc5 => ?_
 exact rt Tryz.results54 rfl
 refine cl c_33 rfl (fun r8 w hr8 hO => zh0 x_trailers r8 _ (hG.own hF hO).1 (hO.sees (i := 0) rfl) hc0 hr8) fun r8 hr8 => ?_
 refine br rfl (fun hc11 => ?_) fun hc11 => ?_
 exact rt Tryz.results54 rfl
 refine rw_ rfl fun a w hf hO hm => ?_
 cases hm

theorem zsh (x_size : Int) (x_body : Str) (x_trailers : List api_Field) (R : Str × Int) (w0 : World) (hG : zaq w0) {x_trailers_p0 : Option Addr} {x_trailers_c0 : Nat} (hs0 : zC w0 x_trailers_p0 (cells za x_trailers)) (hc0 : x_trailers.length ≤ x_trailers_c0) (hm : ziP x_size x_body x_trailers = some R) :
    Calls Tryz.prog 27 #[int x_size, str x_body, .slice x_trailers_p0 x_trailers.length x_trailers_c0] w0 (Ret w0 (fun R => .tuple #[str R.1, int R.2]) R) := by
 rw [ziP] at hm
 have hF : zq [] := ze
 have hO : Dk.Own w0 [] w0 [] := Dk.Own.refl w0
 have hO := hO.addShr hs0 (by simp [Res.shared])
 refine S.enter tb Tryz.func27 rfl Tryz.ntmps27 rfl ?_ hO hm
 refine jn 0 (fun a w => (∃ (i6 : Int), Fits 39 [(1, str x_body), (2, .slice x_trailers_p0 x_trailers.length x_trailers_c0), (8, .pointer none), (9, int i6)] a ∧ Dk.Own w0 [] w [.shr x_trailers_p0 (cells za x_trailers)] ∧ zhC x_body x_trailers i6 = some R) ∨ (∃ (b21 : Nat) (i22 : Int) (i23 : Int) (s24 : Str) (t25 : Bool), Fits 39 [(1, str x_body), (2, .slice x_trailers_p0 x_trailers.length x_trailers_c0), (8, ptr b21 0), (9, int i22)] a ∧ Dk.Own w0 [] w [.blk b21 [int i23, str s24, .bool t25] 162, .shr x_trailers_p0 (cells za x_trailers)] ∧ zd6 x_body x_trailers i22 i23 s24 t25 = some R)) rfl ?_ ?_
 refine rw_ rfl fun a w hf hO hm => ?_
 obtain ⟨r2, hr2, hm⟩ := ob hm
 refine zmo (zak c_52 hf (vs := [int x_size]) rfl) rfl hf rfl rfl (zsd x_size r2 _ (hG.own hF hO).1 hr2) ?_
 rintro e w' hpost3
 rcases hopt3 : r2.1 with _ | x4
 have hm := zt2 hopt3 hm
 obtain ⟨he, hb⟩ := zqG hopt3 hpost3
 refine ⟨_, he, fun a hf => ?_⟩
 have hO := hO.grow hb
 refine S.op tb ?_ hf hO hm
 refine eo rfl fun a w hf hO hm => ?_
 exact Or.inl ⟨r2.2, hf.sel rfl, hO, hm⟩
 have hm := zt3 hopt3 hm
 obtain ⟨b5, he, hO'⟩ := zqH hopt3 hpost3
 refine ⟨_, he, fun a hf => ?_⟩
 have hO := hO.call hO' (by simp [Res.shared])
 refine S.op tb ?_ hf hO hm
 refine eo rfl fun a w hf hO hm => ?_
 exact Or.inr (⟨b5, r2.2, x4.f_size, x4.f_buf, x4.f_done, hf.sel rfl, hO, hm⟩)
 rintro a w (⟨i6, hf, hO, hm⟩ | ⟨b21, i22, i23, s24, t25, hf, hO, hm⟩)
 rw [zhC] at hm
 refine S.co tb ?_ hf hO hm
 refine br rfl (fun hc8 => ?_) fun hc8 => ?_
 exact rt Tryz.results27 rfl
 refine cl c_53 rfl (fun r11 w hr11 hO => zky x_body r11 _ (hG.own hF hO) hr11) fun r11 hr11 => ?_
 refine cl c_54 rfl (fun r13 w hr13 hO => zkz x_trailers r13 _ (hG.own hF hO) (hO.sees (i := 0) rfl) hc0 hr13) fun r13 hr13 => ?_
 refine br rfl (fun hc16 => ?_) fun hc16 => ?_
 exact rt Tryz.results27 rfl
 refine bi rfl fun s19 hs19 => ?_
 exact rt Tryz.results27 rfl
 rw [zd6] at hm
 refine S.co tb ?_ hf hO hm
 refine br rfl (fun hc27 => ?_) fun hc27 => ?_
 exact rt Tryz.results27 rfl
 refine cw0 c_53 [0, 1] 1 [] rfl (fun r30 w hr30 hO hfar31 hlend31 => zl8 (⟨i23, s24, t25⟩ : enchunk_Encoder) x_body r30 _ (hG.own hF hO) hfar31 hlend31 hr30) (fun _ _ => trivial) hF hG.size fun r30 hr30 => ?_
 refine cw0 c_54 [0, 1] 1 [.shr x_trailers_p0 (cells za x_trailers)] rfl (fun r33 w hr33 hO hfar34 hlend34 => zl9 r30.2.2 x_trailers r33 _ (hG.own hF hO) hfar34 hlend34 hc0 hr33) (fun w hO => ⟨zxW (hO.sees (i := 1) rfl) (List.mem_of_getElem? (i := 0) rfl), trivial⟩) hF hG.size fun r33 hr33 => ?_
 refine br rfl (fun hc37 => ?_) fun hc37 => ?_
 exact rt Tryz.results27 rfl
 refine bi rfl fun s40 hs40 => ?_
 exact rt Tryz.results27 rfl

theorem zqr (x_method : Str) (x_m : api_Message) (x_limit : Int) (x_size : Int) (R : Str × Int) (w0 : World) (hG : zaq w0) {x_m_p0 : Option Addr} {x_m_c0 : Nat} (hs0 : zC w0 x_m_p0 (cells za x_m.Head.Fields)) (hc0 : x_m.Head.Fields.length ≤ x_m_c0) {x_m_p1 : Option Addr} {x_m_c1 : Nat} (hs1 : zC w0 x_m_p1 (cells za x_m.Trailers)) (hc1 : x_m.Trailers.length ≤ x_m_c1) (hm : zgt x_method x_m x_limit x_size = some R) :
    Calls Tryz.prog 15 #[str x_method, .agg #[int x_m.Head.Kind, str x_m.Head.Method, str x_m.Head.Target, int x_m.Head.Code, str x_m.Head.Reason, int x_m.Head.Minor, .slice x_m_p0 x_m.Head.Fields.length x_m_c0, int x_m.Frame.Kind, int x_m.Frame.N, str x_m.Body, .slice x_m_p1 x_m.Trailers.length x_m_c1], int x_limit, int x_size] w0 (Ret w0 (fun R => .tuple #[str R.1, int R.2]) R) := by
 rw [zgt] at hm
 have hF : zq [] := ze
 have hO : Dk.Own w0 [] w0 [] := Dk.Own.refl w0
 have hO := hO.addShr hs0 (by simp [Res.shared])
 have hO := hO.addShr hs1 (by simp [Res.shared])
 refine S.enter tb Tryz.func15 rfl Tryz.ntmps15 rfl ?_ hO hm
 refine bo rfl fun b1 => ?_
 refine ld 0 rfl rfl ?_
 refine cl c_17 rfl (fun r3 w hr3 hO => zlX x_method x_m r3 _ (hG.own hF hO) (hO.sees (i := 2) rfl) hc0 (hO.sees (i := 1) rfl) hc1 hr3) fun r3 hr3 => ?_
 refine br rfl (fun hc6 => ?_) fun hc6 => ?_
 exact rt Tryz.results15 rfl
 refine ld 0 rfl rfl ?_
 refine cl c_26 rfl (fun r9 w hr9 hO => ztj x_m.Head x_limit r9 _ (hG.own hF hO) (hO.sees (i := 2) rfl) hc0 hr9) fun r9 hr9 => ?_
 refine br rfl (fun hc12 => ?_) fun hc12 => ?_
 exact rt Tryz.results15 rfl
 refine ld 0 rfl rfl ?_
 refine jv 0 [11] [0, 1, 2] (fun J E L => ∃ (i19 : Int) (s20 : Str), J ((12, int i19) :: (13, str s20) :: E) (L) (zd7 r9 i19 s20)) rfl ?_ ?_
 refine ld 0 rfl rfl ?_
 refine br rfl (fun hc17 => ?_) fun hc17 => ?_
 refine ld 0 rfl rfl ?_
 refine ld 0 rfl rfl ?_
 refine cl c_27 rfl (fun r18 w hr18 hO => zsh x_size x_m.Body x_m.Trailers r18 _ (hG.own hF hO) (hO.sees (i := 1) rfl) hc1 hr18) fun r18 hr18 => ?_
 exact en rfl fun _ _ j => ⟨r18.2, r18.1, j rfl⟩
 exact en rfl fun _ _ j => ⟨r9.2, x_m.Body, j rfl⟩
 rintro a w ⟨i19, s20, hf, hO, hm⟩
 rw [zd7] at hm
 refine S.co tb ?_ hf hO hm
 refine br rfl (fun hc22 => ?_) fun hc22 => ?_
 exact rt Tryz.results15 rfl
 refine bi rfl fun s25 hs25 => ?_
 exact rt Tryz.results15 rfl

theorem zoH (x_a0 : api_Head) (R : Str × Int) (w0 : World) (hG : zr w0) {x_a0_p0 : Option Addr} {x_a0_c0 : Nat} (hs0 : zC w0 x_a0_p0 (cells za x_a0.Fields)) (hc0 : x_a0.Fields.length ≤ x_a0_c0) (hm : zih x_a0 = some R) :
    Calls Tryz.prog 55 #[.agg #[int x_a0.Kind, str x_a0.Method, str x_a0.Target, int x_a0.Code, str x_a0.Reason, int x_a0.Minor, .slice x_a0_p0 x_a0.Fields.length x_a0_c0]] w0 (Ret w0 (fun R => .tuple #[str R.1, int R.2]) R) := by
 rw [zih] at hm
 have hF : zq [] := ze
 have hO : Dk.Own w0 [] w0 [] := Dk.Own.refl w0
 have hO := hO.addShr hs0 (by simp [Res.shared])
 refine S.enter tb Tryz.func55 rfl Tryz.ntmps55 rfl ?_ hO hm
 refine bo rfl fun b1 => ?_
 refine ld 0 rfl rfl ?_
 refine cl c_84 rfl (fun r3 w hr3 hO => zje x_a0.Minor 10 r3 _ (hG.own hF hO) hr3) fun r3 hr3 => ?_
 refine bi rfl fun s4 hs4 => ?_
 refine ld 0 rfl rfl ?_
 refine bi rfl fun s6 hs6 => ?_
 refine ld 0 rfl rfl ?_
 refine bi rfl fun s7 hs7 => ?_
 refine bi rfl fun s8 hs8 => ?_
 refine bi rfl fun s9 hs9 => ?_
 refine jv 0 [1] [0, 1] (fun J E L => ∃ (s18 : Str), J ((5, str s18) :: E) (L) (zeX x_a0 s18)) rfl ?_ ?_
 refine ld 0 rfl rfl ?_
 refine br rfl (fun hc12 => ?_) fun hc12 => ?_
 refine rc_ rfl fun a w hf hO hm => ?_
 refine zcO (by kernel_rfl) (by kernel_rfl) hO ?_
 refine zj (fun w hO => zA hf rfl) rfl hf rfl rfl fun a hf => ?_
 obtain ⟨s13, hs13, hm⟩ := ob hm
 refine zj (fun w hO => zpx (l := s4) (m := [32]) hf rfl rfl hs13) rfl hf rfl rfl fun a hf => ?_
 refine zj (fun w hO => zX zwF hf rfl) rfl hf rfl rfl fun a hf => ?_
 refine zj (fun w hO => zk (o := 3) znm (hO.blkSees (i := 0) rfl) rfl hf rfl) rfl hf rfl rfl fun a hf => ?_
 obtain ⟨r14, hr14, hm⟩ := ob hm
 refine zn6 (fun w hO => zak c_84 hf (vs := [int x_a0.Code, int 10]) rfl) rfl hf rfl rfl (fun w hO => (zje x_a0.Code 10 r14 _ (hG.own hF hO) hr14).mono fun e w' ⟨he, hb⟩ => ⟨he, hO.grow hb⟩) fun a hf => ?_
 obtain ⟨s15, hs15, hm⟩ := ob hm
 refine zj (fun w hO => zpx (l := s13) (m := r14) hf rfl rfl hs15) rfl hf rfl rfl fun a hf => ?_
 obtain ⟨s16, hs16, hm⟩ := ob hm
 refine zj (fun w hO => zpx (l := s15) (m := [32]) hf rfl rfl hs16) rfl hf rfl rfl fun a hf => ?_
 refine zj (fun w hO => zX zwG hf rfl) rfl hf rfl rfl fun a hf => ?_
 refine zj (fun w hO => zk (o := 4) zbx (hO.blkSees (i := 0) rfl) rfl hf rfl) rfl hf rfl rfl fun a hf => ?_
 obtain ⟨s17, hs17, hm⟩ := ob hm
 refine zj (fun w hO => zpx (l := s16) (m := x_a0.Reason) hf rfl rfl hs17) rfl hf rfl rfl fun a hf => ?_
 refine zj (fun w hO => zay hf rfl) rfl hf rfl rfl fun a hf => ?_
 refine wpQuiet_nil ?_
 intro w hO
 refine S.no tb ?_ hf hO hm
 exact en rfl fun _ _ j => ⟨s17, j rfl⟩
 exact en rfl fun _ _ j => ⟨s9, j rfl⟩
 rintro a w ⟨s18, hf, hO, hm⟩
 rw [zeX] at hm
 refine S.co tb ?_ hf hO hm
 refine ld 0 rfl rfl ?_
 refine cm2 c_68 rfl (fun r19 w hr19 hO => zsw x_a0.Kind s18 r19 _ (hG.own hF hO) hr19) fun r19 hr19 p20 c21 => ?_
 refine al zj7 rfl fun b22 => ?_
 refine nl 110 2 ?_
 refine st 1 rfl rfl ?_
 refine br rfl (fun hc25 => ?_) fun hc25 => ?_
 exact rt Tryz.results55 rfl
 refine jv 1 [5] [0, 1, 2, 3, 4] (fun J E L => ∃ (t33 : Bool), J ((79, .bool t33) :: E) (L) (zbZ s18 t33)) rfl ?_ ?_
 refine br rfl (fun hc28 => ?_) fun hc28 => ?_
 exact en rfl fun _ _ j => ⟨true, j rfl⟩
 refine ld 1 rfl rfl ?_
 refine ld 3 rfl rfl ?_
 refine br rfl (fun hc29 => ?_) fun hc29 => ?_
 exact en rfl fun _ _ j => ⟨true, j rfl⟩
 refine ld 1 rfl rfl ?_
 refine ld 3 rfl rfl ?_
 refine br rfl (fun hc30 => ?_) fun hc30 => ?_
 exact en rfl fun _ _ j => ⟨true, j rfl⟩
 refine ld 1 rfl rfl ?_
 refine ld 3 rfl rfl ?_
 refine br rfl (fun hc31 => ?_) fun hc31 => ?_
 exact en rfl fun _ _ j => ⟨true, j rfl⟩
 refine ld 1 rfl rfl ?_
 refine ld 3 rfl rfl ?_
 refine br rfl (fun hc32 => ?_) fun hc32 => ?_
 exact en rfl fun _ _ j => ⟨true, j rfl⟩
 refine ld 1 rfl rfl ?_
 refine ld 3 rfl rfl ?_
 exact en rfl fun _ _ j => ⟨!(r19.1.Reason == x_a0.Reason), j rfl⟩
 rintro a w ⟨t33, hf, hO, hm⟩
 rw [zbZ] at hm
 refine S.co tb ?_ hf hO hm
 refine br rfl (fun hc34 => ?_) fun hc34 => ?_
 exact rt Tryz.results55 rfl
 exact rt Tryz.results55 rfl

theorem znA (x_f : api_Field) (R : Int) (w0 : World) (hG : zr w0) (hm : zg2 x_f = some R) :
    Calls Tryz.prog 64 #[.agg #[str x_f.Name, str x_f.Value]] w0 (Ret w0 (fun R => int R) R) := by
 rw [zg2] at hm
 have hF : zq [] := ze
 have hO : Dk.Own w0 [] w0 [] := Dk.Own.refl w0
 refine S.enter tb Tryz.func64 rfl Tryz.ntmps64 rfl ?_ hO hm
 refine bo rfl fun b1 => ?_
 refine ld 0 rfl rfl ?_
 refine cl c_93 rfl (fun r3 w hr3 hO => zkB x_f.Name r3 _ (hG.own hF hO) hr3) fun r3 hr3 => ?_
 refine br rfl (fun hc5 => ?_) fun hc5 => ?_
 exact rt Tryz.results64 rfl
 refine jv 1 [] [0] (fun J E L => ∃ (t11 : Bool), J ((18, .bool t11) :: E) (L) (zhD t11)) rfl ?_ ?_
 refine rc_ rfl fun a w hf hO hm => ?_
 refine zcO (by kernel_rfl) (by kernel_rfl) hO ?_
 refine zj (fun w hO => zX zoD hf rfl) rfl hf rfl rfl fun a hf => ?_
 refine zj (fun w hO => zk (o := 1) zbx (hO.blkSees (i := 0) rfl) rfl hf rfl) rfl hf rfl rfl fun a hf => ?_
 obtain ⟨r8, hr8, hm⟩ := ob hm
 refine zn6 (fun w hO => zak c_94 hf (vs := [str x_f.Value]) rfl) rfl hf rfl rfl (fun w hO => (zrn x_f.Value r8 _ (hG.own hF hO) hr8).mono fun e w' ⟨he, hb⟩ => ⟨he, hO.grow hb⟩) fun a hf => ?_
 refine zj (fun w hO => zxZ hf rfl) rfl hf rfl rfl fun a hf => ?_
 refine zj (fun w hO => zA hf rfl) rfl hf rfl rfl fun a hf => ?_
 rcases zcD (!r8) with hc9 | hc9
 have hm := it hc9 hm
 refine zcP rfl hf rfl rfl (hc9) rfl rfl fun a hf => ?_
 refine zcP rfl hf rfl rfl (hc9) rfl rfl fun a hf => ?_
 refine zcP rfl hf rfl rfl (hc9) rfl rfl fun a hf => ?_
 refine zcP rfl hf rfl rfl (hc9) rfl rfl fun a hf => ?_
 refine zcP rfl hf rfl rfl (hc9) rfl rfl fun a hf => ?_
 refine zcP rfl hf rfl rfl (hc9) rfl rfl fun a hf => ?_
 refine zj (fun w hO => zkR hf rfl hc9 rfl) rfl hf rfl rfl fun a hf => ?_
 refine wpQuiet_nil ?_
 intro w hO
 refine S.no tb ?_ hf hO hm
 exact en rfl fun _ _ j => ⟨true, j rfl⟩
 have hm := ie hc9 hm
 refine zdE rfl hf rfl rfl (hc9) ?_
 refine zj (fun w hO => zX zoD hf rfl) rfl hf rfl rfl fun a hf => ?_
 refine zdE rfl hf rfl rfl (hc9) ?_
 refine zj (fun w hO => zk (o := 1) zbx (hO.blkSees (i := 0) rfl) rfl hf rfl) rfl hf rfl rfl fun a hf => ?_
 refine zdE rfl hf rfl rfl (hc9) ?_
 obtain ⟨r10, hr10, hm⟩ := ob hm
 refine zn6 (fun w hO => zak c_95 hf (vs := [str x_f.Value]) rfl) rfl hf rfl rfl (fun w hO => (zlv x_f.Value r10 _ (hG.own hF hO) hr10).mono fun e w' ⟨he, hb⟩ => ⟨he, hO.grow hb⟩) fun a hf => ?_
 refine zdE rfl hf rfl rfl (hc9) ?_
 refine zj (fun w hO => zX zoD hf rfl) rfl hf rfl rfl fun a hf => ?_
 refine zdE rfl hf rfl rfl (hc9) ?_
 refine zj (fun w hO => zk (o := 1) zbx (hO.blkSees (i := 0) rfl) rfl hf rfl) rfl hf rfl rfl fun a hf => ?_
 refine zdE rfl hf rfl rfl (hc9) ?_
 refine zj (fun w hO => zut (l := r10) (m := x_f.Value) hf rfl rfl) rfl hf rfl rfl fun a hf => ?_
 refine zj (fun w hO => zjm hf rfl hc9 rfl) rfl hf rfl rfl fun a hf => ?_
 refine wpQuiet_nil ?_
 intro w hO
 refine S.no tb ?_ hf hO hm
 exact en rfl fun _ _ j => ⟨!(r10 == x_f.Value), j rfl⟩
 rintro a w ⟨t11, hf, hO, hm⟩
 rw [zhD] at hm
 refine S.co tb ?_ hf hO hm
 refine br rfl (fun hc12 => ?_) fun hc12 => ?_
 exact rt Tryz.results64 rfl
 exact rt Tryz.results64 rfl

theorem zsi (x_h : api_Head) (R : Int) (w0 : World) (hG : zr w0) {x_h_p0 : Option Addr} {x_h_c0 : Nat} (hs0 : zC w0 x_h_p0 (cells za x_h.Fields)) (hc0 : x_h.Fields.length ≤ x_h_c0) (hm : ziQ x_h = some R) :
    Calls Tryz.prog 34 #[.agg #[int x_h.Kind, str x_h.Method, str x_h.Target, int x_h.Code, str x_h.Reason, int x_h.Minor, .slice x_h_p0 x_h.Fields.length x_h_c0]] w0 (Ret w0 (fun R => int R) R) := by
 rw [ziQ] at hm
 have hF : zq [] := ze
 have hO : Dk.Own w0 [] w0 [] := Dk.Own.refl w0
 have hO := hO.addShr hs0 (by simp [Res.shared])
 refine S.enter tb Tryz.func34 rfl Tryz.ntmps34 rfl ?_ hO hm
 refine bo rfl fun b1 => ?_
 refine ld 0 rfl rfl ?_
 refine cl c_55 rfl (fun r3 w hr3 hO => zoH x_h r3 _ (hG.own hF hO) (hO.sees (i := 1) rfl) hc0 hr3) fun r3 hr3 => ?_
 refine br rfl (fun hc6 => ?_) fun hc6 => ?_
 exact rt Tryz.results34 rfl
 refine lv [1] [0, 1] (fun J E L k => ∃ (i10 : Int), J ((5, int i10) :: E) (L) (zc0 x_h k i10)) rfl (fun _ _ j => ⟨0, j rfl⟩) ?_
 rintro n1 a w ⟨i10, hf, hO, hm⟩
 obtain _ | n1 := n1
 rw [zc0] at hm
 cases hm
 rw [zc0] at hm
 refine S.co tb ?_ hf hO hm
 refine ld 0 rfl rfl ?_
 refine br rfl (fun hc12 => ?_) fun hc12 => ?_
 refine ld 0 rfl rfl ?_
 refine rw_ rfl fun a w hf hO hm => ?_
 obtain ⟨x14, hx14, hm⟩ := ob hm
 obtain ⟨b15, o16, hix14, hSx14⟩ := zbL (enc := za) (sz := 2) (xs := x_h.Fields) 33 Tryz.underlying33 zaV (by decide) (fun _ => rfl) (hO.sees (i := 1) rfl) hx14
 refine zG (zh hix14 hf rfl rfl) rfl hf rfl rfl fun a hf => ?_
 refine S.op tb ?_ hf hO hm
 refine vl rfl rfl (fun a w hf hO => zdR (o := 0) (vs := [str x14.Name, str x14.Value]) zf7 zaV (hSx14 _ (hO.sees (i := 1) rfl)) rfl rfl hf rfl) ?_
 refine cl c_64 rfl (fun r17 w hr17 hO => znA x14 r17 _ (hG.own hF hO) hr17) fun r17 hr17 => ?_
 refine br rfl (fun hc20 => ?_) fun hc20 => ?_
 exact rt Tryz.results34 rfl
 refine bi rfl fun i23 hi23 => ?_
 exact en rfl fun _ _ j => ⟨_, Nat.lt_succ_self _, i23, j rfl⟩
 refine ld 0 rfl rfl ?_
 refine cl c_65 rfl (fun r25 w hr25 hO => zsr x_h r25 _ (hG.own hF hO) (hO.sees (i := 1) rfl) hc0 hr25) fun r25 hr25 => ?_
 exact rt Tryz.results34 rfl

theorem zoI (x_f : api_Field) (R : Str) (w0 : World) (hG : zr w0) (hm : zii x_f = some R) :
    Calls Tryz.prog 56 #[.agg #[str x_f.Name, str x_f.Value]] w0 (Ret w0 (fun R => str R) R) := by
 rw [zii] at hm
 have hF : zq [] := ze
 have hO : Dk.Own w0 [] w0 [] := Dk.Own.refl w0
 refine S.enter tb Tryz.func56 rfl Tryz.ntmps56 rfl ?_ hO hm
 refine bo rfl fun b1 => ?_
 refine ld 0 rfl rfl ?_
 refine br rfl (fun hc4 => ?_) fun hc4 => ?_
 refine ld 0 rfl rfl ?_
 refine bi rfl fun s5 hs5 => ?_
 exact rt Tryz.results56 rfl
 refine ld 0 rfl rfl ?_
 refine bi rfl fun s8 hs8 => ?_
 refine ld 0 rfl rfl ?_
 refine bi rfl fun s9 hs9 => ?_
 exact rt Tryz.results56 rfl

theorem zoJ (x_l : List api_Field) (R : Str × Int) (w0 : World) (hG : zr w0) {x_l_p0 : Option Addr} {x_l_c0 : Nat} (hs0 : zC w0 x_l_p0 (cells za x_l)) (hc0 : x_l.length ≤ x_l_c0) (hm : zij x_l = some R) :
    Calls Tryz.prog 36 #[.slice x_l_p0 x_l.length x_l_c0] w0 (Ret w0 (fun R => .tuple #[str R.1, int R.2]) R) := by
 rw [zij] at hm
 have hF : zq [] := ze
 have hO : Dk.Own w0 [] w0 [] := Dk.Own.refl w0
 have hO := hO.addShr hs0 (by simp [Res.shared])
 refine S.enter tb Tryz.func36 rfl Tryz.ntmps36 rfl ?_ hO hm
 refine lv [0] [0] (fun J E L k => ∃ (s4 : Str) (i5 : Int), J ((4, str s4) :: (5, int i5) :: E) (L) (zdy x_l k s4 i5)) rfl (fun _ _ j => ⟨[48, 13, 10], 0, j rfl⟩) ?_
 rintro n1 a w ⟨s4, i5, hf, hO, hm⟩
 obtain _ | n1 := n1
 rw [zdy] at hm
 cases hm
 rw [zdy] at hm
 refine S.co tb ?_ hf hO hm
 refine br rfl (fun hc7 => ?_) fun hc7 => ?_
 refine rw_ rfl fun a w hf hO hm => ?_
 obtain ⟨x9, hx9, hm⟩ := ob hm
 obtain ⟨b10, o11, hix9, hSx9⟩ := zbL (enc := za) (sz := 2) (xs := x_l) 33 Tryz.underlying33 zaV (by decide) (fun _ => rfl) (hO.sees (i := 0) rfl) hx9
 refine zG (zh hix9 hf rfl rfl) rfl hf rfl rfl fun a hf => ?_
 refine S.op tb ?_ hf hO hm
 refine vl rfl rfl (fun a w hf hO => zdR (o := 0) (vs := [str x9.Name, str x9.Value]) zf7 zaV (hSx9 _ (hO.sees (i := 0) rfl)) rfl rfl hf rfl) ?_
 refine cl c_64 rfl (fun r12 w hr12 hO => znA x9 r12 _ (hG.own hF hO) hr12) fun r12 hr12 => ?_
 refine br rfl (fun hc15 => ?_) fun hc15 => ?_
 exact rt Tryz.results36 rfl
 refine rw_ rfl fun a w hf hO hm => ?_
 obtain ⟨x18, hx18, hm⟩ := ob hm
 obtain ⟨b19, o20, hix18, hSx18⟩ := zbL (enc := za) (sz := 2) (xs := x_l) 33 Tryz.underlying33 zaV (by decide) (fun _ => rfl) (hO.sees (i := 0) rfl) hx18
 refine zG (zh hix18 hf rfl rfl) rfl hf rfl rfl fun a hf => ?_
 refine S.op tb ?_ hf hO hm
 refine vl rfl rfl (fun a w hf hO => zdR (o := 0) (vs := [str x18.Name, str x18.Value]) zf7 zaV (hSx18 _ (hO.sees (i := 0) rfl)) rfl rfl hf rfl) ?_
 refine cl c_56 rfl (fun r21 w hr21 hO => zoI x18 r21 _ (hG.own hF hO) hr21) fun r21 hr21 => ?_
 refine bi rfl fun s22 hs22 => ?_
 refine bi rfl fun s23 hs23 => ?_
 refine bi rfl fun i25 hi25 => ?_
 exact en rfl fun _ _ j => ⟨_, Nat.lt_succ_self _, s23, i25, j rfl⟩
 refine br rfl (fun hc28 => ?_) fun hc28 => ?_
 exact rt Tryz.results36 rfl
 refine bi rfl fun s31 hs31 => ?_
 exact rt Tryz.results36 rfl

end Go.Proofs
end
section
set_option linter.unusedVariables false
set_option maxHeartbeats 1000000
set_option linter.unusedSimpArgs false
set_option maxRecDepth 100000
namespace Go.Proofs
open Go.Dk Go.Dm Go.RowKit

theorem znP (x_a0 : Str) (x_a1 : api_Message) (R : Int) (w0 : World) (hG : zr w0) {x_a1_p0 : Option Addr} {x_a1_c0 : Nat} (hs0 : zC w0 x_a1_p0 (cells za x_a1.Head.Fields)) (hc0 : x_a1.Head.Fields.length ≤ x_a1_c0) {x_a1_p1 : Option Addr} {x_a1_c1 : Nat} (hs1 : zC w0 x_a1_p1 (cells za x_a1.Trailers)) (hc1 : x_a1.Trailers.length ≤ x_a1_c1) (hm : zg3 x_a0 x_a1 = some R) :
    Calls Tryz.prog 18 #[str x_a0, .agg #[int x_a1.Head.Kind, str x_a1.Head.Method, str x_a1.Head.Target, int x_a1.Head.Code, str x_a1.Head.Reason, int x_a1.Head.Minor, .slice x_a1_p0 x_a1.Head.Fields.length x_a1_c0, int x_a1.Frame.Kind, int x_a1.Frame.N, str x_a1.Body, .slice x_a1_p1 x_a1.Trailers.length x_a1_c1]] w0 (Ret w0 (fun R => int R) R) := by
 rw [zg3] at hm
 have hF : zq [] := ze
 have hO : Dk.Own w0 [] w0 [] := Dk.Own.refl w0
 have hO := hO.addShr hs0 (by simp [Res.shared])
 have hO := hO.addShr hs1 (by simp [Res.shared])
 refine S.enter tb Tryz.func18 rfl Tryz.ntmps18 rfl ?_ hO hm
 refine bo rfl fun b1 => ?_
 refine ld 0 rfl rfl ?_
 refine cl c_34 rfl (fun r3 w hr3 hO => zsi x_a1.Head r3 _ (hG.own hF hO) (hO.sees (i := 2) rfl) hc0 hr3) fun r3 hr3 => ?_
 refine br rfl (fun hc6 => ?_) fun hc6 => ?_
 exact rt Tryz.results18 rfl
 refine ld 0 rfl rfl ?_
 refine cl c_35 rfl (fun r9 w hr9 hO => zsH x_a0 x_a1.Head r9 _ (hG.own hF hO) (hO.sees (i := 2) rfl) hc0 hr9) fun r9 hr9 => ?_
 refine al zlQ rfl fun b10 => ?_
 refine st 0 rfl rfl ?_
 refine br rfl (fun hc13 => ?_) fun hc13 => ?_
 exact rt Tryz.results18 rfl
 refine ld 0 rfl rfl ?_
 refine jv 1 [3] [0, 1, 2, 3] (fun J E L => ∃ (t28 : Bool), J ((60, .bool t28) :: E) (L) (zT x_a1 t28)) rfl ?_ ?_
 refine ld 0 rfl rfl ?_
 refine ld 1 rfl rfl ?_
 refine vl rfl rfl (fun a w hf hO => zuu (by kernel_rfl) (zyg r9.1 x_a1.Frame) hf rfl rfl) ?_
 refine br rfl (fun hc17 => ?_) fun hc17 => ?_
 exact en rfl fun _ _ j => ⟨true, j rfl⟩
 refine br rfl (fun hc18 => ?_) fun hc18 => ?_
 refine ld 1 rfl rfl ?_
 refine br rfl (fun hc19 => ?_) fun hc19 => ?_
 exact en rfl fun _ _ j => ⟨true, j rfl⟩
 refine br rfl (fun hc20 => ?_) fun hc20 => ?_
 refine ld 1 rfl rfl ?_
 refine ld 0 rfl rfl ?_
 refine br rfl (fun hc21 => ?_) fun hc21 => ?_
 exact en rfl fun _ _ j => ⟨true, j rfl⟩
 refine br rfl (fun hc22 => ?_) fun hc22 => ?_
 refine ld 1 rfl rfl ?_
 exact en rfl fun _ _ j => ⟨decide (0 < (x_a1.Trailers.length : Int)), j rfl⟩
 exact en rfl fun _ _ j => ⟨false, j rfl⟩
 refine br rfl (fun hc23 => ?_) fun hc23 => ?_
 refine ld 1 rfl rfl ?_
 exact en rfl fun _ _ j => ⟨decide (0 < (x_a1.Trailers.length : Int)), j rfl⟩
 exact en rfl fun _ _ j => ⟨false, j rfl⟩
 refine br rfl (fun hc24 => ?_) fun hc24 => ?_
 refine ld 1 rfl rfl ?_
 refine ld 0 rfl rfl ?_
 refine br rfl (fun hc25 => ?_) fun hc25 => ?_
 exact en rfl fun _ _ j => ⟨true, j rfl⟩
 refine br rfl (fun hc26 => ?_) fun hc26 => ?_
 refine ld 1 rfl rfl ?_
 exact en rfl fun _ _ j => ⟨decide (0 < (x_a1.Trailers.length : Int)), j rfl⟩
 exact en rfl fun _ _ j => ⟨false, j rfl⟩
 refine br rfl (fun hc27 => ?_) fun hc27 => ?_
 refine ld 1 rfl rfl ?_
 exact en rfl fun _ _ j => ⟨decide (0 < (x_a1.Trailers.length : Int)), j rfl⟩
 exact en rfl fun _ _ j => ⟨false, j rfl⟩
 rintro a w ⟨t28, hf, hO, hm⟩
 rw [zT] at hm
 refine S.co tb ?_ hf hO hm
 refine br rfl (fun hc29 => ?_) fun hc29 => ?_
 exact rt Tryz.results18 rfl
 refine ld 1 rfl rfl ?_
 refine cl c_36 rfl (fun r32 w hr32 hO => zoJ x_a1.Trailers r32 _ (hG.own hF hO) (hO.sees (i := 2) rfl) hc1 hr32) fun r32 hr32 => ?_
 exact rt Tryz.results18 rfl

theorem ztY (x_h : api_Head) (R : Str) (w0 : World) (hG : zr w0) {x_h_p0 : Option Addr} {x_h_c0 : Nat} (hs0 : zC w0 x_h_p0 (cells za x_h.Fields)) (hc0 : x_h.Fields.length ≤ x_h_c0) (hm : zjR x_h = some R) :
    Calls Tryz.prog 28 #[.agg #[int x_h.Kind, str x_h.Method, str x_h.Target, int x_h.Code, str x_h.Reason, int x_h.Minor, .slice x_h_p0 x_h.Fields.length x_h_c0]] w0 (Ret w0 (fun R => str R) R) := by
 rw [zjR] at hm
 have hF : zq [] := ze
 have hO : Dk.Own w0 [] w0 [] := Dk.Own.refl w0
 have hO := hO.addShr hs0 (by simp [Res.shared])
 refine S.enter tb Tryz.func28 rfl Tryz.ntmps28 rfl ?_ hO hm
 refine bo rfl fun b1 => ?_
 refine ld 0 rfl rfl ?_
 refine cl c_55 rfl (fun r3 w hr3 hO => zoH x_h r3 _ (hG.own hF hO) (hO.sees (i := 1) rfl) hc0 hr3) fun r3 hr3 => ?_
 refine bi rfl fun s5 hs5 => ?_
 refine lv [1] [0, 1] (fun J E L k => ∃ (s8 : Str) (i9 : Int), J ((3, str s8) :: (5, int i9) :: E) (L) (zdz x_h k s8 i9)) rfl (fun _ _ j => ⟨s5, 0, j rfl⟩) ?_
 rintro n1 a w ⟨s8, i9, hf, hO, hm⟩
 obtain _ | n1 := n1
 rw [zdz] at hm
 cases hm
 rw [zdz] at hm
 refine S.co tb ?_ hf hO hm
 refine ld 0 rfl rfl ?_
 refine br rfl (fun hc11 => ?_) fun hc11 => ?_
 refine ld 0 rfl rfl ?_
 refine rw_ rfl fun a w hf hO hm => ?_
 obtain ⟨x13, hx13, hm⟩ := ob hm
 obtain ⟨b14, o15, hix13, hSx13⟩ := zbL (enc := za) (sz := 2) (xs := x_h.Fields) 33 Tryz.underlying33 zaV (by decide) (fun _ => rfl) (hO.sees (i := 1) rfl) hx13
 refine zG (zh hix13 hf rfl rfl) rfl hf rfl rfl fun a hf => ?_
 refine S.op tb ?_ hf hO hm
 refine vl rfl rfl (fun a w hf hO => zdR (o := 0) (vs := [str x13.Name, str x13.Value]) zf7 zaV (hSx13 _ (hO.sees (i := 1) rfl)) rfl rfl hf rfl) ?_
 refine cl c_56 rfl (fun r16 w hr16 hO => zoI x13 r16 _ (hG.own hF hO) hr16) fun r16 hr16 => ?_
 refine bi rfl fun s17 hs17 => ?_
 refine bi rfl fun s18 hs18 => ?_
 refine bi rfl fun i20 hi20 => ?_
 exact en rfl fun _ _ j => ⟨_, Nat.lt_succ_self _, s18, i20, j rfl⟩
 refine bi rfl fun s22 hs22 => ?_
 exact rt Tryz.results28 rfl

theorem znQ (x_data : Str) (R : Str) (w0 : World) (hG : zr w0) (hm : zg4 x_data = some R) :
    Calls Tryz.prog 58 #[str x_data] w0 (Ret w0 (fun R => str R) R) := by
 rw [zg4] at hm
 have hF : zq [] := ze
 have hO : Dk.Own w0 [] w0 [] := Dk.Own.refl w0
 refine S.enter tb Tryz.func58 rfl Tryz.ntmps58 rfl ?_ hO hm
 refine br rfl (fun hc3 => ?_) fun hc3 => ?_
 exact rt Tryz.results58 rfl
 refine cl c_84 rfl (fun r6 w hr6 hO => zje (x_data.length : Int) 16 r6 _ (hG.own hF hO) hr6) fun r6 hr6 => ?_
 refine bi rfl fun s7 hs7 => ?_
 refine bi rfl fun s8 hs8 => ?_
 refine bi rfl fun s9 hs9 => ?_
 exact rt Tryz.results58 rfl

theorem ztZ (x_size : Int) (x_data : Str) (R : Str × Str) (w0 : World) (hG : zr w0) (hm : zlI x_size x_data = some R) :
    Calls Tryz.prog 57 #[int x_size, str x_data] w0 (Ret w0 (fun R => .tuple #[str R.1, str R.2]) R) := by
 rw [zlI] at hm
 have hF : zq [] := ze
 have hO : Dk.Own w0 [] w0 [] := Dk.Own.refl w0
 refine S.enter tb Tryz.func57 rfl Tryz.ntmps57 rfl ?_ hO hm
 refine lv [0] [] (fun J E L k => ∃ (s3 : Str) (s4 : Str), J ((1, str s3) :: (6, str s4) :: E) (L) (zdA x_size k s3 s4)) rfl (fun _ _ j => ⟨x_data, [], j rfl⟩) ?_
 rintro n1 a w ⟨s3, s4, hf, hO, hm⟩
 obtain _ | n1 := n1
 rw [zdA] at hm
 cases hm
 rw [zdA] at hm
 refine S.co tb ?_ hf hO hm
 refine br rfl (fun hc6 => ?_) fun hc6 => ?_
 refine bi rfl fun s8 hs8 => ?_
 refine cl c_58 rfl (fun r9 w hr9 hO => znQ s8 r9 _ (hG.own hF hO) hr9) fun r9 hr9 => ?_
 refine bi rfl fun s10 hs10 => ?_
 refine bi rfl fun s12 hs12 => ?_
 exact en rfl fun _ _ j => ⟨_, Nat.lt_succ_self _, s12, s10, j rfl⟩
 exact rt Tryz.results57 rfl

theorem zvl (x_size : Int) (x_body : Str) (x_trailers : List api_Field) (R : Str × Int) (w0 : World) (hG : zr w0) {x_trailers_p0 : Option Addr} {x_trailers_c0 : Nat} (hs0 : zC w0 x_trailers_p0 (cells za x_trailers)) (hc0 : x_trailers.length ≤ x_trailers_c0) (hm : zle x_size x_body x_trailers = some R) :
    Calls Tryz.prog 29 #[int x_size, str x_body, .slice x_trailers_p0 x_trailers.length x_trailers_c0] w0 (Ret w0 (fun R => .tuple #[str R.1, int R.2]) R) := by
 rw [zle] at hm
 have hF : zq [] := ze
 have hO : Dk.Own w0 [] w0 [] := Dk.Own.refl w0
 have hO := hO.addShr hs0 (by simp [Res.shared])
 refine S.enter tb Tryz.func29 rfl Tryz.ntmps29 rfl ?_ hO hm
 refine jv 1 [0, 1, 2] [0] (fun J E L => ∃ (t3 : Bool), J ((17, .bool t3) :: E) (L) (zf3 x_size x_body x_trailers t3)) rfl ?_ ?_
 refine br rfl (fun hc2 => ?_) fun hc2 => ?_
 exact en rfl fun _ _ j => ⟨true, j rfl⟩
 exact en rfl fun _ _ j => ⟨decide (65536 < x_size), j rfl⟩
 rintro a w ⟨t3, hf, hO, hm⟩
 rw [zf3] at hm
 refine S.co tb ?_ hf hO hm
 refine br rfl (fun hc4 => ?_) fun hc4 => ?_
 exact rt Tryz.results29 rfl
 refine cl c_36 rfl (fun r7 w hr7 hO => zoJ x_trailers r7 _ (hG.own hF hO) (hO.sees (i := 0) rfl) hc0 hr7) fun r7 hr7 => ?_
 refine br rfl (fun hc10 => ?_) fun hc10 => ?_
 exact rt Tryz.results29 rfl
 refine cl c_57 rfl (fun r13 w hr13 hO => ztZ x_size x_body r13 _ (hG.own hF hO) hr13) fun r13 hr13 => ?_
 refine cl c_58 rfl (fun r15 w hr15 hO => znQ r13.2 r15 _ (hG.own hF hO) hr15) fun r15 hr15 => ?_
 refine bi rfl fun s16 hs16 => ?_
 refine bi rfl fun s17 hs17 => ?_
 exact rt Tryz.results29 rfl

theorem zsy (x_method : Str) (x_m : api_Message) (x_limit : Int) (x_size : Int) (R : Str × Int) (w0 : World) (hG : zr w0) {x_m_p0 : Option Addr} {x_m_c0 : Nat} (hs0 : zC w0 x_m_p0 (cells za x_m.Head.Fields)) (hc0 : x_m.Head.Fields.length ≤ x_m_c0) {x_m_p1 : Option Addr} {x_m_c1 : Nat} (hs1 : zC w0 x_m_p1 (cells za x_m.Trailers)) (hc1 : x_m.Trailers.length ≤ x_m_c1) (hm : ziR x_method x_m x_limit x_size = some R) :
    Calls Tryz.prog 16 #[str x_method, .agg #[int x_m.Head.Kind, str x_m.Head.Method, str x_m.Head.Target, int x_m.Head.Code, str x_m.Head.Reason, int x_m.Head.Minor, .slice x_m_p0 x_m.Head.Fields.length x_m_c0, int x_m.Frame.Kind, int x_m.Frame.N, str x_m.Body, .slice x_m_p1 x_m.Trailers.length x_m_c1], int x_limit, int x_size] w0 (Ret w0 (fun R => .tuple #[str R.1, int R.2]) R) := by
 rw [ziR] at hm
 have hF : zq [] := ze
 have hO : Dk.Own w0 [] w0 [] := Dk.Own.refl w0
 have hO := hO.addShr hs0 (by simp [Res.shared])
 have hO := hO.addShr hs1 (by simp [Res.shared])
 refine S.enter tb Tryz.func16 rfl Tryz.ntmps16 rfl ?_ hO hm
 refine bo rfl fun b1 => ?_
 refine ld 0 rfl rfl ?_
 refine cl c_18 rfl (fun r3 w hr3 hO => znP x_method x_m r3 _ (hG.own hF hO) (hO.sees (i := 2) rfl) hc0 (hO.sees (i := 1) rfl) hc1 hr3) fun r3 hr3 => ?_
 refine br rfl (fun hc6 => ?_) fun hc6 => ?_
 exact rt Tryz.results16 rfl
 refine ld 0 rfl rfl ?_
 refine cl c_28 rfl (fun r9 w hr9 hO => ztY x_m.Head r9 _ (hG.own hF hO) (hO.sees (i := 2) rfl) hc0 hr9) fun r9 hr9 => ?_
 refine br rfl (fun hc12 => ?_) fun hc12 => ?_
 exact rt Tryz.results16 rfl
 refine ld 0 rfl rfl ?_
 refine jv 0 [11] [0, 1, 2] (fun J E L => ∃ (s24 : Str), J ((12, str s24) :: E) (L) (zfL r9 s24)) rfl ?_ ?_
 refine ld 0 rfl rfl ?_
 refine br rfl (fun hc17 => ?_) fun hc17 => ?_
 refine ld 0 rfl rfl ?_
 refine ld 0 rfl rfl ?_
 refine cl c_29 rfl (fun r18 w hr18 hO => zvl x_size x_m.Body x_m.Trailers r18 _ (hG.own hF hO) (hO.sees (i := 1) rfl) hc1 hr18) fun r18 hr18 => ?_
 refine br rfl (fun hc21 => ?_) fun hc21 => ?_
 exact rt Tryz.results16 rfl
 exact en rfl fun _ _ j => ⟨r18.1, j rfl⟩
 exact en rfl fun _ _ j => ⟨x_m.Body, j rfl⟩
 rintro a w ⟨s24, hf, hO, hm⟩
 rw [zfL] at hm
 refine S.co tb ?_ hf hO hm
 refine bi rfl fun s25 hs25 => ?_
 exact rt Tryz.results16 rfl

theorem zmb (x_method : Str) (x_m : api_Message) (x_two : Int × Int) (R : Bool) (w0 : World) (hG : zaq w0) {x_m_p0 : Option Addr} {x_m_c0 : Nat} (hs0 : zC w0 x_m_p0 (cells za x_m.Head.Fields)) (hc0 : x_m.Head.Fields.length ≤ x_m_c0) {x_m_p1 : Option Addr} {x_m_c1 : Nat} (hs1 : zC w0 x_m_p1 (cells za x_m.Trailers)) (hc1 : x_m.Trailers.length ≤ x_m_c1) (hm : zdO x_method x_m x_two = some R) :
    Calls Tryz.prog 5 #[str x_method, .agg #[int x_m.Head.Kind, str x_m.Head.Method, str x_m.Head.Target, int x_m.Head.Code, str x_m.Head.Reason, int x_m.Head.Minor, .slice x_m_p0 x_m.Head.Fields.length x_m_c0, int x_m.Frame.Kind, int x_m.Frame.N, str x_m.Body, .slice x_m_p1 x_m.Trailers.length x_m_c1], .agg #[int x_two.1, int x_two.2]] w0 (Ret w0 (fun R => .bool R) R) := by
 rw [zdO] at hm
 have hF : zq [] := ze
 have hO : Dk.Own w0 [] w0 [] := Dk.Own.refl w0
 have hO := hO.addShr hs0 (by simp [Res.shared])
 have hO := hO.addShr hs1 (by simp [Res.shared])
 refine S.enter tb Tryz.func5 rfl Tryz.ntmps5 rfl ?_ hO hm
 refine bo rfl fun b1 => ?_
 refine bo rfl fun b2 => ?_
 refine cl c_13 rfl (fun r4 w hr4 hO => zsI r4 _ (hG.own hF hO) hr4) fun r4 hr4 => ?_
 refine br rfl (fun hc6 => ?_) fun hc6 => ?_
 exact rt Tryz.results5 rfl
 refine ld 1 rfl rfl ?_
 refine cm4 c_14 rfl (fun r9 w hr9 hO => zvg x_m r9 _ (hG.own hF hO).1 (hO.sees (i := 3) rfl) hc0 (hO.sees (i := 2) rfl) hc1 hr9) fun r9 hr9 p10 c11 p12 c13 => ?_
 refine st 3 rfl rfl ?_
 refine ld 3 rfl rfl ?_
 refine rw_ rfl fun a w hf hO hm => ?_
 refine zG (zio (zwH _) hf rfl rfl) rfl hf rfl rfl fun a hf => ?_
 refine S.op tb ?_ hf hO hm
 refine ld 2 rfl rfl ?_
 refine rw_ rfl fun a w hf hO hm => ?_
 refine zG (zio (zwI _) hf rfl rfl) rfl hf rfl rfl fun a hf => ?_
 refine S.op tb ?_ hf hO hm
 refine ld 2 rfl rfl ?_
 refine cl c_15 rfl (fun r15 w hr15 hO => zqr x_method r9 x_two.1 x_two.2 r15 _ (hG.own hF hO) (hO.rowSees (i := 0) rfl) (hO.rowCap (i := 0) rfl) (hO.rowSees (i := 1) rfl) (hO.rowCap (i := 1) rfl) hr15) fun r15 hr15 => ?_
 refine ld 3 rfl rfl ?_
 refine rw_ rfl fun a w hf hO hm => ?_
 refine zG (zio (zwH _) hf rfl rfl) rfl hf rfl rfl fun a hf => ?_
 refine S.op tb ?_ hf hO hm
 refine ld 2 rfl rfl ?_
 refine rw_ rfl fun a w hf hO hm => ?_
 refine zG (zio (zwI _) hf rfl rfl) rfl hf rfl rfl fun a hf => ?_
 refine S.op tb ?_ hf hO hm
 refine ld 2 rfl rfl ?_
 refine cl c_16 rfl (fun r17 w hr17 hO => zsy x_method r9 x_two.1 x_two.2 r17 _ (hG.own hF hO).1 (hO.rowSees (i := 0) rfl) (hO.rowCap (i := 0) rfl) (hO.rowSees (i := 1) rfl) (hO.rowCap (i := 1) rfl) hr17) fun r17 hr17 => ?_
 refine jv 0 [] [0, 1, 2, 3, 4, 5] (fun J E L => ∃ (t23 : Bool), J ((6, .bool t23) :: E) (L) (zbu t23)) rfl ?_ ?_
 refine rc_ rfl fun a w hf hO hm => ?_
 refine zcO (by kernel_rfl) (by kernel_rfl) hO ?_
 refine zj (fun w hO => zA hf rfl) rfl hf rfl rfl fun a hf => ?_
 refine zj (fun w hO => zA hf rfl) rfl hf rfl rfl fun a hf => ?_
 refine zj (fun w hO => zus (l := r15.1) (m := r17.1) hf rfl rfl) rfl hf rfl rfl fun a hf => ?_
 refine zj (fun w hO => zA hf rfl) rfl hf rfl rfl fun a hf => ?_
 rcases zcD (r15.1 == r17.1) with hc19 | hc19
 have hm := it hc19 hm
 refine zdE rfl hf rfl rfl (hc19) ?_
 refine zj (fun w hO => zA hf rfl) rfl hf rfl rfl fun a hf => ?_
 refine zdE rfl hf rfl rfl (hc19) ?_
 refine zj (fun w hO => zA hf rfl) rfl hf rfl rfl fun a hf => ?_
 refine zdE rfl hf rfl rfl (hc19) ?_
 refine zj (fun w hO => zvT (m := r15.2) (n := r17.2) hf rfl rfl) rfl hf rfl rfl fun a hf => ?_
 refine zj (fun w hO => zkR hf rfl hc19 rfl) rfl hf rfl rfl fun a hf => ?_
 refine zj (fun w hO => zA hf rfl) rfl hf rfl rfl fun a hf => ?_
 rcases zcD (r15.2 == r17.2) with hc20 | hc20
 have hm := it hc20 hm
 refine zdE rfl hf rfl rfl (hc20) ?_
 refine zj (fun w hO => zA hf rfl) rfl hf rfl rfl fun a hf => ?_
 refine zdE rfl hf rfl rfl (hc20) ?_
 refine zj (fun w hO => zdR (o := 0) (vs := [int r9.Head.Kind, str r9.Head.Method, str r9.Head.Target, int r9.Head.Code, str r9.Head.Reason, int r9.Head.Minor, .slice p10 r9.Head.Fields.length c11, int r9.Frame.Kind, int r9.Frame.N, str r9.Body, .slice p12 r9.Trailers.length c13]) zmp zmq (hO.blkSees (i := 3) rfl) rfl rfl hf rfl) rfl hf rfl rfl fun a hf => ?_
 refine zdE rfl hf rfl rfl (hc20) ?_
 obtain ⟨r21, hr21, hm⟩ := ob hm
 refine zn6 (fun w hO => zak c_17 hf (vs := [str x_method, .agg #[int r9.Head.Kind, str r9.Head.Method, str r9.Head.Target, int r9.Head.Code, str r9.Head.Reason, int r9.Head.Minor, .slice p10 r9.Head.Fields.length c11, int r9.Frame.Kind, int r9.Frame.N, str r9.Body, .slice p12 r9.Trailers.length c13]]) rfl) rfl hf rfl rfl (fun w hO => (zlX x_method r9 r21 _ (hG.own hF hO) (hO.rowSees (i := 0) rfl) (hO.rowCap (i := 0) rfl) (hO.rowSees (i := 1) rfl) (hO.rowCap (i := 1) rfl) hr21).mono fun e w' ⟨he, hb⟩ => ⟨he, hO.grow hb⟩) fun a hf => ?_
 refine zdE rfl hf rfl rfl (hc20) ?_
 refine zj (fun w hO => zA hf rfl) rfl hf rfl rfl fun a hf => ?_
 refine zdE rfl hf rfl rfl (hc20) ?_
 refine zj (fun w hO => zdR (o := 0) (vs := [int r9.Head.Kind, str r9.Head.Method, str r9.Head.Target, int r9.Head.Code, str r9.Head.Reason, int r9.Head.Minor, .slice p10 r9.Head.Fields.length c11, int r9.Frame.Kind, int r9.Frame.N, str r9.Body, .slice p12 r9.Trailers.length c13]) zmp zmq (hO.blkSees (i := 3) rfl) rfl rfl hf rfl) rfl hf rfl rfl fun a hf => ?_
 refine zdE rfl hf rfl rfl (hc20) ?_
 obtain ⟨r22, hr22, hm⟩ := ob hm
 refine zn6 (fun w hO => zak c_18 hf (vs := [str x_method, .agg #[int r9.Head.Kind, str r9.Head.Method, str r9.Head.Target, int r9.Head.Code, str r9.Head.Reason, int r9.Head.Minor, .slice p10 r9.Head.Fields.length c11, int r9.Frame.Kind, int r9.Frame.N, str r9.Body, .slice p12 r9.Trailers.length c13]]) rfl) rfl hf rfl rfl (fun w hO => (znP x_method r9 r22 _ (hG.own hF hO).1 (hO.rowSees (i := 0) rfl) (hO.rowCap (i := 0) rfl) (hO.rowSees (i := 1) rfl) (hO.rowCap (i := 1) rfl) hr22).mono fun e w' ⟨he, hb⟩ => ⟨he, hO.grow hb⟩) fun a hf => ?_
 refine zdE rfl hf rfl rfl (hc20) ?_
 refine zj (fun w hO => zvT (m := r21) (n := r22) hf rfl rfl) rfl hf rfl rfl fun a hf => ?_
 refine zj (fun w hO => zkR hf rfl hc20 rfl) rfl hf rfl rfl fun a hf => ?_
 refine zj (fun w hO => zay hf rfl) rfl hf rfl rfl fun a hf => ?_
 refine wpQuiet_nil ?_
 intro w hO
 refine S.no tb ?_ hf hO hm
 exact en rfl fun _ _ j => ⟨r21 == r22, j rfl⟩
 have hm := ie hc20 hm
 refine zcP rfl hf rfl rfl (hc20) rfl rfl fun a hf => ?_
 refine zcP rfl hf rfl rfl (hc20) rfl rfl fun a hf => ?_
 refine zcP rfl hf rfl rfl (hc20) rfl rfl fun a hf => ?_
 refine zcP rfl hf rfl rfl (hc20) rfl rfl fun a hf => ?_
 refine zcP rfl hf rfl rfl (hc20) rfl rfl fun a hf => ?_
 refine zcP rfl hf rfl rfl (hc20) rfl rfl fun a hf => ?_
 refine zcP rfl hf rfl rfl (hc20) rfl rfl fun a hf => ?_
 refine zj (fun w hO => zjm hf rfl hc20 rfl) rfl hf rfl rfl fun a hf => ?_
 refine zj (fun w hO => zay hf rfl) rfl hf rfl rfl fun a hf => ?_
 refine wpQuiet_nil ?_
 intro w hO
 refine S.no tb ?_ hf hO hm
 exact en rfl fun _ _ j => ⟨false, j rfl⟩
 have hm := ie hc19 hm
 refine zcP rfl hf rfl rfl (hc19) rfl rfl fun a hf => ?_
 refine zcP rfl hf rfl rfl (hc19) rfl rfl fun a hf => ?_
 refine zcP rfl hf rfl rfl (hc19) rfl rfl fun a hf => ?_
 refine zj (fun w hO => zjm hf rfl hc19 rfl) rfl hf rfl rfl fun a hf => ?_
 refine zj (fun w hO => zA hf rfl) rfl hf rfl rfl fun a hf => ?_
 refine zcP rfl hf rfl rfl (rfl) rfl rfl fun a hf => ?_
 refine zcP rfl hf rfl rfl (rfl) rfl rfl fun a hf => ?_
 refine zcP rfl hf rfl rfl (rfl) rfl rfl fun a hf => ?_
 refine zcP rfl hf rfl rfl (rfl) rfl rfl fun a hf => ?_
 refine zcP rfl hf rfl rfl (rfl) rfl rfl fun a hf => ?_
 refine zcP rfl hf rfl rfl (rfl) rfl rfl fun a hf => ?_
 refine zcP rfl hf rfl rfl (rfl) rfl rfl fun a hf => ?_
 refine zj (fun w hO => zjm hf rfl rfl rfl) rfl hf rfl rfl fun a hf => ?_
 refine zj (fun w hO => zay hf rfl) rfl hf rfl rfl fun a hf => ?_
 refine wpQuiet_nil ?_
 intro w hO
 refine S.no tb ?_ hf hO hm
 exact en rfl fun _ _ j => ⟨false, j rfl⟩
 rintro a w ⟨t23, hf, hO, hm⟩
 rw [zbu] at hm
 refine S.co tb ?_ hf hO hm
 exact rt Tryz.results5 rfl

end Go.Proofs
end
