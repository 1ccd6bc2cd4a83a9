/-
  Walks, written by a program (wip/gen): what its model says, the function returns; what was there before is as it was.
  Walks, written by a program (wip/gen): what its model says, the function returns; what was there before is as it was.
  Walks, written by a program (wip/gen): what its model says, the function returns; what was there before is as it was.
-/
import Derived.Test.YtinncambjiffoaaGreatDoorLib
import Derived.Test.YtinncambjiffoaaGreatDoorW5
import Derived.Test.YtinncambjiffoaaGreatDoorW11
import Derived.Test.YtinncambjiffoaaGreatDoorW9
section
set_option linter.unusedVariables false
set_option maxHeartbeats 1000000
set_option linter.unusedSimpArgs false
set_option maxRecDepth 100000
namespace Go.Proofs
open Go.Dk Go.Dm Go.RowKit

theorem zqO (x_client : Str) (x_l : List api_Field) (R : List api_Field) (w0 : World) (hG : zaG w0) {x_l_p0 : Option Addr} {x_l_c0 : Nat} (hs0 : zy w0 x_l_p0 (cells za x_l)) (hc0 : x_l.length ≤ x_l_c0) (hm : zgP x_client x_l = some R) :
    Calls Tryz.prog 23 #[str x_client, .slice x_l_p0 x_l.length x_l_c0] w0 fun e w' => ∃ (p0 : Option Addr) (c0 : Nat), e = .returned (.slice p0 R.length c0) ∧ Dk.Own w0 [] w' [.row (.slice p0 R.length c0) 54 2 R.length (cells za R)] := by
 rw [zgP] at hm
 have hF : zu [] := zf
 have hO : Dk.Own w0 [] w0 [] := Dk.Own.refl w0
 have hO := hO.addShr hs0 (by simp [Res.shared])
 refine S.enter tb Tryz.func23 rfl Tryz.ntmps23 rfl ?_ hO hm
 refine nl 54 2 ?_
 refine jv 0 [1] [0, 1] (fun J E L => ∃ (s5 : Str), J ((0, str s5) :: E) (L) (zeg x_l s5)) rfl ?_ ?_
 refine cl c_50 rfl (fun r2 w hr2 hO => zpo x_client r2 _ (hG.own hF hO) hr2) fun r2 hr2 => ?_
 refine br rfl (fun hc4 => ?_) fun hc4 => ?_
 exact en rfl fun _ _ j => ⟨[117, 110, 107, 110, 111, 119, 110], j rfl⟩
 exact en rfl fun _ _ j => ⟨x_client, j rfl⟩
 rintro a w ⟨s5, hf, hO, hm⟩
 rw [zeg] at hm
 refine S.co tb ?_ hf hO hm
 refine rw_ rfl fun a w hf hO hm => ?_
 obtain ⟨r6, hr6, hm⟩ := ob hm
 refine zj (zh zsz hf (vs := [.slice x_l_p0 x_l.length x_l_c0]) rfl) rfl hf rfl rfl (zfJ x_l r6 _ (hG.own hF hO).1 (hO.sees (i := 1) rfl) hc0 hr6) ?_
 rintro e w' ⟨b7, p8, c9, he, hO'⟩
 refine ⟨_, he, fun a hf => ?_⟩
 have hO := hO.call hO' (by simp [Res.shared])
 refine S.op tb ?_ hf hO hm
 refine rw_ rfl fun a w hf hO hm => ?_
 obtain ⟨r11, hr11, hm⟩ := ob hm
 have hch14 := (show Dk.Own w0 [] _ ([.blk b7 [.slice p8 r6.f_l.length c9] 107, .row (.slice p8 r6.f_l.length c9) 54 2 r6.f_l.length (cells za r6.f_l)] ++ [.row (.slice none 0 0) 54 2 0 (cells za []), .shr x_l_p0 (cells za x_l)]) from hO)
 have hfar14 := Dk.Own.far hch14 rfl hF hG.size
 have hlend14 := hch14.lend (S := []) rfl trivial
 have hcl14 := zgX r6 [88, 45, 70, 111, 114, 119, 97, 114, 100, 101, 100, 45, 70, 111, 114] s5 r11 _ (hG.own hF hO).1 hfar14 hlend14 hr11
 refine zj (zh c_46 hf (vs := [ptr b7 0, str [88, 45, 70, 111, 114, 119, 97, 114, 100, 101, 100, 45, 70, 111, 114], str s5]) rfl) rfl hf rfl rfl (hcl14) ?_
 rintro e w' ⟨p12, c13, he, hO'⟩
 refine ⟨_, he, fun a hf => ?_⟩
 have hO := hch14.back rfl hO' rfl
 refine S.op tb ?_ hf hO hm
 refine rw_ rfl fun a w hf hO hm => ?_
 obtain ⟨r16, hr16, hm⟩ := ob hm
 refine zj (zh ztw hf (vs := [ptr b7 0]) rfl) rfl hf rfl rfl (zcL r11 r16 _ (hG.own hF hO).1 (hO.blkSees (i := 0) rfl) (hO.rowSees (i := 1) rfl) (hO.rowCap (i := 1) rfl) hr16) ?_
 rintro e w' ⟨p17, c18, he, hO'⟩
 refine ⟨_, he, fun a hf => ?_⟩
 have hO := hO.call hO' (by simp [Res.shared])
 refine S.op tb ?_ hf hO hm
 refine re_ rfl fun a w hf hO hm => ?_
 obtain rfl := Option.some.inj hm
 exact zi Tryz.results23 hf (.tmp rfl .nil) ⟨p17, c18, rfl, (hO.sub (.cons_cons _ (.cons _ (.cons _ (.cons _ (.cons _ .slnil))))))⟩

theorem zl9 (x_a0 : api_Env) (x_a1 : Int) (x_a2 : api_Head) (R : api_Head × Int) (w0 : World) (hG : zaG w0) {x_a0_p0 : Option Addr} {x_a0_c0 : Nat} (hs0 : zy w0 x_a0_p0 (cells zb x_a0.Domains)) (hc0 : x_a0.Domains.length ≤ x_a0_c0) {x_a0_p1 : Option Addr} {x_a0_c1 : Nat} (hs1 : zy w0 x_a0_p1 (cells zb x_a0.Locations)) (hc1 : x_a0.Locations.length ≤ x_a0_c1) {x_a2_p2 : Option Addr} {x_a2_c2 : Nat} (hs2 : zy w0 x_a2_p2 (cells za x_a2.Fields)) (hc2 : x_a2.Fields.length ≤ x_a2_c2) (hm : zeC x_a0 x_a1 x_a2 = some R) :
    Calls Tryz.prog 8 #[.agg #[str x_a0.Client, str x_a0.Host, str x_a0.Scheme, str x_a0.By, .slice x_a0_p0 x_a0.Domains.length x_a0_c0, .slice x_a0_p1 x_a0.Locations.length x_a0_c1], int x_a1, .agg #[int x_a2.Kind, str x_a2.Method, str x_a2.Target, int x_a2.Code, str x_a2.Reason, int x_a2.Minor, .slice x_a2_p2 x_a2.Fields.length x_a2_c2]] w0 fun e w' => ∃ (p0 : Option Addr) (c0 : Nat), e = .returned (.tuple #[.agg #[int R.1.Kind, str R.1.Method, str R.1.Target, int R.1.Code, str R.1.Reason, int R.1.Minor, .slice p0 R.1.Fields.length c0], int R.2]) ∧ Dk.Own w0 [] w' [.row (.slice p0 R.1.Fields.length c0) 54 2 R.1.Fields.length (cells za R.1.Fields)] := by
 rw [zeC] at hm
 have hF : zu [] := zf
 have hO : Dk.Own w0 [] w0 [] := Dk.Own.refl w0
 have hO := hO.addShr hs0 (by simp [Res.shared])
 have hO := hO.addShr hs1 (by simp [Res.shared])
 have hO := hO.addShr hs2 (by simp [Res.shared])
 refine S.enter tb Tryz.func8 rfl Tryz.ntmps8 rfl ?_ hO hm
 refine bo rfl fun b1 => ?_
 refine bo rfl fun b2 => ?_
 refine al zpe rfl fun b3 => ?_
 refine nl 54 2 ?_
 refine jv 1 [1, 3, 5, 6] [0, 1, 2, 3, 4, 5, 6] (fun J E L => ∃ (t9 : Bool), J ((26, .bool t9) :: E) (L) (zb1 x_a0 x_a1 x_a2 t9)) rfl ?_ ?_
 refine ld 2 rfl rfl ?_
 refine br rfl (fun hc5 => ?_) fun hc5 => ?_
 refine ld 2 rfl rfl ?_
 refine br rfl (fun hc6 => ?_) fun hc6 => ?_
 exact en rfl fun _ _ j => ⟨true, j rfl⟩
 refine br rfl (fun hc7 => ?_) fun hc7 => ?_
 exact en rfl fun _ _ j => ⟨!(x_a1 == 1), j rfl⟩
 exact en rfl fun _ _ j => ⟨false, j rfl⟩
 refine br rfl (fun hc8 => ?_) fun hc8 => ?_
 exact en rfl fun _ _ j => ⟨!(x_a1 == 1), j rfl⟩
 exact en rfl fun _ _ j => ⟨false, j rfl⟩
 rintro a w ⟨t9, hf, hO, hm⟩
 rw [zb1] at hm
 refine S.co tb ?_ hf hO hm
 refine br rfl (fun hc10 => ?_) fun hc10 => ?_
 refine vl rfl rfl (fun a w hf hO => zB (vs := []) (v := .agg #[int 0, str [], str [], int 0, str [], int 0, .slice none 0 0]) hf rfl (by kernel_rfl)) ?_
 refine st 1 rfl rfl ?_
 refine nl 54 2 ?_
 refine re_ rfl fun a w hf hO hm => ?_
 obtain rfl := Option.some.inj hm
 exact zi Tryz.results8 hf (.cell rfl (zp (n := 7) (vs := [int 0, str [], str [], int 0, str [], int 0, .slice none 0 0]) zfi ze4 rfl ((hO.blkSees (i := 2) rfl).cells (o := 0) (n := 7) rfl)) (.tmp rfl .nil)) ⟨none, 0, rfl, (hO.sub (.cons_cons _ (.cons _ (.cons _ (.cons _ (.cons _ (.cons _ (.cons _ (.cons _ .slnil)))))))))⟩
 refine rc_ rfl fun a w hf hO hm => ?_
 obtain ⟨r13, hr13, hm⟩ := ob hm
 obtain ⟨s14, hs14, hm⟩ := ob hm
 obtain ⟨r15, hr15, hm⟩ := ob hm
 refine zaV (S := Option Addr × Nat) (E0 := [(1, int x_a1), (3, ptr b1 0), (5, ptr b2 0), (6, ptr b3 0)]) (by kernel_rfl) (fun k σ w => match k with | 0 => Dk.Own w0 [] w [.row (.slice none 0 0) 54 2 0 (cells za []), .blk b3 [int 0, str [], str [], int 0, str [], int 0, .slice none 0 0] 28, .blk b2 [int x_a2.Kind, str x_a2.Method, str x_a2.Target, int x_a2.Code, str x_a2.Reason, int x_a2.Minor, .slice x_a2_p2 x_a2.Fields.length x_a2_c2] 28, .blk b1 [str x_a0.Client, str x_a0.Host, str x_a0.Scheme, str x_a0.By, .slice x_a0_p0 x_a0.Domains.length x_a0_c0, .slice x_a0_p1 x_a0.Locations.length x_a0_c1] 24, .shr x_a2_p2 (cells za x_a2.Fields), .shr x_a0_p1 (cells zb x_a0.Locations), .shr x_a0_p0 (cells zb x_a0.Domains)] | 1 => Dk.Own w0 [] w [.row (.slice none 0 0) 54 2 0 (cells za []), .blk b3 [int 0, str [], str [], int 0, str [], int 0, .slice none 0 0] 28, .blk b2 [int x_a2.Kind, str x_a2.Method, str x_a2.Target, int x_a2.Code, str x_a2.Reason, int x_a2.Minor, .slice x_a2_p2 x_a2.Fields.length x_a2_c2] 28, .blk b1 [str x_a0.Client, str x_a0.Host, str x_a0.Scheme, str x_a0.By, .slice x_a0_p0 x_a0.Domains.length x_a0_c0, .slice x_a0_p1 x_a0.Locations.length x_a0_c1] 24, .shr x_a2_p2 (cells za x_a2.Fields), .shr x_a0_p1 (cells zb x_a0.Locations), .shr x_a0_p0 (cells zb x_a0.Domains)] | _ => Dk.Own w0 [] w [.row (.slice (σ.1) r15.1.length (σ.2)) 54 2 r15.1.length (cells za r15.1), .row (.slice none 0 0) 54 2 0 (cells za []), .blk b3 [int 0, str [], str [], int 0, str [], int 0, .slice none 0 0] 28, .blk b2 [int x_a2.Kind, str x_a2.Method, str x_a2.Target, int x_a2.Code, str x_a2.Reason, int x_a2.Minor, .slice x_a2_p2 x_a2.Fields.length x_a2_c2] 28, .blk b1 [str x_a0.Client, str x_a0.Host, str x_a0.Scheme, str x_a0.By, .slice x_a0_p0 x_a0.Domains.length x_a0_c0, .slice x_a0_p1 x_a0.Locations.length x_a0_c1] 24, .shr x_a2_p2 (cells za x_a2.Fields), .shr x_a0_p1 (cells zb x_a0.Locations), .shr x_a0_p0 (cells zb x_a0.Domains)]) (fun σ => [⟨[(1, int x_a1)], some (29, int x_a1)⟩, ⟨[(29, int x_a1)], some (30, str r13)⟩, ⟨[(30, str r13)], some (31, str s14)⟩, ⟨[(3, ptr b1 0)], some (32, ptr b1 3)⟩, ⟨[(32, ptr b1 3)], some (33, str x_a0.By)⟩, ⟨[(31, str s14), (33, str x_a0.By)], some (34, .agg #[str [], str s14, str x_a0.By, str []])⟩, ⟨[(5, ptr b2 0)], some (35, ptr b2 6)⟩, ⟨[(35, ptr b2 6)], some (36, .slice x_a2_p2 x_a2.Fields.length x_a2_c2)⟩, ⟨[(34, .agg #[str [], str s14, str x_a0.By, str []]), (36, .slice x_a2_p2 x_a2.Fields.length x_a2_c2)], some (37, .tuple #[.slice (σ.1) r15.1.length (σ.2), int r15.2])⟩, ⟨[(37, .tuple #[.slice (σ.1) r15.1.length (σ.2), int r15.2])], some (28, .tuple #[.slice (σ.1) r15.1.length (σ.2), int r15.2])⟩, ⟨[(28, .tuple #[.slice (σ.1) r15.1.length (σ.2), int r15.2])], some (38, .slice (σ.1) r15.1.length (σ.2))⟩, ⟨[(28, .tuple #[.slice (σ.1) r15.1.length (σ.2), int r15.2])], some (39, int r15.2)⟩, ⟨[(38, .slice (σ.1) r15.1.length (σ.2))], some (8, .slice (σ.1) r15.1.length (σ.2))⟩, ⟨[(39, int r15.2)], some (9, int r15.2)⟩]) (none, 0) [1, 8] rfl (fun _ => rfl) (fun _ => rfl) (fun _ => rfl) rfl rfl (by decide) rfl hO.drew (hf.cons rfl (hf.cons rfl (hf.cons rfl (hf.cons rfl hf.nil)))) (fun σ => ⟨⟨rfl, trivial⟩, ⟨rfl, trivial⟩, ⟨rfl, trivial⟩, ⟨rfl, trivial⟩, ⟨rfl, trivial⟩, ⟨rfl, rfl, trivial⟩, ⟨rfl, trivial⟩, ⟨rfl, trivial⟩, ⟨rfl, rfl, trivial⟩, ⟨rfl, trivial⟩, ⟨rfl, trivial⟩, ⟨rfl, trivial⟩, ⟨rfl, trivial⟩, ⟨rfl, trivial⟩, trivial⟩) ⟨zc rfl (fun σ => rfl) (fun σ => rfl) (fun σ a w k _ _ _ _ hf => zl hf rfl), zbg rfl (fun σ => rfl) (fun σ => rfl) rfl (fun σ a w (_ : _) hf => zh c_21 hf (vs := [int x_a1]) rfl) (fun σ w (hO : Dk.Own w0 [] w _) => (zhZ x_a1 r13 _ (hG.own hF hO) hr13).mono fun e w' h => by obtain ⟨he, hb⟩ := h; exact ⟨((σ.1), (σ.2)), he, hO.grow hb, .inr rfl, .inr rfl, .inr rfl, .inr rfl, .inr rfl, .inr rfl, .inr rfl, .inr rfl, .inr rfl, .inr rfl, .inr rfl, .inr rfl, .inr rfl, .inr rfl, trivial⟩), zc rfl (fun σ => rfl) (fun σ => rfl) (fun σ a w k _ _ _ _ hf => zsZ (l := [49, 46]) (m := r13) hf rfl rfl hs14), zc rfl (fun σ => rfl) (fun σ => rfl) (fun σ a w k _ _ _ _ hf => zw zrf hf rfl), zc rfl (fun σ => rfl) (fun σ => rfl) (fun σ a w k hk hlo hup hst hf => match k, hk, hlo, hup, hst, hf with | 0, _, _, _, hst, hf => have hO : Dk.Own w0 [] w _ := hst; ze (o := 3) z7 (hO.blkSees (i := 3) rfl) rfl hf rfl | 1, _, _, _, hst, hf => have hO : Dk.Own w0 [] w _ := hst; ze (o := 3) z7 (hO.blkSees (i := 3) rfl) rfl hf rfl | 2, _, _, _, hst, hf => have hO : Dk.Own w0 [] w _ := hst; ze (o := 3) z7 (hO.blkSees (i := 4) rfl) rfl hf rfl | k + 3, hk, _, _, _, _ => absurd hk (by simp)), zc rfl (fun σ => rfl) (fun σ => rfl) (fun σ a w k _ _ _ _ hf => zB (vs := [(1, str s14), (2, str x_a0.By)]) (v := .agg #[str [], str s14, str x_a0.By, str []]) hf rfl (by kernel_rfl)), zc rfl (fun σ => rfl) (fun σ => rfl) (fun σ a w k _ _ _ _ hf => zw zmE hf rfl), zc rfl (fun σ => rfl) (fun σ => rfl) (fun σ a w k hk hlo hup hst hf => match k, hk, hlo, hup, hst, hf with | 0, _, _, _, hst, hf => have hO : Dk.Own w0 [] w _ := hst; ze (o := 6) zdi (hO.blkSees (i := 2) rfl) rfl hf rfl | 1, _, _, _, hst, hf => have hO : Dk.Own w0 [] w _ := hst; ze (o := 6) zdi (hO.blkSees (i := 2) rfl) rfl hf rfl | 2, _, _, _, hst, hf => have hO : Dk.Own w0 [] w _ := hst; ze (o := 6) zdi (hO.blkSees (i := 3) rfl) rfl hf rfl | k + 3, hk, _, _, _, _ => absurd hk (by simp)), zbg rfl (fun σ => rfl) (fun σ => rfl) rfl (fun σ a w (_ : _) hf => zh c_20 hf (vs := [.agg #[str [], str s14, str x_a0.By, str []], .slice x_a2_p2 x_a2.Fields.length x_a2_c2]) rfl) (fun σ w (hO : Dk.Own w0 [] w _) => (zrn (⟨[], s14, x_a0.By, []⟩ : api_Via) x_a2.Fields r15 _ (hG.own hF hO) (hO.sees (i := 4) rfl) hc2 hr15).mono fun e w' h => by obtain ⟨p16, c17, he, hO'⟩ := h; exact ⟨(p16, c17), he, hO.call hO' (by simp [Res.shared]), .inr rfl, .inr rfl, .inr rfl, .inr rfl, .inr rfl, .inr rfl, .inr rfl, .inr rfl, .inl rfl, .inl rfl, .inl rfl, .inl rfl, .inl rfl, .inr rfl, trivial⟩), zc rfl (fun σ => rfl) (fun σ => rfl) (fun σ a w k _ _ _ _ hf => zl hf rfl), zc rfl (fun σ => rfl) (fun σ => rfl) (fun σ a w k _ _ _ _ hf => zfC hf rfl rfl), zc rfl (fun σ => rfl) (fun σ => rfl) (fun σ a w k _ _ _ _ hf => zfC hf rfl rfl), zc rfl (fun σ => rfl) (fun σ => rfl) (fun σ a w k _ _ _ _ hf => z8 hf rfl), zc rfl (fun σ => rfl) (fun σ => rfl) (fun σ a w k _ _ _ _ hf => z8 hf rfl), trivial⟩ ?_
 rintro ⟨p16, c17⟩ a w hf hO
 have hO : Dk.Own w0 [] w _ := hO
 have hf : Fits 70 [(3, ptr b1 0), (5, ptr b2 0), (6, ptr b3 0), (8, .slice p16 r15.1.length c17), (9, int r15.2)] a := (hf.cons rfl (hf.cons rfl (hf.cons rfl (hf.cons rfl (hf.cons rfl hf.nil)))))
 refine S.no tb ?_ hf hO hm
 refine jv 0 [5, 6] [1, 2, 3, 4, 5, 6, 7] (fun J E L => ∃ (p29 : Option Addr) (c30 : Nat) (l31 : List api_Field) (i32 : Int), J ((8, .slice p29 l31.length c30) :: (9, int i32) :: E) (.row (.slice p29 l31.length c30) 54 2 l31.length (cells za l31) :: L) (zcE x_a2 l31 i32)) rfl ?_ ?_
 refine jv 1 [3, 5, 6, 8, 9] [0, 1, 2, 3, 4, 5, 6, 7] (fun J E L => ∃ (t20 : Bool), J ((46, .bool t20) :: E) (L) (zeh x_a0 x_a2 r15 t20)) rfl ?_ ?_
 refine br rfl (fun hc19 => ?_) fun hc19 => ?_
 refine ld 3 rfl rfl ?_
 exact en rfl fun _ _ j => ⟨x_a2.Kind == 1, j rfl⟩
 exact en rfl fun _ _ j => ⟨false, j rfl⟩
 rintro a w ⟨t20, hf, hO, hm⟩
 rw [zeh] at hm
 refine S.co tb ?_ hf hO hm
 refine br rfl (fun hc21 => ?_) fun hc21 => ?_
 refine ld 4 rfl rfl ?_
 refine rw_ rfl fun a w hf hO hm => ?_
 obtain ⟨r22, hr22, hm⟩ := ob hm
 refine zj (zh c_22 hf (vs := [.agg #[str x_a0.Client, str x_a0.Host, str x_a0.Scheme, str x_a0.By, .slice x_a0_p0 x_a0.Domains.length x_a0_c0, .slice x_a0_p1 x_a0.Locations.length x_a0_c1], .slice p16 r15.1.length c17]) rfl) rfl hf rfl rfl (zlT x_a0 r15.1 r22 _ (hG.own hF hO) (hO.sees (i := 7) rfl) hc0 (hO.sees (i := 6) rfl) hc1 (hO.rowSees (i := 0) rfl) (hO.rowCap (i := 0) rfl) hr22) ?_
 rintro e w' ⟨p23, c24, he, hO'⟩
 refine ⟨_, he, fun a hf => ?_⟩
 have hO := hO.call hO' (by simp [Res.shared])
 refine S.op tb ?_ hf hO hm
 refine ld 5 rfl rfl ?_
 refine rw_ rfl fun a w hf hO hm => ?_
 obtain ⟨r26, hr26, hm⟩ := ob hm
 refine zj (zh c_23 hf (vs := [str x_a0.Client, .slice p23 r22.1.length c24]) rfl) rfl hf rfl rfl (zqO x_a0.Client r22.1 r26 _ (hG.own hF hO) (hO.rowSees (i := 0) rfl) (hO.rowCap (i := 0) rfl) hr26) ?_
 rintro e w' ⟨p27, c28, he, hO'⟩
 refine ⟨_, he, fun a hf => ?_⟩
 have hO := hO.call hO' (by simp [Res.shared])
 refine S.op tb ?_ hf hO hm
 exact ec [0, 3, 4, 5, 6, 7, 8, 9] rfl rfl rfl fun _ _ j => ⟨p27, c28, r26, r22.2, j rfl⟩
 exact en rfl fun _ _ j => ⟨p16, c17, r15.1, r15.2, j rfl⟩
 rintro a w ⟨p29, c30, l31, i32, hf, hO, hm⟩
 rw [zcE] at hm
 refine S.co tb ?_ hf hO hm
 refine br rfl (fun hc34 => ?_) fun hc34 => ?_
 refine vl rfl rfl (fun a w hf hO => zB (vs := []) (v := .agg #[int 0, str [], str [], int 0, str [], int 0, .slice none 0 0]) hf rfl (by kernel_rfl)) ?_
 refine st 2 rfl rfl ?_
 refine nl 54 2 ?_
 refine re_ rfl fun a w hf hO hm => ?_
 obtain rfl := Option.some.inj hm
 exact zi Tryz.results8 hf (.cell rfl (zp (n := 7) (vs := [int 0, str [], str [], int 0, str [], int 0, .slice none 0 0]) zfi ze4 rfl ((hO.blkSees (i := 3) rfl).cells (o := 0) (n := 7) rfl)) (.tmp rfl .nil)) ⟨none, 0, rfl, (hO.sub (.cons_cons _ (.cons _ (.cons _ (.cons _ (.cons _ (.cons _ (.cons _ (.cons _ (.cons _ .slnil))))))))))⟩
 refine rc_ rfl fun a w hf hO hm => ?_
 obtain ⟨r37, hr37, hm⟩ := ob hm
 refine zaV (S := Nat × Option Addr × Nat × Nat) (E0 := [(5, ptr b2 0), (6, ptr b3 0), (8, .slice p29 l31.length c30)]) (by kernel_rfl) (fun k σ w => match k with | 0 => Dk.Own w0 [] w [.row (.slice p29 l31.length c30) 54 2 l31.length (cells za l31), .row (.slice none 0 0) 54 2 0 (cells za []), .blk b3 [int 0, str [], str [], int 0, str [], int 0, .slice none 0 0] 28, .blk b2 [int x_a2.Kind, str x_a2.Method, str x_a2.Target, int x_a2.Code, str x_a2.Reason, int x_a2.Minor, .slice x_a2_p2 x_a2.Fields.length x_a2_c2] 28, .blk b1 [str x_a0.Client, str x_a0.Host, str x_a0.Scheme, str x_a0.By, .slice x_a0_p0 x_a0.Domains.length x_a0_c0, .slice x_a0_p1 x_a0.Locations.length x_a0_c1] 24, .shr x_a2_p2 (cells za x_a2.Fields), .shr x_a0_p1 (cells zb x_a0.Locations), .shr x_a0_p0 (cells zb x_a0.Domains)] | 1 => Dk.Own w0 [] w [.blk (σ.1) [.slice (σ.2.1) r37.f_l.length (σ.2.2.1)] 107, .row (.slice (σ.2.1) r37.f_l.length (σ.2.2.1)) 54 2 r37.f_l.length (cells za r37.f_l), .row (.slice p29 l31.length c30) 54 2 l31.length (cells za l31), .row (.slice none 0 0) 54 2 0 (cells za []), .blk b3 [int 0, str [], str [], int 0, str [], int 0, .slice none 0 0] 28, .blk b2 [int x_a2.Kind, str x_a2.Method, str x_a2.Target, int x_a2.Code, str x_a2.Reason, int x_a2.Minor, .slice x_a2_p2 x_a2.Fields.length x_a2_c2] 28, .blk b1 [str x_a0.Client, str x_a0.Host, str x_a0.Scheme, str x_a0.By, .slice x_a0_p0 x_a0.Domains.length x_a0_c0, .slice x_a0_p1 x_a0.Locations.length x_a0_c1] 24, .shr x_a2_p2 (cells za x_a2.Fields), .shr x_a0_p1 (cells zb x_a0.Locations), .shr x_a0_p0 (cells zb x_a0.Domains)] | _ => Dk.Own w0 [] w [.blk (σ.2.2.2) [ptr (σ.1) 0, int x_a2.Kind, str x_a2.Method, str x_a2.Target, int x_a2.Code, str x_a2.Reason, int x_a2.Minor, .slice x_a2_p2 x_a2.Fields.length x_a2_c2] 66, .blk (σ.1) [.slice (σ.2.1) r37.f_l.length (σ.2.2.1)] 107, .row (.slice (σ.2.1) r37.f_l.length (σ.2.2.1)) 54 2 r37.f_l.length (cells za r37.f_l), .row (.slice p29 l31.length c30) 54 2 l31.length (cells za l31), .row (.slice none 0 0) 54 2 0 (cells za []), .blk b3 [int 0, str [], str [], int 0, str [], int 0, .slice none 0 0] 28, .blk b2 [int x_a2.Kind, str x_a2.Method, str x_a2.Target, int x_a2.Code, str x_a2.Reason, int x_a2.Minor, .slice x_a2_p2 x_a2.Fields.length x_a2_c2] 28, .blk b1 [str x_a0.Client, str x_a0.Host, str x_a0.Scheme, str x_a0.By, .slice x_a0_p0 x_a0.Domains.length x_a0_c0, .slice x_a0_p1 x_a0.Locations.length x_a0_c1] 24, .shr x_a2_p2 (cells za x_a2.Fields), .shr x_a0_p1 (cells zb x_a0.Locations), .shr x_a0_p0 (cells zb x_a0.Domains)]) (fun σ => [⟨[(8, .slice p29 l31.length c30)], some (61, .slice p29 l31.length c30)⟩, ⟨[(61, .slice p29 l31.length c30)], some (62, ptr (σ.1) 0)⟩, ⟨[(5, ptr b2 0)], some (63, .agg #[int x_a2.Kind, str x_a2.Method, str x_a2.Target, int x_a2.Code, str x_a2.Reason, int x_a2.Minor, .slice x_a2_p2 x_a2.Fields.length x_a2_c2])⟩, ⟨[(62, ptr (σ.1) 0), (63, .agg #[int x_a2.Kind, str x_a2.Method, str x_a2.Target, int x_a2.Code, str x_a2.Reason, int x_a2.Minor, .slice x_a2_p2 x_a2.Fields.length x_a2_c2])], some (64, .agg #[ptr (σ.1) 0, int x_a2.Kind, str x_a2.Method, str x_a2.Target, int x_a2.Code, str x_a2.Reason, int x_a2.Minor, .slice x_a2_p2 x_a2.Fields.length x_a2_c2])⟩, ⟨[(64, .agg #[ptr (σ.1) 0, int x_a2.Kind, str x_a2.Method, str x_a2.Target, int x_a2.Code, str x_a2.Reason, int x_a2.Minor, .slice x_a2_p2 x_a2.Fields.length x_a2_c2])], some (65, ptr (σ.2.2.2) 0)⟩, ⟨[(65, ptr (σ.2.2.2) 0)], some (10, ptr (σ.2.2.2) 0)⟩]) (0, none, 0, 0) [1, 4] rfl (fun _ => rfl) (fun _ => rfl) (fun _ => rfl) rfl rfl (by decide) rfl hO.drew (hf.cons rfl (hf.cons rfl (hf.cons rfl hf.nil))) (fun σ => ⟨⟨rfl, trivial⟩, ⟨rfl, trivial⟩, ⟨rfl, trivial⟩, ⟨rfl, rfl, trivial⟩, ⟨rfl, trivial⟩, ⟨rfl, trivial⟩, trivial⟩) ⟨zc rfl (fun σ => rfl) (fun σ => rfl) (fun σ a w k _ _ _ _ hf => zl hf rfl), zbg rfl (fun σ => rfl) (fun σ => rfl) rfl (fun σ a w (_ : _) hf => zh zsz hf (vs := [.slice p29 l31.length c30]) rfl) (fun σ w (hO : Dk.Own w0 [] w _) => (zfJ l31 r37 _ (hG.own hF hO).1 (hO.rowSees (i := 0) rfl) (hO.rowCap (i := 0) rfl) hr37).mono fun e w' h => by obtain ⟨b38, p39, c40, he, hO'⟩ := h; exact ⟨(b38, p39, c40, (σ.2.2.2)), he, hO.call hO' (by simp [Res.shared]), .inr rfl, .inl rfl, .inr rfl, .inl rfl, .inl rfl, .inr rfl, trivial⟩), zc rfl (fun σ => rfl) (fun σ => rfl) (fun σ a w k hk hlo hup hst hf => match k, hk, hlo, hup, hst, hf with | 0, _, _, _, hst, hf => have hO : Dk.Own w0 [] w _ := hst; zo (o := 0) (vs := [int x_a2.Kind, str x_a2.Method, str x_a2.Target, int x_a2.Code, str x_a2.Reason, int x_a2.Minor, .slice x_a2_p2 x_a2.Fields.length x_a2_c2]) zfi ze4 (hO.blkSees (i := 3) rfl) rfl rfl hf rfl | 1, _, _, _, hst, hf => have hO : Dk.Own w0 [] w _ := hst; zo (o := 0) (vs := [int x_a2.Kind, str x_a2.Method, str x_a2.Target, int x_a2.Code, str x_a2.Reason, int x_a2.Minor, .slice x_a2_p2 x_a2.Fields.length x_a2_c2]) zfi ze4 (hO.blkSees (i := 5) rfl) rfl rfl hf rfl | 2, _, _, _, hst, hf => have hO : Dk.Own w0 [] w _ := hst; zo (o := 0) (vs := [int x_a2.Kind, str x_a2.Method, str x_a2.Target, int x_a2.Code, str x_a2.Reason, int x_a2.Minor, .slice x_a2_p2 x_a2.Fields.length x_a2_c2]) zfi ze4 (hO.blkSees (i := 6) rfl) rfl rfl hf rfl | k + 3, hk, _, _, _, _ => absurd hk (by simp)), zc rfl (fun σ => rfl) (fun σ => rfl) (fun σ a w k _ _ _ _ hf => zB (vs := [(0, ptr (σ.1) 0), (1, .agg #[int x_a2.Kind, str x_a2.Method, str x_a2.Target, int x_a2.Code, str x_a2.Reason, int x_a2.Minor, .slice x_a2_p2 x_a2.Fields.length x_a2_c2])]) (v := .agg #[ptr (σ.1) 0, int x_a2.Kind, str x_a2.Method, str x_a2.Target, int x_a2.Code, str x_a2.Reason, int x_a2.Minor, .slice x_a2_p2 x_a2.Fields.length x_a2_c2]) hf rfl (by kernel_rfl)), zfB rfl (fun σ => rfl) (fun σ => rfl) rfl (fun σ w (hO : Dk.Own w0 [] w _) => by obtain ⟨b41, w', hO', hr⟩ := zu9 (E := [(64, .agg #[ptr (σ.1) 0, int x_a2.Kind, str x_a2.Method, str x_a2.Target, int x_a2.Code, str x_a2.Reason, int x_a2.Minor, .slice x_a2_p2 x_a2.Fields.length x_a2_c2])]) (x := (.tmp 64)) (v := .agg #[ptr (σ.1) 0, int x_a2.Kind, str x_a2.Method, str x_a2.Target, int x_a2.Code, str x_a2.Reason, int x_a2.Minor, .slice x_a2_p2 x_a2.Fields.length x_a2_c2]) (cs := [ptr (σ.1) 0, int x_a2.Kind, str x_a2.Method, str x_a2.Target, int x_a2.Code, str x_a2.Reason, int x_a2.Minor, .slice x_a2_p2 x_a2.Fields.length x_a2_c2]) rfl hO rfl; exact ⟨((σ.1), (σ.2.1), (σ.2.2.1), b41), w', hO', ⟨.inr rfl, .inr rfl, .inr rfl, .inr rfl, .inl rfl, .inl rfl, trivial⟩, hr⟩), zc rfl (fun σ => rfl) (fun σ => rfl) (fun σ a w k _ _ _ _ hf => z8 hf rfl), trivial⟩ ?_
 rintro ⟨b38, p39, c40, b41⟩ a w hf hO
 have hO : Dk.Own w0 [] w _ := hO
 have hf : Fits 70 [(6, ptr b3 0), (10, ptr b41 0)] a := (hf.cons rfl (hf.cons rfl hf.nil))
 refine S.no tb ?_ hf hO hm
 refine rw_ rfl fun a w hf hO hm => ?_
 obtain ⟨r43, hr43, hm⟩ := ob hm
 have hch46 := (show Dk.Own w0 [] _ ([.blk b41 [ptr b38 0, int x_a2.Kind, str x_a2.Method, str x_a2.Target, int x_a2.Code, str x_a2.Reason, int x_a2.Minor, .slice x_a2_p2 x_a2.Fields.length x_a2_c2] 66, .blk b38 [.slice p39 r37.f_l.length c40] 107, .row (.slice p39 r37.f_l.length c40) 54 2 r37.f_l.length (cells za r37.f_l)] ++ [.row (.slice p29 l31.length c30) 54 2 l31.length (cells za l31), .row (.slice none 0 0) 54 2 0 (cells za []), .blk b3 [int 0, str [], str [], int 0, str [], int 0, .slice none 0 0] 28, .blk b2 [int x_a2.Kind, str x_a2.Method, str x_a2.Target, int x_a2.Code, str x_a2.Reason, int x_a2.Minor, .slice x_a2_p2 x_a2.Fields.length x_a2_c2] 28, .blk b1 [str x_a0.Client, str x_a0.Host, str x_a0.Scheme, str x_a0.By, .slice x_a0_p0 x_a0.Domains.length x_a0_c0, .slice x_a0_p1 x_a0.Locations.length x_a0_c1] 24, .shr x_a2_p2 (cells za x_a2.Fields), .shr x_a0_p1 (cells zb x_a0.Locations), .shr x_a0_p0 (cells zb x_a0.Domains)]) from hO)
 have hfar46 := Dk.Own.far hch46 rfl hF hG.size
 have hlend46 := hch46.lend (S := [.shr x_a2_p2 (cells za x_a2.Fields)]) rfl ⟨zie (hO.sees (i := 8) rfl) (List.mem_of_getElem? (i := 5) rfl), trivial⟩
 have hcl46 := zdo (⟨r37, x_a2⟩ : stage_worker) r43 _ (hG.own hF hO).1 hfar46 hlend46 hc2 hr43
 refine zj (zh c_25 hf (vs := [ptr b41 0]) rfl) rfl hf rfl rfl (hcl46) ?_
 rintro e w' ⟨p44, c45, he, hO'⟩
 refine ⟨_, he, fun a hf => ?_⟩
 have hO := hch46.back rfl hO' rfl
 refine S.op tb ?_ hf hO hm
 refine st 3 rfl rfl ?_
 refine re_ rfl fun a w hf hO hm => ?_
 obtain rfl := Option.some.inj hm
 exact zi Tryz.results8 hf (.cell rfl (zp (n := 7) (vs := [int r43.1.Kind, str r43.1.Method, str r43.1.Target, int r43.1.Code, str r43.1.Reason, int r43.1.Minor, .slice p44 r43.1.Fields.length c45]) zfi ze4 rfl ((hO.blkSees (i := 3) rfl).cells (o := 0) (n := 7) rfl)) (.tmp rfl .nil)) ⟨p44, c45, rfl, (hO.sub (.cons_cons _ (.cons _ (.cons _ (.cons _ (.cons _ (.cons _ (.cons _ (.cons _ (.cons _ .slnil))))))))))⟩

theorem zma (x_s : Str) (R : Str) (w0 : World) (hG : zt w0) (hm : zgQ x_s = some R) :
    Calls Tryz.prog 66 #[str x_s] w0 (Ret w0 (fun R => str R) R) := by
 rw [zgQ] at hm
 have hF : zu [] := zf
 have hO : Dk.Own w0 [] w0 [] := Dk.Own.refl w0
 refine S.enter tb Tryz.func66 rfl Tryz.ntmps66 rfl ?_ hO hm
 refine lv [0] [] (fun J E L k => ∃ (s4 : Str) (i5 : Int), J ((3, str s4) :: (4, int i5) :: E) (L) (zbk x_s k s4 i5)) rfl (fun _ _ j => ⟨[], 0, j rfl⟩) ?_
 rintro n1 a w ⟨s4, i5, hf, hO, hm⟩
 obtain _ | n1 := n1
 rw [zbk] at hm
 cases hm
 rw [zbk] at hm
 refine S.co tb ?_ hf hO hm
 refine br rfl (fun hc7 => ?_) fun hc7 => ?_
 refine bi rfl fun i9 hi9 => ?_
 refine bi rfl fun s10 hs10 => ?_
 refine lv [0, 3, 4] [] (fun J E L k => ∃ (s13 : Str) (i14 : Int), J ((5, str s13) :: (6, int i14) :: E) (L) (zbj (zbk x_s n1) x_s s4 i5 k s13 i14)) rfl (fun _ _ j => ⟨s10, 0, j rfl⟩) ?_
 rintro n2 a w ⟨s13, i14, hf, hO, hm⟩
 obtain _ | n2 := n2
 rw [zbj] at hm
 cases hm
 rw [zbj] at hm
 refine S.co tb ?_ hf hO hm
 refine br rfl (fun hc16 => ?_) fun hc16 => ?_
 refine jv 8 [0, 3, 4, 6] [] (fun J E L => ∃ (s24 : Str), J ((5, str s24) :: E) (L) (zfg (zbj (zbk x_s n1) x_s s4 i5 n2) i14 s24)) rfl ?_ ?_
 refine rc_ rfl fun a w hf hO hm => ?_
 refine zd1 (by kernel_rfl) (by kernel_rfl) hO ?_
 refine zn (fun w hO => zl hf rfl) rfl hf rfl rfl fun a hf => ?_
 obtain ⟨b18, hb18, hm⟩ := ob hm
 refine zn (fun w hO => zl3 (l := [65, 66, 67, 68, 69, 70, 71, 72, 73, 74, 75, 76, 77, 78, 79, 80, 81, 82, 83, 84, 85, 86, 87, 88, 89, 90]) Tryz.underlying9 hf rfl rfl hb18) rfl hf rfl rfl fun a hf => ?_
 refine zn (fun w hO => zl hf rfl) rfl hf rfl rfl fun a hf => ?_
 refine zn (fun w hO => zl hf rfl) rfl hf rfl rfl fun a hf => ?_
 obtain ⟨b19, hb19, hm⟩ := ob hm
 refine zn (fun w hO => zl3 (l := x_s) Tryz.underlying9 hf rfl rfl hb19) rfl hf rfl rfl fun a hf => ?_
 refine zn (fun w hO => zaL (b := b18) (c := b19) hf rfl rfl) rfl hf rfl rfl fun a hf => ?_
 refine wpQuiet_nil ?_
 intro w hO
 refine S.no tb ?_ hf hO hm
 refine br rfl (fun hc21 => ?_) fun hc21 => ?_
 refine bi rfl fun i22 hi22 => ?_
 refine bi rfl fun s23 hs23 => ?_
 exact en rfl fun _ _ j => ⟨s23, j rfl⟩
 exact en rfl fun _ _ j => ⟨s13, j rfl⟩
 rintro a w ⟨s24, hf, hO, hm⟩
 rw [zfg] at hm
 refine S.co tb ?_ hf hO hm
 refine bi rfl fun i25 hi25 => ?_
 exact en rfl fun _ _ j => ⟨_, Nat.lt_succ_self _, s24, i25, j rfl⟩
 refine bi rfl fun s27 hs27 => ?_
 refine bi rfl fun i29 hi29 => ?_
 exact en rfl fun _ _ j => ⟨_, Nat.lt_succ_self _, s27, i29, j rfl⟩
 exact rt Tryz.results66 rfl

theorem zs6 (x_f : api_Field) (x_name : Str) (R : Bool) (w0 : World) (hG : zt w0) (hm : zkD x_f x_name = some R) :
    Calls Tryz.prog 35 #[.agg #[str x_f.Name, str x_f.Value], str x_name] w0 (Ret w0 (fun R => .bool R) R) := by
 rw [zkD] at hm
 have hF : zu [] := zf
 have hO : Dk.Own w0 [] w0 [] := Dk.Own.refl w0
 refine S.enter tb Tryz.func35 rfl Tryz.ntmps35 rfl ?_ hO hm
 refine bo rfl fun b1 => ?_
 refine ld 0 rfl rfl ?_
 refine cl c_66 rfl (fun r3 w hr3 hO => zma x_f.Name r3 _ (hG.own hF hO) hr3) fun r3 hr3 => ?_
 refine cl c_66 rfl (fun r4 w hr4 hO => zma x_name r4 _ (hG.own hF hO) hr4) fun r4 hr4 => ?_
 exact rt Tryz.results35 rfl

theorem zcM (x_l : List api_Field) (x_name : Str) (R : List Str) (w0 : World) (hG : zt w0) {x_l_p0 : Option Addr} {x_l_c0 : Nat} (hs0 : zy w0 x_l_p0 (cells za x_l)) (hc0 : x_l.length ≤ x_l_c0) (hm : zV x_l x_name = some R) :
    Calls Tryz.prog 12 #[.slice x_l_p0 x_l.length x_l_c0, str x_name] w0 fun e w' => ∃ (p0 : Option Addr) (c0 : Nat), e = .returned (.slice p0 R.length c0) ∧ Dk.Own w0 [] w' [.row (.slice p0 R.length c0) 9 1 R.length (cells zg R)] := by
 rw [zV] at hm
 have hF : zu [] := zf
 have hO : Dk.Own w0 [] w0 [] := Dk.Own.refl w0
 have hO := hO.addShr hs0 (by simp [Res.shared])
 refine S.enter tb Tryz.func12 rfl Tryz.ntmps12 rfl ?_ hO hm
 refine nl 9 1 ?_
 refine nl 9 1 ?_
 refine lv [0, 1] [1, 2] (fun J E L k => ∃ (p4 : Option Addr) (c5 : Nat) (l6 : List Str) (i7 : Int), J ((5, .slice p4 l6.length c5) :: (6, int i7) :: E) (.row (.slice p4 l6.length c5) 9 1 l6.length (cells zg l6) :: L) (za4 x_l x_name k l6 i7)) rfl (fun _ _ j => ⟨none, 0, [], 0, j rfl⟩) ?_
 rintro n1 a w ⟨p4, c5, l6, i7, hf, hO, hm⟩
 obtain _ | n1 := n1
 rw [za4] at hm
 cases hm
 rw [za4] at hm
 refine S.co tb ?_ hf hO hm
 refine br rfl (fun hc9 => ?_) fun hc9 => ?_
 refine jv 3 [0, 1, 6] [1, 2] (fun J E L => ∃ (p24 : Option Addr) (c25 : Nat) (l26 : List Str), J ((5, .slice p24 l26.length c25) :: E) (.row (.slice p24 l26.length c25) 9 1 l26.length (cells zg l26) :: L) (zd7 (za4 x_l x_name n1) i7 l26)) rfl ?_ ?_
 refine rw_ rfl fun a w hf hO hm => ?_
 obtain ⟨x11, hx11, hm⟩ := ob hm
 obtain ⟨b12, o13, hix11, hSx11⟩ := zaK (enc := za) (sz := 2) (xs := x_l) 26 Tryz.underlying26 zcc (by decide) (fun _ => rfl) (hO.sees (i := 2) rfl) hx11
 refine zS (zk hix11 hf rfl rfl) rfl hf rfl rfl fun a hf => ?_
 refine S.op tb ?_ hf hO hm
 refine vl rfl rfl (fun a w hf hO => zo (o := 0) (vs := [str x11.Name, str x11.Value]) ziD zcc (hSx11 _ (hO.sees (i := 2) rfl)) rfl rfl hf rfl) ?_
 refine cl c_35 rfl (fun r14 w hr14 hO => zs6 x11 x_name r14 _ (hG.own hF hO) hr14) fun r14 hr14 => ?_
 refine br rfl (fun hc16 => ?_) fun hc16 => ?_
 refine rw_ rfl fun a w hf hO hm => ?_
 obtain ⟨x17, hx17, hm⟩ := ob hm
 obtain ⟨b18, o19, hix17, hSx17⟩ := zaK (enc := za) (sz := 2) (xs := x_l) 26 Tryz.underlying26 zcc (by decide) (fun _ => rfl) (hO.sees (i := 2) rfl) hx17
 refine zS (zk hix17 hf rfl rfl) rfl hf rfl rfl fun a hf => ?_
 refine S.op tb ?_ hf hO hm
 refine vl rfl rfl (fun a w hf hO => ze (o := 1) z7 (hSx17 _ (hO.sees (i := 2) rfl)) rfl hf rfl) ?_
 refine rw_ rfl fun a w hf hO hm => ?_
 refine zm (vs := [(0, str x17.Value)]) (cs := [str x17.Value]) (e := 9) (sz := 1) hf rfl rfl (fun w => by kernel_rfl) rfl rfl hO fun a b20 w hf hO => ?_
 refine S.op tb ?_ hf hO hm
 refine rw_ rfl fun a w hf hO hm => ?_
 obtain ⟨hg23, hm⟩ := og hm
 refine zae ziE (enc := zg) (xs := l6) (ys := ([x17.Value] : List Str)) (i := 1) (fun _ => rfl) rfl (hO.rowSees (i := 0) rfl) (by simp [cells, zg, Value.oneCell']) hg23 hf rfl rfl rfl hO fun a p21 c22 w hf hO => ?_
 refine S.op tb ?_ hf hO hm
 exact ec [1, 2, 3] rfl rfl rfl fun _ _ j => ⟨p21, c22, l6 ++ ([x17.Value] : List Str), j rfl⟩
 exact en rfl fun _ _ j => ⟨p4, c5, l6, j rfl⟩
 rintro a w ⟨p24, c25, l26, hf, hO, hm⟩
 rw [zd7] at hm
 refine S.co tb ?_ hf hO hm
 refine bi rfl fun i27 hi27 => ?_
 exact en rfl fun _ _ j => ⟨_, Nat.lt_succ_self _, p24, c25, l26, i27, j rfl⟩
 refine re_ rfl fun a w hf hO hm => ?_
 obtain rfl := Option.some.inj hm
 exact zi Tryz.results12 hf (.tmp rfl .nil) ⟨p4, c5, rfl, (hO.sub (.cons_cons _ (.cons _ (.cons _ .slnil))))⟩

theorem zpD (R : Bool) (w0 : World) (hG : zaG w0) (hm : ziy = some R) :
    Calls Tryz.prog 5 #[] w0 (Ret w0 (fun R => .bool R) R) := by
 rw [ziy] at hm
 have hF : zu [] := zf
 have hO : Dk.Own w0 [] w0 [] := Dk.Own.refl w0
 refine S.enter tb Tryz.func5 rfl Tryz.ntmps5 rfl ?_ hO hm
 refine vl rfl rfl (fun a w hf hO => zB (vs := [(0, str [49, 46, 50, 46, 51, 46, 52]), (3, str [109, 101])]) (v := .agg #[str [49, 46, 50, 46, 51, 46, 52], str [], str [], str [109, 101], .slice none 0 0, .slice none 0 0]) hf rfl (by kernel_rfl)) ?_
 refine al zsr rfl fun b2 => ?_
 refine nl 98 2 ?_
 refine nl 98 2 ?_
 refine st 2 rfl rfl ?_
 refine nl 98 2 ?_
 refine nl 98 2 ?_
 refine ld 4 rfl rfl ?_
 refine vl rfl rfl (fun a w hf hO => zB (vs := [(0, int 1), (1, str [71, 69, 84]), (2, str [104, 116, 116, 112, 58, 47, 47, 97, 58, 56, 48, 47, 120])]) (v := .agg #[int 1, str [71, 69, 84], str [104, 116, 116, 112, 58, 47, 47, 97, 58, 56, 48, 47, 120], int 0, str [], int 0, .slice none 0 0]) hf rfl (by kernel_rfl)) ?_
 refine rw_ rfl fun a w hf hO hm => ?_
 obtain ⟨r4, hr4, hm⟩ := ob hm
 refine zj (zh c_16 hf (vs := [.agg #[str [49, 46, 50, 46, 51, 46, 52], str [], str [], str [109, 101], .slice none 0 0, .slice none 0 0], .agg #[int 1, str [71, 69, 84], str [104, 116, 116, 112, 58, 47, 47, 97, 58, 56, 48, 47, 120], int 0, str [], int 0, .slice none 0 0]]) rfl) rfl hf rfl rfl (zpZ (⟨[49, 46, 50, 46, 51, 46, 52], [], [], [109, 101], [], []⟩ : api_Env) (⟨1, [71, 69, 84], [104, 116, 116, 112, 58, 47, 47, 97, 58, 56, 48, 47, 120], 0, [], 0, []⟩ : api_Head) r4 _ (hG.own hF hO) (hO.rowSees (i := 1) rfl) (hO.rowCap (i := 1) rfl) (hO.rowSees (i := 0) rfl) (hO.rowCap (i := 0) rfl) (zy.nil _) (Nat.zero_le _) hr4) ?_
 rintro e w' ⟨p5, c6, he, hO'⟩
 refine ⟨_, he, fun a hf => ?_⟩
 have hO := hO.call hO' (by simp [Res.shared])
 refine S.op tb ?_ hf hO hm
 refine al zpe rfl fun b7 => ?_
 refine nl 54 2 ?_
 refine st 1 rfl rfl ?_
 refine ld 7 rfl rfl ?_
 refine ld 1 rfl rfl ?_
 refine rw_ rfl fun a w hf hO hm => ?_
 obtain ⟨r9, hr9, hm⟩ := ob hm
 refine zj (zh c_8 hf (vs := [.agg #[str [49, 46, 50, 46, 51, 46, 52], str [], str [], str [109, 101], .slice none 0 0, .slice none 0 0], int 0, .agg #[int r4.1.Kind, str r4.1.Method, str r4.1.Target, int r4.1.Code, str r4.1.Reason, int r4.1.Minor, .slice p5 r4.1.Fields.length c6]]) rfl) rfl hf rfl rfl (zl9 (⟨[49, 46, 50, 46, 51, 46, 52], [], [], [109, 101], [], []⟩ : api_Env) 0 r4.1 r9 _ (hG.own hF hO) (hO.rowSees (i := 4) rfl) (hO.rowCap (i := 4) rfl) (hO.rowSees (i := 3) rfl) (hO.rowCap (i := 3) rfl) (hO.rowSees (i := 2) rfl) (hO.rowCap (i := 2) rfl) hr9) ?_
 rintro e w' ⟨p10, c11, he, hO'⟩
 refine ⟨_, he, fun a hf => ?_⟩
 have hO := hO.call hO' (by simp [Res.shared])
 refine S.op tb ?_ hf hO hm
 refine al zpe rfl fun b12 => ?_
 refine nl 54 2 ?_
 refine st 1 rfl rfl ?_
 refine ld 1 rfl rfl ?_
 refine rw_ rfl fun a w hf hO hm => ?_
 obtain ⟨r14, hr14, hm⟩ := ob hm
 refine zj (zh ztv hf (vs := [.slice p10 r9.1.Fields.length c11, str [118, 105, 97]]) rfl) rfl hf rfl rfl (zcM r9.1.Fields [118, 105, 97] r14 _ (hG.own hF hO).1 (hO.rowSees (i := 2) rfl) (hO.rowCap (i := 2) rfl) hr14) ?_
 rintro e w' ⟨p15, c16, he, hO'⟩
 refine ⟨_, he, fun a hf => ?_⟩
 have hO := hO.call hO' (by simp [Res.shared])
 refine S.op tb ?_ hf hO hm
 refine jv 0 [] [0, 1, 2, 3, 4, 5, 6, 7, 8, 9, 10, 11] (fun J E L => ∃ (t31 : Bool), J ((0, .bool t31) :: E) (L) (za2 t31)) rfl ?_ ?_
 refine br rfl (fun hc18 => ?_) fun hc18 => ?_
 refine br rfl (fun hc19 => ?_) fun hc19 => ?_
 refine ld 2 rfl rfl ?_
 refine br rfl (fun hc20 => ?_) fun hc20 => ?_
 refine ld 2 rfl rfl ?_
 refine br rfl (fun hc21 => ?_) fun hc21 => ?_
 refine br rfl (fun hc22 => ?_) fun hc22 => ?_
 refine rw_ rfl fun a w hf hO hm => ?_
 obtain ⟨x23, hx23, hm⟩ := ob hm
 obtain ⟨b24, o25, hix23, hSx23, hAx23⟩ := zaw (enc := zg) (sz := 1) (xs := r14) 42 Tryz.underlying42 zfZ (by decide) (fun _ => rfl) hO (i := 0) rfl hx23
 refine zS (zk hix23 hf rfl rfl) rfl hf rfl rfl fun a hf => ?_
 refine S.op tb ?_ hf hO hm
 refine kn (b' := true) hc22 rfl ?_
 refine vl rfl rfl (fun a w hf hO => ze (o := 0) z7 (hSx23 _ (hO.rowSees (i := 0) rfl)) rfl hf rfl) ?_
 refine br rfl (fun hc26 => ?_) fun hc26 => ?_
 refine ld 2 rfl rfl ?_
 refine br rfl (fun hc27 => ?_) fun hc27 => ?_
 refine ld 2 rfl rfl ?_
 refine rw_ rfl fun a w hf hO hm => ?_
 obtain ⟨x28, hx28, hm⟩ := ob hm
 obtain ⟨b29, o30, hix28, hSx28, hAx28⟩ := zaw (enc := za) (sz := 2) (xs := r9.1.Fields) 26 Tryz.underlying26 zcc (by decide) (fun _ => rfl) hO (i := 3) rfl hx28
 refine zS (zk hix28 hf rfl rfl) rfl hf rfl rfl fun a hf => ?_
 refine S.op tb ?_ hf hO hm
 refine kn (b' := true) hc27 rfl ?_
 refine vl rfl rfl (fun a w hf hO => zo (o := 0) (vs := [str x28.Name, str x28.Value]) ziD zcc (hSx28 _ (hO.rowSees (i := 3) rfl)) rfl rfl hf rfl) ?_
 refine vl rfl rfl (fun a w hf hO => zB (vs := [(0, str [72, 111, 115, 116]), (1, str [97, 58, 56, 48])]) (v := .agg #[str [72, 111, 115, 116], str [97, 58, 56, 48]]) hf rfl (by kernel_rfl)) ?_
 refine vl rfl rfl (fun a w hf hO => zvo (by kernel_rfl) (eq_54 x28 (⟨[72, 111, 115, 116], [97, 58, 56, 48]⟩ : api_Field)) hf rfl rfl) ?_
 exact en rfl fun _ _ j => ⟨x28 == (⟨[72, 111, 115, 116], [97, 58, 56, 48]⟩ : api_Field), j rfl⟩
 exact en rfl fun _ _ j => ⟨false, j rfl⟩
 exact en rfl fun _ _ j => ⟨false, j rfl⟩
 exact en rfl fun _ _ j => ⟨false, j rfl⟩
 exact en rfl fun _ _ j => ⟨false, j rfl⟩
 exact en rfl fun _ _ j => ⟨false, j rfl⟩
 exact en rfl fun _ _ j => ⟨false, j rfl⟩
 exact en rfl fun _ _ j => ⟨false, j rfl⟩
 rintro a w ⟨t31, hf, hO, hm⟩
 rw [za2] at hm
 refine S.co tb ?_ hf hO hm
 exact rt Tryz.results5 rfl

theorem zmb (x_x : api_Swap) (R : api_Swap) (w0 : World) (hG : zt w0) (hm : zgR x_x = some R) :
    Calls Tryz.prog 44 #[.agg #[str x_x.From, str x_x.To]] w0 (Ret w0 (fun R => .agg #[str R.From, str R.To]) R) := by
 rw [zgR] at hm
 have hF : zu [] := zf
 have hO : Dk.Own w0 [] w0 [] := Dk.Own.refl w0
 refine S.enter tb Tryz.func44 rfl Tryz.ntmps44 rfl ?_ hO hm
 refine bo rfl fun b1 => ?_
 refine al zv8 rfl fun b2 => ?_
 refine rc_ rfl fun a w hf hO hm => ?_
 obtain ⟨s4, hs4, hm⟩ := ob hm
 obtain ⟨s5, hs5, hm⟩ := ob hm
 refine zaV (S := Unit) (E0 := [(1, ptr b1 0), (2, ptr b2 0)]) (by kernel_rfl) (fun k σ w => match k with | 0 => Dk.Own w0 [] w [.blk b2 [str [], str []] 98, .blk b1 [str x_x.From, str x_x.To] 98] | _ => Dk.Own w0 [] w [.blk b2 [str s4, str s5] 98, .blk b1 [str x_x.From, str x_x.To] 98]) (fun σ => [⟨[(1, ptr b1 0)], some (3, ptr b1 0)⟩, ⟨[(3, ptr b1 0)], some (4, str x_x.From)⟩, ⟨[(1, ptr b1 0)], some (5, ptr b1 0)⟩, ⟨[(5, ptr b1 0)], some (6, str x_x.From)⟩, ⟨[(6, str x_x.From)], some (7, int (x_x.From.length : Int))⟩, ⟨[(7, int (x_x.From.length : Int))], some (8, int (min (x_x.From.length : Int) 60))⟩, ⟨[(4, str x_x.From), (8, int (min (x_x.From.length : Int) 60))], some (9, str s4)⟩, ⟨[(1, ptr b1 0)], some (10, ptr b1 1)⟩, ⟨[(10, ptr b1 1)], some (11, str x_x.To)⟩, ⟨[(1, ptr b1 0)], some (12, ptr b1 1)⟩, ⟨[(12, ptr b1 1)], some (13, str x_x.To)⟩, ⟨[(13, str x_x.To)], some (14, int (x_x.To.length : Int))⟩, ⟨[(14, int (x_x.To.length : Int))], some (15, int (min (x_x.To.length : Int) 60))⟩, ⟨[(11, str x_x.To), (15, int (min (x_x.To.length : Int) 60))], some (16, str s5)⟩, ⟨[(9, str s4), (16, str s5)], some (17, .agg #[str s4, str s5])⟩, ⟨[(2, ptr b2 0), (17, .agg #[str s4, str s5])], none⟩]) () [15] rfl (fun _ => rfl) (fun _ => rfl) (fun _ => rfl) rfl rfl (by decide) rfl hO.drew (hf.cons rfl (hf.cons rfl hf.nil)) (fun σ => ⟨⟨rfl, trivial⟩, ⟨rfl, trivial⟩, ⟨rfl, trivial⟩, ⟨rfl, trivial⟩, ⟨rfl, trivial⟩, ⟨rfl, trivial⟩, ⟨rfl, rfl, trivial⟩, ⟨rfl, trivial⟩, ⟨rfl, trivial⟩, ⟨rfl, trivial⟩, ⟨rfl, trivial⟩, ⟨rfl, trivial⟩, ⟨rfl, trivial⟩, ⟨rfl, rfl, trivial⟩, ⟨rfl, rfl, trivial⟩, ⟨rfl, rfl, trivial⟩, trivial⟩) ⟨zc rfl (fun σ => rfl) (fun σ => rfl) (fun σ a w k _ _ _ _ hf => zw zk3 hf rfl), zc rfl (fun σ => rfl) (fun σ => rfl) (fun σ a w k hk hlo hup hst hf => match k, hk, hlo, hup, hst, hf with | 0, _, _, _, hst, hf => have hO : Dk.Own w0 [] w _ := hst; ze (o := 0) z7 (hO.blkSees (i := 1) rfl) rfl hf rfl | 1, _, _, _, hst, hf => have hO : Dk.Own w0 [] w _ := hst; ze (o := 0) z7 (hO.blkSees (i := 1) rfl) rfl hf rfl | k + 2, hk, _, _, _, _ => absurd hk (by simp)), zc rfl (fun σ => rfl) (fun σ => rfl) (fun σ a w k _ _ _ _ hf => zw zk3 hf rfl), zc rfl (fun σ => rfl) (fun σ => rfl) (fun σ a w k hk hlo hup hst hf => match k, hk, hlo, hup, hst, hf with | 0, _, _, _, hst, hf => have hO : Dk.Own w0 [] w _ := hst; ze (o := 0) z7 (hO.blkSees (i := 1) rfl) rfl hf rfl | 1, _, _, _, hst, hf => have hO : Dk.Own w0 [] w _ := hst; ze (o := 0) z7 (hO.blkSees (i := 1) rfl) rfl hf rfl | k + 2, hk, _, _, _, _ => absurd hk (by simp)), zc rfl (fun σ => rfl) (fun σ => rfl) (fun σ a w k _ _ _ _ hf => zf1 (l := x_x.From) Tryz.underlying9 hf rfl), zc rfl (fun σ => rfl) (fun σ => rfl) (fun σ a w k _ _ _ _ hf => zmR (m := (x_x.From.length : Int)) (n := 60) hf rfl rfl), zc rfl (fun σ => rfl) (fun σ => rfl) (fun σ a w k _ _ _ _ hf => zhG (l := x_x.From) Tryz.underlying9 hf rfl rfl hs4), zc rfl (fun σ => rfl) (fun σ => rfl) (fun σ a w k _ _ _ _ hf => zw zk4 hf rfl), zc rfl (fun σ => rfl) (fun σ => rfl) (fun σ a w k hk hlo hup hst hf => match k, hk, hlo, hup, hst, hf with | 0, _, _, _, hst, hf => have hO : Dk.Own w0 [] w _ := hst; ze (o := 1) z7 (hO.blkSees (i := 1) rfl) rfl hf rfl | 1, _, _, _, hst, hf => have hO : Dk.Own w0 [] w _ := hst; ze (o := 1) z7 (hO.blkSees (i := 1) rfl) rfl hf rfl | k + 2, hk, _, _, _, _ => absurd hk (by simp)), zc rfl (fun σ => rfl) (fun σ => rfl) (fun σ a w k _ _ _ _ hf => zw zk4 hf rfl), zc rfl (fun σ => rfl) (fun σ => rfl) (fun σ a w k hk hlo hup hst hf => match k, hk, hlo, hup, hst, hf with | 0, _, _, _, hst, hf => have hO : Dk.Own w0 [] w _ := hst; ze (o := 1) z7 (hO.blkSees (i := 1) rfl) rfl hf rfl | 1, _, _, _, hst, hf => have hO : Dk.Own w0 [] w _ := hst; ze (o := 1) z7 (hO.blkSees (i := 1) rfl) rfl hf rfl | k + 2, hk, _, _, _, _ => absurd hk (by simp)), zc rfl (fun σ => rfl) (fun σ => rfl) (fun σ a w k _ _ _ _ hf => zf1 (l := x_x.To) Tryz.underlying9 hf rfl), zc rfl (fun σ => rfl) (fun σ => rfl) (fun σ a w k _ _ _ _ hf => zmR (m := (x_x.To.length : Int)) (n := 60) hf rfl rfl), zc rfl (fun σ => rfl) (fun σ => rfl) (fun σ a w k _ _ _ _ hf => zhG (l := x_x.To) Tryz.underlying9 hf rfl rfl hs5), zc rfl (fun σ => rfl) (fun σ => rfl) (fun σ a w k _ _ _ _ hf => zB (vs := [(0, str s4), (1, str s5)]) (v := .agg #[str s4, str s5]) hf rfl (by kernel_rfl)), zce rfl (fun σ => rfl) (fun σ => rfl) rfl (fun σ w (hO : Dk.Own w0 [] w _) => by obtain ⟨w', hO', hr⟩ := zeI (x := (.tmp 2)) (y := (.tmp 17)) (E := [(2, ptr b2 0), (17, .agg #[str s4, str s5])]) (i := 0) (n := 2) (vs := [str s4, str s5]) zeH rfl rfl rfl (by simp [Value.oneCell']) hO rfl rfl; exact ⟨(), w', hO', ⟨.inr rfl, .inr rfl, .inr rfl, .inr rfl, .inr rfl, .inr rfl, .inr rfl, .inr rfl, .inr rfl, .inr rfl, .inr rfl, .inr rfl, .inr rfl, .inr rfl, .inr rfl, .inr rfl, trivial⟩, hr⟩), trivial⟩ ?_
 rintro _ a w hf hO
 have hO : Dk.Own w0 [] w _ := hO
 have hf : Fits 18 [(2, ptr b2 0)] a := (hf.cons rfl hf.nil)
 refine S.no tb ?_ hf hO hm
 refine re_ rfl fun a w hf hO hm => ?_
 obtain rfl := Option.some.inj hm
 exact zi Tryz.results44 hf (.cell rfl (zp (n := 2) (vs := [str s4, str s5]) zjk zeH rfl ((hO.blkSees (i := 0) rfl).cells (o := 0) (n := 2) rfl)) .nil) ⟨rfl, hO.below⟩

theorem zrH (x_a0 : api_Env) (R : api_Env) (w0 : World) (hG : zt w0) {x_a0_p0 : Option Addr} {x_a0_c0 : Nat} (hs0 : zy w0 x_a0_p0 (cells zb x_a0.Domains)) (hc0 : x_a0.Domains.length ≤ x_a0_c0) {x_a0_p1 : Option Addr} {x_a0_c1 : Nat} (hs1 : zy w0 x_a0_p1 (cells zb x_a0.Locations)) (hc1 : x_a0.Locations.length ≤ x_a0_c1) (hm : zje x_a0 = some R) :
    Calls Tryz.prog 17 #[.agg #[str x_a0.Client, str x_a0.Host, str x_a0.Scheme, str x_a0.By, .slice x_a0_p0 x_a0.Domains.length x_a0_c0, .slice x_a0_p1 x_a0.Locations.length x_a0_c1]] w0 fun e w' => ∃ (p0 : Option Addr) (c0 : Nat) (p1 : Option Addr) (c1 : Nat), e = .returned (.agg #[str R.Client, str R.Host, str R.Scheme, str R.By, .slice p0 R.Domains.length c0, .slice p1 R.Locations.length c1]) ∧ Dk.Own w0 [] w' [.row (.slice p0 R.Domains.length c0) 98 2 R.Domains.length (cells zb R.Domains), .row (.slice p1 R.Locations.length c1) 98 2 R.Locations.length (cells zb R.Locations)] := by
 rw [zje] at hm
 have hF : zu [] := zf
 have hO : Dk.Own w0 [] w0 [] := Dk.Own.refl w0
 have hO := hO.addShr hs0 (by simp [Res.shared])
 have hO := hO.addShr hs1 (by simp [Res.shared])
 refine S.enter tb Tryz.func17 rfl Tryz.ntmps17 rfl ?_ hO hm
 refine bo rfl fun b1 => ?_
 refine al zsr rfl fun b2 => ?_
 refine nl 98 2 ?_
 refine nl 98 2 ?_
 refine ld 3 rfl rfl ?_
 refine ld 3 rfl rfl ?_
 refine ld 3 rfl rfl ?_
 refine ld 3 rfl rfl ?_
 refine vl rfl rfl (fun a w hf hO => zB (vs := [(0, str x_a0.Client), (1, str x_a0.Host), (2, str x_a0.Scheme), (3, str x_a0.By)]) (v := .agg #[str x_a0.Client, str x_a0.Host, str x_a0.Scheme, str x_a0.By]) hf rfl (by kernel_rfl)) ?_
 refine al al_96 rfl fun b4 => ?_
 refine st 0 rfl rfl ?_
 refine jv 0 [1, 2, 3] [1, 2, 3, 4, 5, 6] (fun J E L => ∃ (s22 : Str) (s23 : Str) (s24 : Str) (s25 : Str), J (E) (.blk b4 [str s22, str s23, str s24, str s25] 96 :: L) (zhO x_a0 s22 s23 s24 s25)) rfl ?_ ?_
 refine lv [1, 2, 3] [1, 2, 3, 4, 5, 6] (fun J E L k => ∃ (s7 : Str) (s8 : Str) (s9 : Str) (s10 : Str) (i11 : Int), J ((4, int i11) :: E) (.blk b4 [str s7, str s8, str s9, str s10] 96 :: L) (zb3 x_a0 k s7 s8 s9 s10 i11)) rfl (fun _ _ j => ⟨x_a0.Client, x_a0.Host, x_a0.Scheme, x_a0.By, 0, j rfl⟩) ?_
 rintro n1 a w ⟨s7, s8, s9, s10, i11, hf, hO, hm⟩
 obtain _ | n1 := n1
 rw [zb3] at hm
 cases hm
 rw [zb3] at hm
 refine S.co tb ?_ hf hO hm
 refine br rfl (fun hc13 => ?_) fun hc13 => ?_
 refine rc_ rfl fun a w hf hO hm => ?_
 obtain ⟨x15, hx15, hm⟩ := ob hm
 have hAx15 := zqS (n := 4) (b := b4) (xs := [s7, s8, s9, s10]) (m := i11) 96 Tryz.underlying96 zfZ rfl hx15
 obtain ⟨x16, hx16, hm⟩ := ob hm
 have hAx16 := zqS (n := 4) (b := b4) (xs := [s7, s8, s9, s10]) (m := i11) 96 Tryz.underlying96 zfZ rfl hx16
 obtain ⟨s17, hs17, hm⟩ := ob hm
 obtain ⟨x18, hx18, hm⟩ := ob hm
 have hAx18 := zqS (n := 4) (b := b4) (xs := [s7, s8, s9, s10]) (m := i11) 96 Tryz.underlying96 zfZ rfl hx18
 obtain ⟨r19, hr19, hm⟩ := ob hm
 refine zaV (S := Unit) (E0 := [(1, ptr b1 0), (2, ptr b2 0), (3, ptr b4 0), (4, int i11)]) (by kernel_rfl) (fun k σ w => match k with | 0 => Dk.Own w0 [] w [.blk b4 [str s7, str s8, str s9, str s10] 96, .row (.slice none 0 0) 98 2 0 (cells zb []), .row (.slice none 0 0) 98 2 0 (cells zb []), .blk b2 [str [], str [], str [], str [], .slice none 0 0, .slice none 0 0] 24, .blk b1 [str x_a0.Client, str x_a0.Host, str x_a0.Scheme, str x_a0.By, .slice x_a0_p0 x_a0.Domains.length x_a0_c0, .slice x_a0_p1 x_a0.Locations.length x_a0_c1] 24, .shr x_a0_p1 (cells zb x_a0.Locations), .shr x_a0_p0 (cells zb x_a0.Domains)] | _ => Dk.Own w0 [] w [.blk b4 [str r19.1, str r19.2.1, str r19.2.2.1, str r19.2.2.2] 96, .row (.slice none 0 0) 98 2 0 (cells zb []), .row (.slice none 0 0) 98 2 0 (cells zb []), .blk b2 [str [], str [], str [], str [], .slice none 0 0, .slice none 0 0] 24, .blk b1 [str x_a0.Client, str x_a0.Host, str x_a0.Scheme, str x_a0.By, .slice x_a0_p0 x_a0.Domains.length x_a0_c0, .slice x_a0_p1 x_a0.Locations.length x_a0_c1] 24, .shr x_a0_p1 (cells zb x_a0.Locations), .shr x_a0_p0 (cells zb x_a0.Domains)]) (fun σ => [⟨[(4, int i11)], some (21, int i11)⟩, ⟨[(4, int i11)], some (22, int i11)⟩, ⟨[(3, ptr b4 0), (22, int i11)], some (23, ptr b4 i11.toNat)⟩, ⟨[(23, ptr b4 i11.toNat)], some (24, str x15)⟩, ⟨[(4, int i11)], some (25, int i11)⟩, ⟨[(3, ptr b4 0), (25, int i11)], some (26, ptr b4 i11.toNat)⟩, ⟨[(26, ptr b4 i11.toNat)], some (27, str x16)⟩, ⟨[(27, str x16)], some (28, int (x16.length : Int))⟩, ⟨[(28, int (x16.length : Int))], some (29, int (min (x16.length : Int) 60))⟩, ⟨[(24, str x15), (29, int (min (x16.length : Int) 60))], some (30, str s17)⟩, ⟨[(3, ptr b4 0), (21, int i11)], some (31, ptr b4 i11.toNat)⟩, ⟨[(30, str s17), (31, ptr b4 i11.toNat)], none⟩]) () [11] rfl (fun _ => rfl) (fun _ => rfl) (fun _ => rfl) rfl rfl (by decide) rfl hO.drew (hf.cons rfl (hf.cons rfl (hf.cons rfl (hf.cons rfl hf.nil)))) (fun σ => ⟨⟨rfl, trivial⟩, ⟨rfl, trivial⟩, ⟨rfl, rfl, trivial⟩, ⟨rfl, trivial⟩, ⟨rfl, trivial⟩, ⟨rfl, rfl, trivial⟩, ⟨rfl, trivial⟩, ⟨rfl, trivial⟩, ⟨rfl, trivial⟩, ⟨rfl, rfl, trivial⟩, ⟨rfl, rfl, trivial⟩, ⟨rfl, rfl, trivial⟩, trivial⟩) ⟨zc rfl (fun σ => rfl) (fun σ => rfl) (fun σ a w k _ _ _ _ hf => zl hf rfl), zc rfl (fun σ => rfl) (fun σ => rfl) (fun σ a w k _ _ _ _ hf => zl hf rfl), zc rfl (fun σ => rfl) (fun σ => rfl) (fun σ a w k _ _ _ _ hf => zdl hAx15.1 hf rfl rfl), zc rfl (fun σ => rfl) (fun σ => rfl) (fun σ a w k hk hlo hup hst hf => match k, hk, hlo, hup, hst, hf with | 0, _, _, _, hst, hf => have hO : Dk.Own w0 [] w _ := hst; ze (o := 0) z7 ((fun w h => hAx15.2 w h) _ (hO.blkSees (i := 0) rfl)) rfl hf rfl | 1, _, _, hup, _, _ => absurd (hup 0 (by decide) (by kernel_rfl)) (by decide) | k + 2, hk, _, _, _, _ => absurd hk (by simp)), zc rfl (fun σ => rfl) (fun σ => rfl) (fun σ a w k _ _ _ _ hf => zl hf rfl), zc rfl (fun σ => rfl) (fun σ => rfl) (fun σ a w k _ _ _ _ hf => zdl hAx16.1 hf rfl rfl), zc rfl (fun σ => rfl) (fun σ => rfl) (fun σ a w k hk hlo hup hst hf => match k, hk, hlo, hup, hst, hf with | 0, _, _, _, hst, hf => have hO : Dk.Own w0 [] w _ := hst; ze (o := 0) z7 ((fun w h => hAx16.2 w h) _ (hO.blkSees (i := 0) rfl)) rfl hf rfl | 1, _, _, hup, _, _ => absurd (hup 0 (by decide) (by kernel_rfl)) (by decide) | k + 2, hk, _, _, _, _ => absurd hk (by simp)), zc rfl (fun σ => rfl) (fun σ => rfl) (fun σ a w k _ _ _ _ hf => zf1 (l := x16) Tryz.underlying9 hf rfl), zc rfl (fun σ => rfl) (fun σ => rfl) (fun σ a w k _ _ _ _ hf => zmR (m := (x16.length : Int)) (n := 60) hf rfl rfl), zc rfl (fun σ => rfl) (fun σ => rfl) (fun σ a w k _ _ _ _ hf => zhG (l := x15) Tryz.underlying9 hf rfl rfl hs17), zc rfl (fun σ => rfl) (fun σ => rfl) (fun σ a w k _ _ _ _ hf => zdl hAx18.1 hf rfl rfl), zce rfl (fun σ => rfl) (fun σ => rfl) rfl (fun σ w (hO : Dk.Own w0 [] w _) => by obtain ⟨w', hO', hr⟩ := zrV (x := (.tmp 31)) (y := (.tmp 30)) (E := [(30, str s17), (31, ptr b4 i11.toNat)]) (i := 0) (xs := [s7, s8, s9, s10]) (ys := [r19.1, r19.2.1, r19.2.2.1, r19.2.2.2]) (m := i11) (v := s17) zfZ rfl (zux hr19) hO rfl rfl; exact ⟨(), w', hO', ⟨.inr rfl, .inr rfl, .inr rfl, .inr rfl, .inr rfl, .inr rfl, .inr rfl, .inr rfl, .inr rfl, .inr rfl, .inr rfl, .inr rfl, trivial⟩, hr⟩), trivial⟩ ?_
 rintro _ a w hf hO
 have hO : Dk.Own w0 [] w _ := hO
 have hf : Fits 86 [(1, ptr b1 0), (2, ptr b2 0), (3, ptr b4 0), (4, int i11)] a := (hf.cons rfl (hf.cons rfl (hf.cons rfl (hf.cons rfl hf.nil))))
 refine S.no tb ?_ hf hO hm
 refine bi rfl fun i21 hi21 => ?_
 exact en rfl fun _ _ j => ⟨_, Nat.lt_succ_self _, r19.1, r19.2.1, r19.2.2.1, r19.2.2.2, i21, j rfl⟩
 exact en rfl fun _ _ j => ⟨s7, s8, s9, s10, j rfl⟩
 rintro a w ⟨s22, s23, s24, s25, hf, hO, hm⟩
 rw [zhO] at hm
 refine S.co tb ?_ hf hO hm
 refine rw_ rfl fun a w hf hO hm => ?_
 refine zS (zdl (zxp _) hf rfl rfl) rfl hf rfl rfl fun a hf => ?_
 refine S.op tb ?_ hf hO hm
 refine ld 0 rfl rfl ?_
 refine rw_ rfl fun a w hf hO hm => ?_
 refine zS (zdl (zxq _) hf rfl rfl) rfl hf rfl rfl fun a hf => ?_
 refine S.op tb ?_ hf hO hm
 refine ld 0 rfl rfl ?_
 refine rw_ rfl fun a w hf hO hm => ?_
 refine zS (zdl (zxr _) hf rfl rfl) rfl hf rfl rfl fun a hf => ?_
 refine S.op tb ?_ hf hO hm
 refine ld 0 rfl rfl ?_
 refine rw_ rfl fun a w hf hO hm => ?_
 refine zS (zdl (zxs _) hf rfl rfl) rfl hf rfl rfl fun a hf => ?_
 refine S.op tb ?_ hf hO hm
 refine ld 0 rfl rfl ?_
 refine vl rfl rfl (fun a w hf hO => zB (vs := [(0, str s22), (1, str s23), (2, str s24), (3, str s25)]) (v := .agg #[str s22, str s23, str s24, str s25, .slice none 0 0, .slice none 0 0]) hf rfl (by kernel_rfl)) ?_
 refine al zsr rfl fun b26 => ?_
 refine nl 98 2 ?_
 refine nl 98 2 ?_
 refine st 2 rfl rfl ?_
 refine nl 98 2 ?_
 refine nl 98 2 ?_
 refine jv 0 [1, 2, 5] [2, 3, 5, 6, 7, 8, 9, 10, 11] (fun J E L => ∃ (s54 : Str) (s55 : Str) (s56 : Str) (s57 : Str) (p58 : Option Addr) (c59 : Nat) (l60 : List api_Swap) (p61 : Option Addr) (c62 : Nat) (l63 : List api_Swap), J (E) (.row (.slice p61 l63.length c62) 98 2 l63.length (cells zb l63) :: .row (.slice p58 l60.length c59) 98 2 l60.length (cells zb l60) :: .blk b26 [str s54, str s55, str s56, str s57, .slice p58 l60.length c59, .slice p61 l63.length c62] 24 :: L) (zhN x_a0 s54 s55 s56 s57 l60 l63)) rfl ?_ ?_
 refine ch [0, 1, 4, 2, 3, 5, 6, 7, 8, 9, 10, 11] rfl rfl ?_
 refine lv [1, 2, 5] [3, 4, 5, 6, 7, 8, 9, 10, 11] (fun J E L k => ∃ (p29 : Option Addr) (c30 : Nat) (l31 : List api_Swap) (s32 : Str) (s33 : Str) (s34 : Str) (s35 : Str) (p36 : Option Addr) (c37 : Nat) (l38 : List api_Swap) (i39 : Int), J ((6, int i39) :: E) (.row (.slice p36 l38.length c37) 98 2 l38.length (cells zb l38) :: .row (.slice p29 l31.length c30) 98 2 l31.length (cells zb l31) :: .blk b26 [str s32, str s33, str s34, str s35, .slice p29 l31.length c30, .slice p36 l38.length c37] 24 :: L) (zcz x_a0 k l31 s32 s33 s34 s35 l38 i39)) rfl (fun _ _ j => ⟨none, 0, [], s22, s23, s24, s25, none, 0, [], 0, j rfl⟩) ?_
 rintro n3 a w ⟨p29, c30, l31, s32, s33, s34, s35, p36, c37, l38, i39, hf, hO, hm⟩
 obtain _ | n3 := n3
 rw [zcz] at hm
 cases hm
 rw [zcz] at hm
 refine S.co tb ?_ hf hO hm
 refine jv 4 [1, 2, 5, 6] [0, 1, 2, 3, 4, 5, 6, 7, 8, 9, 10, 11] (fun J E L => ∃ (t41 : Bool), J ((49, .bool t41) :: E) (L) (zgu (zcz x_a0 n3) x_a0 l31 s32 s33 s34 s35 l38 i39 t41)) rfl ?_ ?_
 refine ld 9 rfl rfl ?_
 refine br rfl (fun hc40 => ?_) fun hc40 => ?_
 exact en rfl fun _ _ j => ⟨decide (i39 < 6), j rfl⟩
 exact en rfl fun _ _ j => ⟨false, j rfl⟩
 rintro a w ⟨t41, hf, hO, hm⟩
 rw [zgu] at hm
 refine S.co tb ?_ hf hO hm
 refine br rfl (fun hc42 => ?_) fun hc42 => ?_
 refine rc_ rfl fun a w hf hO hm => ?_
 obtain ⟨x44, hx44, hm⟩ := ob hm
 obtain ⟨b45, o46, hix44, hSx44⟩ := zaK (enc := zb) (sz := 2) (xs := x_a0.Domains) 22 Tryz.underlying22 zeH (by decide) (fun _ => rfl) (hO.sees (i := 11) rfl) hx44
 obtain ⟨r47, hr47, hm⟩ := ob hm
 obtain ⟨hg51, hm⟩ := og hm
 refine zaV (S := Nat × Option Addr × Nat) (E0 := [(1, ptr b1 0), (2, ptr b2 0), (5, ptr b26 0), (6, int i39)]) (by kernel_rfl) (fun k σ w => match k with | 0 => Dk.Own w0 [] w [.row (.slice p36 l38.length c37) 98 2 l38.length (cells zb l38), .row (.slice p29 l31.length c30) 98 2 l31.length (cells zb l31), .blk b26 [str s32, str s33, str s34, str s35, .slice p29 l31.length c30, .slice p36 l38.length c37] 24, .row (.slice none 0 0) 98 2 0 (cells zb []), .row (.slice none 0 0) 98 2 0 (cells zb []), .blk b4 [str s22, str s23, str s24, str s25] 96, .row (.slice none 0 0) 98 2 0 (cells zb []), .row (.slice none 0 0) 98 2 0 (cells zb []), .blk b2 [str [], str [], str [], str [], .slice none 0 0, .slice none 0 0] 24, .blk b1 [str x_a0.Client, str x_a0.Host, str x_a0.Scheme, str x_a0.By, .slice x_a0_p0 x_a0.Domains.length x_a0_c0, .slice x_a0_p1 x_a0.Locations.length x_a0_c1] 24, .shr x_a0_p1 (cells zb x_a0.Locations), .shr x_a0_p0 (cells zb x_a0.Domains)] | 1 => Dk.Own w0 [] w [.row (.slice p36 l38.length c37) 98 2 l38.length (cells zb l38), .row (.slice p29 l31.length c30) 98 2 l31.length (cells zb l31), .blk b26 [str s32, str s33, str s34, str s35, .slice p29 l31.length c30, .slice p36 l38.length c37] 24, .row (.slice none 0 0) 98 2 0 (cells zb []), .row (.slice none 0 0) 98 2 0 (cells zb []), .blk b4 [str s22, str s23, str s24, str s25] 96, .row (.slice none 0 0) 98 2 0 (cells zb []), .row (.slice none 0 0) 98 2 0 (cells zb []), .blk b2 [str [], str [], str [], str [], .slice none 0 0, .slice none 0 0] 24, .blk b1 [str x_a0.Client, str x_a0.Host, str x_a0.Scheme, str x_a0.By, .slice x_a0_p0 x_a0.Domains.length x_a0_c0, .slice x_a0_p1 x_a0.Locations.length x_a0_c1] 24, .shr x_a0_p1 (cells zb x_a0.Locations), .shr x_a0_p0 (cells zb x_a0.Domains)] | 2 => Dk.Own w0 [] w [.row (.slice (some ⟨(σ.1), 0, none⟩) ([r47].length) 1) 98 2 ([r47].length) (cells zb [r47]), .row (.slice p36 l38.length c37) 98 2 l38.length (cells zb l38), .row (.slice p29 l31.length c30) 98 2 l31.length (cells zb l31), .blk b26 [str s32, str s33, str s34, str s35, .slice p29 l31.length c30, .slice p36 l38.length c37] 24, .row (.slice none 0 0) 98 2 0 (cells zb []), .row (.slice none 0 0) 98 2 0 (cells zb []), .blk b4 [str s22, str s23, str s24, str s25] 96, .row (.slice none 0 0) 98 2 0 (cells zb []), .row (.slice none 0 0) 98 2 0 (cells zb []), .blk b2 [str [], str [], str [], str [], .slice none 0 0, .slice none 0 0] 24, .blk b1 [str x_a0.Client, str x_a0.Host, str x_a0.Scheme, str x_a0.By, .slice x_a0_p0 x_a0.Domains.length x_a0_c0, .slice x_a0_p1 x_a0.Locations.length x_a0_c1] 24, .shr x_a0_p1 (cells zb x_a0.Locations), .shr x_a0_p0 (cells zb x_a0.Domains)] | 3 => Dk.Own w0 [] w [.row (.slice (some ⟨(σ.1), 0, none⟩) ([r47].length) 1) 98 2 ([r47].length) (cells zb [r47]), .row (.slice p36 l38.length c37) 98 2 l38.length (cells zb l38), .row (.slice (σ.2.1) ((l31 ++ [r47]).length) (σ.2.2)) 98 2 ((l31 ++ [r47]).length) (cells zb (l31 ++ [r47])), .blk b26 [str s32, str s33, str s34, str s35, .slice p29 l31.length c30, .slice p36 l38.length c37] 24, .row (.slice none 0 0) 98 2 0 (cells zb []), .row (.slice none 0 0) 98 2 0 (cells zb []), .blk b4 [str s22, str s23, str s24, str s25] 96, .row (.slice none 0 0) 98 2 0 (cells zb []), .row (.slice none 0 0) 98 2 0 (cells zb []), .blk b2 [str [], str [], str [], str [], .slice none 0 0, .slice none 0 0] 24, .blk b1 [str x_a0.Client, str x_a0.Host, str x_a0.Scheme, str x_a0.By, .slice x_a0_p0 x_a0.Domains.length x_a0_c0, .slice x_a0_p1 x_a0.Locations.length x_a0_c1] 24, .shr x_a0_p1 (cells zb x_a0.Locations), .shr x_a0_p0 (cells zb x_a0.Domains)] | _ => Dk.Own w0 [] w [.row (.slice (some ⟨(σ.1), 0, none⟩) ([r47].length) 1) 98 2 ([r47].length) (cells zb [r47]), .row (.slice p36 l38.length c37) 98 2 l38.length (cells zb l38), .row (.slice (σ.2.1) ((l31 ++ [r47]).length) (σ.2.2)) 98 2 ((l31 ++ [r47]).length) (cells zb (l31 ++ [r47])), .blk b26 [str s32, str s33, str s34, str s35, .slice (σ.2.1) ((l31 ++ [r47]).length) (σ.2.2), .slice p36 l38.length c37] 24, .row (.slice none 0 0) 98 2 0 (cells zb []), .row (.slice none 0 0) 98 2 0 (cells zb []), .blk b4 [str s22, str s23, str s24, str s25] 96, .row (.slice none 0 0) 98 2 0 (cells zb []), .row (.slice none 0 0) 98 2 0 (cells zb []), .blk b2 [str [], str [], str [], str [], .slice none 0 0, .slice none 0 0] 24, .blk b1 [str x_a0.Client, str x_a0.Host, str x_a0.Scheme, str x_a0.By, .slice x_a0_p0 x_a0.Domains.length x_a0_c0, .slice x_a0_p1 x_a0.Locations.length x_a0_c1] 24, .shr x_a0_p1 (cells zb x_a0.Locations), .shr x_a0_p0 (cells zb x_a0.Domains)]) (fun σ => [⟨[(5, ptr b26 0)], some (52, ptr b26 4)⟩, ⟨[(52, ptr b26 4)], some (53, .slice p29 l31.length c30)⟩, ⟨[(1, ptr b1 0)], some (54, ptr b1 4)⟩, ⟨[(54, ptr b1 4)], some (55, .slice x_a0_p0 x_a0.Domains.length x_a0_c0)⟩, ⟨[(6, int i39)], some (56, int i39)⟩, ⟨[(55, .slice x_a0_p0 x_a0.Domains.length x_a0_c0), (56, int i39)], some (57, ptr b45 o46)⟩, ⟨[(57, ptr b45 o46)], some (58, .agg #[str x44.From, str x44.To])⟩, ⟨[(58, .agg #[str x44.From, str x44.To])], some (59, .agg #[str r47.From, str r47.To])⟩, ⟨[(59, .agg #[str r47.From, str r47.To])], some (60, .slice (some ⟨(σ.1), 0, none⟩) ([r47].length) 1)⟩, ⟨[(53, .slice p29 l31.length c30), (60, .slice (some ⟨(σ.1), 0, none⟩) ([r47].length) 1)], some (61, .slice (σ.2.1) ((l31 ++ [r47]).length) (σ.2.2))⟩, ⟨[(5, ptr b26 0)], some (62, ptr b26 4)⟩, ⟨[(61, .slice (σ.2.1) ((l31 ++ [r47]).length) (σ.2.2)), (62, ptr b26 4)], none⟩]) (0, none, 0) [7, 8, 9, 11] rfl (fun _ => rfl) (fun _ => rfl) (fun _ => rfl) rfl rfl (by decide) rfl hO.drew (hf.cons rfl (hf.cons rfl (hf.cons rfl (hf.cons rfl hf.nil)))) (fun σ => ⟨⟨rfl, trivial⟩, ⟨rfl, trivial⟩, ⟨rfl, trivial⟩, ⟨rfl, trivial⟩, ⟨rfl, trivial⟩, ⟨rfl, rfl, trivial⟩, ⟨rfl, trivial⟩, ⟨rfl, trivial⟩, ⟨rfl, trivial⟩, ⟨rfl, rfl, trivial⟩, ⟨rfl, trivial⟩, ⟨rfl, rfl, trivial⟩, trivial⟩) ⟨zc rfl (fun σ => rfl) (fun σ => rfl) (fun σ a w k _ _ _ _ hf => zw zoe hf rfl), zc rfl (fun σ => rfl) (fun σ => rfl) (fun σ a w k hk hlo hup hst hf => match k, hk, hlo, hup, hst, hf with | 0, _, _, _, hst, hf => have hO : Dk.Own w0 [] w _ := hst; ze (o := 4) zgz (hO.blkSees (i := 2) rfl) rfl hf rfl | 1, _, _, _, hst, hf => have hO : Dk.Own w0 [] w _ := hst; ze (o := 4) zgz (hO.blkSees (i := 2) rfl) rfl hf rfl | 2, _, _, _, hst, hf => have hO : Dk.Own w0 [] w _ := hst; ze (o := 4) zgz (hO.blkSees (i := 3) rfl) rfl hf rfl | 3, _, _, _, hst, hf => have hO : Dk.Own w0 [] w _ := hst; ze (o := 4) zgz (hO.blkSees (i := 3) rfl) rfl hf rfl | 4, _, _, hup, _, _ => absurd (hup 2 (by decide) (by kernel_rfl)) (by decide) | k + 5, hk, _, _, _, _ => absurd hk (by simp)), zc rfl (fun σ => rfl) (fun σ => rfl) (fun σ a w k _ _ _ _ hf => zw zoe hf rfl), zc rfl (fun σ => rfl) (fun σ => rfl) (fun σ a w k hk hlo hup hst hf => match k, hk, hlo, hup, hst, hf with | 0, _, _, _, hst, hf => have hO : Dk.Own w0 [] w _ := hst; ze (o := 4) zgz (hO.blkSees (i := 9) rfl) rfl hf rfl | 1, _, _, _, hst, hf => have hO : Dk.Own w0 [] w _ := hst; ze (o := 4) zgz (hO.blkSees (i := 9) rfl) rfl hf rfl | 2, _, _, _, hst, hf => have hO : Dk.Own w0 [] w _ := hst; ze (o := 4) zgz (hO.blkSees (i := 10) rfl) rfl hf rfl | 3, _, _, _, hst, hf => have hO : Dk.Own w0 [] w _ := hst; ze (o := 4) zgz (hO.blkSees (i := 10) rfl) rfl hf rfl | 4, _, _, _, hst, hf => have hO : Dk.Own w0 [] w _ := hst; ze (o := 4) zgz (hO.blkSees (i := 10) rfl) rfl hf rfl | k + 5, hk, _, _, _, _ => absurd hk (by simp)), zc rfl (fun σ => rfl) (fun σ => rfl) (fun σ a w k _ _ _ _ hf => zl hf rfl), zc rfl (fun σ => rfl) (fun σ => rfl) (fun σ a w k _ _ _ _ hf => zk hix44 hf rfl rfl), zc rfl (fun σ => rfl) (fun σ => rfl) (fun σ a w k hk hlo hup hst hf => match k, hk, hlo, hup, hst, hf with | 0, _, _, _, hst, hf => have hO : Dk.Own w0 [] w _ := hst; zo (o := 0) (vs := [str x44.From, str x44.To]) zjk zeH (hSx44 _ (hO.sees (i := 11) rfl)) rfl rfl hf rfl | 1, _, _, _, hst, hf => have hO : Dk.Own w0 [] w _ := hst; zo (o := 0) (vs := [str x44.From, str x44.To]) zjk zeH (hSx44 _ (hO.sees (i := 11) rfl)) rfl rfl hf rfl | 2, _, _, _, hst, hf => have hO : Dk.Own w0 [] w _ := hst; zo (o := 0) (vs := [str x44.From, str x44.To]) zjk zeH (hSx44 _ (hO.sees (i := 12) rfl)) rfl rfl hf rfl | 3, _, _, _, hst, hf => have hO : Dk.Own w0 [] w _ := hst; zo (o := 0) (vs := [str x44.From, str x44.To]) zjk zeH (hSx44 _ (hO.sees (i := 12) rfl)) rfl rfl hf rfl | 4, _, _, _, hst, hf => have hO : Dk.Own w0 [] w _ := hst; zo (o := 0) (vs := [str x44.From, str x44.To]) zjk zeH (hSx44 _ (hO.sees (i := 12) rfl)) rfl rfl hf rfl | k + 5, hk, _, _, _, _ => absurd hk (by simp)), zbg rfl (fun σ => rfl) (fun σ => rfl) rfl (fun σ a w (_ : _) hf => zh c_44 hf (vs := [.agg #[str x44.From, str x44.To]]) rfl) (fun σ w (hO : Dk.Own w0 [] w _) => (zmb x44 r47 _ (hG.own hF hO) hr47).mono fun e w' h => by obtain ⟨he, hb⟩ := h; exact ⟨((σ.1), (σ.2.1), (σ.2.2)), he, hO.grow hb, .inr rfl, .inr rfl, .inr rfl, .inr rfl, .inr rfl, .inr rfl, .inr rfl, .inr rfl, .inr rfl, .inr rfl, .inr rfl, .inr rfl, trivial⟩), zfB rfl (fun σ => rfl) (fun σ => rfl) rfl (fun σ w (hO : Dk.Own w0 [] w _) => by obtain ⟨b48, w', hO', hr⟩ := zbY (E := [(59, .agg #[str r47.From, str r47.To])]) (parts := #[(0, (.tmp 59))]) (t' := 22) (n := 1) (vs := [(0, .agg #[str r47.From, str r47.To])]) (cs := [str r47.From, str r47.To]) (e := 98) (sz := 2) (fun w => by kernel_rfl) rfl rfl hO rfl; exact ⟨(b48, (σ.2.1), (σ.2.2)), w', hO', ⟨.inr rfl, .inr rfl, .inr rfl, .inr rfl, .inr rfl, .inr rfl, .inr rfl, .inr rfl, .inl rfl, .inl rfl, .inr rfl, .inr rfl, trivial⟩, hr⟩), zfB rfl (fun σ => rfl) (fun σ => rfl) rfl (fun σ w (hO : Dk.Own w0 [] w _) => by obtain ⟨p49, c50, w', hO', hr⟩ := zkT (E := [(53, .slice p29 l31.length c30), (60, .slice (some ⟨(σ.1), 0, none⟩) ([r47].length) 1)]) (x := (.tmp 53)) (y := (.tmp 60)) zv9 (enc := zb) (xs := l31) (ys := [r47]) (i := 2) (fun _ => rfl) rfl (hO.rowSees (i := 0) rfl) (by simp [cells, zb, Value.oneCell']) hg51 hO rfl rfl; exact ⟨((σ.1), p49, c50), w', hO', ⟨.inr rfl, .inr rfl, .inr rfl, .inr rfl, .inr rfl, .inr rfl, .inr rfl, .inr rfl, .inr rfl, .inl rfl, .inr rfl, .inl rfl, trivial⟩, hr⟩), zc rfl (fun σ => rfl) (fun σ => rfl) (fun σ a w k _ _ _ _ hf => zw zoe hf rfl), zce rfl (fun σ => rfl) (fun σ => rfl) rfl (fun σ w (hO : Dk.Own w0 [] w _) => by obtain ⟨w', hO', hr⟩ := zea (x := (.tmp 62)) (y := (.tmp 61)) (E := [(61, .slice (σ.2.1) ((l31 ++ [r47]).length) (σ.2.2)), (62, ptr b26 4)]) (i := 3) (o := 4) (v := .slice (σ.2.1) ((l31 ++ [r47]).length) (σ.2.2)) zws rfl rfl rfl rfl hO rfl rfl; exact ⟨((σ.1), (σ.2.1), (σ.2.2)), w', hO', ⟨.inr rfl, .inr rfl, .inr rfl, .inr rfl, .inr rfl, .inr rfl, .inr rfl, .inr rfl, .inr rfl, .inr rfl, .inr rfl, .inr rfl, trivial⟩, hr⟩), trivial⟩ ?_
 rintro ⟨b48, p49, c50⟩ a w hf hO
 have hO : Dk.Own w0 [] w _ := hO
 have hf : Fits 86 [(1, ptr b1 0), (2, ptr b2 0), (5, ptr b26 0), (6, int i39)] a := (hf.cons rfl (hf.cons rfl (hf.cons rfl (hf.cons rfl hf.nil))))
 refine S.no tb ?_ hf hO hm
 refine bi rfl fun i53 hi53 => ?_
 exact ec [1, 2, 3, 4, 5, 6, 7, 8, 9, 10, 11, 12] rfl rfl rfl fun _ _ j => ⟨_, Nat.lt_succ_self _, p49, c50, l31 ++ [r47], s32, s33, s34, s35, p36, c37, l38, i53, j rfl⟩
 exact en rfl fun _ _ j => ⟨s32, s33, s34, s35, p29, c30, l31, p36, c37, l38, j rfl⟩
 rintro a w ⟨s54, s55, s56, s57, p58, c59, l60, p61, c62, l63, hf, hO, hm⟩
 rw [zhN] at hm
 refine S.co tb ?_ hf hO hm
 refine jv 0 [2, 5] [3, 4, 5, 6, 7, 8, 9, 10, 11] (fun J E L => ∃ (s90 : Str) (s91 : Str) (s92 : Str) (s93 : Str) (p94 : Option Addr) (c95 : Nat) (l96 : List api_Swap) (p97 : Option Addr) (c98 : Nat) (l99 : List api_Swap), J (E) (.row (.slice p97 l99.length c98) 98 2 l99.length (cells zb l99) :: .row (.slice p94 l96.length c95) 98 2 l96.length (cells zb l96) :: .blk b26 [str s90, str s91, str s92, str s93, .slice p94 l96.length c95, .slice p97 l99.length c98] 24 :: L) (zhM s90 s91 s92 s93 l96 l99)) rfl ?_ ?_
 refine lv [1, 2, 5] [3, 4, 5, 6, 7, 8, 9, 10, 11] (fun J E L k => ∃ (p65 : Option Addr) (c66 : Nat) (l67 : List api_Swap) (s68 : Str) (s69 : Str) (s70 : Str) (s71 : Str) (p72 : Option Addr) (c73 : Nat) (l74 : List api_Swap) (i75 : Int), J ((7, int i75) :: E) (.row (.slice p65 l67.length c66) 98 2 l67.length (cells zb l67) :: .row (.slice p72 l74.length c73) 98 2 l74.length (cells zb l74) :: .blk b26 [str s68, str s69, str s70, str s71, .slice p72 l74.length c73, .slice p65 l67.length c66] 24 :: L) (zb2 x_a0 k l67 s68 s69 s70 s71 l74 i75)) rfl (fun _ _ j => ⟨p61, c62, l63, s54, s55, s56, s57, p58, c59, l60, 0, j rfl⟩) ?_
 rintro n6 a w ⟨p65, c66, l67, s68, s69, s70, s71, p72, c73, l74, i75, hf, hO, hm⟩
 obtain _ | n6 := n6
 rw [zb2] at hm
 cases hm
 rw [zb2] at hm
 refine S.co tb ?_ hf hO hm
 refine jv 4 [1, 2, 5, 7] [0, 1, 2, 3, 4, 5, 6, 7, 8, 9, 10, 11] (fun J E L => ∃ (t77 : Bool), J ((71, .bool t77) :: E) (L) (zgt (zb2 x_a0 n6) x_a0 l67 s68 s69 s70 s71 l74 i75 t77)) rfl ?_ ?_
 refine ld 9 rfl rfl ?_
 refine br rfl (fun hc76 => ?_) fun hc76 => ?_
 exact en rfl fun _ _ j => ⟨decide (i75 < 6), j rfl⟩
 exact en rfl fun _ _ j => ⟨false, j rfl⟩
 rintro a w ⟨t77, hf, hO, hm⟩
 rw [zgt] at hm
 refine S.co tb ?_ hf hO hm
 refine br rfl (fun hc78 => ?_) fun hc78 => ?_
 refine rc_ rfl fun a w hf hO hm => ?_
 obtain ⟨x80, hx80, hm⟩ := ob hm
 obtain ⟨b81, o82, hix80, hSx80⟩ := zaK (enc := zb) (sz := 2) (xs := x_a0.Locations) 22 Tryz.underlying22 zeH (by decide) (fun _ => rfl) (hO.sees (i := 10) rfl) hx80
 obtain ⟨r83, hr83, hm⟩ := ob hm
 obtain ⟨hg87, hm⟩ := og hm
 refine zaV (S := Nat × Option Addr × Nat) (E0 := [(1, ptr b1 0), (2, ptr b2 0), (5, ptr b26 0), (7, int i75)]) (by kernel_rfl) (fun k σ w => match k with | 0 => Dk.Own w0 [] w [.row (.slice p65 l67.length c66) 98 2 l67.length (cells zb l67), .row (.slice p72 l74.length c73) 98 2 l74.length (cells zb l74), .blk b26 [str s68, str s69, str s70, str s71, .slice p72 l74.length c73, .slice p65 l67.length c66] 24, .row (.slice none 0 0) 98 2 0 (cells zb []), .row (.slice none 0 0) 98 2 0 (cells zb []), .blk b4 [str s22, str s23, str s24, str s25] 96, .row (.slice none 0 0) 98 2 0 (cells zb []), .row (.slice none 0 0) 98 2 0 (cells zb []), .blk b2 [str [], str [], str [], str [], .slice none 0 0, .slice none 0 0] 24, .blk b1 [str x_a0.Client, str x_a0.Host, str x_a0.Scheme, str x_a0.By, .slice x_a0_p0 x_a0.Domains.length x_a0_c0, .slice x_a0_p1 x_a0.Locations.length x_a0_c1] 24, .shr x_a0_p1 (cells zb x_a0.Locations), .shr x_a0_p0 (cells zb x_a0.Domains)] | 1 => Dk.Own w0 [] w [.row (.slice p65 l67.length c66) 98 2 l67.length (cells zb l67), .row (.slice p72 l74.length c73) 98 2 l74.length (cells zb l74), .blk b26 [str s68, str s69, str s70, str s71, .slice p72 l74.length c73, .slice p65 l67.length c66] 24, .row (.slice none 0 0) 98 2 0 (cells zb []), .row (.slice none 0 0) 98 2 0 (cells zb []), .blk b4 [str s22, str s23, str s24, str s25] 96, .row (.slice none 0 0) 98 2 0 (cells zb []), .row (.slice none 0 0) 98 2 0 (cells zb []), .blk b2 [str [], str [], str [], str [], .slice none 0 0, .slice none 0 0] 24, .blk b1 [str x_a0.Client, str x_a0.Host, str x_a0.Scheme, str x_a0.By, .slice x_a0_p0 x_a0.Domains.length x_a0_c0, .slice x_a0_p1 x_a0.Locations.length x_a0_c1] 24, .shr x_a0_p1 (cells zb x_a0.Locations), .shr x_a0_p0 (cells zb x_a0.Domains)] | 2 => Dk.Own w0 [] w [.row (.slice (some ⟨(σ.1), 0, none⟩) ([r83].length) 1) 98 2 ([r83].length) (cells zb [r83]), .row (.slice p65 l67.length c66) 98 2 l67.length (cells zb l67), .row (.slice p72 l74.length c73) 98 2 l74.length (cells zb l74), .blk b26 [str s68, str s69, str s70, str s71, .slice p72 l74.length c73, .slice p65 l67.length c66] 24, .row (.slice none 0 0) 98 2 0 (cells zb []), .row (.slice none 0 0) 98 2 0 (cells zb []), .blk b4 [str s22, str s23, str s24, str s25] 96, .row (.slice none 0 0) 98 2 0 (cells zb []), .row (.slice none 0 0) 98 2 0 (cells zb []), .blk b2 [str [], str [], str [], str [], .slice none 0 0, .slice none 0 0] 24, .blk b1 [str x_a0.Client, str x_a0.Host, str x_a0.Scheme, str x_a0.By, .slice x_a0_p0 x_a0.Domains.length x_a0_c0, .slice x_a0_p1 x_a0.Locations.length x_a0_c1] 24, .shr x_a0_p1 (cells zb x_a0.Locations), .shr x_a0_p0 (cells zb x_a0.Domains)] | 3 => Dk.Own w0 [] w [.row (.slice (some ⟨(σ.1), 0, none⟩) ([r83].length) 1) 98 2 ([r83].length) (cells zb [r83]), .row (.slice (σ.2.1) ((l67 ++ [r83]).length) (σ.2.2)) 98 2 ((l67 ++ [r83]).length) (cells zb (l67 ++ [r83])), .row (.slice p72 l74.length c73) 98 2 l74.length (cells zb l74), .blk b26 [str s68, str s69, str s70, str s71, .slice p72 l74.length c73, .slice p65 l67.length c66] 24, .row (.slice none 0 0) 98 2 0 (cells zb []), .row (.slice none 0 0) 98 2 0 (cells zb []), .blk b4 [str s22, str s23, str s24, str s25] 96, .row (.slice none 0 0) 98 2 0 (cells zb []), .row (.slice none 0 0) 98 2 0 (cells zb []), .blk b2 [str [], str [], str [], str [], .slice none 0 0, .slice none 0 0] 24, .blk b1 [str x_a0.Client, str x_a0.Host, str x_a0.Scheme, str x_a0.By, .slice x_a0_p0 x_a0.Domains.length x_a0_c0, .slice x_a0_p1 x_a0.Locations.length x_a0_c1] 24, .shr x_a0_p1 (cells zb x_a0.Locations), .shr x_a0_p0 (cells zb x_a0.Domains)] | _ => Dk.Own w0 [] w [.row (.slice (some ⟨(σ.1), 0, none⟩) ([r83].length) 1) 98 2 ([r83].length) (cells zb [r83]), .row (.slice (σ.2.1) ((l67 ++ [r83]).length) (σ.2.2)) 98 2 ((l67 ++ [r83]).length) (cells zb (l67 ++ [r83])), .row (.slice p72 l74.length c73) 98 2 l74.length (cells zb l74), .blk b26 [str s68, str s69, str s70, str s71, .slice p72 l74.length c73, .slice (σ.2.1) ((l67 ++ [r83]).length) (σ.2.2)] 24, .row (.slice none 0 0) 98 2 0 (cells zb []), .row (.slice none 0 0) 98 2 0 (cells zb []), .blk b4 [str s22, str s23, str s24, str s25] 96, .row (.slice none 0 0) 98 2 0 (cells zb []), .row (.slice none 0 0) 98 2 0 (cells zb []), .blk b2 [str [], str [], str [], str [], .slice none 0 0, .slice none 0 0] 24, .blk b1 [str x_a0.Client, str x_a0.Host, str x_a0.Scheme, str x_a0.By, .slice x_a0_p0 x_a0.Domains.length x_a0_c0, .slice x_a0_p1 x_a0.Locations.length x_a0_c1] 24, .shr x_a0_p1 (cells zb x_a0.Locations), .shr x_a0_p0 (cells zb x_a0.Domains)]) (fun σ => [⟨[(5, ptr b26 0)], some (74, ptr b26 5)⟩, ⟨[(74, ptr b26 5)], some (75, .slice p65 l67.length c66)⟩, ⟨[(1, ptr b1 0)], some (76, ptr b1 5)⟩, ⟨[(76, ptr b1 5)], some (77, .slice x_a0_p1 x_a0.Locations.length x_a0_c1)⟩, ⟨[(7, int i75)], some (78, int i75)⟩, ⟨[(77, .slice x_a0_p1 x_a0.Locations.length x_a0_c1), (78, int i75)], some (79, ptr b81 o82)⟩, ⟨[(79, ptr b81 o82)], some (80, .agg #[str x80.From, str x80.To])⟩, ⟨[(80, .agg #[str x80.From, str x80.To])], some (81, .agg #[str r83.From, str r83.To])⟩, ⟨[(81, .agg #[str r83.From, str r83.To])], some (82, .slice (some ⟨(σ.1), 0, none⟩) ([r83].length) 1)⟩, ⟨[(75, .slice p65 l67.length c66), (82, .slice (some ⟨(σ.1), 0, none⟩) ([r83].length) 1)], some (83, .slice (σ.2.1) ((l67 ++ [r83]).length) (σ.2.2))⟩, ⟨[(5, ptr b26 0)], some (84, ptr b26 5)⟩, ⟨[(83, .slice (σ.2.1) ((l67 ++ [r83]).length) (σ.2.2)), (84, ptr b26 5)], none⟩]) (0, none, 0) [7, 8, 9, 11] rfl (fun _ => rfl) (fun _ => rfl) (fun _ => rfl) rfl rfl (by decide) rfl hO.drew (hf.cons rfl (hf.cons rfl (hf.cons rfl (hf.cons rfl hf.nil)))) (fun σ => ⟨⟨rfl, trivial⟩, ⟨rfl, trivial⟩, ⟨rfl, trivial⟩, ⟨rfl, trivial⟩, ⟨rfl, trivial⟩, ⟨rfl, rfl, trivial⟩, ⟨rfl, trivial⟩, ⟨rfl, trivial⟩, ⟨rfl, trivial⟩, ⟨rfl, rfl, trivial⟩, ⟨rfl, trivial⟩, ⟨rfl, rfl, trivial⟩, trivial⟩) ⟨zc rfl (fun σ => rfl) (fun σ => rfl) (fun σ a w k _ _ _ _ hf => zw zof hf rfl), zc rfl (fun σ => rfl) (fun σ => rfl) (fun σ a w k hk hlo hup hst hf => match k, hk, hlo, hup, hst, hf with | 0, _, _, _, hst, hf => have hO : Dk.Own w0 [] w _ := hst; ze (o := 5) zgz (hO.blkSees (i := 2) rfl) rfl hf rfl | 1, _, _, _, hst, hf => have hO : Dk.Own w0 [] w _ := hst; ze (o := 5) zgz (hO.blkSees (i := 2) rfl) rfl hf rfl | 2, _, _, _, hst, hf => have hO : Dk.Own w0 [] w _ := hst; ze (o := 5) zgz (hO.blkSees (i := 3) rfl) rfl hf rfl | 3, _, _, _, hst, hf => have hO : Dk.Own w0 [] w _ := hst; ze (o := 5) zgz (hO.blkSees (i := 3) rfl) rfl hf rfl | 4, _, _, hup, _, _ => absurd (hup 2 (by decide) (by kernel_rfl)) (by decide) | k + 5, hk, _, _, _, _ => absurd hk (by simp)), zc rfl (fun σ => rfl) (fun σ => rfl) (fun σ a w k _ _ _ _ hf => zw zof hf rfl), zc rfl (fun σ => rfl) (fun σ => rfl) (fun σ a w k hk hlo hup hst hf => match k, hk, hlo, hup, hst, hf with | 0, _, _, _, hst, hf => have hO : Dk.Own w0 [] w _ := hst; ze (o := 5) zgz (hO.blkSees (i := 9) rfl) rfl hf rfl | 1, _, _, _, hst, hf => have hO : Dk.Own w0 [] w _ := hst; ze (o := 5) zgz (hO.blkSees (i := 9) rfl) rfl hf rfl | 2, _, _, _, hst, hf => have hO : Dk.Own w0 [] w _ := hst; ze (o := 5) zgz (hO.blkSees (i := 10) rfl) rfl hf rfl | 3, _, _, _, hst, hf => have hO : Dk.Own w0 [] w _ := hst; ze (o := 5) zgz (hO.blkSees (i := 10) rfl) rfl hf rfl | 4, _, _, _, hst, hf => have hO : Dk.Own w0 [] w _ := hst; ze (o := 5) zgz (hO.blkSees (i := 10) rfl) rfl hf rfl | k + 5, hk, _, _, _, _ => absurd hk (by simp)), zc rfl (fun σ => rfl) (fun σ => rfl) (fun σ a w k _ _ _ _ hf => zl hf rfl), zc rfl (fun σ => rfl) (fun σ => rfl) (fun σ a w k _ _ _ _ hf => zk hix80 hf rfl rfl), zc rfl (fun σ => rfl) (fun σ => rfl) (fun σ a w k hk hlo hup hst hf => match k, hk, hlo, hup, hst, hf with | 0, _, _, _, hst, hf => have hO : Dk.Own w0 [] w _ := hst; zo (o := 0) (vs := [str x80.From, str x80.To]) zjk zeH (hSx80 _ (hO.sees (i := 10) rfl)) rfl rfl hf rfl | 1, _, _, _, hst, hf => have hO : Dk.Own w0 [] w _ := hst; zo (o := 0) (vs := [str x80.From, str x80.To]) zjk zeH (hSx80 _ (hO.sees (i := 10) rfl)) rfl rfl hf rfl | 2, _, _, _, hst, hf => have hO : Dk.Own w0 [] w _ := hst; zo (o := 0) (vs := [str x80.From, str x80.To]) zjk zeH (hSx80 _ (hO.sees (i := 11) rfl)) rfl rfl hf rfl | 3, _, _, _, hst, hf => have hO : Dk.Own w0 [] w _ := hst; zo (o := 0) (vs := [str x80.From, str x80.To]) zjk zeH (hSx80 _ (hO.sees (i := 11) rfl)) rfl rfl hf rfl | 4, _, _, _, hst, hf => have hO : Dk.Own w0 [] w _ := hst; zo (o := 0) (vs := [str x80.From, str x80.To]) zjk zeH (hSx80 _ (hO.sees (i := 11) rfl)) rfl rfl hf rfl | k + 5, hk, _, _, _, _ => absurd hk (by simp)), zbg rfl (fun σ => rfl) (fun σ => rfl) rfl (fun σ a w (_ : _) hf => zh c_44 hf (vs := [.agg #[str x80.From, str x80.To]]) rfl) (fun σ w (hO : Dk.Own w0 [] w _) => (zmb x80 r83 _ (hG.own hF hO) hr83).mono fun e w' h => by obtain ⟨he, hb⟩ := h; exact ⟨((σ.1), (σ.2.1), (σ.2.2)), he, hO.grow hb, .inr rfl, .inr rfl, .inr rfl, .inr rfl, .inr rfl, .inr rfl, .inr rfl, .inr rfl, .inr rfl, .inr rfl, .inr rfl, .inr rfl, trivial⟩), zfB rfl (fun σ => rfl) (fun σ => rfl) rfl (fun σ w (hO : Dk.Own w0 [] w _) => by obtain ⟨b84, w', hO', hr⟩ := zbY (E := [(81, .agg #[str r83.From, str r83.To])]) (parts := #[(0, (.tmp 81))]) (t' := 22) (n := 1) (vs := [(0, .agg #[str r83.From, str r83.To])]) (cs := [str r83.From, str r83.To]) (e := 98) (sz := 2) (fun w => by kernel_rfl) rfl rfl hO rfl; exact ⟨(b84, (σ.2.1), (σ.2.2)), w', hO', ⟨.inr rfl, .inr rfl, .inr rfl, .inr rfl, .inr rfl, .inr rfl, .inr rfl, .inr rfl, .inl rfl, .inl rfl, .inr rfl, .inr rfl, trivial⟩, hr⟩), zfB rfl (fun σ => rfl) (fun σ => rfl) rfl (fun σ w (hO : Dk.Own w0 [] w _) => by obtain ⟨p85, c86, w', hO', hr⟩ := zkT (E := [(75, .slice p65 l67.length c66), (82, .slice (some ⟨(σ.1), 0, none⟩) ([r83].length) 1)]) (x := (.tmp 75)) (y := (.tmp 82)) zv9 (enc := zb) (xs := l67) (ys := [r83]) (i := 1) (fun _ => rfl) rfl (hO.rowSees (i := 0) rfl) (by simp [cells, zb, Value.oneCell']) hg87 hO rfl rfl; exact ⟨((σ.1), p85, c86), w', hO', ⟨.inr rfl, .inr rfl, .inr rfl, .inr rfl, .inr rfl, .inr rfl, .inr rfl, .inr rfl, .inr rfl, .inl rfl, .inr rfl, .inl rfl, trivial⟩, hr⟩), zc rfl (fun σ => rfl) (fun σ => rfl) (fun σ a w k _ _ _ _ hf => zw zof hf rfl), zce rfl (fun σ => rfl) (fun σ => rfl) rfl (fun σ w (hO : Dk.Own w0 [] w _) => by obtain ⟨w', hO', hr⟩ := zea (x := (.tmp 84)) (y := (.tmp 83)) (E := [(83, .slice (σ.2.1) ((l67 ++ [r83]).length) (σ.2.2)), (84, ptr b26 5)]) (i := 3) (o := 5) (v := .slice (σ.2.1) ((l67 ++ [r83]).length) (σ.2.2)) zws rfl rfl rfl rfl hO rfl rfl; exact ⟨((σ.1), (σ.2.1), (σ.2.2)), w', hO', ⟨.inr rfl, .inr rfl, .inr rfl, .inr rfl, .inr rfl, .inr rfl, .inr rfl, .inr rfl, .inr rfl, .inr rfl, .inr rfl, .inr rfl, trivial⟩, hr⟩), trivial⟩ ?_
 rintro ⟨b84, p85, c86⟩ a w hf hO
 have hO : Dk.Own w0 [] w _ := hO
 have hf : Fits 86 [(1, ptr b1 0), (2, ptr b2 0), (5, ptr b26 0), (7, int i75)] a := (hf.cons rfl (hf.cons rfl (hf.cons rfl (hf.cons rfl hf.nil))))
 refine S.no tb ?_ hf hO hm
 refine bi rfl fun i89 hi89 => ?_
 exact ec [1, 2, 3, 4, 5, 6, 7, 8, 9, 10, 11, 12] rfl rfl rfl fun _ _ j => ⟨_, Nat.lt_succ_self _, p85, c86, l67 ++ [r83], s68, s69, s70, s71, p72, c73, l74, i89, j rfl⟩
 exact en rfl fun _ _ j => ⟨s68, s69, s70, s71, p72, c73, l74, p65, c66, l67, j rfl⟩
 rintro a w ⟨s90, s91, s92, s93, p94, c95, l96, p97, c98, l99, hf, hO, hm⟩
 rw [zhM] at hm
 refine S.co tb ?_ hf hO hm
 refine ld 2 rfl rfl ?_
 refine st 8 rfl rfl ?_
 refine re_ rfl fun a w hf hO hm => ?_
 obtain rfl := Option.some.inj hm
 exact zi Tryz.results17 hf (.cell rfl (zp (n := 6) (vs := [str s90, str s91, str s92, str s93, .slice p94 l96.length c95, .slice p97 l99.length c98]) zkK zjV rfl ((hO.blkSees (i := 8) rfl).cells (o := 0) (n := 6) rfl)) .nil) ⟨p94, c95, p97, c98, rfl, (hO.choose [1, 0] rfl)⟩

theorem znt (x_l : List api_Swap) (R : List api_Swap) (w0 : World) (hG : zt w0) {x_l_p0 : Option Addr} {x_l_c0 : Nat} (hs0 : zy w0 x_l_p0 (cells zb x_l)) (hc0 : x_l.length ≤ x_l_c0) (hm : zhR x_l = some R) :
    Calls Tryz.prog 18 #[.slice x_l_p0 x_l.length x_l_c0] w0 fun e w' => ∃ (p0 : Option Addr) (c0 : Nat), e = .returned (.slice p0 R.length c0) ∧ Dk.Own w0 [] w' [.row (.slice p0 R.length c0) 98 2 R.length (cells zb R)] := by
 rw [zhR] at hm
 have hF : zu [] := zf
 have hO : Dk.Own w0 [] w0 [] := Dk.Own.refl w0
 have hO := hO.addShr hs0 (by simp [Res.shared])
 refine S.enter tb Tryz.func18 rfl Tryz.ntmps18 rfl ?_ hO hm
 refine nl 98 2 ?_
 refine nl 98 2 ?_
 refine lv [0] [1, 2] (fun J E L k => ∃ (p4 : Option Addr) (c5 : Nat) (l6 : List api_Swap) (i7 : Int), J ((3, .slice p4 l6.length c5) :: (4, int i7) :: E) (.row (.slice p4 l6.length c5) 98 2 l6.length (cells zb l6) :: L) (zcA x_l k l6 i7)) rfl (fun _ _ j => ⟨none, 0, [], 0, j rfl⟩) ?_
 rintro n1 a w ⟨p4, c5, l6, i7, hf, hO, hm⟩
 obtain _ | n1 := n1
 rw [zcA] at hm
 cases hm
 rw [zcA] at hm
 refine S.co tb ?_ hf hO hm
 refine jv 4 [0, 3, 4] [0, 1, 2] (fun J E L => ∃ (t9 : Bool), J ((12, .bool t9) :: E) (L) (zdV (zcA x_l n1) x_l l6 i7 t9)) rfl ?_ ?_
 refine br rfl (fun hc8 => ?_) fun hc8 => ?_
 exact en rfl fun _ _ j => ⟨decide (i7 < 70), j rfl⟩
 exact en rfl fun _ _ j => ⟨false, j rfl⟩
 rintro a w ⟨t9, hf, hO, hm⟩
 rw [zdV] at hm
 refine S.co tb ?_ hf hO hm
 refine br rfl (fun hc10 => ?_) fun hc10 => ?_
 refine rc_ rfl fun a w hf hO hm => ?_
 obtain ⟨x12, hx12, hm⟩ := ob hm
 obtain ⟨b13, o14, hix12, hSx12⟩ := zaK (enc := zb) (sz := 2) (xs := x_l) 22 Tryz.underlying22 zeH (by decide) (fun _ => rfl) (hO.sees (i := 2) rfl) hx12
 obtain ⟨x15, hx15, hm⟩ := ob hm
 obtain ⟨b16, o17, hix15, hSx15⟩ := zaK (enc := zb) (sz := 2) (xs := x_l) 22 Tryz.underlying22 zeH (by decide) (fun _ => rfl) (hO.sees (i := 2) rfl) hx15
 obtain ⟨s18, hs18, hm⟩ := ob hm
 obtain ⟨x19, hx19, hm⟩ := ob hm
 obtain ⟨b20, o21, hix19, hSx19⟩ := zaK (enc := zb) (sz := 2) (xs := x_l) 22 Tryz.underlying22 zeH (by decide) (fun _ => rfl) (hO.sees (i := 2) rfl) hx19
 obtain ⟨x22, hx22, hm⟩ := ob hm
 obtain ⟨b23, o24, hix22, hSx22⟩ := zaK (enc := zb) (sz := 2) (xs := x_l) 22 Tryz.underlying22 zeH (by decide) (fun _ => rfl) (hO.sees (i := 2) rfl) hx22
 obtain ⟨s25, hs25, hm⟩ := ob hm
 obtain ⟨hg29, hm⟩ := og hm
 refine zaV (S := Nat × Option Addr × Nat) (E0 := [(0, .slice x_l_p0 x_l.length x_l_c0), (3, .slice p4 l6.length c5), (4, int i7)]) (by kernel_rfl) (fun k σ w => match k with | 0 => Dk.Own w0 [] w [.row (.slice p4 l6.length c5) 98 2 l6.length (cells zb l6), .row (.slice none 0 0) 98 2 0 (cells zb []), .shr x_l_p0 (cells zb x_l)] | 1 => Dk.Own w0 [] w [.row (.slice (some ⟨(σ.1), 0, none⟩) (([(⟨s18, s25⟩ : api_Swap)]).length) 1) 98 2 (([(⟨s18, s25⟩ : api_Swap)]).length) (cells zb ([(⟨s18, s25⟩ : api_Swap)])), .row (.slice p4 l6.length c5) 98 2 l6.length (cells zb l6), .row (.slice none 0 0) 98 2 0 (cells zb []), .shr x_l_p0 (cells zb x_l)] | _ => Dk.Own w0 [] w [.row (.slice (some ⟨(σ.1), 0, none⟩) (([(⟨s18, s25⟩ : api_Swap)]).length) 1) 98 2 (([(⟨s18, s25⟩ : api_Swap)]).length) (cells zb ([(⟨s18, s25⟩ : api_Swap)])), .row (.slice (σ.2.1) ((l6 ++ [(⟨s18, s25⟩ : api_Swap)]).length) (σ.2.2)) 98 2 ((l6 ++ [(⟨s18, s25⟩ : api_Swap)]).length) (cells zb (l6 ++ [(⟨s18, s25⟩ : api_Swap)])), .row (.slice none 0 0) 98 2 0 (cells zb []), .shr x_l_p0 (cells zb x_l)]) (fun σ => ⟨[(3, .slice p4 l6.length c5)], some (15, .slice p4 l6.length c5)⟩ :: ⟨[(0, .slice x_l_p0 x_l.length x_l_c0)], some (16, .slice x_l_p0 x_l.length x_l_c0)⟩ :: ⟨[(4, int i7)], some (17, int i7)⟩ :: ⟨[(16, .slice x_l_p0 x_l.length x_l_c0), (17, int i7)], some (18, ptr b13 o14)⟩ :: ⟨[(18, ptr b13 o14)], some (19, ptr b13 o14)⟩ :: ⟨[(19, ptr b13 o14)], some (20, str x12.From)⟩ :: ⟨[(0, .slice x_l_p0 x_l.length x_l_c0)], some (21, .slice x_l_p0 x_l.length x_l_c0)⟩ :: ⟨[(4, int i7)], some (22, int i7)⟩ :: ⟨[(21, .slice x_l_p0 x_l.length x_l_c0), (22, int i7)], some (23, ptr b16 o17)⟩ :: ⟨[(23, ptr b16 o17)], some (24, ptr b16 o17)⟩ :: ⟨[(24, ptr b16 o17)], some (25, str x15.From)⟩ :: ⟨[(25, str x15.From)], some (26, int (x15.From.length : Int))⟩ :: ⟨[(26, int (x15.From.length : Int))], some (27, int (min (x15.From.length : Int) 60))⟩ :: ⟨[(20, str x12.From), (27, int (min (x15.From.length : Int) 60))], some (28, str s18)⟩ :: ⟨[(0, .slice x_l_p0 x_l.length x_l_c0)], some (29, .slice x_l_p0 x_l.length x_l_c0)⟩ :: ⟨[(4, int i7)], some (30, int i7)⟩ :: ⟨[(29, .slice x_l_p0 x_l.length x_l_c0), (30, int i7)], some (31, ptr b20 o21)⟩ :: ⟨[(31, ptr b20 o21)], some (32, ptr b20 (o21 + 1))⟩ :: ⟨[(32, ptr b20 (o21 + 1))], some (33, str x19.To)⟩ :: ⟨[(0, .slice x_l_p0 x_l.length x_l_c0)], some (34, .slice x_l_p0 x_l.length x_l_c0)⟩ :: ⟨[(4, int i7)], some (35, int i7)⟩ :: ⟨[(34, .slice x_l_p0 x_l.length x_l_c0), (35, int i7)], some (36, ptr b23 o24)⟩ :: ⟨[(36, ptr b23 o24)], some (37, ptr b23 (o24 + 1))⟩ :: ⟨[(37, ptr b23 (o24 + 1))], some (38, str x22.To)⟩ :: ⟨[(38, str x22.To)], some (39, int (x22.To.length : Int))⟩ :: ⟨[(39, int (x22.To.length : Int))], some (40, int (min (x22.To.length : Int) 60))⟩ :: ⟨[(33, str x19.To), (40, int (min (x22.To.length : Int) 60))], some (41, str s25)⟩ :: ⟨[(28, str s18), (41, str s25)], some (42, .agg #[str s18, str s25])⟩ :: ⟨[(42, .agg #[str s18, str s25])], some (43, .slice (some ⟨(σ.1), 0, none⟩) (([(⟨s18, s25⟩ : api_Swap)]).length) 1)⟩ :: ⟨[(15, .slice p4 l6.length c5), (43, .slice (some ⟨(σ.1), 0, none⟩) (([(⟨s18, s25⟩ : api_Swap)]).length) 1)], some (44, .slice (σ.2.1) ((l6 ++ [(⟨s18, s25⟩ : api_Swap)]).length) (σ.2.2))⟩ :: ⟨[(44, .slice (σ.2.1) ((l6 ++ [(⟨s18, s25⟩ : api_Swap)]).length) (σ.2.2))], some (3, .slice (σ.2.1) ((l6 ++ [(⟨s18, s25⟩ : api_Swap)]).length) (σ.2.2))⟩ :: []) (0, none, 0) [28, 29] rfl (fun _ => rfl) (fun _ => rfl) (fun _ => rfl) rfl rfl (by decide) rfl hO.drew (hf.cons rfl (hf.cons rfl (hf.cons rfl hf.nil))) (fun σ => ⟨⟨rfl, trivial⟩, ⟨rfl, trivial⟩, ⟨rfl, trivial⟩, ⟨rfl, rfl, trivial⟩, ⟨rfl, trivial⟩, ⟨rfl, trivial⟩, ⟨rfl, trivial⟩, ⟨rfl, trivial⟩, ⟨rfl, rfl, trivial⟩, ⟨rfl, trivial⟩, ⟨rfl, trivial⟩, ⟨rfl, trivial⟩, ⟨rfl, trivial⟩, ⟨rfl, rfl, trivial⟩, ⟨rfl, trivial⟩, ⟨rfl, trivial⟩, ⟨rfl, rfl, trivial⟩, ⟨rfl, trivial⟩, ⟨rfl, trivial⟩, ⟨rfl, trivial⟩, ⟨rfl, trivial⟩, ⟨rfl, rfl, trivial⟩, ⟨rfl, trivial⟩, ⟨rfl, trivial⟩, ⟨rfl, trivial⟩, ⟨rfl, trivial⟩, ⟨rfl, rfl, trivial⟩, ⟨rfl, rfl, trivial⟩, ⟨rfl, trivial⟩, ⟨rfl, rfl, trivial⟩, ⟨rfl, trivial⟩, trivial⟩) ⟨zc rfl (fun σ => rfl) (fun σ => rfl) (fun σ a w k _ _ _ _ hf => zl hf rfl), zc rfl (fun σ => rfl) (fun σ => rfl) (fun σ a w k _ _ _ _ hf => zl hf rfl), zc rfl (fun σ => rfl) (fun σ => rfl) (fun σ a w k _ _ _ _ hf => zl hf rfl), zc rfl (fun σ => rfl) (fun σ => rfl) (fun σ a w k _ _ _ _ hf => zk hix12 hf rfl rfl), zc rfl (fun σ => rfl) (fun σ => rfl) (fun σ a w k _ _ _ _ hf => zw zk3 hf rfl), zc rfl (fun σ => rfl) (fun σ => rfl) (fun σ a w k hk hlo hup hst hf => match k, hk, hlo, hup, hst, hf with | 0, _, _, _, hst, hf => have hO : Dk.Own w0 [] w _ := hst; ze (o := 0) z7 (hSx12 _ (hO.sees (i := 2) rfl)) rfl hf rfl | 1, _, _, _, hst, hf => have hO : Dk.Own w0 [] w _ := hst; ze (o := 0) z7 (hSx12 _ (hO.sees (i := 3) rfl)) rfl hf rfl | 2, _, _, _, hst, hf => have hO : Dk.Own w0 [] w _ := hst; ze (o := 0) z7 (hSx12 _ (hO.sees (i := 3) rfl)) rfl hf rfl | k + 3, hk, _, _, _, _ => absurd hk (by simp)), zc rfl (fun σ => rfl) (fun σ => rfl) (fun σ a w k _ _ _ _ hf => zl hf rfl), zc rfl (fun σ => rfl) (fun σ => rfl) (fun σ a w k _ _ _ _ hf => zl hf rfl), zc rfl (fun σ => rfl) (fun σ => rfl) (fun σ a w k _ _ _ _ hf => zk hix15 hf rfl rfl), zc rfl (fun σ => rfl) (fun σ => rfl) (fun σ a w k _ _ _ _ hf => zw zk3 hf rfl), zc rfl (fun σ => rfl) (fun σ => rfl) (fun σ a w k hk hlo hup hst hf => match k, hk, hlo, hup, hst, hf with | 0, _, _, _, hst, hf => have hO : Dk.Own w0 [] w _ := hst; ze (o := 0) z7 (hSx15 _ (hO.sees (i := 2) rfl)) rfl hf rfl | 1, _, _, _, hst, hf => have hO : Dk.Own w0 [] w _ := hst; ze (o := 0) z7 (hSx15 _ (hO.sees (i := 3) rfl)) rfl hf rfl | 2, _, _, _, hst, hf => have hO : Dk.Own w0 [] w _ := hst; ze (o := 0) z7 (hSx15 _ (hO.sees (i := 3) rfl)) rfl hf rfl | k + 3, hk, _, _, _, _ => absurd hk (by simp)), zc rfl (fun σ => rfl) (fun σ => rfl) (fun σ a w k _ _ _ _ hf => zf1 (l := x15.From) Tryz.underlying9 hf rfl), zc rfl (fun σ => rfl) (fun σ => rfl) (fun σ a w k _ _ _ _ hf => zmR (m := (x15.From.length : Int)) (n := 60) hf rfl rfl), zc rfl (fun σ => rfl) (fun σ => rfl) (fun σ a w k _ _ _ _ hf => zhG (l := x12.From) Tryz.underlying9 hf rfl rfl hs18), zc rfl (fun σ => rfl) (fun σ => rfl) (fun σ a w k _ _ _ _ hf => zl hf rfl), zc rfl (fun σ => rfl) (fun σ => rfl) (fun σ a w k _ _ _ _ hf => zl hf rfl), zc rfl (fun σ => rfl) (fun σ => rfl) (fun σ a w k _ _ _ _ hf => zk hix19 hf rfl rfl), zc rfl (fun σ => rfl) (fun σ => rfl) (fun σ a w k _ _ _ _ hf => zw zk4 hf rfl), zc rfl (fun σ => rfl) (fun σ => rfl) (fun σ a w k hk hlo hup hst hf => match k, hk, hlo, hup, hst, hf with | 0, _, _, _, hst, hf => have hO : Dk.Own w0 [] w _ := hst; ze (o := 1) z7 (hSx19 _ (hO.sees (i := 2) rfl)) rfl hf rfl | 1, _, _, _, hst, hf => have hO : Dk.Own w0 [] w _ := hst; ze (o := 1) z7 (hSx19 _ (hO.sees (i := 3) rfl)) rfl hf rfl | 2, _, _, _, hst, hf => have hO : Dk.Own w0 [] w _ := hst; ze (o := 1) z7 (hSx19 _ (hO.sees (i := 3) rfl)) rfl hf rfl | k + 3, hk, _, _, _, _ => absurd hk (by simp)), zc rfl (fun σ => rfl) (fun σ => rfl) (fun σ a w k _ _ _ _ hf => zl hf rfl), zc rfl (fun σ => rfl) (fun σ => rfl) (fun σ a w k _ _ _ _ hf => zl hf rfl), zc rfl (fun σ => rfl) (fun σ => rfl) (fun σ a w k _ _ _ _ hf => zk hix22 hf rfl rfl), zc rfl (fun σ => rfl) (fun σ => rfl) (fun σ a w k _ _ _ _ hf => zw zk4 hf rfl), zc rfl (fun σ => rfl) (fun σ => rfl) (fun σ a w k hk hlo hup hst hf => match k, hk, hlo, hup, hst, hf with | 0, _, _, _, hst, hf => have hO : Dk.Own w0 [] w _ := hst; ze (o := 1) z7 (hSx22 _ (hO.sees (i := 2) rfl)) rfl hf rfl | 1, _, _, _, hst, hf => have hO : Dk.Own w0 [] w _ := hst; ze (o := 1) z7 (hSx22 _ (hO.sees (i := 3) rfl)) rfl hf rfl | 2, _, _, _, hst, hf => have hO : Dk.Own w0 [] w _ := hst; ze (o := 1) z7 (hSx22 _ (hO.sees (i := 3) rfl)) rfl hf rfl | k + 3, hk, _, _, _, _ => absurd hk (by simp)), zc rfl (fun σ => rfl) (fun σ => rfl) (fun σ a w k _ _ _ _ hf => zf1 (l := x22.To) Tryz.underlying9 hf rfl), zc rfl (fun σ => rfl) (fun σ => rfl) (fun σ a w k _ _ _ _ hf => zmR (m := (x22.To.length : Int)) (n := 60) hf rfl rfl), zc rfl (fun σ => rfl) (fun σ => rfl) (fun σ a w k _ _ _ _ hf => zhG (l := x19.To) Tryz.underlying9 hf rfl rfl hs25), zc rfl (fun σ => rfl) (fun σ => rfl) (fun σ a w k _ _ _ _ hf => zB (vs := [(0, str s18), (1, str s25)]) (v := .agg #[str s18, str s25]) hf rfl (by kernel_rfl)), zfB rfl (fun σ => rfl) (fun σ => rfl) rfl (fun σ w (hO : Dk.Own w0 [] w _) => by obtain ⟨b26, w', hO', hr⟩ := zbY (E := [(42, .agg #[str s18, str s25])]) (parts := #[(0, (.tmp 42))]) (t' := 22) (n := 1) (vs := [(0, .agg #[str s18, str s25])]) (cs := [str s18, str s25]) (e := 98) (sz := 2) (fun w => by kernel_rfl) rfl rfl hO rfl; exact ⟨(b26, (σ.2.1), (σ.2.2)), w', hO', ⟨.inr rfl, .inr rfl, .inr rfl, .inr rfl, .inr rfl, .inr rfl, .inr rfl, .inr rfl, .inr rfl, .inr rfl, .inr rfl, .inr rfl, .inr rfl, .inr rfl, .inr rfl, .inr rfl, .inr rfl, .inr rfl, .inr rfl, .inr rfl, .inr rfl, .inr rfl, .inr rfl, .inr rfl, .inr rfl, .inr rfl, .inr rfl, .inr rfl, .inl rfl, .inl rfl, .inr rfl, trivial⟩, hr⟩), zfB rfl (fun σ => rfl) (fun σ => rfl) rfl (fun σ w (hO : Dk.Own w0 [] w _) => by obtain ⟨p27, c28, w', hO', hr⟩ := zkT (E := [(15, .slice p4 l6.length c5), (43, .slice (some ⟨(σ.1), 0, none⟩) (([(⟨s18, s25⟩ : api_Swap)]).length) 1)]) (x := (.tmp 15)) (y := (.tmp 43)) zv9 (enc := zb) (xs := l6) (ys := [(⟨s18, s25⟩ : api_Swap)]) (i := 1) (fun _ => rfl) rfl (hO.rowSees (i := 0) rfl) (by simp [cells, zb, Value.oneCell']) hg29 hO rfl rfl; exact ⟨((σ.1), p27, c28), w', hO', ⟨.inr rfl, .inr rfl, .inr rfl, .inr rfl, .inr rfl, .inr rfl, .inr rfl, .inr rfl, .inr rfl, .inr rfl, .inr rfl, .inr rfl, .inr rfl, .inr rfl, .inr rfl, .inr rfl, .inr rfl, .inr rfl, .inr rfl, .inr rfl, .inr rfl, .inr rfl, .inr rfl, .inr rfl, .inr rfl, .inr rfl, .inr rfl, .inr rfl, .inr rfl, .inl rfl, .inl rfl, trivial⟩, hr⟩), zc rfl (fun σ => rfl) (fun σ => rfl) (fun σ a w k _ _ _ _ hf => z8 hf rfl), trivial⟩ ?_
 rintro ⟨b26, p27, c28⟩ a w hf hO
 have hO : Dk.Own w0 [] w _ := hO
 have hf : Fits 46 [(0, .slice x_l_p0 x_l.length x_l_c0), (3, .slice p27 ((l6 ++ [(⟨s18, s25⟩ : api_Swap)]).length) c28), (4, int i7)] a := (hf.cons rfl (hf.cons rfl (hf.cons rfl hf.nil)))
 refine S.no tb ?_ hf hO hm
 refine bi rfl fun i31 hi31 => ?_
 exact ec [1, 2, 3] rfl rfl rfl fun _ _ j => ⟨_, Nat.lt_succ_self _, p27, c28, l6 ++ [(⟨s18, s25⟩ : api_Swap)], i31, j rfl⟩
 refine re_ rfl fun a w hf hO hm => ?_
 obtain rfl := Option.some.inj hm
 exact zi Tryz.results18 hf (.tmp rfl .nil) ⟨p4, c5, rfl, (hO.sub (.cons_cons _ (.cons _ (.cons _ .slnil))))⟩

theorem zrI (x_env : api_Env) (R : api_Env) (w0 : World) (hG : zt w0) {x_env_p0 : Option Addr} {x_env_c0 : Nat} (hs0 : zy w0 x_env_p0 (cells zb x_env.Domains)) (hc0 : x_env.Domains.length ≤ x_env_c0) {x_env_p1 : Option Addr} {x_env_c1 : Nat} (hs1 : zy w0 x_env_p1 (cells zb x_env.Locations)) (hc1 : x_env.Locations.length ≤ x_env_c1) (hm : zjf x_env = some R) :
    Calls Tryz.prog 6 #[.agg #[str x_env.Client, str x_env.Host, str x_env.Scheme, str x_env.By, .slice x_env_p0 x_env.Domains.length x_env_c0, .slice x_env_p1 x_env.Locations.length x_env_c1]] w0 fun e w' => ∃ (p0 : Option Addr) (c0 : Nat) (p1 : Option Addr) (c1 : Nat), e = .returned (.agg #[str R.Client, str R.Host, str R.Scheme, str R.By, .slice p0 R.Domains.length c0, .slice p1 R.Locations.length c1]) ∧ Dk.Own w0 [] w' [.row (.slice p0 R.Domains.length c0) 98 2 R.Domains.length (cells zb R.Domains), .row (.slice p1 R.Locations.length c1) 98 2 R.Locations.length (cells zb R.Locations)] := by
 rw [zjf] at hm
 have hF : zu [] := zf
 have hO : Dk.Own w0 [] w0 [] := Dk.Own.refl w0
 have hO := hO.addShr hs0 (by simp [Res.shared])
 have hO := hO.addShr hs1 (by simp [Res.shared])
 refine S.enter tb Tryz.func6 rfl Tryz.ntmps6 rfl ?_ hO hm
 refine bo rfl fun b1 => ?_
 refine al zsr rfl fun b2 => ?_
 refine nl 98 2 ?_
 refine nl 98 2 ?_
 refine ld 3 rfl rfl ?_
 refine rw_ rfl fun a w hf hO hm => ?_
 obtain ⟨r4, hr4, hm⟩ := ob hm
 refine zj (zh c_17 hf (vs := [.agg #[str x_env.Client, str x_env.Host, str x_env.Scheme, str x_env.By, .slice x_env_p0 x_env.Domains.length x_env_c0, .slice x_env_p1 x_env.Locations.length x_env_c1]]) rfl) rfl hf rfl rfl (zrH x_env r4 _ (hG.own hF hO) (hO.sees (i := 5) rfl) hc0 (hO.sees (i := 4) rfl) hc1 hr4) ?_
 rintro e w' ⟨p5, c6, p7, c8, he, hO'⟩
 refine ⟨_, he, fun a hf => ?_⟩
 have hO := hO.call hO' (by simp [Res.shared])
 refine S.op tb ?_ hf hO hm
 refine al zsr rfl fun b9 => ?_
 refine nl 98 2 ?_
 refine nl 98 2 ?_
 refine st 2 rfl rfl ?_
 refine ld 8 rfl rfl ?_
 refine rw_ rfl fun a w hf hO hm => ?_
 obtain ⟨r11, hr11, hm⟩ := ob hm
 refine zj (zh c_18 hf (vs := [.slice x_env_p0 x_env.Domains.length x_env_c0]) rfl) rfl hf rfl rfl (znt x_env.Domains r11 _ (hG.own hF hO) (hO.sees (i := 10) rfl) hc0 hr11) ?_
 rintro e w' ⟨p12, c13, he, hO'⟩
 refine ⟨_, he, fun a hf => ?_⟩
 have hO := hO.call hO' (by simp [Res.shared])
 refine S.op tb ?_ hf hO hm
 refine st 3 rfl rfl ?_
 refine ld 9 rfl rfl ?_
 refine rw_ rfl fun a w hf hO hm => ?_
 obtain ⟨r15, hr15, hm⟩ := ob hm
 refine zj (zh c_18 hf (vs := [.slice x_env_p1 x_env.Locations.length x_env_c1]) rfl) rfl hf rfl rfl (znt x_env.Locations r15 _ (hG.own hF hO) (hO.sees (i := 10) rfl) hc1 hr15) ?_
 rintro e w' ⟨p16, c17, he, hO'⟩
 refine ⟨_, he, fun a hf => ?_⟩
 have hO := hO.call hO' (by simp [Res.shared])
 refine S.op tb ?_ hf hO hm
 refine st 4 rfl rfl ?_
 refine ld 4 rfl rfl ?_
 refine st 9 rfl rfl ?_
 refine re_ rfl fun a w hf hO hm => ?_
 obtain rfl := Option.some.inj hm
 exact zi Tryz.results6 hf (.cell rfl (zp (n := 6) (vs := [str r4.Client, str r4.Host, str r4.Scheme, str r4.By, .slice p12 r11.length c13, .slice p16 r15.length c17]) zkK zjV rfl ((hO.blkSees (i := 9) rfl).cells (o := 0) (n := 6) rfl)) .nil) ⟨p12, c13, p16, c17, rfl, (hO.choose [1, 0] rfl)⟩

theorem zg9 (x_s : Str) (R : Str) (w0 : World) (hG : zt w0) (hm : ze2 x_s = some R) :
    Calls Tryz.prog 19 #[str x_s] w0 (Ret w0 (fun R => str R) R) := by
 rw [ze2] at hm
 have hF : zu [] := zf
 have hO : Dk.Own w0 [] w0 [] := Dk.Own.refl w0
 refine S.enter tb Tryz.func19 rfl Tryz.ntmps19 rfl ?_ hO hm
 refine vl rfl rfl (fun a w hf hO => zmR (m := (x_s.length : Int)) (n := 400) hf rfl rfl) ?_
 refine bi rfl fun s2 hs2 => ?_
 exact rt Tryz.results19 rfl

theorem zrJ (x_h : api_Head) (R : api_Head) (w0 : World) (hG : zt w0) {x_h_p0 : Option Addr} {x_h_c0 : Nat} (hs0 : zy w0 x_h_p0 (cells za x_h.Fields)) (hc0 : x_h.Fields.length ≤ x_h_c0) (hm : zjg x_h = some R) :
    Calls Tryz.prog 7 #[.agg #[int x_h.Kind, str x_h.Method, str x_h.Target, int x_h.Code, str x_h.Reason, int x_h.Minor, .slice x_h_p0 x_h.Fields.length x_h_c0]] w0 fun e w' => ∃ (p0 : Option Addr) (c0 : Nat), e = .returned (.agg #[int R.Kind, str R.Method, str R.Target, int R.Code, str R.Reason, int R.Minor, .slice p0 R.Fields.length c0]) ∧ Dk.Own w0 [] w' [.row (.slice p0 R.Fields.length c0) 54 2 R.Fields.length (cells za R.Fields)] := by
 rw [zjg] at hm
 have hF : zu [] := zf
 have hO : Dk.Own w0 [] w0 [] := Dk.Own.refl w0
 have hO := hO.addShr hs0 (by simp [Res.shared])
 refine S.enter tb Tryz.func7 rfl Tryz.ntmps7 rfl ?_ hO hm
 refine bo rfl fun b1 => ?_
 refine al zpe rfl fun b2 => ?_
 refine nl 54 2 ?_
 refine ld 2 rfl rfl ?_
 refine cl c_19 rfl (fun r4 w hr4 hO => zg9 x_h.Method r4 _ (hG.own hF hO) hr4) fun r4 hr4 => ?_
 refine st 2 rfl rfl ?_
 refine ld 2 rfl rfl ?_
 refine cl c_19 rfl (fun r6 w hr6 hO => zg9 x_h.Target r6 _ (hG.own hF hO) hr6) fun r6 hr6 => ?_
 refine st 2 rfl rfl ?_
 refine ld 2 rfl rfl ?_
 refine cl c_19 rfl (fun r8 w hr8 hO => zg9 x_h.Reason r8 _ (hG.own hF hO) hr8) fun r8 hr8 => ?_
 refine st 2 rfl rfl ?_
 refine nl 54 2 ?_
 refine lv [1, 2] [1, 2, 3, 4] (fun J E L k => ∃ (p12 : Option Addr) (c13 : Nat) (l14 : List api_Field) (i15 : Int), J ((3, .slice p12 l14.length c13) :: (4, int i15) :: E) (.row (.slice p12 l14.length c13) 54 2 l14.length (cells za l14) :: L) (zcB x_h r4 r6 r8 k l14 i15)) rfl (fun _ _ j => ⟨none, 0, [], 0, j rfl⟩) ?_
 rintro n1 a w ⟨p12, c13, l14, i15, hf, hO, hm⟩
 obtain _ | n1 := n1
 rw [zcB] at hm
 cases hm
 rw [zcB] at hm
 refine S.co tb ?_ hf hO hm
 refine jv 4 [1, 2, 3, 4] [0, 1, 2, 3, 4] (fun J E L => ∃ (t17 : Bool), J ((25, .bool t17) :: E) (L) (zgv (zcB x_h r4 r6 r8 n1) x_h r4 r6 r8 l14 i15 t17)) rfl ?_ ?_
 refine ld 3 rfl rfl ?_
 refine br rfl (fun hc16 => ?_) fun hc16 => ?_
 exact en rfl fun _ _ j => ⟨decide (i15 < 120), j rfl⟩
 exact en rfl fun _ _ j => ⟨false, j rfl⟩
 rintro a w ⟨t17, hf, hO, hm⟩
 rw [zgv] at hm
 refine S.co tb ?_ hf hO hm
 refine br rfl (fun hc18 => ?_) fun hc18 => ?_
 refine rc_ rfl fun a w hf hO hm => ?_
 obtain ⟨x20, hx20, hm⟩ := ob hm
 obtain ⟨b21, o22, hix20, hSx20⟩ := zaK (enc := za) (sz := 2) (xs := x_h.Fields) 26 Tryz.underlying26 zcc (by decide) (fun _ => rfl) (hO.sees (i := 4) rfl) hx20
 obtain ⟨r23, hr23, hm⟩ := ob hm
 obtain ⟨x24, hx24, hm⟩ := ob hm
 obtain ⟨b25, o26, hix24, hSx24⟩ := zaK (enc := za) (sz := 2) (xs := x_h.Fields) 26 Tryz.underlying26 zcc (by decide) (fun _ => rfl) (hO.sees (i := 4) rfl) hx24
 obtain ⟨r27, hr27, hm⟩ := ob hm
 obtain ⟨hg31, hm⟩ := og hm
 refine zaV (S := Nat × Option Addr × Nat) (E0 := [(1, ptr b1 0), (2, ptr b2 0), (3, .slice p12 l14.length c13), (4, int i15)]) (by kernel_rfl) (fun k σ w => match k with | 0 => Dk.Own w0 [] w [.row (.slice p12 l14.length c13) 54 2 l14.length (cells za l14), .row (.slice none 0 0) 54 2 0 (cells za []), .blk b2 [int 0, str [], str [], int 0, str [], int 0, .slice none 0 0] 28, .blk b1 [int x_h.Kind, str r4, str r6, int x_h.Code, str r8, int x_h.Minor, .slice x_h_p0 x_h.Fields.length x_h_c0] 28, .shr x_h_p0 (cells za x_h.Fields)] | 1 => Dk.Own w0 [] w [.row (.slice p12 l14.length c13) 54 2 l14.length (cells za l14), .row (.slice none 0 0) 54 2 0 (cells za []), .blk b2 [int 0, str [], str [], int 0, str [], int 0, .slice none 0 0] 28, .blk b1 [int x_h.Kind, str r4, str r6, int x_h.Code, str r8, int x_h.Minor, .slice x_h_p0 x_h.Fields.length x_h_c0] 28, .shr x_h_p0 (cells za x_h.Fields)] | 2 => Dk.Own w0 [] w [.row (.slice p12 l14.length c13) 54 2 l14.length (cells za l14), .row (.slice none 0 0) 54 2 0 (cells za []), .blk b2 [int 0, str [], str [], int 0, str [], int 0, .slice none 0 0] 28, .blk b1 [int x_h.Kind, str r4, str r6, int x_h.Code, str r8, int x_h.Minor, .slice x_h_p0 x_h.Fields.length x_h_c0] 28, .shr x_h_p0 (cells za x_h.Fields)] | 3 => Dk.Own w0 [] w [.row (.slice (some ⟨(σ.1), 0, none⟩) (([(⟨r23, r27⟩ : api_Field)]).length) 1) 54 2 (([(⟨r23, r27⟩ : api_Field)]).length) (cells za ([(⟨r23, r27⟩ : api_Field)])), .row (.slice p12 l14.length c13) 54 2 l14.length (cells za l14), .row (.slice none 0 0) 54 2 0 (cells za []), .blk b2 [int 0, str [], str [], int 0, str [], int 0, .slice none 0 0] 28, .blk b1 [int x_h.Kind, str r4, str r6, int x_h.Code, str r8, int x_h.Minor, .slice x_h_p0 x_h.Fields.length x_h_c0] 28, .shr x_h_p0 (cells za x_h.Fields)] | _ => Dk.Own w0 [] w [.row (.slice (some ⟨(σ.1), 0, none⟩) (([(⟨r23, r27⟩ : api_Field)]).length) 1) 54 2 (([(⟨r23, r27⟩ : api_Field)]).length) (cells za ([(⟨r23, r27⟩ : api_Field)])), .row (.slice (σ.2.1) ((l14 ++ [(⟨r23, r27⟩ : api_Field)]).length) (σ.2.2)) 54 2 ((l14 ++ [(⟨r23, r27⟩ : api_Field)]).length) (cells za (l14 ++ [(⟨r23, r27⟩ : api_Field)])), .row (.slice none 0 0) 54 2 0 (cells za []), .blk b2 [int 0, str [], str [], int 0, str [], int 0, .slice none 0 0] 28, .blk b1 [int x_h.Kind, str r4, str r6, int x_h.Code, str r8, int x_h.Minor, .slice x_h_p0 x_h.Fields.length x_h_c0] 28, .shr x_h_p0 (cells za x_h.Fields)]) (fun σ => [⟨[(3, .slice p12 l14.length c13)], some (28, .slice p12 l14.length c13)⟩, ⟨[(1, ptr b1 0)], some (29, ptr b1 6)⟩, ⟨[(29, ptr b1 6)], some (30, .slice x_h_p0 x_h.Fields.length x_h_c0)⟩, ⟨[(4, int i15)], some (31, int i15)⟩, ⟨[(30, .slice x_h_p0 x_h.Fields.length x_h_c0), (31, int i15)], some (32, ptr b21 o22)⟩, ⟨[(32, ptr b21 o22)], some (33, ptr b21 o22)⟩, ⟨[(33, ptr b21 o22)], some (34, str x20.Name)⟩, ⟨[(34, str x20.Name)], some (35, str r23)⟩, ⟨[(1, ptr b1 0)], some (36, ptr b1 6)⟩, ⟨[(36, ptr b1 6)], some (37, .slice x_h_p0 x_h.Fields.length x_h_c0)⟩, ⟨[(4, int i15)], some (38, int i15)⟩, ⟨[(37, .slice x_h_p0 x_h.Fields.length x_h_c0), (38, int i15)], some (39, ptr b25 o26)⟩, ⟨[(39, ptr b25 o26)], some (40, ptr b25 (o26 + 1))⟩, ⟨[(40, ptr b25 (o26 + 1))], some (41, str x24.Value)⟩, ⟨[(41, str x24.Value)], some (42, str r27)⟩, ⟨[(35, str r23), (42, str r27)], some (43, .agg #[str r23, str r27])⟩, ⟨[(43, .agg #[str r23, str r27])], some (44, .slice (some ⟨(σ.1), 0, none⟩) (([(⟨r23, r27⟩ : api_Field)]).length) 1)⟩, ⟨[(28, .slice p12 l14.length c13), (44, .slice (some ⟨(σ.1), 0, none⟩) (([(⟨r23, r27⟩ : api_Field)]).length) 1)], some (45, .slice (σ.2.1) ((l14 ++ [(⟨r23, r27⟩ : api_Field)]).length) (σ.2.2))⟩, ⟨[(45, .slice (σ.2.1) ((l14 ++ [(⟨r23, r27⟩ : api_Field)]).length) (σ.2.2))], some (3, .slice (σ.2.1) ((l14 ++ [(⟨r23, r27⟩ : api_Field)]).length) (σ.2.2))⟩]) (0, none, 0) [7, 14, 16, 17] rfl (fun _ => rfl) (fun _ => rfl) (fun _ => rfl) rfl rfl (by decide) rfl hO.drew (hf.cons rfl (hf.cons rfl (hf.cons rfl (hf.cons rfl hf.nil)))) (fun σ => ⟨⟨rfl, trivial⟩, ⟨rfl, trivial⟩, ⟨rfl, trivial⟩, ⟨rfl, trivial⟩, ⟨rfl, rfl, trivial⟩, ⟨rfl, trivial⟩, ⟨rfl, trivial⟩, ⟨rfl, trivial⟩, ⟨rfl, trivial⟩, ⟨rfl, trivial⟩, ⟨rfl, trivial⟩, ⟨rfl, rfl, trivial⟩, ⟨rfl, trivial⟩, ⟨rfl, trivial⟩, ⟨rfl, trivial⟩, ⟨rfl, rfl, trivial⟩, ⟨rfl, trivial⟩, ⟨rfl, rfl, trivial⟩, ⟨rfl, trivial⟩, trivial⟩) ⟨zc rfl (fun σ => rfl) (fun σ => rfl) (fun σ a w k _ _ _ _ hf => zl hf rfl), zc rfl (fun σ => rfl) (fun σ => rfl) (fun σ a w k _ _ _ _ hf => zw zmE hf rfl), zc rfl (fun σ => rfl) (fun σ => rfl) (fun σ a w k hk hlo hup hst hf => match k, hk, hlo, hup, hst, hf with | 0, _, _, _, hst, hf => have hO : Dk.Own w0 [] w _ := hst; ze (o := 6) zdi (hO.blkSees (i := 3) rfl) rfl hf rfl | 1, _, _, _, hst, hf => have hO : Dk.Own w0 [] w _ := hst; ze (o := 6) zdi (hO.blkSees (i := 3) rfl) rfl hf rfl | 2, _, _, _, hst, hf => have hO : Dk.Own w0 [] w _ := hst; ze (o := 6) zdi (hO.blkSees (i := 3) rfl) rfl hf rfl | 3, _, _, _, hst, hf => have hO : Dk.Own w0 [] w _ := hst; ze (o := 6) zdi (hO.blkSees (i := 4) rfl) rfl hf rfl | 4, _, _, _, hst, hf => have hO : Dk.Own w0 [] w _ := hst; ze (o := 6) zdi (hO.blkSees (i := 4) rfl) rfl hf rfl | k + 5, hk, _, _, _, _ => absurd hk (by simp)), zc rfl (fun σ => rfl) (fun σ => rfl) (fun σ a w k _ _ _ _ hf => zl hf rfl), zc rfl (fun σ => rfl) (fun σ => rfl) (fun σ a w k _ _ _ _ hf => zk hix20 hf rfl rfl), zc rfl (fun σ => rfl) (fun σ => rfl) (fun σ a w k _ _ _ _ hf => zw zt1 hf rfl), zc rfl (fun σ => rfl) (fun σ => rfl) (fun σ a w k hk hlo hup hst hf => match k, hk, hlo, hup, hst, hf with | 0, _, _, _, hst, hf => have hO : Dk.Own w0 [] w _ := hst; ze (o := 0) z7 (hSx20 _ (hO.sees (i := 4) rfl)) rfl hf rfl | 1, _, _, _, hst, hf => have hO : Dk.Own w0 [] w _ := hst; ze (o := 0) z7 (hSx20 _ (hO.sees (i := 4) rfl)) rfl hf rfl | 2, _, _, _, hst, hf => have hO : Dk.Own w0 [] w _ := hst; ze (o := 0) z7 (hSx20 _ (hO.sees (i := 4) rfl)) rfl hf rfl | 3, _, _, _, hst, hf => have hO : Dk.Own w0 [] w _ := hst; ze (o := 0) z7 (hSx20 _ (hO.sees (i := 5) rfl)) rfl hf rfl | 4, _, _, _, hst, hf => have hO : Dk.Own w0 [] w _ := hst; ze (o := 0) z7 (hSx20 _ (hO.sees (i := 5) rfl)) rfl hf rfl | k + 5, hk, _, _, _, _ => absurd hk (by simp)), zbg rfl (fun σ => rfl) (fun σ => rfl) rfl (fun σ a w (_ : _) hf => zh c_19 hf (vs := [str x20.Name]) rfl) (fun σ w (hO : Dk.Own w0 [] w _) => (zg9 x20.Name r23 _ (hG.own hF hO) hr23).mono fun e w' h => by obtain ⟨he, hb⟩ := h; exact ⟨((σ.1), (σ.2.1), (σ.2.2)), he, hO.grow hb, .inr rfl, .inr rfl, .inr rfl, .inr rfl, .inr rfl, .inr rfl, .inr rfl, .inr rfl, .inr rfl, .inr rfl, .inr rfl, .inr rfl, .inr rfl, .inr rfl, .inr rfl, .inr rfl, .inr rfl, .inr rfl, .inr rfl, trivial⟩), zc rfl (fun σ => rfl) (fun σ => rfl) (fun σ a w k _ _ _ _ hf => zw zmE hf rfl), zc rfl (fun σ => rfl) (fun σ => rfl) (fun σ a w k hk hlo hup hst hf => match k, hk, hlo, hup, hst, hf with | 0, _, _, _, hst, hf => have hO : Dk.Own w0 [] w _ := hst; ze (o := 6) zdi (hO.blkSees (i := 3) rfl) rfl hf rfl | 1, _, _, _, hst, hf => have hO : Dk.Own w0 [] w _ := hst; ze (o := 6) zdi (hO.blkSees (i := 3) rfl) rfl hf rfl | 2, _, _, _, hst, hf => have hO : Dk.Own w0 [] w _ := hst; ze (o := 6) zdi (hO.blkSees (i := 3) rfl) rfl hf rfl | 3, _, _, _, hst, hf => have hO : Dk.Own w0 [] w _ := hst; ze (o := 6) zdi (hO.blkSees (i := 4) rfl) rfl hf rfl | 4, _, _, _, hst, hf => have hO : Dk.Own w0 [] w _ := hst; ze (o := 6) zdi (hO.blkSees (i := 4) rfl) rfl hf rfl | k + 5, hk, _, _, _, _ => absurd hk (by simp)), zc rfl (fun σ => rfl) (fun σ => rfl) (fun σ a w k _ _ _ _ hf => zl hf rfl), zc rfl (fun σ => rfl) (fun σ => rfl) (fun σ a w k _ _ _ _ hf => zk hix24 hf rfl rfl), zc rfl (fun σ => rfl) (fun σ => rfl) (fun σ a w k _ _ _ _ hf => zw zog hf rfl), zc rfl (fun σ => rfl) (fun σ => rfl) (fun σ a w k hk hlo hup hst hf => match k, hk, hlo, hup, hst, hf with | 0, _, _, _, hst, hf => have hO : Dk.Own w0 [] w _ := hst; ze (o := 1) z7 (hSx24 _ (hO.sees (i := 4) rfl)) rfl hf rfl | 1, _, _, _, hst, hf => have hO : Dk.Own w0 [] w _ := hst; ze (o := 1) z7 (hSx24 _ (hO.sees (i := 4) rfl)) rfl hf rfl | 2, _, _, _, hst, hf => have hO : Dk.Own w0 [] w _ := hst; ze (o := 1) z7 (hSx24 _ (hO.sees (i := 4) rfl)) rfl hf rfl | 3, _, _, _, hst, hf => have hO : Dk.Own w0 [] w _ := hst; ze (o := 1) z7 (hSx24 _ (hO.sees (i := 5) rfl)) rfl hf rfl | 4, _, _, _, hst, hf => have hO : Dk.Own w0 [] w _ := hst; ze (o := 1) z7 (hSx24 _ (hO.sees (i := 5) rfl)) rfl hf rfl | k + 5, hk, _, _, _, _ => absurd hk (by simp)), zbg rfl (fun σ => rfl) (fun σ => rfl) rfl (fun σ a w (_ : _) hf => zh c_19 hf (vs := [str x24.Value]) rfl) (fun σ w (hO : Dk.Own w0 [] w _) => (zg9 x24.Value r27 _ (hG.own hF hO) hr27).mono fun e w' h => by obtain ⟨he, hb⟩ := h; exact ⟨((σ.1), (σ.2.1), (σ.2.2)), he, hO.grow hb, .inr rfl, .inr rfl, .inr rfl, .inr rfl, .inr rfl, .inr rfl, .inr rfl, .inr rfl, .inr rfl, .inr rfl, .inr rfl, .inr rfl, .inr rfl, .inr rfl, .inr rfl, .inr rfl, .inr rfl, .inr rfl, .inr rfl, trivial⟩), zc rfl (fun σ => rfl) (fun σ => rfl) (fun σ a w k _ _ _ _ hf => zB (vs := [(0, str r23), (1, str r27)]) (v := .agg #[str r23, str r27]) hf rfl (by kernel_rfl)), zfB rfl (fun σ => rfl) (fun σ => rfl) rfl (fun σ w (hO : Dk.Own w0 [] w _) => by obtain ⟨b28, w', hO', hr⟩ := zbY (E := [(43, .agg #[str r23, str r27])]) (parts := #[(0, (.tmp 43))]) (t' := 26) (n := 1) (vs := [(0, .agg #[str r23, str r27])]) (cs := [str r23, str r27]) (e := 54) (sz := 2) (fun w => by kernel_rfl) rfl rfl hO rfl; exact ⟨(b28, (σ.2.1), (σ.2.2)), w', hO', ⟨.inr rfl, .inr rfl, .inr rfl, .inr rfl, .inr rfl, .inr rfl, .inr rfl, .inr rfl, .inr rfl, .inr rfl, .inr rfl, .inr rfl, .inr rfl, .inr rfl, .inr rfl, .inr rfl, .inl rfl, .inl rfl, .inr rfl, trivial⟩, hr⟩), zfB rfl (fun σ => rfl) (fun σ => rfl) rfl (fun σ w (hO : Dk.Own w0 [] w _) => by obtain ⟨p29, c30, w', hO', hr⟩ := zkT (E := [(28, .slice p12 l14.length c13), (44, .slice (some ⟨(σ.1), 0, none⟩) (([(⟨r23, r27⟩ : api_Field)]).length) 1)]) (x := (.tmp 28)) (y := (.tmp 44)) zss (enc := za) (xs := l14) (ys := [(⟨r23, r27⟩ : api_Field)]) (i := 1) (fun _ => rfl) rfl (hO.rowSees (i := 0) rfl) (by simp [cells, za, Value.oneCell']) hg31 hO rfl rfl; exact ⟨((σ.1), p29, c30), w', hO', ⟨.inr rfl, .inr rfl, .inr rfl, .inr rfl, .inr rfl, .inr rfl, .inr rfl, .inr rfl, .inr rfl, .inr rfl, .inr rfl, .inr rfl, .inr rfl, .inr rfl, .inr rfl, .inr rfl, .inr rfl, .inl rfl, .inl rfl, trivial⟩, hr⟩), zc rfl (fun σ => rfl) (fun σ => rfl) (fun σ a w k _ _ _ _ hf => z8 hf rfl), trivial⟩ ?_
 rintro ⟨b28, p29, c30⟩ a w hf hO
 have hO : Dk.Own w0 [] w _ := hO
 have hf : Fits 49 [(1, ptr b1 0), (2, ptr b2 0), (3, .slice p29 ((l14 ++ [(⟨r23, r27⟩ : api_Field)]).length) c30), (4, int i15)] a := (hf.cons rfl (hf.cons rfl (hf.cons rfl (hf.cons rfl hf.nil))))
 refine S.no tb ?_ hf hO hm
 refine bi rfl fun i33 hi33 => ?_
 exact ec [1, 2, 3, 4, 5] rfl rfl rfl fun _ _ j => ⟨_, Nat.lt_succ_self _, p29, c30, l14 ++ [(⟨r23, r27⟩ : api_Field)], i33, j rfl⟩
 refine st 3 rfl rfl ?_
 refine ld 3 rfl rfl ?_
 refine st 2 rfl rfl ?_
 refine re_ rfl fun a w hf hO hm => ?_
 obtain rfl := Option.some.inj hm
 exact zi Tryz.results7 hf (.cell rfl (zp (n := 7) (vs := [int x_h.Kind, str r4, str r6, int x_h.Code, str r8, int x_h.Minor, .slice p12 l14.length c13]) zfi ze4 rfl ((hO.blkSees (i := 2) rfl).cells (o := 0) (n := 7) rfl)) .nil) ⟨p12, c13, rfl, (hO.sub (.cons_cons _ (.cons _ (.cons _ (.cons _ (.cons _ .slnil))))))⟩

end Go.Proofs
end
section
set_option linter.unusedVariables false
set_option linter.unusedSimpArgs false
set_option maxRecDepth 100000
namespace Go.Proofs
open Go.Dk Go.Dm Go.RowKit

set_option maxHeartbeats 1000000 in
theorem zqD (x_a : api_Head) (x_b : api_Head) (R : Bool) (w0 : World) (hG : zt w0) {x_a_p0 : Option Addr} {x_a_c0 : Nat} (hs0 : zy w0 x_a_p0 (cells za x_a.Fields)) (hc0 : x_a.Fields.length ≤ x_a_c0) {x_b_p1 : Option Addr} {x_b_c1 : Nat} (hs1 : zy w0 x_b_p1 (cells za x_b.Fields)) (hc1 : x_b.Fields.length ≤ x_b_c1) (hm : zjG x_a x_b = some R) :
    Calls Tryz.prog 31 #[.agg #[int x_a.Kind, str x_a.Method, str x_a.Target, int x_a.Code, str x_a.Reason, int x_a.Minor, .slice x_a_p0 x_a.Fields.length x_a_c0], .agg #[int x_b.Kind, str x_b.Method, str x_b.Target, int x_b.Code, str x_b.Reason, int x_b.Minor, .slice x_b_p1 x_b.Fields.length x_b_c1]] w0 (Ret w0 (fun R => .bool R) R) := by
 rw [zjG] at hm
 have hF : zu [] := zf
 have hO : Dk.Own w0 [] w0 [] := Dk.Own.refl w0
 have hO := hO.addShr hs0 (by simp [Res.shared])
 have hO := hO.addShr hs1 (by simp [Res.shared])
 refine S.enter tb Tryz.func31 rfl Tryz.ntmps31 rfl ?_ hO hm
 refine bo rfl fun b1 => ?_
 refine bo rfl fun b2 => ?_
 refine jv 0 [] [0, 1, 2, 3] (fun J E L => ∃ (t9 : Bool), J ((4, .bool t9) :: E) (L) (zb4 t9)) rfl ?_ ?_
 refine ld 1 rfl rfl ?_
 refine ld 0 rfl rfl ?_
 refine br rfl (fun hc4 => ?_) fun hc4 => ?_
 refine ld 1 rfl rfl ?_
 refine ld 0 rfl rfl ?_
 refine br rfl (fun hc5 => ?_) fun hc5 => ?_
 refine ld 1 rfl rfl ?_
 refine ld 0 rfl rfl ?_
 refine br rfl (fun hc6 => ?_) fun hc6 => ?_
 refine ld 1 rfl rfl ?_
 refine ld 0 rfl rfl ?_
 refine br rfl (fun hc7 => ?_) fun hc7 => ?_
 refine ld 1 rfl rfl ?_
 refine ld 0 rfl rfl ?_
 refine br rfl (fun hc8 => ?_) fun hc8 => ?_
 refine ld 1 rfl rfl ?_
 refine ld 0 rfl rfl ?_
 exact en rfl fun _ _ j => ⟨x_a.Reason == x_b.Reason, j rfl⟩
 exact en rfl fun _ _ j => ⟨false, j rfl⟩
 exact en rfl fun _ _ j => ⟨false, j rfl⟩
 exact en rfl fun _ _ j => ⟨false, j rfl⟩
 exact en rfl fun _ _ j => ⟨false, j rfl⟩
 exact en rfl fun _ _ j => ⟨false, j rfl⟩
 rintro a w ⟨t9, hf, hO, hm⟩
 rw [zb4] at hm
 refine S.co tb ?_ hf hO hm
 exact rt Tryz.results31 rfl

end Go.Proofs
end
section
set_option linter.unusedVariables false
set_option maxHeartbeats 1000000
set_option linter.unusedSimpArgs false
set_option maxRecDepth 100000
namespace Go.Proofs
open Go.Dk Go.Dm Go.RowKit

theorem zqK (x_a : List api_Field) (x_b : List api_Field) (R : Bool) (w0 : World) (hG : zt w0) {x_a_p0 : Option Addr} {x_a_c0 : Nat} (hs0 : zy w0 x_a_p0 (cells za x_a)) (hc0 : x_a.length ≤ x_a_c0) {x_b_p1 : Option Addr} {x_b_c1 : Nat} (hs1 : zy w0 x_b_p1 (cells za x_b)) (hc1 : x_b.length ≤ x_b_c1) (hm : zib x_a x_b = some R) :
    Calls Tryz.prog 32 #[.slice x_a_p0 x_a.length x_a_c0, .slice x_b_p1 x_b.length x_b_c1] w0 (Ret w0 (fun R => .bool R) R) := by
 rw [zib] at hm
 have hF : zu [] := zf
 have hO : Dk.Own w0 [] w0 [] := Dk.Own.refl w0
 have hO := hO.addShr hs0 (by simp [Res.shared])
 have hO := hO.addShr hs1 (by simp [Res.shared])
 refine S.enter tb Tryz.func32 rfl Tryz.ntmps32 rfl ?_ hO hm
 refine br rfl (fun hc3 => ?_) fun hc3 => ?_
 exact rt Tryz.results32 rfl
 refine lv [0, 1] [0, 1] (fun J E L k => ∃ (i7 : Int), J ((5, int i7) :: E) (L) (zcF x_a x_b k i7)) rfl (fun _ _ j => ⟨0, j rfl⟩) ?_
 rintro n1 a w ⟨i7, hf, hO, hm⟩
 obtain _ | n1 := n1
 rw [zcF] at hm
 cases hm
 rw [zcF] at hm
 refine S.co tb ?_ hf hO hm
 refine br rfl (fun hc9 => ?_) fun hc9 => ?_
 refine rc_ rfl fun a w hf hO hm => ?_
 refine zd1 (by kernel_rfl) (by kernel_rfl) hO ?_
 refine zn (fun w hO => zl hf rfl) rfl hf rfl rfl fun a hf => ?_
 refine zn (fun w hO => zl hf rfl) rfl hf rfl rfl fun a hf => ?_
 obtain ⟨x11, hx11, hm⟩ := ob hm
 obtain ⟨b12, o13, hix11, hSx11⟩ := zaK (enc := za) (sz := 2) (xs := x_a) 26 Tryz.underlying26 zcc (by decide) (fun _ => rfl) (hO.sees (i := 1) rfl) hx11
 refine zn (fun w hO => zk hix11 hf rfl rfl) rfl hf rfl rfl fun a hf => ?_
 refine zn (fun w hO => zo (o := 0) (vs := [str x11.Name, str x11.Value]) ziD zcc (hSx11 _ (hO.sees (i := 1) rfl)) rfl rfl hf rfl) rfl hf rfl rfl fun a hf => ?_
 refine zn (fun w hO => zl hf rfl) rfl hf rfl rfl fun a hf => ?_
 refine zn (fun w hO => zl hf rfl) rfl hf rfl rfl fun a hf => ?_
 obtain ⟨x14, hx14, hm⟩ := ob hm
 obtain ⟨b15, o16, hix14, hSx14⟩ := zaK (enc := za) (sz := 2) (xs := x_b) 26 Tryz.underlying26 zcc (by decide) (fun _ => rfl) (hO.sees (i := 0) rfl) hx14
 refine zn (fun w hO => zk hix14 hf rfl rfl) rfl hf rfl rfl fun a hf => ?_
 refine zn (fun w hO => zo (o := 0) (vs := [str x14.Name, str x14.Value]) ziD zcc (hSx14 _ (hO.sees (i := 0) rfl)) rfl rfl hf rfl) rfl hf rfl rfl fun a hf => ?_
 refine zn (fun w hO => zj8 (by kernel_rfl) (eq_54 x11 x14) hf rfl rfl) rfl hf rfl rfl fun a hf => ?_
 refine wpQuiet_nil ?_
 intro w hO
 refine S.no tb ?_ hf hO hm
 refine br rfl (fun hc18 => ?_) fun hc18 => ?_
 exact rt Tryz.results32 rfl
 refine bi rfl fun i21 hi21 => ?_
 exact en rfl fun _ _ j => ⟨_, Nat.lt_succ_self _, i21, j rfl⟩
 exact rt Tryz.results32 rfl

theorem zqL (x_a : api_Head) (x_b : api_Head) (R : Bool) (w0 : World) (hG : zt w0) {x_a_p0 : Option Addr} {x_a_c0 : Nat} (hs0 : zy w0 x_a_p0 (cells za x_a.Fields)) (hc0 : x_a.Fields.length ≤ x_a_c0) {x_b_p1 : Option Addr} {x_b_c1 : Nat} (hs1 : zy w0 x_b_p1 (cells za x_b.Fields)) (hc1 : x_b.Fields.length ≤ x_b_c1) (hm : zgS x_a x_b = some R) :
    Calls Tryz.prog 10 #[.agg #[int x_a.Kind, str x_a.Method, str x_a.Target, int x_a.Code, str x_a.Reason, int x_a.Minor, .slice x_a_p0 x_a.Fields.length x_a_c0], .agg #[int x_b.Kind, str x_b.Method, str x_b.Target, int x_b.Code, str x_b.Reason, int x_b.Minor, .slice x_b_p1 x_b.Fields.length x_b_c1]] w0 (Ret w0 (fun R => .bool R) R) := by
 rw [zgS] at hm
 have hF : zu [] := zf
 have hO : Dk.Own w0 [] w0 [] := Dk.Own.refl w0
 have hO := hO.addShr hs0 (by simp [Res.shared])
 have hO := hO.addShr hs1 (by simp [Res.shared])
 refine S.enter tb Tryz.func10 rfl Tryz.ntmps10 rfl ?_ hO hm
 refine bo rfl fun b1 => ?_
 refine bo rfl fun b2 => ?_
 refine jv 0 [] [0, 1, 2, 3] (fun J E L => ∃ (t7 : Bool), J ((4, .bool t7) :: E) (L) (zfh t7)) rfl ?_ ?_
 refine ld 1 rfl rfl ?_
 refine ld 0 rfl rfl ?_
 refine cl c_31 rfl (fun r4 w hr4 hO => zqD x_a x_b r4 _ (hG.own hF hO) (hO.sees (i := 3) rfl) hc0 (hO.sees (i := 2) rfl) hc1 hr4) fun r4 hr4 => ?_
 refine br rfl (fun hc5 => ?_) fun hc5 => ?_
 refine ld 1 rfl rfl ?_
 refine ld 0 rfl rfl ?_
 refine cl c_32 rfl (fun r6 w hr6 hO => zqK x_a.Fields x_b.Fields r6 _ (hG.own hF hO) (hO.sees (i := 3) rfl) hc0 (hO.sees (i := 2) rfl) hc1 hr6) fun r6 hr6 => ?_
 exact en rfl fun _ _ j => ⟨r6, j rfl⟩
 exact en rfl fun _ _ j => ⟨false, j rfl⟩
 rintro a w ⟨t7, hf, hO, hm⟩
 rw [zfh] at hm
 refine S.co tb ?_ hf hO hm
 exact rt Tryz.results10 rfl

theorem zot (x_values : List Str) (R : List api_Via × Int) (w0 : World) (hG : zaG w0) {x_values_p0 : Option Addr} {x_values_c0 : Nat} (hs0 : zy w0 x_values_p0 (cells zg x_values)) (hc0 : x_values.length ≤ x_values_c0) (hm : zhj x_values = some R) :
    Calls Tryz.prog 11 #[.slice x_values_p0 x_values.length x_values_c0] w0 fun e w' => ∃ (p0 : Option Addr) (c0 : Nat), e = .returned (.tuple #[.slice p0 R.1.length c0, int R.2]) ∧ Dk.Own w0 [] w' [.row (.slice p0 R.1.length c0) 46 4 R.1.length (cells zcb R.1)] := by
 rw [zhj] at hm
 have hF : zu [] := zf
 have hO : Dk.Own w0 [] w0 [] := Dk.Own.refl w0
 have hO := hO.addShr hs0 (by simp [Res.shared])
 refine S.enter tb Tryz.func11 rfl Tryz.ntmps11 rfl ?_ hO hm
 refine nl 46 4 ?_
 refine nl 46 4 ?_
 refine lv [13, 14] [1, 2] (fun J E L k => ∃ (p4 : Option Addr) (c5 : Nat) (l6 : List api_Via) (i7 : Int), J ((4, .slice p4 l6.length c5) :: (15, int i7) :: E) (.row (.slice p4 l6.length c5) 46 4 l6.length (cells zcb l6) :: L) (zdg x_values k l6 i7)) rfl (fun _ _ j => ⟨none, 0, [], 0, j rfl⟩) ?_
 rintro n1 a w ⟨p4, c5, l6, i7, hf, hO, hm⟩
 obtain _ | n1 := n1
 rw [zdg] at hm
 cases hm
 rw [zdg] at hm
 refine S.co tb ?_ hf hO hm
 refine br rfl (fun hc9 => ?_) fun hc9 => ?_
 refine rw_ rfl fun a w hf hO hm => ?_
 obtain ⟨x11, hx11, hm⟩ := ob hm
 obtain ⟨b12, o13, hix11, hSx11⟩ := zaK (enc := zg) (sz := 1) (xs := x_values) 42 Tryz.underlying42 zfZ (by decide) (fun _ => rfl) (hO.sees (i := 2) rfl) hx11
 refine zS (zk hix11 hf rfl rfl) rfl hf rfl rfl fun a hf => ?_
 refine S.op tb ?_ hf hO hm
 refine vl rfl rfl (fun a w hf hO => ze (o := 0) z7 (hSx11 _ (hO.sees (i := 2) rfl)) rfl hf rfl) ?_
 refine rw_ rfl fun a w hf hO hm => ?_
 obtain ⟨r15, hr15, hm⟩ := ob hm
 refine zj (zh c_33 hf (vs := [str x11]) rfl) rfl hf rfl rfl (zgy x11 r15 _ (hG.own hF hO).1 hr15) ?_
 rintro e w' ⟨p16, c17, he, hO'⟩
 refine ⟨_, he, fun a hf => ?_⟩
 have hO := hO.call hO' (by simp [Res.shared])
 refine S.op tb ?_ hf hO hm
 refine br rfl (fun hc20 => ?_) fun hc20 => ?_
 refine nl 46 4 ?_
 refine re_ rfl fun a w hf hO hm => ?_
 obtain rfl := Option.some.inj hm
 exact zi Tryz.results11 hf (.tmp rfl (.tmp rfl .nil)) ⟨none, 0, rfl, (hO.sub (.cons_cons _ (.cons _ (.cons _ (.cons _ (.cons _ .slnil))))))⟩
 refine ch [1, 0, 2, 3] rfl rfl ?_
 refine lv [13, 14, 15, 27, 28] [1, 2, 3] (fun J E L k => ∃ (p24 : Option Addr) (c25 : Nat) (l26 : List api_Via) (i27 : Int), J ((4, .slice p24 l26.length c25) :: (29, int i27) :: E) (.row (.slice p24 l26.length c25) 46 4 l26.length (cells zcb l26) :: L) (zdJ (zdg x_values n1) i7 r15 k l26 i27)) rfl (fun _ _ j => ⟨p4, c5, l6, 0, j rfl⟩) ?_
 rintro n2 a w ⟨p24, c25, l26, i27, hf, hO, hm⟩
 obtain _ | n2 := n2
 rw [zdJ] at hm
 cases hm
 rw [zdJ] at hm
 refine S.co tb ?_ hf hO hm
 refine br rfl (fun hc29 => ?_) fun hc29 => ?_
 refine rw_ rfl fun a w hf hO hm => ?_
 obtain ⟨x31, hx31, hm⟩ := ob hm
 obtain ⟨b32, o33, hix31, hSx31, hAx31⟩ := zaw (enc := zg) (sz := 1) (xs := r15.1) 42 Tryz.underlying42 zfZ (by decide) (fun _ => rfl) hO (i := 1) rfl hx31
 refine zS (zk hix31 hf rfl rfl) rfl hf rfl rfl fun a hf => ?_
 refine S.op tb ?_ hf hO hm
 refine vl rfl rfl (fun a w hf hO => ze (o := 0) z7 (hSx31 _ (hO.rowSees (i := 1) rfl)) rfl hf rfl) ?_
 refine cl c_34 rfl (fun r35 w hr35 hO => znH x31 r35 _ (hG.own hF hO) hr35) fun r35 hr35 => ?_
 refine al ztX rfl fun b36 => ?_
 refine st 0 rfl rfl ?_
 refine br rfl (fun hc39 => ?_) fun hc39 => ?_
 refine nl 46 4 ?_
 refine re_ rfl fun a w hf hO hm => ?_
 obtain rfl := Option.some.inj hm
 exact zi Tryz.results11 hf (.tmp rfl (.tmp rfl .nil)) ⟨none, 0, rfl, (hO.sub (.cons_cons _ (.cons _ (.cons _ (.cons _ (.cons _ (.cons _ .slnil)))))))⟩
 refine ld 0 rfl rfl ?_
 refine rw_ rfl fun a w hf hO hm => ?_
 refine zm (vs := [(0, .agg #[str r35.1.Proto, str r35.1.Version, str r35.1.By, str r35.1.Comment])]) (cs := [str r35.1.Proto, str r35.1.Version, str r35.1.By, str r35.1.Comment]) (e := 46) (sz := 4) hf rfl rfl (fun w => by kernel_rfl) rfl rfl hO fun a b42 w hf hO => ?_
 refine S.op tb ?_ hf hO hm
 refine rw_ rfl fun a w hf hO hm => ?_
 obtain ⟨hg45, hm⟩ := og hm
 refine zae el_39 (enc := zcb) (xs := l26) (ys := [r35.1]) (i := 2) (fun _ => rfl) rfl (hO.rowSees (i := 0) rfl) (by simp [cells, zcb, Value.oneCell']) hg45 hf rfl rfl rfl hO fun a p43 c44 w hf hO => ?_
 refine S.op tb ?_ hf hO hm
 refine bi rfl fun i47 hi47 => ?_
 exact ec [2, 3, 4, 5] rfl rfl rfl fun _ _ j => ⟨_, Nat.lt_succ_self _, p43, c44, l26 ++ [r35.1], i47, j rfl⟩
 refine bi rfl fun i49 hi49 => ?_
 exact ec [0, 2, 3] rfl rfl rfl fun _ _ j => ⟨_, Nat.lt_succ_self _, p24, c25, l26, i49, j rfl⟩
 refine re_ rfl fun a w hf hO hm => ?_
 obtain rfl := Option.some.inj hm
 exact zi Tryz.results11 hf (.tmp rfl (.tmp rfl .nil)) ⟨p4, c5, rfl, (hO.sub (.cons_cons _ (.cons _ (.cons _ .slnil))))⟩

theorem zqM (x_a : List api_Via) (x_b : List api_Via) (R : Bool) (w0 : World) (hG : zt w0) {x_a_p0 : Option Addr} {x_a_c0 : Nat} (hs0 : zy w0 x_a_p0 (cells zcb x_a)) (hc0 : x_a.length ≤ x_a_c0) {x_b_p1 : Option Addr} {x_b_c1 : Nat} (hs1 : zy w0 x_b_p1 (cells zcb x_b)) (hc1 : x_b.length ≤ x_b_c1) (hm : zgT x_a x_b = some R) :
    Calls Tryz.prog 13 #[.slice x_a_p0 x_a.length x_a_c0, .slice x_b_p1 x_b.length x_b_c1] w0 (Ret w0 (fun R => .bool R) R) := by
 rw [zgT] at hm
 have hF : zu [] := zf
 have hO : Dk.Own w0 [] w0 [] := Dk.Own.refl w0
 have hO := hO.addShr hs0 (by simp [Res.shared])
 have hO := hO.addShr hs1 (by simp [Res.shared])
 refine S.enter tb Tryz.func13 rfl Tryz.ntmps13 rfl ?_ hO hm
 refine br rfl (fun hc3 => ?_) fun hc3 => ?_
 exact rt Tryz.results13 rfl
 refine lv [0, 1] [0, 1] (fun J E L k => ∃ (i7 : Int), J ((5, int i7) :: E) (L) (zcG x_a x_b k i7)) rfl (fun _ _ j => ⟨0, j rfl⟩) ?_
 rintro n1 a w ⟨i7, hf, hO, hm⟩
 obtain _ | n1 := n1
 rw [zcG] at hm
 cases hm
 rw [zcG] at hm
 refine S.co tb ?_ hf hO hm
 refine br rfl (fun hc9 => ?_) fun hc9 => ?_
 refine rc_ rfl fun a w hf hO hm => ?_
 refine zd1 (by kernel_rfl) (by kernel_rfl) hO ?_
 refine zn (fun w hO => zl hf rfl) rfl hf rfl rfl fun a hf => ?_
 refine zn (fun w hO => zl hf rfl) rfl hf rfl rfl fun a hf => ?_
 obtain ⟨x11, hx11, hm⟩ := ob hm
 obtain ⟨b12, o13, hix11, hSx11⟩ := zaK (enc := zcb) (sz := 4) (xs := x_a) 39 Tryz.underlying39 zmF (by decide) (fun _ => rfl) (hO.sees (i := 1) rfl) hx11
 refine zn (fun w hO => zk hix11 hf rfl rfl) rfl hf rfl rfl fun a hf => ?_
 refine zn (fun w hO => zo (o := 0) (vs := [str x11.Proto, str x11.Version, str x11.By, str x11.Comment]) zsq zmF (hSx11 _ (hO.sees (i := 1) rfl)) rfl rfl hf rfl) rfl hf rfl rfl fun a hf => ?_
 refine zn (fun w hO => zl hf rfl) rfl hf rfl rfl fun a hf => ?_
 refine zn (fun w hO => zl hf rfl) rfl hf rfl rfl fun a hf => ?_
 obtain ⟨x14, hx14, hm⟩ := ob hm
 obtain ⟨b15, o16, hix14, hSx14⟩ := zaK (enc := zcb) (sz := 4) (xs := x_b) 39 Tryz.underlying39 zmF (by decide) (fun _ => rfl) (hO.sees (i := 0) rfl) hx14
 refine zn (fun w hO => zk hix14 hf rfl rfl) rfl hf rfl rfl fun a hf => ?_
 refine zn (fun w hO => zo (o := 0) (vs := [str x14.Proto, str x14.Version, str x14.By, str x14.Comment]) zsq zmF (hSx14 _ (hO.sees (i := 0) rfl)) rfl rfl hf rfl) rfl hf rfl rfl fun a hf => ?_
 refine zn (fun w hO => zj8 (by kernel_rfl) (eq_46 x11 x14) hf rfl rfl) rfl hf rfl rfl fun a hf => ?_
 refine wpQuiet_nil ?_
 intro w hO
 refine S.no tb ?_ hf hO hm
 refine br rfl (fun hc18 => ?_) fun hc18 => ?_
 exact rt Tryz.results13 rfl
 refine bi rfl fun i21 hi21 => ?_
 exact en rfl fun _ _ j => ⟨_, Nat.lt_succ_self _, i21, j rfl⟩
 exact rt Tryz.results13 rfl

theorem zpC (x_c : scan_Scanner) (R : Str × Bool × scan_Scanner) (w0 : World) (hG : zt w0) {x_c_b0 : Nat} {F : List Nat} (hF : zu F) (hO : Dk.Own w0 F w0 [.blk x_c_b0 [str x_c.f_s, int x_c.f_at] 148]) (hm : zca x_c = some R) :
    Calls Tryz.prog 169 #[ptr x_c_b0 0] w0 fun e w' => e = .returned (.tuple #[str R.1, .bool R.2.1]) ∧ Dk.Own w0 F w' [.blk x_c_b0 [str R.2.2.f_s, int R.2.2.f_at] 148] := by
 rw [zca] at hm
 refine S.enter tb Tryz.func169 rfl Tryz.ntmps169 rfl ?_ hO hm
 refine rw_ rfl fun a w hf hO hm => ?_
 obtain ⟨r2, hr2, hm⟩ := ob hm
 have hch3 := (show Dk.Own w0 F _ ([.blk x_c_b0 [str x_c.f_s, int x_c.f_at] 148] ++ []) from hO)
 have hfar3 := Dk.Own.far hch3 rfl hF hG.size
 have hlend3 := hch3.lend (S := []) rfl trivial
 have hcl3 := zcd x_c r2 _ (hG.own hF hO) hfar3 hlend3 hr2
 refine zj (zh zsB hf (vs := [ptr x_c_b0 0]) rfl) rfl hf rfl rfl (hcl3) ?_
 rintro e w' ⟨he, hO'⟩
 refine ⟨_, he, fun a hf => ?_⟩
 have hO := hch3.back rfl hO' rfl
 refine S.op tb ?_ hf hO hm
 refine br rfl (fun hc6 => ?_) fun hc6 => ?_
 refine re_ rfl fun a w hf hO hm => ?_
 obtain rfl := Option.some.inj hm
 exact zi Tryz.results169 hf (.tmp rfl (.tmp rfl .nil)) ⟨rfl, hO⟩
 refine rw_ rfl fun a w hf hO hm => ?_
 obtain ⟨r9, hr9, hm⟩ := ob hm
 have hch10 := (show Dk.Own w0 F _ ([.blk x_c_b0 [str r2.2.2.f_s, int r2.2.2.f_at] 148] ++ []) from hO)
 have hfar10 := Dk.Own.far hch10 rfl hF hG.size
 have hlend10 := hch10.lend (S := []) rfl trivial
 have hcl10 := zlp r2.2.2 r9 _ (hG.own hF hO) hfar10 hlend10 hr9
 refine zj (zh c_107 hf (vs := [ptr x_c_b0 0]) rfl) rfl hf rfl rfl (hcl10) ?_
 rintro e w' ⟨he, hO'⟩
 refine ⟨_, he, fun a hf => ?_⟩
 have hO := hch10.back rfl hO' rfl
 refine S.op tb ?_ hf hO hm
 refine re_ rfl fun a w hf hO hm => ?_
 obtain rfl := Option.some.inj hm
 exact zi Tryz.results169 hf (.tmp rfl (.tmp rfl .nil)) ⟨rfl, hO⟩

theorem zk6 (x_r : params_reader) (R : api_Param × Bool × scan_Scanner) (w0 : World) (hG : zt w0) {x_r_b0 : Nat} {F : List Nat} (hF : zu F) (hO : Dk.Own w0 F w0 [.blk x_r_b0 [str x_r.Scanner.f_s, int x_r.Scanner.f_at] 148]) (hm : zac x_r = some R) :
    Calls Tryz.prog 114 #[.agg #[ptr x_r_b0 0]] w0 fun e w' => e = .returned (.tuple #[.agg #[str R.1.Name, str R.1.Value], .bool R.2.1]) ∧ Dk.Own w0 F w' [.blk x_r_b0 [str R.2.2.f_s, int R.2.2.f_at] 148] := by
 rw [zac] at hm
 refine S.enter tb Tryz.func114 rfl Tryz.ntmps114 rfl ?_ hO hm
 refine bo rfl fun b1 => ?_
 refine al zpc rfl fun b2 => ?_
 refine ld 1 rfl rfl ?_
 refine rw_ rfl fun a w hf hO hm => ?_
 obtain ⟨r4, hr4, hm⟩ := ob hm
 have hch5 := (show Dk.Own w0 F _ ([.blk x_r_b0 [str x_r.Scanner.f_s, int x_r.Scanner.f_at] 148] ++ [.blk b2 [str [], str []] 112, .blk b1 [ptr x_r_b0 0] 157]) from hO.choose [2, 0, 1] rfl)
 have hfar5 := Dk.Own.far hch5 rfl hF hG.size
 have hlend5 := hch5.lend (S := []) rfl trivial
 have hcl5 := zcd x_r.Scanner r4 _ (hG.own hF hO) hfar5 hlend5 hr4
 refine zj (zh zsB hf (vs := [ptr x_r_b0 0]) rfl) rfl hf rfl rfl (hcl5) ?_
 rintro e w' ⟨he, hO'⟩
 refine ⟨_, he, fun a hf => ?_⟩
 have hO := hch5.back rfl hO' rfl
 refine S.op tb ?_ hf hO hm
 refine jv 1 [1, 2, 4] [1, 2] (fun J E L => ∃ (t10 : Bool) (s11 : Str) (i12 : Int), J ((20, .bool t10) :: E) (.blk x_r_b0 [str s11, int i12] 148 :: L) (zbf r4 t10 s11 i12)) rfl ?_ ?_
 refine br rfl (fun hc7 => ?_) fun hc7 => ?_
 exact en rfl fun _ _ j => ⟨true, r4.2.2.f_s, r4.2.2.f_at, j rfl⟩
 refine ld 2 rfl rfl ?_
 refine rw_ rfl fun a w hf hO hm => ?_
 obtain ⟨r8, hr8, hm⟩ := ob hm
 have hch9 := (show Dk.Own w0 F _ ([.blk x_r_b0 [str r4.2.2.f_s, int r4.2.2.f_at] 148] ++ [.blk b2 [str [], str []] 112, .blk b1 [ptr x_r_b0 0] 157]) from hO)
 have hfar9 := Dk.Own.far hch9 rfl hF hG.size
 have hlend9 := hch9.lend (S := []) rfl trivial
 have hcl9 := zE r4.2.2 61 r8 _ (hG.own hF hO) hfar9 hlend9 hr8
 refine zj (zh zmH hf (vs := [ptr x_r_b0 0, zak 61]) rfl) rfl hf rfl rfl (hcl9) ?_
 rintro e w' ⟨he, hO'⟩
 refine ⟨_, he, fun a hf => ?_⟩
 have hO := hch9.back rfl hO' rfl
 refine S.op tb ?_ hf hO hm
 refine kn (b' := false) hc7 rfl ?_
 exact en rfl fun _ _ j => ⟨!r8.1, r8.2.f_s, r8.2.f_at, j rfl⟩
 rintro a w ⟨t10, s11, i12, hf, hO, hm⟩
 rw [zbf] at hm
 refine S.co tb ?_ hf hO hm
 refine br rfl (fun hc13 => ?_) fun hc13 => ?_
 refine vl rfl rfl (fun a w hf hO => zB (vs := []) (v := .agg #[str [], str []]) hf rfl (by kernel_rfl)) ?_
 refine st 1 rfl rfl ?_
 refine re_ rfl fun a w hf hO hm => ?_
 obtain rfl := Option.some.inj hm
 exact zi Tryz.results114 hf (.cell rfl (zp (n := 2) (vs := [str [], str []]) zni ziW rfl ((hO.blkSees (i := 1) rfl).cells (o := 0) (n := 2) rfl)) (.tmp rfl .nil)) ⟨rfl, (hO.sub (.cons_cons _ (.cons _ (.cons _ .slnil))))⟩
 refine ld 2 rfl rfl ?_
 refine rw_ rfl fun a w hf hO hm => ?_
 obtain ⟨r16, hr16, hm⟩ := ob hm
 have hch17 := (show Dk.Own w0 F _ ([.blk x_r_b0 [str s11, int i12] 148] ++ [.blk b2 [str [], str []] 112, .blk b1 [ptr x_r_b0 0] 157]) from hO)
 have hfar17 := Dk.Own.far hch17 rfl hF hG.size
 have hlend17 := hch17.lend (S := []) rfl trivial
 have hcl17 := zpC (⟨s11, i12⟩ : scan_Scanner) r16 _ (hG.own hF hO) hfar17 hlend17 hr16
 refine zj (zh c_169 hf (vs := [ptr x_r_b0 0]) rfl) rfl hf rfl rfl (hcl17) ?_
 rintro e w' ⟨he, hO'⟩
 refine ⟨_, he, fun a hf => ?_⟩
 have hO := hch17.back rfl hO' rfl
 refine S.op tb ?_ hf hO hm
 refine vl rfl rfl (fun a w hf hO => zB (vs := [(0, str r4.1), (1, str r16.1)]) (v := .agg #[str r4.1, str r16.1]) hf rfl (by kernel_rfl)) ?_
 refine st 1 rfl rfl ?_
 refine re_ rfl fun a w hf hO hm => ?_
 obtain rfl := Option.some.inj hm
 exact zi Tryz.results114 hf (.cell rfl (zp (n := 2) (vs := [str r4.1, str r16.1]) zni ziW rfl ((hO.blkSees (i := 1) rfl).cells (o := 0) (n := 2) rfl)) (.tmp rfl .nil)) ⟨rfl, (hO.sub (.cons_cons _ (.cons _ (.cons _ .slnil))))⟩

theorem zgB (x_c : scan_Scanner) (R : Str × scan_Scanner) (w0 : World) (hG : zt w0) {x_c_b0 : Nat} {F : List Nat} (hF : zu F) (hO : Dk.Own w0 F w0 [.blk x_c_b0 [str x_c.f_s, int x_c.f_at] 148]) (hm : zaF x_c = some R) :
    Calls Tryz.prog 170 #[ptr x_c_b0 0] w0 fun e w' => e = .returned (str R.1) ∧ Dk.Own w0 F w' [.blk x_c_b0 [str R.2.f_s, int R.2.f_at] 148] := by
 rw [zaF] at hm
 refine S.enter tb Tryz.func170 rfl Tryz.ntmps170 rfl ?_ hO hm
 refine rw_ rfl fun a w hf hO hm => ?_
 obtain ⟨r2, hr2, hm⟩ := ob hm
 have hch3 := (show Dk.Own w0 F _ ([.blk x_c_b0 [str x_c.f_s, int x_c.f_at] 148] ++ []) from hO)
 have hfar3 := Dk.Own.far hch3 rfl hF hG.size
 have hlend3 := hch3.lend (S := []) rfl trivial
 have hcl3 := zdj x_c zdm r2 _ (hG.own hF hO) hfar3 hlend3 c_217 (fun y0 r w hG h => ze5 (zjT y0 r w hG h)) hr2
 refine zj (zh zt4 hf (vs := [ptr x_c_b0 0, .func (.func 217) #[] #[]]) rfl) rfl hf rfl rfl (hcl3) ?_
 rintro e w' ⟨he, hO'⟩
 refine ⟨_, he, fun a hf => ?_⟩
 have hO := hch3.back rfl hO' rfl
 refine S.op tb ?_ hf hO hm
 refine re_ rfl fun a w hf hO hm => ?_
 obtain rfl := Option.some.inj hm
 exact zi Tryz.results170 hf (.tmp rfl .nil) ⟨rfl, hO⟩

theorem zkc (x_r : params_reader) (R : Bool × scan_Scanner) (w0 : World) (hG : zt w0) {x_r_b0 : Nat} {F : List Nat} (hF : zu F) (hO : Dk.Own w0 F w0 [.blk x_r_b0 [str x_r.Scanner.f_s, int x_r.Scanner.f_at] 148]) (hm : zba x_r = some R) :
    Calls Tryz.prog 115 #[.agg #[ptr x_r_b0 0]] w0 fun e w' => e = .returned (.bool R.1) ∧ Dk.Own w0 F w' [.blk x_r_b0 [str R.2.f_s, int R.2.f_at] 148] := by
 rw [zba] at hm
 refine S.enter tb Tryz.func115 rfl Tryz.ntmps115 rfl ?_ hO hm
 refine bo rfl fun b1 => ?_
 refine ld 0 rfl rfl ?_
 refine rw_ rfl fun a w hf hO hm => ?_
 obtain ⟨r3, hr3, hm⟩ := ob hm
 have hch4 := (show Dk.Own w0 F _ ([.blk x_r_b0 [str x_r.Scanner.f_s, int x_r.Scanner.f_at] 148] ++ [.blk b1 [ptr x_r_b0 0] 157]) from hO.choose [1, 0] rfl)
 have hfar4 := Dk.Own.far hch4 rfl hF hG.size
 have hlend4 := hch4.lend (S := []) rfl trivial
 have hcl4 := zgB x_r.Scanner r3 _ (hG.own hF hO) hfar4 hlend4 hr3
 refine zj (zh c_170 hf (vs := [ptr x_r_b0 0]) rfl) rfl hf rfl rfl (hcl4) ?_
 rintro e w' ⟨he, hO'⟩
 refine ⟨_, he, fun a hf => ?_⟩
 have hO := hch4.back rfl hO' rfl
 refine S.op tb ?_ hf hO hm
 refine ld 1 rfl rfl ?_
 refine rw_ rfl fun a w hf hO hm => ?_
 obtain ⟨r6, hr6, hm⟩ := ob hm
 have hch7 := (show Dk.Own w0 F _ ([.blk x_r_b0 [str r3.2.f_s, int r3.2.f_at] 148] ++ [.blk b1 [ptr x_r_b0 0] 157]) from hO)
 have hfar7 := Dk.Own.far hch7 rfl hF hG.size
 have hlend7 := hch7.lend (S := []) rfl trivial
 have hcl7 := zE r3.2 59 r6 _ (hG.own hF hO) hfar7 hlend7 hr6
 refine zj (zh zmH hf (vs := [ptr x_r_b0 0, zak 59]) rfl) rfl hf rfl rfl (hcl7) ?_
 rintro e w' ⟨he, hO'⟩
 refine ⟨_, he, fun a hf => ?_⟩
 have hO := hch7.back rfl hO' rfl
 refine S.op tb ?_ hf hO hm
 refine br rfl (fun hc9 => ?_) fun hc9 => ?_
 refine re_ rfl fun a w hf hO hm => ?_
 obtain rfl := Option.some.inj hm
 exact zi Tryz.results115 hf (.tmp rfl .nil) ⟨rfl, (hO.sub (.cons_cons _ (.cons _ .slnil)))⟩
 refine ld 1 rfl rfl ?_
 refine rw_ rfl fun a w hf hO hm => ?_
 obtain ⟨r12, hr12, hm⟩ := ob hm
 have hch13 := (show Dk.Own w0 F _ ([.blk x_r_b0 [str r6.2.f_s, int r6.2.f_at] 148] ++ [.blk b1 [ptr x_r_b0 0] 157]) from hO)
 have hfar13 := Dk.Own.far hch13 rfl hF hG.size
 have hlend13 := hch13.lend (S := []) rfl trivial
 have hcl13 := zgB r6.2 r12 _ (hG.own hF hO) hfar13 hlend13 hr12
 refine zj (zh c_170 hf (vs := [ptr x_r_b0 0]) rfl) rfl hf rfl rfl (hcl13) ?_
 rintro e w' ⟨he, hO'⟩
 refine ⟨_, he, fun a hf => ?_⟩
 have hO := hch13.back rfl hO' rfl
 refine S.op tb ?_ hf hO hm
 refine re_ rfl fun a w hf hO hm => ?_
 obtain rfl := Option.some.inj hm
 exact zi Tryz.results115 hf (.tmp rfl .nil) ⟨rfl, (hO.sub (.cons_cons _ (.cons _ .slnil)))⟩

theorem zou (x_s : Str) (R : List api_Param × Int) (w0 : World) (hG : zt w0) (hm : zdW x_s = some R) :
    Calls Tryz.prog 67 #[str x_s] w0 fun e w' => ∃ (p0 : Option Addr) (c0 : Nat), e = .returned (.tuple #[.slice p0 R.1.length c0, int R.2]) ∧ Dk.Own w0 [] w' [.row (.slice p0 R.1.length c0) 112 2 R.1.length (cells zx R.1)] := by
 rw [zdW] at hm
 have hF : zu [] := zf
 have hO : Dk.Own w0 [] w0 [] := Dk.Own.refl w0
 refine S.enter tb Tryz.func67 rfl Tryz.ntmps67 rfl ?_ hO hm
 refine nl 112 2 ?_
 refine rw_ rfl fun a w hf hO hm => ?_
 obtain ⟨r2, hr2, hm⟩ := ob hm
 refine zj (zh c_58 hf (vs := [str x_s]) rfl) rfl hf rfl rfl (zjo x_s r2 _ (hG.own hF hO) hr2) ?_
 rintro e w' ⟨b3, he, hO'⟩
 refine ⟨_, he, fun a hf => ?_⟩
 have hO := hO.call hO' (by simp [Res.shared])
 refine S.op tb ?_ hf hO hm
 refine vl rfl rfl (fun a w hf hO => zB (vs := [(0, ptr b3 0)]) (v := .agg #[ptr b3 0]) hf rfl (by kernel_rfl)) ?_
 refine al al_157 rfl fun b4 => ?_
 refine st 0 rfl rfl ?_
 refine nl 112 2 ?_
 refine ch [0, 2, 1, 3] rfl rfl ?_
 refine lv [4] [2, 3] (fun J E L k => ∃ (p7 : Option Addr) (c8 : Nat) (l9 : List api_Param) (s10 : Str) (i11 : Int), J ((5, .slice p7 l9.length c8) :: E) (.row (.slice p7 l9.length c8) 112 2 l9.length (cells zx l9) :: .blk b3 [str s10, int i11] 148 :: L) (zaT k l9 s10 i11)) rfl (fun _ _ j => ⟨none, 0, [], r2.f_s, r2.f_at, j rfl⟩) ?_
 rintro n1 a w ⟨p7, c8, l9, s10, i11, hf, hO, hm⟩
 obtain _ | n1 := n1
 rw [zaT] at hm
 cases hm
 rw [zaT] at hm
 refine S.co tb ?_ hf hO hm
 refine ld 2 rfl rfl ?_
 refine rw_ rfl fun a w hf hO hm => ?_
 obtain ⟨r12, hr12, hm⟩ := ob hm
 have hch13 := (show Dk.Own w0 [] _ ([.blk b3 [str s10, int i11] 148] ++ [.row (.slice p7 l9.length c8) 112 2 l9.length (cells zx l9), .blk b4 [ptr b3 0] 157, .row (.slice none 0 0) 112 2 0 (cells zx [])]) from hO.choose [1, 0, 2, 3] rfl)
 have hfar13 := Dk.Own.far hch13 rfl hF hG.size
 have hlend13 := hch13.lend (S := []) rfl trivial
 have hcl13 := zk6 ((⟨(⟨s10, i11⟩ : scan_Scanner)⟩ : params_reader)) r12 _ (hG.own hF hO) hfar13 hlend13 hr12
 refine zj (zh c_114 hf (vs := [.agg #[ptr b3 0]]) rfl) rfl hf rfl rfl (hcl13) ?_
 rintro e w' ⟨he, hO'⟩
 refine ⟨_, he, fun a hf => ?_⟩
 have hO := hch13.back rfl hO' rfl
 refine S.op tb ?_ hf hO hm
 refine al zpc rfl fun b14 => ?_
 refine st 0 rfl rfl ?_
 refine br rfl (fun hc17 => ?_) fun hc17 => ?_
 refine nl 112 2 ?_
 refine re_ rfl fun a w hf hO hm => ?_
 obtain rfl := Option.some.inj hm
 exact zi Tryz.results67 hf (.tmp rfl (.tmp rfl .nil)) ⟨none, 0, rfl, (hO.sub (.cons_cons _ (.cons _ (.cons _ (.cons _ (.cons _ (.cons _ .slnil)))))))⟩
 refine ld 0 rfl rfl ?_
 refine rw_ rfl fun a w hf hO hm => ?_
 refine zm (vs := [(0, .agg #[str r12.1.Name, str r12.1.Value])]) (cs := [str r12.1.Name, str r12.1.Value]) (e := 112) (sz := 2) hf rfl rfl (fun w => by kernel_rfl) rfl rfl hO fun a b20 w hf hO => ?_
 refine S.op tb ?_ hf hO hm
 refine rw_ rfl fun a w hf hO hm => ?_
 obtain ⟨hg23, hm⟩ := og hm
 refine zae zwa (enc := zx) (xs := l9) (ys := [r12.1]) (i := 3) (fun _ => rfl) rfl (hO.rowSees (i := 0) rfl) (by simp [cells, zx, Value.oneCell']) hg23 hf rfl rfl rfl hO fun a p21 c22 w hf hO => ?_
 refine S.op tb ?_ hf hO hm
 refine ld 4 rfl rfl ?_
 refine cl ztx rfl (fun r25 w hr25 hO => za5 r12.2.2 r25 _ (hG.own hF hO) (hO.blkSees (i := 2) rfl) hr25) fun r25 hr25 => ?_
 refine br rfl (fun hc27 => ?_) fun hc27 => ?_
 refine re_ rfl fun a w hf hO hm => ?_
 obtain rfl := Option.some.inj hm
 exact zi Tryz.results67 hf (.tmp rfl (.tmp rfl .nil)) ⟨p21, c22, rfl, (hO.sub (.cons _ (.cons _ (.cons _ (.cons_cons _ (.cons _ (.cons _ .slnil)))))))⟩
 refine ld 4 rfl rfl ?_
 refine rw_ rfl fun a w hf hO hm => ?_
 obtain ⟨r30, hr30, hm⟩ := ob hm
 have hch31 := (show Dk.Own w0 [] _ ([.blk b3 [str r12.2.2.f_s, int r12.2.2.f_at] 148] ++ [.row (.slice (some ⟨b20, 0, none⟩) ([r12.1].length) 1) 112 2 ([r12.1].length) (cells zx [r12.1]), .blk b14 [str r12.1.Name, str r12.1.Value] 112, .row (.slice p21 ((l9 ++ [r12.1]).length) c22) 112 2 ((l9 ++ [r12.1]).length) (cells zx (l9 ++ [r12.1])), .blk b4 [ptr b3 0] 157, .row (.slice none 0 0) 112 2 0 (cells zx [])]) from hO.choose [2, 0, 1, 3, 4, 5] rfl)
 have hfar31 := Dk.Own.far hch31 rfl hF hG.size
 have hlend31 := hch31.lend (S := []) rfl trivial
 have hcl31 := zkc (⟨r12.2.2⟩ : params_reader) r30 _ (hG.own hF hO) hfar31 hlend31 hr30
 refine zj (zh c_115 hf (vs := [.agg #[ptr b3 0]]) rfl) rfl hf rfl rfl (hcl31) ?_
 rintro e w' ⟨he, hO'⟩
 refine ⟨_, he, fun a hf => ?_⟩
 have hO := hch31.back rfl hO' rfl
 refine S.op tb ?_ hf hO hm
 refine br rfl (fun hc33 => ?_) fun hc33 => ?_
 refine nl 112 2 ?_
 refine re_ rfl fun a w hf hO hm => ?_
 obtain rfl := Option.some.inj hm
 exact zi Tryz.results67 hf (.tmp rfl (.tmp rfl .nil)) ⟨none, 0, rfl, (hO.sub (.cons_cons _ (.cons _ (.cons _ (.cons _ (.cons _ (.cons _ (.cons _ .slnil))))))))⟩
 exact ec [3, 0, 4, 5] rfl rfl rfl fun _ _ j => ⟨_, Nat.lt_succ_self _, p21, c22, l9 ++ [r12.1], r30.2.f_s, r30.2.f_at, j rfl⟩

theorem zqN (x_name : Str) (x_l : List api_Param) (R : Str × Bool) (w0 : World) (hG : zt w0) {x_l_p0 : Option Addr} {x_l_c0 : Nat} (hs0 : zy w0 x_l_p0 (cells zx x_l)) (hc0 : x_l.length ≤ x_l_c0) (hm : zic x_name x_l = some R) :
    Calls Tryz.prog 68 #[str x_name, .slice x_l_p0 x_l.length x_l_c0] w0 (Ret w0 (fun R => .tuple #[str R.1, .bool R.2]) R) := by
 rw [zic] at hm
 have hF : zu [] := zf
 have hO : Dk.Own w0 [] w0 [] := Dk.Own.refl w0
 have hO := hO.addShr hs0 (by simp [Res.shared])
 refine S.enter tb Tryz.func68 rfl Tryz.ntmps68 rfl ?_ hO hm
 refine lv [0, 8, 9] [0] (fun J E L k => ∃ (i3 : Int), J ((10, int i3) :: E) (L) (zb5 x_name x_l k i3)) rfl (fun _ _ j => ⟨0, j rfl⟩) ?_
 rintro n1 a w ⟨i3, hf, hO, hm⟩
 obtain _ | n1 := n1
 rw [zb5] at hm
 cases hm
 rw [zb5] at hm
 refine S.co tb ?_ hf hO hm
 refine br rfl (fun hc5 => ?_) fun hc5 => ?_
 refine rw_ rfl fun a w hf hO hm => ?_
 obtain ⟨x7, hx7, hm⟩ := ob hm
 obtain ⟨b8, o9, hix7, hSx7⟩ := zaK (enc := zx) (sz := 2) (xs := x_l) 73 Tryz.underlying73 ziW (by decide) (fun _ => rfl) (hO.sees (i := 0) rfl) hx7
 refine zS (zk hix7 hf rfl rfl) rfl hf rfl rfl fun a hf => ?_
 refine S.op tb ?_ hf hO hm
 refine vl rfl rfl (fun a w hf hO => zo (o := 0) (vs := [str x7.Name, str x7.Value]) zni ziW (hSx7 _ (hO.sees (i := 0) rfl)) rfl rfl hf rfl) ?_
 refine al zpc rfl fun b10 => ?_
 refine st 0 rfl rfl ?_
 refine ld 0 rfl rfl ?_
 refine cl zp0 rfl (fun r12 w hr12 hO => zbZ x7.Name x_name r12 _ (hG.own hF hO) hr12) fun r12 hr12 => ?_
 refine br rfl (fun hc14 => ?_) fun hc14 => ?_
 refine ld 0 rfl rfl ?_
 exact rt Tryz.results68 rfl
 refine bi rfl fun i17 hi17 => ?_
 exact ec [1] rfl rfl rfl fun _ _ j => ⟨_, Nat.lt_succ_self _, i17, j rfl⟩
 exact rt Tryz.results68 rfl

theorem zl7 (x_s : Str) (R : List api_Param × Int) (w0 : World) (hG : zt w0) (hm : zcr x_s = some R) :
    Calls Tryz.prog 36 #[str x_s] w0 fun e w' => ∃ (p0 : Option Addr) (c0 : Nat), e = .returned (.tuple #[.slice p0 R.1.length c0, int R.2]) ∧ Dk.Own w0 [] w' [.row (.slice p0 R.1.length c0) 112 2 R.1.length (cells zx R.1)] := by
 rw [zcr] at hm
 have hF : zu [] := zf
 have hO : Dk.Own w0 [] w0 [] := Dk.Own.refl w0
 refine S.enter tb Tryz.func36 rfl Tryz.ntmps36 rfl ?_ hO hm
 refine nl 112 2 ?_
 refine rw_ rfl fun a w hf hO hm => ?_
 obtain ⟨r2, hr2, hm⟩ := ob hm
 refine zj (zh c_67 hf (vs := [str x_s]) rfl) rfl hf rfl rfl (zou x_s r2 _ (hG.own hF hO) hr2) ?_
 rintro e w' ⟨p3, c4, he, hO'⟩
 refine ⟨_, he, fun a hf => ?_⟩
 have hO := hO.call hO' (by simp [Res.shared])
 refine S.op tb ?_ hf hO hm
 refine br rfl (fun hc7 => ?_) fun hc7 => ?_
 refine nl 112 2 ?_
 refine re_ rfl fun a w hf hO hm => ?_
 obtain rfl := Option.some.inj hm
 exact zi Tryz.results36 hf (.tmp rfl (.tmp rfl .nil)) ⟨none, 0, rfl, (hO.sub (.cons_cons _ (.cons _ (.cons _ .slnil))))⟩
 refine lv [4, 18, 19] [0, 1] (fun J E L k => ∃ (i11 : Int), J ((20, int i11) :: E) (L) (zR r2 k i11)) rfl (fun _ _ j => ⟨0, j rfl⟩) ?_
 rintro n1 a w ⟨i11, hf, hO, hm⟩
 obtain _ | n1 := n1
 rw [zR] at hm
 cases hm
 rw [zR] at hm
 refine S.co tb ?_ hf hO hm
 refine br rfl (fun hc13 => ?_) fun hc13 => ?_
 refine rw_ rfl fun a w hf hO hm => ?_
 obtain ⟨x15, hx15, hm⟩ := ob hm
 obtain ⟨b16, o17, hix15, hSx15, hAx15⟩ := zaw (enc := zx) (sz := 2) (xs := r2.1) 73 Tryz.underlying73 ziW (by decide) (fun _ => rfl) hO (i := 0) rfl hx15
 refine zS (zk hix15 hf rfl rfl) rfl hf rfl rfl fun a hf => ?_
 refine S.op tb ?_ hf hO hm
 refine vl rfl rfl (fun a w hf hO => zo (o := 0) (vs := [str x15.Name, str x15.Value]) zni ziW (hSx15 _ (hO.rowSees (i := 0) rfl)) rfl rfl hf rfl) ?_
 refine al zpc rfl fun b18 => ?_
 refine st 0 rfl rfl ?_
 refine rc_ rfl fun a w hf hO hm => ?_
 refine zd1 (by kernel_rfl) (by kernel_rfl) hO ?_
 refine zn (fun w hO => zw zst hf rfl) rfl hf rfl rfl fun a hf => ?_
 refine zn (fun w hO => ze (o := 0) z7 (hO.blkSees (i := 0) rfl) rfl hf rfl) rfl hf rfl rfl fun a hf => ?_
 refine zn (fun w hO => zl hf rfl) rfl hf rfl rfl fun a hf => ?_
 refine zn (fun w hO => zl hf rfl) rfl hf rfl rfl fun a hf => ?_
 obtain ⟨l20, hl20, hm⟩ := ob hm
 obtain ⟨p21, c22, hrl20, hVl20, hCl20, _⟩ := ztS (enc := zx) (xs := r2.1) 73 Tryz.underlying73 ziW (fun _ => rfl) (hO.rowSees (i := 1) rfl) (hO.rowCap (i := 1) rfl) hl20
 refine zn (fun w hO => zlI Tryz.underlying73 hrl20 hf rfl rfl) rfl hf rfl rfl fun a hf => ?_
 obtain ⟨r23, hr23, hm⟩ := ob hm
 refine ztn (fun w hO => zh c_68 hf (vs := [str x15.Name, .slice p21 l20.length c22]) rfl) rfl hf rfl rfl (fun w hO => (zqN x15.Name l20 r23 _ (hG.own hF hO) (hVl20 _ (hO.rowSees (i := 1) rfl)) hCl20 hr23).mono fun e w' ⟨he, hb⟩ => ⟨he, hO.grow hb⟩) fun a hf => ?_
 refine zn (fun w hO => zl hf rfl) rfl hf rfl rfl fun a hf => ?_
 refine zn (fun w hO => zfC hf rfl rfl) rfl hf rfl rfl fun a hf => ?_
 refine zn (fun w hO => zfC hf rfl rfl) rfl hf rfl rfl fun a hf => ?_
 refine zn (fun w hO => z8 hf rfl) rfl hf rfl rfl fun a hf => ?_
 refine zn (fun w hO => z8 hf rfl) rfl hf rfl rfl fun a hf => ?_
 refine wpQuiet_nil ?_
 intro w hO
 refine S.no tb ?_ hf hO hm
 refine br rfl (fun hc26 => ?_) fun hc26 => ?_
 refine nl 112 2 ?_
 refine re_ rfl fun a w hf hO hm => ?_
 obtain rfl := Option.some.inj hm
 exact zi Tryz.results36 hf (.tmp rfl (.tmp rfl .nil)) ⟨none, 0, rfl, (hO.sub (.cons_cons _ (.cons _ (.cons _ (.cons _ .slnil)))))⟩
 refine bi rfl fun i29 hi29 => ?_
 exact ec [1, 2] rfl rfl rfl fun _ _ j => ⟨_, Nat.lt_succ_self _, i29, j rfl⟩
 refine re_ rfl fun a w hf hO hm => ?_
 obtain rfl := Option.some.inj hm
 exact zi Tryz.results36 hf (.tmp rfl (.tmp rfl .nil)) ⟨p3, c4, rfl, (hO.sub (.cons_cons _ (.cons _ .slnil)))⟩

end Go.Proofs
end
