/-
  Walks, written by a program (wip/gen): what its model says, the function returns; what was there before is as it was.
  Walks, written by a program (wip/gen): what its model says, the function returns; what was there before is as it was.
  Walks, written by a program (wip/gen): what its model says, the function returns; what was there before is as it was.
-/
import Derived.Test.YtinncambjiffoaaGreatDoorLib
import Derived.Test.YtinncambjiffoaaGreatDoorW4
import Derived.Test.YtinncambjiffoaaGreatDoorW11
import Derived.Test.YtinncambjiffoaaGreatDoorW8
section
set_option linter.unusedVariables false
set_option maxHeartbeats 1000000
set_option linter.unusedSimpArgs false
set_option maxRecDepth 100000
namespace Go.Proofs
open Go.Dk Go.Dm Go.RowKit

theorem zru (x_client : Str) (x_l : List api_Field) (R : List api_Field) (w0 : World) (hG : zaH w0) {x_l_p0 : Option Addr} {x_l_c0 : Nat} (hs0 : zD w0 x_l_p0 (cells za x_l)) (hc0 : x_l.length ≤ x_l_c0) (hm : zhp x_client x_l = some R) :
    Calls Tryz.prog 23 #[str x_client, .slice x_l_p0 x_l.length x_l_c0] w0 fun e w' => ∃ (p0 : Option Addr) (c0 : Nat), e = .returned (.slice p0 R.length c0) ∧ Dk.Own w0 [] w' [.row (.slice p0 R.length c0) 54 2 R.length (cells za R)] := by
 rw [zhp] at hm
 have hF : zs [] := ze
 have hO : Dk.Own w0 [] w0 [] := Dk.Own.refl w0
 have hO := hO.addShr hs0 (by simp [Res.shared])
 refine S.enter tb Tryz.func23 rfl Tryz.ntmps23 rfl ?_ hO hm
 refine nl 54 2 ?_
 refine jv 0 [1] [0, 1] (fun J E L => ∃ (s5 : Str), J ((0, str s5) :: E) (L) (zev x_l s5)) rfl ?_ ?_
 refine cl c_50 rfl (fun r2 w hr2 hO => zt1 x_client r2 _ (hG.own hF hO) hr2) fun r2 hr2 => ?_
 refine br rfl (fun hc4 => ?_) fun hc4 => ?_
 exact en rfl fun _ _ j => ⟨[117, 110, 107, 110, 111, 119, 110], j rfl⟩
 exact en rfl fun _ _ j => ⟨x_client, j rfl⟩
 rintro a w ⟨s5, hf, hO, hm⟩
 rw [zev] at hm
 refine S.co tb ?_ hf hO hm
 refine rw_ rfl fun a w hf hO hm => ?_
 obtain ⟨r6, hr6, hm⟩ := ob hm
 refine zo (zj zta hf (vs := [.slice x_l_p0 x_l.length x_l_c0]) rfl) rfl hf rfl rfl (zgk x_l r6 _ (hG.own hF hO).1 (hO.sees (i := 1) rfl) hc0 hr6) ?_
 rintro e w' ⟨b7, p8, c9, he, hO'⟩
 refine ⟨_, he, fun a hf => ?_⟩
 have hO := hO.call hO' (by simp [Res.shared])
 refine S.op tb ?_ hf hO hm
 refine rw_ rfl fun a w hf hO hm => ?_
 obtain ⟨r11, hr11, hm⟩ := ob hm
 have hch14 := (show Dk.Own w0 [] _ ([.blk b7 [.slice p8 r6.f_l.length c9] 107, .row (.slice p8 r6.f_l.length c9) 54 2 r6.f_l.length (cells za r6.f_l)] ++ [.row (.slice none 0 0) 54 2 0 (cells za []), .shr x_l_p0 (cells za x_l)]) from hO)
 have hfar14 := Dk.Own.far hch14 rfl hF hG.size
 have hlend14 := hch14.lend (S := []) rfl trivial
 have hcl14 := zhv r6 [88, 45, 70, 111, 114, 119, 97, 114, 100, 101, 100, 45, 70, 111, 114] s5 r11 _ (hG.own hF hO).1 hfar14 hlend14 hr11
 refine zo (zj c_46 hf (vs := [ptr b7 0, str [88, 45, 70, 111, 114, 119, 97, 114, 100, 101, 100, 45, 70, 111, 114], str s5]) rfl) rfl hf rfl rfl (hcl14) ?_
 rintro e w' ⟨p12, c13, he, hO'⟩
 refine ⟨_, he, fun a hf => ?_⟩
 have hO := hch14.back rfl hO' rfl
 refine S.op tb ?_ hf hO hm
 refine rw_ rfl fun a w hf hO hm => ?_
 obtain ⟨r16, hr16, hm⟩ := ob hm
 refine zo (zj ztV hf (vs := [ptr b7 0]) rfl) rfl hf rfl rfl (zcJ r11 r16 _ (hG.own hF hO).1 (hO.blkSees (i := 0) rfl) (hO.rowSees (i := 1) rfl) (hO.rowCap (i := 1) rfl) hr16) ?_
 rintro e w' ⟨p17, c18, he, hO'⟩
 refine ⟨_, he, fun a hf => ?_⟩
 have hO := hO.call hO' (by simp [Res.shared])
 refine S.op tb ?_ hf hO hm
 refine re_ rfl fun a w hf hO hm => ?_
 obtain rfl := Option.some.inj hm
 exact zh Tryz.results23 hf (.tmp rfl .nil) ⟨p17, c18, rfl, (hO.sub (.cons_cons _ (.cons _ (.cons _ (.cons _ (.cons _ .slnil))))))⟩

theorem zmS (x_a0 : api_Env) (x_a1 : Int) (x_a2 : api_Head) (R : api_Head × Int) (w0 : World) (hG : zaH w0) {x_a0_p0 : Option Addr} {x_a0_c0 : Nat} (hs0 : zD w0 x_a0_p0 (cells zb x_a0.Domains)) (hc0 : x_a0.Domains.length ≤ x_a0_c0) {x_a0_p1 : Option Addr} {x_a0_c1 : Nat} (hs1 : zD w0 x_a0_p1 (cells zb x_a0.Locations)) (hc1 : x_a0.Locations.length ≤ x_a0_c1) {x_a2_p2 : Option Addr} {x_a2_c2 : Nat} (hs2 : zD w0 x_a2_p2 (cells za x_a2.Fields)) (hc2 : x_a2.Fields.length ≤ x_a2_c2) (hm : ze0 x_a0 x_a1 x_a2 = some R) :
    Calls Tryz.prog 8 #[.agg #[str x_a0.Client, str x_a0.Host, str x_a0.Scheme, str x_a0.By, .slice x_a0_p0 x_a0.Domains.length x_a0_c0, .slice x_a0_p1 x_a0.Locations.length x_a0_c1], int x_a1, .agg #[int x_a2.Kind, str x_a2.Method, str x_a2.Target, int x_a2.Code, str x_a2.Reason, int x_a2.Minor, .slice x_a2_p2 x_a2.Fields.length x_a2_c2]] w0 fun e w' => ∃ (p0 : Option Addr) (c0 : Nat), e = .returned (.tuple #[.agg #[int R.1.Kind, str R.1.Method, str R.1.Target, int R.1.Code, str R.1.Reason, int R.1.Minor, .slice p0 R.1.Fields.length c0], int R.2]) ∧ Dk.Own w0 [] w' [.row (.slice p0 R.1.Fields.length c0) 54 2 R.1.Fields.length (cells za R.1.Fields)] := by
 rw [ze0] at hm
 have hF : zs [] := ze
 have hO : Dk.Own w0 [] w0 [] := Dk.Own.refl w0
 have hO := hO.addShr hs0 (by simp [Res.shared])
 have hO := hO.addShr hs1 (by simp [Res.shared])
 have hO := hO.addShr hs2 (by simp [Res.shared])
 refine S.enter tb Tryz.func8 rfl Tryz.ntmps8 rfl ?_ hO hm
 refine bo rfl fun b1 => ?_
 refine bo rfl fun b2 => ?_
 refine al zne rfl fun b3 => ?_
 refine nl 54 2 ?_
 refine jv 1 [1, 3, 5, 6] [0, 1, 2, 3, 4, 5, 6] (fun J E L => ∃ (t9 : Bool), J ((26, .bool t9) :: E) (L) (zbR x_a0 x_a1 x_a2 t9)) rfl ?_ ?_
 refine ld 2 rfl rfl ?_
 refine br rfl (fun hc5 => ?_) fun hc5 => ?_
 refine ld 2 rfl rfl ?_
 refine br rfl (fun hc6 => ?_) fun hc6 => ?_
 exact en rfl fun _ _ j => ⟨true, j rfl⟩
 refine br rfl (fun hc7 => ?_) fun hc7 => ?_
 exact en rfl fun _ _ j => ⟨!(x_a1 == 1), j rfl⟩
 exact en rfl fun _ _ j => ⟨false, j rfl⟩
 refine br rfl (fun hc8 => ?_) fun hc8 => ?_
 exact en rfl fun _ _ j => ⟨!(x_a1 == 1), j rfl⟩
 exact en rfl fun _ _ j => ⟨false, j rfl⟩
 rintro a w ⟨t9, hf, hO, hm⟩
 rw [zbR] at hm
 refine S.co tb ?_ hf hO hm
 refine br rfl (fun hc10 => ?_) fun hc10 => ?_
 refine vl rfl rfl (fun a w hf hO => zt (vs := []) (v := .agg #[int 0, str [], str [], int 0, str [], int 0, .slice none 0 0]) hf rfl (by kernel_rfl)) ?_
 refine st 1 rfl rfl ?_
 refine nl 54 2 ?_
 refine re_ rfl fun a w hf hO hm => ?_
 obtain rfl := Option.some.inj hm
 exact zh Tryz.results8 hf (.cell rfl (zk (n := 7) (vs := [int 0, str [], str [], int 0, str [], int 0, .slice none 0 0]) zep zd0 rfl ((hO.blkSees (i := 2) rfl).cells (o := 0) (n := 7) rfl)) (.tmp rfl .nil)) ⟨none, 0, rfl, (hO.sub (.cons_cons _ (.cons _ (.cons _ (.cons _ (.cons _ (.cons _ (.cons _ (.cons _ .slnil)))))))))⟩
 refine rc_ rfl fun a w hf hO hm => ?_
 obtain ⟨r13, hr13, hm⟩ := ob hm
 obtain ⟨s14, hs14, hm⟩ := ob hm
 obtain ⟨r15, hr15, hm⟩ := ob hm
 refine zav (S := Option Addr × Nat) (E0 := [(1, int x_a1), (3, ptr b1 0), (5, ptr b2 0), (6, ptr b3 0)]) (by kernel_rfl) (fun k σ w => match k with | 0 => Dk.Own w0 [] w [.row (.slice none 0 0) 54 2 0 (cells za []), .blk b3 [int 0, str [], str [], int 0, str [], int 0, .slice none 0 0] 28, .blk b2 [int x_a2.Kind, str x_a2.Method, str x_a2.Target, int x_a2.Code, str x_a2.Reason, int x_a2.Minor, .slice x_a2_p2 x_a2.Fields.length x_a2_c2] 28, .blk b1 [str x_a0.Client, str x_a0.Host, str x_a0.Scheme, str x_a0.By, .slice x_a0_p0 x_a0.Domains.length x_a0_c0, .slice x_a0_p1 x_a0.Locations.length x_a0_c1] 24, .shr x_a2_p2 (cells za x_a2.Fields), .shr x_a0_p1 (cells zb x_a0.Locations), .shr x_a0_p0 (cells zb x_a0.Domains)] | 1 => Dk.Own w0 [] w [.row (.slice none 0 0) 54 2 0 (cells za []), .blk b3 [int 0, str [], str [], int 0, str [], int 0, .slice none 0 0] 28, .blk b2 [int x_a2.Kind, str x_a2.Method, str x_a2.Target, int x_a2.Code, str x_a2.Reason, int x_a2.Minor, .slice x_a2_p2 x_a2.Fields.length x_a2_c2] 28, .blk b1 [str x_a0.Client, str x_a0.Host, str x_a0.Scheme, str x_a0.By, .slice x_a0_p0 x_a0.Domains.length x_a0_c0, .slice x_a0_p1 x_a0.Locations.length x_a0_c1] 24, .shr x_a2_p2 (cells za x_a2.Fields), .shr x_a0_p1 (cells zb x_a0.Locations), .shr x_a0_p0 (cells zb x_a0.Domains)] | _ => Dk.Own w0 [] w [.row (.slice (σ.1) r15.1.length (σ.2)) 54 2 r15.1.length (cells za r15.1), .row (.slice none 0 0) 54 2 0 (cells za []), .blk b3 [int 0, str [], str [], int 0, str [], int 0, .slice none 0 0] 28, .blk b2 [int x_a2.Kind, str x_a2.Method, str x_a2.Target, int x_a2.Code, str x_a2.Reason, int x_a2.Minor, .slice x_a2_p2 x_a2.Fields.length x_a2_c2] 28, .blk b1 [str x_a0.Client, str x_a0.Host, str x_a0.Scheme, str x_a0.By, .slice x_a0_p0 x_a0.Domains.length x_a0_c0, .slice x_a0_p1 x_a0.Locations.length x_a0_c1] 24, .shr x_a2_p2 (cells za x_a2.Fields), .shr x_a0_p1 (cells zb x_a0.Locations), .shr x_a0_p0 (cells zb x_a0.Domains)]) (fun σ => [⟨[(1, int x_a1)], some (29, int x_a1)⟩, ⟨[(29, int x_a1)], some (30, str r13)⟩, ⟨[(30, str r13)], some (31, str s14)⟩, ⟨[(3, ptr b1 0)], some (32, ptr b1 3)⟩, ⟨[(32, ptr b1 3)], some (33, str x_a0.By)⟩, ⟨[(31, str s14), (33, str x_a0.By)], some (34, .agg #[str [], str s14, str x_a0.By, str []])⟩, ⟨[(5, ptr b2 0)], some (35, ptr b2 6)⟩, ⟨[(35, ptr b2 6)], some (36, .slice x_a2_p2 x_a2.Fields.length x_a2_c2)⟩, ⟨[(34, .agg #[str [], str s14, str x_a0.By, str []]), (36, .slice x_a2_p2 x_a2.Fields.length x_a2_c2)], some (37, .tuple #[.slice (σ.1) r15.1.length (σ.2), int r15.2])⟩, ⟨[(37, .tuple #[.slice (σ.1) r15.1.length (σ.2), int r15.2])], some (28, .tuple #[.slice (σ.1) r15.1.length (σ.2), int r15.2])⟩, ⟨[(28, .tuple #[.slice (σ.1) r15.1.length (σ.2), int r15.2])], some (38, .slice (σ.1) r15.1.length (σ.2))⟩, ⟨[(28, .tuple #[.slice (σ.1) r15.1.length (σ.2), int r15.2])], some (39, int r15.2)⟩, ⟨[(38, .slice (σ.1) r15.1.length (σ.2))], some (8, .slice (σ.1) r15.1.length (σ.2))⟩, ⟨[(39, int r15.2)], some (9, int r15.2)⟩]) (none, 0) [1, 8] rfl (fun _ => rfl) (fun _ => rfl) (fun _ => rfl) rfl rfl (by decide) rfl hO.drew (hf.cons rfl (hf.cons rfl (hf.cons rfl (hf.cons rfl hf.nil)))) (fun σ => ⟨⟨rfl, trivial⟩, ⟨rfl, trivial⟩, ⟨rfl, trivial⟩, ⟨rfl, trivial⟩, ⟨rfl, trivial⟩, ⟨rfl, rfl, trivial⟩, ⟨rfl, trivial⟩, ⟨rfl, trivial⟩, ⟨rfl, rfl, trivial⟩, ⟨rfl, trivial⟩, ⟨rfl, trivial⟩, ⟨rfl, trivial⟩, ⟨rfl, trivial⟩, ⟨rfl, trivial⟩, trivial⟩) ⟨zd rfl (fun σ => rfl) (fun σ => rfl) (fun σ a w k _ _ _ _ hf => zp hf rfl), zaR rfl (fun σ => rfl) (fun σ => rfl) rfl (fun σ a w (_ : _) hf => zj c_21 hf (vs := [int x_a1]) rfl) (fun σ w (hO : Dk.Own w0 [] w _) => (ziM x_a1 r13 _ (hG.own hF hO) hr13).mono fun e w' h => by obtain ⟨he, hb⟩ := h; exact ⟨((σ.1), (σ.2)), he, hO.grow hb, .inr rfl, .inr rfl, .inr rfl, .inr rfl, .inr rfl, .inr rfl, .inr rfl, .inr rfl, .inr rfl, .inr rfl, .inr rfl, .inr rfl, .inr rfl, .inr rfl, trivial⟩), zd rfl (fun σ => rfl) (fun σ => rfl) (fun σ a w k _ _ _ _ hf => zrn (l := [49, 46]) (m := r13) hf rfl rfl hs14), zd rfl (fun σ => rfl) (fun σ => rfl) (fun σ a w k _ _ _ _ hf => zz zrX hf rfl), zd rfl (fun σ => rfl) (fun σ => rfl) (fun σ a w k hk hlo hup hst hf => match k, hk, hlo, hup, hst, hf with | 0, _, _, _, hst, hf => have hO : Dk.Own w0 [] w _ := hst; zf (o := 3) zX (hO.blkSees (i := 3) rfl) rfl hf rfl | 1, _, _, _, hst, hf => have hO : Dk.Own w0 [] w _ := hst; zf (o := 3) zX (hO.blkSees (i := 3) rfl) rfl hf rfl | 2, _, _, _, hst, hf => have hO : Dk.Own w0 [] w _ := hst; zf (o := 3) zX (hO.blkSees (i := 4) rfl) rfl hf rfl | k + 3, hk, _, _, _, _ => absurd hk (by simp)), zd rfl (fun σ => rfl) (fun σ => rfl) (fun σ a w k _ _ _ _ hf => zt (vs := [(1, str s14), (2, str x_a0.By)]) (v := .agg #[str [], str s14, str x_a0.By, str []]) hf rfl (by kernel_rfl)), zd rfl (fun σ => rfl) (fun σ => rfl) (fun σ a w k _ _ _ _ hf => zz zky hf rfl), zd rfl (fun σ => rfl) (fun σ => rfl) (fun σ a w k hk hlo hup hst hf => match k, hk, hlo, hup, hst, hf with | 0, _, _, _, hst, hf => have hO : Dk.Own w0 [] w _ := hst; zf (o := 6) zcE (hO.blkSees (i := 2) rfl) rfl hf rfl | 1, _, _, _, hst, hf => have hO : Dk.Own w0 [] w _ := hst; zf (o := 6) zcE (hO.blkSees (i := 2) rfl) rfl hf rfl | 2, _, _, _, hst, hf => have hO : Dk.Own w0 [] w _ := hst; zf (o := 6) zcE (hO.blkSees (i := 3) rfl) rfl hf rfl | k + 3, hk, _, _, _, _ => absurd hk (by simp)), zaR rfl (fun σ => rfl) (fun σ => rfl) rfl (fun σ a w (_ : _) hf => zj c_20 hf (vs := [.agg #[str [], str s14, str x_a0.By, str []], .slice x_a2_p2 x_a2.Fields.length x_a2_c2]) rfl) (fun σ w (hO : Dk.Own w0 [] w _) => (zr5 (⟨[], s14, x_a0.By, []⟩ : api_Via) x_a2.Fields r15 _ (hG.own hF hO) (hO.sees (i := 4) rfl) hc2 hr15).mono fun e w' h => by obtain ⟨p16, c17, he, hO'⟩ := h; exact ⟨(p16, c17), he, hO.call hO' (by simp [Res.shared]), .inr rfl, .inr rfl, .inr rfl, .inr rfl, .inr rfl, .inr rfl, .inr rfl, .inr rfl, .inl rfl, .inl rfl, .inl rfl, .inl rfl, .inl rfl, .inr rfl, trivial⟩), zd rfl (fun σ => rfl) (fun σ => rfl) (fun σ a w k _ _ _ _ hf => zp hf rfl), zd rfl (fun σ => rfl) (fun σ => rfl) (fun σ a w k _ _ _ _ hf => zgb hf rfl rfl), zd rfl (fun σ => rfl) (fun σ => rfl) (fun σ a w k _ _ _ _ hf => zgb hf rfl rfl), zd rfl (fun σ => rfl) (fun σ => rfl) (fun σ a w k _ _ _ _ hf => z8 hf rfl), zd rfl (fun σ => rfl) (fun σ => rfl) (fun σ a w k _ _ _ _ hf => z8 hf rfl), trivial⟩ ?_
 rintro ⟨p16, c17⟩ a w hf hO
 have hO : Dk.Own w0 [] w _ := hO
 have hf : Fits 70 [(3, ptr b1 0), (5, ptr b2 0), (6, ptr b3 0), (8, .slice p16 r15.1.length c17), (9, int r15.2)] a := (hf.cons rfl (hf.cons rfl (hf.cons rfl (hf.cons rfl (hf.cons rfl hf.nil)))))
 refine S.no tb ?_ hf hO hm
 refine jv 0 [5, 6] [1, 2, 3, 4, 5, 6, 7] (fun J E L => ∃ (p29 : Option Addr) (c30 : Nat) (l31 : List api_Field) (i32 : Int), J ((8, .slice p29 l31.length c30) :: (9, int i32) :: E) (.row (.slice p29 l31.length c30) 54 2 l31.length (cells za l31) :: L) (zcz x_a2 l31 i32)) rfl ?_ ?_
 refine jv 1 [3, 5, 6, 8, 9] [0, 1, 2, 3, 4, 5, 6, 7] (fun J E L => ∃ (t20 : Bool), J ((46, .bool t20) :: E) (L) (zew x_a0 x_a2 r15 t20)) rfl ?_ ?_
 refine br rfl (fun hc19 => ?_) fun hc19 => ?_
 refine ld 3 rfl rfl ?_
 exact en rfl fun _ _ j => ⟨x_a2.Kind == 1, j rfl⟩
 exact en rfl fun _ _ j => ⟨false, j rfl⟩
 rintro a w ⟨t20, hf, hO, hm⟩
 rw [zew] at hm
 refine S.co tb ?_ hf hO hm
 refine br rfl (fun hc21 => ?_) fun hc21 => ?_
 refine ld 4 rfl rfl ?_
 refine rw_ rfl fun a w hf hO hm => ?_
 obtain ⟨r22, hr22, hm⟩ := ob hm
 refine zo (zj c_22 hf (vs := [.agg #[str x_a0.Client, str x_a0.Host, str x_a0.Scheme, str x_a0.By, .slice x_a0_p0 x_a0.Domains.length x_a0_c0, .slice x_a0_p1 x_a0.Locations.length x_a0_c1], .slice p16 r15.1.length c17]) rfl) rfl hf rfl rfl (zmI x_a0 r15.1 r22 _ (hG.own hF hO) (hO.sees (i := 7) rfl) hc0 (hO.sees (i := 6) rfl) hc1 (hO.rowSees (i := 0) rfl) (hO.rowCap (i := 0) rfl) hr22) ?_
 rintro e w' ⟨p23, c24, he, hO'⟩
 refine ⟨_, he, fun a hf => ?_⟩
 have hO := hO.call hO' (by simp [Res.shared])
 refine S.op tb ?_ hf hO hm
 refine ld 5 rfl rfl ?_
 refine rw_ rfl fun a w hf hO hm => ?_
 obtain ⟨r26, hr26, hm⟩ := ob hm
 refine zo (zj c_23 hf (vs := [str x_a0.Client, .slice p23 r22.1.length c24]) rfl) rfl hf rfl rfl (zru x_a0.Client r22.1 r26 _ (hG.own hF hO) (hO.rowSees (i := 0) rfl) (hO.rowCap (i := 0) rfl) hr26) ?_
 rintro e w' ⟨p27, c28, he, hO'⟩
 refine ⟨_, he, fun a hf => ?_⟩
 have hO := hO.call hO' (by simp [Res.shared])
 refine S.op tb ?_ hf hO hm
 exact ec [0, 3, 4, 5, 6, 7, 8, 9] rfl rfl rfl fun _ _ j => ⟨p27, c28, r26, r22.2, j rfl⟩
 exact en rfl fun _ _ j => ⟨p16, c17, r15.1, r15.2, j rfl⟩
 rintro a w ⟨p29, c30, l31, i32, hf, hO, hm⟩
 rw [zcz] at hm
 refine S.co tb ?_ hf hO hm
 refine br rfl (fun hc34 => ?_) fun hc34 => ?_
 refine vl rfl rfl (fun a w hf hO => zt (vs := []) (v := .agg #[int 0, str [], str [], int 0, str [], int 0, .slice none 0 0]) hf rfl (by kernel_rfl)) ?_
 refine st 2 rfl rfl ?_
 refine nl 54 2 ?_
 refine re_ rfl fun a w hf hO hm => ?_
 obtain rfl := Option.some.inj hm
 exact zh Tryz.results8 hf (.cell rfl (zk (n := 7) (vs := [int 0, str [], str [], int 0, str [], int 0, .slice none 0 0]) zep zd0 rfl ((hO.blkSees (i := 3) rfl).cells (o := 0) (n := 7) rfl)) (.tmp rfl .nil)) ⟨none, 0, rfl, (hO.sub (.cons_cons _ (.cons _ (.cons _ (.cons _ (.cons _ (.cons _ (.cons _ (.cons _ (.cons _ .slnil))))))))))⟩
 refine rc_ rfl fun a w hf hO hm => ?_
 obtain ⟨r37, hr37, hm⟩ := ob hm
 refine zav (S := Nat × Option Addr × Nat × Nat) (E0 := [(5, ptr b2 0), (6, ptr b3 0), (8, .slice p29 l31.length c30)]) (by kernel_rfl) (fun k σ w => match k with | 0 => Dk.Own w0 [] w [.row (.slice p29 l31.length c30) 54 2 l31.length (cells za l31), .row (.slice none 0 0) 54 2 0 (cells za []), .blk b3 [int 0, str [], str [], int 0, str [], int 0, .slice none 0 0] 28, .blk b2 [int x_a2.Kind, str x_a2.Method, str x_a2.Target, int x_a2.Code, str x_a2.Reason, int x_a2.Minor, .slice x_a2_p2 x_a2.Fields.length x_a2_c2] 28, .blk b1 [str x_a0.Client, str x_a0.Host, str x_a0.Scheme, str x_a0.By, .slice x_a0_p0 x_a0.Domains.length x_a0_c0, .slice x_a0_p1 x_a0.Locations.length x_a0_c1] 24, .shr x_a2_p2 (cells za x_a2.Fields), .shr x_a0_p1 (cells zb x_a0.Locations), .shr x_a0_p0 (cells zb x_a0.Domains)] | 1 => Dk.Own w0 [] w [.blk (σ.1) [.slice (σ.2.1) r37.f_l.length (σ.2.2.1)] 107, .row (.slice (σ.2.1) r37.f_l.length (σ.2.2.1)) 54 2 r37.f_l.length (cells za r37.f_l), .row (.slice p29 l31.length c30) 54 2 l31.length (cells za l31), .row (.slice none 0 0) 54 2 0 (cells za []), .blk b3 [int 0, str [], str [], int 0, str [], int 0, .slice none 0 0] 28, .blk b2 [int x_a2.Kind, str x_a2.Method, str x_a2.Target, int x_a2.Code, str x_a2.Reason, int x_a2.Minor, .slice x_a2_p2 x_a2.Fields.length x_a2_c2] 28, .blk b1 [str x_a0.Client, str x_a0.Host, str x_a0.Scheme, str x_a0.By, .slice x_a0_p0 x_a0.Domains.length x_a0_c0, .slice x_a0_p1 x_a0.Locations.length x_a0_c1] 24, .shr x_a2_p2 (cells za x_a2.Fields), .shr x_a0_p1 (cells zb x_a0.Locations), .shr x_a0_p0 (cells zb x_a0.Domains)] | _ => Dk.Own w0 [] w [.blk (σ.2.2.2) [ptr (σ.1) 0, int x_a2.Kind, str x_a2.Method, str x_a2.Target, int x_a2.Code, str x_a2.Reason, int x_a2.Minor, .slice x_a2_p2 x_a2.Fields.length x_a2_c2] 66, .blk (σ.1) [.slice (σ.2.1) r37.f_l.length (σ.2.2.1)] 107, .row (.slice (σ.2.1) r37.f_l.length (σ.2.2.1)) 54 2 r37.f_l.length (cells za r37.f_l), .row (.slice p29 l31.length c30) 54 2 l31.length (cells za l31), .row (.slice none 0 0) 54 2 0 (cells za []), .blk b3 [int 0, str [], str [], int 0, str [], int 0, .slice none 0 0] 28, .blk b2 [int x_a2.Kind, str x_a2.Method, str x_a2.Target, int x_a2.Code, str x_a2.Reason, int x_a2.Minor, .slice x_a2_p2 x_a2.Fields.length x_a2_c2] 28, .blk b1 [str x_a0.Client, str x_a0.Host, str x_a0.Scheme, str x_a0.By, .slice x_a0_p0 x_a0.Domains.length x_a0_c0, .slice x_a0_p1 x_a0.Locations.length x_a0_c1] 24, .shr x_a2_p2 (cells za x_a2.Fields), .shr x_a0_p1 (cells zb x_a0.Locations), .shr x_a0_p0 (cells zb x_a0.Domains)]) (fun σ => [⟨[(8, .slice p29 l31.length c30)], some (61, .slice p29 l31.length c30)⟩, ⟨[(61, .slice p29 l31.length c30)], some (62, ptr (σ.1) 0)⟩, ⟨[(5, ptr b2 0)], some (63, .agg #[int x_a2.Kind, str x_a2.Method, str x_a2.Target, int x_a2.Code, str x_a2.Reason, int x_a2.Minor, .slice x_a2_p2 x_a2.Fields.length x_a2_c2])⟩, ⟨[(62, ptr (σ.1) 0), (63, .agg #[int x_a2.Kind, str x_a2.Method, str x_a2.Target, int x_a2.Code, str x_a2.Reason, int x_a2.Minor, .slice x_a2_p2 x_a2.Fields.length x_a2_c2])], some (64, .agg #[ptr (σ.1) 0, int x_a2.Kind, str x_a2.Method, str x_a2.Target, int x_a2.Code, str x_a2.Reason, int x_a2.Minor, .slice x_a2_p2 x_a2.Fields.length x_a2_c2])⟩, ⟨[(64, .agg #[ptr (σ.1) 0, int x_a2.Kind, str x_a2.Method, str x_a2.Target, int x_a2.Code, str x_a2.Reason, int x_a2.Minor, .slice x_a2_p2 x_a2.Fields.length x_a2_c2])], some (65, ptr (σ.2.2.2) 0)⟩, ⟨[(65, ptr (σ.2.2.2) 0)], some (10, ptr (σ.2.2.2) 0)⟩]) (0, none, 0, 0) [1, 4] rfl (fun _ => rfl) (fun _ => rfl) (fun _ => rfl) rfl rfl (by decide) rfl hO.drew (hf.cons rfl (hf.cons rfl (hf.cons rfl hf.nil))) (fun σ => ⟨⟨rfl, trivial⟩, ⟨rfl, trivial⟩, ⟨rfl, trivial⟩, ⟨rfl, rfl, trivial⟩, ⟨rfl, trivial⟩, ⟨rfl, trivial⟩, trivial⟩) ⟨zd rfl (fun σ => rfl) (fun σ => rfl) (fun σ a w k _ _ _ _ hf => zp hf rfl), zaR rfl (fun σ => rfl) (fun σ => rfl) rfl (fun σ a w (_ : _) hf => zj zta hf (vs := [.slice p29 l31.length c30]) rfl) (fun σ w (hO : Dk.Own w0 [] w _) => (zgk l31 r37 _ (hG.own hF hO).1 (hO.rowSees (i := 0) rfl) (hO.rowCap (i := 0) rfl) hr37).mono fun e w' h => by obtain ⟨b38, p39, c40, he, hO'⟩ := h; exact ⟨(b38, p39, c40, (σ.2.2.2)), he, hO.call hO' (by simp [Res.shared]), .inr rfl, .inl rfl, .inr rfl, .inl rfl, .inl rfl, .inr rfl, trivial⟩), zd rfl (fun σ => rfl) (fun σ => rfl) (fun σ a w k hk hlo hup hst hf => match k, hk, hlo, hup, hst, hf with | 0, _, _, _, hst, hf => have hO : Dk.Own w0 [] w _ := hst; zq (o := 0) (vs := [int x_a2.Kind, str x_a2.Method, str x_a2.Target, int x_a2.Code, str x_a2.Reason, int x_a2.Minor, .slice x_a2_p2 x_a2.Fields.length x_a2_c2]) zep zd0 (hO.blkSees (i := 3) rfl) rfl rfl hf rfl | 1, _, _, _, hst, hf => have hO : Dk.Own w0 [] w _ := hst; zq (o := 0) (vs := [int x_a2.Kind, str x_a2.Method, str x_a2.Target, int x_a2.Code, str x_a2.Reason, int x_a2.Minor, .slice x_a2_p2 x_a2.Fields.length x_a2_c2]) zep zd0 (hO.blkSees (i := 5) rfl) rfl rfl hf rfl | 2, _, _, _, hst, hf => have hO : Dk.Own w0 [] w _ := hst; zq (o := 0) (vs := [int x_a2.Kind, str x_a2.Method, str x_a2.Target, int x_a2.Code, str x_a2.Reason, int x_a2.Minor, .slice x_a2_p2 x_a2.Fields.length x_a2_c2]) zep zd0 (hO.blkSees (i := 6) rfl) rfl rfl hf rfl | k + 3, hk, _, _, _, _ => absurd hk (by simp)), zd rfl (fun σ => rfl) (fun σ => rfl) (fun σ a w k _ _ _ _ hf => zt (vs := [(0, ptr (σ.1) 0), (1, .agg #[int x_a2.Kind, str x_a2.Method, str x_a2.Target, int x_a2.Code, str x_a2.Reason, int x_a2.Minor, .slice x_a2_p2 x_a2.Fields.length x_a2_c2])]) (v := .agg #[ptr (σ.1) 0, int x_a2.Kind, str x_a2.Method, str x_a2.Target, int x_a2.Code, str x_a2.Reason, int x_a2.Minor, .slice x_a2_p2 x_a2.Fields.length x_a2_c2]) hf rfl (by kernel_rfl)), zfC rfl (fun σ => rfl) (fun σ => rfl) rfl (fun σ w (hO : Dk.Own w0 [] w _) => by obtain ⟨b41, w', hO', hr⟩ := zvl (E := [(64, .agg #[ptr (σ.1) 0, int x_a2.Kind, str x_a2.Method, str x_a2.Target, int x_a2.Code, str x_a2.Reason, int x_a2.Minor, .slice x_a2_p2 x_a2.Fields.length x_a2_c2])]) (x := (.tmp 64)) (v := .agg #[ptr (σ.1) 0, int x_a2.Kind, str x_a2.Method, str x_a2.Target, int x_a2.Code, str x_a2.Reason, int x_a2.Minor, .slice x_a2_p2 x_a2.Fields.length x_a2_c2]) (cs := [ptr (σ.1) 0, int x_a2.Kind, str x_a2.Method, str x_a2.Target, int x_a2.Code, str x_a2.Reason, int x_a2.Minor, .slice x_a2_p2 x_a2.Fields.length x_a2_c2]) rfl hO rfl; exact ⟨((σ.1), (σ.2.1), (σ.2.2.1), b41), w', hO', ⟨.inr rfl, .inr rfl, .inr rfl, .inr rfl, .inl rfl, .inl rfl, trivial⟩, hr⟩), zd rfl (fun σ => rfl) (fun σ => rfl) (fun σ a w k _ _ _ _ hf => z8 hf rfl), trivial⟩ ?_
 rintro ⟨b38, p39, c40, b41⟩ a w hf hO
 have hO : Dk.Own w0 [] w _ := hO
 have hf : Fits 70 [(6, ptr b3 0), (10, ptr b41 0)] a := (hf.cons rfl (hf.cons rfl hf.nil))
 refine S.no tb ?_ hf hO hm
 refine rw_ rfl fun a w hf hO hm => ?_
 obtain ⟨r43, hr43, hm⟩ := ob hm
 have hch46 := (show Dk.Own w0 [] _ ([.blk b41 [ptr b38 0, int x_a2.Kind, str x_a2.Method, str x_a2.Target, int x_a2.Code, str x_a2.Reason, int x_a2.Minor, .slice x_a2_p2 x_a2.Fields.length x_a2_c2] 66, .blk b38 [.slice p39 r37.f_l.length c40] 107, .row (.slice p39 r37.f_l.length c40) 54 2 r37.f_l.length (cells za r37.f_l)] ++ [.row (.slice p29 l31.length c30) 54 2 l31.length (cells za l31), .row (.slice none 0 0) 54 2 0 (cells za []), .blk b3 [int 0, str [], str [], int 0, str [], int 0, .slice none 0 0] 28, .blk b2 [int x_a2.Kind, str x_a2.Method, str x_a2.Target, int x_a2.Code, str x_a2.Reason, int x_a2.Minor, .slice x_a2_p2 x_a2.Fields.length x_a2_c2] 28, .blk b1 [str x_a0.Client, str x_a0.Host, str x_a0.Scheme, str x_a0.By, .slice x_a0_p0 x_a0.Domains.length x_a0_c0, .slice x_a0_p1 x_a0.Locations.length x_a0_c1] 24, .shr x_a2_p2 (cells za x_a2.Fields), .shr x_a0_p1 (cells zb x_a0.Locations), .shr x_a0_p0 (cells zb x_a0.Domains)]) from hO)
 have hfar46 := Dk.Own.far hch46 rfl hF hG.size
 have hlend46 := hch46.lend (S := [.shr x_a2_p2 (cells za x_a2.Fields)]) rfl ⟨zi6 (hO.sees (i := 8) rfl) (List.mem_of_getElem? (i := 5) rfl), trivial⟩
 have hcl46 := zdt (⟨r37, x_a2⟩ : stage_worker) r43 _ (hG.own hF hO).1 hfar46 hlend46 hc2 hr43
 refine zo (zj c_25 hf (vs := [ptr b41 0]) rfl) rfl hf rfl rfl (hcl46) ?_
 rintro e w' ⟨p44, c45, he, hO'⟩
 refine ⟨_, he, fun a hf => ?_⟩
 have hO := hch46.back rfl hO' rfl
 refine S.op tb ?_ hf hO hm
 refine st 3 rfl rfl ?_
 refine re_ rfl fun a w hf hO hm => ?_
 obtain rfl := Option.some.inj hm
 exact zh Tryz.results8 hf (.cell rfl (zk (n := 7) (vs := [int r43.1.Kind, str r43.1.Method, str r43.1.Target, int r43.1.Code, str r43.1.Reason, int r43.1.Minor, .slice p44 r43.1.Fields.length c45]) zep zd0 rfl ((hO.blkSees (i := 3) rfl).cells (o := 0) (n := 7) rfl)) (.tmp rfl .nil)) ⟨p44, c45, rfl, (hO.sub (.cons_cons _ (.cons _ (.cons _ (.cons _ (.cons _ (.cons _ (.cons _ (.cons _ (.cons _ .slnil))))))))))⟩

theorem zmT (x_s : Str) (R : Str) (w0 : World) (hG : zr w0) (hm : zhq x_s = some R) :
    Calls Tryz.prog 66 #[str x_s] w0 (Ret w0 (fun R => str R) R) := by
 rw [zhq] at hm
 have hF : zs [] := ze
 have hO : Dk.Own w0 [] w0 [] := Dk.Own.refl w0
 refine S.enter tb Tryz.func66 rfl Tryz.ntmps66 rfl ?_ hO hm
 refine lv [0] [] (fun J E L k => ∃ (s4 : Str) (i5 : Int), J ((3, str s4) :: (4, int i5) :: E) (L) (zbh x_s k s4 i5)) rfl (fun _ _ j => ⟨[], 0, j rfl⟩) ?_
 rintro n1 a w ⟨s4, i5, hf, hO, hm⟩
 obtain _ | n1 := n1
 rw [zbh] at hm
 cases hm
 rw [zbh] at hm
 refine S.co tb ?_ hf hO hm
 refine br rfl (fun hc7 => ?_) fun hc7 => ?_
 refine bi rfl fun i9 hi9 => ?_
 refine bi rfl fun s10 hs10 => ?_
 refine lv [0, 3, 4] [] (fun J E L k => ∃ (s13 : Str) (i14 : Int), J ((5, str s13) :: (6, int i14) :: E) (L) (zbg (zbh x_s n1) x_s s4 i5 k s13 i14)) rfl (fun _ _ j => ⟨s10, 0, j rfl⟩) ?_
 rintro n2 a w ⟨s13, i14, hf, hO, hm⟩
 obtain _ | n2 := n2
 rw [zbg] at hm
 cases hm
 rw [zbg] at hm
 refine S.co tb ?_ hf hO hm
 refine br rfl (fun hc16 => ?_) fun hc16 => ?_
 refine jv 8 [0, 3, 4, 6] [] (fun J E L => ∃ (s24 : Str), J ((5, str s24) :: E) (L) (zfM (zbg (zbh x_s n1) x_s s4 i5 n2) i14 s24)) rfl ?_ ?_
 refine rc_ rfl fun a w hf hO hm => ?_
 refine zeP (by kernel_rfl) (by kernel_rfl) hO ?_
 refine zx (fun w hO => zp hf rfl) rfl hf rfl rfl fun a hf => ?_
 obtain ⟨b18, hb18, hm⟩ := ob hm
 refine zx (fun w hO => zmQ (l := [65, 66, 67, 68, 69, 70, 71, 72, 73, 74, 75, 76, 77, 78, 79, 80, 81, 82, 83, 84, 85, 86, 87, 88, 89, 90]) Tryz.underlying9 hf rfl rfl hb18) rfl hf rfl rfl fun a hf => ?_
 refine zx (fun w hO => zp hf rfl) rfl hf rfl rfl fun a hf => ?_
 refine zx (fun w hO => zp hf rfl) rfl hf rfl rfl fun a hf => ?_
 obtain ⟨b19, hb19, hm⟩ := ob hm
 refine zx (fun w hO => zmQ (l := x_s) Tryz.underlying9 hf rfl rfl hb19) rfl hf rfl rfl fun a hf => ?_
 refine zx (fun w hO => zJ (b := b18) (c := b19) hf rfl rfl) rfl hf rfl rfl fun a hf => ?_
 refine wpQuiet_nil ?_
 intro w hO
 refine S.no tb ?_ hf hO hm
 refine br rfl (fun hc21 => ?_) fun hc21 => ?_
 refine bi rfl fun i22 hi22 => ?_
 refine bi rfl fun s23 hs23 => ?_
 exact en rfl fun _ _ j => ⟨s23, j rfl⟩
 exact en rfl fun _ _ j => ⟨s13, j rfl⟩
 rintro a w ⟨s24, hf, hO, hm⟩
 rw [zfM] at hm
 refine S.co tb ?_ hf hO hm
 refine bi rfl fun i25 hi25 => ?_
 exact en rfl fun _ _ j => ⟨_, Nat.lt_succ_self _, s24, i25, j rfl⟩
 refine bi rfl fun s27 hs27 => ?_
 refine bi rfl fun i29 hi29 => ?_
 exact en rfl fun _ _ j => ⟨_, Nat.lt_succ_self _, s27, i29, j rfl⟩
 exact rt Tryz.results66 rfl

theorem zpa (x_f : api_Field) (x_name : Str) (R : Bool) (w0 : World) (hG : zr w0) (hm : zj0 x_f x_name = some R) :
    Calls Tryz.prog 35 #[.agg #[str x_f.Name, str x_f.Value], str x_name] w0 (Ret w0 (fun R => .bool R) R) := by
 rw [zj0] at hm
 have hF : zs [] := ze
 have hO : Dk.Own w0 [] w0 [] := Dk.Own.refl w0
 refine S.enter tb Tryz.func35 rfl Tryz.ntmps35 rfl ?_ hO hm
 refine bo rfl fun b1 => ?_
 refine ld 0 rfl rfl ?_
 refine cl c_66 rfl (fun r3 w hr3 hO => zmT x_f.Name r3 _ (hG.own hF hO) hr3) fun r3 hr3 => ?_
 refine cl c_66 rfl (fun r4 w hr4 hO => zmT x_name r4 _ (hG.own hF hO) hr4) fun r4 hr4 => ?_
 exact rt Tryz.results35 rfl

theorem zpb (x_l : List api_Field) (x_name : Str) (R : List Str) (w0 : World) (hG : zr w0) {x_l_p0 : Option Addr} {x_l_c0 : Nat} (hs0 : zD w0 x_l_p0 (cells za x_l)) (hc0 : x_l.length ≤ x_l_c0) (hm : zkt x_l x_name = some R) :
    Calls Tryz.prog 12 #[.slice x_l_p0 x_l.length x_l_c0, str x_name] w0 fun e w' => ∃ (p0 : Option Addr) (c0 : Nat), e = .returned (.slice p0 R.length c0) ∧ Dk.Own w0 [] w' [.row (.slice p0 R.length c0) 9 1 R.length (cells zg R)] := by
 rw [zkt] at hm
 have hF : zs [] := ze
 have hO : Dk.Own w0 [] w0 [] := Dk.Own.refl w0
 have hO := hO.addShr hs0 (by simp [Res.shared])
 refine S.enter tb Tryz.func12 rfl Tryz.ntmps12 rfl ?_ hO hm
 refine nl 9 1 ?_
 refine nl 9 1 ?_
 refine lv [0, 1] [1, 2] (fun J E L k => ∃ (p4 : Option Addr) (c5 : Nat) (l6 : List Str) (i7 : Int), J ((5, .slice p4 l6.length c5) :: (6, int i7) :: E) (.row (.slice p4 l6.length c5) 9 1 l6.length (cells zg l6) :: L) (zcf x_l x_name k l6 i7)) rfl (fun _ _ j => ⟨none, 0, [], 0, j rfl⟩) ?_
 rintro n1 a w ⟨p4, c5, l6, i7, hf, hO, hm⟩
 obtain _ | n1 := n1
 rw [zcf] at hm
 cases hm
 rw [zcf] at hm
 refine S.co tb ?_ hf hO hm
 refine br rfl (fun hc9 => ?_) fun hc9 => ?_
 refine jv 3 [0, 1, 6] [1, 2] (fun J E L => ∃ (p24 : Option Addr) (c25 : Nat) (l26 : List Str), J ((5, .slice p24 l26.length c25) :: E) (.row (.slice p24 l26.length c25) 9 1 l26.length (cells zg l26) :: L) (zf9 (zcf x_l x_name n1) i7 l26)) rfl ?_ ?_
 refine rw_ rfl fun a w hf hO hm => ?_
 obtain ⟨x11, hx11, hm⟩ := ob hm
 obtain ⟨b12, o13, hix11, hSx11⟩ := zaD (enc := za) (sz := 2) (xs := x_l) 26 Tryz.underlying26 zbs (by decide) (fun _ => rfl) (hO.sees (i := 2) rfl) hx11
 refine zR (zi hix11 hf rfl rfl) rfl hf rfl rfl fun a hf => ?_
 refine S.op tb ?_ hf hO hm
 refine vl rfl rfl (fun a w hf hO => zq (o := 0) (vs := [str x11.Name, str x11.Value]) zig zbs (hSx11 _ (hO.sees (i := 2) rfl)) rfl rfl hf rfl) ?_
 refine cl c_35 rfl (fun r14 w hr14 hO => zpa x11 x_name r14 _ (hG.own hF hO) hr14) fun r14 hr14 => ?_
 refine br rfl (fun hc16 => ?_) fun hc16 => ?_
 refine rw_ rfl fun a w hf hO hm => ?_
 obtain ⟨x17, hx17, hm⟩ := ob hm
 obtain ⟨b18, o19, hix17, hSx17⟩ := zaD (enc := za) (sz := 2) (xs := x_l) 26 Tryz.underlying26 zbs (by decide) (fun _ => rfl) (hO.sees (i := 2) rfl) hx17
 refine zR (zi hix17 hf rfl rfl) rfl hf rfl rfl fun a hf => ?_
 refine S.op tb ?_ hf hO hm
 refine vl rfl rfl (fun a w hf hO => zf (o := 1) zX (hSx17 _ (hO.sees (i := 2) rfl)) rfl hf rfl) ?_
 refine rw_ rfl fun a w hf hO hm => ?_
 refine zn (vs := [(0, str x17.Value)]) (cs := [str x17.Value]) (e := 9) (sz := 1) hf rfl rfl (fun w => by kernel_rfl) rfl rfl hO fun a b20 w hf hO => ?_
 refine S.op tb ?_ hf hO hm
 refine rw_ rfl fun a w hf hO hm => ?_
 obtain ⟨hg23, hm⟩ := og hm
 refine zZ zi5 (enc := zg) (xs := l6) (ys := ([x17.Value] : List Str)) (i := 1) (fun _ => rfl) rfl (hO.rowSees (i := 0) rfl) (by simp [cells, zg, Value.oneCell']) hg23 hf rfl rfl rfl hO fun a p21 c22 w hf hO => ?_
 refine S.op tb ?_ hf hO hm
 exact ec [1, 2, 3] rfl rfl rfl fun _ _ j => ⟨p21, c22, l6 ++ ([x17.Value] : List Str), j rfl⟩
 exact en rfl fun _ _ j => ⟨p4, c5, l6, j rfl⟩
 rintro a w ⟨p24, c25, l26, hf, hO, hm⟩
 rw [zf9] at hm
 refine S.co tb ?_ hf hO hm
 refine bi rfl fun i27 hi27 => ?_
 exact en rfl fun _ _ j => ⟨_, Nat.lt_succ_self _, p24, c25, l26, i27, j rfl⟩
 refine re_ rfl fun a w hf hO hm => ?_
 obtain rfl := Option.some.inj hm
 exact zh Tryz.results12 hf (.tmp rfl .nil) ⟨p4, c5, rfl, (hO.sub (.cons_cons _ (.cons _ (.cons _ .slnil))))⟩

theorem zqg (R : Bool) (w0 : World) (hG : zaH w0) (hm : zjm = some R) :
    Calls Tryz.prog 5 #[] w0 (Ret w0 (fun R => .bool R) R) := by
 rw [zjm] at hm
 have hF : zs [] := ze
 have hO : Dk.Own w0 [] w0 [] := Dk.Own.refl w0
 refine S.enter tb Tryz.func5 rfl Tryz.ntmps5 rfl ?_ hO hm
 refine vl rfl rfl (fun a w hf hO => zt (vs := [(0, str [49, 46, 50, 46, 51, 46, 52]), (3, str [109, 101])]) (v := .agg #[str [49, 46, 50, 46, 51, 46, 52], str [], str [], str [109, 101], .slice none 0 0, .slice none 0 0]) hf rfl (by kernel_rfl)) ?_
 refine al zs3 rfl fun b2 => ?_
 refine nl 98 2 ?_
 refine nl 98 2 ?_
 refine st 2 rfl rfl ?_
 refine nl 98 2 ?_
 refine nl 98 2 ?_
 refine ld 4 rfl rfl ?_
 refine vl rfl rfl (fun a w hf hO => zt (vs := [(0, int 1), (1, str [71, 69, 84]), (2, str [104, 116, 116, 112, 58, 47, 47, 97, 58, 56, 48, 47, 120])]) (v := .agg #[int 1, str [71, 69, 84], str [104, 116, 116, 112, 58, 47, 47, 97, 58, 56, 48, 47, 120], int 0, str [], int 0, .slice none 0 0]) hf rfl (by kernel_rfl)) ?_
 refine rw_ rfl fun a w hf hO hm => ?_
 obtain ⟨r4, hr4, hm⟩ := ob hm
 refine zo (zj c_16 hf (vs := [.agg #[str [49, 46, 50, 46, 51, 46, 52], str [], str [], str [109, 101], .slice none 0 0, .slice none 0 0], .agg #[int 1, str [71, 69, 84], str [104, 116, 116, 112, 58, 47, 47, 97, 58, 56, 48, 47, 120], int 0, str [], int 0, .slice none 0 0]]) rfl) rfl hf rfl rfl (zqB (⟨[49, 46, 50, 46, 51, 46, 52], [], [], [109, 101], [], []⟩ : api_Env) (⟨1, [71, 69, 84], [104, 116, 116, 112, 58, 47, 47, 97, 58, 56, 48, 47, 120], 0, [], 0, []⟩ : api_Head) r4 _ (hG.own hF hO) (hO.rowSees (i := 1) rfl) (hO.rowCap (i := 1) rfl) (hO.rowSees (i := 0) rfl) (hO.rowCap (i := 0) rfl) (zD.nil _) (Nat.zero_le _) hr4) ?_
 rintro e w' ⟨p5, c6, he, hO'⟩
 refine ⟨_, he, fun a hf => ?_⟩
 have hO := hO.call hO' (by simp [Res.shared])
 refine S.op tb ?_ hf hO hm
 refine al zne rfl fun b7 => ?_
 refine nl 54 2 ?_
 refine st 1 rfl rfl ?_
 refine ld 7 rfl rfl ?_
 refine ld 1 rfl rfl ?_
 refine rw_ rfl fun a w hf hO hm => ?_
 obtain ⟨r9, hr9, hm⟩ := ob hm
 refine zo (zj c_8 hf (vs := [.agg #[str [49, 46, 50, 46, 51, 46, 52], str [], str [], str [109, 101], .slice none 0 0, .slice none 0 0], int 0, .agg #[int r4.1.Kind, str r4.1.Method, str r4.1.Target, int r4.1.Code, str r4.1.Reason, int r4.1.Minor, .slice p5 r4.1.Fields.length c6]]) rfl) rfl hf rfl rfl (zmS (⟨[49, 46, 50, 46, 51, 46, 52], [], [], [109, 101], [], []⟩ : api_Env) 0 r4.1 r9 _ (hG.own hF hO) (hO.rowSees (i := 4) rfl) (hO.rowCap (i := 4) rfl) (hO.rowSees (i := 3) rfl) (hO.rowCap (i := 3) rfl) (hO.rowSees (i := 2) rfl) (hO.rowCap (i := 2) rfl) hr9) ?_
 rintro e w' ⟨p10, c11, he, hO'⟩
 refine ⟨_, he, fun a hf => ?_⟩
 have hO := hO.call hO' (by simp [Res.shared])
 refine S.op tb ?_ hf hO hm
 refine al zne rfl fun b12 => ?_
 refine nl 54 2 ?_
 refine st 1 rfl rfl ?_
 refine ld 1 rfl rfl ?_
 refine rw_ rfl fun a w hf hO hm => ?_
 obtain ⟨r14, hr14, hm⟩ := ob hm
 refine zo (zj c_12 hf (vs := [.slice p10 r9.1.Fields.length c11, str [118, 105, 97]]) rfl) rfl hf rfl rfl (zpb r9.1.Fields [118, 105, 97] r14 _ (hG.own hF hO).1 (hO.rowSees (i := 2) rfl) (hO.rowCap (i := 2) rfl) hr14) ?_
 rintro e w' ⟨p15, c16, he, hO'⟩
 refine ⟨_, he, fun a hf => ?_⟩
 have hO := hO.call hO' (by simp [Res.shared])
 refine S.op tb ?_ hf hO hm
 refine jv 0 [] [0, 1, 2, 3, 4, 5, 6, 7, 8, 9, 10, 11] (fun J E L => ∃ (t31 : Bool), J ((0, .bool t31) :: E) (L) (zaV t31)) rfl ?_ ?_
 refine br rfl (fun hc18 => ?_) fun hc18 => ?_
 refine br rfl (fun hc19 => ?_) fun hc19 => ?_
 refine ld 2 rfl rfl ?_
 refine br rfl (fun hc20 => ?_) fun hc20 => ?_
 refine ld 2 rfl rfl ?_
 refine br rfl (fun hc21 => ?_) fun hc21 => ?_
 refine br rfl (fun hc22 => ?_) fun hc22 => ?_
 refine rw_ rfl fun a w hf hO hm => ?_
 obtain ⟨x23, hx23, hm⟩ := ob hm
 obtain ⟨b24, o25, hix23, hSx23, hAx23⟩ := zad (enc := zg) (sz := 1) (xs := r14) 42 Tryz.underlying42 zfB (by decide) (fun _ => rfl) hO (i := 0) rfl hx23
 refine zR (zi hix23 hf rfl rfl) rfl hf rfl rfl fun a hf => ?_
 refine S.op tb ?_ hf hO hm
 refine kn (b' := true) hc22 rfl ?_
 refine vl rfl rfl (fun a w hf hO => zf (o := 0) zX (hSx23 _ (hO.rowSees (i := 0) rfl)) rfl hf rfl) ?_
 refine br rfl (fun hc26 => ?_) fun hc26 => ?_
 refine ld 2 rfl rfl ?_
 refine br rfl (fun hc27 => ?_) fun hc27 => ?_
 refine ld 2 rfl rfl ?_
 refine rw_ rfl fun a w hf hO hm => ?_
 obtain ⟨x28, hx28, hm⟩ := ob hm
 obtain ⟨b29, o30, hix28, hSx28, hAx28⟩ := zad (enc := za) (sz := 2) (xs := r9.1.Fields) 26 Tryz.underlying26 zbs (by decide) (fun _ => rfl) hO (i := 3) rfl hx28
 refine zR (zi hix28 hf rfl rfl) rfl hf rfl rfl fun a hf => ?_
 refine S.op tb ?_ hf hO hm
 refine kn (b' := true) hc27 rfl ?_
 refine vl rfl rfl (fun a w hf hO => zq (o := 0) (vs := [str x28.Name, str x28.Value]) zig zbs (hSx28 _ (hO.rowSees (i := 3) rfl)) rfl rfl hf rfl) ?_
 refine vl rfl rfl (fun a w hf hO => zt (vs := [(0, str [72, 111, 115, 116]), (1, str [97, 58, 56, 48])]) (v := .agg #[str [72, 111, 115, 116], str [97, 58, 56, 48]]) hf rfl (by kernel_rfl)) ?_
 refine vl rfl rfl (fun a w hf hO => zvz (by kernel_rfl) (eq_54 x28 (⟨[72, 111, 115, 116], [97, 58, 56, 48]⟩ : api_Field)) hf rfl rfl) ?_
 exact en rfl fun _ _ j => ⟨x28 == (⟨[72, 111, 115, 116], [97, 58, 56, 48]⟩ : api_Field), j rfl⟩
 exact en rfl fun _ _ j => ⟨false, j rfl⟩
 exact en rfl fun _ _ j => ⟨false, j rfl⟩
 exact en rfl fun _ _ j => ⟨false, j rfl⟩
 exact en rfl fun _ _ j => ⟨false, j rfl⟩
 exact en rfl fun _ _ j => ⟨false, j rfl⟩
 exact en rfl fun _ _ j => ⟨false, j rfl⟩
 exact en rfl fun _ _ j => ⟨false, j rfl⟩
 rintro a w ⟨t31, hf, hO, hm⟩
 rw [zaV] at hm
 refine S.co tb ?_ hf hO hm
 exact rt Tryz.results5 rfl

theorem zmU (x_x : api_Swap) (R : api_Swap) (w0 : World) (hG : zr w0) (hm : zhr x_x = some R) :
    Calls Tryz.prog 44 #[.agg #[str x_x.From, str x_x.To]] w0 (Ret w0 (fun R => .agg #[str R.From, str R.To]) R) := by
 rw [zhr] at hm
 have hF : zs [] := ze
 have hO : Dk.Own w0 [] w0 [] := Dk.Own.refl w0
 refine S.enter tb Tryz.func44 rfl Tryz.ntmps44 rfl ?_ hO hm
 refine bo rfl fun b1 => ?_
 refine al zv5 rfl fun b2 => ?_
 refine rc_ rfl fun a w hf hO hm => ?_
 obtain ⟨s4, hs4, hm⟩ := ob hm
 obtain ⟨s5, hs5, hm⟩ := ob hm
 refine zav (S := Unit) (E0 := [(1, ptr b1 0), (2, ptr b2 0)]) (by kernel_rfl) (fun k σ w => match k with | 0 => Dk.Own w0 [] w [.blk b2 [str [], str []] 98, .blk b1 [str x_x.From, str x_x.To] 98] | _ => Dk.Own w0 [] w [.blk b2 [str s4, str s5] 98, .blk b1 [str x_x.From, str x_x.To] 98]) (fun σ => [⟨[(1, ptr b1 0)], some (3, ptr b1 0)⟩, ⟨[(3, ptr b1 0)], some (4, str x_x.From)⟩, ⟨[(1, ptr b1 0)], some (5, ptr b1 0)⟩, ⟨[(5, ptr b1 0)], some (6, str x_x.From)⟩, ⟨[(6, str x_x.From)], some (7, int (x_x.From.length : Int))⟩, ⟨[(7, int (x_x.From.length : Int))], some (8, int (min (x_x.From.length : Int) 60))⟩, ⟨[(4, str x_x.From), (8, int (min (x_x.From.length : Int) 60))], some (9, str s4)⟩, ⟨[(1, ptr b1 0)], some (10, ptr b1 1)⟩, ⟨[(10, ptr b1 1)], some (11, str x_x.To)⟩, ⟨[(1, ptr b1 0)], some (12, ptr b1 1)⟩, ⟨[(12, ptr b1 1)], some (13, str x_x.To)⟩, ⟨[(13, str x_x.To)], some (14, int (x_x.To.length : Int))⟩, ⟨[(14, int (x_x.To.length : Int))], some (15, int (min (x_x.To.length : Int) 60))⟩, ⟨[(11, str x_x.To), (15, int (min (x_x.To.length : Int) 60))], some (16, str s5)⟩, ⟨[(9, str s4), (16, str s5)], some (17, .agg #[str s4, str s5])⟩, ⟨[(2, ptr b2 0), (17, .agg #[str s4, str s5])], none⟩]) () [15] rfl (fun _ => rfl) (fun _ => rfl) (fun _ => rfl) rfl rfl (by decide) rfl hO.drew (hf.cons rfl (hf.cons rfl hf.nil)) (fun σ => ⟨⟨rfl, trivial⟩, ⟨rfl, trivial⟩, ⟨rfl, trivial⟩, ⟨rfl, trivial⟩, ⟨rfl, trivial⟩, ⟨rfl, trivial⟩, ⟨rfl, rfl, trivial⟩, ⟨rfl, trivial⟩, ⟨rfl, trivial⟩, ⟨rfl, trivial⟩, ⟨rfl, trivial⟩, ⟨rfl, trivial⟩, ⟨rfl, trivial⟩, ⟨rfl, rfl, trivial⟩, ⟨rfl, rfl, trivial⟩, ⟨rfl, rfl, trivial⟩, trivial⟩) ⟨zd rfl (fun σ => rfl) (fun σ => rfl) (fun σ a w k _ _ _ _ hf => zz zlO hf rfl), zd rfl (fun σ => rfl) (fun σ => rfl) (fun σ a w k hk hlo hup hst hf => match k, hk, hlo, hup, hst, hf with | 0, _, _, _, hst, hf => have hO : Dk.Own w0 [] w _ := hst; zf (o := 0) zX (hO.blkSees (i := 1) rfl) rfl hf rfl | 1, _, _, _, hst, hf => have hO : Dk.Own w0 [] w _ := hst; zf (o := 0) zX (hO.blkSees (i := 1) rfl) rfl hf rfl | k + 2, hk, _, _, _, _ => absurd hk (by simp)), zd rfl (fun σ => rfl) (fun σ => rfl) (fun σ a w k _ _ _ _ hf => zz zlO hf rfl), zd rfl (fun σ => rfl) (fun σ => rfl) (fun σ a w k hk hlo hup hst hf => match k, hk, hlo, hup, hst, hf with | 0, _, _, _, hst, hf => have hO : Dk.Own w0 [] w _ := hst; zf (o := 0) zX (hO.blkSees (i := 1) rfl) rfl hf rfl | 1, _, _, _, hst, hf => have hO : Dk.Own w0 [] w _ := hst; zf (o := 0) zX (hO.blkSees (i := 1) rfl) rfl hf rfl | k + 2, hk, _, _, _, _ => absurd hk (by simp)), zd rfl (fun σ => rfl) (fun σ => rfl) (fun σ a w k _ _ _ _ hf => zgA (l := x_x.From) Tryz.underlying9 hf rfl), zd rfl (fun σ => rfl) (fun σ => rfl) (fun σ a w k _ _ _ _ hf => znv (m := (x_x.From.length : Int)) (n := 60) hf rfl rfl), zd rfl (fun σ => rfl) (fun σ => rfl) (fun σ a w k _ _ _ _ hf => zhx (l := x_x.From) Tryz.underlying9 hf rfl rfl hs4), zd rfl (fun σ => rfl) (fun σ => rfl) (fun σ a w k _ _ _ _ hf => zz zlP hf rfl), zd rfl (fun σ => rfl) (fun σ => rfl) (fun σ a w k hk hlo hup hst hf => match k, hk, hlo, hup, hst, hf with | 0, _, _, _, hst, hf => have hO : Dk.Own w0 [] w _ := hst; zf (o := 1) zX (hO.blkSees (i := 1) rfl) rfl hf rfl | 1, _, _, _, hst, hf => have hO : Dk.Own w0 [] w _ := hst; zf (o := 1) zX (hO.blkSees (i := 1) rfl) rfl hf rfl | k + 2, hk, _, _, _, _ => absurd hk (by simp)), zd rfl (fun σ => rfl) (fun σ => rfl) (fun σ a w k _ _ _ _ hf => zz zlP hf rfl), zd rfl (fun σ => rfl) (fun σ => rfl) (fun σ a w k hk hlo hup hst hf => match k, hk, hlo, hup, hst, hf with | 0, _, _, _, hst, hf => have hO : Dk.Own w0 [] w _ := hst; zf (o := 1) zX (hO.blkSees (i := 1) rfl) rfl hf rfl | 1, _, _, _, hst, hf => have hO : Dk.Own w0 [] w _ := hst; zf (o := 1) zX (hO.blkSees (i := 1) rfl) rfl hf rfl | k + 2, hk, _, _, _, _ => absurd hk (by simp)), zd rfl (fun σ => rfl) (fun σ => rfl) (fun σ a w k _ _ _ _ hf => zgA (l := x_x.To) Tryz.underlying9 hf rfl), zd rfl (fun σ => rfl) (fun σ => rfl) (fun σ a w k _ _ _ _ hf => znv (m := (x_x.To.length : Int)) (n := 60) hf rfl rfl), zd rfl (fun σ => rfl) (fun σ => rfl) (fun σ a w k _ _ _ _ hf => zhx (l := x_x.To) Tryz.underlying9 hf rfl rfl hs5), zd rfl (fun σ => rfl) (fun σ => rfl) (fun σ a w k _ _ _ _ hf => zt (vs := [(0, str s4), (1, str s5)]) (v := .agg #[str s4, str s5]) hf rfl (by kernel_rfl)), zbC rfl (fun σ => rfl) (fun σ => rfl) rfl (fun σ w (hO : Dk.Own w0 [] w _) => by obtain ⟨w', hO', hr⟩ := zeq (x := (.tmp 2)) (y := (.tmp 17)) (E := [(2, ptr b2 0), (17, .agg #[str s4, str s5])]) (i := 0) (n := 2) (vs := [str s4, str s5]) zfe rfl rfl rfl (by simp [Value.oneCell']) hO rfl rfl; exact ⟨(), w', hO', ⟨.inr rfl, .inr rfl, .inr rfl, .inr rfl, .inr rfl, .inr rfl, .inr rfl, .inr rfl, .inr rfl, .inr rfl, .inr rfl, .inr rfl, .inr rfl, .inr rfl, .inr rfl, .inr rfl, trivial⟩, hr⟩), trivial⟩ ?_
 rintro _ a w hf hO
 have hO : Dk.Own w0 [] w _ := hO
 have hf : Fits 18 [(2, ptr b2 0)] a := (hf.cons rfl hf.nil)
 refine S.no tb ?_ hf hO hm
 refine re_ rfl fun a w hf hO hm => ?_
 obtain rfl := Option.some.inj hm
 exact zh Tryz.results44 hf (.cell rfl (zk (n := 2) (vs := [str s4, str s5]) zj9 zfe rfl ((hO.blkSees (i := 0) rfl).cells (o := 0) (n := 2) rfl)) .nil) ⟨rfl, hO.below⟩

theorem zsr (x_a0 : api_Env) (R : api_Env) (w0 : World) (hG : zr w0) {x_a0_p0 : Option Addr} {x_a0_c0 : Nat} (hs0 : zD w0 x_a0_p0 (cells zb x_a0.Domains)) (hc0 : x_a0.Domains.length ≤ x_a0_c0) {x_a0_p1 : Option Addr} {x_a0_c1 : Nat} (hs1 : zD w0 x_a0_p1 (cells zb x_a0.Locations)) (hc1 : x_a0.Locations.length ≤ x_a0_c1) (hm : zj1 x_a0 = some R) :
    Calls Tryz.prog 17 #[.agg #[str x_a0.Client, str x_a0.Host, str x_a0.Scheme, str x_a0.By, .slice x_a0_p0 x_a0.Domains.length x_a0_c0, .slice x_a0_p1 x_a0.Locations.length x_a0_c1]] w0 fun e w' => ∃ (p0 : Option Addr) (c0 : Nat) (p1 : Option Addr) (c1 : Nat), e = .returned (.agg #[str R.Client, str R.Host, str R.Scheme, str R.By, .slice p0 R.Domains.length c0, .slice p1 R.Locations.length c1]) ∧ Dk.Own w0 [] w' [.row (.slice p0 R.Domains.length c0) 98 2 R.Domains.length (cells zb R.Domains), .row (.slice p1 R.Locations.length c1) 98 2 R.Locations.length (cells zb R.Locations)] := by
 rw [zj1] at hm
 have hF : zs [] := ze
 have hO : Dk.Own w0 [] w0 [] := Dk.Own.refl w0
 have hO := hO.addShr hs0 (by simp [Res.shared])
 have hO := hO.addShr hs1 (by simp [Res.shared])
 refine S.enter tb Tryz.func17 rfl Tryz.ntmps17 rfl ?_ hO hm
 refine bo rfl fun b1 => ?_
 refine al zs3 rfl fun b2 => ?_
 refine nl 98 2 ?_
 refine nl 98 2 ?_
 refine ld 3 rfl rfl ?_
 refine ld 3 rfl rfl ?_
 refine ld 3 rfl rfl ?_
 refine ld 3 rfl rfl ?_
 refine vl rfl rfl (fun a w hf hO => zt (vs := [(0, str x_a0.Client), (1, str x_a0.Host), (2, str x_a0.Scheme), (3, str x_a0.By)]) (v := .agg #[str x_a0.Client, str x_a0.Host, str x_a0.Scheme, str x_a0.By]) hf rfl (by kernel_rfl)) ?_
 refine al al_96 rfl fun b4 => ?_
 refine st 0 rfl rfl ?_
 refine jv 0 [1, 2, 3] [1, 2, 3, 4, 5, 6] (fun J E L => ∃ (s22 : Str) (s23 : Str) (s24 : Str) (s25 : Str), J (E) (.blk b4 [str s22, str s23, str s24, str s25] 96 :: L) (ziw x_a0 s22 s23 s24 s25)) rfl ?_ ?_
 refine lv [1, 2, 3] [1, 2, 3, 4, 5, 6] (fun J E L k => ∃ (s7 : Str) (s8 : Str) (s9 : Str) (s10 : Str) (i11 : Int), J ((4, int i11) :: E) (.blk b4 [str s7, str s8, str s9, str s10] 96 :: L) (zbT x_a0 k s7 s8 s9 s10 i11)) rfl (fun _ _ j => ⟨x_a0.Client, x_a0.Host, x_a0.Scheme, x_a0.By, 0, j rfl⟩) ?_
 rintro n1 a w ⟨s7, s8, s9, s10, i11, hf, hO, hm⟩
 obtain _ | n1 := n1
 rw [zbT] at hm
 cases hm
 rw [zbT] at hm
 refine S.co tb ?_ hf hO hm
 refine br rfl (fun hc13 => ?_) fun hc13 => ?_
 refine rc_ rfl fun a w hf hO hm => ?_
 obtain ⟨x15, hx15, hm⟩ := ob hm
 have hAx15 := zrz (n := 4) (b := b4) (xs := [s7, s8, s9, s10]) (m := i11) 96 Tryz.underlying96 zfB rfl hx15
 obtain ⟨x16, hx16, hm⟩ := ob hm
 have hAx16 := zrz (n := 4) (b := b4) (xs := [s7, s8, s9, s10]) (m := i11) 96 Tryz.underlying96 zfB rfl hx16
 obtain ⟨s17, hs17, hm⟩ := ob hm
 obtain ⟨x18, hx18, hm⟩ := ob hm
 have hAx18 := zrz (n := 4) (b := b4) (xs := [s7, s8, s9, s10]) (m := i11) 96 Tryz.underlying96 zfB rfl hx18
 obtain ⟨r19, hr19, hm⟩ := ob hm
 refine zav (S := Unit) (E0 := [(1, ptr b1 0), (2, ptr b2 0), (3, ptr b4 0), (4, int i11)]) (by kernel_rfl) (fun k σ w => match k with | 0 => Dk.Own w0 [] w [.blk b4 [str s7, str s8, str s9, str s10] 96, .row (.slice none 0 0) 98 2 0 (cells zb []), .row (.slice none 0 0) 98 2 0 (cells zb []), .blk b2 [str [], str [], str [], str [], .slice none 0 0, .slice none 0 0] 24, .blk b1 [str x_a0.Client, str x_a0.Host, str x_a0.Scheme, str x_a0.By, .slice x_a0_p0 x_a0.Domains.length x_a0_c0, .slice x_a0_p1 x_a0.Locations.length x_a0_c1] 24, .shr x_a0_p1 (cells zb x_a0.Locations), .shr x_a0_p0 (cells zb x_a0.Domains)] | _ => Dk.Own w0 [] w [.blk b4 [str r19.1, str r19.2.1, str r19.2.2.1, str r19.2.2.2] 96, .row (.slice none 0 0) 98 2 0 (cells zb []), .row (.slice none 0 0) 98 2 0 (cells zb []), .blk b2 [str [], str [], str [], str [], .slice none 0 0, .slice none 0 0] 24, .blk b1 [str x_a0.Client, str x_a0.Host, str x_a0.Scheme, str x_a0.By, .slice x_a0_p0 x_a0.Domains.length x_a0_c0, .slice x_a0_p1 x_a0.Locations.length x_a0_c1] 24, .shr x_a0_p1 (cells zb x_a0.Locations), .shr x_a0_p0 (cells zb x_a0.Domains)]) (fun σ => [⟨[(4, int i11)], some (21, int i11)⟩, ⟨[(4, int i11)], some (22, int i11)⟩, ⟨[(3, ptr b4 0), (22, int i11)], some (23, ptr b4 i11.toNat)⟩, ⟨[(23, ptr b4 i11.toNat)], some (24, str x15)⟩, ⟨[(4, int i11)], some (25, int i11)⟩, ⟨[(3, ptr b4 0), (25, int i11)], some (26, ptr b4 i11.toNat)⟩, ⟨[(26, ptr b4 i11.toNat)], some (27, str x16)⟩, ⟨[(27, str x16)], some (28, int (x16.length : Int))⟩, ⟨[(28, int (x16.length : Int))], some (29, int (min (x16.length : Int) 60))⟩, ⟨[(24, str x15), (29, int (min (x16.length : Int) 60))], some (30, str s17)⟩, ⟨[(3, ptr b4 0), (21, int i11)], some (31, ptr b4 i11.toNat)⟩, ⟨[(30, str s17), (31, ptr b4 i11.toNat)], none⟩]) () [11] rfl (fun _ => rfl) (fun _ => rfl) (fun _ => rfl) rfl rfl (by decide) rfl hO.drew (hf.cons rfl (hf.cons rfl (hf.cons rfl (hf.cons rfl hf.nil)))) (fun σ => ⟨⟨rfl, trivial⟩, ⟨rfl, trivial⟩, ⟨rfl, rfl, trivial⟩, ⟨rfl, trivial⟩, ⟨rfl, trivial⟩, ⟨rfl, rfl, trivial⟩, ⟨rfl, trivial⟩, ⟨rfl, trivial⟩, ⟨rfl, trivial⟩, ⟨rfl, rfl, trivial⟩, ⟨rfl, rfl, trivial⟩, ⟨rfl, rfl, trivial⟩, trivial⟩) ⟨zd rfl (fun σ => rfl) (fun σ => rfl) (fun σ a w k _ _ _ _ hf => zp hf rfl), zd rfl (fun σ => rfl) (fun σ => rfl) (fun σ a w k _ _ _ _ hf => zp hf rfl), zd rfl (fun σ => rfl) (fun σ => rfl) (fun σ a w k _ _ _ _ hf => zdq hAx15.1 hf rfl rfl), zd rfl (fun σ => rfl) (fun σ => rfl) (fun σ a w k hk hlo hup hst hf => match k, hk, hlo, hup, hst, hf with | 0, _, _, _, hst, hf => have hO : Dk.Own w0 [] w _ := hst; zf (o := 0) zX ((fun w h => hAx15.2 w h) _ (hO.blkSees (i := 0) rfl)) rfl hf rfl | 1, _, _, hup, _, _ => absurd (hup 0 (by decide) (by kernel_rfl)) (by decide) | k + 2, hk, _, _, _, _ => absurd hk (by simp)), zd rfl (fun σ => rfl) (fun σ => rfl) (fun σ a w k _ _ _ _ hf => zp hf rfl), zd rfl (fun σ => rfl) (fun σ => rfl) (fun σ a w k _ _ _ _ hf => zdq hAx16.1 hf rfl rfl), zd rfl (fun σ => rfl) (fun σ => rfl) (fun σ a w k hk hlo hup hst hf => match k, hk, hlo, hup, hst, hf with | 0, _, _, _, hst, hf => have hO : Dk.Own w0 [] w _ := hst; zf (o := 0) zX ((fun w h => hAx16.2 w h) _ (hO.blkSees (i := 0) rfl)) rfl hf rfl | 1, _, _, hup, _, _ => absurd (hup 0 (by decide) (by kernel_rfl)) (by decide) | k + 2, hk, _, _, _, _ => absurd hk (by simp)), zd rfl (fun σ => rfl) (fun σ => rfl) (fun σ a w k _ _ _ _ hf => zgA (l := x16) Tryz.underlying9 hf rfl), zd rfl (fun σ => rfl) (fun σ => rfl) (fun σ a w k _ _ _ _ hf => znv (m := (x16.length : Int)) (n := 60) hf rfl rfl), zd rfl (fun σ => rfl) (fun σ => rfl) (fun σ a w k _ _ _ _ hf => zhx (l := x15) Tryz.underlying9 hf rfl rfl hs17), zd rfl (fun σ => rfl) (fun σ => rfl) (fun σ a w k _ _ _ _ hf => zdq hAx18.1 hf rfl rfl), zbC rfl (fun σ => rfl) (fun σ => rfl) rfl (fun σ w (hO : Dk.Own w0 [] w _) => by obtain ⟨w', hO', hr⟩ := zsE (x := (.tmp 31)) (y := (.tmp 30)) (E := [(30, str s17), (31, ptr b4 i11.toNat)]) (i := 0) (xs := [s7, s8, s9, s10]) (ys := [r19.1, r19.2.1, r19.2.2.1, r19.2.2.2]) (m := i11) (v := s17) zfB rfl (zuS hr19) hO rfl rfl; exact ⟨(), w', hO', ⟨.inr rfl, .inr rfl, .inr rfl, .inr rfl, .inr rfl, .inr rfl, .inr rfl, .inr rfl, .inr rfl, .inr rfl, .inr rfl, .inr rfl, trivial⟩, hr⟩), trivial⟩ ?_
 rintro _ a w hf hO
 have hO : Dk.Own w0 [] w _ := hO
 have hf : Fits 86 [(1, ptr b1 0), (2, ptr b2 0), (3, ptr b4 0), (4, int i11)] a := (hf.cons rfl (hf.cons rfl (hf.cons rfl (hf.cons rfl hf.nil))))
 refine S.no tb ?_ hf hO hm
 refine bi rfl fun i21 hi21 => ?_
 exact en rfl fun _ _ j => ⟨_, Nat.lt_succ_self _, r19.1, r19.2.1, r19.2.2.1, r19.2.2.2, i21, j rfl⟩
 exact en rfl fun _ _ j => ⟨s7, s8, s9, s10, j rfl⟩
 rintro a w ⟨s22, s23, s24, s25, hf, hO, hm⟩
 rw [ziw] at hm
 refine S.co tb ?_ hf hO hm
 refine rw_ rfl fun a w hf hO hm => ?_
 refine zR (zdq (zxi _) hf rfl rfl) rfl hf rfl rfl fun a hf => ?_
 refine S.op tb ?_ hf hO hm
 refine ld 0 rfl rfl ?_
 refine rw_ rfl fun a w hf hO hm => ?_
 refine zR (zdq (zxj _) hf rfl rfl) rfl hf rfl rfl fun a hf => ?_
 refine S.op tb ?_ hf hO hm
 refine ld 0 rfl rfl ?_
 refine rw_ rfl fun a w hf hO hm => ?_
 refine zR (zdq (zxk _) hf rfl rfl) rfl hf rfl rfl fun a hf => ?_
 refine S.op tb ?_ hf hO hm
 refine ld 0 rfl rfl ?_
 refine rw_ rfl fun a w hf hO hm => ?_
 refine zR (zdq (zxl _) hf rfl rfl) rfl hf rfl rfl fun a hf => ?_
 refine S.op tb ?_ hf hO hm
 refine ld 0 rfl rfl ?_
 refine vl rfl rfl (fun a w hf hO => zt (vs := [(0, str s22), (1, str s23), (2, str s24), (3, str s25)]) (v := .agg #[str s22, str s23, str s24, str s25, .slice none 0 0, .slice none 0 0]) hf rfl (by kernel_rfl)) ?_
 refine al zs3 rfl fun b26 => ?_
 refine nl 98 2 ?_
 refine nl 98 2 ?_
 refine st 2 rfl rfl ?_
 refine nl 98 2 ?_
 refine nl 98 2 ?_
 refine jv 0 [1, 2, 5] [2, 3, 5, 6, 7, 8, 9, 10, 11] (fun J E L => ∃ (s54 : Str) (s55 : Str) (s56 : Str) (s57 : Str) (p58 : Option Addr) (c59 : Nat) (l60 : List api_Swap) (p61 : Option Addr) (c62 : Nat) (l63 : List api_Swap), J (E) (.row (.slice p61 l63.length c62) 98 2 l63.length (cells zb l63) :: .row (.slice p58 l60.length c59) 98 2 l60.length (cells zb l60) :: .blk b26 [str s54, str s55, str s56, str s57, .slice p58 l60.length c59, .slice p61 l63.length c62] 24 :: L) (ziv x_a0 s54 s55 s56 s57 l60 l63)) rfl ?_ ?_
 refine ch [0, 1, 4, 2, 3, 5, 6, 7, 8, 9, 10, 11] rfl rfl ?_
 refine lv [1, 2, 5] [3, 4, 5, 6, 7, 8, 9, 10, 11] (fun J E L k => ∃ (p29 : Option Addr) (c30 : Nat) (l31 : List api_Swap) (s32 : Str) (s33 : Str) (s34 : Str) (s35 : Str) (p36 : Option Addr) (c37 : Nat) (l38 : List api_Swap) (i39 : Int), J ((6, int i39) :: E) (.row (.slice p36 l38.length c37) 98 2 l38.length (cells zb l38) :: .row (.slice p29 l31.length c30) 98 2 l31.length (cells zb l31) :: .blk b26 [str s32, str s33, str s34, str s35, .slice p29 l31.length c30, .slice p36 l38.length c37] 24 :: L) (zcr x_a0 k l31 s32 s33 s34 s35 l38 i39)) rfl (fun _ _ j => ⟨none, 0, [], s22, s23, s24, s25, none, 0, [], 0, j rfl⟩) ?_
 rintro n3 a w ⟨p29, c30, l31, s32, s33, s34, s35, p36, c37, l38, i39, hf, hO, hm⟩
 obtain _ | n3 := n3
 rw [zcr] at hm
 cases hm
 rw [zcr] at hm
 refine S.co tb ?_ hf hO hm
 refine jv 4 [1, 2, 5, 6] [0, 1, 2, 3, 4, 5, 6, 7, 8, 9, 10, 11] (fun J E L => ∃ (t41 : Bool), J ((49, .bool t41) :: E) (L) (zg3 (zcr x_a0 n3) x_a0 l31 s32 s33 s34 s35 l38 i39 t41)) rfl ?_ ?_
 refine ld 9 rfl rfl ?_
 refine br rfl (fun hc40 => ?_) fun hc40 => ?_
 exact en rfl fun _ _ j => ⟨decide (i39 < 6), j rfl⟩
 exact en rfl fun _ _ j => ⟨false, j rfl⟩
 rintro a w ⟨t41, hf, hO, hm⟩
 rw [zg3] at hm
 refine S.co tb ?_ hf hO hm
 refine br rfl (fun hc42 => ?_) fun hc42 => ?_
 refine rc_ rfl fun a w hf hO hm => ?_
 obtain ⟨x44, hx44, hm⟩ := ob hm
 obtain ⟨b45, o46, hix44, hSx44⟩ := zaD (enc := zb) (sz := 2) (xs := x_a0.Domains) 22 Tryz.underlying22 zfe (by decide) (fun _ => rfl) (hO.sees (i := 11) rfl) hx44
 obtain ⟨r47, hr47, hm⟩ := ob hm
 obtain ⟨hg51, hm⟩ := og hm
 refine zav (S := Nat × Option Addr × Nat) (E0 := [(1, ptr b1 0), (2, ptr b2 0), (5, ptr b26 0), (6, int i39)]) (by kernel_rfl) (fun k σ w => match k with | 0 => Dk.Own w0 [] w [.row (.slice p36 l38.length c37) 98 2 l38.length (cells zb l38), .row (.slice p29 l31.length c30) 98 2 l31.length (cells zb l31), .blk b26 [str s32, str s33, str s34, str s35, .slice p29 l31.length c30, .slice p36 l38.length c37] 24, .row (.slice none 0 0) 98 2 0 (cells zb []), .row (.slice none 0 0) 98 2 0 (cells zb []), .blk b4 [str s22, str s23, str s24, str s25] 96, .row (.slice none 0 0) 98 2 0 (cells zb []), .row (.slice none 0 0) 98 2 0 (cells zb []), .blk b2 [str [], str [], str [], str [], .slice none 0 0, .slice none 0 0] 24, .blk b1 [str x_a0.Client, str x_a0.Host, str x_a0.Scheme, str x_a0.By, .slice x_a0_p0 x_a0.Domains.length x_a0_c0, .slice x_a0_p1 x_a0.Locations.length x_a0_c1] 24, .shr x_a0_p1 (cells zb x_a0.Locations), .shr x_a0_p0 (cells zb x_a0.Domains)] | 1 => Dk.Own w0 [] w [.row (.slice p36 l38.length c37) 98 2 l38.length (cells zb l38), .row (.slice p29 l31.length c30) 98 2 l31.length (cells zb l31), .blk b26 [str s32, str s33, str s34, str s35, .slice p29 l31.length c30, .slice p36 l38.length c37] 24, .row (.slice none 0 0) 98 2 0 (cells zb []), .row (.slice none 0 0) 98 2 0 (cells zb []), .blk b4 [str s22, str s23, str s24, str s25] 96, .row (.slice none 0 0) 98 2 0 (cells zb []), .row (.slice none 0 0) 98 2 0 (cells zb []), .blk b2 [str [], str [], str [], str [], .slice none 0 0, .slice none 0 0] 24, .blk b1 [str x_a0.Client, str x_a0.Host, str x_a0.Scheme, str x_a0.By, .slice x_a0_p0 x_a0.Domains.length x_a0_c0, .slice x_a0_p1 x_a0.Locations.length x_a0_c1] 24, .shr x_a0_p1 (cells zb x_a0.Locations), .shr x_a0_p0 (cells zb x_a0.Domains)] | 2 => Dk.Own w0 [] w [.row (.slice (some ⟨(σ.1), 0, none⟩) ([r47].length) 1) 98 2 ([r47].length) (cells zb [r47]), .row (.slice p36 l38.length c37) 98 2 l38.length (cells zb l38), .row (.slice p29 l31.length c30) 98 2 l31.length (cells zb l31), .blk b26 [str s32, str s33, str s34, str s35, .slice p29 l31.length c30, .slice p36 l38.length c37] 24, .row (.slice none 0 0) 98 2 0 (cells zb []), .row (.slice none 0 0) 98 2 0 (cells zb []), .blk b4 [str s22, str s23, str s24, str s25] 96, .row (.slice none 0 0) 98 2 0 (cells zb []), .row (.slice none 0 0) 98 2 0 (cells zb []), .blk b2 [str [], str [], str [], str [], .slice none 0 0, .slice none 0 0] 24, .blk b1 [str x_a0.Client, str x_a0.Host, str x_a0.Scheme, str x_a0.By, .slice x_a0_p0 x_a0.Domains.length x_a0_c0, .slice x_a0_p1 x_a0.Locations.length x_a0_c1] 24, .shr x_a0_p1 (cells zb x_a0.Locations), .shr x_a0_p0 (cells zb x_a0.Domains)] | 3 => Dk.Own w0 [] w [.row (.slice (some ⟨(σ.1), 0, none⟩) ([r47].length) 1) 98 2 ([r47].length) (cells zb [r47]), .row (.slice p36 l38.length c37) 98 2 l38.length (cells zb l38), .row (.slice (σ.2.1) ((l31 ++ [r47]).length) (σ.2.2)) 98 2 ((l31 ++ [r47]).length) (cells zb (l31 ++ [r47])), .blk b26 [str s32, str s33, str s34, str s35, .slice p29 l31.length c30, .slice p36 l38.length c37] 24, .row (.slice none 0 0) 98 2 0 (cells zb []), .row (.slice none 0 0) 98 2 0 (cells zb []), .blk b4 [str s22, str s23, str s24, str s25] 96, .row (.slice none 0 0) 98 2 0 (cells zb []), .row (.slice none 0 0) 98 2 0 (cells zb []), .blk b2 [str [], str [], str [], str [], .slice none 0 0, .slice none 0 0] 24, .blk b1 [str x_a0.Client, str x_a0.Host, str x_a0.Scheme, str x_a0.By, .slice x_a0_p0 x_a0.Domains.length x_a0_c0, .slice x_a0_p1 x_a0.Locations.length x_a0_c1] 24, .shr x_a0_p1 (cells zb x_a0.Locations), .shr x_a0_p0 (cells zb x_a0.Domains)] | _ => Dk.Own w0 [] w [.row (.slice (some ⟨(σ.1), 0, none⟩) ([r47].length) 1) 98 2 ([r47].length) (cells zb [r47]), .row (.slice p36 l38.length c37) 98 2 l38.length (cells zb l38), .row (.slice (σ.2.1) ((l31 ++ [r47]).length) (σ.2.2)) 98 2 ((l31 ++ [r47]).length) (cells zb (l31 ++ [r47])), .blk b26 [str s32, str s33, str s34, str s35, .slice (σ.2.1) ((l31 ++ [r47]).length) (σ.2.2), .slice p36 l38.length c37] 24, .row (.slice none 0 0) 98 2 0 (cells zb []), .row (.slice none 0 0) 98 2 0 (cells zb []), .blk b4 [str s22, str s23, str s24, str s25] 96, .row (.slice none 0 0) 98 2 0 (cells zb []), .row (.slice none 0 0) 98 2 0 (cells zb []), .blk b2 [str [], str [], str [], str [], .slice none 0 0, .slice none 0 0] 24, .blk b1 [str x_a0.Client, str x_a0.Host, str x_a0.Scheme, str x_a0.By, .slice x_a0_p0 x_a0.Domains.length x_a0_c0, .slice x_a0_p1 x_a0.Locations.length x_a0_c1] 24, .shr x_a0_p1 (cells zb x_a0.Locations), .shr x_a0_p0 (cells zb x_a0.Domains)]) (fun σ => [⟨[(5, ptr b26 0)], some (52, ptr b26 4)⟩, ⟨[(52, ptr b26 4)], some (53, .slice p29 l31.length c30)⟩, ⟨[(1, ptr b1 0)], some (54, ptr b1 4)⟩, ⟨[(54, ptr b1 4)], some (55, .slice x_a0_p0 x_a0.Domains.length x_a0_c0)⟩, ⟨[(6, int i39)], some (56, int i39)⟩, ⟨[(55, .slice x_a0_p0 x_a0.Domains.length x_a0_c0), (56, int i39)], some (57, ptr b45 o46)⟩, ⟨[(57, ptr b45 o46)], some (58, .agg #[str x44.From, str x44.To])⟩, ⟨[(58, .agg #[str x44.From, str x44.To])], some (59, .agg #[str r47.From, str r47.To])⟩, ⟨[(59, .agg #[str r47.From, str r47.To])], some (60, .slice (some ⟨(σ.1), 0, none⟩) ([r47].length) 1)⟩, ⟨[(53, .slice p29 l31.length c30), (60, .slice (some ⟨(σ.1), 0, none⟩) ([r47].length) 1)], some (61, .slice (σ.2.1) ((l31 ++ [r47]).length) (σ.2.2))⟩, ⟨[(5, ptr b26 0)], some (62, ptr b26 4)⟩, ⟨[(61, .slice (σ.2.1) ((l31 ++ [r47]).length) (σ.2.2)), (62, ptr b26 4)], none⟩]) (0, none, 0) [7, 8, 9, 11] rfl (fun _ => rfl) (fun _ => rfl) (fun _ => rfl) rfl rfl (by decide) rfl hO.drew (hf.cons rfl (hf.cons rfl (hf.cons rfl (hf.cons rfl hf.nil)))) (fun σ => ⟨⟨rfl, trivial⟩, ⟨rfl, trivial⟩, ⟨rfl, trivial⟩, ⟨rfl, trivial⟩, ⟨rfl, trivial⟩, ⟨rfl, rfl, trivial⟩, ⟨rfl, trivial⟩, ⟨rfl, trivial⟩, ⟨rfl, trivial⟩, ⟨rfl, rfl, trivial⟩, ⟨rfl, trivial⟩, ⟨rfl, rfl, trivial⟩, trivial⟩) ⟨zd rfl (fun σ => rfl) (fun σ => rfl) (fun σ a w k _ _ _ _ hf => zz zoO hf rfl), zd rfl (fun σ => rfl) (fun σ => rfl) (fun σ a w k hk hlo hup hst hf => match k, hk, hlo, hup, hst, hf with | 0, _, _, _, hst, hf => have hO : Dk.Own w0 [] w _ := hst; zf (o := 4) zhb (hO.blkSees (i := 2) rfl) rfl hf rfl | 1, _, _, _, hst, hf => have hO : Dk.Own w0 [] w _ := hst; zf (o := 4) zhb (hO.blkSees (i := 2) rfl) rfl hf rfl | 2, _, _, _, hst, hf => have hO : Dk.Own w0 [] w _ := hst; zf (o := 4) zhb (hO.blkSees (i := 3) rfl) rfl hf rfl | 3, _, _, _, hst, hf => have hO : Dk.Own w0 [] w _ := hst; zf (o := 4) zhb (hO.blkSees (i := 3) rfl) rfl hf rfl | 4, _, _, hup, _, _ => absurd (hup 2 (by decide) (by kernel_rfl)) (by decide) | k + 5, hk, _, _, _, _ => absurd hk (by simp)), zd rfl (fun σ => rfl) (fun σ => rfl) (fun σ a w k _ _ _ _ hf => zz zoO hf rfl), zd rfl (fun σ => rfl) (fun σ => rfl) (fun σ a w k hk hlo hup hst hf => match k, hk, hlo, hup, hst, hf with | 0, _, _, _, hst, hf => have hO : Dk.Own w0 [] w _ := hst; zf (o := 4) zhb (hO.blkSees (i := 9) rfl) rfl hf rfl | 1, _, _, _, hst, hf => have hO : Dk.Own w0 [] w _ := hst; zf (o := 4) zhb (hO.blkSees (i := 9) rfl) rfl hf rfl | 2, _, _, _, hst, hf => have hO : Dk.Own w0 [] w _ := hst; zf (o := 4) zhb (hO.blkSees (i := 10) rfl) rfl hf rfl | 3, _, _, _, hst, hf => have hO : Dk.Own w0 [] w _ := hst; zf (o := 4) zhb (hO.blkSees (i := 10) rfl) rfl hf rfl | 4, _, _, _, hst, hf => have hO : Dk.Own w0 [] w _ := hst; zf (o := 4) zhb (hO.blkSees (i := 10) rfl) rfl hf rfl | k + 5, hk, _, _, _, _ => absurd hk (by simp)), zd rfl (fun σ => rfl) (fun σ => rfl) (fun σ a w k _ _ _ _ hf => zp hf rfl), zd rfl (fun σ => rfl) (fun σ => rfl) (fun σ a w k _ _ _ _ hf => zi hix44 hf rfl rfl), zd rfl (fun σ => rfl) (fun σ => rfl) (fun σ a w k hk hlo hup hst hf => match k, hk, hlo, hup, hst, hf with | 0, _, _, _, hst, hf => have hO : Dk.Own w0 [] w _ := hst; zq (o := 0) (vs := [str x44.From, str x44.To]) zj9 zfe (hSx44 _ (hO.sees (i := 11) rfl)) rfl rfl hf rfl | 1, _, _, _, hst, hf => have hO : Dk.Own w0 [] w _ := hst; zq (o := 0) (vs := [str x44.From, str x44.To]) zj9 zfe (hSx44 _ (hO.sees (i := 11) rfl)) rfl rfl hf rfl | 2, _, _, _, hst, hf => have hO : Dk.Own w0 [] w _ := hst; zq (o := 0) (vs := [str x44.From, str x44.To]) zj9 zfe (hSx44 _ (hO.sees (i := 12) rfl)) rfl rfl hf rfl | 3, _, _, _, hst, hf => have hO : Dk.Own w0 [] w _ := hst; zq (o := 0) (vs := [str x44.From, str x44.To]) zj9 zfe (hSx44 _ (hO.sees (i := 12) rfl)) rfl rfl hf rfl | 4, _, _, _, hst, hf => have hO : Dk.Own w0 [] w _ := hst; zq (o := 0) (vs := [str x44.From, str x44.To]) zj9 zfe (hSx44 _ (hO.sees (i := 12) rfl)) rfl rfl hf rfl | k + 5, hk, _, _, _, _ => absurd hk (by simp)), zaR rfl (fun σ => rfl) (fun σ => rfl) rfl (fun σ a w (_ : _) hf => zj c_44 hf (vs := [.agg #[str x44.From, str x44.To]]) rfl) (fun σ w (hO : Dk.Own w0 [] w _) => (zmU x44 r47 _ (hG.own hF hO) hr47).mono fun e w' h => by obtain ⟨he, hb⟩ := h; exact ⟨((σ.1), (σ.2.1), (σ.2.2)), he, hO.grow hb, .inr rfl, .inr rfl, .inr rfl, .inr rfl, .inr rfl, .inr rfl, .inr rfl, .inr rfl, .inr rfl, .inr rfl, .inr rfl, .inr rfl, trivial⟩), zfC rfl (fun σ => rfl) (fun σ => rfl) rfl (fun σ w (hO : Dk.Own w0 [] w _) => by obtain ⟨b48, w', hO', hr⟩ := zbN (E := [(59, .agg #[str r47.From, str r47.To])]) (parts := #[(0, (.tmp 59))]) (t' := 22) (n := 1) (vs := [(0, .agg #[str r47.From, str r47.To])]) (cs := [str r47.From, str r47.To]) (e := 98) (sz := 2) (fun w => by kernel_rfl) rfl rfl hO rfl; exact ⟨(b48, (σ.2.1), (σ.2.2)), w', hO', ⟨.inr rfl, .inr rfl, .inr rfl, .inr rfl, .inr rfl, .inr rfl, .inr rfl, .inr rfl, .inl rfl, .inl rfl, .inr rfl, .inr rfl, trivial⟩, hr⟩), zfC rfl (fun σ => rfl) (fun σ => rfl) rfl (fun σ w (hO : Dk.Own w0 [] w _) => by obtain ⟨p49, c50, w', hO', hr⟩ := zlL (E := [(53, .slice p29 l31.length c30), (60, .slice (some ⟨(σ.1), 0, none⟩) ([r47].length) 1)]) (x := (.tmp 53)) (y := (.tmp 60)) zv6 (enc := zb) (xs := l31) (ys := [r47]) (i := 2) (fun _ => rfl) rfl (hO.rowSees (i := 0) rfl) (by simp [cells, zb, Value.oneCell']) hg51 hO rfl rfl; exact ⟨((σ.1), p49, c50), w', hO', ⟨.inr rfl, .inr rfl, .inr rfl, .inr rfl, .inr rfl, .inr rfl, .inr rfl, .inr rfl, .inr rfl, .inl rfl, .inr rfl, .inl rfl, trivial⟩, hr⟩), zd rfl (fun σ => rfl) (fun σ => rfl) (fun σ a w k _ _ _ _ hf => zz zoO hf rfl), zbC rfl (fun σ => rfl) (fun σ => rfl) rfl (fun σ w (hO : Dk.Own w0 [] w _) => by obtain ⟨w', hO', hr⟩ := zdA (x := (.tmp 62)) (y := (.tmp 61)) (E := [(61, .slice (σ.2.1) ((l31 ++ [r47]).length) (σ.2.2)), (62, ptr b26 4)]) (i := 3) (o := 4) (v := .slice (σ.2.1) ((l31 ++ [r47]).length) (σ.2.2)) zwp rfl rfl rfl rfl hO rfl rfl; exact ⟨((σ.1), (σ.2.1), (σ.2.2)), w', hO', ⟨.inr rfl, .inr rfl, .inr rfl, .inr rfl, .inr rfl, .inr rfl, .inr rfl, .inr rfl, .inr rfl, .inr rfl, .inr rfl, .inr rfl, trivial⟩, hr⟩), trivial⟩ ?_
 rintro ⟨b48, p49, c50⟩ a w hf hO
 have hO : Dk.Own w0 [] w _ := hO
 have hf : Fits 86 [(1, ptr b1 0), (2, ptr b2 0), (5, ptr b26 0), (6, int i39)] a := (hf.cons rfl (hf.cons rfl (hf.cons rfl (hf.cons rfl hf.nil))))
 refine S.no tb ?_ hf hO hm
 refine bi rfl fun i53 hi53 => ?_
 exact ec [1, 2, 3, 4, 5, 6, 7, 8, 9, 10, 11, 12] rfl rfl rfl fun _ _ j => ⟨_, Nat.lt_succ_self _, p49, c50, l31 ++ [r47], s32, s33, s34, s35, p36, c37, l38, i53, j rfl⟩
 exact en rfl fun _ _ j => ⟨s32, s33, s34, s35, p29, c30, l31, p36, c37, l38, j rfl⟩
 rintro a w ⟨s54, s55, s56, s57, p58, c59, l60, p61, c62, l63, hf, hO, hm⟩
 rw [ziv] at hm
 refine S.co tb ?_ hf hO hm
 refine jv 0 [2, 5] [3, 4, 5, 6, 7, 8, 9, 10, 11] (fun J E L => ∃ (s90 : Str) (s91 : Str) (s92 : Str) (s93 : Str) (p94 : Option Addr) (c95 : Nat) (l96 : List api_Swap) (p97 : Option Addr) (c98 : Nat) (l99 : List api_Swap), J (E) (.row (.slice p97 l99.length c98) 98 2 l99.length (cells zb l99) :: .row (.slice p94 l96.length c95) 98 2 l96.length (cells zb l96) :: .blk b26 [str s90, str s91, str s92, str s93, .slice p94 l96.length c95, .slice p97 l99.length c98] 24 :: L) (ziu s90 s91 s92 s93 l96 l99)) rfl ?_ ?_
 refine lv [1, 2, 5] [3, 4, 5, 6, 7, 8, 9, 10, 11] (fun J E L k => ∃ (p65 : Option Addr) (c66 : Nat) (l67 : List api_Swap) (s68 : Str) (s69 : Str) (s70 : Str) (s71 : Str) (p72 : Option Addr) (c73 : Nat) (l74 : List api_Swap) (i75 : Int), J ((7, int i75) :: E) (.row (.slice p65 l67.length c66) 98 2 l67.length (cells zb l67) :: .row (.slice p72 l74.length c73) 98 2 l74.length (cells zb l74) :: .blk b26 [str s68, str s69, str s70, str s71, .slice p72 l74.length c73, .slice p65 l67.length c66] 24 :: L) (zbS x_a0 k l67 s68 s69 s70 s71 l74 i75)) rfl (fun _ _ j => ⟨p61, c62, l63, s54, s55, s56, s57, p58, c59, l60, 0, j rfl⟩) ?_
 rintro n6 a w ⟨p65, c66, l67, s68, s69, s70, s71, p72, c73, l74, i75, hf, hO, hm⟩
 obtain _ | n6 := n6
 rw [zbS] at hm
 cases hm
 rw [zbS] at hm
 refine S.co tb ?_ hf hO hm
 refine jv 4 [1, 2, 5, 7] [0, 1, 2, 3, 4, 5, 6, 7, 8, 9, 10, 11] (fun J E L => ∃ (t77 : Bool), J ((71, .bool t77) :: E) (L) (zg2 (zbS x_a0 n6) x_a0 l67 s68 s69 s70 s71 l74 i75 t77)) rfl ?_ ?_
 refine ld 9 rfl rfl ?_
 refine br rfl (fun hc76 => ?_) fun hc76 => ?_
 exact en rfl fun _ _ j => ⟨decide (i75 < 6), j rfl⟩
 exact en rfl fun _ _ j => ⟨false, j rfl⟩
 rintro a w ⟨t77, hf, hO, hm⟩
 rw [zg2] at hm
 refine S.co tb ?_ hf hO hm
 refine br rfl (fun hc78 => ?_) fun hc78 => ?_
 refine rc_ rfl fun a w hf hO hm => ?_
 obtain ⟨x80, hx80, hm⟩ := ob hm
 obtain ⟨b81, o82, hix80, hSx80⟩ := zaD (enc := zb) (sz := 2) (xs := x_a0.Locations) 22 Tryz.underlying22 zfe (by decide) (fun _ => rfl) (hO.sees (i := 10) rfl) hx80
 obtain ⟨r83, hr83, hm⟩ := ob hm
 obtain ⟨hg87, hm⟩ := og hm
 refine zav (S := Nat × Option Addr × Nat) (E0 := [(1, ptr b1 0), (2, ptr b2 0), (5, ptr b26 0), (7, int i75)]) (by kernel_rfl) (fun k σ w => match k with | 0 => Dk.Own w0 [] w [.row (.slice p65 l67.length c66) 98 2 l67.length (cells zb l67), .row (.slice p72 l74.length c73) 98 2 l74.length (cells zb l74), .blk b26 [str s68, str s69, str s70, str s71, .slice p72 l74.length c73, .slice p65 l67.length c66] 24, .row (.slice none 0 0) 98 2 0 (cells zb []), .row (.slice none 0 0) 98 2 0 (cells zb []), .blk b4 [str s22, str s23, str s24, str s25] 96, .row (.slice none 0 0) 98 2 0 (cells zb []), .row (.slice none 0 0) 98 2 0 (cells zb []), .blk b2 [str [], str [], str [], str [], .slice none 0 0, .slice none 0 0] 24, .blk b1 [str x_a0.Client, str x_a0.Host, str x_a0.Scheme, str x_a0.By, .slice x_a0_p0 x_a0.Domains.length x_a0_c0, .slice x_a0_p1 x_a0.Locations.length x_a0_c1] 24, .shr x_a0_p1 (cells zb x_a0.Locations), .shr x_a0_p0 (cells zb x_a0.Domains)] | 1 => Dk.Own w0 [] w [.row (.slice p65 l67.length c66) 98 2 l67.length (cells zb l67), .row (.slice p72 l74.length c73) 98 2 l74.length (cells zb l74), .blk b26 [str s68, str s69, str s70, str s71, .slice p72 l74.length c73, .slice p65 l67.length c66] 24, .row (.slice none 0 0) 98 2 0 (cells zb []), .row (.slice none 0 0) 98 2 0 (cells zb []), .blk b4 [str s22, str s23, str s24, str s25] 96, .row (.slice none 0 0) 98 2 0 (cells zb []), .row (.slice none 0 0) 98 2 0 (cells zb []), .blk b2 [str [], str [], str [], str [], .slice none 0 0, .slice none 0 0] 24, .blk b1 [str x_a0.Client, str x_a0.Host, str x_a0.Scheme, str x_a0.By, .slice x_a0_p0 x_a0.Domains.length x_a0_c0, .slice x_a0_p1 x_a0.Locations.length x_a0_c1] 24, .shr x_a0_p1 (cells zb x_a0.Locations), .shr x_a0_p0 (cells zb x_a0.Domains)] | 2 => Dk.Own w0 [] w [.row (.slice (some ⟨(σ.1), 0, none⟩) ([r83].length) 1) 98 2 ([r83].length) (cells zb [r83]), .row (.slice p65 l67.length c66) 98 2 l67.length (cells zb l67), .row (.slice p72 l74.length c73) 98 2 l74.length (cells zb l74), .blk b26 [str s68, str s69, str s70, str s71, .slice p72 l74.length c73, .slice p65 l67.length c66] 24, .row (.slice none 0 0) 98 2 0 (cells zb []), .row (.slice none 0 0) 98 2 0 (cells zb []), .blk b4 [str s22, str s23, str s24, str s25] 96, .row (.slice none 0 0) 98 2 0 (cells zb []), .row (.slice none 0 0) 98 2 0 (cells zb []), .blk b2 [str [], str [], str [], str [], .slice none 0 0, .slice none 0 0] 24, .blk b1 [str x_a0.Client, str x_a0.Host, str x_a0.Scheme, str x_a0.By, .slice x_a0_p0 x_a0.Domains.length x_a0_c0, .slice x_a0_p1 x_a0.Locations.length x_a0_c1] 24, .shr x_a0_p1 (cells zb x_a0.Locations), .shr x_a0_p0 (cells zb x_a0.Domains)] | 3 => Dk.Own w0 [] w [.row (.slice (some ⟨(σ.1), 0, none⟩) ([r83].length) 1) 98 2 ([r83].length) (cells zb [r83]), .row (.slice (σ.2.1) ((l67 ++ [r83]).length) (σ.2.2)) 98 2 ((l67 ++ [r83]).length) (cells zb (l67 ++ [r83])), .row (.slice p72 l74.length c73) 98 2 l74.length (cells zb l74), .blk b26 [str s68, str s69, str s70, str s71, .slice p72 l74.length c73, .slice p65 l67.length c66] 24, .row (.slice none 0 0) 98 2 0 (cells zb []), .row (.slice none 0 0) 98 2 0 (cells zb []), .blk b4 [str s22, str s23, str s24, str s25] 96, .row (.slice none 0 0) 98 2 0 (cells zb []), .row (.slice none 0 0) 98 2 0 (cells zb []), .blk b2 [str [], str [], str [], str [], .slice none 0 0, .slice none 0 0] 24, .blk b1 [str x_a0.Client, str x_a0.Host, str x_a0.Scheme, str x_a0.By, .slice x_a0_p0 x_a0.Domains.length x_a0_c0, .slice x_a0_p1 x_a0.Locations.length x_a0_c1] 24, .shr x_a0_p1 (cells zb x_a0.Locations), .shr x_a0_p0 (cells zb x_a0.Domains)] | _ => Dk.Own w0 [] w [.row (.slice (some ⟨(σ.1), 0, none⟩) ([r83].length) 1) 98 2 ([r83].length) (cells zb [r83]), .row (.slice (σ.2.1) ((l67 ++ [r83]).length) (σ.2.2)) 98 2 ((l67 ++ [r83]).length) (cells zb (l67 ++ [r83])), .row (.slice p72 l74.length c73) 98 2 l74.length (cells zb l74), .blk b26 [str s68, str s69, str s70, str s71, .slice p72 l74.length c73, .slice (σ.2.1) ((l67 ++ [r83]).length) (σ.2.2)] 24, .row (.slice none 0 0) 98 2 0 (cells zb []), .row (.slice none 0 0) 98 2 0 (cells zb []), .blk b4 [str s22, str s23, str s24, str s25] 96, .row (.slice none 0 0) 98 2 0 (cells zb []), .row (.slice none 0 0) 98 2 0 (cells zb []), .blk b2 [str [], str [], str [], str [], .slice none 0 0, .slice none 0 0] 24, .blk b1 [str x_a0.Client, str x_a0.Host, str x_a0.Scheme, str x_a0.By, .slice x_a0_p0 x_a0.Domains.length x_a0_c0, .slice x_a0_p1 x_a0.Locations.length x_a0_c1] 24, .shr x_a0_p1 (cells zb x_a0.Locations), .shr x_a0_p0 (cells zb x_a0.Domains)]) (fun σ => [⟨[(5, ptr b26 0)], some (74, ptr b26 5)⟩, ⟨[(74, ptr b26 5)], some (75, .slice p65 l67.length c66)⟩, ⟨[(1, ptr b1 0)], some (76, ptr b1 5)⟩, ⟨[(76, ptr b1 5)], some (77, .slice x_a0_p1 x_a0.Locations.length x_a0_c1)⟩, ⟨[(7, int i75)], some (78, int i75)⟩, ⟨[(77, .slice x_a0_p1 x_a0.Locations.length x_a0_c1), (78, int i75)], some (79, ptr b81 o82)⟩, ⟨[(79, ptr b81 o82)], some (80, .agg #[str x80.From, str x80.To])⟩, ⟨[(80, .agg #[str x80.From, str x80.To])], some (81, .agg #[str r83.From, str r83.To])⟩, ⟨[(81, .agg #[str r83.From, str r83.To])], some (82, .slice (some ⟨(σ.1), 0, none⟩) ([r83].length) 1)⟩, ⟨[(75, .slice p65 l67.length c66), (82, .slice (some ⟨(σ.1), 0, none⟩) ([r83].length) 1)], some (83, .slice (σ.2.1) ((l67 ++ [r83]).length) (σ.2.2))⟩, ⟨[(5, ptr b26 0)], some (84, ptr b26 5)⟩, ⟨[(83, .slice (σ.2.1) ((l67 ++ [r83]).length) (σ.2.2)), (84, ptr b26 5)], none⟩]) (0, none, 0) [7, 8, 9, 11] rfl (fun _ => rfl) (fun _ => rfl) (fun _ => rfl) rfl rfl (by decide) rfl hO.drew (hf.cons rfl (hf.cons rfl (hf.cons rfl (hf.cons rfl hf.nil)))) (fun σ => ⟨⟨rfl, trivial⟩, ⟨rfl, trivial⟩, ⟨rfl, trivial⟩, ⟨rfl, trivial⟩, ⟨rfl, trivial⟩, ⟨rfl, rfl, trivial⟩, ⟨rfl, trivial⟩, ⟨rfl, trivial⟩, ⟨rfl, trivial⟩, ⟨rfl, rfl, trivial⟩, ⟨rfl, trivial⟩, ⟨rfl, rfl, trivial⟩, trivial⟩) ⟨zd rfl (fun σ => rfl) (fun σ => rfl) (fun σ a w k _ _ _ _ hf => zz zoP hf rfl), zd rfl (fun σ => rfl) (fun σ => rfl) (fun σ a w k hk hlo hup hst hf => match k, hk, hlo, hup, hst, hf with | 0, _, _, _, hst, hf => have hO : Dk.Own w0 [] w _ := hst; zf (o := 5) zhb (hO.blkSees (i := 2) rfl) rfl hf rfl | 1, _, _, _, hst, hf => have hO : Dk.Own w0 [] w _ := hst; zf (o := 5) zhb (hO.blkSees (i := 2) rfl) rfl hf rfl | 2, _, _, _, hst, hf => have hO : Dk.Own w0 [] w _ := hst; zf (o := 5) zhb (hO.blkSees (i := 3) rfl) rfl hf rfl | 3, _, _, _, hst, hf => have hO : Dk.Own w0 [] w _ := hst; zf (o := 5) zhb (hO.blkSees (i := 3) rfl) rfl hf rfl | 4, _, _, hup, _, _ => absurd (hup 2 (by decide) (by kernel_rfl)) (by decide) | k + 5, hk, _, _, _, _ => absurd hk (by simp)), zd rfl (fun σ => rfl) (fun σ => rfl) (fun σ a w k _ _ _ _ hf => zz zoP hf rfl), zd rfl (fun σ => rfl) (fun σ => rfl) (fun σ a w k hk hlo hup hst hf => match k, hk, hlo, hup, hst, hf with | 0, _, _, _, hst, hf => have hO : Dk.Own w0 [] w _ := hst; zf (o := 5) zhb (hO.blkSees (i := 9) rfl) rfl hf rfl | 1, _, _, _, hst, hf => have hO : Dk.Own w0 [] w _ := hst; zf (o := 5) zhb (hO.blkSees (i := 9) rfl) rfl hf rfl | 2, _, _, _, hst, hf => have hO : Dk.Own w0 [] w _ := hst; zf (o := 5) zhb (hO.blkSees (i := 10) rfl) rfl hf rfl | 3, _, _, _, hst, hf => have hO : Dk.Own w0 [] w _ := hst; zf (o := 5) zhb (hO.blkSees (i := 10) rfl) rfl hf rfl | 4, _, _, _, hst, hf => have hO : Dk.Own w0 [] w _ := hst; zf (o := 5) zhb (hO.blkSees (i := 10) rfl) rfl hf rfl | k + 5, hk, _, _, _, _ => absurd hk (by simp)), zd rfl (fun σ => rfl) (fun σ => rfl) (fun σ a w k _ _ _ _ hf => zp hf rfl), zd rfl (fun σ => rfl) (fun σ => rfl) (fun σ a w k _ _ _ _ hf => zi hix80 hf rfl rfl), zd rfl (fun σ => rfl) (fun σ => rfl) (fun σ a w k hk hlo hup hst hf => match k, hk, hlo, hup, hst, hf with | 0, _, _, _, hst, hf => have hO : Dk.Own w0 [] w _ := hst; zq (o := 0) (vs := [str x80.From, str x80.To]) zj9 zfe (hSx80 _ (hO.sees (i := 10) rfl)) rfl rfl hf rfl | 1, _, _, _, hst, hf => have hO : Dk.Own w0 [] w _ := hst; zq (o := 0) (vs := [str x80.From, str x80.To]) zj9 zfe (hSx80 _ (hO.sees (i := 10) rfl)) rfl rfl hf rfl | 2, _, _, _, hst, hf => have hO : Dk.Own w0 [] w _ := hst; zq (o := 0) (vs := [str x80.From, str x80.To]) zj9 zfe (hSx80 _ (hO.sees (i := 11) rfl)) rfl rfl hf rfl | 3, _, _, _, hst, hf => have hO : Dk.Own w0 [] w _ := hst; zq (o := 0) (vs := [str x80.From, str x80.To]) zj9 zfe (hSx80 _ (hO.sees (i := 11) rfl)) rfl rfl hf rfl | 4, _, _, _, hst, hf => have hO : Dk.Own w0 [] w _ := hst; zq (o := 0) (vs := [str x80.From, str x80.To]) zj9 zfe (hSx80 _ (hO.sees (i := 11) rfl)) rfl rfl hf rfl | k + 5, hk, _, _, _, _ => absurd hk (by simp)), zaR rfl (fun σ => rfl) (fun σ => rfl) rfl (fun σ a w (_ : _) hf => zj c_44 hf (vs := [.agg #[str x80.From, str x80.To]]) rfl) (fun σ w (hO : Dk.Own w0 [] w _) => (zmU x80 r83 _ (hG.own hF hO) hr83).mono fun e w' h => by obtain ⟨he, hb⟩ := h; exact ⟨((σ.1), (σ.2.1), (σ.2.2)), he, hO.grow hb, .inr rfl, .inr rfl, .inr rfl, .inr rfl, .inr rfl, .inr rfl, .inr rfl, .inr rfl, .inr rfl, .inr rfl, .inr rfl, .inr rfl, trivial⟩), zfC rfl (fun σ => rfl) (fun σ => rfl) rfl (fun σ w (hO : Dk.Own w0 [] w _) => by obtain ⟨b84, w', hO', hr⟩ := zbN (E := [(81, .agg #[str r83.From, str r83.To])]) (parts := #[(0, (.tmp 81))]) (t' := 22) (n := 1) (vs := [(0, .agg #[str r83.From, str r83.To])]) (cs := [str r83.From, str r83.To]) (e := 98) (sz := 2) (fun w => by kernel_rfl) rfl rfl hO rfl; exact ⟨(b84, (σ.2.1), (σ.2.2)), w', hO', ⟨.inr rfl, .inr rfl, .inr rfl, .inr rfl, .inr rfl, .inr rfl, .inr rfl, .inr rfl, .inl rfl, .inl rfl, .inr rfl, .inr rfl, trivial⟩, hr⟩), zfC rfl (fun σ => rfl) (fun σ => rfl) rfl (fun σ w (hO : Dk.Own w0 [] w _) => by obtain ⟨p85, c86, w', hO', hr⟩ := zlL (E := [(75, .slice p65 l67.length c66), (82, .slice (some ⟨(σ.1), 0, none⟩) ([r83].length) 1)]) (x := (.tmp 75)) (y := (.tmp 82)) zv6 (enc := zb) (xs := l67) (ys := [r83]) (i := 1) (fun _ => rfl) rfl (hO.rowSees (i := 0) rfl) (by simp [cells, zb, Value.oneCell']) hg87 hO rfl rfl; exact ⟨((σ.1), p85, c86), w', hO', ⟨.inr rfl, .inr rfl, .inr rfl, .inr rfl, .inr rfl, .inr rfl, .inr rfl, .inr rfl, .inr rfl, .inl rfl, .inr rfl, .inl rfl, trivial⟩, hr⟩), zd rfl (fun σ => rfl) (fun σ => rfl) (fun σ a w k _ _ _ _ hf => zz zoP hf rfl), zbC rfl (fun σ => rfl) (fun σ => rfl) rfl (fun σ w (hO : Dk.Own w0 [] w _) => by obtain ⟨w', hO', hr⟩ := zdA (x := (.tmp 84)) (y := (.tmp 83)) (E := [(83, .slice (σ.2.1) ((l67 ++ [r83]).length) (σ.2.2)), (84, ptr b26 5)]) (i := 3) (o := 5) (v := .slice (σ.2.1) ((l67 ++ [r83]).length) (σ.2.2)) zwp rfl rfl rfl rfl hO rfl rfl; exact ⟨((σ.1), (σ.2.1), (σ.2.2)), w', hO', ⟨.inr rfl, .inr rfl, .inr rfl, .inr rfl, .inr rfl, .inr rfl, .inr rfl, .inr rfl, .inr rfl, .inr rfl, .inr rfl, .inr rfl, trivial⟩, hr⟩), trivial⟩ ?_
 rintro ⟨b84, p85, c86⟩ a w hf hO
 have hO : Dk.Own w0 [] w _ := hO
 have hf : Fits 86 [(1, ptr b1 0), (2, ptr b2 0), (5, ptr b26 0), (7, int i75)] a := (hf.cons rfl (hf.cons rfl (hf.cons rfl (hf.cons rfl hf.nil))))
 refine S.no tb ?_ hf hO hm
 refine bi rfl fun i89 hi89 => ?_
 exact ec [1, 2, 3, 4, 5, 6, 7, 8, 9, 10, 11, 12] rfl rfl rfl fun _ _ j => ⟨_, Nat.lt_succ_self _, p85, c86, l67 ++ [r83], s68, s69, s70, s71, p72, c73, l74, i89, j rfl⟩
 exact en rfl fun _ _ j => ⟨s68, s69, s70, s71, p72, c73, l74, p65, c66, l67, j rfl⟩
 rintro a w ⟨s90, s91, s92, s93, p94, c95, l96, p97, c98, l99, hf, hO, hm⟩
 rw [ziu] at hm
 refine S.co tb ?_ hf hO hm
 refine ld 2 rfl rfl ?_
 refine st 8 rfl rfl ?_
 refine re_ rfl fun a w hf hO hm => ?_
 obtain rfl := Option.some.inj hm
 exact zh Tryz.results17 hf (.cell rfl (zk (n := 6) (vs := [str s90, str s91, str s92, str s93, .slice p94 l96.length c95, .slice p97 l99.length c98]) zlA zkJ rfl ((hO.blkSees (i := 8) rfl).cells (o := 0) (n := 6) rfl)) .nil) ⟨p94, c95, p97, c98, rfl, (hO.choose [1, 0] rfl)⟩

theorem zn4 (x_l : List api_Swap) (R : List api_Swap) (w0 : World) (hG : zr w0) {x_l_p0 : Option Addr} {x_l_c0 : Nat} (hs0 : zD w0 x_l_p0 (cells zb x_l)) (hc0 : x_l.length ≤ x_l_c0) (hm : ziD x_l = some R) :
    Calls Tryz.prog 18 #[.slice x_l_p0 x_l.length x_l_c0] w0 fun e w' => ∃ (p0 : Option Addr) (c0 : Nat), e = .returned (.slice p0 R.length c0) ∧ Dk.Own w0 [] w' [.row (.slice p0 R.length c0) 98 2 R.length (cells zb R)] := by
 rw [ziD] at hm
 have hF : zs [] := ze
 have hO : Dk.Own w0 [] w0 [] := Dk.Own.refl w0
 have hO := hO.addShr hs0 (by simp [Res.shared])
 refine S.enter tb Tryz.func18 rfl Tryz.ntmps18 rfl ?_ hO hm
 refine nl 98 2 ?_
 refine nl 98 2 ?_
 refine lv [0] [1, 2] (fun J E L k => ∃ (p4 : Option Addr) (c5 : Nat) (l6 : List api_Swap) (i7 : Int), J ((3, .slice p4 l6.length c5) :: (4, int i7) :: E) (.row (.slice p4 l6.length c5) 98 2 l6.length (cells zb l6) :: L) (zcs x_l k l6 i7)) rfl (fun _ _ j => ⟨none, 0, [], 0, j rfl⟩) ?_
 rintro n1 a w ⟨p4, c5, l6, i7, hf, hO, hm⟩
 obtain _ | n1 := n1
 rw [zcs] at hm
 cases hm
 rw [zcs] at hm
 refine S.co tb ?_ hf hO hm
 refine jv 4 [0, 3, 4] [0, 1, 2] (fun J E L => ∃ (t9 : Bool), J ((12, .bool t9) :: E) (L) (zd9 (zcs x_l n1) x_l l6 i7 t9)) rfl ?_ ?_
 refine br rfl (fun hc8 => ?_) fun hc8 => ?_
 exact en rfl fun _ _ j => ⟨decide (i7 < 70), j rfl⟩
 exact en rfl fun _ _ j => ⟨false, j rfl⟩
 rintro a w ⟨t9, hf, hO, hm⟩
 rw [zd9] at hm
 refine S.co tb ?_ hf hO hm
 refine br rfl (fun hc10 => ?_) fun hc10 => ?_
 refine rc_ rfl fun a w hf hO hm => ?_
 obtain ⟨x12, hx12, hm⟩ := ob hm
 obtain ⟨b13, o14, hix12, hSx12⟩ := zaD (enc := zb) (sz := 2) (xs := x_l) 22 Tryz.underlying22 zfe (by decide) (fun _ => rfl) (hO.sees (i := 2) rfl) hx12
 obtain ⟨x15, hx15, hm⟩ := ob hm
 obtain ⟨b16, o17, hix15, hSx15⟩ := zaD (enc := zb) (sz := 2) (xs := x_l) 22 Tryz.underlying22 zfe (by decide) (fun _ => rfl) (hO.sees (i := 2) rfl) hx15
 obtain ⟨s18, hs18, hm⟩ := ob hm
 obtain ⟨x19, hx19, hm⟩ := ob hm
 obtain ⟨b20, o21, hix19, hSx19⟩ := zaD (enc := zb) (sz := 2) (xs := x_l) 22 Tryz.underlying22 zfe (by decide) (fun _ => rfl) (hO.sees (i := 2) rfl) hx19
 obtain ⟨x22, hx22, hm⟩ := ob hm
 obtain ⟨b23, o24, hix22, hSx22⟩ := zaD (enc := zb) (sz := 2) (xs := x_l) 22 Tryz.underlying22 zfe (by decide) (fun _ => rfl) (hO.sees (i := 2) rfl) hx22
 obtain ⟨s25, hs25, hm⟩ := ob hm
 obtain ⟨hg29, hm⟩ := og hm
 refine zav (S := Nat × Option Addr × Nat) (E0 := [(0, .slice x_l_p0 x_l.length x_l_c0), (3, .slice p4 l6.length c5), (4, int i7)]) (by kernel_rfl) (fun k σ w => match k with | 0 => Dk.Own w0 [] w [.row (.slice p4 l6.length c5) 98 2 l6.length (cells zb l6), .row (.slice none 0 0) 98 2 0 (cells zb []), .shr x_l_p0 (cells zb x_l)] | 1 => Dk.Own w0 [] w [.row (.slice (some ⟨(σ.1), 0, none⟩) (([(⟨s18, s25⟩ : api_Swap)]).length) 1) 98 2 (([(⟨s18, s25⟩ : api_Swap)]).length) (cells zb ([(⟨s18, s25⟩ : api_Swap)])), .row (.slice p4 l6.length c5) 98 2 l6.length (cells zb l6), .row (.slice none 0 0) 98 2 0 (cells zb []), .shr x_l_p0 (cells zb x_l)] | _ => Dk.Own w0 [] w [.row (.slice (some ⟨(σ.1), 0, none⟩) (([(⟨s18, s25⟩ : api_Swap)]).length) 1) 98 2 (([(⟨s18, s25⟩ : api_Swap)]).length) (cells zb ([(⟨s18, s25⟩ : api_Swap)])), .row (.slice (σ.2.1) ((l6 ++ [(⟨s18, s25⟩ : api_Swap)]).length) (σ.2.2)) 98 2 ((l6 ++ [(⟨s18, s25⟩ : api_Swap)]).length) (cells zb (l6 ++ [(⟨s18, s25⟩ : api_Swap)])), .row (.slice none 0 0) 98 2 0 (cells zb []), .shr x_l_p0 (cells zb x_l)]) (fun σ => ⟨[(3, .slice p4 l6.length c5)], some (15, .slice p4 l6.length c5)⟩ :: ⟨[(0, .slice x_l_p0 x_l.length x_l_c0)], some (16, .slice x_l_p0 x_l.length x_l_c0)⟩ :: ⟨[(4, int i7)], some (17, int i7)⟩ :: ⟨[(16, .slice x_l_p0 x_l.length x_l_c0), (17, int i7)], some (18, ptr b13 o14)⟩ :: ⟨[(18, ptr b13 o14)], some (19, ptr b13 o14)⟩ :: ⟨[(19, ptr b13 o14)], some (20, str x12.From)⟩ :: ⟨[(0, .slice x_l_p0 x_l.length x_l_c0)], some (21, .slice x_l_p0 x_l.length x_l_c0)⟩ :: ⟨[(4, int i7)], some (22, int i7)⟩ :: ⟨[(21, .slice x_l_p0 x_l.length x_l_c0), (22, int i7)], some (23, ptr b16 o17)⟩ :: ⟨[(23, ptr b16 o17)], some (24, ptr b16 o17)⟩ :: ⟨[(24, ptr b16 o17)], some (25, str x15.From)⟩ :: ⟨[(25, str x15.From)], some (26, int (x15.From.length : Int))⟩ :: ⟨[(26, int (x15.From.length : Int))], some (27, int (min (x15.From.length : Int) 60))⟩ :: ⟨[(20, str x12.From), (27, int (min (x15.From.length : Int) 60))], some (28, str s18)⟩ :: ⟨[(0, .slice x_l_p0 x_l.length x_l_c0)], some (29, .slice x_l_p0 x_l.length x_l_c0)⟩ :: ⟨[(4, int i7)], some (30, int i7)⟩ :: ⟨[(29, .slice x_l_p0 x_l.length x_l_c0), (30, int i7)], some (31, ptr b20 o21)⟩ :: ⟨[(31, ptr b20 o21)], some (32, ptr b20 (o21 + 1))⟩ :: ⟨[(32, ptr b20 (o21 + 1))], some (33, str x19.To)⟩ :: ⟨[(0, .slice x_l_p0 x_l.length x_l_c0)], some (34, .slice x_l_p0 x_l.length x_l_c0)⟩ :: ⟨[(4, int i7)], some (35, int i7)⟩ :: ⟨[(34, .slice x_l_p0 x_l.length x_l_c0), (35, int i7)], some (36, ptr b23 o24)⟩ :: ⟨[(36, ptr b23 o24)], some (37, ptr b23 (o24 + 1))⟩ :: ⟨[(37, ptr b23 (o24 + 1))], some (38, str x22.To)⟩ :: ⟨[(38, str x22.To)], some (39, int (x22.To.length : Int))⟩ :: ⟨[(39, int (x22.To.length : Int))], some (40, int (min (x22.To.length : Int) 60))⟩ :: ⟨[(33, str x19.To), (40, int (min (x22.To.length : Int) 60))], some (41, str s25)⟩ :: ⟨[(28, str s18), (41, str s25)], some (42, .agg #[str s18, str s25])⟩ :: ⟨[(42, .agg #[str s18, str s25])], some (43, .slice (some ⟨(σ.1), 0, none⟩) (([(⟨s18, s25⟩ : api_Swap)]).length) 1)⟩ :: ⟨[(15, .slice p4 l6.length c5), (43, .slice (some ⟨(σ.1), 0, none⟩) (([(⟨s18, s25⟩ : api_Swap)]).length) 1)], some (44, .slice (σ.2.1) ((l6 ++ [(⟨s18, s25⟩ : api_Swap)]).length) (σ.2.2))⟩ :: ⟨[(44, .slice (σ.2.1) ((l6 ++ [(⟨s18, s25⟩ : api_Swap)]).length) (σ.2.2))], some (3, .slice (σ.2.1) ((l6 ++ [(⟨s18, s25⟩ : api_Swap)]).length) (σ.2.2))⟩ :: []) (0, none, 0) [28, 29] rfl (fun _ => rfl) (fun _ => rfl) (fun _ => rfl) rfl rfl (by decide) rfl hO.drew (hf.cons rfl (hf.cons rfl (hf.cons rfl hf.nil))) (fun σ => ⟨⟨rfl, trivial⟩, ⟨rfl, trivial⟩, ⟨rfl, trivial⟩, ⟨rfl, rfl, trivial⟩, ⟨rfl, trivial⟩, ⟨rfl, trivial⟩, ⟨rfl, trivial⟩, ⟨rfl, trivial⟩, ⟨rfl, rfl, trivial⟩, ⟨rfl, trivial⟩, ⟨rfl, trivial⟩, ⟨rfl, trivial⟩, ⟨rfl, trivial⟩, ⟨rfl, rfl, trivial⟩, ⟨rfl, trivial⟩, ⟨rfl, trivial⟩, ⟨rfl, rfl, trivial⟩, ⟨rfl, trivial⟩, ⟨rfl, trivial⟩, ⟨rfl, trivial⟩, ⟨rfl, trivial⟩, ⟨rfl, rfl, trivial⟩, ⟨rfl, trivial⟩, ⟨rfl, trivial⟩, ⟨rfl, trivial⟩, ⟨rfl, trivial⟩, ⟨rfl, rfl, trivial⟩, ⟨rfl, rfl, trivial⟩, ⟨rfl, trivial⟩, ⟨rfl, rfl, trivial⟩, ⟨rfl, trivial⟩, trivial⟩) ⟨zd rfl (fun σ => rfl) (fun σ => rfl) (fun σ a w k _ _ _ _ hf => zp hf rfl), zd rfl (fun σ => rfl) (fun σ => rfl) (fun σ a w k _ _ _ _ hf => zp hf rfl), zd rfl (fun σ => rfl) (fun σ => rfl) (fun σ a w k _ _ _ _ hf => zp hf rfl), zd rfl (fun σ => rfl) (fun σ => rfl) (fun σ a w k _ _ _ _ hf => zi hix12 hf rfl rfl), zd rfl (fun σ => rfl) (fun σ => rfl) (fun σ a w k _ _ _ _ hf => zz zlO hf rfl), zd rfl (fun σ => rfl) (fun σ => rfl) (fun σ a w k hk hlo hup hst hf => match k, hk, hlo, hup, hst, hf with | 0, _, _, _, hst, hf => have hO : Dk.Own w0 [] w _ := hst; zf (o := 0) zX (hSx12 _ (hO.sees (i := 2) rfl)) rfl hf rfl | 1, _, _, _, hst, hf => have hO : Dk.Own w0 [] w _ := hst; zf (o := 0) zX (hSx12 _ (hO.sees (i := 3) rfl)) rfl hf rfl | 2, _, _, _, hst, hf => have hO : Dk.Own w0 [] w _ := hst; zf (o := 0) zX (hSx12 _ (hO.sees (i := 3) rfl)) rfl hf rfl | k + 3, hk, _, _, _, _ => absurd hk (by simp)), zd rfl (fun σ => rfl) (fun σ => rfl) (fun σ a w k _ _ _ _ hf => zp hf rfl), zd rfl (fun σ => rfl) (fun σ => rfl) (fun σ a w k _ _ _ _ hf => zp hf rfl), zd rfl (fun σ => rfl) (fun σ => rfl) (fun σ a w k _ _ _ _ hf => zi hix15 hf rfl rfl), zd rfl (fun σ => rfl) (fun σ => rfl) (fun σ a w k _ _ _ _ hf => zz zlO hf rfl), zd rfl (fun σ => rfl) (fun σ => rfl) (fun σ a w k hk hlo hup hst hf => match k, hk, hlo, hup, hst, hf with | 0, _, _, _, hst, hf => have hO : Dk.Own w0 [] w _ := hst; zf (o := 0) zX (hSx15 _ (hO.sees (i := 2) rfl)) rfl hf rfl | 1, _, _, _, hst, hf => have hO : Dk.Own w0 [] w _ := hst; zf (o := 0) zX (hSx15 _ (hO.sees (i := 3) rfl)) rfl hf rfl | 2, _, _, _, hst, hf => have hO : Dk.Own w0 [] w _ := hst; zf (o := 0) zX (hSx15 _ (hO.sees (i := 3) rfl)) rfl hf rfl | k + 3, hk, _, _, _, _ => absurd hk (by simp)), zd rfl (fun σ => rfl) (fun σ => rfl) (fun σ a w k _ _ _ _ hf => zgA (l := x15.From) Tryz.underlying9 hf rfl), zd rfl (fun σ => rfl) (fun σ => rfl) (fun σ a w k _ _ _ _ hf => znv (m := (x15.From.length : Int)) (n := 60) hf rfl rfl), zd rfl (fun σ => rfl) (fun σ => rfl) (fun σ a w k _ _ _ _ hf => zhx (l := x12.From) Tryz.underlying9 hf rfl rfl hs18), zd rfl (fun σ => rfl) (fun σ => rfl) (fun σ a w k _ _ _ _ hf => zp hf rfl), zd rfl (fun σ => rfl) (fun σ => rfl) (fun σ a w k _ _ _ _ hf => zp hf rfl), zd rfl (fun σ => rfl) (fun σ => rfl) (fun σ a w k _ _ _ _ hf => zi hix19 hf rfl rfl), zd rfl (fun σ => rfl) (fun σ => rfl) (fun σ a w k _ _ _ _ hf => zz zlP hf rfl), zd rfl (fun σ => rfl) (fun σ => rfl) (fun σ a w k hk hlo hup hst hf => match k, hk, hlo, hup, hst, hf with | 0, _, _, _, hst, hf => have hO : Dk.Own w0 [] w _ := hst; zf (o := 1) zX (hSx19 _ (hO.sees (i := 2) rfl)) rfl hf rfl | 1, _, _, _, hst, hf => have hO : Dk.Own w0 [] w _ := hst; zf (o := 1) zX (hSx19 _ (hO.sees (i := 3) rfl)) rfl hf rfl | 2, _, _, _, hst, hf => have hO : Dk.Own w0 [] w _ := hst; zf (o := 1) zX (hSx19 _ (hO.sees (i := 3) rfl)) rfl hf rfl | k + 3, hk, _, _, _, _ => absurd hk (by simp)), zd rfl (fun σ => rfl) (fun σ => rfl) (fun σ a w k _ _ _ _ hf => zp hf rfl), zd rfl (fun σ => rfl) (fun σ => rfl) (fun σ a w k _ _ _ _ hf => zp hf rfl), zd rfl (fun σ => rfl) (fun σ => rfl) (fun σ a w k _ _ _ _ hf => zi hix22 hf rfl rfl), zd rfl (fun σ => rfl) (fun σ => rfl) (fun σ a w k _ _ _ _ hf => zz zlP hf rfl), zd rfl (fun σ => rfl) (fun σ => rfl) (fun σ a w k hk hlo hup hst hf => match k, hk, hlo, hup, hst, hf with | 0, _, _, _, hst, hf => have hO : Dk.Own w0 [] w _ := hst; zf (o := 1) zX (hSx22 _ (hO.sees (i := 2) rfl)) rfl hf rfl | 1, _, _, _, hst, hf => have hO : Dk.Own w0 [] w _ := hst; zf (o := 1) zX (hSx22 _ (hO.sees (i := 3) rfl)) rfl hf rfl | 2, _, _, _, hst, hf => have hO : Dk.Own w0 [] w _ := hst; zf (o := 1) zX (hSx22 _ (hO.sees (i := 3) rfl)) rfl hf rfl | k + 3, hk, _, _, _, _ => absurd hk (by simp)), zd rfl (fun σ => rfl) (fun σ => rfl) (fun σ a w k _ _ _ _ hf => zgA (l := x22.To) Tryz.underlying9 hf rfl), zd rfl (fun σ => rfl) (fun σ => rfl) (fun σ a w k _ _ _ _ hf => znv (m := (x22.To.length : Int)) (n := 60) hf rfl rfl), zd rfl (fun σ => rfl) (fun σ => rfl) (fun σ a w k _ _ _ _ hf => zhx (l := x19.To) Tryz.underlying9 hf rfl rfl hs25), zd rfl (fun σ => rfl) (fun σ => rfl) (fun σ a w k _ _ _ _ hf => zt (vs := [(0, str s18), (1, str s25)]) (v := .agg #[str s18, str s25]) hf rfl (by kernel_rfl)), zfC rfl (fun σ => rfl) (fun σ => rfl) rfl (fun σ w (hO : Dk.Own w0 [] w _) => by obtain ⟨b26, w', hO', hr⟩ := zbN (E := [(42, .agg #[str s18, str s25])]) (parts := #[(0, (.tmp 42))]) (t' := 22) (n := 1) (vs := [(0, .agg #[str s18, str s25])]) (cs := [str s18, str s25]) (e := 98) (sz := 2) (fun w => by kernel_rfl) rfl rfl hO rfl; exact ⟨(b26, (σ.2.1), (σ.2.2)), w', hO', ⟨.inr rfl, .inr rfl, .inr rfl, .inr rfl, .inr rfl, .inr rfl, .inr rfl, .inr rfl, .inr rfl, .inr rfl, .inr rfl, .inr rfl, .inr rfl, .inr rfl, .inr rfl, .inr rfl, .inr rfl, .inr rfl, .inr rfl, .inr rfl, .inr rfl, .inr rfl, .inr rfl, .inr rfl, .inr rfl, .inr rfl, .inr rfl, .inr rfl, .inl rfl, .inl rfl, .inr rfl, trivial⟩, hr⟩), zfC rfl (fun σ => rfl) (fun σ => rfl) rfl (fun σ w (hO : Dk.Own w0 [] w _) => by obtain ⟨p27, c28, w', hO', hr⟩ := zlL (E := [(15, .slice p4 l6.length c5), (43, .slice (some ⟨(σ.1), 0, none⟩) (([(⟨s18, s25⟩ : api_Swap)]).length) 1)]) (x := (.tmp 15)) (y := (.tmp 43)) zv6 (enc := zb) (xs := l6) (ys := [(⟨s18, s25⟩ : api_Swap)]) (i := 1) (fun _ => rfl) rfl (hO.rowSees (i := 0) rfl) (by simp [cells, zb, Value.oneCell']) hg29 hO rfl rfl; exact ⟨((σ.1), p27, c28), w', hO', ⟨.inr rfl, .inr rfl, .inr rfl, .inr rfl, .inr rfl, .inr rfl, .inr rfl, .inr rfl, .inr rfl, .inr rfl, .inr rfl, .inr rfl, .inr rfl, .inr rfl, .inr rfl, .inr rfl, .inr rfl, .inr rfl, .inr rfl, .inr rfl, .inr rfl, .inr rfl, .inr rfl, .inr rfl, .inr rfl, .inr rfl, .inr rfl, .inr rfl, .inr rfl, .inl rfl, .inl rfl, trivial⟩, hr⟩), zd rfl (fun σ => rfl) (fun σ => rfl) (fun σ a w k _ _ _ _ hf => z8 hf rfl), trivial⟩ ?_
 rintro ⟨b26, p27, c28⟩ a w hf hO
 have hO : Dk.Own w0 [] w _ := hO
 have hf : Fits 46 [(0, .slice x_l_p0 x_l.length x_l_c0), (3, .slice p27 ((l6 ++ [(⟨s18, s25⟩ : api_Swap)]).length) c28), (4, int i7)] a := (hf.cons rfl (hf.cons rfl (hf.cons rfl hf.nil)))
 refine S.no tb ?_ hf hO hm
 refine bi rfl fun i31 hi31 => ?_
 exact ec [1, 2, 3] rfl rfl rfl fun _ _ j => ⟨_, Nat.lt_succ_self _, p27, c28, l6 ++ [(⟨s18, s25⟩ : api_Swap)], i31, j rfl⟩
 refine re_ rfl fun a w hf hO hm => ?_
 obtain rfl := Option.some.inj hm
 exact zh Tryz.results18 hf (.tmp rfl .nil) ⟨p4, c5, rfl, (hO.sub (.cons_cons _ (.cons _ (.cons _ .slnil))))⟩

theorem zss (x_env : api_Env) (R : api_Env) (w0 : World) (hG : zr w0) {x_env_p0 : Option Addr} {x_env_c0 : Nat} (hs0 : zD w0 x_env_p0 (cells zb x_env.Domains)) (hc0 : x_env.Domains.length ≤ x_env_c0) {x_env_p1 : Option Addr} {x_env_c1 : Nat} (hs1 : zD w0 x_env_p1 (cells zb x_env.Locations)) (hc1 : x_env.Locations.length ≤ x_env_c1) (hm : zj2 x_env = some R) :
    Calls Tryz.prog 6 #[.agg #[str x_env.Client, str x_env.Host, str x_env.Scheme, str x_env.By, .slice x_env_p0 x_env.Domains.length x_env_c0, .slice x_env_p1 x_env.Locations.length x_env_c1]] w0 fun e w' => ∃ (p0 : Option Addr) (c0 : Nat) (p1 : Option Addr) (c1 : Nat), e = .returned (.agg #[str R.Client, str R.Host, str R.Scheme, str R.By, .slice p0 R.Domains.length c0, .slice p1 R.Locations.length c1]) ∧ Dk.Own w0 [] w' [.row (.slice p0 R.Domains.length c0) 98 2 R.Domains.length (cells zb R.Domains), .row (.slice p1 R.Locations.length c1) 98 2 R.Locations.length (cells zb R.Locations)] := by
 rw [zj2] at hm
 have hF : zs [] := ze
 have hO : Dk.Own w0 [] w0 [] := Dk.Own.refl w0
 have hO := hO.addShr hs0 (by simp [Res.shared])
 have hO := hO.addShr hs1 (by simp [Res.shared])
 refine S.enter tb Tryz.func6 rfl Tryz.ntmps6 rfl ?_ hO hm
 refine bo rfl fun b1 => ?_
 refine al zs3 rfl fun b2 => ?_
 refine nl 98 2 ?_
 refine nl 98 2 ?_
 refine ld 3 rfl rfl ?_
 refine rw_ rfl fun a w hf hO hm => ?_
 obtain ⟨r4, hr4, hm⟩ := ob hm
 refine zo (zj c_17 hf (vs := [.agg #[str x_env.Client, str x_env.Host, str x_env.Scheme, str x_env.By, .slice x_env_p0 x_env.Domains.length x_env_c0, .slice x_env_p1 x_env.Locations.length x_env_c1]]) rfl) rfl hf rfl rfl (zsr x_env r4 _ (hG.own hF hO) (hO.sees (i := 5) rfl) hc0 (hO.sees (i := 4) rfl) hc1 hr4) ?_
 rintro e w' ⟨p5, c6, p7, c8, he, hO'⟩
 refine ⟨_, he, fun a hf => ?_⟩
 have hO := hO.call hO' (by simp [Res.shared])
 refine S.op tb ?_ hf hO hm
 refine al zs3 rfl fun b9 => ?_
 refine nl 98 2 ?_
 refine nl 98 2 ?_
 refine st 2 rfl rfl ?_
 refine ld 8 rfl rfl ?_
 refine rw_ rfl fun a w hf hO hm => ?_
 obtain ⟨r11, hr11, hm⟩ := ob hm
 refine zo (zj c_18 hf (vs := [.slice x_env_p0 x_env.Domains.length x_env_c0]) rfl) rfl hf rfl rfl (zn4 x_env.Domains r11 _ (hG.own hF hO) (hO.sees (i := 10) rfl) hc0 hr11) ?_
 rintro e w' ⟨p12, c13, he, hO'⟩
 refine ⟨_, he, fun a hf => ?_⟩
 have hO := hO.call hO' (by simp [Res.shared])
 refine S.op tb ?_ hf hO hm
 refine st 3 rfl rfl ?_
 refine ld 9 rfl rfl ?_
 refine rw_ rfl fun a w hf hO hm => ?_
 obtain ⟨r15, hr15, hm⟩ := ob hm
 refine zo (zj c_18 hf (vs := [.slice x_env_p1 x_env.Locations.length x_env_c1]) rfl) rfl hf rfl rfl (zn4 x_env.Locations r15 _ (hG.own hF hO) (hO.sees (i := 10) rfl) hc1 hr15) ?_
 rintro e w' ⟨p16, c17, he, hO'⟩
 refine ⟨_, he, fun a hf => ?_⟩
 have hO := hO.call hO' (by simp [Res.shared])
 refine S.op tb ?_ hf hO hm
 refine st 4 rfl rfl ?_
 refine ld 4 rfl rfl ?_
 refine st 9 rfl rfl ?_
 refine re_ rfl fun a w hf hO hm => ?_
 obtain rfl := Option.some.inj hm
 exact zh Tryz.results6 hf (.cell rfl (zk (n := 6) (vs := [str r4.Client, str r4.Host, str r4.Scheme, str r4.By, .slice p12 r11.length c13, .slice p16 r15.length c17]) zlA zkJ rfl ((hO.blkSees (i := 9) rfl).cells (o := 0) (n := 6) rfl)) .nil) ⟨p12, c13, p16, c17, rfl, (hO.choose [1, 0] rfl)⟩

theorem zhM (x_s : Str) (R : Str) (w0 : World) (hG : zr w0) (hm : zfy x_s = some R) :
    Calls Tryz.prog 19 #[str x_s] w0 (Ret w0 (fun R => str R) R) := by
 rw [zfy] at hm
 have hF : zs [] := ze
 have hO : Dk.Own w0 [] w0 [] := Dk.Own.refl w0
 refine S.enter tb Tryz.func19 rfl Tryz.ntmps19 rfl ?_ hO hm
 refine vl rfl rfl (fun a w hf hO => znv (m := (x_s.length : Int)) (n := 400) hf rfl rfl) ?_
 refine bi rfl fun s2 hs2 => ?_
 exact rt Tryz.results19 rfl

theorem zst (x_h : api_Head) (R : api_Head) (w0 : World) (hG : zr w0) {x_h_p0 : Option Addr} {x_h_c0 : Nat} (hs0 : zD w0 x_h_p0 (cells za x_h.Fields)) (hc0 : x_h.Fields.length ≤ x_h_c0) (hm : zj3 x_h = some R) :
    Calls Tryz.prog 7 #[.agg #[int x_h.Kind, str x_h.Method, str x_h.Target, int x_h.Code, str x_h.Reason, int x_h.Minor, .slice x_h_p0 x_h.Fields.length x_h_c0]] w0 fun e w' => ∃ (p0 : Option Addr) (c0 : Nat), e = .returned (.agg #[int R.Kind, str R.Method, str R.Target, int R.Code, str R.Reason, int R.Minor, .slice p0 R.Fields.length c0]) ∧ Dk.Own w0 [] w' [.row (.slice p0 R.Fields.length c0) 54 2 R.Fields.length (cells za R.Fields)] := by
 rw [zj3] at hm
 have hF : zs [] := ze
 have hO : Dk.Own w0 [] w0 [] := Dk.Own.refl w0
 have hO := hO.addShr hs0 (by simp [Res.shared])
 refine S.enter tb Tryz.func7 rfl Tryz.ntmps7 rfl ?_ hO hm
 refine bo rfl fun b1 => ?_
 refine al zne rfl fun b2 => ?_
 refine nl 54 2 ?_
 refine ld 2 rfl rfl ?_
 refine cl c_19 rfl (fun r4 w hr4 hO => zhM x_h.Method r4 _ (hG.own hF hO) hr4) fun r4 hr4 => ?_
 refine st 2 rfl rfl ?_
 refine ld 2 rfl rfl ?_
 refine cl c_19 rfl (fun r6 w hr6 hO => zhM x_h.Target r6 _ (hG.own hF hO) hr6) fun r6 hr6 => ?_
 refine st 2 rfl rfl ?_
 refine ld 2 rfl rfl ?_
 refine cl c_19 rfl (fun r8 w hr8 hO => zhM x_h.Reason r8 _ (hG.own hF hO) hr8) fun r8 hr8 => ?_
 refine st 2 rfl rfl ?_
 refine nl 54 2 ?_
 refine lv [1, 2] [1, 2, 3, 4] (fun J E L k => ∃ (p12 : Option Addr) (c13 : Nat) (l14 : List api_Field) (i15 : Int), J ((3, .slice p12 l14.length c13) :: (4, int i15) :: E) (.row (.slice p12 l14.length c13) 54 2 l14.length (cells za l14) :: L) (zct x_h r4 r6 r8 k l14 i15)) rfl (fun _ _ j => ⟨none, 0, [], 0, j rfl⟩) ?_
 rintro n1 a w ⟨p12, c13, l14, i15, hf, hO, hm⟩
 obtain _ | n1 := n1
 rw [zct] at hm
 cases hm
 rw [zct] at hm
 refine S.co tb ?_ hf hO hm
 refine jv 4 [1, 2, 3, 4] [0, 1, 2, 3, 4] (fun J E L => ∃ (t17 : Bool), J ((25, .bool t17) :: E) (L) (zg4 (zct x_h r4 r6 r8 n1) x_h r4 r6 r8 l14 i15 t17)) rfl ?_ ?_
 refine ld 3 rfl rfl ?_
 refine br rfl (fun hc16 => ?_) fun hc16 => ?_
 exact en rfl fun _ _ j => ⟨decide (i15 < 120), j rfl⟩
 exact en rfl fun _ _ j => ⟨false, j rfl⟩
 rintro a w ⟨t17, hf, hO, hm⟩
 rw [zg4] at hm
 refine S.co tb ?_ hf hO hm
 refine br rfl (fun hc18 => ?_) fun hc18 => ?_
 refine rc_ rfl fun a w hf hO hm => ?_
 obtain ⟨x20, hx20, hm⟩ := ob hm
 obtain ⟨b21, o22, hix20, hSx20⟩ := zaD (enc := za) (sz := 2) (xs := x_h.Fields) 26 Tryz.underlying26 zbs (by decide) (fun _ => rfl) (hO.sees (i := 4) rfl) hx20
 obtain ⟨r23, hr23, hm⟩ := ob hm
 obtain ⟨x24, hx24, hm⟩ := ob hm
 obtain ⟨b25, o26, hix24, hSx24⟩ := zaD (enc := za) (sz := 2) (xs := x_h.Fields) 26 Tryz.underlying26 zbs (by decide) (fun _ => rfl) (hO.sees (i := 4) rfl) hx24
 obtain ⟨r27, hr27, hm⟩ := ob hm
 obtain ⟨hg31, hm⟩ := og hm
 refine zav (S := Nat × Option Addr × Nat) (E0 := [(1, ptr b1 0), (2, ptr b2 0), (3, .slice p12 l14.length c13), (4, int i15)]) (by kernel_rfl) (fun k σ w => match k with | 0 => Dk.Own w0 [] w [.row (.slice p12 l14.length c13) 54 2 l14.length (cells za l14), .row (.slice none 0 0) 54 2 0 (cells za []), .blk b2 [int 0, str [], str [], int 0, str [], int 0, .slice none 0 0] 28, .blk b1 [int x_h.Kind, str r4, str r6, int x_h.Code, str r8, int x_h.Minor, .slice x_h_p0 x_h.Fields.length x_h_c0] 28, .shr x_h_p0 (cells za x_h.Fields)] | 1 => Dk.Own w0 [] w [.row (.slice p12 l14.length c13) 54 2 l14.length (cells za l14), .row (.slice none 0 0) 54 2 0 (cells za []), .blk b2 [int 0, str [], str [], int 0, str [], int 0, .slice none 0 0] 28, .blk b1 [int x_h.Kind, str r4, str r6, int x_h.Code, str r8, int x_h.Minor, .slice x_h_p0 x_h.Fields.length x_h_c0] 28, .shr x_h_p0 (cells za x_h.Fields)] | 2 => Dk.Own w0 [] w [.row (.slice p12 l14.length c13) 54 2 l14.length (cells za l14), .row (.slice none 0 0) 54 2 0 (cells za []), .blk b2 [int 0, str [], str [], int 0, str [], int 0, .slice none 0 0] 28, .blk b1 [int x_h.Kind, str r4, str r6, int x_h.Code, str r8, int x_h.Minor, .slice x_h_p0 x_h.Fields.length x_h_c0] 28, .shr x_h_p0 (cells za x_h.Fields)] | 3 => Dk.Own w0 [] w [.row (.slice (some ⟨(σ.1), 0, none⟩) (([(⟨r23, r27⟩ : api_Field)]).length) 1) 54 2 (([(⟨r23, r27⟩ : api_Field)]).length) (cells za ([(⟨r23, r27⟩ : api_Field)])), .row (.slice p12 l14.length c13) 54 2 l14.length (cells za l14), .row (.slice none 0 0) 54 2 0 (cells za []), .blk b2 [int 0, str [], str [], int 0, str [], int 0, .slice none 0 0] 28, .blk b1 [int x_h.Kind, str r4, str r6, int x_h.Code, str r8, int x_h.Minor, .slice x_h_p0 x_h.Fields.length x_h_c0] 28, .shr x_h_p0 (cells za x_h.Fields)] | _ => Dk.Own w0 [] w [.row (.slice (some ⟨(σ.1), 0, none⟩) (([(⟨r23, r27⟩ : api_Field)]).length) 1) 54 2 (([(⟨r23, r27⟩ : api_Field)]).length) (cells za ([(⟨r23, r27⟩ : api_Field)])), .row (.slice (σ.2.1) ((l14 ++ [(⟨r23, r27⟩ : api_Field)]).length) (σ.2.2)) 54 2 ((l14 ++ [(⟨r23, r27⟩ : api_Field)]).length) (cells za (l14 ++ [(⟨r23, r27⟩ : api_Field)])), .row (.slice none 0 0) 54 2 0 (cells za []), .blk b2 [int 0, str [], str [], int 0, str [], int 0, .slice none 0 0] 28, .blk b1 [int x_h.Kind, str r4, str r6, int x_h.Code, str r8, int x_h.Minor, .slice x_h_p0 x_h.Fields.length x_h_c0] 28, .shr x_h_p0 (cells za x_h.Fields)]) (fun σ => [⟨[(3, .slice p12 l14.length c13)], some (28, .slice p12 l14.length c13)⟩, ⟨[(1, ptr b1 0)], some (29, ptr b1 6)⟩, ⟨[(29, ptr b1 6)], some (30, .slice x_h_p0 x_h.Fields.length x_h_c0)⟩, ⟨[(4, int i15)], some (31, int i15)⟩, ⟨[(30, .slice x_h_p0 x_h.Fields.length x_h_c0), (31, int i15)], some (32, ptr b21 o22)⟩, ⟨[(32, ptr b21 o22)], some (33, ptr b21 o22)⟩, ⟨[(33, ptr b21 o22)], some (34, str x20.Name)⟩, ⟨[(34, str x20.Name)], some (35, str r23)⟩, ⟨[(1, ptr b1 0)], some (36, ptr b1 6)⟩, ⟨[(36, ptr b1 6)], some (37, .slice x_h_p0 x_h.Fields.length x_h_c0)⟩, ⟨[(4, int i15)], some (38, int i15)⟩, ⟨[(37, .slice x_h_p0 x_h.Fields.length x_h_c0), (38, int i15)], some (39, ptr b25 o26)⟩, ⟨[(39, ptr b25 o26)], some (40, ptr b25 (o26 + 1))⟩, ⟨[(40, ptr b25 (o26 + 1))], some (41, str x24.Value)⟩, ⟨[(41, str x24.Value)], some (42, str r27)⟩, ⟨[(35, str r23), (42, str r27)], some (43, .agg #[str r23, str r27])⟩, ⟨[(43, .agg #[str r23, str r27])], some (44, .slice (some ⟨(σ.1), 0, none⟩) (([(⟨r23, r27⟩ : api_Field)]).length) 1)⟩, ⟨[(28, .slice p12 l14.length c13), (44, .slice (some ⟨(σ.1), 0, none⟩) (([(⟨r23, r27⟩ : api_Field)]).length) 1)], some (45, .slice (σ.2.1) ((l14 ++ [(⟨r23, r27⟩ : api_Field)]).length) (σ.2.2))⟩, ⟨[(45, .slice (σ.2.1) ((l14 ++ [(⟨r23, r27⟩ : api_Field)]).length) (σ.2.2))], some (3, .slice (σ.2.1) ((l14 ++ [(⟨r23, r27⟩ : api_Field)]).length) (σ.2.2))⟩]) (0, none, 0) [7, 14, 16, 17] rfl (fun _ => rfl) (fun _ => rfl) (fun _ => rfl) rfl rfl (by decide) rfl hO.drew (hf.cons rfl (hf.cons rfl (hf.cons rfl (hf.cons rfl hf.nil)))) (fun σ => ⟨⟨rfl, trivial⟩, ⟨rfl, trivial⟩, ⟨rfl, trivial⟩, ⟨rfl, trivial⟩, ⟨rfl, rfl, trivial⟩, ⟨rfl, trivial⟩, ⟨rfl, trivial⟩, ⟨rfl, trivial⟩, ⟨rfl, trivial⟩, ⟨rfl, trivial⟩, ⟨rfl, trivial⟩, ⟨rfl, rfl, trivial⟩, ⟨rfl, trivial⟩, ⟨rfl, trivial⟩, ⟨rfl, trivial⟩, ⟨rfl, rfl, trivial⟩, ⟨rfl, trivial⟩, ⟨rfl, rfl, trivial⟩, ⟨rfl, trivial⟩, trivial⟩) ⟨zd rfl (fun σ => rfl) (fun σ => rfl) (fun σ a w k _ _ _ _ hf => zp hf rfl), zd rfl (fun σ => rfl) (fun σ => rfl) (fun σ a w k _ _ _ _ hf => zz zky hf rfl), zd rfl (fun σ => rfl) (fun σ => rfl) (fun σ a w k hk hlo hup hst hf => match k, hk, hlo, hup, hst, hf with | 0, _, _, _, hst, hf => have hO : Dk.Own w0 [] w _ := hst; zf (o := 6) zcE (hO.blkSees (i := 3) rfl) rfl hf rfl | 1, _, _, _, hst, hf => have hO : Dk.Own w0 [] w _ := hst; zf (o := 6) zcE (hO.blkSees (i := 3) rfl) rfl hf rfl | 2, _, _, _, hst, hf => have hO : Dk.Own w0 [] w _ := hst; zf (o := 6) zcE (hO.blkSees (i := 3) rfl) rfl hf rfl | 3, _, _, _, hst, hf => have hO : Dk.Own w0 [] w _ := hst; zf (o := 6) zcE (hO.blkSees (i := 4) rfl) rfl hf rfl | 4, _, _, _, hst, hf => have hO : Dk.Own w0 [] w _ := hst; zf (o := 6) zcE (hO.blkSees (i := 4) rfl) rfl hf rfl | k + 5, hk, _, _, _, _ => absurd hk (by simp)), zd rfl (fun σ => rfl) (fun σ => rfl) (fun σ a w k _ _ _ _ hf => zp hf rfl), zd rfl (fun σ => rfl) (fun σ => rfl) (fun σ a w k _ _ _ _ hf => zi hix20 hf rfl rfl), zd rfl (fun σ => rfl) (fun σ => rfl) (fun σ a w k _ _ _ _ hf => zz zuq hf rfl), zd rfl (fun σ => rfl) (fun σ => rfl) (fun σ a w k hk hlo hup hst hf => match k, hk, hlo, hup, hst, hf with | 0, _, _, _, hst, hf => have hO : Dk.Own w0 [] w _ := hst; zf (o := 0) zX (hSx20 _ (hO.sees (i := 4) rfl)) rfl hf rfl | 1, _, _, _, hst, hf => have hO : Dk.Own w0 [] w _ := hst; zf (o := 0) zX (hSx20 _ (hO.sees (i := 4) rfl)) rfl hf rfl | 2, _, _, _, hst, hf => have hO : Dk.Own w0 [] w _ := hst; zf (o := 0) zX (hSx20 _ (hO.sees (i := 4) rfl)) rfl hf rfl | 3, _, _, _, hst, hf => have hO : Dk.Own w0 [] w _ := hst; zf (o := 0) zX (hSx20 _ (hO.sees (i := 5) rfl)) rfl hf rfl | 4, _, _, _, hst, hf => have hO : Dk.Own w0 [] w _ := hst; zf (o := 0) zX (hSx20 _ (hO.sees (i := 5) rfl)) rfl hf rfl | k + 5, hk, _, _, _, _ => absurd hk (by simp)), zaR rfl (fun σ => rfl) (fun σ => rfl) rfl (fun σ a w (_ : _) hf => zj c_19 hf (vs := [str x20.Name]) rfl) (fun σ w (hO : Dk.Own w0 [] w _) => (zhM x20.Name r23 _ (hG.own hF hO) hr23).mono fun e w' h => by obtain ⟨he, hb⟩ := h; exact ⟨((σ.1), (σ.2.1), (σ.2.2)), he, hO.grow hb, .inr rfl, .inr rfl, .inr rfl, .inr rfl, .inr rfl, .inr rfl, .inr rfl, .inr rfl, .inr rfl, .inr rfl, .inr rfl, .inr rfl, .inr rfl, .inr rfl, .inr rfl, .inr rfl, .inr rfl, .inr rfl, .inr rfl, trivial⟩), zd rfl (fun σ => rfl) (fun σ => rfl) (fun σ a w k _ _ _ _ hf => zz zky hf rfl), zd rfl (fun σ => rfl) (fun σ => rfl) (fun σ a w k hk hlo hup hst hf => match k, hk, hlo, hup, hst, hf with | 0, _, _, _, hst, hf => have hO : Dk.Own w0 [] w _ := hst; zf (o := 6) zcE (hO.blkSees (i := 3) rfl) rfl hf rfl | 1, _, _, _, hst, hf => have hO : Dk.Own w0 [] w _ := hst; zf (o := 6) zcE (hO.blkSees (i := 3) rfl) rfl hf rfl | 2, _, _, _, hst, hf => have hO : Dk.Own w0 [] w _ := hst; zf (o := 6) zcE (hO.blkSees (i := 3) rfl) rfl hf rfl | 3, _, _, _, hst, hf => have hO : Dk.Own w0 [] w _ := hst; zf (o := 6) zcE (hO.blkSees (i := 4) rfl) rfl hf rfl | 4, _, _, _, hst, hf => have hO : Dk.Own w0 [] w _ := hst; zf (o := 6) zcE (hO.blkSees (i := 4) rfl) rfl hf rfl | k + 5, hk, _, _, _, _ => absurd hk (by simp)), zd rfl (fun σ => rfl) (fun σ => rfl) (fun σ a w k _ _ _ _ hf => zp hf rfl), zd rfl (fun σ => rfl) (fun σ => rfl) (fun σ a w k _ _ _ _ hf => zi hix24 hf rfl rfl), zd rfl (fun σ => rfl) (fun σ => rfl) (fun σ a w k _ _ _ _ hf => zz zoQ hf rfl), zd rfl (fun σ => rfl) (fun σ => rfl) (fun σ a w k hk hlo hup hst hf => match k, hk, hlo, hup, hst, hf with | 0, _, _, _, hst, hf => have hO : Dk.Own w0 [] w _ := hst; zf (o := 1) zX (hSx24 _ (hO.sees (i := 4) rfl)) rfl hf rfl | 1, _, _, _, hst, hf => have hO : Dk.Own w0 [] w _ := hst; zf (o := 1) zX (hSx24 _ (hO.sees (i := 4) rfl)) rfl hf rfl | 2, _, _, _, hst, hf => have hO : Dk.Own w0 [] w _ := hst; zf (o := 1) zX (hSx24 _ (hO.sees (i := 4) rfl)) rfl hf rfl | 3, _, _, _, hst, hf => have hO : Dk.Own w0 [] w _ := hst; zf (o := 1) zX (hSx24 _ (hO.sees (i := 5) rfl)) rfl hf rfl | 4, _, _, _, hst, hf => have hO : Dk.Own w0 [] w _ := hst; zf (o := 1) zX (hSx24 _ (hO.sees (i := 5) rfl)) rfl hf rfl | k + 5, hk, _, _, _, _ => absurd hk (by simp)), zaR rfl (fun σ => rfl) (fun σ => rfl) rfl (fun σ a w (_ : _) hf => zj c_19 hf (vs := [str x24.Value]) rfl) (fun σ w (hO : Dk.Own w0 [] w _) => (zhM x24.Value r27 _ (hG.own hF hO) hr27).mono fun e w' h => by obtain ⟨he, hb⟩ := h; exact ⟨((σ.1), (σ.2.1), (σ.2.2)), he, hO.grow hb, .inr rfl, .inr rfl, .inr rfl, .inr rfl, .inr rfl, .inr rfl, .inr rfl, .inr rfl, .inr rfl, .inr rfl, .inr rfl, .inr rfl, .inr rfl, .inr rfl, .inr rfl, .inr rfl, .inr rfl, .inr rfl, .inr rfl, trivial⟩), zd rfl (fun σ => rfl) (fun σ => rfl) (fun σ a w k _ _ _ _ hf => zt (vs := [(0, str r23), (1, str r27)]) (v := .agg #[str r23, str r27]) hf rfl (by kernel_rfl)), zfC rfl (fun σ => rfl) (fun σ => rfl) rfl (fun σ w (hO : Dk.Own w0 [] w _) => by obtain ⟨b28, w', hO', hr⟩ := zbN (E := [(43, .agg #[str r23, str r27])]) (parts := #[(0, (.tmp 43))]) (t' := 26) (n := 1) (vs := [(0, .agg #[str r23, str r27])]) (cs := [str r23, str r27]) (e := 54) (sz := 2) (fun w => by kernel_rfl) rfl rfl hO rfl; exact ⟨(b28, (σ.2.1), (σ.2.2)), w', hO', ⟨.inr rfl, .inr rfl, .inr rfl, .inr rfl, .inr rfl, .inr rfl, .inr rfl, .inr rfl, .inr rfl, .inr rfl, .inr rfl, .inr rfl, .inr rfl, .inr rfl, .inr rfl, .inr rfl, .inl rfl, .inl rfl, .inr rfl, trivial⟩, hr⟩), zfC rfl (fun σ => rfl) (fun σ => rfl) rfl (fun σ w (hO : Dk.Own w0 [] w _) => by obtain ⟨p29, c30, w', hO', hr⟩ := zlL (E := [(28, .slice p12 l14.length c13), (44, .slice (some ⟨(σ.1), 0, none⟩) (([(⟨r23, r27⟩ : api_Field)]).length) 1)]) (x := (.tmp 28)) (y := (.tmp 44)) zpN (enc := za) (xs := l14) (ys := [(⟨r23, r27⟩ : api_Field)]) (i := 1) (fun _ => rfl) rfl (hO.rowSees (i := 0) rfl) (by simp [cells, za, Value.oneCell']) hg31 hO rfl rfl; exact ⟨((σ.1), p29, c30), w', hO', ⟨.inr rfl, .inr rfl, .inr rfl, .inr rfl, .inr rfl, .inr rfl, .inr rfl, .inr rfl, .inr rfl, .inr rfl, .inr rfl, .inr rfl, .inr rfl, .inr rfl, .inr rfl, .inr rfl, .inr rfl, .inl rfl, .inl rfl, trivial⟩, hr⟩), zd rfl (fun σ => rfl) (fun σ => rfl) (fun σ a w k _ _ _ _ hf => z8 hf rfl), trivial⟩ ?_
 rintro ⟨b28, p29, c30⟩ a w hf hO
 have hO : Dk.Own w0 [] w _ := hO
 have hf : Fits 49 [(1, ptr b1 0), (2, ptr b2 0), (3, .slice p29 ((l14 ++ [(⟨r23, r27⟩ : api_Field)]).length) c30), (4, int i15)] a := (hf.cons rfl (hf.cons rfl (hf.cons rfl (hf.cons rfl hf.nil))))
 refine S.no tb ?_ hf hO hm
 refine bi rfl fun i33 hi33 => ?_
 exact ec [1, 2, 3, 4, 5] rfl rfl rfl fun _ _ j => ⟨_, Nat.lt_succ_self _, p29, c30, l14 ++ [(⟨r23, r27⟩ : api_Field)], i33, j rfl⟩
 refine st 3 rfl rfl ?_
 refine ld 3 rfl rfl ?_
 refine st 2 rfl rfl ?_
 refine re_ rfl fun a w hf hO hm => ?_
 obtain rfl := Option.some.inj hm
 exact zh Tryz.results7 hf (.cell rfl (zk (n := 7) (vs := [int x_h.Kind, str r4, str r6, int x_h.Code, str r8, int x_h.Minor, .slice p12 l14.length c13]) zep zd0 rfl ((hO.blkSees (i := 2) rfl).cells (o := 0) (n := 7) rfl)) .nil) ⟨p12, c13, rfl, (hO.sub (.cons_cons _ (.cons _ (.cons _ (.cons _ (.cons _ .slnil))))))⟩

end Go.Proofs
end
section
set_option linter.unusedVariables false
set_option maxHeartbeats 1000000
set_option linter.unusedSimpArgs false
set_option maxRecDepth 100000
namespace Go.Proofs
open Go.Dk Go.Dm Go.RowKit

theorem zrd (x_v : api_Via) (R : Str × Int) (w0 : World) (hG : zr w0) (hm : zht x_v = some R) :
    Calls Tryz.prog 26 #[.agg #[str x_v.Proto, str x_v.Version, str x_v.By, str x_v.Comment]] w0 (Ret w0 (fun R => .tuple #[str R.1, int R.2]) R) := by
 rw [zht] at hm
 have hF : zs [] := ze
 have hO : Dk.Own w0 [] w0 [] := Dk.Own.refl w0
 refine S.enter tb Tryz.func26 rfl Tryz.ntmps26 rfl ?_ hO hm
 refine bo rfl fun b1 => ?_
 refine ld 0 rfl rfl ?_
 refine bi rfl fun s3 hs3 => ?_
 refine ld 0 rfl rfl ?_
 refine bi rfl fun s4 hs4 => ?_
 refine jv 0 [1] [0] (fun J E L => ∃ (s10 : Str), J ((4, str s10) :: E) (L) (zeA x_v s10)) rfl ?_ ?_
 refine ld 0 rfl rfl ?_
 refine br rfl (fun hc7 => ?_) fun hc7 => ?_
 refine ld 0 rfl rfl ?_
 refine bi rfl fun s8 hs8 => ?_
 refine bi rfl fun s9 hs9 => ?_
 exact en rfl fun _ _ j => ⟨s9, j rfl⟩
 exact en rfl fun _ _ j => ⟨s4, j rfl⟩
 rintro a w ⟨s10, hf, hO, hm⟩
 rw [zeA] at hm
 refine S.co tb ?_ hf hO hm
 refine jv 0 [1] [0] (fun J E L => ∃ (s16 : Str), J ((4, str s16) :: E) (L) (zez x_v s16)) rfl ?_ ?_
 refine ld 0 rfl rfl ?_
 refine br rfl (fun hc12 => ?_) fun hc12 => ?_
 refine bi rfl fun s13 hs13 => ?_
 refine ld 0 rfl rfl ?_
 refine bi rfl fun s14 hs14 => ?_
 refine bi rfl fun s15 hs15 => ?_
 exact en rfl fun _ _ j => ⟨s15, j rfl⟩
 exact en rfl fun _ _ j => ⟨s10, j rfl⟩
 rintro a w ⟨s16, hf, hO, hm⟩
 rw [zez] at hm
 refine S.co tb ?_ hf hO hm
 refine cl c_52 rfl (fun r17 w hr17 hO => zqf s16 r17 _ (hG.own hF hO) hr17) fun r17 hr17 => ?_
 refine al zq0 rfl fun b18 => ?_
 refine st 0 rfl rfl ?_
 refine jv 1 [4] [0, 1] (fun J E L => ∃ (t21 : Bool), J ((41, .bool t21) :: E) (L) (zfP s16 t21)) rfl ?_ ?_
 refine br rfl (fun hc20 => ?_) fun hc20 => ?_
 exact en rfl fun _ _ j => ⟨true, j rfl⟩
 refine ld 0 rfl rfl ?_
 refine ld 1 rfl rfl ?_
 refine vl rfl rfl (fun a w hf hO => zkY (by kernel_rfl) (eq_46 r17.1 x_v) hf rfl rfl) ?_
 exact en rfl fun _ _ j => ⟨!(r17.1 == x_v), j rfl⟩
 rintro a w ⟨t21, hf, hO, hm⟩
 rw [zfP] at hm
 refine S.co tb ?_ hf hO hm
 refine br rfl (fun hc22 => ?_) fun hc22 => ?_
 exact rt Tryz.results26 rfl
 exact rt Tryz.results26 rfl

theorem zre (x_sep : Str) (x_l : List Str) (R : Str) (w0 : World) (hG : zr w0) {x_l_p0 : Option Addr} {x_l_c0 : Nat} (hs0 : zD w0 x_l_p0 (cells zg x_l)) (hc0 : x_l.length ≤ x_l_c0) (hm : zi0 x_sep x_l = some R) :
    Calls Tryz.prog 97 #[str x_sep, .slice x_l_p0 x_l.length x_l_c0] w0 (Ret w0 (fun R => str R) R) := by
 rw [zi0] at hm
 have hF : zs [] := ze
 have hO : Dk.Own w0 [] w0 [] := Dk.Own.refl w0
 have hO := hO.addShr hs0 (by simp [Res.shared])
 refine S.enter tb Tryz.func97 rfl Tryz.ntmps97 rfl ?_ hO hm
 refine lv [0, 1] [0] (fun J E L k => ∃ (s4 : Str) (i5 : Int), J ((5, str s4) :: (6, int i5) :: E) (L) (zbV x_sep x_l k s4 i5)) rfl (fun _ _ j => ⟨[], 0, j rfl⟩) ?_
 rintro n1 a w ⟨s4, i5, hf, hO, hm⟩
 obtain _ | n1 := n1
 rw [zbV] at hm
 cases hm
 rw [zbV] at hm
 refine S.co tb ?_ hf hO hm
 refine br rfl (fun hc7 => ?_) fun hc7 => ?_
 refine jv 5 [0, 1, 6] [0] (fun J E L => ∃ (s12 : Str), J ((5, str s12) :: E) (L) (zfQ (zbV x_sep x_l n1) x_l i5 s12)) rfl ?_ ?_
 refine br rfl (fun hc10 => ?_) fun hc10 => ?_
 refine bi rfl fun s11 hs11 => ?_
 exact en rfl fun _ _ j => ⟨s11, j rfl⟩
 exact en rfl fun _ _ j => ⟨s4, j rfl⟩
 rintro a w ⟨s12, hf, hO, hm⟩
 rw [zfQ] at hm
 refine S.co tb ?_ hf hO hm
 refine rw_ rfl fun a w hf hO hm => ?_
 obtain ⟨x13, hx13, hm⟩ := ob hm
 obtain ⟨b14, o15, hix13, hSx13⟩ := zaD (enc := zg) (sz := 1) (xs := x_l) 42 Tryz.underlying42 zfB (by decide) (fun _ => rfl) (hO.sees (i := 0) rfl) hx13
 refine zR (zi hix13 hf rfl rfl) rfl hf rfl rfl fun a hf => ?_
 refine S.op tb ?_ hf hO hm
 refine vl rfl rfl (fun a w hf hO => zf (o := 0) zX (hSx13 _ (hO.sees (i := 0) rfl)) rfl hf rfl) ?_
 refine bi rfl fun s16 hs16 => ?_
 refine bi rfl fun i18 hi18 => ?_
 exact en rfl fun _ _ j => ⟨_, Nat.lt_succ_self _, s16, i18, j rfl⟩
 exact rt Tryz.results97 rfl

theorem zlZ (x_b : UInt8) (R : Bool) (w0 : World) (hG : zr w0) (hm : zgx x_b = some R) :
    Calls Tryz.prog 98 #[zac x_b] w0 (Ret w0 (fun R => .bool R) R) := by
 rw [zgx] at hm
 have hF : zs [] := ze
 have hO : Dk.Own w0 [] w0 [] := Dk.Own.refl w0
 refine S.enter tb Tryz.func98 rfl Tryz.ntmps98 rfl ?_ hO hm
 refine jv 0 [] [] (fun J E L => ∃ (t3 : Bool), J ((2, .bool t3) :: E) (L) (zg7 t3)) rfl ?_ ?_
 refine vl rfl rfl (fun a w hf hO => zJ (b := x_b) (c := 32) hf rfl rfl) ?_
 refine br rfl (fun hc2 => ?_) fun hc2 => ?_
 exact en rfl fun _ _ j => ⟨true, j rfl⟩
 refine vl rfl rfl (fun a w hf hO => zJ (b := x_b) (c := 9) hf rfl rfl) ?_
 exact en rfl fun _ _ j => ⟨x_b == 9, j rfl⟩
 rintro a w ⟨t3, hf, hO, hm⟩
 rw [zg7] at hm
 refine S.co tb ?_ hf hO hm
 exact rt Tryz.results98 rfl

theorem zoV (x_s : Str) (x_l : List Str) (R : Str) (w0 : World) (hG : zr w0) {x_l_p0 : Option Addr} {x_l_c0 : Nat} (hs0 : zD w0 x_l_p0 (cells zg x_l)) (hc0 : x_l.length ≤ x_l_c0) (hm : zg8 x_s x_l = some R) :
    Calls Tryz.prog 53 #[str x_s, .slice x_l_p0 x_l.length x_l_c0] w0 (Ret w0 (fun R => str R) R) := by
 rw [zg8] at hm
 have hF : zs [] := ze
 have hO : Dk.Own w0 [] w0 [] := Dk.Own.refl w0
 have hO := hO.addShr hs0 (by simp [Res.shared])
 refine S.enter tb Tryz.func53 rfl Tryz.ntmps53 rfl ?_ hO hm
 refine br rfl (fun hc3 => ?_) fun hc3 => ?_
 exact rt Tryz.results53 rfl
 refine cl c_97 rfl (fun r6 w hr6 hO => zre [44, 32] x_l r6 _ (hG.own hF hO) (hO.sees (i := 0) rfl) hc0 hr6) fun r6 hr6 => ?_
 refine lv [5] [0] (fun J E L k => ∃ (s9 : Str) (i10 : Int), J ((0, str s9) :: (6, int i10) :: E) (L) (za2 r6 k s9 i10)) rfl (fun _ _ j => ⟨x_s, 0, j rfl⟩) ?_
 rintro n1 a w ⟨s9, i10, hf, hO, hm⟩
 obtain _ | n1 := n1
 rw [za2] at hm
 cases hm
 rw [za2] at hm
 refine S.co tb ?_ hf hO hm
 refine br rfl (fun hc12 => ?_) fun hc12 => ?_
 refine jv 5 [0, 5, 6] [0] (fun J E L => ∃ (t18 : Bool), J ((29, .bool t18) :: E) (L) (zej (za2 r6 n1) r6 s9 i10 t18)) rfl ?_ ?_
 refine bi rfl fun b14 hb14 => ?_
 refine vl rfl rfl (fun a w hf hO => zeM (b := b14) (c := 44) hf rfl rfl) ?_
 refine br rfl (fun hc15 => ?_) fun hc15 => ?_
 refine bi rfl fun b16 hb16 => ?_
 refine cl c_98 rfl (fun r17 w hr17 hO => zlZ b16 r17 _ (hG.own hF hO) hr17) fun r17 hr17 => ?_
 exact en rfl fun _ _ j => ⟨!r17, j rfl⟩
 exact en rfl fun _ _ j => ⟨false, j rfl⟩
 rintro a w ⟨t18, hf, hO, hm⟩
 rw [zej] at hm
 refine S.co tb ?_ hf hO hm
 refine br rfl (fun hc19 => ?_) fun hc19 => ?_
 refine lv [5] [0] (fun J E L k => ∃ (s20 : Str), J ((0, str s20) :: E) (L) (zcg r6 k s20)) rfl (fun _ _ j => ⟨s9, j rfl⟩) ?_
 rintro n3 a w ⟨s20, hf, hO, hm⟩
 obtain _ | n3 := n3
 rw [zcg] at hm
 cases hm
 rw [zcg] at hm
 refine S.co tb ?_ hf hO hm
 refine bi rfl fun i21 hi21 => ?_
 refine bi rfl fun b22 hb22 => ?_
 refine cl c_98 rfl (fun r23 w hr23 hO => zlZ b22 r23 _ (hG.own hF hO) hr23) fun r23 hr23 => ?_
 refine br rfl (fun hc25 => ?_) fun hc25 => ?_
 refine bi rfl fun i27 hi27 => ?_
 refine bi rfl fun s28 hs28 => ?_
 exact en rfl fun _ _ j => ⟨_, Nat.lt_succ_self _, s28, j rfl⟩
 refine bi rfl fun s30 hs30 => ?_
 refine bi rfl fun s31 hs31 => ?_
 exact rt Tryz.results53 rfl
 refine bi rfl fun i34 hi34 => ?_
 exact en rfl fun _ _ j => ⟨_, Nat.lt_succ_self _, s9, i34, j rfl⟩
 exact rt Tryz.results53 rfl

theorem ziE (x_l : List api_Field) (x_name : Str) (x_s : Str) (R : List api_Field) (w0 : World) (hG : zr w0) {x_l_p0 : Option Addr} {x_l_c0 : Nat} (hs0 : zD w0 x_l_p0 (cells za x_l)) (hc0 : x_l.length ≤ x_l_c0) (hm : zbW x_l x_name x_s = some R) :
    Calls Tryz.prog 27 #[.slice x_l_p0 x_l.length x_l_c0, str x_name, str x_s] w0 fun e w' => ∃ (p0 : Option Addr) (c0 : Nat), e = .returned (.slice p0 R.length c0) ∧ Dk.Own w0 [] w' [.row (.slice p0 R.length c0) 54 2 R.length (cells za R)] := by
 rw [zbW] at hm
 have hF : zs [] := ze
 have hO : Dk.Own w0 [] w0 [] := Dk.Own.refl w0
 have hO := hO.addShr hs0 (by simp [Res.shared])
 refine S.enter tb Tryz.func27 rfl Tryz.ntmps27 rfl ?_ hO hm
 refine nl 54 2 ?_
 refine lv [0, 1, 2] [0, 1] (fun J E L k => ∃ (i4 : Int) (i5 : Int), J ((7, int i4) :: (8, int i5) :: E) (L) (za4 x_l x_name x_s k i4 i5)) rfl (fun _ _ j => ⟨(-1), 0, j rfl⟩) ?_
 rintro n1 a w ⟨i4, i5, hf, hO, hm⟩
 obtain _ | n1 := n1
 rw [za4] at hm
 cases hm
 rw [za4] at hm
 refine S.co tb ?_ hf hO hm
 refine br rfl (fun hc7 => ?_) fun hc7 => ?_
 refine jv 3 [0, 1, 2, 8] [0, 1] (fun J E L => ∃ (i15 : Int), J ((7, int i15) :: E) (L) (zek (za4 x_l x_name x_s n1) i5 i15)) rfl ?_ ?_
 refine rw_ rfl fun a w hf hO hm => ?_
 obtain ⟨x9, hx9, hm⟩ := ob hm
 obtain ⟨b10, o11, hix9, hSx9⟩ := zaD (enc := za) (sz := 2) (xs := x_l) 26 Tryz.underlying26 zbs (by decide) (fun _ => rfl) (hO.sees (i := 1) rfl) hx9
 refine zR (zi hix9 hf rfl rfl) rfl hf rfl rfl fun a hf => ?_
 refine S.op tb ?_ hf hO hm
 refine vl rfl rfl (fun a w hf hO => zq (o := 0) (vs := [str x9.Name, str x9.Value]) zig zbs (hSx9 _ (hO.sees (i := 1) rfl)) rfl rfl hf rfl) ?_
 refine cl c_35 rfl (fun r12 w hr12 hO => zpa x9 x_name r12 _ (hG.own hF hO) hr12) fun r12 hr12 => ?_
 refine br rfl (fun hc14 => ?_) fun hc14 => ?_
 exact en rfl fun _ _ j => ⟨i5, j rfl⟩
 exact en rfl fun _ _ j => ⟨i4, j rfl⟩
 rintro a w ⟨i15, hf, hO, hm⟩
 rw [zek] at hm
 refine S.co tb ?_ hf hO hm
 refine bi rfl fun i16 hi16 => ?_
 exact en rfl fun _ _ j => ⟨_, Nat.lt_succ_self _, i15, i16, j rfl⟩
 refine nl 54 2 ?_
 refine lv [0, 1, 2, 7] [1, 2] (fun J E L k => ∃ (p20 : Option Addr) (c21 : Nat) (l22 : List api_Field) (i23 : Int), J ((9, .slice p20 l22.length c21) :: (10, int i23) :: E) (.row (.slice p20 l22.length c21) 54 2 l22.length (cells za l22) :: L) (za3 x_l x_name x_s i4 k l22 i23)) rfl (fun _ _ j => ⟨none, 0, [], 0, j rfl⟩) ?_
 rintro n3 a w ⟨p20, c21, l22, i23, hf, hO, hm⟩
 obtain _ | n3 := n3
 rw [za3] at hm
 cases hm
 rw [za3] at hm
 refine S.co tb ?_ hf hO hm
 refine br rfl (fun hc25 => ?_) fun hc25 => ?_
 refine rw_ rfl fun a w hf hO hm => ?_
 obtain ⟨x27, hx27, hm⟩ := ob hm
 obtain ⟨b28, o29, hix27, hSx27⟩ := zaD (enc := za) (sz := 2) (xs := x_l) 26 Tryz.underlying26 zbs (by decide) (fun _ => rfl) (hO.sees (i := 2) rfl) hx27
 refine zR (zi hix27 hf rfl rfl) rfl hf rfl rfl fun a hf => ?_
 refine S.op tb ?_ hf hO hm
 refine vl rfl rfl (fun a w hf hO => zq (o := 0) (vs := [str x27.Name, str x27.Value]) zig zbs (hSx27 _ (hO.sees (i := 2) rfl)) rfl rfl hf rfl) ?_
 refine al zs4 rfl fun b30 => ?_
 refine st 0 rfl rfl ?_
 refine jv 5 [0, 1, 2, 7, 9, 10, 11] [1, 2, 3] (fun J E L => ∃ (s36 : Str), J (E) (.blk b30 [str x27.Name, str s36] 54 :: L) (zel (za3 x_l x_name x_s i4 n3) l22 i23 x27 s36)) rfl ?_ ?_
 refine br rfl (fun hc33 => ?_) fun hc33 => ?_
 refine ld 0 rfl rfl ?_
 refine rw_ rfl fun a w hf hO hm => ?_
 refine zn (vs := [(0, str x_s)]) (cs := [str x_s]) (e := 9) (sz := 1) hf rfl rfl (fun w => by kernel_rfl) rfl rfl hO fun a b34 w hf hO => ?_
 refine S.op tb ?_ hf hO hm
 refine cl c_53 rfl (fun r35 w hr35 hO => zoV x27.Value ([x_s] : List Str) r35 _ (hG.own hF hO) (hO.rowSees (i := 0) rfl) (hO.rowCap (i := 0) rfl) hr35) fun r35 hr35 => ?_
 refine st 1 rfl rfl ?_
 exact ec [1, 2, 3, 4] rfl rfl rfl fun _ _ j => ⟨r35, j rfl⟩
 exact en rfl fun _ _ j => ⟨x27.Value, j rfl⟩
 rintro a w ⟨s36, hf, hO, hm⟩
 rw [zel] at hm
 refine S.co tb ?_ hf hO hm
 refine ld 0 rfl rfl ?_
 refine rw_ rfl fun a w hf hO hm => ?_
 refine zn (vs := [(0, .agg #[str x27.Name, str s36])]) (cs := [str x27.Name, str s36]) (e := 54) (sz := 2) hf rfl rfl (fun w => by kernel_rfl) rfl rfl hO fun a b37 w hf hO => ?_
 refine S.op tb ?_ hf hO hm
 refine rw_ rfl fun a w hf hO hm => ?_
 obtain ⟨hg40, hm⟩ := og hm
 refine zZ zpN (enc := za) (xs := l22) (ys := [(⟨x27.Name, s36⟩ : api_Field)]) (i := 2) (fun _ => rfl) rfl (hO.rowSees (i := 0) rfl) (by simp [cells, za, Value.oneCell']) hg40 hf rfl rfl rfl hO fun a p38 c39 w hf hO => ?_
 refine S.op tb ?_ hf hO hm
 refine bi rfl fun i42 hi42 => ?_
 exact ec [2, 3, 4] rfl rfl rfl fun _ _ j => ⟨_, Nat.lt_succ_self _, p38, c39, l22 ++ [(⟨x27.Name, s36⟩ : api_Field)], i42, j rfl⟩
 refine jv 0 [] [1, 2] (fun J E L => ∃ (p50 : Option Addr) (c51 : Nat) (l52 : List api_Field), J ((9, .slice p50 l52.length c51) :: E) (.row (.slice p50 l52.length c51) 54 2 l52.length (cells za l52) :: L) (zem l52)) rfl ?_ ?_
 refine br rfl (fun hc45 => ?_) fun hc45 => ?_
 refine vl rfl rfl (fun a w hf hO => zt (vs := [(0, str x_name), (1, str x_s)]) (v := .agg #[str x_name, str x_s]) hf rfl (by kernel_rfl)) ?_
 refine rw_ rfl fun a w hf hO hm => ?_
 refine zn (vs := [(0, .agg #[str x_name, str x_s])]) (cs := [str x_name, str x_s]) (e := 54) (sz := 2) hf rfl rfl (fun w => by kernel_rfl) rfl rfl hO fun a b46 w hf hO => ?_
 refine S.op tb ?_ hf hO hm
 refine rw_ rfl fun a w hf hO hm => ?_
 obtain ⟨hg49, hm⟩ := og hm
 refine zZ zpN (enc := za) (xs := l22) (ys := [(⟨x_name, x_s⟩ : api_Field)]) (i := 1) (fun _ => rfl) rfl (hO.rowSees (i := 0) rfl) (by simp [cells, za, Value.oneCell']) hg49 hf rfl rfl rfl hO fun a p47 c48 w hf hO => ?_
 refine S.op tb ?_ hf hO hm
 exact ec [1, 2, 3] rfl rfl rfl fun _ _ j => ⟨p47, c48, l22 ++ [(⟨x_name, x_s⟩ : api_Field)], j rfl⟩
 exact en rfl fun _ _ j => ⟨p20, c21, l22, j rfl⟩
 rintro a w ⟨p50, c51, l52, hf, hO, hm⟩
 rw [zem] at hm
 refine S.co tb ?_ hf hO hm
 refine re_ rfl fun a w hf hO hm => ?_
 obtain rfl := Option.some.inj hm
 exact zh Tryz.results27 hf (.tmp rfl .nil) ⟨p50, c51, rfl, (hO.sub (.cons_cons _ (.cons _ (.cons _ .slnil))))⟩

theorem zrf (x_env : api_Env) (R : List api_Param) (w0 : World) (hG : zr w0) {x_env_p0 : Option Addr} {x_env_c0 : Nat} (hs0 : zD w0 x_env_p0 (cells zb x_env.Domains)) (hc0 : x_env.Domains.length ≤ x_env_c0) {x_env_p1 : Option Addr} {x_env_c1 : Nat} (hs1 : zD w0 x_env_p1 (cells zb x_env.Locations)) (hc1 : x_env.Locations.length ≤ x_env_c1) (hm : zi1 x_env = some R) :
    Calls Tryz.prog 29 #[.agg #[str x_env.Client, str x_env.Host, str x_env.Scheme, str x_env.By, .slice x_env_p0 x_env.Domains.length x_env_c0, .slice x_env_p1 x_env.Locations.length x_env_c1]] w0 fun e w' => ∃ (p0 : Option Addr) (c0 : Nat), e = .returned (.slice p0 R.length c0) ∧ Dk.Own w0 [] w' [.row (.slice p0 R.length c0) 112 2 R.length (cells zF R)] := by
 rw [zi1] at hm
 have hF : zs [] := ze
 have hO : Dk.Own w0 [] w0 [] := Dk.Own.refl w0
 have hO := hO.addShr hs0 (by simp [Res.shared])
 have hO := hO.addShr hs1 (by simp [Res.shared])
 refine S.enter tb Tryz.func29 rfl Tryz.ntmps29 rfl ?_ hO hm
 refine bo rfl fun b1 => ?_
 refine nl 112 2 ?_
 refine jv 0 [1] [0, 1, 2, 3] (fun J E L => ∃ (s9 : Str), J ((3, str s9) :: E) (L) (zeC x_env s9)) rfl ?_ ?_
 refine ld 1 rfl rfl ?_
 refine cl c_56 rfl (fun r4 w hr4 hO => zk1 x_env.Client r4 _ (hG.own hF hO) hr4) fun r4 hr4 => ?_
 refine br rfl (fun hc6 => ?_) fun hc6 => ?_
 refine ld 1 rfl rfl ?_
 refine bi rfl fun s7 hs7 => ?_
 refine bi rfl fun s8 hs8 => ?_
 exact en rfl fun _ _ j => ⟨s8, j rfl⟩
 exact en rfl fun _ _ j => ⟨[117, 110, 107, 110, 111, 119, 110], j rfl⟩
 rintro a w ⟨s9, hf, hO, hm⟩
 rw [zeC] at hm
 refine S.co tb ?_ hf hO hm
 refine jv 0 [1] [0, 1, 2, 3] (fun J E L => ∃ (s13 : Str), J ((3, str s13) :: E) (L) (zeB x_env s13)) rfl ?_ ?_
 refine ld 1 rfl rfl ?_
 refine cl c_57 rfl (fun r10 w hr10 hO => zix x_env.Client r10 _ (hG.own hF hO) hr10) fun r10 hr10 => ?_
 refine br rfl (fun hc12 => ?_) fun hc12 => ?_
 refine ld 1 rfl rfl ?_
 exact en rfl fun _ _ j => ⟨x_env.Client, j rfl⟩
 exact en rfl fun _ _ j => ⟨s9, j rfl⟩
 rintro a w ⟨s13, hf, hO, hm⟩
 rw [zeB] at hm
 refine S.co tb ?_ hf hO hm
 refine vl rfl rfl (fun a w hf hO => zt (vs := [(0, str [102, 111, 114]), (1, str s13)]) (v := .agg #[str [102, 111, 114], str s13]) hf rfl (by kernel_rfl)) ?_
 refine rw_ rfl fun a w hf hO hm => ?_
 refine zn (vs := [(0, .agg #[str [102, 111, 114], str s13])]) (cs := [str [102, 111, 114], str s13]) (e := 112) (sz := 2) hf rfl rfl (fun w => by kernel_rfl) rfl rfl hO fun a b14 w hf hO => ?_
 refine S.op tb ?_ hf hO hm
 refine jv 0 [1] [1, 2, 3, 4] (fun J E L => ∃ (p22 : Option Addr) (c23 : Nat) (l24 : List api_Param), J ((4, .slice p22 l24.length c23) :: E) (.row (.slice p22 l24.length c23) 112 2 l24.length (cells zF l24) :: L) (zfS x_env l24)) rfl ?_ ?_
 refine ld 2 rfl rfl ?_
 refine br rfl (fun hc17 => ?_) fun hc17 => ?_
 refine ld 2 rfl rfl ?_
 refine vl rfl rfl (fun a w hf hO => zt (vs := [(0, str [104, 111, 115, 116]), (1, str x_env.Host)]) (v := .agg #[str [104, 111, 115, 116], str x_env.Host]) hf rfl (by kernel_rfl)) ?_
 refine rw_ rfl fun a w hf hO hm => ?_
 refine zn (vs := [(0, .agg #[str [104, 111, 115, 116], str x_env.Host])]) (cs := [str [104, 111, 115, 116], str x_env.Host]) (e := 112) (sz := 2) hf rfl rfl (fun w => by kernel_rfl) rfl rfl hO fun a b18 w hf hO => ?_
 refine S.op tb ?_ hf hO hm
 refine rw_ rfl fun a w hf hO hm => ?_
 obtain ⟨hg21, hm⟩ := og hm
 refine zZ zun (enc := zF) (xs := [(⟨[102, 111, 114], s13⟩ : api_Param)]) (ys := [(⟨[104, 111, 115, 116], x_env.Host⟩ : api_Param)]) (i := 1) (fun _ => rfl) rfl (hO.rowSees (i := 0) rfl) (by simp [cells, zF, Value.oneCell']) hg21 hf rfl rfl rfl hO fun a p19 c20 w hf hO => ?_
 refine S.op tb ?_ hf hO hm
 exact ec [1, 2, 3, 4, 5] rfl rfl rfl fun _ _ j => ⟨p19, c20, ([(⟨[102, 111, 114], s13⟩ : api_Param)]) ++ [(⟨[104, 111, 115, 116], x_env.Host⟩ : api_Param)], j rfl⟩
 exact en rfl fun _ _ j => ⟨some ⟨b14, 0, none⟩, 1, [(⟨[102, 111, 114], s13⟩ : api_Param)], j rfl⟩
 rintro a w ⟨p22, c23, l24, hf, hO, hm⟩
 rw [zfS] at hm
 refine S.co tb ?_ hf hO hm
 refine jv 0 [] [1, 2, 3, 4] (fun J E L => ∃ (p31 : Option Addr) (c32 : Nat) (l33 : List api_Param), J ((4, .slice p31 l33.length c32) :: E) (.row (.slice p31 l33.length c32) 112 2 l33.length (cells zF l33) :: L) (zfR l33)) rfl ?_ ?_
 refine ld 2 rfl rfl ?_
 refine br rfl (fun hc26 => ?_) fun hc26 => ?_
 refine ld 2 rfl rfl ?_
 refine vl rfl rfl (fun a w hf hO => zt (vs := [(0, str [112, 114, 111, 116, 111]), (1, str x_env.Scheme)]) (v := .agg #[str [112, 114, 111, 116, 111], str x_env.Scheme]) hf rfl (by kernel_rfl)) ?_
 refine rw_ rfl fun a w hf hO hm => ?_
 refine zn (vs := [(0, .agg #[str [112, 114, 111, 116, 111], str x_env.Scheme])]) (cs := [str [112, 114, 111, 116, 111], str x_env.Scheme]) (e := 112) (sz := 2) hf rfl rfl (fun w => by kernel_rfl) rfl rfl hO fun a b27 w hf hO => ?_
 refine S.op tb ?_ hf hO hm
 refine rw_ rfl fun a w hf hO hm => ?_
 obtain ⟨hg30, hm⟩ := og hm
 refine zZ zun (enc := zF) (xs := l24) (ys := [(⟨[112, 114, 111, 116, 111], x_env.Scheme⟩ : api_Param)]) (i := 1) (fun _ => rfl) rfl (hO.rowSees (i := 0) rfl) (by simp [cells, zF, Value.oneCell']) hg30 hf rfl rfl rfl hO fun a p28 c29 w hf hO => ?_
 refine S.op tb ?_ hf hO hm
 exact ec [1, 2, 3, 4, 5] rfl rfl rfl fun _ _ j => ⟨p28, c29, l24 ++ [(⟨[112, 114, 111, 116, 111], x_env.Scheme⟩ : api_Param)], j rfl⟩
 exact en rfl fun _ _ j => ⟨p22, c23, l24, j rfl⟩
 rintro a w ⟨p31, c32, l33, hf, hO, hm⟩
 rw [zfR] at hm
 refine S.co tb ?_ hf hO hm
 refine re_ rfl fun a w hf hO hm => ?_
 obtain rfl := Option.some.inj hm
 exact zh Tryz.results29 hf (.tmp rfl .nil) ⟨p31, c32, rfl, (hO.sub (.cons_cons _ (.cons _ (.cons _ (.cons _ (.cons _ .slnil))))))⟩

theorem zp7 (x_s : Str) (R : Str × Int) (w0 : World) (hG : zr w0) (hm : zjn x_s = some R) :
    Calls Tryz.prog 99 #[str x_s] w0 (Ret w0 (fun R => .tuple #[str R.1, int R.2]) R) := by
 rw [zjn] at hm
 have hF : zs [] := ze
 have hO : Dk.Own w0 [] w0 [] := Dk.Own.refl w0
 refine S.enter tb Tryz.func99 rfl Tryz.ntmps99 rfl ?_ hO hm
 refine lv [0] [] (fun J E L k => ∃ (s4 : Str) (i5 : Int), J ((4, str s4) :: (5, int i5) :: E) (L) (zal x_s k s4 i5)) rfl (fun _ _ j => ⟨[34], 0, j rfl⟩) ?_
 rintro n1 a w ⟨s4, i5, hf, hO, hm⟩
 obtain _ | n1 := n1
 rw [zal] at hm
 cases hm
 rw [zal] at hm
 refine S.co tb ?_ hf hO hm
 refine br rfl (fun hc7 => ?_) fun hc7 => ?_
 refine bi rfl fun b9 hb9 => ?_
 refine cl zwx rfl (fun r10 w hr10 hO => zjt b9 r10 _ (hG.own hF hO) hr10) fun r10 hr10 => ?_
 refine br rfl (fun hc12 => ?_) fun hc12 => ?_
 exact rt Tryz.results99 rfl
 refine jv 5 [0, 5] [] (fun J E L => ∃ (s21 : Str), J ((4, str s21) :: E) (L) (zdR (zal x_s n1) x_s i5 s21)) rfl ?_ ?_
 refine jv 6 [0, 4, 5] [] (fun J E L => ∃ (t18 : Bool), J ((26, .bool t18) :: E) (L) (zdS (zal x_s n1) x_s s4 i5 t18)) rfl ?_ ?_
 refine bi rfl fun b15 hb15 => ?_
 refine vl rfl rfl (fun a w hf hO => zJ (b := b15) (c := 34) hf rfl rfl) ?_
 refine br rfl (fun hc16 => ?_) fun hc16 => ?_
 exact en rfl fun _ _ j => ⟨true, j rfl⟩
 refine bi rfl fun b17 hb17 => ?_
 refine vl rfl rfl (fun a w hf hO => zJ (b := b17) (c := 92) hf rfl rfl) ?_
 exact en rfl fun _ _ j => ⟨b17 == 92, j rfl⟩
 rintro a w ⟨t18, hf, hO, hm⟩
 rw [zdS] at hm
 refine S.co tb ?_ hf hO hm
 refine br rfl (fun hc19 => ?_) fun hc19 => ?_
 refine bi rfl fun s20 hs20 => ?_
 exact en rfl fun _ _ j => ⟨s20, j rfl⟩
 exact en rfl fun _ _ j => ⟨s4, j rfl⟩
 rintro a w ⟨s21, hf, hO, hm⟩
 rw [zdR] at hm
 refine S.co tb ?_ hf hO hm
 refine bi rfl fun i22 hi22 => ?_
 refine bi rfl fun s23 hs23 => ?_
 refine bi rfl fun s24 hs24 => ?_
 refine bi rfl fun i26 hi26 => ?_
 exact en rfl fun _ _ j => ⟨_, Nat.lt_succ_self _, s24, i26, j rfl⟩
 refine bi rfl fun s28 hs28 => ?_
 exact rt Tryz.results99 rfl

theorem zoW (x_s : Str) (R : Str × Int) (w0 : World) (hG : zr w0) (hm : zg9 x_s = some R) :
    Calls Tryz.prog 54 #[str x_s] w0 (Ret w0 (fun R => .tuple #[str R.1, int R.2]) R) := by
 rw [zg9] at hm
 have hF : zs [] := ze
 have hO : Dk.Own w0 [] w0 [] := Dk.Own.refl w0
 refine S.enter tb Tryz.func54 rfl Tryz.ntmps54 rfl ?_ hO hm
 refine cl zr0 rfl (fun r2 w hr2 hO => zbO x_s r2 _ (hG.own hF hO) hr2) fun r2 hr2 => ?_
 refine br rfl (fun hc4 => ?_) fun hc4 => ?_
 exact rt Tryz.results54 rfl
 refine cl c_99 rfl (fun r7 w hr7 hO => zp7 x_s r7 _ (hG.own hF hO) hr7) fun r7 hr7 => ?_
 exact rt Tryz.results54 rfl

theorem zrg (x_l : List api_Param) (R : Str × Int) (w0 : World) (hG : zr w0) {x_l_p0 : Option Addr} {x_l_c0 : Nat} (hs0 : zD w0 x_l_p0 (cells zF x_l)) (hc0 : x_l.length ≤ x_l_c0) (hm : zku x_l = some R) :
    Calls Tryz.prog 28 #[.slice x_l_p0 x_l.length x_l_c0] w0 (Ret w0 (fun R => .tuple #[str R.1, int R.2]) R) := by
 rw [zku] at hm
 have hF : zs [] := ze
 have hO : Dk.Own w0 [] w0 [] := Dk.Own.refl w0
 have hO := hO.addShr hs0 (by simp [Res.shared])
 refine S.enter tb Tryz.func28 rfl Tryz.ntmps28 rfl ?_ hO hm
 refine lv [0] [0] (fun J E L k => ∃ (s4 : Str) (i5 : Int), J ((4, str s4) :: (5, int i5) :: E) (L) (zaY x_l k s4 i5)) rfl (fun _ _ j => ⟨[], 0, j rfl⟩) ?_
 rintro n1 a w ⟨s4, i5, hf, hO, hm⟩
 obtain _ | n1 := n1
 rw [zaY] at hm
 cases hm
 rw [zaY] at hm
 refine S.co tb ?_ hf hO hm
 refine br rfl (fun hc7 => ?_) fun hc7 => ?_
 refine rw_ rfl fun a w hf hO hm => ?_
 obtain ⟨x9, hx9, hm⟩ := ob hm
 obtain ⟨b10, o11, hix9, hSx9⟩ := zaD (enc := zF) (sz := 2) (xs := x_l) 73 Tryz.underlying73 znV (by decide) (fun _ => rfl) (hO.sees (i := 0) rfl) hx9
 refine zR (zi hix9 hf rfl rfl) rfl hf rfl rfl fun a hf => ?_
 refine S.op tb ?_ hf hO hm
 refine vl rfl rfl (fun a w hf hO => zf (o := 1) zX (hSx9 _ (hO.sees (i := 0) rfl)) rfl hf rfl) ?_
 refine cl c_54 rfl (fun r12 w hr12 hO => zoW x9.Value r12 _ (hG.own hF hO) hr12) fun r12 hr12 => ?_
 refine jv 6 [0, 4, 5, 6] [0] (fun J E L => ∃ (t19 : Bool), J ((33, .bool t19) :: E) (L) (zfT (zaY x_l n1) x_l s4 i5 r12 t19)) rfl ?_ ?_
 refine br rfl (fun hc14 => ?_) fun hc14 => ?_
 exact en rfl fun _ _ j => ⟨true, j rfl⟩
 refine rw_ rfl fun a w hf hO hm => ?_
 obtain ⟨x15, hx15, hm⟩ := ob hm
 obtain ⟨b16, o17, hix15, hSx15⟩ := zaD (enc := zF) (sz := 2) (xs := x_l) 73 Tryz.underlying73 znV (by decide) (fun _ => rfl) (hO.sees (i := 0) rfl) hx15
 refine zR (zi hix15 hf rfl rfl) rfl hf rfl rfl fun a hf => ?_
 refine S.op tb ?_ hf hO hm
 refine kn (b' := false) hc14 rfl ?_
 refine vl rfl rfl (fun a w hf hO => zf (o := 0) zX (hSx15 _ (hO.sees (i := 0) rfl)) rfl hf rfl) ?_
 refine cl zr0 rfl (fun r18 w hr18 hO => zbO x15.Name r18 _ (hG.own hF hO) hr18) fun r18 hr18 => ?_
 exact en rfl fun _ _ j => ⟨!r18, j rfl⟩
 rintro a w ⟨t19, hf, hO, hm⟩
 rw [zfT] at hm
 refine S.co tb ?_ hf hO hm
 refine br rfl (fun hc20 => ?_) fun hc20 => ?_
 exact rt Tryz.results28 rfl
 refine jv 5 [0, 5, 6] [0] (fun J E L => ∃ (s26 : Str), J ((4, str s26) :: E) (L) (zeD (zaY x_l n1) x_l i5 r12 s26)) rfl ?_ ?_
 refine br rfl (fun hc24 => ?_) fun hc24 => ?_
 refine bi rfl fun s25 hs25 => ?_
 exact en rfl fun _ _ j => ⟨s25, j rfl⟩
 exact en rfl fun _ _ j => ⟨s4, j rfl⟩
 rintro a w ⟨s26, hf, hO, hm⟩
 rw [zeD] at hm
 refine S.co tb ?_ hf hO hm
 refine rw_ rfl fun a w hf hO hm => ?_
 obtain ⟨x27, hx27, hm⟩ := ob hm
 obtain ⟨b28, o29, hix27, hSx27⟩ := zaD (enc := zF) (sz := 2) (xs := x_l) 73 Tryz.underlying73 znV (by decide) (fun _ => rfl) (hO.sees (i := 0) rfl) hx27
 refine zR (zi hix27 hf rfl rfl) rfl hf rfl rfl fun a hf => ?_
 refine S.op tb ?_ hf hO hm
 refine vl rfl rfl (fun a w hf hO => zf (o := 0) zX (hSx27 _ (hO.sees (i := 0) rfl)) rfl hf rfl) ?_
 refine bi rfl fun s30 hs30 => ?_
 refine bi rfl fun s31 hs31 => ?_
 refine bi rfl fun s32 hs32 => ?_
 refine bi rfl fun i34 hi34 => ?_
 exact en rfl fun _ _ j => ⟨_, Nat.lt_succ_self _, s32, i34, j rfl⟩
 refine br rfl (fun hc37 => ?_) fun hc37 => ?_
 exact rt Tryz.results28 rfl
 exact rt Tryz.results28 rfl

theorem zsa (x_client : Str) (R : Str) (w0 : World) (hG : zr w0) (hm : zj8 x_client = some R) :
    Calls Tryz.prog 30 #[str x_client] w0 (Ret w0 (fun R => str R) R) := by
 rw [zj8] at hm
 have hF : zs [] := ze
 have hO : Dk.Own w0 [] w0 [] := Dk.Own.refl w0
 refine S.enter tb Tryz.func30 rfl Tryz.ntmps30 rfl ?_ hO hm
 refine jv 1 [0] [] (fun J E L => ∃ (t5 : Bool), J ((8, .bool t5) :: E) (L) (zha x_client t5)) rfl ?_ ?_
 refine cl c_57 rfl (fun r2 w hr2 hO => zix x_client r2 _ (hG.own hF hO) hr2) fun r2 hr2 => ?_
 refine br rfl (fun hc3 => ?_) fun hc3 => ?_
 exact en rfl fun _ _ j => ⟨true, j rfl⟩
 refine cl c_56 rfl (fun r4 w hr4 hO => zk1 x_client r4 _ (hG.own hF hO) hr4) fun r4 hr4 => ?_
 exact en rfl fun _ _ j => ⟨r4, j rfl⟩
 rintro a w ⟨t5, hf, hO, hm⟩
 rw [zha] at hm
 refine S.co tb ?_ hf hO hm
 refine br rfl (fun hc6 => ?_) fun hc6 => ?_
 exact rt Tryz.results30 rfl
 exact rt Tryz.results30 rfl

theorem zrh (x_a0 : api_Env) (x_a1 : Int) (x_a2 : api_Head) (R : api_Head × Int) (w0 : World) (hG : zr w0) {x_a0_p0 : Option Addr} {x_a0_c0 : Nat} (hs0 : zD w0 x_a0_p0 (cells zb x_a0.Domains)) (hc0 : x_a0.Domains.length ≤ x_a0_c0) {x_a0_p1 : Option Addr} {x_a0_c1 : Nat} (hs1 : zD w0 x_a0_p1 (cells zb x_a0.Locations)) (hc1 : x_a0.Locations.length ≤ x_a0_c1) {x_a2_p2 : Option Addr} {x_a2_c2 : Nat} (hs2 : zD w0 x_a2_p2 (cells za x_a2.Fields)) (hc2 : x_a2.Fields.length ≤ x_a2_c2) (hm : zgj x_a0 x_a1 x_a2 = some R) :
    Calls Tryz.prog 9 #[.agg #[str x_a0.Client, str x_a0.Host, str x_a0.Scheme, str x_a0.By, .slice x_a0_p0 x_a0.Domains.length x_a0_c0, .slice x_a0_p1 x_a0.Locations.length x_a0_c1], int x_a1, .agg #[int x_a2.Kind, str x_a2.Method, str x_a2.Target, int x_a2.Code, str x_a2.Reason, int x_a2.Minor, .slice x_a2_p2 x_a2.Fields.length x_a2_c2]] w0 fun e w' => ∃ (p0 : Option Addr) (c0 : Nat), e = .returned (.tuple #[.agg #[int R.1.Kind, str R.1.Method, str R.1.Target, int R.1.Code, str R.1.Reason, int R.1.Minor, .slice p0 R.1.Fields.length c0], int R.2]) ∧ Dk.Own w0 [] w' [.row (.slice p0 R.1.Fields.length c0) 54 2 R.1.Fields.length (cells za R.1.Fields)] := by
 rw [zgj] at hm
 have hF : zs [] := ze
 have hO : Dk.Own w0 [] w0 [] := Dk.Own.refl w0
 have hO := hO.addShr hs0 (by simp [Res.shared])
 have hO := hO.addShr hs1 (by simp [Res.shared])
 have hO := hO.addShr hs2 (by simp [Res.shared])
 refine S.enter tb Tryz.func9 rfl Tryz.ntmps9 rfl ?_ hO hm
 refine bo rfl fun b1 => ?_
 refine bo rfl fun b2 => ?_
 refine al zne rfl fun b3 => ?_
 refine nl 54 2 ?_
 refine jv 1 [1, 3, 5, 6] [0, 1, 2, 3, 4, 5, 6] (fun J E L => ∃ (t9 : Bool), J ((27, .bool t9) :: E) (L) (zbX x_a0 x_a1 x_a2 t9)) rfl ?_ ?_
 refine ld 2 rfl rfl ?_
 refine br rfl (fun hc5 => ?_) fun hc5 => ?_
 refine ld 2 rfl rfl ?_
 refine br rfl (fun hc6 => ?_) fun hc6 => ?_
 exact en rfl fun _ _ j => ⟨true, j rfl⟩
 refine br rfl (fun hc7 => ?_) fun hc7 => ?_
 exact en rfl fun _ _ j => ⟨!(x_a1 == 1), j rfl⟩
 exact en rfl fun _ _ j => ⟨false, j rfl⟩
 refine br rfl (fun hc8 => ?_) fun hc8 => ?_
 exact en rfl fun _ _ j => ⟨!(x_a1 == 1), j rfl⟩
 exact en rfl fun _ _ j => ⟨false, j rfl⟩
 rintro a w ⟨t9, hf, hO, hm⟩
 rw [zbX] at hm
 refine S.co tb ?_ hf hO hm
 refine br rfl (fun hc10 => ?_) fun hc10 => ?_
 refine vl rfl rfl (fun a w hf hO => zt (vs := []) (v := .agg #[int 0, str [], str [], int 0, str [], int 0, .slice none 0 0]) hf rfl (by kernel_rfl)) ?_
 refine st 1 rfl rfl ?_
 refine nl 54 2 ?_
 refine re_ rfl fun a w hf hO hm => ?_
 obtain rfl := Option.some.inj hm
 exact zh Tryz.results9 hf (.cell rfl (zk (n := 7) (vs := [int 0, str [], str [], int 0, str [], int 0, .slice none 0 0]) zep zd0 rfl ((hO.blkSees (i := 2) rfl).cells (o := 0) (n := 7) rfl)) (.tmp rfl .nil)) ⟨none, 0, rfl, (hO.sub (.cons_cons _ (.cons _ (.cons _ (.cons _ (.cons _ (.cons _ (.cons _ (.cons _ .slnil)))))))))⟩
 refine rc_ rfl fun a w hf hO hm => ?_
 refine zeP (by kernel_rfl) (by kernel_rfl) hO ?_
 refine zx (fun w hO => zt (vs := [(0, str [49, 46, 48]), (1, str [49, 46, 49])]) (v := .agg #[str [49, 46, 48], str [49, 46, 49]]) hf rfl (by kernel_rfl)) rfl hf rfl rfl fun a hf => ?_
 refine zx (fun w hO => zp hf rfl) rfl hf rfl rfl fun a hf => ?_
 obtain ⟨s13, hs13, hm⟩ := ob hm
 refine zx (fun w hO => zuN (xs := [[49, 46, 48], [49, 46, 49]]) (n := 2) (e := 9) Tryz.underlying70 zfB zX rfl hf rfl rfl hs13) rfl hf rfl rfl fun a hf => ?_
 refine zx (fun w hO => zz zrX hf rfl) rfl hf rfl rfl fun a hf => ?_
 refine zx (fun w hO => zf (o := 3) zX (hO.blkSees (i := 3) rfl) rfl hf rfl) rfl hf rfl rfl fun a hf => ?_
 refine zx (fun w hO => zt (vs := [(1, str s13), (2, str x_a0.By)]) (v := .agg #[str [], str s13, str x_a0.By, str []]) hf rfl (by kernel_rfl)) rfl hf rfl rfl fun a hf => ?_
 obtain ⟨r14, hr14, hm⟩ := ob hm
 refine ztQ (fun w hO => zj c_26 hf (vs := [.agg #[str [], str s13, str x_a0.By, str []]]) rfl) rfl hf rfl rfl (fun w hO => (zrd (⟨[], s13, x_a0.By, []⟩ : api_Via) r14 _ (hG.own hF hO) hr14).mono fun e w' ⟨he, hb⟩ => ⟨he, hO.grow hb⟩) fun a hf => ?_
 refine zx (fun w hO => zp hf rfl) rfl hf rfl rfl fun a hf => ?_
 refine zx (fun w hO => zgb hf rfl rfl) rfl hf rfl rfl fun a hf => ?_
 refine zx (fun w hO => zgb hf rfl rfl) rfl hf rfl rfl fun a hf => ?_
 refine zx (fun w hO => z8 hf rfl) rfl hf rfl rfl fun a hf => ?_
 refine zx (fun w hO => z8 hf rfl) rfl hf rfl rfl fun a hf => ?_
 refine wpQuiet_nil ?_
 intro w hO
 refine S.no tb ?_ hf hO hm
 refine br rfl (fun hc17 => ?_) fun hc17 => ?_
 refine vl rfl rfl (fun a w hf hO => zt (vs := []) (v := .agg #[int 0, str [], str [], int 0, str [], int 0, .slice none 0 0]) hf rfl (by kernel_rfl)) ?_
 refine st 1 rfl rfl ?_
 refine nl 54 2 ?_
 refine re_ rfl fun a w hf hO hm => ?_
 obtain rfl := Option.some.inj hm
 exact zh Tryz.results9 hf (.cell rfl (zk (n := 7) (vs := [int 0, str [], str [], int 0, str [], int 0, .slice none 0 0]) zep zd0 rfl ((hO.blkSees (i := 2) rfl).cells (o := 0) (n := 7) rfl)) (.tmp rfl .nil)) ⟨none, 0, rfl, (hO.sub (.cons_cons _ (.cons _ (.cons _ (.cons _ (.cons _ (.cons _ (.cons _ (.cons _ .slnil)))))))))⟩
 refine ld 2 rfl rfl ?_
 refine rw_ rfl fun a w hf hO hm => ?_
 obtain ⟨r20, hr20, hm⟩ := ob hm
 refine zo (zj c_27 hf (vs := [.slice x_a2_p2 x_a2.Fields.length x_a2_c2, str [86, 105, 97], str r14.1]) rfl) rfl hf rfl rfl (ziE x_a2.Fields [86, 105, 97] r14.1 r20 _ (hG.own hF hO) (hO.sees (i := 4) rfl) hc2 hr20) ?_
 rintro e w' ⟨p21, c22, he, hO'⟩
 refine ⟨_, he, fun a hf => ?_⟩
 have hO := hO.call hO' (by simp [Res.shared])
 refine S.op tb ?_ hf hO hm
 refine st 3 rfl rfl ?_
 refine jv 0 [5, 6] [1, 2, 4, 5, 6, 7] (fun J E L => ∃ (p43 : Option Addr) (c44 : Nat) (l45 : List api_Field), J (E) (.blk b2 [int x_a2.Kind, str x_a2.Method, str x_a2.Target, int x_a2.Code, str x_a2.Reason, int x_a2.Minor, .slice p43 l45.length c44] 28 :: .row (.slice p43 l45.length c44) 54 2 l45.length (cells za l45) :: L) (zhH x_a2 l45)) rfl ?_ ?_
 refine ld 3 rfl rfl ?_
 refine br rfl (fun hc25 => ?_) fun hc25 => ?_
 refine ld 4 rfl rfl ?_
 refine rw_ rfl fun a w hf hO hm => ?_
 obtain ⟨r26, hr26, hm⟩ := ob hm
 refine zo (zj c_29 hf (vs := [.agg #[str x_a0.Client, str x_a0.Host, str x_a0.Scheme, str x_a0.By, .slice x_a0_p0 x_a0.Domains.length x_a0_c0, .slice x_a0_p1 x_a0.Locations.length x_a0_c1]]) rfl) rfl hf rfl rfl (zrf x_a0 r26 _ (hG.own hF hO) (hO.sees (i := 7) rfl) hc0 (hO.sees (i := 6) rfl) hc1 hr26) ?_
 rintro e w' ⟨p27, c28, he, hO'⟩
 refine ⟨_, he, fun a hf => ?_⟩
 have hO := hO.call hO' (by simp [Res.shared])
 refine S.op tb ?_ hf hO hm
 refine cl c_28 rfl (fun r29 w hr29 hO => zrg r26 r29 _ (hG.own hF hO) (hO.rowSees (i := 0) rfl) (hO.rowCap (i := 0) rfl) hr29) fun r29 hr29 => ?_
 refine br rfl (fun hc32 => ?_) fun hc32 => ?_
 refine vl rfl rfl (fun a w hf hO => zt (vs := []) (v := .agg #[int 0, str [], str [], int 0, str [], int 0, .slice none 0 0]) hf rfl (by kernel_rfl)) ?_
 refine st 3 rfl rfl ?_
 refine nl 54 2 ?_
 refine re_ rfl fun a w hf hO hm => ?_
 obtain rfl := Option.some.inj hm
 exact zh Tryz.results9 hf (.cell rfl (zk (n := 7) (vs := [int 0, str [], str [], int 0, str [], int 0, .slice none 0 0]) zep zd0 rfl ((hO.blkSees (i := 4) rfl).cells (o := 0) (n := 7) rfl)) (.tmp rfl .nil)) ⟨none, 0, rfl, (hO.sub (.cons_cons _ (.cons _ (.cons _ (.cons _ (.cons _ (.cons _ (.cons _ (.cons _ (.cons _ (.cons _ .slnil)))))))))))⟩
 refine ld 4 rfl rfl ?_
 refine rw_ rfl fun a w hf hO hm => ?_
 obtain ⟨r35, hr35, hm⟩ := ob hm
 refine zo (zj c_27 hf (vs := [.slice p21 r20.length c22, str [70, 111, 114, 119, 97, 114, 100, 101, 100], str r29.1]) rfl) rfl hf rfl rfl (ziE r20 [70, 111, 114, 119, 97, 114, 100, 101, 100] r29.1 r35 _ (hG.own hF hO) (hO.rowSees (i := 1) rfl) (hO.rowCap (i := 1) rfl) hr35) ?_
 rintro e w' ⟨p36, c37, he, hO'⟩
 refine ⟨_, he, fun a hf => ?_⟩
 have hO := hO.call hO' (by simp [Res.shared])
 refine S.op tb ?_ hf hO hm
 refine st 5 rfl rfl ?_
 refine rc_ rfl fun a w hf hO hm => ?_
 obtain ⟨r39, hr39, hm⟩ := ob hm
 obtain ⟨r40, hr40, hm⟩ := ob hm
 refine zav (S := Option Addr × Nat) (E0 := [(3, ptr b1 0), (5, ptr b2 0), (6, ptr b3 0)]) (by kernel_rfl) (fun k σ w => match k with | 0 => Dk.Own w0 [] w [.row (.slice p36 r35.length c37) 54 2 r35.length (cells za r35), .row (.slice p27 r26.length c28) 112 2 r26.length (cells zF r26), .row (.slice p21 r20.length c22) 54 2 r20.length (cells za r20), .row (.slice none 0 0) 54 2 0 (cells za []), .blk b3 [int 0, str [], str [], int 0, str [], int 0, .slice none 0 0] 28, .blk b2 [int x_a2.Kind, str x_a2.Method, str x_a2.Target, int x_a2.Code, str x_a2.Reason, int x_a2.Minor, .slice p36 r35.length c37] 28, .blk b1 [str x_a0.Client, str x_a0.Host, str x_a0.Scheme, str x_a0.By, .slice x_a0_p0 x_a0.Domains.length x_a0_c0, .slice x_a0_p1 x_a0.Locations.length x_a0_c1] 24, .shr x_a2_p2 (cells za x_a2.Fields), .shr x_a0_p1 (cells zb x_a0.Locations), .shr x_a0_p0 (cells zb x_a0.Domains)] | 1 => Dk.Own w0 [] w [.row (.slice p36 r35.length c37) 54 2 r35.length (cells za r35), .row (.slice p27 r26.length c28) 112 2 r26.length (cells zF r26), .row (.slice p21 r20.length c22) 54 2 r20.length (cells za r20), .row (.slice none 0 0) 54 2 0 (cells za []), .blk b3 [int 0, str [], str [], int 0, str [], int 0, .slice none 0 0] 28, .blk b2 [int x_a2.Kind, str x_a2.Method, str x_a2.Target, int x_a2.Code, str x_a2.Reason, int x_a2.Minor, .slice p36 r35.length c37] 28, .blk b1 [str x_a0.Client, str x_a0.Host, str x_a0.Scheme, str x_a0.By, .slice x_a0_p0 x_a0.Domains.length x_a0_c0, .slice x_a0_p1 x_a0.Locations.length x_a0_c1] 24, .shr x_a2_p2 (cells za x_a2.Fields), .shr x_a0_p1 (cells zb x_a0.Locations), .shr x_a0_p0 (cells zb x_a0.Domains)] | 2 => Dk.Own w0 [] w [.row (.slice (σ.1) r40.length (σ.2)) 54 2 r40.length (cells za r40), .row (.slice p36 r35.length c37) 54 2 r35.length (cells za r35), .row (.slice p27 r26.length c28) 112 2 r26.length (cells zF r26), .row (.slice p21 r20.length c22) 54 2 r20.length (cells za r20), .row (.slice none 0 0) 54 2 0 (cells za []), .blk b3 [int 0, str [], str [], int 0, str [], int 0, .slice none 0 0] 28, .blk b2 [int x_a2.Kind, str x_a2.Method, str x_a2.Target, int x_a2.Code, str x_a2.Reason, int x_a2.Minor, .slice p36 r35.length c37] 28, .blk b1 [str x_a0.Client, str x_a0.Host, str x_a0.Scheme, str x_a0.By, .slice x_a0_p0 x_a0.Domains.length x_a0_c0, .slice x_a0_p1 x_a0.Locations.length x_a0_c1] 24, .shr x_a2_p2 (cells za x_a2.Fields), .shr x_a0_p1 (cells zb x_a0.Locations), .shr x_a0_p0 (cells zb x_a0.Domains)] | _ => Dk.Own w0 [] w [.row (.slice (σ.1) r40.length (σ.2)) 54 2 r40.length (cells za r40), .row (.slice p36 r35.length c37) 54 2 r35.length (cells za r35), .row (.slice p27 r26.length c28) 112 2 r26.length (cells zF r26), .row (.slice p21 r20.length c22) 54 2 r20.length (cells za r20), .row (.slice none 0 0) 54 2 0 (cells za []), .blk b3 [int 0, str [], str [], int 0, str [], int 0, .slice none 0 0] 28, .blk b2 [int x_a2.Kind, str x_a2.Method, str x_a2.Target, int x_a2.Code, str x_a2.Reason, int x_a2.Minor, .slice (σ.1) r40.length (σ.2)] 28, .blk b1 [str x_a0.Client, str x_a0.Host, str x_a0.Scheme, str x_a0.By, .slice x_a0_p0 x_a0.Domains.length x_a0_c0, .slice x_a0_p1 x_a0.Locations.length x_a0_c1] 24, .shr x_a2_p2 (cells za x_a2.Fields), .shr x_a0_p1 (cells zb x_a0.Locations), .shr x_a0_p0 (cells zb x_a0.Domains)]) (fun σ => [⟨[(5, ptr b2 0)], some (66, ptr b2 6)⟩, ⟨[(66, ptr b2 6)], some (67, .slice p36 r35.length c37)⟩, ⟨[(3, ptr b1 0)], some (68, ptr b1 0)⟩, ⟨[(68, ptr b1 0)], some (69, str x_a0.Client)⟩, ⟨[(69, str x_a0.Client)], some (70, str r39)⟩, ⟨[(67, .slice p36 r35.length c37), (70, str r39)], some (71, .slice (σ.1) r40.length (σ.2))⟩, ⟨[(5, ptr b2 0)], some (72, ptr b2 6)⟩, ⟨[(71, .slice (σ.1) r40.length (σ.2)), (72, ptr b2 6)], none⟩]) (none, 0) [4, 5, 7] rfl (fun _ => rfl) (fun _ => rfl) (fun _ => rfl) rfl rfl (by decide) rfl hO.drew (hf.cons rfl (hf.cons rfl (hf.cons rfl hf.nil))) (fun σ => ⟨⟨rfl, trivial⟩, ⟨rfl, trivial⟩, ⟨rfl, trivial⟩, ⟨rfl, trivial⟩, ⟨rfl, trivial⟩, ⟨rfl, rfl, trivial⟩, ⟨rfl, trivial⟩, ⟨rfl, rfl, trivial⟩, trivial⟩) ⟨zd rfl (fun σ => rfl) (fun σ => rfl) (fun σ a w k _ _ _ _ hf => zz zky hf rfl), zd rfl (fun σ => rfl) (fun σ => rfl) (fun σ a w k hk hlo hup hst hf => match k, hk, hlo, hup, hst, hf with | 0, _, _, _, hst, hf => have hO : Dk.Own w0 [] w _ := hst; zf (o := 6) zcE (hO.blkSees (i := 5) rfl) rfl hf rfl | 1, _, _, _, hst, hf => have hO : Dk.Own w0 [] w _ := hst; zf (o := 6) zcE (hO.blkSees (i := 5) rfl) rfl hf rfl | 2, _, _, _, hst, hf => have hO : Dk.Own w0 [] w _ := hst; zf (o := 6) zcE (hO.blkSees (i := 6) rfl) rfl hf rfl | 3, _, _, hup, _, _ => absurd (hup 1 (by decide) (by kernel_rfl)) (by decide) | k + 4, hk, _, _, _, _ => absurd hk (by simp)), zd rfl (fun σ => rfl) (fun σ => rfl) (fun σ a w k _ _ _ _ hf => zz zuo hf rfl), zd rfl (fun σ => rfl) (fun σ => rfl) (fun σ a w k hk hlo hup hst hf => match k, hk, hlo, hup, hst, hf with | 0, _, _, _, hst, hf => have hO : Dk.Own w0 [] w _ := hst; zf (o := 0) zX (hO.blkSees (i := 6) rfl) rfl hf rfl | 1, _, _, _, hst, hf => have hO : Dk.Own w0 [] w _ := hst; zf (o := 0) zX (hO.blkSees (i := 6) rfl) rfl hf rfl | 2, _, _, _, hst, hf => have hO : Dk.Own w0 [] w _ := hst; zf (o := 0) zX (hO.blkSees (i := 7) rfl) rfl hf rfl | 3, _, _, _, hst, hf => have hO : Dk.Own w0 [] w _ := hst; zf (o := 0) zX (hO.blkSees (i := 7) rfl) rfl hf rfl | k + 4, hk, _, _, _, _ => absurd hk (by simp)), zaR rfl (fun σ => rfl) (fun σ => rfl) rfl (fun σ a w (_ : _) hf => zj c_30 hf (vs := [str x_a0.Client]) rfl) (fun σ w (hO : Dk.Own w0 [] w _) => (zsa x_a0.Client r39 _ (hG.own hF hO) hr39).mono fun e w' h => by obtain ⟨he, hb⟩ := h; exact ⟨((σ.1), (σ.2)), he, hO.grow hb, .inr rfl, .inr rfl, .inr rfl, .inr rfl, .inr rfl, .inr rfl, .inr rfl, .inr rfl, trivial⟩), zaR rfl (fun σ => rfl) (fun σ => rfl) rfl (fun σ a w (_ : _) hf => zj c_27 hf (vs := [.slice p36 r35.length c37, str [88, 45, 70, 111, 114, 119, 97, 114, 100, 101, 100, 45, 70, 111, 114], str r39]) rfl) (fun σ w (hO : Dk.Own w0 [] w _) => (ziE r35 [88, 45, 70, 111, 114, 119, 97, 114, 100, 101, 100, 45, 70, 111, 114] r39 r40 _ (hG.own hF hO) (hO.rowSees (i := 0) rfl) (hO.rowCap (i := 0) rfl) hr40).mono fun e w' h => by obtain ⟨p41, c42, he, hO'⟩ := h; exact ⟨(p41, c42), he, hO.call hO' (by simp [Res.shared]), .inr rfl, .inr rfl, .inr rfl, .inr rfl, .inr rfl, .inl rfl, .inr rfl, .inl rfl, trivial⟩), zd rfl (fun σ => rfl) (fun σ => rfl) (fun σ a w k _ _ _ _ hf => zz zky hf rfl), zbC rfl (fun σ => rfl) (fun σ => rfl) rfl (fun σ w (hO : Dk.Own w0 [] w _) => by obtain ⟨w', hO', hr⟩ := zdA (x := (.tmp 72)) (y := (.tmp 71)) (E := [(71, .slice (σ.1) r40.length (σ.2)), (72, ptr b2 6)]) (i := 6) (o := 6) (v := .slice (σ.1) r40.length (σ.2)) zwq rfl rfl rfl rfl hO rfl rfl; exact ⟨((σ.1), (σ.2)), w', hO', ⟨.inr rfl, .inr rfl, .inr rfl, .inr rfl, .inr rfl, .inr rfl, .inr rfl, .inr rfl, trivial⟩, hr⟩), trivial⟩ ?_
 rintro ⟨p41, c42⟩ a w hf hO
 have hO : Dk.Own w0 [] w _ := hO
 have hf : Fits 74 [(5, ptr b2 0), (6, ptr b3 0)] a := (hf.cons rfl (hf.cons rfl hf.nil))
 refine S.no tb ?_ hf hO hm
 exact ec [6, 0, 4, 5, 7, 8, 9, 10] rfl rfl rfl fun _ _ j => ⟨p41, c42, r40, j rfl⟩
 exact ec [3, 0, 1, 2, 4, 5, 6, 7] rfl rfl rfl fun _ _ j => ⟨p21, c22, r20, j rfl⟩
 rintro a w ⟨p43, c44, l45, hf, hO, hm⟩
 rw [zhH] at hm
 refine S.co tb ?_ hf hO hm
 refine ld 0 rfl rfl ?_
 refine st 3 rfl rfl ?_
 refine re_ rfl fun a w hf hO hm => ?_
 obtain rfl := Option.some.inj hm
 exact zh Tryz.results9 hf (.cell rfl (zk (n := 7) (vs := [int x_a2.Kind, str x_a2.Method, str x_a2.Target, int x_a2.Code, str x_a2.Reason, int x_a2.Minor, .slice p43 l45.length c44]) zep zd0 rfl ((hO.blkSees (i := 3) rfl).cells (o := 0) (n := 7) rfl)) (.tmp rfl .nil)) ⟨p43, c44, rfl, (hO.sub (.cons _ (.cons_cons _ (.cons _ (.cons _ (.cons _ (.cons _ (.cons _ (.cons _ .slnil)))))))))⟩

theorem zri (x_a : api_Head) (x_b : api_Head) (R : Bool) (w0 : World) (hG : zr w0) {x_a_p0 : Option Addr} {x_a_c0 : Nat} (hs0 : zD w0 x_a_p0 (cells za x_a.Fields)) (hc0 : x_a.Fields.length ≤ x_a_c0) {x_b_p1 : Option Addr} {x_b_c1 : Nat} (hs1 : zD w0 x_b_p1 (cells za x_b.Fields)) (hc1 : x_b.Fields.length ≤ x_b_c1) (hm : zkv x_a x_b = some R) :
    Calls Tryz.prog 31 #[.agg #[int x_a.Kind, str x_a.Method, str x_a.Target, int x_a.Code, str x_a.Reason, int x_a.Minor, .slice x_a_p0 x_a.Fields.length x_a_c0], .agg #[int x_b.Kind, str x_b.Method, str x_b.Target, int x_b.Code, str x_b.Reason, int x_b.Minor, .slice x_b_p1 x_b.Fields.length x_b_c1]] w0 (Ret w0 (fun R => .bool R) R) := by
 rw [zkv] at hm
 have hF : zs [] := ze
 have hO : Dk.Own w0 [] w0 [] := Dk.Own.refl w0
 have hO := hO.addShr hs0 (by simp [Res.shared])
 have hO := hO.addShr hs1 (by simp [Res.shared])
 refine S.enter tb Tryz.func31 rfl Tryz.ntmps31 rfl ?_ hO hm
 refine bo rfl fun b1 => ?_
 refine bo rfl fun b2 => ?_
 refine jv 0 [] [0, 1, 2, 3] (fun J E L => ∃ (t9 : Bool), J ((4, .bool t9) :: E) (L) (zbY t9)) rfl ?_ ?_
 refine ld 1 rfl rfl ?_
 refine ld 0 rfl rfl ?_
 refine br rfl (fun hc4 => ?_) fun hc4 => ?_
 refine ld 1 rfl rfl ?_
 refine ld 0 rfl rfl ?_
 refine br rfl (fun hc5 => ?_) fun hc5 => ?_
 refine ld 1 rfl rfl ?_
 refine ld 0 rfl rfl ?_
 refine br rfl (fun hc6 => ?_) fun hc6 => ?_
 refine ld 1 rfl rfl ?_
 refine ld 0 rfl rfl ?_
 refine br rfl (fun hc7 => ?_) fun hc7 => ?_
 refine ld 1 rfl rfl ?_
 refine ld 0 rfl rfl ?_
 refine br rfl (fun hc8 => ?_) fun hc8 => ?_
 refine ld 1 rfl rfl ?_
 refine ld 0 rfl rfl ?_
 exact en rfl fun _ _ j => ⟨x_a.Reason == x_b.Reason, j rfl⟩
 exact en rfl fun _ _ j => ⟨false, j rfl⟩
 exact en rfl fun _ _ j => ⟨false, j rfl⟩
 exact en rfl fun _ _ j => ⟨false, j rfl⟩
 exact en rfl fun _ _ j => ⟨false, j rfl⟩
 exact en rfl fun _ _ j => ⟨false, j rfl⟩
 rintro a w ⟨t9, hf, hO, hm⟩
 rw [zbY] at hm
 refine S.co tb ?_ hf hO hm
 exact rt Tryz.results31 rfl

end Go.Proofs
end
section
set_option linter.unusedVariables false
set_option maxHeartbeats 1000000
set_option linter.unusedSimpArgs false
set_option maxRecDepth 100000
namespace Go.Proofs
open Go.Dk Go.Dm Go.RowKit

theorem zrr (x_a : List api_Field) (x_b : List api_Field) (R : Bool) (w0 : World) (hG : zr w0) {x_a_p0 : Option Addr} {x_a_c0 : Nat} (hs0 : zD w0 x_a_p0 (cells za x_a)) (hc0 : x_a.length ≤ x_a_c0) {x_b_p1 : Option Addr} {x_b_c1 : Nat} (hs1 : zD w0 x_b_p1 (cells za x_b)) (hc1 : x_b.length ≤ x_b_c1) (hm : zi2 x_a x_b = some R) :
    Calls Tryz.prog 32 #[.slice x_a_p0 x_a.length x_a_c0, .slice x_b_p1 x_b.length x_b_c1] w0 (Ret w0 (fun R => .bool R) R) := by
 rw [zi2] at hm
 have hF : zs [] := ze
 have hO : Dk.Own w0 [] w0 [] := Dk.Own.refl w0
 have hO := hO.addShr hs0 (by simp [Res.shared])
 have hO := hO.addShr hs1 (by simp [Res.shared])
 refine S.enter tb Tryz.func32 rfl Tryz.ntmps32 rfl ?_ hO hm
 refine br rfl (fun hc3 => ?_) fun hc3 => ?_
 exact rt Tryz.results32 rfl
 refine lv [0, 1] [0, 1] (fun J E L k => ∃ (i7 : Int), J ((5, int i7) :: E) (L) (zcD x_a x_b k i7)) rfl (fun _ _ j => ⟨0, j rfl⟩) ?_
 rintro n1 a w ⟨i7, hf, hO, hm⟩
 obtain _ | n1 := n1
 rw [zcD] at hm
 cases hm
 rw [zcD] at hm
 refine S.co tb ?_ hf hO hm
 refine br rfl (fun hc9 => ?_) fun hc9 => ?_
 refine rc_ rfl fun a w hf hO hm => ?_
 refine zeP (by kernel_rfl) (by kernel_rfl) hO ?_
 refine zx (fun w hO => zp hf rfl) rfl hf rfl rfl fun a hf => ?_
 refine zx (fun w hO => zp hf rfl) rfl hf rfl rfl fun a hf => ?_
 obtain ⟨x11, hx11, hm⟩ := ob hm
 obtain ⟨b12, o13, hix11, hSx11⟩ := zaD (enc := za) (sz := 2) (xs := x_a) 26 Tryz.underlying26 zbs (by decide) (fun _ => rfl) (hO.sees (i := 1) rfl) hx11
 refine zx (fun w hO => zi hix11 hf rfl rfl) rfl hf rfl rfl fun a hf => ?_
 refine zx (fun w hO => zq (o := 0) (vs := [str x11.Name, str x11.Value]) zig zbs (hSx11 _ (hO.sees (i := 1) rfl)) rfl rfl hf rfl) rfl hf rfl rfl fun a hf => ?_
 refine zx (fun w hO => zp hf rfl) rfl hf rfl rfl fun a hf => ?_
 refine zx (fun w hO => zp hf rfl) rfl hf rfl rfl fun a hf => ?_
 obtain ⟨x14, hx14, hm⟩ := ob hm
 obtain ⟨b15, o16, hix14, hSx14⟩ := zaD (enc := za) (sz := 2) (xs := x_b) 26 Tryz.underlying26 zbs (by decide) (fun _ => rfl) (hO.sees (i := 0) rfl) hx14
 refine zx (fun w hO => zi hix14 hf rfl rfl) rfl hf rfl rfl fun a hf => ?_
 refine zx (fun w hO => zq (o := 0) (vs := [str x14.Name, str x14.Value]) zig zbs (hSx14 _ (hO.sees (i := 0) rfl)) rfl rfl hf rfl) rfl hf rfl rfl fun a hf => ?_
 refine zx (fun w hO => zkY (by kernel_rfl) (eq_54 x11 x14) hf rfl rfl) rfl hf rfl rfl fun a hf => ?_
 refine wpQuiet_nil ?_
 intro w hO
 refine S.no tb ?_ hf hO hm
 refine br rfl (fun hc18 => ?_) fun hc18 => ?_
 exact rt Tryz.results32 rfl
 refine bi rfl fun i21 hi21 => ?_
 exact en rfl fun _ _ j => ⟨_, Nat.lt_succ_self _, i21, j rfl⟩
 exact rt Tryz.results32 rfl

theorem zrs (x_a : api_Head) (x_b : api_Head) (R : Bool) (w0 : World) (hG : zr w0) {x_a_p0 : Option Addr} {x_a_c0 : Nat} (hs0 : zD w0 x_a_p0 (cells za x_a.Fields)) (hc0 : x_a.Fields.length ≤ x_a_c0) {x_b_p1 : Option Addr} {x_b_c1 : Nat} (hs1 : zD w0 x_b_p1 (cells za x_b.Fields)) (hc1 : x_b.Fields.length ≤ x_b_c1) (hm : zi3 x_a x_b = some R) :
    Calls Tryz.prog 10 #[.agg #[int x_a.Kind, str x_a.Method, str x_a.Target, int x_a.Code, str x_a.Reason, int x_a.Minor, .slice x_a_p0 x_a.Fields.length x_a_c0], .agg #[int x_b.Kind, str x_b.Method, str x_b.Target, int x_b.Code, str x_b.Reason, int x_b.Minor, .slice x_b_p1 x_b.Fields.length x_b_c1]] w0 (Ret w0 (fun R => .bool R) R) := by
 rw [zi3] at hm
 have hF : zs [] := ze
 have hO : Dk.Own w0 [] w0 [] := Dk.Own.refl w0
 have hO := hO.addShr hs0 (by simp [Res.shared])
 have hO := hO.addShr hs1 (by simp [Res.shared])
 refine S.enter tb Tryz.func10 rfl Tryz.ntmps10 rfl ?_ hO hm
 refine bo rfl fun b1 => ?_
 refine bo rfl fun b2 => ?_
 refine jv 0 [] [0, 1, 2, 3] (fun J E L => ∃ (t7 : Bool), J ((4, .bool t7) :: E) (L) (zfU t7)) rfl ?_ ?_
 refine ld 1 rfl rfl ?_
 refine ld 0 rfl rfl ?_
 refine cl c_31 rfl (fun r4 w hr4 hO => zri x_a x_b r4 _ (hG.own hF hO) (hO.sees (i := 3) rfl) hc0 (hO.sees (i := 2) rfl) hc1 hr4) fun r4 hr4 => ?_
 refine br rfl (fun hc5 => ?_) fun hc5 => ?_
 refine ld 1 rfl rfl ?_
 refine ld 0 rfl rfl ?_
 refine cl c_32 rfl (fun r6 w hr6 hO => zrr x_a.Fields x_b.Fields r6 _ (hG.own hF hO) (hO.sees (i := 3) rfl) hc0 (hO.sees (i := 2) rfl) hc1 hr6) fun r6 hr6 => ?_
 exact en rfl fun _ _ j => ⟨r6, j rfl⟩
 exact en rfl fun _ _ j => ⟨false, j rfl⟩
 rintro a w ⟨t7, hf, hO, hm⟩
 rw [zfU] at hm
 refine S.co tb ?_ hf hO hm
 exact rt Tryz.results10 rfl

theorem zmt (x_env : api_Env) (x_minor : Int) (x_h : api_Head) (R : Bool) (w0 : World) (hG : zaH w0) {x_env_p0 : Option Addr} {x_env_c0 : Nat} (hs0 : zD w0 x_env_p0 (cells zb x_env.Domains)) (hc0 : x_env.Domains.length ≤ x_env_c0) {x_env_p1 : Option Addr} {x_env_c1 : Nat} (hs1 : zD w0 x_env_p1 (cells zb x_env.Locations)) (hc1 : x_env.Locations.length ≤ x_env_c1) {x_h_p2 : Option Addr} {x_h_c2 : Nat} (hs2 : zD w0 x_h_p2 (cells za x_h.Fields)) (hc2 : x_h.Fields.length ≤ x_h_c2) (hm : zfA x_env x_minor x_h = some R) :
    Calls Tryz.prog 3 #[.agg #[str x_env.Client, str x_env.Host, str x_env.Scheme, str x_env.By, .slice x_env_p0 x_env.Domains.length x_env_c0, .slice x_env_p1 x_env.Locations.length x_env_c1], int x_minor, .agg #[int x_h.Kind, str x_h.Method, str x_h.Target, int x_h.Code, str x_h.Reason, int x_h.Minor, .slice x_h_p2 x_h.Fields.length x_h_c2]] w0 (Ret w0 (fun R => .bool R) R) := by
 rw [zfA] at hm
 have hF : zs [] := ze
 have hO : Dk.Own w0 [] w0 [] := Dk.Own.refl w0
 have hO := hO.addShr hs0 (by simp [Res.shared])
 have hO := hO.addShr hs1 (by simp [Res.shared])
 have hO := hO.addShr hs2 (by simp [Res.shared])
 refine S.enter tb Tryz.func3 rfl Tryz.ntmps3 rfl ?_ hO hm
 refine bo rfl fun b1 => ?_
 refine bo rfl fun b2 => ?_
 refine cl c_5 rfl (fun r4 w hr4 hO => zqg r4 _ (hG.own hF hO) hr4) fun r4 hr4 => ?_
 refine br rfl (fun hc6 => ?_) fun hc6 => ?_
 exact rt Tryz.results3 rfl
 refine rc_ rfl fun a w hf hO hm => ?_
 obtain ⟨r9, hr9, hm⟩ := ob hm
 obtain ⟨r14, hr14, hm⟩ := ob hm
 refine zav (S := Option Addr × Nat × Option Addr × Nat × Option Addr × Nat) (E0 := [(1, int x_minor), (3, ptr b1 0), (5, ptr b2 0)]) (by kernel_rfl) (fun k σ w => match k with | 0 => Dk.Own w0 [] w [.blk b2 [int x_h.Kind, str x_h.Method, str x_h.Target, int x_h.Code, str x_h.Reason, int x_h.Minor, .slice x_h_p2 x_h.Fields.length x_h_c2] 28, .blk b1 [str x_env.Client, str x_env.Host, str x_env.Scheme, str x_env.By, .slice x_env_p0 x_env.Domains.length x_env_c0, .slice x_env_p1 x_env.Locations.length x_env_c1] 24, .shr x_h_p2 (cells za x_h.Fields), .shr x_env_p1 (cells zb x_env.Locations), .shr x_env_p0 (cells zb x_env.Domains)] | 1 => Dk.Own w0 [] w [.row (.slice (σ.1) r9.Domains.length (σ.2.1)) 98 2 r9.Domains.length (cells zb r9.Domains), .row (.slice (σ.2.2.1) r9.Locations.length (σ.2.2.2.1)) 98 2 r9.Locations.length (cells zb r9.Locations), .blk b2 [int x_h.Kind, str x_h.Method, str x_h.Target, int x_h.Code, str x_h.Reason, int x_h.Minor, .slice x_h_p2 x_h.Fields.length x_h_c2] 28, .blk b1 [str x_env.Client, str x_env.Host, str x_env.Scheme, str x_env.By, .slice x_env_p0 x_env.Domains.length x_env_c0, .slice x_env_p1 x_env.Locations.length x_env_c1] 24, .shr x_h_p2 (cells za x_h.Fields), .shr x_env_p1 (cells zb x_env.Locations), .shr x_env_p0 (cells zb x_env.Domains)] | 2 => Dk.Own w0 [] w [.row (.slice (σ.2.2.2.2.1) r14.Fields.length (σ.2.2.2.2.2)) 54 2 r14.Fields.length (cells za r14.Fields), .row (.slice (σ.1) r9.Domains.length (σ.2.1)) 98 2 r9.Domains.length (cells zb r9.Domains), .row (.slice (σ.2.2.1) r9.Locations.length (σ.2.2.2.1)) 98 2 r9.Locations.length (cells zb r9.Locations), .blk b2 [int x_h.Kind, str x_h.Method, str x_h.Target, int x_h.Code, str x_h.Reason, int x_h.Minor, .slice x_h_p2 x_h.Fields.length x_h_c2] 28, .blk b1 [str x_env.Client, str x_env.Host, str x_env.Scheme, str x_env.By, .slice x_env_p0 x_env.Domains.length x_env_c0, .slice x_env_p1 x_env.Locations.length x_env_c1] 24, .shr x_h_p2 (cells za x_h.Fields), .shr x_env_p1 (cells zb x_env.Locations), .shr x_env_p0 (cells zb x_env.Domains)] | 3 => Dk.Own w0 [] w [.row (.slice (σ.2.2.2.2.1) r14.Fields.length (σ.2.2.2.2.2)) 54 2 r14.Fields.length (cells za r14.Fields), .row (.slice (σ.1) r9.Domains.length (σ.2.1)) 98 2 r9.Domains.length (cells zb r9.Domains), .row (.slice (σ.2.2.1) r9.Locations.length (σ.2.2.2.1)) 98 2 r9.Locations.length (cells zb r9.Locations), .blk b2 [int x_h.Kind, str x_h.Method, str x_h.Target, int x_h.Code, str x_h.Reason, int x_h.Minor, .slice x_h_p2 x_h.Fields.length x_h_c2] 28, .blk b1 [str r9.Client, str r9.Host, str r9.Scheme, str r9.By, .slice (σ.1) r9.Domains.length (σ.2.1), .slice (σ.2.2.1) r9.Locations.length (σ.2.2.2.1)] 24, .shr x_h_p2 (cells za x_h.Fields), .shr x_env_p1 (cells zb x_env.Locations), .shr x_env_p0 (cells zb x_env.Domains)] | _ => Dk.Own w0 [] w [.row (.slice (σ.2.2.2.2.1) r14.Fields.length (σ.2.2.2.2.2)) 54 2 r14.Fields.length (cells za r14.Fields), .row (.slice (σ.1) r9.Domains.length (σ.2.1)) 98 2 r9.Domains.length (cells zb r9.Domains), .row (.slice (σ.2.2.1) r9.Locations.length (σ.2.2.2.1)) 98 2 r9.Locations.length (cells zb r9.Locations), .blk b2 [int r14.Kind, str r14.Method, str r14.Target, int r14.Code, str r14.Reason, int r14.Minor, .slice (σ.2.2.2.2.1) r14.Fields.length (σ.2.2.2.2.2)] 28, .blk b1 [str r9.Client, str r9.Host, str r9.Scheme, str r9.By, .slice (σ.1) r9.Domains.length (σ.2.1), .slice (σ.2.2.1) r9.Locations.length (σ.2.2.2.1)] 24, .shr x_h_p2 (cells za x_h.Fields), .shr x_env_p1 (cells zb x_env.Locations), .shr x_env_p0 (cells zb x_env.Domains)]) (fun σ => [⟨[(3, ptr b1 0)], some (13, .agg #[str x_env.Client, str x_env.Host, str x_env.Scheme, str x_env.By, .slice x_env_p0 x_env.Domains.length x_env_c0, .slice x_env_p1 x_env.Locations.length x_env_c1])⟩, ⟨[(13, .agg #[str x_env.Client, str x_env.Host, str x_env.Scheme, str x_env.By, .slice x_env_p0 x_env.Domains.length x_env_c0, .slice x_env_p1 x_env.Locations.length x_env_c1])], some (14, .agg #[str r9.Client, str r9.Host, str r9.Scheme, str r9.By, .slice (σ.1) r9.Domains.length (σ.2.1), .slice (σ.2.2.1) r9.Locations.length (σ.2.2.2.1)])⟩, ⟨[(5, ptr b2 0)], some (15, .agg #[int x_h.Kind, str x_h.Method, str x_h.Target, int x_h.Code, str x_h.Reason, int x_h.Minor, .slice x_h_p2 x_h.Fields.length x_h_c2])⟩, ⟨[(15, .agg #[int x_h.Kind, str x_h.Method, str x_h.Target, int x_h.Code, str x_h.Reason, int x_h.Minor, .slice x_h_p2 x_h.Fields.length x_h_c2])], some (16, .agg #[int r14.Kind, str r14.Method, str r14.Target, int r14.Code, str r14.Reason, int r14.Minor, .slice (σ.2.2.2.2.1) r14.Fields.length (σ.2.2.2.2.2)])⟩, ⟨[(3, ptr b1 0), (14, .agg #[str r9.Client, str r9.Host, str r9.Scheme, str r9.By, .slice (σ.1) r9.Domains.length (σ.2.1), .slice (σ.2.2.1) r9.Locations.length (σ.2.2.2.1)])], none⟩, ⟨[(5, ptr b2 0), (16, .agg #[int r14.Kind, str r14.Method, str r14.Target, int r14.Code, str r14.Reason, int r14.Minor, .slice (σ.2.2.2.2.1) r14.Fields.length (σ.2.2.2.2.2)])], none⟩]) (none, 0, none, 0, none, 0) [1, 3, 4, 5] rfl (fun _ => rfl) (fun _ => rfl) (fun _ => rfl) rfl rfl (by decide) rfl hO.drew (hf.cons rfl (hf.cons rfl (hf.cons rfl hf.nil))) (fun σ => ⟨⟨rfl, trivial⟩, ⟨rfl, trivial⟩, ⟨rfl, trivial⟩, ⟨rfl, trivial⟩, ⟨rfl, rfl, trivial⟩, ⟨rfl, rfl, trivial⟩, trivial⟩) ⟨zd rfl (fun σ => rfl) (fun σ => rfl) (fun σ a w k hk hlo hup hst hf => match k, hk, hlo, hup, hst, hf with | 0, _, _, _, hst, hf => have hO : Dk.Own w0 [] w _ := hst; zq (o := 0) (vs := [str x_env.Client, str x_env.Host, str x_env.Scheme, str x_env.By, .slice x_env_p0 x_env.Domains.length x_env_c0, .slice x_env_p1 x_env.Locations.length x_env_c1]) zlA zkJ (hO.blkSees (i := 1) rfl) rfl rfl hf rfl | 1, _, _, _, hst, hf => have hO : Dk.Own w0 [] w _ := hst; zq (o := 0) (vs := [str x_env.Client, str x_env.Host, str x_env.Scheme, str x_env.By, .slice x_env_p0 x_env.Domains.length x_env_c0, .slice x_env_p1 x_env.Locations.length x_env_c1]) zlA zkJ (hO.blkSees (i := 3) rfl) rfl rfl hf rfl | 2, _, _, _, hst, hf => have hO : Dk.Own w0 [] w _ := hst; zq (o := 0) (vs := [str x_env.Client, str x_env.Host, str x_env.Scheme, str x_env.By, .slice x_env_p0 x_env.Domains.length x_env_c0, .slice x_env_p1 x_env.Locations.length x_env_c1]) zlA zkJ (hO.blkSees (i := 4) rfl) rfl rfl hf rfl | 3, _, _, hup, _, _ => absurd (hup 0 (by decide) (by kernel_rfl)) (by decide) | 4, _, _, hup, _, _ => absurd (hup 0 (by decide) (by kernel_rfl)) (by decide) | k + 5, hk, _, _, _, _ => absurd hk (by simp)), zaR rfl (fun σ => rfl) (fun σ => rfl) rfl (fun σ a w (_ : _) hf => zj c_6 hf (vs := [.agg #[str x_env.Client, str x_env.Host, str x_env.Scheme, str x_env.By, .slice x_env_p0 x_env.Domains.length x_env_c0, .slice x_env_p1 x_env.Locations.length x_env_c1]]) rfl) (fun σ w (hO : Dk.Own w0 [] w _) => (zss x_env r9 _ (hG.own hF hO).1 (hO.sees (i := 4) rfl) hc0 (hO.sees (i := 3) rfl) hc1 hr9).mono fun e w' h => by obtain ⟨p10, c11, p12, c13, he, hO'⟩ := h; exact ⟨(p10, c11, p12, c13, (σ.2.2.2.2.1), (σ.2.2.2.2.2)), he, hO.call hO' (by simp [Res.shared]), .inr rfl, .inl rfl, .inr rfl, .inr rfl, .inl rfl, .inr rfl, trivial⟩), zd rfl (fun σ => rfl) (fun σ => rfl) (fun σ a w k hk hlo hup hst hf => match k, hk, hlo, hup, hst, hf with | 0, _, _, _, hst, hf => have hO : Dk.Own w0 [] w _ := hst; zq (o := 0) (vs := [int x_h.Kind, str x_h.Method, str x_h.Target, int x_h.Code, str x_h.Reason, int x_h.Minor, .slice x_h_p2 x_h.Fields.length x_h_c2]) zep zd0 (hO.blkSees (i := 0) rfl) rfl rfl hf rfl | 1, _, _, _, hst, hf => have hO : Dk.Own w0 [] w _ := hst; zq (o := 0) (vs := [int x_h.Kind, str x_h.Method, str x_h.Target, int x_h.Code, str x_h.Reason, int x_h.Minor, .slice x_h_p2 x_h.Fields.length x_h_c2]) zep zd0 (hO.blkSees (i := 2) rfl) rfl rfl hf rfl | 2, _, _, _, hst, hf => have hO : Dk.Own w0 [] w _ := hst; zq (o := 0) (vs := [int x_h.Kind, str x_h.Method, str x_h.Target, int x_h.Code, str x_h.Reason, int x_h.Minor, .slice x_h_p2 x_h.Fields.length x_h_c2]) zep zd0 (hO.blkSees (i := 3) rfl) rfl rfl hf rfl | 3, _, _, _, hst, hf => have hO : Dk.Own w0 [] w _ := hst; zq (o := 0) (vs := [int x_h.Kind, str x_h.Method, str x_h.Target, int x_h.Code, str x_h.Reason, int x_h.Minor, .slice x_h_p2 x_h.Fields.length x_h_c2]) zep zd0 (hO.blkSees (i := 3) rfl) rfl rfl hf rfl | 4, _, _, hup, _, _ => absurd (hup 1 (by decide) (by kernel_rfl)) (by decide) | k + 5, hk, _, _, _, _ => absurd hk (by simp)), zaR rfl (fun σ => rfl) (fun σ => rfl) rfl (fun σ a w (_ : _) hf => zj c_7 hf (vs := [.agg #[int x_h.Kind, str x_h.Method, str x_h.Target, int x_h.Code, str x_h.Reason, int x_h.Minor, .slice x_h_p2 x_h.Fields.length x_h_c2]]) rfl) (fun σ w (hO : Dk.Own w0 [] w _) => (zst x_h r14 _ (hG.own hF hO).1 (hO.sees (i := 4) rfl) hc2 hr14).mono fun e w' h => by obtain ⟨p15, c16, he, hO'⟩ := h; exact ⟨((σ.1), (σ.2.1), (σ.2.2.1), (σ.2.2.2.1), p15, c16), he, hO.call hO' (by simp [Res.shared]), .inr rfl, .inr rfl, .inr rfl, .inl rfl, .inr rfl, .inl rfl, trivial⟩), zbC rfl (fun σ => rfl) (fun σ => rfl) rfl (fun σ w (hO : Dk.Own w0 [] w _) => by obtain ⟨w', hO', hr⟩ := zeq (x := (.tmp 3)) (y := (.tmp 14)) (E := [(3, ptr b1 0), (14, .agg #[str r9.Client, str r9.Host, str r9.Scheme, str r9.By, .slice (σ.1) r9.Domains.length (σ.2.1), .slice (σ.2.2.1) r9.Locations.length (σ.2.2.2.1)])]) (i := 4) (n := 6) (vs := [str r9.Client, str r9.Host, str r9.Scheme, str r9.By, .slice (σ.1) r9.Domains.length (σ.2.1), .slice (σ.2.2.1) r9.Locations.length (σ.2.2.2.1)]) zkJ rfl rfl rfl (by simp [Value.oneCell']) hO rfl rfl; exact ⟨((σ.1), (σ.2.1), (σ.2.2.1), (σ.2.2.2.1), (σ.2.2.2.2.1), (σ.2.2.2.2.2)), w', hO', ⟨.inr rfl, .inr rfl, .inr rfl, .inr rfl, .inr rfl, .inr rfl, trivial⟩, hr⟩), zbC rfl (fun σ => rfl) (fun σ => rfl) rfl (fun σ w (hO : Dk.Own w0 [] w _) => by obtain ⟨w', hO', hr⟩ := zeq (x := (.tmp 5)) (y := (.tmp 16)) (E := [(5, ptr b2 0), (16, .agg #[int r14.Kind, str r14.Method, str r14.Target, int r14.Code, str r14.Reason, int r14.Minor, .slice (σ.2.2.2.2.1) r14.Fields.length (σ.2.2.2.2.2)])]) (i := 3) (n := 7) (vs := [int r14.Kind, str r14.Method, str r14.Target, int r14.Code, str r14.Reason, int r14.Minor, .slice (σ.2.2.2.2.1) r14.Fields.length (σ.2.2.2.2.2)]) zd0 rfl rfl rfl (by simp [Value.oneCell']) hO rfl rfl; exact ⟨((σ.1), (σ.2.1), (σ.2.2.1), (σ.2.2.2.1), (σ.2.2.2.2.1), (σ.2.2.2.2.2)), w', hO', ⟨.inr rfl, .inr rfl, .inr rfl, .inr rfl, .inr rfl, .inr rfl, trivial⟩, hr⟩), trivial⟩ ?_
 rintro ⟨p10, c11, p12, c13, p15, c16⟩ a w hf hO
 have hO : Dk.Own w0 [] w _ := hO
 have hf : Fits 39 [(1, int x_minor), (3, ptr b1 0), (5, ptr b2 0)] a := (hf.cons rfl (hf.cons rfl (hf.cons rfl hf.nil)))
 refine S.no tb ?_ hf hO hm
 refine ld 4 rfl rfl ?_
 refine ld 3 rfl rfl ?_
 refine rw_ rfl fun a w hf hO hm => ?_
 obtain ⟨r18, hr18, hm⟩ := ob hm
 refine zo (zj c_8 hf (vs := [.agg #[str r9.Client, str r9.Host, str r9.Scheme, str r9.By, .slice p10 r9.Domains.length c11, .slice p12 r9.Locations.length c13], int x_minor, .agg #[int r14.Kind, str r14.Method, str r14.Target, int r14.Code, str r14.Reason, int r14.Minor, .slice p15 r14.Fields.length c16]]) rfl) rfl hf rfl rfl (zmS r9 x_minor r14 r18 _ (hG.own hF hO) (hO.rowSees (i := 1) rfl) (hO.rowCap (i := 1) rfl) (hO.rowSees (i := 2) rfl) (hO.rowCap (i := 2) rfl) (hO.rowSees (i := 0) rfl) (hO.rowCap (i := 0) rfl) hr18) ?_
 rintro e w' ⟨p19, c20, he, hO'⟩
 refine ⟨_, he, fun a hf => ?_⟩
 have hO := hO.call hO' (by simp [Res.shared])
 refine S.op tb ?_ hf hO hm
 refine al zne rfl fun b21 => ?_
 refine nl 54 2 ?_
 refine st 1 rfl rfl ?_
 refine ld 7 rfl rfl ?_
 refine ld 6 rfl rfl ?_
 refine rw_ rfl fun a w hf hO hm => ?_
 obtain ⟨r23, hr23, hm⟩ := ob hm
 refine zo (zj c_9 hf (vs := [.agg #[str r9.Client, str r9.Host, str r9.Scheme, str r9.By, .slice p10 r9.Domains.length c11, .slice p12 r9.Locations.length c13], int x_minor, .agg #[int r14.Kind, str r14.Method, str r14.Target, int r14.Code, str r14.Reason, int r14.Minor, .slice p15 r14.Fields.length c16]]) rfl) rfl hf rfl rfl (zrh r9 x_minor r14 r23 _ (hG.own hF hO).1 (hO.rowSees (i := 4) rfl) (hO.rowCap (i := 4) rfl) (hO.rowSees (i := 5) rfl) (hO.rowCap (i := 5) rfl) (hO.rowSees (i := 3) rfl) (hO.rowCap (i := 3) rfl) hr23) ?_
 rintro e w' ⟨p24, c25, he, hO'⟩
 refine ⟨_, he, fun a hf => ?_⟩
 have hO := hO.call hO' (by simp [Res.shared])
 refine S.op tb ?_ hf hO hm
 refine al zne rfl fun b26 => ?_
 refine nl 54 2 ?_
 refine st 1 rfl rfl ?_
 refine jv 0 [] [0, 1, 2, 3, 4, 5, 6, 7, 8, 9, 10, 11, 12, 13] (fun J E L => ∃ (t30 : Bool), J ((6, .bool t30) :: E) (L) (zdz t30)) rfl ?_ ?_
 refine ld 4 rfl rfl ?_
 refine ld 1 rfl rfl ?_
 refine cl c_10 rfl (fun r28 w hr28 hO => zrs r18.1 r23.1 r28 _ (hG.own hF hO).1 (hO.rowSees (i := 5) rfl) (hO.rowCap (i := 5) rfl) (hO.rowSees (i := 2) rfl) (hO.rowCap (i := 2) rfl) hr28) fun r28 hr28 => ?_
 refine br rfl (fun hc29 => ?_) fun hc29 => ?_
 exact en rfl fun _ _ j => ⟨r18.2 == r23.2, j rfl⟩
 exact en rfl fun _ _ j => ⟨false, j rfl⟩
 rintro a w ⟨t30, hf, hO, hm⟩
 rw [zdz] at hm
 refine S.co tb ?_ hf hO hm
 exact rt Tryz.results3 rfl

end Go.Proofs
end
