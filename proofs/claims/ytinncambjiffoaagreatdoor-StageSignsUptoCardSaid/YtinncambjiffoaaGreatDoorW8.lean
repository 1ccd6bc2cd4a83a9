/-
  Walks, written by a program (wip/gen): what its model says, the function returns; what was there before is as it was.
  Walks, written by a program (wip/gen): what its model says, the function returns; what was there before is as it was.
  Walks, written by a program (wip/gen): what its model says, the function returns; what was there before is as it was.
  Walks, written by a program (wip/gen): what its model says, the function returns; what was there before is as it was.
-/
import Derived.Test.YtinncambjiffoaaGreatDoorLib
import Derived.Test.YtinncambjiffoaaGreatDoorW4
section
set_option linter.unusedVariables false
set_option maxHeartbeats 1000000
set_option linter.unusedSimpArgs false
set_option maxRecDepth 100000
namespace Go.Proofs
open Go.Dk Go.Dm Go.RowKit

theorem zl2 (x_s : Str) (R : api_Host × Bool) (w0 : World) (hG : zaH w0) (hm : zgp x_s = some R) :
    Calls Tryz.prog 126 #[str x_s] w0 (Ret w0 (fun R => .tuple #[.agg #[int R.1.Kind, str R.1.Name, int R.1.Port], .bool R.2]) R) := by
 rw [zgp] at hm
 have hF : zs [] := ze
 have hO : Dk.Own w0 [] w0 [] := Dk.Own.refl w0
 refine S.enter tb Tryz.func126 rfl Tryz.ntmps126 rfl ?_ hO hm
 refine al zka rfl fun b1 => ?_
 refine vl rfl rfl (fun a w hf hO => zt (vs := [(1, str x_s), (2, int (-1))]) (v := .agg #[int 0, str x_s, int (-1)]) hf rfl (by kernel_rfl)) ?_
 refine al zka rfl fun b3 => ?_
 refine st 0 rfl rfl ?_
 refine jv 0 [2, 4] [1] (fun J E L => ∃ (i24 : Int) (s25 : Str), J (E) (.blk b3 [int i24, str s25, int (-1)] 87 :: L) (zcP i24 s25)) rfl ?_ ?_
 refine jv 2 [0, 2, 4] [0, 1] (fun J E L => ∃ (t14 : Bool), J ((7, .bool t14) :: E) (L) (zb1 x_s t14)) rfl ?_ ?_
 refine br rfl (fun hc5 => ?_) fun hc5 => ?_
 refine bi rfl fun b6 hb6 => ?_
 refine vl rfl rfl (fun a w hf hO => zJ (b := b6) (c := 91) hf rfl rfl) ?_
 refine br rfl (fun hc7 => ?_) fun hc7 => ?_
 refine bi rfl fun i8 hi8 => ?_
 refine bi rfl fun b9 hb9 => ?_
 refine vl rfl rfl (fun a w hf hO => zJ (b := b9) (c := 93) hf rfl rfl) ?_
 refine br rfl (fun hc10 => ?_) fun hc10 => ?_
 refine bi rfl fun i11 hi11 => ?_
 refine bi rfl fun s12 hs12 => ?_
 refine cl c_71 rfl (fun r13 w hr13 hO => ziN s12 r13 _ (hG.own hF hO) hr13) fun r13 hr13 => ?_
 exact en rfl fun _ _ j => ⟨r13, j rfl⟩
 exact en rfl fun _ _ j => ⟨false, j rfl⟩
 exact en rfl fun _ _ j => ⟨false, j rfl⟩
 exact en rfl fun _ _ j => ⟨false, j rfl⟩
 rintro a w ⟨t14, hf, hO, hm⟩
 rw [zb1] at hm
 refine S.co tb ?_ hf hO hm
 refine br rfl (fun hc15 => ?_) fun hc15 => ?_
 refine rc_ rfl fun a w hf hO hm => ?_
 obtain ⟨i16, hi16, hm⟩ := ob hm
 obtain ⟨s17, hs17, hm⟩ := ob hm
 refine zav (S := Unit) (E0 := [(0, str x_s), (2, ptr b1 0), (4, ptr b3 0)]) (by kernel_rfl) (fun k σ w => match k with | 0 => Dk.Own w0 [] w [.blk b3 [int 0, str x_s, int (-1)] 87, .blk b1 [int 0, str [], int 0] 87] | 1 => Dk.Own w0 [] w [.blk b3 [int 3, str x_s, int (-1)] 87, .blk b1 [int 0, str [], int 0] 87] | _ => Dk.Own w0 [] w [.blk b3 [int 3, str s17, int (-1)] 87, .blk b1 [int 0, str [], int 0] 87]) (fun σ => [⟨[(0, str x_s)], some (32, str x_s)⟩, ⟨[(0, str x_s)], some (33, str x_s)⟩, ⟨[(33, str x_s)], some (34, int (x_s.length : Int))⟩, ⟨[(34, int (x_s.length : Int))], some (35, int i16)⟩, ⟨[(32, str x_s), (35, int i16)], some (36, str s17)⟩, ⟨[(4, ptr b3 0)], some (37, ptr b3 0)⟩, ⟨[(37, ptr b3 0)], none⟩, ⟨[(4, ptr b3 0)], some (38, ptr b3 1)⟩, ⟨[(36, str s17), (38, ptr b3 1)], none⟩]) () [6, 8] rfl (fun _ => rfl) (fun _ => rfl) (fun _ => rfl) rfl rfl (by decide) rfl hO.drew (hf.cons rfl (hf.cons rfl (hf.cons rfl hf.nil))) (fun σ => ⟨⟨rfl, trivial⟩, ⟨rfl, trivial⟩, ⟨rfl, trivial⟩, ⟨rfl, trivial⟩, ⟨rfl, rfl, trivial⟩, ⟨rfl, trivial⟩, ⟨rfl, trivial⟩, ⟨rfl, trivial⟩, ⟨rfl, rfl, trivial⟩, trivial⟩) ⟨zd rfl (fun σ => rfl) (fun σ => rfl) (fun σ a w k _ _ _ _ hf => zp hf rfl), zd rfl (fun σ => rfl) (fun σ => rfl) (fun σ a w k _ _ _ _ hf => zp hf rfl), zd rfl (fun σ => rfl) (fun σ => rfl) (fun σ a w k _ _ _ _ hf => zgA (l := x_s) Tryz.underlying9 hf rfl), zd rfl (fun σ => rfl) (fun σ => rfl) (fun σ a w k _ _ _ _ hf => ztu hf rfl rfl hi16), zd rfl (fun σ => rfl) (fun σ => rfl) (fun σ a w k _ _ _ _ hf => zjL (l := x_s) Tryz.underlying9 hf rfl rfl rfl hs17), zd rfl (fun σ => rfl) (fun σ => rfl) (fun σ a w k _ _ _ _ hf => zz zrY hf rfl), zbC rfl (fun σ => rfl) (fun σ => rfl) rfl (fun σ w (hO : Dk.Own w0 [] w _) => by obtain ⟨w', hO', hr⟩ := zdA (x := (.tmp 37)) (y := (.const (int 3))) (E := [(37, ptr b3 0)]) (i := 0) (o := 0) (v := int 3) sz_85 rfl rfl rfl rfl hO rfl rfl; exact ⟨(), w', hO', ⟨.inr rfl, .inr rfl, .inr rfl, .inr rfl, .inr rfl, .inr rfl, .inr rfl, .inr rfl, .inr rfl, trivial⟩, hr⟩), zd rfl (fun σ => rfl) (fun σ => rfl) (fun σ a w k _ _ _ _ hf => zz zur hf rfl), zbC rfl (fun σ => rfl) (fun σ => rfl) rfl (fun σ w (hO : Dk.Own w0 [] w _) => by obtain ⟨w', hO', hr⟩ := zdA (x := (.tmp 38)) (y := (.tmp 36)) (E := [(36, str s17), (38, ptr b3 1)]) (i := 0) (o := 1) (v := str s17) zfB rfl rfl rfl rfl hO rfl rfl; exact ⟨(), w', hO', ⟨.inr rfl, .inr rfl, .inr rfl, .inr rfl, .inr rfl, .inr rfl, .inr rfl, .inr rfl, .inr rfl, trivial⟩, hr⟩), trivial⟩ ?_
 rintro _ a w hf hO
 have hO : Dk.Own w0 [] w _ := hO
 have hf : Fits 51 [(2, ptr b1 0), (4, ptr b3 0)] a := (hf.cons rfl (hf.cons rfl hf.nil))
 refine S.no tb ?_ hf hO hm
 exact en rfl fun _ _ j => ⟨3, s17, j rfl⟩
 refine cl c_92 rfl (fun r18 w hr18 hO => zc3 x_s r18 _ (hG.own hF hO) hr18) fun r18 hr18 => ?_
 refine br rfl (fun hc20 => ?_) fun hc20 => ?_
 refine st 0 rfl rfl ?_
 exact en rfl fun _ _ j => ⟨2, x_s, j rfl⟩
 refine cl zwB rfl (fun r21 w hr21 hO => zh2 x_s r21 _ (hG.own hF hO).1 hr21) fun r21 hr21 => ?_
 refine br rfl (fun hc23 => ?_) fun hc23 => ?_
 refine st 0 rfl rfl ?_
 exact en rfl fun _ _ j => ⟨1, x_s, j rfl⟩
 exact en rfl fun _ _ j => ⟨0, x_s, j rfl⟩
 rintro a w ⟨i24, s25, hf, hO, hm⟩
 rw [zcP] at hm
 refine S.co tb ?_ hf hO hm
 refine rc_ rfl fun a w hf hO hm => ?_
 refine zav (S := Unit) (E0 := [(2, ptr b1 0), (4, ptr b3 0)]) (by kernel_rfl) (fun k σ w => match k with | 0 => Dk.Own w0 [] w [.blk b3 [int i24, str s25, int (-1)] 87, .blk b1 [int 0, str [], int 0] 87] | _ => Dk.Own w0 [] w [.blk b3 [int i24, str s25, int (-1)] 87, .blk b1 [int i24, str s25, int (-1)] 87]) (fun σ => [⟨[(4, ptr b3 0)], some (47, .agg #[int i24, str s25, int (-1)])⟩, ⟨[(4, ptr b3 0)], some (48, ptr b3 0)⟩, ⟨[(48, ptr b3 0)], some (49, int i24)⟩, ⟨[(49, int i24)], some (50, .bool (!(i24 == 0)))⟩, ⟨[(2, ptr b1 0), (47, .agg #[int i24, str s25, int (-1)])], none⟩, ⟨[(50, .bool (!(i24 == 0)))], some (3, .bool (!(i24 == 0)))⟩]) () [4] rfl (fun _ => rfl) (fun _ => rfl) (fun _ => rfl) rfl rfl (by decide) rfl hO.drew (hf.cons rfl (hf.cons rfl hf.nil)) (fun σ => ⟨⟨rfl, trivial⟩, ⟨rfl, trivial⟩, ⟨rfl, trivial⟩, ⟨rfl, trivial⟩, ⟨rfl, rfl, trivial⟩, ⟨rfl, trivial⟩, trivial⟩) ⟨zd rfl (fun σ => rfl) (fun σ => rfl) (fun σ a w k hk hlo hup hst hf => match k, hk, hlo, hup, hst, hf with | 0, _, _, _, hst, hf => have hO : Dk.Own w0 [] w _ := hst; zq (o := 0) (vs := [int i24, str s25, int (-1)]) zih zhX (hO.blkSees (i := 0) rfl) rfl rfl hf rfl | 1, _, _, _, hst, hf => have hO : Dk.Own w0 [] w _ := hst; zq (o := 0) (vs := [int i24, str s25, int (-1)]) zih zhX (hO.blkSees (i := 0) rfl) rfl rfl hf rfl | k + 2, hk, _, _, _, _ => absurd hk (by simp)), zd rfl (fun σ => rfl) (fun σ => rfl) (fun σ a w k _ _ _ _ hf => zz zrY hf rfl), zd rfl (fun σ => rfl) (fun σ => rfl) (fun σ a w k hk hlo hup hst hf => match k, hk, hlo, hup, hst, hf with | 0, _, _, _, hst, hf => have hO : Dk.Own w0 [] w _ := hst; zf (o := 0) zv4 (hO.blkSees (i := 0) rfl) rfl hf rfl | 1, _, _, _, hst, hf => have hO : Dk.Own w0 [] w _ := hst; zf (o := 0) zv4 (hO.blkSees (i := 0) rfl) rfl hf rfl | k + 2, hk, _, _, _, _ => absurd hk (by simp)), zd rfl (fun σ => rfl) (fun σ => rfl) (fun σ a w k _ _ _ _ hf => zvu (m := i24) (n := 0) hf rfl rfl), zbC rfl (fun σ => rfl) (fun σ => rfl) rfl (fun σ w (hO : Dk.Own w0 [] w _) => by obtain ⟨w', hO', hr⟩ := zeq (x := (.tmp 2)) (y := (.tmp 47)) (E := [(2, ptr b1 0), (47, .agg #[int i24, str s25, int (-1)])]) (i := 1) (n := 3) (vs := [int i24, str s25, int (-1)]) zhX rfl rfl rfl (by simp [Value.oneCell']) hO rfl rfl; exact ⟨(), w', hO', ⟨.inr rfl, .inr rfl, .inr rfl, .inr rfl, .inr rfl, .inr rfl, trivial⟩, hr⟩), zd rfl (fun σ => rfl) (fun σ => rfl) (fun σ a w k _ _ _ _ hf => z8 hf rfl), trivial⟩ ?_
 rintro _ a w hf hO
 have hO : Dk.Own w0 [] w _ := hO
 have hf : Fits 51 [(2, ptr b1 0), (3, .bool (!(i24 == 0)))] a := (hf.cons rfl (hf.cons rfl hf.nil))
 refine S.no tb ?_ hf hO hm
 refine re_ rfl fun a w hf hO hm => ?_
 obtain rfl := Option.some.inj hm
 exact zh Tryz.results126 hf (.cell rfl (zk (n := 3) (vs := [int i24, str s25, int (-1)]) zih zhX rfl ((hO.blkSees (i := 1) rfl).cells (o := 0) (n := 3) rfl)) (.tmp rfl .nil)) ⟨rfl, hO.below⟩

theorem zhN (x_s : Str) (x_c : UInt8) (R : Int) (w0 : World) (hG : zr w0) (hm : zbd x_s x_c = some R) :
    Calls Tryz.prog 180 #[str x_s, zac x_c] w0 (Ret w0 (fun R => int R) R) := by
 rw [zbd] at hm
 have hF : zs [] := ze
 have hO : Dk.Own w0 [] w0 [] := Dk.Own.refl w0
 refine S.enter tb Tryz.func180 rfl Tryz.ntmps180 rfl ?_ hO hm
 refine bi rfl fun i2 hi2 => ?_
 refine lv [0, 1] [] (fun J E L k => ∃ (i4 : Int), J ((5, int i4) :: E) (L) (zU x_s x_c k i4)) rfl (fun _ _ j => ⟨i2, j rfl⟩) ?_
 rintro n1 a w ⟨i4, hf, hO, hm⟩
 obtain _ | n1 := n1
 rw [zU] at hm
 cases hm
 rw [zU] at hm
 refine S.co tb ?_ hf hO hm
 refine br rfl (fun hc6 => ?_) fun hc6 => ?_
 refine bi rfl fun b8 hb8 => ?_
 refine vl rfl rfl (fun a w hf hO => zJ (b := b8) (c := x_c) hf rfl rfl) ?_
 refine br rfl (fun hc10 => ?_) fun hc10 => ?_
 exact rt Tryz.results180 rfl
 refine bi rfl fun i13 hi13 => ?_
 exact en rfl fun _ _ j => ⟨_, Nat.lt_succ_self _, i13, j rfl⟩
 exact rt Tryz.results180 rfl

theorem zjO (x_s : Str) (x_c : UInt8) (R : Int) (w0 : World) (hG : zr w0) (hm : zbF x_s x_c = some R) :
    Calls Tryz.prog 127 #[str x_s, zac x_c] w0 (Ret w0 (fun R => int R) R) := by
 rw [zbF] at hm
 have hF : zs [] := ze
 have hO : Dk.Own w0 [] w0 [] := Dk.Own.refl w0
 refine S.enter tb Tryz.func127 rfl Tryz.ntmps127 rfl ?_ hO hm
 refine cl c_180 rfl (fun r2 w hr2 hO => zhN x_s x_c r2 _ (hG.own hF hO) hr2) fun r2 hr2 => ?_
 exact rt Tryz.results127 rfl

theorem zfj (x_s : Str) (R : api_Host × Int) (w0 : World) (hG : zaH w0) (hm : zb2 x_s = some R) :
    Calls Tryz.prog 76 #[str x_s] w0 (Ret w0 (fun R => .tuple #[.agg #[int R.1.Kind, str R.1.Name, int R.1.Port], int R.2]) R) := by
 rw [zb2] at hm
 have hF : zs [] := ze
 have hO : Dk.Own w0 [] w0 [] := Dk.Own.refl w0
 refine S.enter tb Tryz.func76 rfl Tryz.ntmps76 rfl ?_ hO hm
 refine al zka rfl fun b1 => ?_
 refine cl c_126 rfl (fun r3 w hr3 hO => zl2 x_s r3 _ (hG.own hF hO) hr3) fun r3 hr3 => ?_
 refine al zka rfl fun b4 => ?_
 refine st 0 rfl rfl ?_
 refine br rfl (fun hc7 => ?_) fun hc7 => ?_
 refine ld 0 rfl rfl ?_
 refine st 1 rfl rfl ?_
 refine re_ rfl fun a w hf hO hm => ?_
 obtain rfl := Option.some.inj hm
 exact zh Tryz.results76 hf (.cell rfl (zk (n := 3) (vs := [int r3.1.Kind, str r3.1.Name, int r3.1.Port]) zih zhX rfl ((hO.blkSees (i := 1) rfl).cells (o := 0) (n := 3) rfl)) (.tmp rfl .nil)) ⟨rfl, hO.below⟩
 refine cl c_127 rfl (fun r10 w hr10 hO => zjO x_s 58 r10 _ (hG.own hF hO).1 hr10) fun r10 hr10 => ?_
 refine br rfl (fun hc13 => ?_) fun hc13 => ?_
 refine vl rfl rfl (fun a w hf hO => zt (vs := []) (v := .agg #[int 0, str [], int 0]) hf rfl (by kernel_rfl)) ?_
 refine st 1 rfl rfl ?_
 refine re_ rfl fun a w hf hO hm => ?_
 obtain rfl := Option.some.inj hm
 exact zh Tryz.results76 hf (.cell rfl (zk (n := 3) (vs := [int 0, str [], int 0]) zih zhX rfl ((hO.blkSees (i := 1) rfl).cells (o := 0) (n := 3) rfl)) (.tmp rfl .nil)) ⟨rfl, hO.below⟩
 refine bi rfl fun s16 hs16 => ?_
 refine cl c_126 rfl (fun r17 w hr17 hO => zl2 s16 r17 _ (hG.own hF hO) hr17) fun r17 hr17 => ?_
 refine al zka rfl fun b18 => ?_
 refine st 0 rfl rfl ?_
 refine jv 1 [0, 2, 6, 7] [0, 1, 2] (fun J E L => ∃ (t24 : Bool), J ((37, .bool t24) :: E) (L) (zdj x_s r10 r17 t24)) rfl ?_ ?_
 refine br rfl (fun hc20 => ?_) fun hc20 => ?_
 exact en rfl fun _ _ j => ⟨true, j rfl⟩
 refine bi rfl fun i21 hi21 => ?_
 refine bi rfl fun s22 hs22 => ?_
 refine cl c_128 rfl (fun r23 w hr23 hO => zjT s22 65535 r23 _ (hG.own hF hO) hr23) fun r23 hr23 => ?_
 exact en rfl fun _ _ j => ⟨!r23, j rfl⟩
 rintro a w ⟨t24, hf, hO, hm⟩
 rw [zdj] at hm
 refine S.co tb ?_ hf hO hm
 refine br rfl (fun hc25 => ?_) fun hc25 => ?_
 refine vl rfl rfl (fun a w hf hO => zt (vs := []) (v := .agg #[int 0, str [], int 0]) hf rfl (by kernel_rfl)) ?_
 refine st 2 rfl rfl ?_
 refine re_ rfl fun a w hf hO hm => ?_
 obtain rfl := Option.some.inj hm
 exact zh Tryz.results76 hf (.cell rfl (zk (n := 3) (vs := [int 0, str [], int 0]) zih zhX rfl ((hO.blkSees (i := 2) rfl).cells (o := 0) (n := 3) rfl)) (.tmp rfl .nil)) ⟨rfl, hO.below⟩
 refine bi rfl fun i28 hi28 => ?_
 refine bi rfl fun s29 hs29 => ?_
 refine cl c_129 rfl (fun r30 w hr30 hO => zjd s29 65535 r30 _ (hG.own hF hO).1 hr30) fun r30 hr30 => ?_
 refine st 0 rfl rfl ?_
 refine ld 0 rfl rfl ?_
 refine st 2 rfl rfl ?_
 refine re_ rfl fun a w hf hO hm => ?_
 obtain rfl := Option.some.inj hm
 exact zh Tryz.results76 hf (.cell rfl (zk (n := 3) (vs := [int r17.1.Kind, str r17.1.Name, int r30.1]) zih zhX rfl ((hO.blkSees (i := 2) rfl).cells (o := 0) (n := 3) rfl)) (.tmp rfl .nil)) ⟨rfl, hO.below⟩

theorem zdB (x_s : Str) (x_prefix : Str) (R : Bool) (w0 : World) (hG : zr w0) (hm : stringslite_HasPrefix x_s x_prefix = some R) :
    Calls Tryz.prog 171 #[str x_s, str x_prefix] w0 (Ret w0 (fun R => .bool R) R) := by
 rw [stringslite_HasPrefix] at hm
 have hF : zs [] := ze
 have hO : Dk.Own w0 [] w0 [] := Dk.Own.refl w0
 refine S.enter tb Tryz.func171 rfl Tryz.ntmps171 rfl ?_ hO hm
 refine jv 0 [] [] (fun J E L => ∃ (t4 : Bool), J ((4, .bool t4) :: E) (L) (zax t4)) rfl ?_ ?_
 refine br rfl (fun hc2 => ?_) fun hc2 => ?_
 refine bi rfl fun s3 hs3 => ?_
 exact en rfl fun _ _ j => ⟨s3 == x_prefix, j rfl⟩
 exact en rfl fun _ _ j => ⟨false, j rfl⟩
 rintro a w ⟨t4, hf, hO, hm⟩
 rw [zax] at hm
 refine S.co tb ?_ hf hO hm
 exact rt Tryz.results171 rfl

theorem zcj (x_s : Str) (x_prefix : Str) (R : Bool) (w0 : World) (hG : zr w0) (hm : strings_HasPrefix x_s x_prefix = some R) :
    Calls Tryz.prog 130 #[str x_s, str x_prefix] w0 (Ret w0 (fun R => .bool R) R) := by
 rw [strings_HasPrefix] at hm
 have hF : zs [] := ze
 have hO : Dk.Own w0 [] w0 [] := Dk.Own.refl w0
 refine S.enter tb Tryz.func130 rfl Tryz.ntmps130 rfl ?_ hO hm
 refine cl zwA rfl (fun r2 w hr2 hO => zdB x_s x_prefix r2 _ (hG.own hF hO) hr2) fun r2 hr2 => ?_
 exact rt Tryz.results130 rfl

theorem zk3 (x_b : UInt8) (R : Bool) (w0 : World) (hG : zr w0) (hm : ziq x_b = some R) :
    Calls Tryz.prog 268 #[zac x_b] w0 (Ret w0 (fun R => .bool R) R) := by
 rw [ziq] at hm
 have hF : zs [] := ze
 have hO : Dk.Own w0 [] w0 [] := Dk.Own.refl w0
 refine S.enter tb Tryz.func268 rfl Tryz.ntmps268 rfl ?_ hO hm
 refine jv 0 [] [] (fun J E L => ∃ (t7 : Bool), J ((2, .bool t7) :: E) (L) (zee t7)) rfl ?_ ?_
 refine cl c_222 rfl (fun r2 w hr2 hO => zhO x_b r2 _ (hG.own hF hO) hr2) fun r2 hr2 => ?_
 refine br rfl (fun hc3 => ?_) fun hc3 => ?_
 exact en rfl fun _ _ j => ⟨true, j rfl⟩
 refine cl c_223 rfl (fun r4 w hr4 hO => zl6 x_b r4 _ (hG.own hF hO) hr4) fun r4 hr4 => ?_
 refine br rfl (fun hc5 => ?_) fun hc5 => ?_
 exact en rfl fun _ _ j => ⟨true, j rfl⟩
 refine cl zuw rfl (fun r6 w hr6 hO => zjp x_b [58, 64] r6 _ (hG.own hF hO) hr6) fun r6 hr6 => ?_
 exact en rfl fun _ _ j => ⟨r6, j rfl⟩
 rintro a w ⟨t7, hf, hO, hm⟩
 rw [zee] at hm
 refine S.co tb ?_ hf hO hm
 exact rt Tryz.results268 rfl

theorem zpd (x_s : Str) (x_more : Str) (R : Bool) (w0 : World) (hG : zr w0) (hm : zna x_s x_more = some R) :
    Calls Tryz.prog 254 #[str x_s, str x_more] w0 (Ret w0 (fun R => .bool R) R) := by
 rw [zna] at hm
 have hF : zs [] := ze
 have hO : Dk.Own w0 [] w0 [] := Dk.Own.refl w0
 refine S.enter tb Tryz.func254 rfl Tryz.ntmps254 rfl ?_ hO hm
 refine lv [0, 1] [] (fun J E L k => ∃ (i3 : Int), J ((5, int i3) :: E) (L) (zdk x_s x_more k i3)) rfl (fun _ _ j => ⟨0, j rfl⟩) ?_
 rintro n1 a w ⟨i3, hf, hO, hm⟩
 obtain _ | n1 := n1
 rw [zdk] at hm
 cases hm
 rw [zdk] at hm
 refine S.co tb ?_ hf hO hm
 refine br rfl (fun hc5 => ?_) fun hc5 => ?_
 refine jv 3 [0, 1] [] (fun J E L => ∃ (i27 : Int), J ((5, int i27) :: E) (L) (zjf (zdk x_s x_more n1) i27)) rfl ?_ ?_
 refine jv 6 [0, 1, 5] [] (fun J E L => ∃ (t12 : Bool), J ((12, .bool t12) :: E) (L) (zjg (zdk x_s x_more n1) x_s i3 t12)) rfl ?_ ?_
 refine bi rfl fun b7 hb7 => ?_
 refine cl c_268 rfl (fun r8 w hr8 hO => zk3 b7 r8 _ (hG.own hF hO) hr8) fun r8 hr8 => ?_
 refine br rfl (fun hc9 => ?_) fun hc9 => ?_
 exact en rfl fun _ _ j => ⟨true, j rfl⟩
 refine bi rfl fun b10 hb10 => ?_
 refine cl zq3 rfl (fun r11 w hr11 hO => zbu x_more b10 r11 _ (hG.own hF hO) hr11) fun r11 hr11 => ?_
 exact en rfl fun _ _ j => ⟨decide (0 ≤ r11), j rfl⟩
 rintro a w ⟨t12, hf, hO, hm⟩
 rw [zjg] at hm
 refine S.co tb ?_ hf hO hm
 refine br rfl (fun hc13 => ?_) fun hc13 => ?_
 exact en rfl fun _ _ j => ⟨i3, j rfl⟩
 refine jv 6 [0, 1, 5] [] (fun J E L => ∃ (t23 : Bool), J ((25, .bool t23) :: E) (L) (zhQ (zdk x_s x_more n1) i3 t23)) rfl ?_ ?_
 refine bi rfl fun b14 hb14 => ?_
 refine vl rfl rfl (fun a w hf hO => zJ (b := b14) (c := 37) hf rfl rfl) ?_
 refine br rfl (fun hc15 => ?_) fun hc15 => ?_
 refine bi rfl fun i16 hi16 => ?_
 refine br rfl (fun hc17 => ?_) fun hc17 => ?_
 refine bi rfl fun i18 hi18 => ?_
 refine bi rfl fun i19 hi19 => ?_
 refine bi rfl fun s20 hs20 => ?_
 refine rw_ rfl fun a w hf hO hm => ?_
 refine zn (vs := [(0, str s20)]) (cs := [str s20]) (e := 9) (sz := 1) hf rfl rfl (fun w => by kernel_rfl) rfl rfl hO fun a b21 w hf hO => ?_
 refine S.op tb ?_ hf hO hm
 refine kn (b' := true) hc17 rfl ?_
 refine cl zkK rfl (fun r22 w hr22 hO => zbA zby ([s20] : List Str) r22 _ (hG.own hF hO) zuu (fun y0 r w hG h => zgc (zhA y0 r w hG h)) (hO.rowSees (i := 0) rfl) (hO.rowCap (i := 0) rfl) hr22) fun r22 hr22 => ?_
 exact ec [] rfl rfl rfl fun _ _ j => ⟨r22, j rfl⟩
 exact en rfl fun _ _ j => ⟨false, j rfl⟩
 exact en rfl fun _ _ j => ⟨false, j rfl⟩
 rintro a w ⟨t23, hf, hO, hm⟩
 rw [zhQ] at hm
 refine S.co tb ?_ hf hO hm
 refine br rfl (fun hc24 => ?_) fun hc24 => ?_
 refine bi rfl fun i25 hi25 => ?_
 exact en rfl fun _ _ j => ⟨i25, j rfl⟩
 exact rt Tryz.results254 rfl
 rintro a w ⟨i27, hf, hO, hm⟩
 rw [zjf] at hm
 refine S.co tb ?_ hf hO hm
 refine bi rfl fun i28 hi28 => ?_
 exact en rfl fun _ _ j => ⟨_, Nat.lt_succ_self _, i28, j rfl⟩
 exact rt Tryz.results254 rfl

theorem zrx (x_s : Str) (R : Bool) (w0 : World) (hG : zr w0) (hm : zmB x_s = some R) :
    Calls Tryz.prog 225 #[str x_s] w0 (Ret w0 (fun R => .bool R) R) := by
 rw [zmB] at hm
 have hF : zs [] := ze
 have hO : Dk.Own w0 [] w0 [] := Dk.Own.refl w0
 refine S.enter tb Tryz.func225 rfl Tryz.ntmps225 rfl ?_ hO hm
 refine jv 0 [] [] (fun J E L => ∃ (t5 : Bool), J ((2, .bool t5) :: E) (L) (zhB t5)) rfl ?_ ?_
 refine cl ztc rfl (fun r2 w hr2 hO => zcj x_s [47] r2 _ (hG.own hF hO) hr2) fun r2 hr2 => ?_
 refine br rfl (fun hc3 => ?_) fun hc3 => ?_
 refine cl c_254 rfl (fun r4 w hr4 hO => zpd x_s [47] r4 _ (hG.own hF hO) hr4) fun r4 hr4 => ?_
 exact en rfl fun _ _ j => ⟨r4, j rfl⟩
 exact en rfl fun _ _ j => ⟨false, j rfl⟩
 rintro a w ⟨t5, hf, hO, hm⟩
 rw [zhB] at hm
 refine S.co tb ?_ hf hO hm
 exact rt Tryz.results225 rfl

theorem zqh (x_s : Str) (R : Bool) (w0 : World) (hG : zr w0) (hm : zll x_s = some R) :
    Calls Tryz.prog 226 #[str x_s] w0 (Ret w0 (fun R => .bool R) R) := by
 rw [zll] at hm
 have hF : zs [] := ze
 have hO : Dk.Own w0 [] w0 [] := Dk.Own.refl w0
 refine S.enter tb Tryz.func226 rfl Tryz.ntmps226 rfl ?_ hO hm
 refine cl c_254 rfl (fun r2 w hr2 hO => zpd x_s [47, 63] r2 _ (hG.own hF hO) hr2) fun r2 hr2 => ?_
 exact rt Tryz.results226 rfl

theorem zsx (x_s : Str) (R : Str × Str × Bool × Int) (w0 : World) (hG : zr w0) (hm : znP x_s = some R) :
    Calls Tryz.prog 183 #[str x_s] w0 (Ret w0 (fun R => .tuple #[str R.1, str R.2.1, .bool R.2.2.1, int R.2.2.2]) R) := by
 rw [znP] at hm
 have hF : zs [] := ze
 have hO : Dk.Own w0 [] w0 [] := Dk.Own.refl w0
 refine S.enter tb Tryz.func183 rfl Tryz.ntmps183 rfl ?_ hO hm
 refine cl zwv rfl (fun r2 w hr2 hO => zju x_s [63] r2 _ (hG.own hF hO) hr2) fun r2 hr2 => ?_
 refine jv 1 [2, 3, 4] [] (fun J E L => ∃ (t7 : Bool), J ((19, .bool t7) :: E) (L) (zir r2 t7)) rfl ?_ ?_
 refine cl c_225 rfl (fun r4 w hr4 hO => zrx r2.1 r4 _ (hG.own hF hO) hr4) fun r4 hr4 => ?_
 refine br rfl (fun hc5 => ?_) fun hc5 => ?_
 exact en rfl fun _ _ j => ⟨true, j rfl⟩
 refine cl c_226 rfl (fun r6 w hr6 hO => zqh r2.2.1 r6 _ (hG.own hF hO) hr6) fun r6 hr6 => ?_
 exact en rfl fun _ _ j => ⟨!r6, j rfl⟩
 rintro a w ⟨t7, hf, hO, hm⟩
 rw [zir] at hm
 refine S.co tb ?_ hf hO hm
 refine br rfl (fun hc8 => ?_) fun hc8 => ?_
 exact rt Tryz.results183 rfl
 exact rt Tryz.results183 rfl

theorem zl3 (x_t : api_Target) (x_s : Str) (R : api_Target × Bool) (w0 : World) (hG : zr w0) (hm : zjh x_t x_s = some R) :
    Calls Tryz.prog 132 #[.agg #[int x_t.Kind, str x_t.Scheme, int x_t.Host.Kind, str x_t.Host.Name, int x_t.Host.Port, str x_t.Path, str x_t.Query, .bool x_t.HasQuery], str x_s] w0 (Ret w0 (fun R => .tuple #[.agg #[int R.1.Kind, str R.1.Scheme, int R.1.Host.Kind, str R.1.Host.Name, int R.1.Host.Port, str R.1.Path, str R.1.Query, .bool R.1.HasQuery], .bool R.2]) R) := by
 rw [zjh] at hm
 have hF : zs [] := ze
 have hO : Dk.Own w0 [] w0 [] := Dk.Own.refl w0
 refine S.enter tb Tryz.func132 rfl Tryz.ntmps132 rfl ?_ hO hm
 refine bo rfl fun b1 => ?_
 refine al zoh rfl fun b2 => ?_
 refine br rfl (fun hc5 => ?_) fun hc5 => ?_
 refine ld 1 rfl rfl ?_
 refine st 0 rfl rfl ?_
 refine re_ rfl fun a w hf hO hm => ?_
 obtain rfl := Option.some.inj hm
 exact zh Tryz.results132 hf (.cell rfl (zk (n := 8) (vs := [int x_t.Kind, str x_t.Scheme, int x_t.Host.Kind, str x_t.Host.Name, int x_t.Host.Port, str x_t.Path, str x_t.Query, .bool x_t.HasQuery]) zii zhY rfl ((hO.blkSees (i := 0) rfl).cells (o := 0) (n := 8) rfl)) (.tmp rfl .nil)) ⟨rfl, hO.below⟩
 refine bi rfl fun b9 hb9 => ?_
 refine vl rfl rfl (fun a w hf hO => zJ (b := b9) (c := 63) hf rfl rfl) ?_
 refine jv 0 [2, 4, 7] [0, 1] (fun J E L => ∃ (s14 : Str), J ((1, str s14) :: E) (L) (zgQ x_t b9 s14)) rfl ?_ ?_
 refine br rfl (fun hc12 => ?_) fun hc12 => ?_
 refine bi rfl fun s13 hs13 => ?_
 exact en rfl fun _ _ j => ⟨s13, j rfl⟩
 exact en rfl fun _ _ j => ⟨x_s, j rfl⟩
 rintro a w ⟨s14, hf, hO, hm⟩
 rw [zgQ] at hm
 refine S.co tb ?_ hf hO hm
 refine cl c_183 rfl (fun r15 w hr15 hO => zsx s14 r15 _ (hG.own hF hO) hr15) fun r15 hr15 => ?_
 refine st 1 rfl rfl ?_
 refine st 1 rfl rfl ?_
 refine st 1 rfl rfl ?_
 refine jv 0 [2, 4, 6] [0] (fun J E L => ∃ (s19 : Str), J (E) (.blk b1 [int x_t.Kind, str x_t.Scheme, int x_t.Host.Kind, str x_t.Host.Name, int x_t.Host.Port, str s19, str r15.2.1, .bool r15.2.2.1] 89 :: L) (zgP x_t r15 s19)) rfl ?_ ?_
 refine br rfl (fun hc18 => ?_) fun hc18 => ?_
 refine st 1 rfl rfl ?_
 exact ec [1, 0] rfl rfl rfl fun _ _ j => ⟨[], j rfl⟩
 exact ec [1, 0] rfl rfl rfl fun _ _ j => ⟨r15.1, j rfl⟩
 rintro a w ⟨s19, hf, hO, hm⟩
 rw [zgP] at hm
 refine S.co tb ?_ hf hO hm
 refine ld 0 rfl rfl ?_
 refine st 1 rfl rfl ?_
 refine re_ rfl fun a w hf hO hm => ?_
 obtain rfl := Option.some.inj hm
 exact zh Tryz.results132 hf (.cell rfl (zk (n := 8) (vs := [int x_t.Kind, str x_t.Scheme, int x_t.Host.Kind, str x_t.Host.Name, int x_t.Host.Port, str s19, str r15.2.1, .bool r15.2.2.1]) zii zhY rfl ((hO.blkSees (i := 1) rfl).cells (o := 0) (n := 8) rfl)) (.tmp rfl .nil)) ⟨rfl, hO.below⟩

end Go.Proofs
end
section
set_option linter.unusedVariables false
set_option maxHeartbeats 1000000
set_option linter.unusedSimpArgs false
set_option maxRecDepth 100000
namespace Go.Proofs
open Go.Dk Go.Dm Go.RowKit

theorem zm4 (x_s : Str) (R : api_Target × Bool) (w0 : World) (hG : zaH w0) (hm : zh5 x_s = some R) :
    Calls Tryz.prog 131 #[str x_s] w0 (Ret w0 (fun R => .tuple #[.agg #[int R.1.Kind, str R.1.Scheme, int R.1.Host.Kind, str R.1.Host.Name, int R.1.Host.Port, str R.1.Path, str R.1.Query, .bool R.1.HasQuery], .bool R.2]) R) := by
 rw [zh5] at hm
 have hF : zs [] := ze
 have hO : Dk.Own w0 [] w0 [] := Dk.Own.refl w0
 refine S.enter tb Tryz.func131 rfl Tryz.ntmps131 rfl ?_ hO hm
 refine al zoh rfl fun b1 => ?_
 refine cl zwv rfl (fun r3 w hr3 hO => zju x_s [58, 47, 47] r3 _ (hG.own hF hO).1 hr3) fun r3 hr3 => ?_
 refine cl ztW rfl (fun r5 w hr5 hO => zd1 r3.1 r5 _ (hG.own hF hO).1 hr5) fun r5 hr5 => ?_
 refine vl rfl rfl (fun a w hf hO => zt (vs := [(0, int 2), (1, str r5)]) (v := .agg #[int 2, str r5, int 0, str [], int 0, str [], str [], .bool false]) hf rfl (by kernel_rfl)) ?_
 refine al zoh rfl fun b6 => ?_
 refine st 0 rfl rfl ?_
 refine jv 1 [2, 5, 7] [0, 1] (fun J E L => ∃ (t10 : Bool), J ((31, .bool t10) :: E) (L) (zcQ r3 r5 t10)) rfl ?_ ?_
 refine br rfl (fun hc8 => ?_) fun hc8 => ?_
 exact en rfl fun _ _ j => ⟨true, j rfl⟩
 refine ld 0 rfl rfl ?_
 refine br rfl (fun hc9 => ?_) fun hc9 => ?_
 refine ld 0 rfl rfl ?_
 exact en rfl fun _ _ j => ⟨!(r5 == [104, 116, 116, 112, 115]), j rfl⟩
 exact en rfl fun _ _ j => ⟨false, j rfl⟩
 rintro a w ⟨t10, hf, hO, hm⟩
 rw [zcQ] at hm
 refine S.co tb ?_ hf hO hm
 refine br rfl (fun hc11 => ?_) fun hc11 => ?_
 refine ld 0 rfl rfl ?_
 refine st 1 rfl rfl ?_
 refine re_ rfl fun a w hf hO hm => ?_
 obtain rfl := Option.some.inj hm
 exact zh Tryz.results131 hf (.cell rfl (zk (n := 8) (vs := [int 2, str r5, int 0, str [], int 0, str [], str [], .bool false]) zii zhY rfl ((hO.blkSees (i := 1) rfl).cells (o := 0) (n := 8) rfl)) (.tmp rfl .nil)) ⟨rfl, hO.below⟩
 refine cl zwz rfl (fun r14 w hr14 hO => zgd r3.2.1 [47, 63] r14 _ (hG.own hF hO).1 hr14) fun r14 hr14 => ?_
 refine jv 0 [2, 5, 7] [0, 1] (fun J E L => ∃ (i18 : Int), J ((8, int i18) :: E) (L) (zd5 r3 r5 i18)) rfl ?_ ?_
 refine br rfl (fun hc17 => ?_) fun hc17 => ?_
 exact en rfl fun _ _ j => ⟨(r3.2.1.length : Int), j rfl⟩
 exact en rfl fun _ _ j => ⟨r14, j rfl⟩
 rintro a w ⟨i18, hf, hO, hm⟩
 rw [zd5] at hm
 refine S.co tb ?_ hf hO hm
 refine bi rfl fun s19 hs19 => ?_
 refine cl c_76 rfl (fun r20 w hr20 hO => zfj s19 r20 _ (hG.own hF hO) hr20) fun r20 hr20 => ?_
 refine al zka rfl fun b21 => ?_
 refine st 0 rfl rfl ?_
 refine br rfl (fun hc24 => ?_) fun hc24 => ?_
 refine ld 1 rfl rfl ?_
 refine st 2 rfl rfl ?_
 refine re_ rfl fun a w hf hO hm => ?_
 obtain rfl := Option.some.inj hm
 exact zh Tryz.results131 hf (.cell rfl (zk (n := 8) (vs := [int 2, str r5, int 0, str [], int 0, str [], str [], .bool false]) zii zhY rfl ((hO.blkSees (i := 2) rfl).cells (o := 0) (n := 8) rfl)) (.tmp rfl .nil)) ⟨rfl, hO.below⟩
 refine ld 0 rfl rfl ?_
 refine st 1 rfl rfl ?_
 refine rc_ rfl fun a w hf hO hm => ?_
 obtain ⟨s28, hs28, hm⟩ := ob hm
 obtain ⟨r29, hr29, hm⟩ := ob hm
 refine zav (S := Unit) (E0 := [(2, ptr b1 0), (5, str r3.2.1), (7, ptr b6 0), (8, int i18)]) (by kernel_rfl) (fun k σ w => match k with | 0 => Dk.Own w0 [] w [.blk b21 [int r20.1.Kind, str r20.1.Name, int r20.1.Port] 87, .blk b6 [int 2, str r5, int r20.1.Kind, str r20.1.Name, int r20.1.Port, str [], str [], .bool false] 89, .blk b1 [int 0, str [], int 0, str [], int 0, str [], str [], .bool false] 89] | 1 => Dk.Own w0 [] w [.blk b21 [int r20.1.Kind, str r20.1.Name, int r20.1.Port] 87, .blk b6 [int 2, str r5, int r20.1.Kind, str r20.1.Name, int r20.1.Port, str [], str [], .bool false] 89, .blk b1 [int 0, str [], int 0, str [], int 0, str [], str [], .bool false] 89] | _ => Dk.Own w0 [] w [.blk b21 [int r20.1.Kind, str r20.1.Name, int r20.1.Port] 87, .blk b6 [int 2, str r5, int r20.1.Kind, str r20.1.Name, int r20.1.Port, str [], str [], .bool false] 89, .blk b1 [int r29.1.Kind, str r29.1.Scheme, int r29.1.Host.Kind, str r29.1.Host.Name, int r29.1.Host.Port, str r29.1.Path, str r29.1.Query, .bool r29.1.HasQuery] 89]) (fun σ => [⟨[(7, ptr b6 0)], some (51, .agg #[int 2, str r5, int r20.1.Kind, str r20.1.Name, int r20.1.Port, str [], str [], .bool false])⟩, ⟨[(5, str r3.2.1)], some (52, str r3.2.1)⟩, ⟨[(8, int i18)], some (53, int i18)⟩, ⟨[(52, str r3.2.1), (53, int i18)], some (54, str s28)⟩, ⟨[(51, .agg #[int 2, str r5, int r20.1.Kind, str r20.1.Name, int r20.1.Port, str [], str [], .bool false]), (54, str s28)], some (55, .tuple #[.agg #[int r29.1.Kind, str r29.1.Scheme, int r29.1.Host.Kind, str r29.1.Host.Name, int r29.1.Host.Port, str r29.1.Path, str r29.1.Query, .bool r29.1.HasQuery], .bool r29.2])⟩, ⟨[(55, .tuple #[.agg #[int r29.1.Kind, str r29.1.Scheme, int r29.1.Host.Kind, str r29.1.Host.Name, int r29.1.Host.Port, str r29.1.Path, str r29.1.Query, .bool r29.1.HasQuery], .bool r29.2])], some (56, .agg #[int r29.1.Kind, str r29.1.Scheme, int r29.1.Host.Kind, str r29.1.Host.Name, int r29.1.Host.Port, str r29.1.Path, str r29.1.Query, .bool r29.1.HasQuery])⟩, ⟨[(55, .tuple #[.agg #[int r29.1.Kind, str r29.1.Scheme, int r29.1.Host.Kind, str r29.1.Host.Name, int r29.1.Host.Port, str r29.1.Path, str r29.1.Query, .bool r29.1.HasQuery], .bool r29.2])], some (57, .bool r29.2)⟩, ⟨[(2, ptr b1 0), (56, .agg #[int r29.1.Kind, str r29.1.Scheme, int r29.1.Host.Kind, str r29.1.Host.Name, int r29.1.Host.Port, str r29.1.Path, str r29.1.Query, .bool r29.1.HasQuery])], none⟩, ⟨[(57, .bool r29.2)], some (3, .bool r29.2)⟩]) () [4, 7] rfl (fun _ => rfl) (fun _ => rfl) (fun _ => rfl) rfl rfl (by decide) rfl hO.drew (hf.cons rfl (hf.cons rfl (hf.cons rfl (hf.cons rfl hf.nil)))) (fun σ => ⟨⟨rfl, trivial⟩, ⟨rfl, trivial⟩, ⟨rfl, trivial⟩, ⟨rfl, rfl, trivial⟩, ⟨rfl, rfl, trivial⟩, ⟨rfl, trivial⟩, ⟨rfl, trivial⟩, ⟨rfl, rfl, trivial⟩, ⟨rfl, trivial⟩, trivial⟩) ⟨zd rfl (fun σ => rfl) (fun σ => rfl) (fun σ a w k hk hlo hup hst hf => match k, hk, hlo, hup, hst, hf with | 0, _, _, _, hst, hf => have hO : Dk.Own w0 [] w _ := hst; zq (o := 0) (vs := [int 2, str r5, int r20.1.Kind, str r20.1.Name, int r20.1.Port, str [], str [], .bool false]) zii zhY (hO.blkSees (i := 1) rfl) rfl rfl hf rfl | 1, _, _, _, hst, hf => have hO : Dk.Own w0 [] w _ := hst; zq (o := 0) (vs := [int 2, str r5, int r20.1.Kind, str r20.1.Name, int r20.1.Port, str [], str [], .bool false]) zii zhY (hO.blkSees (i := 1) rfl) rfl rfl hf rfl | 2, _, _, _, hst, hf => have hO : Dk.Own w0 [] w _ := hst; zq (o := 0) (vs := [int 2, str r5, int r20.1.Kind, str r20.1.Name, int r20.1.Port, str [], str [], .bool false]) zii zhY (hO.blkSees (i := 1) rfl) rfl rfl hf rfl | k + 3, hk, _, _, _, _ => absurd hk (by simp)), zd rfl (fun σ => rfl) (fun σ => rfl) (fun σ a w k _ _ _ _ hf => zp hf rfl), zd rfl (fun σ => rfl) (fun σ => rfl) (fun σ a w k _ _ _ _ hf => zp hf rfl), zd rfl (fun σ => rfl) (fun σ => rfl) (fun σ a w k _ _ _ _ hf => ziA (l := r3.2.1) Tryz.underlying9 hf rfl rfl hs28), zaR rfl (fun σ => rfl) (fun σ => rfl) rfl (fun σ a w (_ : _) hf => zj c_132 hf (vs := [.agg #[int 2, str r5, int r20.1.Kind, str r20.1.Name, int r20.1.Port, str [], str [], .bool false], str s28]) rfl) (fun σ w (hO : Dk.Own w0 [] w _) => (zl3 (⟨2, r5, r20.1, [], [], false⟩ : api_Target) s28 r29 _ (hG.own hF hO).1 hr29).mono fun e w' h => by obtain ⟨he, hb⟩ := h; exact ⟨(), he, hO.grow hb, .inr rfl, .inr rfl, .inr rfl, .inr rfl, .inr rfl, .inr rfl, .inr rfl, .inr rfl, .inr rfl, trivial⟩), zd rfl (fun σ => rfl) (fun σ => rfl) (fun σ a w k _ _ _ _ hf => zgb hf rfl rfl), zd rfl (fun σ => rfl) (fun σ => rfl) (fun σ a w k _ _ _ _ hf => zgb hf rfl rfl), zbC rfl (fun σ => rfl) (fun σ => rfl) rfl (fun σ w (hO : Dk.Own w0 [] w _) => by obtain ⟨w', hO', hr⟩ := zeq (x := (.tmp 2)) (y := (.tmp 56)) (E := [(2, ptr b1 0), (56, .agg #[int r29.1.Kind, str r29.1.Scheme, int r29.1.Host.Kind, str r29.1.Host.Name, int r29.1.Host.Port, str r29.1.Path, str r29.1.Query, .bool r29.1.HasQuery])]) (i := 2) (n := 8) (vs := [int r29.1.Kind, str r29.1.Scheme, int r29.1.Host.Kind, str r29.1.Host.Name, int r29.1.Host.Port, str r29.1.Path, str r29.1.Query, .bool r29.1.HasQuery]) zhY rfl rfl rfl (by simp [Value.oneCell']) hO rfl rfl; exact ⟨(), w', hO', ⟨.inr rfl, .inr rfl, .inr rfl, .inr rfl, .inr rfl, .inr rfl, .inr rfl, .inr rfl, .inr rfl, trivial⟩, hr⟩), zd rfl (fun σ => rfl) (fun σ => rfl) (fun σ a w k _ _ _ _ hf => z8 hf rfl), trivial⟩ ?_
 rintro _ a w hf hO
 have hO : Dk.Own w0 [] w _ := hO
 have hf : Fits 58 [(2, ptr b1 0), (3, .bool r29.2)] a := (hf.cons rfl (hf.cons rfl hf.nil))
 refine S.no tb ?_ hf hO hm
 refine re_ rfl fun a w hf hO hm => ?_
 obtain rfl := Option.some.inj hm
 exact zh Tryz.results131 hf (.cell rfl (zk (n := 8) (vs := [int r29.1.Kind, str r29.1.Scheme, int r29.1.Host.Kind, str r29.1.Host.Name, int r29.1.Host.Port, str r29.1.Path, str r29.1.Query, .bool r29.1.HasQuery]) zii zhY rfl ((hO.blkSees (i := 2) rfl).cells (o := 0) (n := 8) rfl)) (.tmp rfl .nil)) ⟨rfl, hO.below⟩

theorem zsM (x_method : Str) (x_s : Str) (R : api_Target × Bool) (w0 : World) (hG : zaH w0) (hm : znQ x_method x_s = some R) :
    Calls Tryz.prog 77 #[str x_method, str x_s] w0 (Ret w0 (fun R => .tuple #[.agg #[int R.1.Kind, str R.1.Scheme, int R.1.Host.Kind, str R.1.Host.Name, int R.1.Host.Port, str R.1.Path, str R.1.Query, .bool R.1.HasQuery], .bool R.2]) R) := by
 rw [znQ] at hm
 have hF : zs [] := ze
 have hO : Dk.Own w0 [] w0 [] := Dk.Own.refl w0
 refine S.enter tb Tryz.func77 rfl Tryz.ntmps77 rfl ?_ hO hm
 refine al zoh rfl fun b1 => ?_
 refine br rfl (fun hc4 => ?_) fun hc4 => ?_
 refine vl rfl rfl (fun a w hf hO => zt (vs := [(0, int 4)]) (v := .agg #[int 4, str [], int 0, str [], int 0, str [], str [], .bool false]) hf rfl (by kernel_rfl)) ?_
 refine st 0 rfl rfl ?_
 refine re_ rfl fun a w hf hO hm => ?_
 obtain rfl := Option.some.inj hm
 exact zh Tryz.results77 hf (.cell rfl (zk (n := 8) (vs := [int 4, str [], int 0, str [], int 0, str [], str [], .bool false]) zii zhY rfl ((hO.blkSees (i := 0) rfl).cells (o := 0) (n := 8) rfl)) (.tmp rfl .nil)) ⟨rfl, hO.below⟩
 refine cl ztc rfl (fun r7 w hr7 hO => zcj x_s [47] r7 _ (hG.own hF hO).1 hr7) fun r7 hr7 => ?_
 refine br rfl (fun hc9 => ?_) fun hc9 => ?_
 refine cl c_131 rfl (fun r10 w hr10 hO => zm4 x_s r10 _ (hG.own hF hO) hr10) fun r10 hr10 => ?_
 refine st 0 rfl rfl ?_
 refine re_ rfl fun a w hf hO hm => ?_
 obtain rfl := Option.some.inj hm
 exact zh Tryz.results77 hf (.cell rfl (zk (n := 8) (vs := [int r10.1.Kind, str r10.1.Scheme, int r10.1.Host.Kind, str r10.1.Host.Name, int r10.1.Host.Port, str r10.1.Path, str r10.1.Query, .bool r10.1.HasQuery]) zii zhY rfl ((hO.blkSees (i := 0) rfl).cells (o := 0) (n := 8) rfl)) (.tmp rfl .nil)) ⟨rfl, hO.below⟩
 refine vl rfl rfl (fun a w hf hO => zt (vs := [(0, int 1)]) (v := .agg #[int 1, str [], int 0, str [], int 0, str [], str [], .bool false]) hf rfl (by kernel_rfl)) ?_
 refine cl c_132 rfl (fun r13 w hr13 hO => zl3 ((⟨1, [], (⟨0, [], 0⟩ : api_Host), [], [], false⟩ : api_Target)) x_s r13 _ (hG.own hF hO).1 hr13) fun r13 hr13 => ?_
 refine al zoh rfl fun b14 => ?_
 refine st 0 rfl rfl ?_
 refine ld 0 rfl rfl ?_
 refine st 1 rfl rfl ?_
 refine re_ rfl fun a w hf hO hm => ?_
 obtain rfl := Option.some.inj hm
 exact zh Tryz.results77 hf (.cell rfl (zk (n := 8) (vs := [int r13.1.Kind, str r13.1.Scheme, int r13.1.Host.Kind, str r13.1.Host.Name, int r13.1.Host.Port, str r13.1.Path, str r13.1.Query, .bool r13.1.HasQuery]) zii zhY rfl ((hO.blkSees (i := 1) rfl).cells (o := 0) (n := 8) rfl)) (.tmp rfl .nil)) ⟨rfl, hO.below⟩

theorem zpu (x_method : Str) (x_s : Str) (R : api_Target × Int) (w0 : World) (hG : zaH w0) (hm : zkp x_method x_s = some R) :
    Calls Tryz.prog 39 #[str x_method, str x_s] w0 (Ret w0 (fun R => .tuple #[.agg #[int R.1.Kind, str R.1.Scheme, int R.1.Host.Kind, str R.1.Host.Name, int R.1.Host.Port, str R.1.Path, str R.1.Query, .bool R.1.HasQuery], int R.2]) R) := by
 rw [zkp] at hm
 have hF : zs [] := ze
 have hO : Dk.Own w0 [] w0 [] := Dk.Own.refl w0
 refine S.enter tb Tryz.func39 rfl Tryz.ntmps39 rfl ?_ hO hm
 refine al zoh rfl fun b1 => ?_
 refine br rfl (fun hc4 => ?_) fun hc4 => ?_
 refine cl c_76 rfl (fun r5 w hr5 hO => zfj x_s r5 _ (hG.own hF hO) hr5) fun r5 hr5 => ?_
 refine al zka rfl fun b6 => ?_
 refine st 0 rfl rfl ?_
 refine jv 2 [4, 6] [0, 1] (fun J E L => ∃ (t9 : Bool), J ((23, .bool t9) :: E) (L) (zfX r5 t9)) rfl ?_ ?_
 refine br rfl (fun hc8 => ?_) fun hc8 => ?_
 exact en rfl fun _ _ j => ⟨true, j rfl⟩
 refine ld 0 rfl rfl ?_
 exact en rfl fun _ _ j => ⟨decide (r5.1.Port < 0), j rfl⟩
 rintro a w ⟨t9, hf, hO, hm⟩
 rw [zfX] at hm
 refine S.co tb ?_ hf hO hm
 refine br rfl (fun hc10 => ?_) fun hc10 => ?_
 refine vl rfl rfl (fun a w hf hO => zt (vs := []) (v := .agg #[int 0, str [], int 0, str [], int 0, str [], str [], .bool false]) hf rfl (by kernel_rfl)) ?_
 refine st 1 rfl rfl ?_
 refine re_ rfl fun a w hf hO hm => ?_
 obtain rfl := Option.some.inj hm
 exact zh Tryz.results39 hf (.cell rfl (zk (n := 8) (vs := [int 0, str [], int 0, str [], int 0, str [], str [], .bool false]) zii zhY rfl ((hO.blkSees (i := 1) rfl).cells (o := 0) (n := 8) rfl)) (.tmp rfl .nil)) ⟨rfl, hO.below⟩
 refine ld 0 rfl rfl ?_
 refine vl rfl rfl (fun a w hf hO => zt (vs := [(0, int 3), (2, .agg #[int r5.1.Kind, str r5.1.Name, int r5.1.Port])]) (v := .agg #[int 3, str [], int r5.1.Kind, str r5.1.Name, int r5.1.Port, str [], str [], .bool false]) hf rfl (by kernel_rfl)) ?_
 refine st 1 rfl rfl ?_
 refine re_ rfl fun a w hf hO hm => ?_
 obtain rfl := Option.some.inj hm
 exact zh Tryz.results39 hf (.cell rfl (zk (n := 8) (vs := [int 3, str [], int r5.1.Kind, str r5.1.Name, int r5.1.Port, str [], str [], .bool false]) zii zhY rfl ((hO.blkSees (i := 1) rfl).cells (o := 0) (n := 8) rfl)) (.tmp rfl .nil)) ⟨rfl, hO.below⟩
 refine cl c_77 rfl (fun r15 w hr15 hO => zsM x_method x_s r15 _ (hG.own hF hO) hr15) fun r15 hr15 => ?_
 refine al zoh rfl fun b16 => ?_
 refine st 0 rfl rfl ?_
 refine br rfl (fun hc19 => ?_) fun hc19 => ?_
 refine vl rfl rfl (fun a w hf hO => zt (vs := []) (v := .agg #[int 0, str [], int 0, str [], int 0, str [], str [], .bool false]) hf rfl (by kernel_rfl)) ?_
 refine st 1 rfl rfl ?_
 refine re_ rfl fun a w hf hO hm => ?_
 obtain rfl := Option.some.inj hm
 exact zh Tryz.results39 hf (.cell rfl (zk (n := 8) (vs := [int 0, str [], int 0, str [], int 0, str [], str [], .bool false]) zii zhY rfl ((hO.blkSees (i := 1) rfl).cells (o := 0) (n := 8) rfl)) (.tmp rfl .nil)) ⟨rfl, hO.below⟩
 refine ld 0 rfl rfl ?_
 refine st 1 rfl rfl ?_
 refine re_ rfl fun a w hf hO hm => ?_
 obtain rfl := Option.some.inj hm
 exact zh Tryz.results39 hf (.cell rfl (zk (n := 8) (vs := [int r15.1.Kind, str r15.1.Scheme, int r15.1.Host.Kind, str r15.1.Host.Name, int r15.1.Host.Port, str r15.1.Path, str r15.1.Query, .bool r15.1.HasQuery]) zii zhY rfl ((hO.blkSees (i := 1) rfl).cells (o := 0) (n := 8) rfl)) (.tmp rfl .nil)) ⟨rfl, hO.below⟩

theorem zrI (x_path : Str) (x_query : Str) (x_has : Bool) (R : Str) (w0 : World) (hG : zr w0) (hm : zmC x_path x_query x_has = some R) :
    Calls Tryz.prog 78 #[str x_path, str x_query, .bool x_has] w0 (Ret w0 (fun R => str R) R) := by
 rw [zmC] at hm
 have hF : zs [] := ze
 have hO : Dk.Own w0 [] w0 [] := Dk.Own.refl w0
 refine S.enter tb Tryz.func78 rfl Tryz.ntmps78 rfl ?_ hO hm
 refine br rfl (fun hc3 => ?_) fun hc3 => ?_
 exact rt Tryz.results78 rfl
 refine bi rfl fun s6 hs6 => ?_
 refine bi rfl fun s7 hs7 => ?_
 exact rt Tryz.results78 rfl

theorem zoy (x_t : api_Target) (R : Str) (w0 : World) (hG : zr w0) (hm : zjB x_t = some R) :
    Calls Tryz.prog 40 #[.agg #[int x_t.Kind, str x_t.Scheme, int x_t.Host.Kind, str x_t.Host.Name, int x_t.Host.Port, str x_t.Path, str x_t.Query, .bool x_t.HasQuery]] w0 (Ret w0 (fun R => str R) R) := by
 rw [zjB] at hm
 have hF : zs [] := ze
 have hO : Dk.Own w0 [] w0 [] := Dk.Own.refl w0
 refine S.enter tb Tryz.func40 rfl Tryz.ntmps40 rfl ?_ hO hm
 refine bo rfl fun b1 => ?_
 refine ld 0 rfl rfl ?_
 refine br rfl (fun hc5 => ?_) fun hc5 => ?_
 exact rt Tryz.results40 rfl
 refine br rfl (fun hc8 => ?_) fun hc8 => ?_
 exact rt Tryz.results40 rfl
 refine ld 0 rfl rfl ?_
 refine jv 0 [1] [0] (fun J E L => ∃ (s14 : Str), J ((3, str s14) :: E) (L) (zft x_t s14)) rfl ?_ ?_
 refine br rfl (fun hc13 => ?_) fun hc13 => ?_
 exact en rfl fun _ _ j => ⟨[47], j rfl⟩
 exact en rfl fun _ _ j => ⟨x_t.Path, j rfl⟩
 rintro a w ⟨s14, hf, hO, hm⟩
 rw [zft] at hm
 refine S.co tb ?_ hf hO hm
 refine ld 0 rfl rfl ?_
 refine ld 0 rfl rfl ?_
 refine cl c_78 rfl (fun r15 w hr15 hO => zrI s14 x_t.Query x_t.HasQuery r15 _ (hG.own hF hO) hr15) fun r15 hr15 => ?_
 exact rt Tryz.results40 rfl

theorem zgI (x_sep : Str) (x_l : List Str) (R : Str) (w0 : World) (hG : zr w0) {x_l_p0 : Option Addr} {x_l_c0 : Nat} (hs0 : zD w0 x_l_p0 (cells zg x_l)) (hc0 : x_l.length ≤ x_l_c0) (hm : zcd x_sep x_l = some R) :
    Calls Tryz.prog 86 #[str x_sep, .slice x_l_p0 x_l.length x_l_c0] w0 (Ret w0 (fun R => str R) R) := by
 rw [zcd] at hm
 have hF : zs [] := ze
 have hO : Dk.Own w0 [] w0 [] := Dk.Own.refl w0
 have hO := hO.addShr hs0 (by simp [Res.shared])
 refine S.enter tb Tryz.func86 rfl Tryz.ntmps86 rfl ?_ hO hm
 refine cl c_144 rfl (fun r2 w hr2 hO => zo9 x_l x_sep r2 _ (hG.own hF hO) (hO.sees (i := 0) rfl) hc0 hr2) fun r2 hr2 => ?_
 exact rt Tryz.results86 rfl

theorem zoz (x_h : api_Host) (R : Str × Int) (w0 : World) (hG : zaH w0) (hm : zjC x_h = some R) :
    Calls Tryz.prog 79 #[.agg #[int x_h.Kind, str x_h.Name, int x_h.Port]] w0 (Ret w0 (fun R => .tuple #[str R.1, int R.2]) R) := by
 rw [zjC] at hm
 have hF : zs [] := ze
 have hO : Dk.Own w0 [] w0 [] := Dk.Own.refl w0
 refine S.enter tb Tryz.func79 rfl Tryz.ntmps79 rfl ?_ hO hm
 refine bo rfl fun b1 => ?_
 refine ld 0 rfl rfl ?_
 refine rw_ rfl fun a w hf hO hm => ?_
 refine zn (vs := [(0, str x_h.Name)]) (cs := [str x_h.Name]) (e := 9) (sz := 1) hf rfl rfl (fun w => by kernel_rfl) rfl rfl hO fun a b3 w hf hO => ?_
 refine S.op tb ?_ hf hO hm
 refine jv 0 [1] [1] (fun J E L => ∃ (p8 : Option Addr) (c9 : Nat) (l10 : List Str), J ((4, .slice p8 l10.length c9) :: E) (.row (.slice p8 l10.length c9) 9 1 l10.length (cells zg l10) :: L) (zfw x_h l10)) rfl ?_ ?_
 refine ld 1 rfl rfl ?_
 refine br rfl (fun hc6 => ?_) fun hc6 => ?_
 refine ld 1 rfl rfl ?_
 refine rw_ rfl fun a w hf hO hm => ?_
 refine zn (vs := [(0, str [91]), (1, str x_h.Name), (2, str [93])]) (cs := [str [91], str x_h.Name, str [93]]) (e := 9) (sz := 1) hf rfl rfl (fun w => by kernel_rfl) rfl rfl hO fun a b7 w hf hO => ?_
 refine S.op tb ?_ hf hO hm
 exact ec [0, 2] rfl rfl rfl fun _ _ j => ⟨some ⟨b7, 0, none⟩, 3, ([[91], x_h.Name, [93]] : List Str), j rfl⟩
 exact en rfl fun _ _ j => ⟨some ⟨b3, 0, none⟩, 1, ([x_h.Name] : List Str), j rfl⟩
 rintro a w ⟨p8, c9, l10, hf, hO, hm⟩
 rw [zfw] at hm
 refine S.co tb ?_ hf hO hm
 refine jv 0 [1] [1] (fun J E L => ∃ (p18 : Option Addr) (c19 : Nat) (l20 : List Str), J ((4, .slice p18 l20.length c19) :: E) (.row (.slice p18 l20.length c19) 9 1 l20.length (cells zg l20) :: L) (zfv x_h l20)) rfl ?_ ?_
 refine ld 1 rfl rfl ?_
 refine br rfl (fun hc12 => ?_) fun hc12 => ?_
 refine ld 1 rfl rfl ?_
 refine cl c_21 rfl (fun r13 w hr13 hO => ziM x_h.Port r13 _ (hG.own hF hO) hr13) fun r13 hr13 => ?_
 refine rw_ rfl fun a w hf hO hm => ?_
 refine zn (vs := [(0, str [58]), (1, str r13)]) (cs := [str [58], str r13]) (e := 9) (sz := 1) hf rfl rfl (fun w => by kernel_rfl) rfl rfl hO fun a b14 w hf hO => ?_
 refine S.op tb ?_ hf hO hm
 refine rw_ rfl fun a w hf hO hm => ?_
 obtain ⟨hg17, hm⟩ := og hm
 refine zZ zi5 (enc := zg) (xs := l10) (ys := ([[58], r13] : List Str)) (i := 1) (fun _ => rfl) rfl (hO.rowSees (i := 0) rfl) (by simp [cells, zg, Value.oneCell']) hg17 hf rfl rfl rfl hO fun a p15 c16 w hf hO => ?_
 refine S.op tb ?_ hf hO hm
 exact ec [1, 2] rfl rfl rfl fun _ _ j => ⟨p15, c16, l10 ++ ([[58], r13] : List Str), j rfl⟩
 exact en rfl fun _ _ j => ⟨p8, c9, l10, j rfl⟩
 rintro a w ⟨p18, c19, l20, hf, hO, hm⟩
 rw [zfv] at hm
 refine S.co tb ?_ hf hO hm
 refine cl c_86 rfl (fun r21 w hr21 hO => zgI [] l20 r21 _ (hG.own hF hO).1 (hO.rowSees (i := 0) rfl) (hO.rowCap (i := 0) rfl) hr21) fun r21 hr21 => ?_
 refine cl c_76 rfl (fun r23 w hr23 hO => zfj r21 r23 _ (hG.own hF hO) hr23) fun r23 hr23 => ?_
 refine al zka rfl fun b24 => ?_
 refine st 0 rfl rfl ?_
 refine jv 1 [5] [0, 1, 2] (fun J E L => ∃ (t27 : Bool), J ((39, .bool t27) :: E) (L) (zfu r21 t27)) rfl ?_ ?_
 refine br rfl (fun hc26 => ?_) fun hc26 => ?_
 exact en rfl fun _ _ j => ⟨true, j rfl⟩
 refine ld 0 rfl rfl ?_
 refine ld 2 rfl rfl ?_
 refine vl rfl rfl (fun a w hf hO => zkY (by kernel_rfl) (eq_87 r23.1 x_h) hf rfl rfl) ?_
 exact en rfl fun _ _ j => ⟨!(r23.1 == x_h), j rfl⟩
 rintro a w ⟨t27, hf, hO, hm⟩
 rw [zfu] at hm
 refine S.co tb ?_ hf hO hm
 refine br rfl (fun hc28 => ?_) fun hc28 => ?_
 exact rt Tryz.results79 rfl
 exact rt Tryz.results79 rfl

theorem zjx (x_b : bag_Bag) (x_l : List api_Field) (R : bag_Bag) (w0 : World) (hG : zr w0) {x_b_b0 : Nat} {x_b_p1 : Option Addr} {x_b_c1 : Nat} {x_l_p2 : Option Addr} {x_l_c2 : Nat} {F : List Nat} (hF : zs F) (hO : Dk.Own w0 F w0 [.blk x_b_b0 [.slice x_b_p1 x_b.f_l.length x_b_c1] 107, .row (.slice x_b_p1 x_b.f_l.length x_b_c1) 54 2 x_b.f_l.length (cells za x_b.f_l), .shr x_l_p2 (cells za x_l)]) (hcw0 : x_l.length ≤ x_l_c2) (hm : zgq x_b x_l = some R) :
    Calls Tryz.prog 82 #[ptr x_b_b0 0, .slice x_l_p2 x_l.length x_l_c2] w0 fun e w' => ∃ (p0 : Option Addr) (c0 : Nat), e = .returned (.tuple #[]) ∧ Dk.Own w0 F w' [.blk x_b_b0 [.slice p0 R.f_l.length c0] 107, .row (.slice p0 R.f_l.length c0) 54 2 R.f_l.length (cells za R.f_l)] := by
 rw [zgq] at hm
 refine S.enter tb Tryz.func82 rfl Tryz.ntmps82 rfl ?_ hO hm
 refine vl rfl rfl (fun a w hf hO => zqR Tryz.underlying63 hf rfl rfl) ?_
 refine kn (b' := true) rfl rfl ?_
 refine ld 0 rfl rfl ?_
 refine rw_ rfl fun a w hf hO hm => ?_
 obtain ⟨hg4, hm⟩ := og hm
 refine zhm zpN (enc := za) (xs := x_b.f_l) (ys := x_l) (i := 1) (fun _ => rfl) rfl (hO.sees (i := 2) rfl) (by simp [za, Value.oneCell']) hg4 hf rfl rfl rfl hO fun a p2 c3 w hf hO => ?_
 refine S.op tb ?_ hf hO hm
 refine st 0 rfl rfl ?_
 refine rn_ rfl fun a w hf hO hm => ?_
 obtain rfl := Option.some.inj hm
 exact ziH Tryz.results82 hf .nil ⟨p2, c3, rfl, (hO.sub (.cons_cons _ (.cons_cons _ (.cons _ .slnil))))⟩

theorem zoA (x_x : api_Field) (x_k0 : Str) (R : Bool) (w0 : World) (hG : zr w0) {x_k0_b0 : Nat} (hs0 : zD w0 (some ⟨x_k0_b0, 0, none⟩) [str x_k0]) (hm : zjD x_x x_k0 = some R) :
    Calls Tryz.prog 134 #[.agg #[str x_x.Name, str x_x.Value], ptr x_k0_b0 0] w0 (Ret w0 (fun R => .bool R) R) := by
 rw [zjD] at hm
 have hF : zs [] := ze
 have hO : Dk.Own w0 [] w0 [] := Dk.Own.refl w0
 have hO := hO.addShr hs0 (by simp [Res.shared])
 refine S.enter tb Tryz.func134 rfl Tryz.ntmps134 rfl ?_ hO hm
 refine bo rfl fun b1 => ?_
 refine ld 0 rfl rfl ?_
 refine ld 1 rfl rfl ?_
 refine cl c_72 rfl (fun r3 w hr3 hO => zfh x_x.Name x_k0 r3 _ (hG.own hF hO) hr3) fun r3 hr3 => ?_
 exact rt Tryz.results134 rfl

theorem zdv (x_s : List api_Field) (x_f_k0 : Str) (R : Int) (w0 : World) (hG : zr w0) {x_s_p0 : Option Addr} {x_s_c0 : Nat} (hs0 : zD w0 x_s_p0 (cells za x_s)) (hc0 : x_s.length ≤ x_s_c0) {x_f_k0_b1 : Nat} (hs1 : zD w0 (some ⟨x_f_k0_b1, 0, none⟩) [str x_f_k0]) (hm : zap x_s x_f_k0 = some R) :
    Calls Tryz.prog 133 #[.slice x_s_p0 x_s.length x_s_c0, .func (.func 134) #[] #[ptr x_f_k0_b1 0]] w0 (Ret w0 (fun R => int R) R) := by
 rw [zap] at hm
 have hF : zs [] := ze
 have hO : Dk.Own w0 [] w0 [] := Dk.Own.refl w0
 have hO := hO.addShr hs0 (by simp [Res.shared])
 have hO := hO.addShr hs1 (by simp [Res.shared])
 refine S.enter tb Tryz.func133 rfl Tryz.ntmps133 rfl ?_ hO hm
 refine lv [0, 1, 7] [0, 1] (fun J E L k => ∃ (i3 : Int), J ((8, int i3) :: E) (L) (zI x_s x_f_k0 k i3)) rfl (fun _ _ j => ⟨0, j rfl⟩) ?_
 rintro n1 a w ⟨i3, hf, hO, hm⟩
 obtain _ | n1 := n1
 rw [zI] at hm
 cases hm
 rw [zI] at hm
 refine S.co tb ?_ hf hO hm
 refine br rfl (fun hc5 => ?_) fun hc5 => ?_
 refine rw_ rfl fun a w hf hO hm => ?_
 obtain ⟨x8, hx8, hm⟩ := ob hm
 obtain ⟨b9, o10, hix8, hSx8⟩ := zaD (enc := za) (sz := 2) (xs := x_s) 26 Tryz.underlying26 zbs (by decide) (fun _ => rfl) (hO.sees (i := 1) rfl) hx8
 refine zR (zi hix8 hf rfl rfl) rfl hf rfl rfl fun a hf => ?_
 refine S.op tb ?_ hf hO hm
 refine vl rfl rfl (fun a w hf hO => zq (o := 0) (vs := [str x8.Name, str x8.Value]) zig zbs (hSx8 _ (hO.sees (i := 1) rfl)) rfl rfl hf rfl) ?_
 refine rw_ rfl fun a w hf hO hm => ?_
 obtain ⟨r11, hr11, hm⟩ := ob hm
 refine oc (zjM (first := #[]) (captured := #[ptr x_f_k0_b1 0]) c_134 hf rfl (vs := [.agg #[str x8.Name, str x8.Value]]) rfl) hf rfl (zoN (cs := [ptr x_f_k0_b1 0]) (zoA x8 x_f_k0 r11 _ (hG.own hF hO) (hO.sees (i := 0) rfl) hr11)) hO fun a w' hf hO => ?_
 refine S.op tb ?_ hf hO hm
 refine br rfl (fun hc13 => ?_) fun hc13 => ?_
 exact rt Tryz.results133 rfl
 refine bi rfl fun i16 hi16 => ?_
 exact en rfl fun _ _ j => ⟨_, Nat.lt_succ_self _, i16, j rfl⟩
 exact rt Tryz.results133 rfl

theorem zqu (x_b : bag_Bag) (x_name : Str) (x_value : Str) (R : bag_Bag) (w0 : World) (hG : zr w0) {x_b_b0 : Nat} {x_b_p1 : Option Addr} {x_b_c1 : Nat} {F : List Nat} (hF : zs F) (hO : Dk.Own w0 F w0 [.blk x_b_b0 [.slice x_b_p1 x_b.f_l.length x_b_c1] 107, .row (.slice x_b_p1 x_b.f_l.length x_b_c1) 54 2 x_b.f_l.length (cells za x_b.f_l)]) (hm : zlm x_b x_name x_value = some R) :
    Calls Tryz.prog 80 #[ptr x_b_b0 0, str x_name, str x_value] w0 fun e w' => ∃ (p0 : Option Addr) (c0 : Nat), e = .returned (.tuple #[]) ∧ Dk.Own w0 F w' [.blk x_b_b0 [.slice p0 R.f_l.length c0] 107, .row (.slice p0 R.f_l.length c0) 54 2 R.f_l.length (cells za R.f_l)] := by
 rw [zlm] at hm
 refine S.enter tb Tryz.func80 rfl Tryz.ntmps80 rfl ?_ hO hm
 refine bo rfl fun b1 => ?_
 refine vl rfl rfl (fun a w hf hO => zhi Tryz.underlying63 hf rfl rfl) ?_
 refine kn (b' := false) rfl rfl ?_
 refine ld 0 rfl rfl ?_
 refine vl rfl rfl (fun a w hf hO => zt (vs := [(0, str x_name), (1, str x_value)]) (v := .agg #[str x_name, str x_value]) hf rfl (by kernel_rfl)) ?_
 refine al zs4 rfl fun b5 => ?_
 refine st 0 rfl rfl ?_
 refine ld 2 rfl rfl ?_
 refine vl rfl rfl (fun a w hf hO => zkZ hf (vs := [ptr b1 0]) rfl) ?_
 refine cl c_133 rfl (fun r7 w hr7 hO => zdv x_b.f_l x_name r7 _ (hG.own hF hO) (hO.rowSees (i := 3) rfl) (hO.rowCap (i := 3) rfl) (hO.blkSees (i := 1) rfl) hr7) fun r7 hr7 => ?_
 refine br rfl (fun hc10 => ?_) fun hc10 => ?_
 refine ld 0 rfl rfl ?_
 refine rw_ rfl fun a w hf hO hm => ?_
 refine zn (vs := [(0, .agg #[str x_name, str x_value])]) (cs := [str x_name, str x_value]) (e := 54) (sz := 2) hf rfl rfl (fun w => by kernel_rfl) rfl rfl hO fun a b11 w hf hO => ?_
 refine S.op tb ?_ hf hO hm
 refine rw_ rfl fun a w hf hO hm => ?_
 obtain ⟨r12, hr12, hm⟩ := ob hm
 have hch15 := (show Dk.Own w0 F _ ([.blk x_b_b0 [.slice x_b_p1 x_b.f_l.length x_b_c1] 107, .row (.slice x_b_p1 x_b.f_l.length x_b_c1) 54 2 x_b.f_l.length (cells za x_b.f_l)] ++ [.row (.slice (some ⟨b11, 0, none⟩) (([(⟨x_name, x_value⟩ : api_Field)]).length) 1) 54 2 (([(⟨x_name, x_value⟩ : api_Field)]).length) (cells za ([(⟨x_name, x_value⟩ : api_Field)])), .blk b5 [str x_name, str x_value] 54, .blk b1 [str x_name] 9]) from hO.choose [3, 4, 0, 1, 2] rfl)
 have hfar15 := Dk.Own.far hch15 rfl hF hG.size
 have hlend15 := hch15.lend (S := [.shr (some ⟨b11, 0, none⟩) (cells za ([(⟨x_name, x_value⟩ : api_Field)]))]) rfl ⟨zlE (hO.rowSees (i := 0) rfl) (List.mem_of_getElem? (i := 0) rfl), trivial⟩
 have hcl15 := zjx x_b ([(⟨x_name, x_value⟩ : api_Field)]) r12 _ (hG.own hF hO) hfar15 hlend15 (hO.rowCap (i := 0) rfl) hr12
 refine zo (zj c_82 hf (vs := [ptr x_b_b0 0, .slice (some ⟨b11, 0, none⟩) (([(⟨x_name, x_value⟩ : api_Field)]).length) 1]) rfl) rfl hf rfl rfl (hcl15) ?_
 rintro e w' ⟨p13, c14, he, hO'⟩
 refine ⟨_, he, fun a hf => ?_⟩
 have hO := hch15.back rfl hO' rfl
 refine S.op tb ?_ hf hO hm
 refine re_ rfl fun a w hf hO hm => ?_
 obtain rfl := Option.some.inj hm
 exact zh Tryz.results80 hf .nil ⟨p13, c14, rfl, (hO.sub (.cons_cons _ (.cons_cons _ (.cons _ (.cons _ (.cons _ .slnil))))))⟩
 refine ld 1 rfl rfl ?_
 refine rw_ rfl fun a w hf hO hm => ?_
 refine zn (vs := [(0, str x_name)]) (cs := [str x_name]) (e := 9) (sz := 1) hf rfl rfl (fun w => by kernel_rfl) rfl rfl hO fun a b18 w hf hO => ?_
 refine S.op tb ?_ hf hO hm
 refine rw_ rfl fun a w hf hO hm => ?_
 obtain ⟨r19, hr19, hm⟩ := ob hm
 have hch22 := (show Dk.Own w0 F _ ([.blk x_b_b0 [.slice x_b_p1 x_b.f_l.length x_b_c1] 107, .row (.slice x_b_p1 x_b.f_l.length x_b_c1) 54 2 x_b.f_l.length (cells za x_b.f_l)] ++ [.row (.slice (some ⟨b18, 0, none⟩) (([x_name] : List Str).length) 1) 9 1 (([x_name] : List Str).length) (cells zg ([x_name] : List Str)), .blk b5 [str x_name, str x_value] 54, .blk b1 [str x_name] 9]) from hO.choose [3, 4, 0, 1, 2] rfl)
 have hfar22 := Dk.Own.far hch22 rfl hF hG.size
 have hlend22 := hch22.lend (S := [.shr (some ⟨b18, 0, none⟩) (cells zg ([x_name] : List Str))]) rfl ⟨zlE (hO.rowSees (i := 0) rfl) (List.mem_of_getElem? (i := 0) rfl), trivial⟩
 have hcl22 := zjR x_b ([x_name] : List Str) r19 _ (hG.own hF hO) hfar22 hlend22 (hO.rowCap (i := 0) rfl) hr19
 refine zo (zj c_73 hf (vs := [ptr x_b_b0 0, .slice (some ⟨b18, 0, none⟩) (([x_name] : List Str).length) 1]) rfl) rfl hf rfl rfl (hcl22) ?_
 rintro e w' ⟨p20, c21, he, hO'⟩
 refine ⟨_, he, fun a hf => ?_⟩
 have hO := hch22.back rfl hO' rfl
 refine S.op tb ?_ hf hO hm
 refine rc_ rfl fun a w hf hO hm => ?_
 obtain ⟨r25, hr25, hm⟩ := ob hm
 refine zav (S := Nat × Option Addr × Nat) (E0 := [(0, ptr x_b_b0 0), (6, ptr b5 0), (7, int r7)]) (by kernel_rfl) (fun k σ w => match k with | 0 => Dk.Own w0 F w [.blk x_b_b0 [.slice p20 r19.2.f_l.length c21] 107, .row (.slice p20 r19.2.f_l.length c21) 54 2 r19.2.f_l.length (cells za r19.2.f_l), .row (.slice (some ⟨b18, 0, none⟩) (([x_name] : List Str).length) 1) 9 1 (([x_name] : List Str).length) (cells zg ([x_name] : List Str)), .blk b5 [str x_name, str x_value] 54, .blk b1 [str x_name] 9] | 1 => Dk.Own w0 F w [.row (.slice (some ⟨(σ.1), 0, none⟩) (([(⟨x_name, x_value⟩ : api_Field)]).length) 1) 54 2 (([(⟨x_name, x_value⟩ : api_Field)]).length) (cells za ([(⟨x_name, x_value⟩ : api_Field)])), .blk x_b_b0 [.slice p20 r19.2.f_l.length c21] 107, .row (.slice p20 r19.2.f_l.length c21) 54 2 r19.2.f_l.length (cells za r19.2.f_l), .row (.slice (some ⟨b18, 0, none⟩) (([x_name] : List Str).length) 1) 9 1 (([x_name] : List Str).length) (cells zg ([x_name] : List Str)), .blk b5 [str x_name, str x_value] 54, .blk b1 [str x_name] 9] | 2 => Dk.Own w0 F w [.row (.slice (σ.2.1) r25.length (σ.2.2)) 54 2 r25.length (cells za r25), .blk x_b_b0 [.slice p20 r19.2.f_l.length c21] 107, .row (.slice (some ⟨b18, 0, none⟩) (([x_name] : List Str).length) 1) 9 1 (([x_name] : List Str).length) (cells zg ([x_name] : List Str)), .blk b5 [str x_name, str x_value] 54, .blk b1 [str x_name] 9] | _ => Dk.Own w0 F w [.row (.slice (σ.2.1) r25.length (σ.2.2)) 54 2 r25.length (cells za r25), .blk x_b_b0 [.slice (σ.2.1) r25.length (σ.2.2)] 107, .row (.slice (some ⟨b18, 0, none⟩) (([x_name] : List Str).length) 1) 9 1 (([x_name] : List Str).length) (cells zg ([x_name] : List Str)), .blk b5 [str x_name, str x_value] 54, .blk b1 [str x_name] 9]) (fun σ => [⟨[(0, ptr x_b_b0 0)], some (29, ptr x_b_b0 0)⟩, ⟨[(0, ptr x_b_b0 0)], some (30, ptr x_b_b0 0)⟩, ⟨[(30, ptr x_b_b0 0)], some (31, ptr x_b_b0 0)⟩, ⟨[(31, ptr x_b_b0 0)], some (32, ptr x_b_b0 0)⟩, ⟨[(32, ptr x_b_b0 0)], some (33, .slice p20 r19.2.f_l.length c21)⟩, ⟨[(7, int r7)], some (34, int r7)⟩, ⟨[(6, ptr b5 0)], some (35, .agg #[str x_name, str x_value])⟩, ⟨[(35, .agg #[str x_name, str x_value])], some (36, .slice (some ⟨(σ.1), 0, none⟩) (([(⟨x_name, x_value⟩ : api_Field)]).length) 1)⟩, ⟨[(33, .slice p20 r19.2.f_l.length c21), (34, int r7), (36, .slice (some ⟨(σ.1), 0, none⟩) (([(⟨x_name, x_value⟩ : api_Field)]).length) 1)], some (37, .slice (σ.2.1) r25.length (σ.2.2))⟩, ⟨[(29, ptr x_b_b0 0)], some (38, ptr x_b_b0 0)⟩, ⟨[(38, ptr x_b_b0 0)], some (39, ptr x_b_b0 0)⟩, ⟨[(37, .slice (σ.2.1) r25.length (σ.2.2)), (39, ptr x_b_b0 0)], none⟩]) (0, none, 0) [7, 8, 11] rfl (fun _ => rfl) (fun _ => rfl) (fun _ => rfl) rfl rfl (by decide) rfl hO.drew (hf.cons rfl (hf.cons rfl (hf.cons rfl hf.nil))) (fun σ => ⟨⟨rfl, trivial⟩, ⟨rfl, trivial⟩, ⟨rfl, trivial⟩, ⟨rfl, trivial⟩, ⟨rfl, trivial⟩, ⟨rfl, trivial⟩, ⟨rfl, trivial⟩, ⟨rfl, trivial⟩, ⟨rfl, rfl, rfl, trivial⟩, ⟨rfl, trivial⟩, ⟨rfl, trivial⟩, ⟨rfl, rfl, trivial⟩, trivial⟩) ⟨zd rfl (fun σ => rfl) (fun σ => rfl) (fun σ a w k _ _ _ _ hf => zp hf rfl), zd rfl (fun σ => rfl) (fun σ => rfl) (fun σ a w k _ _ _ _ hf => zp hf rfl), zd rfl (fun σ => rfl) (fun σ => rfl) (fun σ a w k _ _ _ _ hf => zaz hf rfl), zd rfl (fun σ => rfl) (fun σ => rfl) (fun σ a w k _ _ _ _ hf => zz zlB hf rfl), zd rfl (fun σ => rfl) (fun σ => rfl) (fun σ a w k hk hlo hup hst hf => match k, hk, hlo, hup, hst, hf with | 0, _, _, _, hst, hf => have hO : Dk.Own w0 F w [.blk x_b_b0 [.slice p20 r19.2.f_l.length c21] 107, .row (.slice p20 r19.2.f_l.length c21) 54 2 r19.2.f_l.length (cells za r19.2.f_l), .row (.slice (some ⟨b18, 0, none⟩) (([x_name] : List Str).length) 1) 9 1 (([x_name] : List Str).length) (cells zg ([x_name] : List Str)), .blk b5 [str x_name, str x_value] 54, .blk b1 [str x_name] 9] := hst; zf (o := 0) zcE (hO.blkSees (i := 0) rfl) rfl hf rfl | 1, _, _, _, hst, hf => have hO : Dk.Own w0 F w [.row (.slice (some ⟨(σ.1), 0, none⟩) (([(⟨x_name, x_value⟩ : api_Field)]).length) 1) 54 2 (([(⟨x_name, x_value⟩ : api_Field)]).length) (cells za ([(⟨x_name, x_value⟩ : api_Field)])), .blk x_b_b0 [.slice p20 r19.2.f_l.length c21] 107, .row (.slice p20 r19.2.f_l.length c21) 54 2 r19.2.f_l.length (cells za r19.2.f_l), .row (.slice (some ⟨b18, 0, none⟩) (([x_name] : List Str).length) 1) 9 1 (([x_name] : List Str).length) (cells zg ([x_name] : List Str)), .blk b5 [str x_name, str x_value] 54, .blk b1 [str x_name] 9] := hst; zf (o := 0) zcE (hO.blkSees (i := 1) rfl) rfl hf rfl | 2, _, _, _, hst, hf => have hO : Dk.Own w0 F w [.row (.slice (σ.2.1) r25.length (σ.2.2)) 54 2 r25.length (cells za r25), .blk x_b_b0 [.slice p20 r19.2.f_l.length c21] 107, .row (.slice (some ⟨b18, 0, none⟩) (([x_name] : List Str).length) 1) 9 1 (([x_name] : List Str).length) (cells zg ([x_name] : List Str)), .blk b5 [str x_name, str x_value] 54, .blk b1 [str x_name] 9] := hst; zf (o := 0) zcE (hO.blkSees (i := 1) rfl) rfl hf rfl | 3, _, _, hup, _, _ => absurd (hup 1 (by decide) (by kernel_rfl)) (by decide) | k + 4, hk, _, _, _, _ => absurd hk (by simp)), zd rfl (fun σ => rfl) (fun σ => rfl) (fun σ a w k _ _ _ _ hf => zp hf rfl), zd rfl (fun σ => rfl) (fun σ => rfl) (fun σ a w k hk hlo hup hst hf => match k, hk, hlo, hup, hst, hf with | 0, _, _, _, hst, hf => have hO : Dk.Own w0 F w [.blk x_b_b0 [.slice p20 r19.2.f_l.length c21] 107, .row (.slice p20 r19.2.f_l.length c21) 54 2 r19.2.f_l.length (cells za r19.2.f_l), .row (.slice (some ⟨b18, 0, none⟩) (([x_name] : List Str).length) 1) 9 1 (([x_name] : List Str).length) (cells zg ([x_name] : List Str)), .blk b5 [str x_name, str x_value] 54, .blk b1 [str x_name] 9] := hst; zq (o := 0) (vs := [str x_name, str x_value]) zig zbs (hO.blkSees (i := 3) rfl) rfl rfl hf rfl | 1, _, _, _, hst, hf => have hO : Dk.Own w0 F w [.row (.slice (some ⟨(σ.1), 0, none⟩) (([(⟨x_name, x_value⟩ : api_Field)]).length) 1) 54 2 (([(⟨x_name, x_value⟩ : api_Field)]).length) (cells za ([(⟨x_name, x_value⟩ : api_Field)])), .blk x_b_b0 [.slice p20 r19.2.f_l.length c21] 107, .row (.slice p20 r19.2.f_l.length c21) 54 2 r19.2.f_l.length (cells za r19.2.f_l), .row (.slice (some ⟨b18, 0, none⟩) (([x_name] : List Str).length) 1) 9 1 (([x_name] : List Str).length) (cells zg ([x_name] : List Str)), .blk b5 [str x_name, str x_value] 54, .blk b1 [str x_name] 9] := hst; zq (o := 0) (vs := [str x_name, str x_value]) zig zbs (hO.blkSees (i := 4) rfl) rfl rfl hf rfl | 2, _, _, _, hst, hf => have hO : Dk.Own w0 F w [.row (.slice (σ.2.1) r25.length (σ.2.2)) 54 2 r25.length (cells za r25), .blk x_b_b0 [.slice p20 r19.2.f_l.length c21] 107, .row (.slice (some ⟨b18, 0, none⟩) (([x_name] : List Str).length) 1) 9 1 (([x_name] : List Str).length) (cells zg ([x_name] : List Str)), .blk b5 [str x_name, str x_value] 54, .blk b1 [str x_name] 9] := hst; zq (o := 0) (vs := [str x_name, str x_value]) zig zbs (hO.blkSees (i := 3) rfl) rfl rfl hf rfl | 3, _, _, _, hst, hf => have hO : Dk.Own w0 F w [.row (.slice (σ.2.1) r25.length (σ.2.2)) 54 2 r25.length (cells za r25), .blk x_b_b0 [.slice (σ.2.1) r25.length (σ.2.2)] 107, .row (.slice (some ⟨b18, 0, none⟩) (([x_name] : List Str).length) 1) 9 1 (([x_name] : List Str).length) (cells zg ([x_name] : List Str)), .blk b5 [str x_name, str x_value] 54, .blk b1 [str x_name] 9] := hst; zq (o := 0) (vs := [str x_name, str x_value]) zig zbs (hO.blkSees (i := 3) rfl) rfl rfl hf rfl | k + 4, hk, _, _, _, _ => absurd hk (by simp)), zfC rfl (fun σ => rfl) (fun σ => rfl) rfl (fun σ w (hO : Dk.Own w0 F w [.blk x_b_b0 [.slice p20 r19.2.f_l.length c21] 107, .row (.slice p20 r19.2.f_l.length c21) 54 2 r19.2.f_l.length (cells za r19.2.f_l), .row (.slice (some ⟨b18, 0, none⟩) (([x_name] : List Str).length) 1) 9 1 (([x_name] : List Str).length) (cells zg ([x_name] : List Str)), .blk b5 [str x_name, str x_value] 54, .blk b1 [str x_name] 9]) => by obtain ⟨b24, w', hO', hr⟩ := zbN (E := [(35, .agg #[str x_name, str x_value])]) (parts := #[(0, (.tmp 35))]) (t' := 26) (n := 1) (vs := [(0, .agg #[str x_name, str x_value])]) (cs := [str x_name, str x_value]) (e := 54) (sz := 2) (fun w => by kernel_rfl) rfl rfl hO rfl; exact ⟨(b24, (σ.2.1), (σ.2.2)), w', hO', ⟨.inr rfl, .inr rfl, .inr rfl, .inr rfl, .inr rfl, .inr rfl, .inr rfl, .inl rfl, .inl rfl, .inr rfl, .inr rfl, .inr rfl, trivial⟩, hr⟩), zaR rfl (fun σ => rfl) (fun σ => rfl) rfl (fun σ a w (_ : _) hf => zj c_135 hf (vs := [.slice p20 r19.2.f_l.length c21, int r7, .slice (some ⟨(σ.1), 0, none⟩) (([(⟨x_name, x_value⟩ : api_Field)]).length) 1]) rfl) (fun σ w (hO : Dk.Own w0 F w [.row (.slice (some ⟨(σ.1), 0, none⟩) (([(⟨x_name, x_value⟩ : api_Field)]).length) 1) 54 2 (([(⟨x_name, x_value⟩ : api_Field)]).length) (cells za ([(⟨x_name, x_value⟩ : api_Field)])), .blk x_b_b0 [.slice p20 r19.2.f_l.length c21] 107, .row (.slice p20 r19.2.f_l.length c21) 54 2 r19.2.f_l.length (cells za r19.2.f_l), .row (.slice (some ⟨b18, 0, none⟩) (([x_name] : List Str).length) 1) 9 1 (([x_name] : List Str).length) (cells zg ([x_name] : List Str)), .blk b5 [str x_name, str x_value] 54, .blk b1 [str x_name] 9]) => (zlY r19.2.f_l r7 ([(⟨x_name, x_value⟩ : api_Field)]) r25 _ (hG.own hF hO) (Dk.Own.far (show Dk.Own w0 F _ ([.row (.slice p20 r19.2.f_l.length c21) 54 2 r19.2.f_l.length (cells za r19.2.f_l), .row (.slice (some ⟨(σ.1), 0, none⟩) (([(⟨x_name, x_value⟩ : api_Field)]).length) 1) 54 2 (([(⟨x_name, x_value⟩ : api_Field)]).length) (cells za ([(⟨x_name, x_value⟩ : api_Field)]))] ++ [.blk x_b_b0 [.slice p20 r19.2.f_l.length c21] 107, .row (.slice (some ⟨b18, 0, none⟩) (([x_name] : List Str).length) 1) 9 1 (([x_name] : List Str).length) (cells zg ([x_name] : List Str)), .blk b5 [str x_name, str x_value] 54, .blk b1 [str x_name] 9]) from hO.choose [2, 0, 1, 3, 4, 5] rfl) rfl hF hG.size) ((show Dk.Own w0 F _ ([.row (.slice p20 r19.2.f_l.length c21) 54 2 r19.2.f_l.length (cells za r19.2.f_l), .row (.slice (some ⟨(σ.1), 0, none⟩) (([(⟨x_name, x_value⟩ : api_Field)]).length) 1) 54 2 (([(⟨x_name, x_value⟩ : api_Field)]).length) (cells za ([(⟨x_name, x_value⟩ : api_Field)]))] ++ [.blk x_b_b0 [.slice p20 r19.2.f_l.length c21] 107, .row (.slice (some ⟨b18, 0, none⟩) (([x_name] : List Str).length) 1) 9 1 (([x_name] : List Str).length) (cells zg ([x_name] : List Str)), .blk b5 [str x_name, str x_value] 54, .blk b1 [str x_name] 9]) from hO.choose [2, 0, 1, 3, 4, 5] rfl).lend (S := []) rfl trivial) hr25).mono fun e w' h => by obtain ⟨p26, c27, he, hO'⟩ := h; exact ⟨((σ.1), p26, c27), he, (show Dk.Own w0 F _ ([.row (.slice p20 r19.2.f_l.length c21) 54 2 r19.2.f_l.length (cells za r19.2.f_l), .row (.slice (some ⟨(σ.1), 0, none⟩) (([(⟨x_name, x_value⟩ : api_Field)]).length) 1) 54 2 (([(⟨x_name, x_value⟩ : api_Field)]).length) (cells za ([(⟨x_name, x_value⟩ : api_Field)]))] ++ [.blk x_b_b0 [.slice p20 r19.2.f_l.length c21] 107, .row (.slice (some ⟨b18, 0, none⟩) (([x_name] : List Str).length) 1) 9 1 (([x_name] : List Str).length) (cells zg ([x_name] : List Str)), .blk b5 [str x_name, str x_value] 54, .blk b1 [str x_name] 9]) from hO.choose [2, 0, 1, 3, 4, 5] rfl).back rfl hO' rfl, .inr rfl, .inr rfl, .inr rfl, .inr rfl, .inr rfl, .inr rfl, .inr rfl, .inr rfl, .inl rfl, .inr rfl, .inr rfl, .inl rfl, trivial⟩), zd rfl (fun σ => rfl) (fun σ => rfl) (fun σ a w k _ _ _ _ hf => zaz hf rfl), zd rfl (fun σ => rfl) (fun σ => rfl) (fun σ a w k _ _ _ _ hf => zz zlB hf rfl), zbC rfl (fun σ => rfl) (fun σ => rfl) rfl (fun σ w (hO : Dk.Own w0 F w [.row (.slice (σ.2.1) r25.length (σ.2.2)) 54 2 r25.length (cells za r25), .blk x_b_b0 [.slice p20 r19.2.f_l.length c21] 107, .row (.slice (some ⟨b18, 0, none⟩) (([x_name] : List Str).length) 1) 9 1 (([x_name] : List Str).length) (cells zg ([x_name] : List Str)), .blk b5 [str x_name, str x_value] 54, .blk b1 [str x_name] 9]) => by obtain ⟨w', hO', hr⟩ := zdA (x := (.tmp 39)) (y := (.tmp 37)) (E := [(37, .slice (σ.2.1) r25.length (σ.2.2)), (39, ptr x_b_b0 0)]) (i := 1) (o := 0) (v := .slice (σ.2.1) r25.length (σ.2.2)) zwq rfl rfl rfl rfl hO rfl rfl; exact ⟨((σ.1), (σ.2.1), (σ.2.2)), w', hO', ⟨.inr rfl, .inr rfl, .inr rfl, .inr rfl, .inr rfl, .inr rfl, .inr rfl, .inr rfl, .inr rfl, .inr rfl, .inr rfl, .inr rfl, trivial⟩, hr⟩), trivial⟩ ?_
 rintro ⟨b24, p26, c27⟩ a w hf hO
 have hO : Dk.Own w0 F w [.row (.slice p26 r25.length c27) 54 2 r25.length (cells za r25), .blk x_b_b0 [.slice p26 r25.length c27] 107, .row (.slice (some ⟨b18, 0, none⟩) (([x_name] : List Str).length) 1) 9 1 (([x_name] : List Str).length) (cells zg ([x_name] : List Str)), .blk b5 [str x_name, str x_value] 54, .blk b1 [str x_name] 9] := hO
 have hf : Fits 40 [] a := hf.nil
 refine S.no tb ?_ hf hO hm
 refine rn_ rfl fun a w hf hO hm => ?_
 obtain rfl := Option.some.inj hm
 exact ziH Tryz.results80 hf .nil ⟨p26, c27, rfl, (hO.choose [1, 0] rfl)⟩

end Go.Proofs
end
section
set_option linter.unusedVariables false
set_option maxHeartbeats 1000000
set_option linter.unusedSimpArgs false
set_option maxRecDepth 100000
namespace Go.Proofs
open Go.Dk Go.Dm Go.RowKit

theorem zqk (x_b : bag_Bag) (x_name : Str) (R : Str × Bool) (w0 : World) (hG : zr w0) {x_b_b0 : Nat} {x_b_p1 : Option Addr} {x_b_c1 : Nat} (hs0 : zD w0 (some ⟨x_b_b0, 0, none⟩) [.slice x_b_p1 x_b.f_l.length x_b_c1]) (hs1 : zD w0 x_b_p1 (cells za x_b.f_l)) (hc1 : x_b.f_l.length ≤ x_b_c1) (hm : zln x_b x_name = some R) :
    Calls Tryz.prog 81 #[ptr x_b_b0 0, str x_name] w0 (Ret w0 (fun R => .tuple #[str R.1, .bool R.2]) R) := by
 rw [zln] at hm
 have hF : zs [] := ze
 have hO : Dk.Own w0 [] w0 [] := Dk.Own.refl w0
 have hO := hO.addShr hs0 (by simp [Res.shared])
 have hO := hO.addShr hs1 (by simp [Res.shared])
 refine S.enter tb Tryz.func81 rfl Tryz.ntmps81 rfl ?_ hO hm
 refine rw_ rfl fun a w hf hO hm => ?_
 obtain ⟨r2, hr2, hm⟩ := ob hm
 refine zo (zj c_123 hf (vs := [ptr x_b_b0 0, str x_name]) rfl) rfl hf rfl rfl (zjI x_b x_name r2 _ (hG.own hF hO) (hO.sees (i := 1) rfl) (hO.sees (i := 0) rfl) hc1 hr2) ?_
 rintro e w' ⟨p3, c4, he, hO'⟩
 refine ⟨_, he, fun a hf => ?_⟩
 have hO := hO.call hO' (by simp [Res.shared])
 refine S.op tb ?_ hf hO hm
 refine br rfl (fun hc7 => ?_) fun hc7 => ?_
 exact rt Tryz.results81 rfl
 refine rw_ rfl fun a w hf hO hm => ?_
 obtain ⟨x10, hx10, hm⟩ := ob hm
 obtain ⟨b11, o12, hix10, hSx10, hAx10⟩ := zad (enc := zg) (sz := 1) (xs := r2) 42 Tryz.underlying42 zfB (by decide) (fun _ => rfl) hO (i := 0) rfl hx10
 refine zR (zi hix10 hf rfl rfl) rfl hf rfl rfl fun a hf => ?_
 refine S.op tb ?_ hf hO hm
 refine vl rfl rfl (fun a w hf hO => zf (o := 0) zX (hSx10 _ (hO.rowSees (i := 0) rfl)) rfl hf rfl) ?_
 exact rt Tryz.results81 rfl

theorem zjS (x_s : Str) (x_prefix : Str) (R : Str × Bool) (w0 : World) (hG : zr w0) (hm : stringslite_CutPrefix x_s x_prefix = some R) :
    Calls Tryz.prog 116 #[str x_s, str x_prefix] w0 (Ret w0 (fun R => .tuple #[str R.1, .bool R.2]) R) := by
 rw [stringslite_CutPrefix] at hm
 have hF : zs [] := ze
 have hO : Dk.Own w0 [] w0 [] := Dk.Own.refl w0
 refine S.enter tb Tryz.func116 rfl Tryz.ntmps116 rfl ?_ hO hm
 refine cl zwA rfl (fun r2 w hr2 hO => zdB x_s x_prefix r2 _ (hG.own hF hO) hr2) fun r2 hr2 => ?_
 refine br rfl (fun hc4 => ?_) fun hc4 => ?_
 exact rt Tryz.results116 rfl
 refine bi rfl fun s7 hs7 => ?_
 exact rt Tryz.results116 rfl

theorem zfD (x_s : Str) (x_prefix : Str) (R : Str × Bool) (w0 : World) (hG : zr w0) (hm : strings_CutPrefix x_s x_prefix = some R) :
    Calls Tryz.prog 69 #[str x_s, str x_prefix] w0 (Ret w0 (fun R => .tuple #[str R.1, .bool R.2]) R) := by
 rw [strings_CutPrefix] at hm
 have hF : zs [] := ze
 have hO : Dk.Own w0 [] w0 [] := Dk.Own.refl w0
 refine S.enter tb Tryz.func69 rfl Tryz.ntmps69 rfl ?_ hO hm
 refine cl c_116 rfl (fun r2 w hr2 hO => zjS x_s x_prefix r2 _ (hG.own hF hO) hr2) fun r2 hr2 => ?_
 exact rt Tryz.results69 rfl

theorem zgl (x_s : Str) (x_suffix : Str) (R : Bool) (w0 : World) (hG : zr w0) (hm : stringslite_HasSuffix x_s x_suffix = some R) :
    Calls Tryz.prog 172 #[str x_s, str x_suffix] w0 (Ret w0 (fun R => .bool R) R) := by
 rw [stringslite_HasSuffix] at hm
 have hF : zs [] := ze
 have hO : Dk.Own w0 [] w0 [] := Dk.Own.refl w0
 refine S.enter tb Tryz.func172 rfl Tryz.ntmps172 rfl ?_ hO hm
 refine jv 0 [] [] (fun J E L => ∃ (t5 : Bool), J ((4, .bool t5) :: E) (L) (zay t5)) rfl ?_ ?_
 refine br rfl (fun hc2 => ?_) fun hc2 => ?_
 refine bi rfl fun i3 hi3 => ?_
 refine bi rfl fun s4 hs4 => ?_
 exact en rfl fun _ _ j => ⟨s4 == x_suffix, j rfl⟩
 exact en rfl fun _ _ j => ⟨false, j rfl⟩
 rintro a w ⟨t5, hf, hO, hm⟩
 rw [zay] at hm
 refine S.co tb ?_ hf hO hm
 exact rt Tryz.results172 rfl

theorem zib (x_s : Str) (x_suffix : Str) (R : Bool) (w0 : World) (hG : zr w0) (hm : strings_HasSuffix x_s x_suffix = some R) :
    Calls Tryz.prog 186 #[str x_s, str x_suffix] w0 (Ret w0 (fun R => .bool R) R) := by
 rw [strings_HasSuffix] at hm
 have hF : zs [] := ze
 have hO : Dk.Own w0 [] w0 [] := Dk.Own.refl w0
 refine S.enter tb Tryz.func186 rfl Tryz.ntmps186 rfl ?_ hO hm
 refine cl c_172 rfl (fun r2 w hr2 hO => zgl x_s x_suffix r2 _ (hG.own hF hO) hr2) fun r2 hr2 => ?_
 exact rt Tryz.results186 rfl

theorem zql (x_s : Str) (x_l : List api_Swap) (R : Str × Bool) (w0 : World) (hG : zr w0) {x_l_p0 : Option Addr} {x_l_c0 : Nat} (hs0 : zD w0 x_l_p0 (cells zb x_l)) (hc0 : x_l.length ≤ x_l_c0) (hm : zlo x_s x_l = some R) :
    Calls Tryz.prog 137 #[str x_s, .slice x_l_p0 x_l.length x_l_c0] w0 (Ret w0 (fun R => .tuple #[str R.1, .bool R.2]) R) := by
 rw [zlo] at hm
 have hF : zs [] := ze
 have hO : Dk.Own w0 [] w0 [] := Dk.Own.refl w0
 have hO := hO.addShr hs0 (by simp [Res.shared])
 refine S.enter tb Tryz.func137 rfl Tryz.ntmps137 rfl ?_ hO hm
 refine lv [0, 10, 11] [0] (fun J E L k => ∃ (i3 : Int), J ((12, int i3) :: E) (L) (zbk x_s x_l k i3)) rfl (fun _ _ j => ⟨0, j rfl⟩) ?_
 rintro n1 a w ⟨i3, hf, hO, hm⟩
 obtain _ | n1 := n1
 rw [zbk] at hm
 cases hm
 rw [zbk] at hm
 refine S.co tb ?_ hf hO hm
 refine br rfl (fun hc5 => ?_) fun hc5 => ?_
 refine jv 3 [0, 10, 11, 12] [0] (fun J E L => J (E) (L) (zgS (zbk x_s x_l n1) i3)) rfl ?_ ?_
 refine rw_ rfl fun a w hf hO hm => ?_
 obtain ⟨x7, hx7, hm⟩ := ob hm
 obtain ⟨b8, o9, hix7, hSx7⟩ := zaD (enc := zb) (sz := 2) (xs := x_l) 22 Tryz.underlying22 zfe (by decide) (fun _ => rfl) (hO.sees (i := 0) rfl) hx7
 refine zR (zi hix7 hf rfl rfl) rfl hf rfl rfl fun a hf => ?_
 refine S.op tb ?_ hf hO hm
 refine vl rfl rfl (fun a w hf hO => zq (o := 0) (vs := [str x7.From, str x7.To]) zj9 zfe (hSx7 _ (hO.sees (i := 0) rfl)) rfl rfl hf rfl) ?_
 refine al zv5 rfl fun b10 => ?_
 refine st 0 rfl rfl ?_
 refine ld 0 rfl rfl ?_
 refine cl c_69 rfl (fun r12 w hr12 hO => zfD x_s x7.From r12 _ (hG.own hF hO) hr12) fun r12 hr12 => ?_
 refine jv 6 [0, 7, 8, 10, 11, 12] [0, 1] (fun J E L => ∃ (t15 : Bool), J ((29, .bool t15) :: E) (L) (zgT (zbk x_s x_l n1) i3 x7 r12 t15)) rfl ?_ ?_
 refine br rfl (fun hc14 => ?_) fun hc14 => ?_
 exact en rfl fun _ _ j => ⟨true, j rfl⟩
 refine ld 0 rfl rfl ?_
 exact en rfl fun _ _ j => ⟨x7.From == [], j rfl⟩
 rintro a w ⟨t15, hf, hO, hm⟩
 rw [zgT] at hm
 refine S.co tb ?_ hf hO hm
 refine br rfl (fun hc16 => ?_) fun hc16 => ?_
 exact ec [1] rfl rfl rfl fun _ _ j => j rfl
 refine jv 5 [0, 7, 8, 10, 11, 12] [0, 1] (fun J E L => ∃ (t23 : Bool), J ((42, .bool t23) :: E) (L) (zeT (zbk x_s x_l n1) i3 x7 r12 t23)) rfl ?_ ?_
 refine br rfl (fun hc18 => ?_) fun hc18 => ?_
 exact en rfl fun _ _ j => ⟨true, j rfl⟩
 refine ld 0 rfl rfl ?_
 refine cl c_186 rfl (fun r19 w hr19 hO => zib x7.From [47] r19 _ (hG.own hF hO) hr19) fun r19 hr19 => ?_
 refine br rfl (fun hc20 => ?_) fun hc20 => ?_
 exact en rfl fun _ _ j => ⟨true, j rfl⟩
 refine bi rfl fun b21 hb21 => ?_
 refine cl zq3 rfl (fun r22 w hr22 hO => zbu [47, 63, 35] b21 r22 _ (hG.own hF hO) hr22) fun r22 hr22 => ?_
 exact en rfl fun _ _ j => ⟨decide (0 ≤ r22), j rfl⟩
 rintro a w ⟨t23, hf, hO, hm⟩
 rw [zeT] at hm
 refine S.co tb ?_ hf hO hm
 refine br rfl (fun hc24 => ?_) fun hc24 => ?_
 refine ld 0 rfl rfl ?_
 refine bi rfl fun s25 hs25 => ?_
 exact rt Tryz.results137 rfl
 exact ec [1] rfl rfl rfl fun _ _ j => j rfl
 rintro a w ⟨hf, hO, hm⟩
 rw [zgS] at hm
 refine S.co tb ?_ hf hO hm
 refine bi rfl fun i27 hi27 => ?_
 exact en rfl fun _ _ j => ⟨_, Nat.lt_succ_self _, i27, j rfl⟩
 exact rt Tryz.results137 rfl

theorem zmV (x_b : UInt8) (R : Bool) (w0 : World) (hG : zr w0) (hm : zfY x_b = some R) :
    Calls Tryz.prog 269 #[zac x_b] w0 (Ret w0 (fun R => .bool R) R) := by
 rw [zfY] at hm
 have hF : zs [] := ze
 have hO : Dk.Own w0 [] w0 [] := Dk.Own.refl w0
 refine S.enter tb Tryz.func269 rfl Tryz.ntmps269 rfl ?_ hO hm
 refine jv 0 [] [] (fun J E L => ∃ (t8 : Bool), J ((2, .bool t8) :: E) (L) (za7 t8)) rfl ?_ ?_
 refine cl zuv rfl (fun r2 w hr2 hO => zga x_b r2 _ (hG.own hF hO) hr2) fun r2 hr2 => ?_
 refine br rfl (fun hc3 => ?_) fun hc3 => ?_
 exact en rfl fun _ _ j => ⟨true, j rfl⟩
 refine cl zq2 rfl (fun r4 w hr4 hO => zc9 x_b r4 _ (hG.own hF hO) hr4) fun r4 hr4 => ?_
 refine br rfl (fun hc5 => ?_) fun hc5 => ?_
 exact en rfl fun _ _ j => ⟨true, j rfl⟩
 refine vl rfl rfl (fun a w hf hO => zJ (b := x_b) (c := 43) hf rfl rfl) ?_
 refine br rfl (fun hc6 => ?_) fun hc6 => ?_
 exact en rfl fun _ _ j => ⟨true, j rfl⟩
 refine vl rfl rfl (fun a w hf hO => zJ (b := x_b) (c := 45) hf rfl rfl) ?_
 refine br rfl (fun hc7 => ?_) fun hc7 => ?_
 exact en rfl fun _ _ j => ⟨true, j rfl⟩
 refine vl rfl rfl (fun a w hf hO => zJ (b := x_b) (c := 46) hf rfl rfl) ?_
 exact en rfl fun _ _ j => ⟨x_b == 46, j rfl⟩
 rintro a w ⟨t8, hf, hO, hm⟩
 rw [za7] at hm
 refine S.co tb ?_ hf hO hm
 exact rt Tryz.results269 rfl

theorem zou (x_s : Str) (R : Bool) (w0 : World) (hG : zr w0) (hm : zjE x_s = some R) :
    Calls Tryz.prog 257 #[str x_s] w0 (Ret w0 (fun R => .bool R) R) := by
 rw [zjE] at hm
 have hF : zs [] := ze
 have hO : Dk.Own w0 [] w0 [] := Dk.Own.refl w0
 refine S.enter tb Tryz.func257 rfl Tryz.ntmps257 rfl ?_ hO hm
 refine jv 0 [] [] (fun J E L => ∃ (t9 : Bool), J ((2, .bool t9) :: E) (L) (zdI t9)) rfl ?_ ?_
 refine br rfl (fun hc3 => ?_) fun hc3 => ?_
 refine bi rfl fun b4 hb4 => ?_
 refine cl zuv rfl (fun r5 w hr5 hO => zga b4 r5 _ (hG.own hF hO) hr5) fun r5 hr5 => ?_
 refine br rfl (fun hc6 => ?_) fun hc6 => ?_
 refine rw_ rfl fun a w hf hO hm => ?_
 refine zn (vs := [(0, str x_s)]) (cs := [str x_s]) (e := 9) (sz := 1) hf rfl rfl (fun w => by kernel_rfl) rfl rfl hO fun a b7 w hf hO => ?_
 refine S.op tb ?_ hf hO hm
 refine kn (b' := true) hc6 rfl ?_
 refine cl zkK rfl (fun r8 w hr8 hO => zbA zfY ([x_s] : List Str) r8 _ (hG.own hF hO) c_269 (fun y0 r w hG h => zgc (zmV y0 r w hG h)) (hO.rowSees (i := 0) rfl) (hO.rowCap (i := 0) rfl) hr8) fun r8 hr8 => ?_
 exact ec [] rfl rfl rfl fun _ _ j => ⟨r8, j rfl⟩
 exact en rfl fun _ _ j => ⟨false, j rfl⟩
 exact en rfl fun _ _ j => ⟨false, j rfl⟩
 rintro a w ⟨t9, hf, hO, hm⟩
 rw [zdI] at hm
 refine S.co tb ?_ hf hO hm
 exact rt Tryz.results257 rfl

theorem zhz (x_s : Str) (x_l : Str) (R : Str × Str) (w0 : World) (hG : zr w0) (hm : zgr x_s x_l = some R) :
    Calls Tryz.prog 258 #[str x_s, str x_l] w0 (Ret w0 (fun R => .tuple #[str R.1, str R.2]) R) := by
 rw [zgr] at hm
 have hF : zs [] := ze
 have hO : Dk.Own w0 [] w0 [] := Dk.Own.refl w0
 refine S.enter tb Tryz.func258 rfl Tryz.ntmps258 rfl ?_ hO hm
 refine cl zwz rfl (fun r2 w hr2 hO => zgd x_s x_l r2 _ (hG.own hF hO) hr2) fun r2 hr2 => ?_
 refine br rfl (fun hc5 => ?_) fun hc5 => ?_
 refine rc_ rfl fun a w hf hO hm => ?_
 refine zeP (by kernel_rfl) (by kernel_rfl) hO ?_
 refine zx (fun w hO => zp hf rfl) rfl hf rfl rfl fun a hf => ?_
 refine zx (fun w hO => zp hf rfl) rfl hf rfl rfl fun a hf => ?_
 obtain ⟨s6, hs6, hm⟩ := ob hm
 refine zx (fun w hO => zhx (l := x_s) Tryz.underlying9 hf rfl rfl hs6) rfl hf rfl rfl fun a hf => ?_
 refine zx (fun w hO => zp hf rfl) rfl hf rfl rfl fun a hf => ?_
 refine zx (fun w hO => zp hf rfl) rfl hf rfl rfl fun a hf => ?_
 obtain ⟨s7, hs7, hm⟩ := ob hm
 refine zx (fun w hO => ziA (l := x_s) Tryz.underlying9 hf rfl rfl hs7) rfl hf rfl rfl fun a hf => ?_
 refine zx (fun w hO => z8 hf rfl) rfl hf rfl rfl fun a hf => ?_
 refine zx (fun w hO => z8 hf rfl) rfl hf rfl rfl fun a hf => ?_
 refine wpQuiet_nil ?_
 intro w hO
 refine S.no tb ?_ hf hO hm
 exact rt Tryz.results258 rfl
 exact rt Tryz.results258 rfl

theorem zph (x_s : Str) (R : api_Ref) (w0 : World) (hG : zr w0) (hm : zkq x_s = some R) :
    Calls Tryz.prog 229 #[str x_s] w0 (Ret w0 (fun R => .agg #[str R.Scheme, str R.Auth, str R.Path, str R.Query, str R.Frag, .bool R.HasAuth, .bool R.HasQuery, .bool R.HasFrag]) R) := by
 rw [zkq] at hm
 have hF : zs [] := ze
 have hO : Dk.Own w0 [] w0 [] := Dk.Own.refl w0
 refine S.enter tb Tryz.func229 rfl Tryz.ntmps229 rfl ?_ hO hm
 refine al zpM rfl fun b1 => ?_
 refine al zpM rfl fun b3 => ?_
 refine jv 0 [2, 3] [1] (fun J E L => ∃ (s15 : Str) (s16 : Str), J ((0, str s15) :: E) (.blk b3 [str s16, str [], str [], str [], str [], .bool false, .bool false, .bool false] 219 :: L) (zf2 s15 s16)) rfl ?_ ?_
 refine cl zq3 rfl (fun r5 w hr5 hO => zbu x_s 58 r5 _ (hG.own hF hO) hr5) fun r5 hr5 => ?_
 refine jv 1 [0, 2, 3, 4] [0, 1] (fun J E L => ∃ (t10 : Bool), J ((14, .bool t10) :: E) (L) (zf3 x_s r5 t10)) rfl ?_ ?_
 refine br rfl (fun hc7 => ?_) fun hc7 => ?_
 refine bi rfl fun s8 hs8 => ?_
 refine cl c_257 rfl (fun r9 w hr9 hO => zou s8 r9 _ (hG.own hF hO) hr9) fun r9 hr9 => ?_
 exact en rfl fun _ _ j => ⟨r9, j rfl⟩
 exact en rfl fun _ _ j => ⟨false, j rfl⟩
 rintro a w ⟨t10, hf, hO, hm⟩
 rw [zf3] at hm
 refine S.co tb ?_ hf hO hm
 refine br rfl (fun hc11 => ?_) fun hc11 => ?_
 refine rc_ rfl fun a w hf hO hm => ?_
 obtain ⟨s12, hs12, hm⟩ := ob hm
 obtain ⟨i13, hi13, hm⟩ := ob hm
 obtain ⟨s14, hs14, hm⟩ := ob hm
 refine zav (S := Unit) (E0 := [(0, str x_s), (2, ptr b1 0), (3, ptr b3 0), (4, int r5)]) (by kernel_rfl) (fun k σ w => match k with | 0 => Dk.Own w0 [] w [.blk b3 [str [], str [], str [], str [], str [], .bool false, .bool false, .bool false] 219, .blk b1 [str [], str [], str [], str [], str [], .bool false, .bool false, .bool false] 219] | _ => Dk.Own w0 [] w [.blk b3 [str s12, str [], str [], str [], str [], .bool false, .bool false, .bool false] 219, .blk b1 [str [], str [], str [], str [], str [], .bool false, .bool false, .bool false] 219]) (fun σ => [⟨[(0, str x_s)], some (15, str x_s)⟩, ⟨[(4, int r5)], some (16, int r5)⟩, ⟨[(15, str x_s), (16, int r5)], some (17, str s12)⟩, ⟨[(0, str x_s)], some (18, str x_s)⟩, ⟨[(4, int r5)], some (19, int r5)⟩, ⟨[(19, int r5)], some (20, int i13)⟩, ⟨[(18, str x_s), (20, int i13)], some (21, str s14)⟩, ⟨[(3, ptr b3 0)], some (22, ptr b3 0)⟩, ⟨[(17, str s12), (22, ptr b3 0)], none⟩, ⟨[(21, str s14)], some (0, str s14)⟩]) () [8] rfl (fun _ => rfl) (fun _ => rfl) (fun _ => rfl) rfl rfl (by decide) rfl hO.drew (hf.cons rfl (hf.cons rfl (hf.cons rfl (hf.cons rfl hf.nil)))) (fun σ => ⟨⟨rfl, trivial⟩, ⟨rfl, trivial⟩, ⟨rfl, rfl, trivial⟩, ⟨rfl, trivial⟩, ⟨rfl, trivial⟩, ⟨rfl, trivial⟩, ⟨rfl, rfl, trivial⟩, ⟨rfl, trivial⟩, ⟨rfl, rfl, trivial⟩, ⟨rfl, trivial⟩, trivial⟩) ⟨zd rfl (fun σ => rfl) (fun σ => rfl) (fun σ a w k _ _ _ _ hf => zp hf rfl), zd rfl (fun σ => rfl) (fun σ => rfl) (fun σ a w k _ _ _ _ hf => zp hf rfl), zd rfl (fun σ => rfl) (fun σ => rfl) (fun σ a w k _ _ _ _ hf => zhx (l := x_s) Tryz.underlying9 hf rfl rfl hs12), zd rfl (fun σ => rfl) (fun σ => rfl) (fun σ a w k _ _ _ _ hf => zp hf rfl), zd rfl (fun σ => rfl) (fun σ => rfl) (fun σ a w k _ _ _ _ hf => zp hf rfl), zd rfl (fun σ => rfl) (fun σ => rfl) (fun σ a w k _ _ _ _ hf => zrl hf rfl rfl hi13), zd rfl (fun σ => rfl) (fun σ => rfl) (fun σ a w k _ _ _ _ hf => ziA (l := x_s) Tryz.underlying9 hf rfl rfl hs14), zd rfl (fun σ => rfl) (fun σ => rfl) (fun σ a w k _ _ _ _ hf => zz zs7 hf rfl), zbC rfl (fun σ => rfl) (fun σ => rfl) rfl (fun σ w (hO : Dk.Own w0 [] w _) => by obtain ⟨w', hO', hr⟩ := zdA (x := (.tmp 22)) (y := (.tmp 17)) (E := [(17, str s12), (22, ptr b3 0)]) (i := 0) (o := 0) (v := str s12) zfB rfl rfl rfl rfl hO rfl rfl; exact ⟨(), w', hO', ⟨.inr rfl, .inr rfl, .inr rfl, .inr rfl, .inr rfl, .inr rfl, .inr rfl, .inr rfl, .inr rfl, .inr rfl, trivial⟩, hr⟩), zd rfl (fun σ => rfl) (fun σ => rfl) (fun σ a w k _ _ _ _ hf => z8 hf rfl), trivial⟩ ?_
 rintro _ a w hf hO
 have hO : Dk.Own w0 [] w _ := hO
 have hf : Fits 56 [(0, str s14), (2, ptr b1 0), (3, ptr b3 0)] a := (hf.cons rfl (hf.cons rfl (hf.cons rfl hf.nil)))
 refine S.no tb ?_ hf hO hm
 exact en rfl fun _ _ j => ⟨s14, s12, j rfl⟩
 exact en rfl fun _ _ j => ⟨x_s, [], j rfl⟩
 rintro a w ⟨s15, s16, hf, hO, hm⟩
 rw [zf2] at hm
 refine S.co tb ?_ hf hO hm
 refine jv 0 [2, 3] [1] (fun J E L => ∃ (s23 : Str) (s24 : Str) (t25 : Bool), J ((0, str s23) :: E) (.blk b3 [str s16, str s24, str [], str [], str [], .bool t25, .bool false, .bool false] 219 :: L) (zf1 s16 s23 s24 t25)) rfl ?_ ?_
 refine cl ztc rfl (fun r17 w hr17 hO => zcj s15 [47, 47] r17 _ (hG.own hF hO) hr17) fun r17 hr17 => ?_
 refine br rfl (fun hc19 => ?_) fun hc19 => ?_
 refine st 0 rfl rfl ?_
 refine bi rfl fun s21 hs21 => ?_
 refine cl zuy rfl (fun r22 w hr22 hO => zhz s21 [47, 63, 35] r22 _ (hG.own hF hO) hr22) fun r22 hr22 => ?_
 refine st 0 rfl rfl ?_
 exact en rfl fun _ _ j => ⟨r22.2, r22.1, true, j rfl⟩
 exact en rfl fun _ _ j => ⟨s15, [], false, j rfl⟩
 rintro a w ⟨s23, s24, t25, hf, hO, hm⟩
 rw [zf1] at hm
 refine S.co tb ?_ hf hO hm
 refine cl zuy rfl (fun r26 w hr26 hO => zhz s23 [63, 35] r26 _ (hG.own hF hO) hr26) fun r26 hr26 => ?_
 refine st 0 rfl rfl ?_
 refine jv 0 [2, 3] [1] (fun J E L => ∃ (s34 : Str) (s35 : Str) (t36 : Bool), J ((0, str s34) :: E) (.blk b3 [str s16, str s24, str r26.1, str s35, str [], .bool t25, .bool t36, .bool false] 219 :: L) (zf0 s16 s24 t25 r26 s34 s35 t36)) rfl ?_ ?_
 refine cl ztc rfl (fun r28 w hr28 hO => zcj r26.2 [63] r28 _ (hG.own hF hO) hr28) fun r28 hr28 => ?_
 refine br rfl (fun hc30 => ?_) fun hc30 => ?_
 refine st 0 rfl rfl ?_
 refine bi rfl fun s32 hs32 => ?_
 refine cl zuy rfl (fun r33 w hr33 hO => zhz s32 [35] r33 _ (hG.own hF hO) hr33) fun r33 hr33 => ?_
 refine st 0 rfl rfl ?_
 exact en rfl fun _ _ j => ⟨r33.2, r33.1, true, j rfl⟩
 exact en rfl fun _ _ j => ⟨r26.2, [], false, j rfl⟩
 rintro a w ⟨s34, s35, t36, hf, hO, hm⟩
 rw [zf0] at hm
 refine S.co tb ?_ hf hO hm
 refine jv 0 [2, 3] [1] (fun J E L => ∃ (s40 : Str) (t41 : Bool), J (E) (.blk b3 [str s16, str s24, str r26.1, str s35, str s40, .bool t25, .bool t36, .bool t41] 219 :: L) (zfZ s16 s24 t25 r26 s35 t36 s40 t41)) rfl ?_ ?_
 refine br rfl (fun hc38 => ?_) fun hc38 => ?_
 refine rc_ rfl fun a w hf hO hm => ?_
 obtain ⟨s39, hs39, hm⟩ := ob hm
 refine zav (S := Unit) (E0 := [(0, str s34), (2, ptr b1 0), (3, ptr b3 0)]) (by kernel_rfl) (fun k σ w => match k with | 0 => Dk.Own w0 [] w [.blk b3 [str s16, str s24, str r26.1, str s35, str [], .bool t25, .bool t36, .bool false] 219, .blk b1 [str [], str [], str [], str [], str [], .bool false, .bool false, .bool false] 219] | 1 => Dk.Own w0 [] w [.blk b3 [str s16, str s24, str r26.1, str s35, str [], .bool t25, .bool t36, .bool true] 219, .blk b1 [str [], str [], str [], str [], str [], .bool false, .bool false, .bool false] 219] | _ => Dk.Own w0 [] w [.blk b3 [str s16, str s24, str r26.1, str s35, str s39, .bool t25, .bool t36, .bool true] 219, .blk b1 [str [], str [], str [], str [], str [], .bool false, .bool false, .bool false] 219]) (fun σ => [⟨[(0, str s34)], some (51, str s34)⟩, ⟨[(51, str s34)], some (52, str s39)⟩, ⟨[(3, ptr b3 0)], some (53, ptr b3 7)⟩, ⟨[(53, ptr b3 7)], none⟩, ⟨[(3, ptr b3 0)], some (54, ptr b3 4)⟩, ⟨[(52, str s39), (54, ptr b3 4)], none⟩]) () [3, 5] rfl (fun _ => rfl) (fun _ => rfl) (fun _ => rfl) rfl rfl (by decide) rfl hO.drew (hf.cons rfl (hf.cons rfl (hf.cons rfl hf.nil))) (fun σ => ⟨⟨rfl, trivial⟩, ⟨rfl, trivial⟩, ⟨rfl, trivial⟩, ⟨rfl, trivial⟩, ⟨rfl, trivial⟩, ⟨rfl, rfl, trivial⟩, trivial⟩) ⟨zd rfl (fun σ => rfl) (fun σ => rfl) (fun σ a w k _ _ _ _ hf => zp hf rfl), zd rfl (fun σ => rfl) (fun σ => rfl) (fun σ a w k _ _ _ _ hf => ziA (l := s34) Tryz.underlying9 hf rfl rfl hs39), zd rfl (fun σ => rfl) (fun σ => rfl) (fun σ a w k _ _ _ _ hf => zz zs9 hf rfl), zbC rfl (fun σ => rfl) (fun σ => rfl) rfl (fun σ w (hO : Dk.Own w0 [] w _) => by obtain ⟨w', hO', hr⟩ := zdA (x := (.tmp 53)) (y := (.const (.bool true))) (E := [(53, ptr b3 7)]) (i := 0) (o := 7) (v := .bool true) sz_4 rfl rfl rfl rfl hO rfl rfl; exact ⟨(), w', hO', ⟨.inr rfl, .inr rfl, .inr rfl, .inr rfl, .inr rfl, .inr rfl, trivial⟩, hr⟩), zd rfl (fun σ => rfl) (fun σ => rfl) (fun σ a w k _ _ _ _ hf => zz zs8 hf rfl), zbC rfl (fun σ => rfl) (fun σ => rfl) rfl (fun σ w (hO : Dk.Own w0 [] w _) => by obtain ⟨w', hO', hr⟩ := zdA (x := (.tmp 54)) (y := (.tmp 52)) (E := [(52, str s39), (54, ptr b3 4)]) (i := 0) (o := 4) (v := str s39) zfB rfl rfl rfl rfl hO rfl rfl; exact ⟨(), w', hO', ⟨.inr rfl, .inr rfl, .inr rfl, .inr rfl, .inr rfl, .inr rfl, trivial⟩, hr⟩), trivial⟩ ?_
 rintro _ a w hf hO
 have hO : Dk.Own w0 [] w _ := hO
 have hf : Fits 56 [(2, ptr b1 0), (3, ptr b3 0)] a := (hf.cons rfl (hf.cons rfl hf.nil))
 refine S.no tb ?_ hf hO hm
 exact en rfl fun _ _ j => ⟨s39, true, j rfl⟩
 exact en rfl fun _ _ j => ⟨[], false, j rfl⟩
 rintro a w ⟨s40, t41, hf, hO, hm⟩
 rw [zfZ] at hm
 refine S.co tb ?_ hf hO hm
 refine ld 0 rfl rfl ?_
 refine st 1 rfl rfl ?_
 refine re_ rfl fun a w hf hO hm => ?_
 obtain rfl := Option.some.inj hm
 exact zh Tryz.results229 hf (.cell rfl (zk (n := 8) (vs := [str s16, str s24, str r26.1, str s35, str s40, .bool t25, .bool t36, .bool t41]) zrV zrZ rfl ((hO.blkSees (i := 1) rfl).cells (o := 0) (n := 8) rfl)) .nil) ⟨rfl, hO.below⟩

theorem zgE (x_s : Str) (x_more : Str) (R : Bool) (w0 : World) (hG : zr w0) (hm : zfx x_s x_more = some R) :
    Calls Tryz.prog 259 #[str x_s, str x_more] w0 (Ret w0 (fun R => .bool R) R) := by
 rw [zfx] at hm
 have hF : zs [] := ze
 have hO : Dk.Own w0 [] w0 [] := Dk.Own.refl w0
 refine S.enter tb Tryz.func259 rfl Tryz.ntmps259 rfl ?_ hO hm
 refine lv [0, 1] [] (fun J E L k => ∃ (i3 : Int), J ((5, int i3) :: E) (L) (zau x_s x_more k i3)) rfl (fun _ _ j => ⟨0, j rfl⟩) ?_
 rintro n1 a w ⟨i3, hf, hO, hm⟩
 obtain _ | n1 := n1
 rw [zau] at hm
 cases hm
 rw [zau] at hm
 refine S.co tb ?_ hf hO hm
 refine br rfl (fun hc5 => ?_) fun hc5 => ?_
 refine jv 3 [0, 1] [] (fun J E L => ∃ (i30 : Int), J ((5, int i30) :: E) (L) (zf4 (zau x_s x_more n1) i30)) rfl ?_ ?_
 refine bi rfl fun b7 hb7 => ?_
 refine vl rfl rfl (fun a w hf hO => zJ (b := b7) (c := 37) hf rfl rfl) ?_
 refine br rfl (fun hc9 => ?_) fun hc9 => ?_
 refine jv 7 [0, 1, 5] [] (fun J E L => ∃ (t17 : Bool), J ((32, .bool t17) :: E) (L) (zf5 (zau x_s x_more n1) i3 t17)) rfl ?_ ?_
 refine bi rfl fun i10 hi10 => ?_
 refine br rfl (fun hc11 => ?_) fun hc11 => ?_
 exact en rfl fun _ _ j => ⟨true, j rfl⟩
 refine bi rfl fun i12 hi12 => ?_
 refine bi rfl fun i13 hi13 => ?_
 refine bi rfl fun s14 hs14 => ?_
 refine rw_ rfl fun a w hf hO hm => ?_
 refine zn (vs := [(0, str s14)]) (cs := [str s14]) (e := 9) (sz := 1) hf rfl rfl (fun w => by kernel_rfl) rfl rfl hO fun a b15 w hf hO => ?_
 refine S.op tb ?_ hf hO hm
 refine kn (b' := false) hc11 rfl ?_
 refine cl zkK rfl (fun r16 w hr16 hO => zbA zby ([s14] : List Str) r16 _ (hG.own hF hO) zuu (fun y0 r w hG h => zgc (zhA y0 r w hG h)) (hO.rowSees (i := 0) rfl) (hO.rowCap (i := 0) rfl) hr16) fun r16 hr16 => ?_
 exact ec [] rfl rfl rfl fun _ _ j => ⟨!r16, j rfl⟩
 rintro a w ⟨t17, hf, hO, hm⟩
 rw [zf5] at hm
 refine S.co tb ?_ hf hO hm
 refine br rfl (fun hc18 => ?_) fun hc18 => ?_
 exact rt Tryz.results259 rfl
 refine bi rfl fun i21 hi21 => ?_
 exact en rfl fun _ _ j => ⟨i21, j rfl⟩
 refine jv 6 [0, 1, 5] [] (fun J E L => ∃ (t27 : Bool), J ((35, .bool t27) :: E) (L) (zf6 (zau x_s x_more n1) i3 t27)) rfl ?_ ?_
 refine bi rfl fun b22 hb22 => ?_
 refine cl c_268 rfl (fun r23 w hr23 hO => zk3 b22 r23 _ (hG.own hF hO) hr23) fun r23 hr23 => ?_
 refine br rfl (fun hc24 => ?_) fun hc24 => ?_
 refine bi rfl fun b25 hb25 => ?_
 refine cl zq3 rfl (fun r26 w hr26 hO => zbu x_more b25 r26 _ (hG.own hF hO) hr26) fun r26 hr26 => ?_
 exact en rfl fun _ _ j => ⟨decide (r26 < 0), j rfl⟩
 exact en rfl fun _ _ j => ⟨false, j rfl⟩
 rintro a w ⟨t27, hf, hO, hm⟩
 rw [zf6] at hm
 refine S.co tb ?_ hf hO hm
 refine br rfl (fun hc28 => ?_) fun hc28 => ?_
 exact rt Tryz.results259 rfl
 exact en rfl fun _ _ j => ⟨i3, j rfl⟩
 rintro a w ⟨i30, hf, hO, hm⟩
 rw [zf4] at hm
 refine S.co tb ?_ hf hO hm
 refine bi rfl fun i31 hi31 => ?_
 exact en rfl fun _ _ j => ⟨_, Nat.lt_succ_self _, i31, j rfl⟩
 exact rt Tryz.results259 rfl

end Go.Proofs
end
section
set_option linter.unusedVariables false
set_option maxHeartbeats 1000000
set_option linter.unusedSimpArgs false
set_option maxRecDepth 100000
namespace Go.Proofs
open Go.Dk Go.Dm Go.RowKit

theorem zqF (x_r : api_Ref) (R : Bool) (w0 : World) (hG : zr w0) (hm : zlp x_r = some R) :
    Calls Tryz.prog 230 #[.agg #[str x_r.Scheme, str x_r.Auth, str x_r.Path, str x_r.Query, str x_r.Frag, .bool x_r.HasAuth, .bool x_r.HasQuery, .bool x_r.HasFrag]] w0 (Ret w0 (fun R => .bool R) R) := by
 rw [zlp] at hm
 have hF : zs [] := ze
 have hO : Dk.Own w0 [] w0 [] := Dk.Own.refl w0
 refine S.enter tb Tryz.func230 rfl Tryz.ntmps230 rfl ?_ hO hm
 refine bo rfl fun b1 => ?_
 refine ld 0 rfl rfl ?_
 refine cl zuy rfl (fun r3 w hr3 hO => zhz x_r.Path [47] r3 _ (hG.own hF hO) hr3) fun r3 hr3 => ?_
 refine jv 2 [1, 3] [0] (fun J E L => ∃ (t14 : Bool), J ((11, .bool t14) :: E) (L) (zcR x_r r3 t14)) rfl ?_ ?_
 refine ld 0 rfl rfl ?_
 refine cl zuz rfl (fun r5 w hr5 hO => zgE x_r.Auth [91, 93] r5 _ (hG.own hF hO) hr5) fun r5 hr5 => ?_
 refine br rfl (fun hc6 => ?_) fun hc6 => ?_
 exact en rfl fun _ _ j => ⟨true, j rfl⟩
 refine ld 0 rfl rfl ?_
 refine cl c_260 rfl (fun r7 w hr7 hO => ziK x_r.Auth [64] r7 _ (hG.own hF hO) hr7) fun r7 hr7 => ?_
 refine br rfl (fun hc8 => ?_) fun hc8 => ?_
 exact en rfl fun _ _ j => ⟨true, j rfl⟩
 refine ld 0 rfl rfl ?_
 refine cl zuz rfl (fun r9 w hr9 hO => zgE x_r.Path [47] r9 _ (hG.own hF hO) hr9) fun r9 hr9 => ?_
 refine br rfl (fun hc10 => ?_) fun hc10 => ?_
 exact en rfl fun _ _ j => ⟨true, j rfl⟩
 refine ld 0 rfl rfl ?_
 refine cl zuz rfl (fun r11 w hr11 hO => zgE x_r.Query [47, 63] r11 _ (hG.own hF hO) hr11) fun r11 hr11 => ?_
 refine br rfl (fun hc12 => ?_) fun hc12 => ?_
 exact en rfl fun _ _ j => ⟨true, j rfl⟩
 refine ld 0 rfl rfl ?_
 refine cl zuz rfl (fun r13 w hr13 hO => zgE x_r.Frag [47, 63] r13 _ (hG.own hF hO) hr13) fun r13 hr13 => ?_
 exact en rfl fun _ _ j => ⟨!r13, j rfl⟩
 rintro a w ⟨t14, hf, hO, hm⟩
 rw [zcR] at hm
 refine S.co tb ?_ hf hO hm
 refine br rfl (fun hc15 => ?_) fun hc15 => ?_
 exact rt Tryz.results230 rfl
 refine ld 0 rfl rfl ?_
 refine br rfl (fun hc18 => ?_) fun hc18 => ?_
 refine jv 2 [] [0] (fun J E L => ∃ (t21 : Bool), J ((2, .bool t21) :: E) (L) (zgU t21)) rfl ?_ ?_
 refine ld 0 rfl rfl ?_
 refine br rfl (fun hc19 => ?_) fun hc19 => ?_
 exact en rfl fun _ _ j => ⟨true, j rfl⟩
 refine ld 0 rfl rfl ?_
 refine bi rfl fun b20 hb20 => ?_
 refine vl rfl rfl (fun a w hf hO => zJ (b := b20) (c := 47) hf rfl rfl) ?_
 exact en rfl fun _ _ j => ⟨b20 == 47, j rfl⟩
 rintro a w ⟨t21, hf, hO, hm⟩
 rw [zgU] at hm
 refine S.co tb ?_ hf hO hm
 exact rt Tryz.results230 rfl
 refine ld 0 rfl rfl ?_
 refine cl ztc rfl (fun r22 w hr22 hO => zcj x_r.Path [47, 47] r22 _ (hG.own hF hO) hr22) fun r22 hr22 => ?_
 refine br rfl (fun hc24 => ?_) fun hc24 => ?_
 exact rt Tryz.results230 rfl
 refine jv 0 [] [0] (fun J E L => ∃ (t29 : Bool), J ((2, .bool t29) :: E) (L) (zgV t29)) rfl ?_ ?_
 refine ld 0 rfl rfl ?_
 refine br rfl (fun hc27 => ?_) fun hc27 => ?_
 exact en rfl fun _ _ j => ⟨true, j rfl⟩
 refine cl c_260 rfl (fun r28 w hr28 hO => ziK r3.1 [58] r28 _ (hG.own hF hO) hr28) fun r28 hr28 => ?_
 exact en rfl fun _ _ j => ⟨!r28, j rfl⟩
 rintro a w ⟨t29, hf, hO, hm⟩
 rw [zgV] at hm
 refine S.co tb ?_ hf hO hm
 exact rt Tryz.results230 rfl

theorem zpR (x_s : Str) (R : api_Ref × Int) (w0 : World) (hG : zr w0) (hm : zkr x_s = some R) :
    Calls Tryz.prog 188 #[str x_s] w0 (Ret w0 (fun R => .tuple #[.agg #[str R.1.Scheme, str R.1.Auth, str R.1.Path, str R.1.Query, str R.1.Frag, .bool R.1.HasAuth, .bool R.1.HasQuery, .bool R.1.HasFrag], int R.2]) R) := by
 rw [zkr] at hm
 have hF : zs [] := ze
 have hO : Dk.Own w0 [] w0 [] := Dk.Own.refl w0
 refine S.enter tb Tryz.func188 rfl Tryz.ntmps188 rfl ?_ hO hm
 refine al zpM rfl fun b1 => ?_
 refine cl c_229 rfl (fun r3 w hr3 hO => zph x_s r3 _ (hG.own hF hO) hr3) fun r3 hr3 => ?_
 refine al zpM rfl fun b4 => ?_
 refine st 0 rfl rfl ?_
 refine ld 0 rfl rfl ?_
 refine cl c_230 rfl (fun r6 w hr6 hO => zqF r3 r6 _ (hG.own hF hO) hr6) fun r6 hr6 => ?_
 refine br rfl (fun hc8 => ?_) fun hc8 => ?_
 refine vl rfl rfl (fun a w hf hO => zt (vs := []) (v := .agg #[str [], str [], str [], str [], str [], .bool false, .bool false, .bool false]) hf rfl (by kernel_rfl)) ?_
 refine st 1 rfl rfl ?_
 refine re_ rfl fun a w hf hO hm => ?_
 obtain rfl := Option.some.inj hm
 exact zh Tryz.results188 hf (.cell rfl (zk (n := 8) (vs := [str [], str [], str [], str [], str [], .bool false, .bool false, .bool false]) zrV zrZ rfl ((hO.blkSees (i := 1) rfl).cells (o := 0) (n := 8) rfl)) (.tmp rfl .nil)) ⟨rfl, hO.below⟩
 refine ld 0 rfl rfl ?_
 refine st 1 rfl rfl ?_
 refine re_ rfl fun a w hf hO hm => ?_
 obtain rfl := Option.some.inj hm
 exact zh Tryz.results188 hf (.cell rfl (zk (n := 8) (vs := [str r3.Scheme, str r3.Auth, str r3.Path, str r3.Query, str r3.Frag, .bool r3.HasAuth, .bool r3.HasQuery, .bool r3.HasFrag]) zrV zrZ rfl ((hO.blkSees (i := 1) rfl).cells (o := 0) (n := 8) rfl)) (.tmp rfl .nil)) ⟨rfl, hO.below⟩

theorem zmk (x_s : Str) (R : Bool) (w0 : World) (hG : zr w0) (hm : zji x_s = some R) :
    Calls Tryz.prog 138 #[str x_s] w0 (Ret w0 (fun R => .bool R) R) := by
 rw [zji] at hm
 have hF : zs [] := ze
 have hO : Dk.Own w0 [] w0 [] := Dk.Own.refl w0
 refine S.enter tb Tryz.func138 rfl Tryz.ntmps138 rfl ?_ hO hm
 refine cl c_188 rfl (fun r2 w hr2 hO => zpR x_s r2 _ (hG.own hF hO) hr2) fun r2 hr2 => ?_
 refine al zpM rfl fun b3 => ?_
 refine st 0 rfl rfl ?_
 exact rt Tryz.results138 rfl

theorem zmG (x_s : Str) (x_l : List api_Swap) (R : Str) (w0 : World) (hG : zr w0) {x_l_p0 : Option Addr} {x_l_c0 : Nat} (hs0 : zD w0 x_l_p0 (cells zb x_l)) (hc0 : x_l.length ≤ x_l_c0) (hm : zhn x_s x_l = some R) :
    Calls Tryz.prog 84 #[str x_s, .slice x_l_p0 x_l.length x_l_c0] w0 (Ret w0 (fun R => str R) R) := by
 rw [zhn] at hm
 have hF : zs [] := ze
 have hO : Dk.Own w0 [] w0 [] := Dk.Own.refl w0
 have hO := hO.addShr hs0 (by simp [Res.shared])
 refine S.enter tb Tryz.func84 rfl Tryz.ntmps84 rfl ?_ hO hm
 refine cl c_137 rfl (fun r2 w hr2 hO => zql x_s x_l r2 _ (hG.own hF hO) (hO.sees (i := 0) rfl) hc0 hr2) fun r2 hr2 => ?_
 refine jv 1 [0, 5] [0] (fun J E L => ∃ (t8 : Bool), J ((24, .bool t8) :: E) (L) (zcl x_s r2 t8)) rfl ?_ ?_
 refine br rfl (fun hc4 => ?_) fun hc4 => ?_
 exact en rfl fun _ _ j => ⟨true, j rfl⟩
 refine cl c_138 rfl (fun r5 w hr5 hO => zmk x_s r5 _ (hG.own hF hO) hr5) fun r5 hr5 => ?_
 refine br rfl (fun hc6 => ?_) fun hc6 => ?_
 exact en rfl fun _ _ j => ⟨true, j rfl⟩
 refine cl c_138 rfl (fun r7 w hr7 hO => zmk r2.1 r7 _ (hG.own hF hO) hr7) fun r7 hr7 => ?_
 exact en rfl fun _ _ j => ⟨!r7, j rfl⟩
 rintro a w ⟨t8, hf, hO, hm⟩
 rw [zcl] at hm
 refine S.co tb ?_ hf hO hm
 refine br rfl (fun hc9 => ?_) fun hc9 => ?_
 exact rt Tryz.results84 rfl
 exact rt Tryz.results84 rfl

theorem zff (x_c : scan_Scanner) (x_is : UInt8 → Option Bool) (R : Str × scan_Scanner) (w0 : World) (hG : zr w0) {x_c_b0 : Nat} {F : List Nat} (hF : zs F) (hO : Dk.Own w0 F w0 [.blk x_c_b0 [str x_c.f_s, int x_c.f_at] 148]) {x_is_f : Nat} {x_is_p x_is_c : Array Value} (x_is_k : zc Tryz.prog x_is_f) (x_is_h : ∀ (y0 : UInt8) (r : Bool) (w : World), zr w → x_is y0 = some r → Calls Tryz.prog x_is_f (x_is_p ++ [zac y0].toArray ++ x_is_c) w fun e w' => e = .returned (.bool r) ∧ Below w.heap.size w w') (hm : zaE x_c x_is = some R) :
    Calls Tryz.prog 110 #[ptr x_c_b0 0, .func (.func x_is_f) x_is_p x_is_c] w0 fun e w' => e = .returned (str R.1) ∧ Dk.Own w0 F w' [.blk x_c_b0 [str R.2.f_s, int R.2.f_at] 148] := by
 rw [zaE] at hm
 refine S.enter tb Tryz.func110 rfl Tryz.ntmps110 rfl ?_ hO hm
 refine cl ztb rfl (fun r2 w hr2 hO => zda x_c r2 _ (hG.own hF hO) (hO.blkSees (i := 0) rfl) hr2) fun r2 hr2 => ?_
 refine jv 0 [0, 5] [] (fun J E L => ∃ (s14 : Str) (i15 : Int), J (E) (.blk x_c_b0 [str s14, int i15] 148 :: L) (zbG r2 s14 i15)) rfl ?_ ?_
 refine lv [0, 1, 5] [] (fun J E L k => ∃ (s4 : Str) (i5 : Int), J (E) (.blk x_c_b0 [str s4, int i5] 148 :: L) (zY x_is r2 k s4 i5)) rfl (fun _ _ j => ⟨x_c.f_s, x_c.f_at, j rfl⟩) ?_
 rintro n1 a w ⟨s4, i5, hf, hO, hm⟩
 obtain _ | n1 := n1
 rw [zY] at hm
 cases hm
 rw [zY] at hm
 refine S.co tb ?_ hf hO hm
 refine cl zq1 rfl (fun r6 w hr6 hO => zbt (⟨s4, i5⟩ : scan_Scanner) r6 _ (hG.own hF hO) (hO.blkSees (i := 0) rfl) hr6) fun r6 hr6 => ?_
 refine jv 5 [0, 1, 5] [0] (fun J E L => ∃ (t10 : Bool), J ((22, .bool t10) :: E) (L) (zaU (zY x_is r2 n1) r2 s4 i5 t10)) rfl ?_ ?_
 refine br rfl (fun hc8 => ?_) fun hc8 => ?_
 exact en rfl fun _ _ j => ⟨true, j rfl⟩
 refine rw_ rfl fun a w hf hO hm => ?_
 obtain ⟨r9, hr9, hm⟩ := ob hm
 refine oc (zjM x_is_k hf rfl (vs := [zac r6.1]) rfl) hf rfl (x_is_h r6.1 r9 _ (hG.own hF hO) hr9) hO fun a w' hf hO => ?_
 refine S.op tb ?_ hf hO hm
 refine kn (b' := false) hc8 rfl ?_
 exact en rfl fun _ _ j => ⟨!r9, j rfl⟩
 rintro a w ⟨t10, hf, hO, hm⟩
 rw [zaU] at hm
 refine S.co tb ?_ hf hO hm
 refine br rfl (fun hc11 => ?_) fun hc11 => ?_
 exact en rfl fun _ _ j => ⟨s4, i5, j rfl⟩
 refine ld 0 rfl rfl ?_
 refine bi rfl fun i13 hi13 => ?_
 refine st 0 rfl rfl ?_
 exact en rfl fun _ _ j => ⟨_, Nat.lt_succ_self _, s4, i13, j rfl⟩
 rintro a w ⟨s14, i15, hf, hO, hm⟩
 rw [zbG] at hm
 refine S.co tb ?_ hf hO hm
 refine vl rfl rfl (fun a w hf hO => zhi Tryz.underlying114 hf rfl rfl) ?_
 refine kn (b' := false) rfl rfl ?_
 refine rc_ rfl fun a w hf hO hm => ?_
 refine zeP (by kernel_rfl) (by kernel_rfl) hO ?_
 refine zx (fun w hO => zp hf rfl) rfl hf rfl rfl fun a hf => ?_
 refine zx (fun w hO => zaz hf rfl) rfl hf rfl rfl fun a hf => ?_
 refine zx (fun w hO => zz znf hf rfl) rfl hf rfl rfl fun a hf => ?_
 refine zx (fun w hO => zf (o := 0) zX (hO.blkSees (i := 0) rfl) rfl hf rfl) rfl hf rfl rfl fun a hf => ?_
 refine zx (fun w hO => zp hf rfl) rfl hf rfl rfl fun a hf => ?_
 refine zx (fun w hO => zp hf rfl) rfl hf rfl rfl fun a hf => ?_
 refine zx (fun w hO => zaz hf rfl) rfl hf rfl rfl fun a hf => ?_
 refine zx (fun w hO => zz zng hf rfl) rfl hf rfl rfl fun a hf => ?_
 refine zx (fun w hO => zf (o := 1) ag_3 (hO.blkSees (i := 0) rfl) rfl hf rfl) rfl hf rfl rfl fun a hf => ?_
 obtain ⟨s18, hs18, hm⟩ := ob hm
 refine zx (fun w hO => zjL (l := s14) Tryz.underlying9 hf rfl rfl rfl hs18) rfl hf rfl rfl fun a hf => ?_
 refine zx (fun w hO => z8 hf rfl) rfl hf rfl rfl fun a hf => ?_
 refine wpQuiet_nil ?_
 intro w hO
 refine S.no tb ?_ hf hO hm
 refine re_ rfl fun a w hf hO hm => ?_
 obtain rfl := Option.some.inj hm
 exact zh Tryz.results110 hf (.tmp rfl .nil) ⟨rfl, hO⟩

theorem zfg (x_c : scan_Scanner) (R : Str × Bool × scan_Scanner) (w0 : World) (hG : zr w0) {x_c_b0 : Nat} {F : List Nat} (hF : zs F) (hO : Dk.Own w0 F w0 [.blk x_c_b0 [str x_c.f_s, int x_c.f_at] 148]) (hm : za8 x_c = some R) :
    Calls Tryz.prog 109 #[ptr x_c_b0 0] w0 fun e w' => e = .returned (.tuple #[str R.1, .bool R.2.1]) ∧ Dk.Own w0 F w' [.blk x_c_b0 [str R.2.2.f_s, int R.2.2.f_at] 148] := by
 rw [za8] at hm
 refine S.enter tb Tryz.func109 rfl Tryz.ntmps109 rfl ?_ hO hm
 refine rw_ rfl fun a w hf hO hm => ?_
 obtain ⟨r2, hr2, hm⟩ := ob hm
 have hch3 := (show Dk.Own w0 F _ ([.blk x_c_b0 [str x_c.f_s, int x_c.f_at] 148] ++ []) from hO)
 have hfar3 := Dk.Own.far hch3 rfl hF hG.size
 have hlend3 := hch3.lend (S := []) rfl trivial
 have hcl3 := zff x_c zcy r2 _ (hG.own hF hO) hfar3 hlend3 c_150 (fun y0 r w hG h => zgc (zkI y0 r w hG h)) hr2
 refine zo (zj zwu hf (vs := [ptr x_c_b0 0, .func (.func 150) #[] #[]]) rfl) rfl hf rfl rfl (hcl3) ?_
 rintro e w' ⟨he, hO'⟩
 refine ⟨_, he, fun a hf => ?_⟩
 have hO := hch3.back rfl hO' rfl
 refine S.op tb ?_ hf hO hm
 refine re_ rfl fun a w hf hO hm => ?_
 obtain rfl := Option.some.inj hm
 exact zh Tryz.results109 hf (.tmp rfl (.tmp rfl .nil)) ⟨rfl, hO⟩

theorem zoI (x_a0 : UInt8) (R : Bool) (w0 : World) (hG : zr w0) (hm : zhC x_a0 = some R) :
    Calls Tryz.prog 231 #[zac x_a0] w0 (Ret w0 (fun R => .bool R) R) := by
 rw [zhC] at hm
 have hF : zs [] := ze
 have hO : Dk.Own w0 [] w0 [] := Dk.Own.refl w0
 refine S.enter tb Tryz.func231 rfl Tryz.ntmps231 rfl ?_ hO hm
 exact rt Tryz.results231 rfl

theorem zml (x_s : Str) (R : api_Attr × Bool) (w0 : World) (hG : zr w0) (hm : zjj x_s = some R) :
    Calls Tryz.prog 189 #[str x_s] w0 (Ret w0 (fun R => .tuple #[.agg #[str R.1.Name, str R.1.Value, .bool R.1.Has], .bool R.2]) R) := by
 rw [zjj] at hm
 have hF : zs [] := ze
 have hO : Dk.Own w0 [] w0 [] := Dk.Own.refl w0
 refine S.enter tb Tryz.func189 rfl Tryz.ntmps189 rfl ?_ hO hm
 refine al znU rfl fun b1 => ?_
 refine cl zus rfl (fun r3 w hr3 hO => zgD x_s [32, 9] r3 _ (hG.own hF hO) hr3) fun r3 hr3 => ?_
 refine rw_ rfl fun a w hf hO hm => ?_
 obtain ⟨r4, hr4, hm⟩ := ob hm
 refine zo (zj c_58 hf (vs := [str r3]) rfl) rfl hf rfl rfl (zmo r3 r4 _ (hG.own hF hO) hr4) ?_
 rintro e w' ⟨b5, he, hO'⟩
 refine ⟨_, he, fun a hf => ?_⟩
 have hO := hO.call hO' (by simp [Res.shared])
 refine S.op tb ?_ hf hO hm
 refine rw_ rfl fun a w hf hO hm => ?_
 obtain ⟨r7, hr7, hm⟩ := ob hm
 have hch8 := (show Dk.Own w0 [] _ ([.blk b5 [str r4.f_s, int r4.f_at] 148] ++ [.blk b1 [str [], str [], .bool false] 223]) from hO)
 have hfar8 := Dk.Own.far hch8 rfl hF hG.size
 have hlend8 := hch8.lend (S := []) rfl trivial
 have hcl8 := zfg r4 r7 _ (hG.own hF hO) hfar8 hlend8 hr7
 refine zo (zj zwt hf (vs := [ptr b5 0]) rfl) rfl hf rfl rfl (hcl8) ?_
 rintro e w' ⟨he, hO'⟩
 refine ⟨_, he, fun a hf => ?_⟩
 have hO := hch8.back rfl hO' rfl
 refine S.op tb ?_ hf hO hm
 refine rw_ rfl fun a w hf hO hm => ?_
 obtain ⟨r10, hr10, hm⟩ := ob hm
 have hch11 := (show Dk.Own w0 [] _ ([.blk b5 [str r7.2.2.f_s, int r7.2.2.f_at] 148] ++ [.blk b1 [str [], str [], .bool false] 223]) from hO)
 have hfar11 := Dk.Own.far hch11 rfl hF hG.size
 have hlend11 := hch11.lend (S := []) rfl trivial
 have hcl11 := zV r7.2.2 61 r10 _ (hG.own hF hO) hfar11 hlend11 hr10
 refine zo (zj zoH hf (vs := [ptr b5 0, zac 61]) rfl) rfl hf rfl rfl (hcl11) ?_
 rintro e w' ⟨he, hO'⟩
 refine ⟨_, he, fun a hf => ?_⟩
 have hO := hch11.back rfl hO' rfl
 refine S.op tb ?_ hf hO hm
 refine vl rfl rfl (fun a w hf hO => zt (vs := [(0, str r7.1), (2, .bool r10.1)]) (v := .agg #[str r7.1, str [], .bool r10.1]) hf rfl (by kernel_rfl)) ?_
 refine al znU rfl fun b12 => ?_
 refine st 0 rfl rfl ?_
 refine jv 0 [2, 4, 6, 7] [2] (fun J E L => ∃ (s18 : Str) (i19 : Int) (s20 : Str), J (E) (.blk b5 [str s18, int i19] 148 :: .blk b12 [str r7.1, str s20, .bool r10.1] 223 :: L) (zgW r7 r10 s18 i19 s20)) rfl ?_ ?_
 refine ld 0 rfl rfl ?_
 refine br rfl (fun hc15 => ?_) fun hc15 => ?_
 refine rw_ rfl fun a w hf hO hm => ?_
 obtain ⟨r16, hr16, hm⟩ := ob hm
 have hch17 := (show Dk.Own w0 [] _ ([.blk b5 [str r10.2.f_s, int r10.2.f_at] 148] ++ [.blk b12 [str r7.1, str [], .bool r10.1] 223, .blk b1 [str [], str [], .bool false] 223]) from hO.choose [1, 0, 2] rfl)
 have hfar17 := Dk.Own.far hch17 rfl hF hG.size
 have hlend17 := hch17.lend (S := []) rfl trivial
 have hcl17 := zff r10.2 zhC r16 _ (hG.own hF hO) hfar17 hlend17 c_231 (fun y0 r w hG h => zgc (zoI y0 r w hG h)) hr16
 refine zo (zj zwu hf (vs := [ptr b5 0, .func (.func 231) #[] #[]]) rfl) rfl hf rfl rfl (hcl17) ?_
 rintro e w' ⟨he, hO'⟩
 refine ⟨_, he, fun a hf => ?_⟩
 have hO := hch17.back rfl hO' rfl
 refine S.op tb ?_ hf hO hm
 refine st 1 rfl rfl ?_
 exact en rfl fun _ _ j => ⟨r16.2.f_s, r16.2.f_at, r16.1, j rfl⟩
 exact ec [1, 0, 2] rfl rfl rfl fun _ _ j => ⟨r10.2.f_s, r10.2.f_at, [], j rfl⟩
 rintro a w ⟨s18, i19, s20, hf, hO, hm⟩
 rw [zgW] at hm
 refine S.co tb ?_ hf hO hm
 refine jv 0 [2] [0, 1] (fun J E L => ∃ (t28 : Bool), J ((3, .bool t28) :: E) (.blk b1 [str r7.1, str s20, .bool r10.1] 223 :: L) (zdJ r7 r10 s20 t28)) rfl ?_ ?_
 refine rc_ rfl fun a w hf hO hm => ?_
 rcases zgn (r7.2.1) with hc21 | hc21
 have hm := it hc21 hm
 obtain ⟨r22, hr22, hm⟩ := ob hm
 rcases zgn (r22) with hc23 | hc23
 have hm := it hc23 hm
 obtain ⟨r25, hr25, hm⟩ := ob hm
 rcases zgn (r25) with hc26 | hc26
 have hm := it hc26 hm
 obtain ⟨r27, hr27, hm⟩ := ob hm
 refine zlK (S := Nat) (E0 := [(2, ptr b1 0), (4, ptr b5 0), (6, .bool r7.2.1), (7, ptr b12 0)]) (by kernel_rfl) (fun k σ w => match k with | 0 => Dk.Own w0 [] w [.blk b5 [str s18, int i19] 148, .blk b12 [str r7.1, str s20, .bool r10.1] 223, .blk b1 [str [], str [], .bool false] 223] | 1 => Dk.Own w0 [] w [.blk b5 [str s18, int i19] 148, .blk b12 [str r7.1, str s20, .bool r10.1] 223, .blk b1 [str [], str [], .bool false] 223] | 2 => Dk.Own w0 [] w [.row (.slice (some ⟨σ, 0, none⟩) (([s20] : List Str).length) 1) 9 1 (([s20] : List Str).length) (cells zg ([s20] : List Str)), .blk b5 [str s18, int i19] 148, .blk b12 [str r7.1, str s20, .bool r10.1] 223, .blk b1 [str [], str [], .bool false] 223] | 3 => Dk.Own w0 [] w [.row (.slice (some ⟨σ, 0, none⟩) (([s20] : List Str).length) 1) 9 1 (([s20] : List Str).length) (cells zg ([s20] : List Str)), .blk b5 [str s18, int i19] 148, .blk b12 [str r7.1, str s20, .bool r10.1] 223, .blk b1 [str [], str [], .bool false] 223] | 4 => Dk.Own w0 [] w [.row (.slice (some ⟨σ, 0, none⟩) (([s20] : List Str).length) 1) 9 1 (([s20] : List Str).length) (cells zg ([s20] : List Str)), .blk b5 [str s18, int i19] 148, .blk b12 [str r7.1, str s20, .bool r10.1] 223, .blk b1 [str [], str [], .bool false] 223] | _ => Dk.Own w0 [] w [.row (.slice (some ⟨σ, 0, none⟩) (([s20] : List Str).length) 1) 9 1 (([s20] : List Str).length) (cells zg ([s20] : List Str)), .blk b5 [str s18, int i19] 148, .blk b12 [str r7.1, str s20, .bool r10.1] 223, .blk b1 [str r7.1, str s20, .bool r10.1] 223]) (fun σ => [⟨[(7, ptr b12 0)], some (25, .agg #[str r7.1, str s20, .bool r10.1])⟩, ⟨[(6, .bool r7.2.1)], some (26, .bool r7.2.1)⟩, ⟨[(26, .bool r7.2.1)], some (27, .bool r7.2.1)⟩, ⟨[(4, ptr b5 0), (27, .bool r7.2.1)], some (28, ptr b5 0)⟩, ⟨[(28, ptr b5 0), (27, .bool r7.2.1)], some (29, .bool r22)⟩, ⟨[(27, .bool r7.2.1), (29, .bool r22)], some (30, .bool r22)⟩, ⟨[(30, .bool r22)], some (31, .bool r22)⟩, ⟨[(7, ptr b12 0), (31, .bool r22)], some (32, ptr b12 1)⟩, ⟨[(32, ptr b12 1), (31, .bool r22)], some (33, str s20)⟩, ⟨[(33, str s20), (31, .bool r22)], some (34, .slice (some ⟨σ, 0, none⟩) (([s20] : List Str).length) 1)⟩, ⟨[(34, .slice (some ⟨σ, 0, none⟩) (([s20] : List Str).length) 1), (31, .bool r22)], some (35, .bool r25)⟩, ⟨[(31, .bool r22), (35, .bool r25)], some (36, .bool r25)⟩, ⟨[(36, .bool r25)], some (37, .bool r25)⟩, ⟨[(7, ptr b12 0), (37, .bool r25)], some (38, ptr b12 1)⟩, ⟨[(38, ptr b12 1), (37, .bool r25)], some (39, str s20)⟩, ⟨[(39, str s20), (37, .bool r25)], some (40, str r27)⟩, ⟨[(7, ptr b12 0), (37, .bool r25)], some (41, ptr b12 1)⟩, ⟨[(41, ptr b12 1), (37, .bool r25)], some (42, str s20)⟩, ⟨[(40, str r27), (42, str s20), (37, .bool r25)], some (43, .bool (r27 == s20))⟩, ⟨[(37, .bool r25), (43, .bool (r27 == s20))], some (44, .bool (r27 == s20))⟩, ⟨[(2, ptr b1 0), (25, .agg #[str r7.1, str s20, .bool r10.1])], none⟩, ⟨[(44, .bool (r27 == s20))], some (3, .bool (r27 == s20))⟩]) (0) [4, 9, 10, 15, 20] [] ⟨zan rfl rfl, zan rfl rfl, zan rfl rfl, z7 (u := fun σ => r7.2.1) rfl (fun σ => rfl) rfl (fun σ => rfl) (fun σ => by rw [hc21] <;> rfl), z7 (u := fun σ => r7.2.1) rfl (fun σ => rfl) rfl (fun σ => rfl) (fun σ => by rw [hc21] <;> rfl), zan rfl rfl, zan rfl rfl, z7 (u := fun σ => r22) rfl (fun σ => rfl) rfl (fun σ => rfl) (fun σ => by rw [hc23] <;> rfl), z7 (u := fun σ => r22) rfl (fun σ => rfl) rfl (fun σ => rfl) (fun σ => by rw [hc23] <;> rfl), z7 (u := fun σ => r22) rfl (fun σ => rfl) rfl (fun σ => rfl) (fun σ => by rw [hc23] <;> rfl), z7 (u := fun σ => r22) rfl (fun σ => rfl) rfl (fun σ => rfl) (fun σ => by rw [hc23] <;> rfl), zan rfl rfl, zan rfl rfl, z7 (u := fun σ => r25) rfl (fun σ => rfl) rfl (fun σ => rfl) (fun σ => by rw [hc26] <;> rfl), z7 (u := fun σ => r25) rfl (fun σ => rfl) rfl (fun σ => rfl) (fun σ => by rw [hc26] <;> rfl), z7 (u := fun σ => r25) rfl (fun σ => rfl) rfl (fun σ => rfl) (fun σ => by rw [hc26] <;> rfl), z7 (u := fun σ => r25) rfl (fun σ => rfl) rfl (fun σ => rfl) (fun σ => by rw [hc26] <;> rfl), z7 (u := fun σ => r25) rfl (fun σ => rfl) rfl (fun σ => rfl) (fun σ => by rw [hc26] <;> rfl), z7 (u := fun σ => r25) rfl (fun σ => rfl) rfl (fun σ => rfl) (fun σ => by rw [hc26] <;> rfl), zan rfl rfl, zan rfl rfl, zan rfl rfl, trivial⟩ (fun σ => ⟨.inl rfl, .inl rfl, .inl rfl, .inl rfl, .inl rfl, .inl rfl, .inl rfl, .inl rfl, .inl rfl, .inl rfl, .inl rfl, .inl rfl, .inl rfl, .inl rfl, .inl rfl, .inl rfl, .inl rfl, .inl rfl, .inl rfl, .inl rfl, .inl rfl, .inl rfl, trivial⟩) (fun _ => rfl) (fun _ => rfl) (fun _ => rfl) rfl rfl (by decide) rfl hO.drew (hf.cons rfl (hf.cons rfl (hf.cons rfl (hf.cons rfl hf.nil)))) (fun σ => ⟨⟨rfl, trivial⟩, ⟨rfl, trivial⟩, ⟨rfl, trivial⟩, ⟨rfl, rfl, trivial⟩, ⟨rfl, rfl, trivial⟩, ⟨rfl, rfl, trivial⟩, ⟨rfl, trivial⟩, ⟨rfl, rfl, trivial⟩, ⟨rfl, rfl, trivial⟩, ⟨rfl, rfl, trivial⟩, ⟨rfl, rfl, trivial⟩, ⟨rfl, rfl, trivial⟩, ⟨rfl, trivial⟩, ⟨rfl, rfl, trivial⟩, ⟨rfl, rfl, trivial⟩, ⟨rfl, rfl, trivial⟩, ⟨rfl, rfl, trivial⟩, ⟨rfl, rfl, trivial⟩, ⟨rfl, rfl, rfl, trivial⟩, ⟨rfl, rfl, trivial⟩, ⟨rfl, rfl, trivial⟩, ⟨rfl, trivial⟩, trivial⟩) ⟨.inr ⟨rfl, zd rfl (fun σ => rfl) (fun σ => rfl) (fun σ a w k hk hlo hup hst hf => match k, hk, hlo, hup, hst, hf with | 0, _, _, _, hst, hf => have hO : Dk.Own w0 [] w _ := hst; zq (o := 0) (vs := [str r7.1, str s20, .bool r10.1]) zc0 zaZ (hO.blkSees (i := 1) rfl) rfl rfl hf rfl | 1, _, _, _, hst, hf => have hO : Dk.Own w0 [] w _ := hst; zq (o := 0) (vs := [str r7.1, str s20, .bool r10.1]) zc0 zaZ (hO.blkSees (i := 1) rfl) rfl rfl hf rfl | 2, _, _, _, hst, hf => have hO : Dk.Own w0 [] w _ := hst; zq (o := 0) (vs := [str r7.1, str s20, .bool r10.1]) zc0 zaZ (hO.blkSees (i := 2) rfl) rfl rfl hf rfl | 3, _, _, _, hst, hf => have hO : Dk.Own w0 [] w _ := hst; zq (o := 0) (vs := [str r7.1, str s20, .bool r10.1]) zc0 zaZ (hO.blkSees (i := 2) rfl) rfl rfl hf rfl | 4, _, _, _, hst, hf => have hO : Dk.Own w0 [] w _ := hst; zq (o := 0) (vs := [str r7.1, str s20, .bool r10.1]) zc0 zaZ (hO.blkSees (i := 2) rfl) rfl rfl hf rfl | 5, _, _, _, hst, hf => have hO : Dk.Own w0 [] w _ := hst; zq (o := 0) (vs := [str r7.1, str s20, .bool r10.1]) zc0 zaZ (hO.blkSees (i := 2) rfl) rfl rfl hf rfl | k + 6, hk, _, _, _, _ => absurd hk (by simp))⟩, .inr ⟨rfl, zd rfl (fun σ => rfl) (fun σ => rfl) (fun σ a w k _ _ _ _ hf => zp hf rfl)⟩, .inr ⟨rfl, zd rfl (fun σ => rfl) (fun σ => rfl) (fun σ a w k _ _ _ _ hf => zp hf rfl)⟩, .inr ⟨rfl, zd rfl (fun σ => rfl) (fun σ => rfl) (fun σ a w k _ _ _ _ hf => zp hf rfl)⟩, .inr ⟨rfl, zaR rfl (fun σ => rfl) (fun σ => rfl) rfl (fun σ a w (_ : _) hf => zj c_59 hf (vs := [ptr b5 0]) rfl) (fun σ w (hO : Dk.Own w0 [] w _) => (zbH (⟨s18, i19⟩ : scan_Scanner) r22 _ (hG.own hF hO) (hO.blkSees (i := 0) rfl) hr22).mono fun e w' h => by obtain ⟨he, hb⟩ := h; exact ⟨(σ), he, hO.grow hb, .inr rfl, .inr rfl, .inr rfl, .inr rfl, .inr rfl, .inr rfl, .inr rfl, .inr rfl, .inr rfl, .inr rfl, .inr rfl, .inr rfl, .inr rfl, .inr rfl, .inr rfl, .inr rfl, .inr rfl, .inr rfl, .inr rfl, .inr rfl, .inr rfl, .inr rfl, trivial⟩)⟩, .inr ⟨rfl, zd rfl (fun σ => rfl) (fun σ => rfl) (fun σ a w k _ _ _ _ hf => zhh hf rfl hc21 rfl)⟩, .inr ⟨rfl, zd rfl (fun σ => rfl) (fun σ => rfl) (fun σ a w k _ _ _ _ hf => zp hf rfl)⟩, .inr ⟨rfl, zd rfl (fun σ => rfl) (fun σ => rfl) (fun σ a w k _ _ _ _ hf => zz zlC hf rfl)⟩, .inr ⟨rfl, zd rfl (fun σ => rfl) (fun σ => rfl) (fun σ a w k hk hlo hup hst hf => match k, hk, hlo, hup, hst, hf with | 0, _, _, _, hst, hf => have hO : Dk.Own w0 [] w _ := hst; zf (o := 1) zX (hO.blkSees (i := 1) rfl) rfl hf rfl | 1, _, _, _, hst, hf => have hO : Dk.Own w0 [] w _ := hst; zf (o := 1) zX (hO.blkSees (i := 1) rfl) rfl hf rfl | 2, _, _, _, hst, hf => have hO : Dk.Own w0 [] w _ := hst; zf (o := 1) zX (hO.blkSees (i := 2) rfl) rfl hf rfl | 3, _, _, _, hst, hf => have hO : Dk.Own w0 [] w _ := hst; zf (o := 1) zX (hO.blkSees (i := 2) rfl) rfl hf rfl | 4, _, _, _, hst, hf => have hO : Dk.Own w0 [] w _ := hst; zf (o := 1) zX (hO.blkSees (i := 2) rfl) rfl hf rfl | 5, _, _, _, hst, hf => have hO : Dk.Own w0 [] w _ := hst; zf (o := 1) zX (hO.blkSees (i := 2) rfl) rfl hf rfl | k + 6, hk, _, _, _, _ => absurd hk (by simp))⟩, .inr ⟨rfl, zfC rfl (fun σ => rfl) (fun σ => rfl) rfl (fun σ w (hO : Dk.Own w0 [] w _) => by obtain ⟨b24, w', hO', hr⟩ := zbN (E := [(33, str s20), (31, .bool r22)]) (parts := #[(0, (.tmp 33))]) (t' := 42) (n := 1) (vs := [(0, str s20)]) (cs := [str s20]) (e := 9) (sz := 1) (fun w => by kernel_rfl) rfl rfl hO rfl; exact ⟨(b24), w', hO', ⟨.inr rfl, .inr rfl, .inr rfl, .inr rfl, .inr rfl, .inr rfl, .inr rfl, .inr rfl, .inr rfl, .inl rfl, .inl rfl, .inr rfl, .inr rfl, .inr rfl, .inr rfl, .inr rfl, .inr rfl, .inr rfl, .inr rfl, .inr rfl, .inr rfl, .inr rfl, trivial⟩, hr⟩)⟩, .inr ⟨rfl, zaR rfl (fun σ => rfl) (fun σ => rfl) rfl (fun σ a w (_ : _) hf => zj zkK hf (vs := [.func (.func 168) #[] #[], .slice (some ⟨σ, 0, none⟩) (([s20] : List Str).length) 1]) rfl) (fun σ w (hO : Dk.Own w0 [] w _) => (zbA zaJ ([s20] : List Str) r25 _ (hG.own hF hO) zte (fun y0 r w hG h => zgc (zen y0 r w hG h)) (hO.rowSees (i := 0) rfl) (hO.rowCap (i := 0) rfl) hr25).mono fun e w' h => by obtain ⟨he, hb⟩ := h; exact ⟨(σ), he, hO.grow hb, .inr rfl, .inr rfl, .inr rfl, .inr rfl, .inr rfl, .inr rfl, .inr rfl, .inr rfl, .inr rfl, .inr rfl, .inr rfl, .inr rfl, .inr rfl, .inr rfl, .inr rfl, .inr rfl, .inr rfl, .inr rfl, .inr rfl, .inr rfl, .inr rfl, .inr rfl, trivial⟩)⟩, .inr ⟨rfl, zd rfl (fun σ => rfl) (fun σ => rfl) (fun σ a w k _ _ _ _ hf => zhh hf rfl hc23 rfl)⟩, .inr ⟨rfl, zd rfl (fun σ => rfl) (fun σ => rfl) (fun σ a w k _ _ _ _ hf => zp hf rfl)⟩, .inr ⟨rfl, zd rfl (fun σ => rfl) (fun σ => rfl) (fun σ a w k _ _ _ _ hf => zz zlC hf rfl)⟩, .inr ⟨rfl, zd rfl (fun σ => rfl) (fun σ => rfl) (fun σ a w k hk hlo hup hst hf => match k, hk, hlo, hup, hst, hf with | 0, _, _, _, hst, hf => have hO : Dk.Own w0 [] w _ := hst; zf (o := 1) zX (hO.blkSees (i := 1) rfl) rfl hf rfl | 1, _, _, _, hst, hf => have hO : Dk.Own w0 [] w _ := hst; zf (o := 1) zX (hO.blkSees (i := 1) rfl) rfl hf rfl | 2, _, _, _, hst, hf => have hO : Dk.Own w0 [] w _ := hst; zf (o := 1) zX (hO.blkSees (i := 2) rfl) rfl hf rfl | 3, _, _, _, hst, hf => have hO : Dk.Own w0 [] w _ := hst; zf (o := 1) zX (hO.blkSees (i := 2) rfl) rfl hf rfl | 4, _, _, _, hst, hf => have hO : Dk.Own w0 [] w _ := hst; zf (o := 1) zX (hO.blkSees (i := 2) rfl) rfl hf rfl | 5, _, _, _, hst, hf => have hO : Dk.Own w0 [] w _ := hst; zf (o := 1) zX (hO.blkSees (i := 2) rfl) rfl hf rfl | k + 6, hk, _, _, _, _ => absurd hk (by simp))⟩, .inr ⟨rfl, zaR rfl (fun σ => rfl) (fun σ => rfl) rfl (fun σ a w (_ : _) hf => zj zus hf (vs := [str s20, str [32, 9]]) rfl) (fun σ w (hO : Dk.Own w0 [] w _) => (zgD s20 [32, 9] r27 _ (hG.own hF hO) hr27).mono fun e w' h => by obtain ⟨he, hb⟩ := h; exact ⟨(σ), he, hO.grow hb, .inr rfl, .inr rfl, .inr rfl, .inr rfl, .inr rfl, .inr rfl, .inr rfl, .inr rfl, .inr rfl, .inr rfl, .inr rfl, .inr rfl, .inr rfl, .inr rfl, .inr rfl, .inr rfl, .inr rfl, .inr rfl, .inr rfl, .inr rfl, .inr rfl, .inr rfl, trivial⟩)⟩, .inr ⟨rfl, zd rfl (fun σ => rfl) (fun σ => rfl) (fun σ a w k _ _ _ _ hf => zz zlC hf rfl)⟩, .inr ⟨rfl, zd rfl (fun σ => rfl) (fun σ => rfl) (fun σ a w k hk hlo hup hst hf => match k, hk, hlo, hup, hst, hf with | 0, _, _, _, hst, hf => have hO : Dk.Own w0 [] w _ := hst; zf (o := 1) zX (hO.blkSees (i := 1) rfl) rfl hf rfl | 1, _, _, _, hst, hf => have hO : Dk.Own w0 [] w _ := hst; zf (o := 1) zX (hO.blkSees (i := 1) rfl) rfl hf rfl | 2, _, _, _, hst, hf => have hO : Dk.Own w0 [] w _ := hst; zf (o := 1) zX (hO.blkSees (i := 2) rfl) rfl hf rfl | 3, _, _, _, hst, hf => have hO : Dk.Own w0 [] w _ := hst; zf (o := 1) zX (hO.blkSees (i := 2) rfl) rfl hf rfl | 4, _, _, _, hst, hf => have hO : Dk.Own w0 [] w _ := hst; zf (o := 1) zX (hO.blkSees (i := 2) rfl) rfl hf rfl | 5, _, _, _, hst, hf => have hO : Dk.Own w0 [] w _ := hst; zf (o := 1) zX (hO.blkSees (i := 2) rfl) rfl hf rfl | k + 6, hk, _, _, _, _ => absurd hk (by simp))⟩, .inr ⟨rfl, zd rfl (fun σ => rfl) (fun σ => rfl) (fun σ a w k _ _ _ _ hf => zsh (l := r27) (m := s20) hf rfl rfl)⟩, .inr ⟨rfl, zd rfl (fun σ => rfl) (fun σ => rfl) (fun σ a w k _ _ _ _ hf => zhh hf rfl hc26 rfl)⟩, .inr ⟨rfl, zbC rfl (fun σ => rfl) (fun σ => rfl) rfl (fun σ w (hO : Dk.Own w0 [] w _) => by obtain ⟨w', hO', hr⟩ := zeq (x := (.tmp 2)) (y := (.tmp 25)) (E := [(2, ptr b1 0), (25, .agg #[str r7.1, str s20, .bool r10.1])]) (i := 3) (n := 3) (vs := [str r7.1, str s20, .bool r10.1]) zaZ rfl rfl rfl (by simp [Value.oneCell']) hO rfl rfl; exact ⟨(σ), w', hO', ⟨.inr rfl, .inr rfl, .inr rfl, .inr rfl, .inr rfl, .inr rfl, .inr rfl, .inr rfl, .inr rfl, .inr rfl, .inr rfl, .inr rfl, .inr rfl, .inr rfl, .inr rfl, .inr rfl, .inr rfl, .inr rfl, .inr rfl, .inr rfl, .inr rfl, .inr rfl, trivial⟩, hr⟩)⟩, .inr ⟨rfl, zd rfl (fun σ => rfl) (fun σ => rfl) (fun σ a w k _ _ _ _ hf => z8 hf rfl)⟩, trivial⟩ ?_
 rintro b24 a w hf hO
 have hO : Dk.Own w0 [] w _ := hO
 have hf : Fits 45 [(2, ptr b1 0), (3, .bool (r27 == s20))] a := (hf.cons rfl (hf.cons rfl hf.nil))
 refine S.no tb ?_ hf hO hm
 exact ec [3, 1, 2] rfl rfl rfl fun _ _ j => ⟨r27 == s20, j rfl⟩
 have hm := ie hc26 hm
 refine zlK (S := Nat) (E0 := [(2, ptr b1 0), (4, ptr b5 0), (6, .bool r7.2.1), (7, ptr b12 0)]) (by kernel_rfl) (fun k σ w => match k with | 0 => Dk.Own w0 [] w [.blk b5 [str s18, int i19] 148, .blk b12 [str r7.1, str s20, .bool r10.1] 223, .blk b1 [str [], str [], .bool false] 223] | 1 => Dk.Own w0 [] w [.blk b5 [str s18, int i19] 148, .blk b12 [str r7.1, str s20, .bool r10.1] 223, .blk b1 [str [], str [], .bool false] 223] | 2 => Dk.Own w0 [] w [.row (.slice (some ⟨σ, 0, none⟩) (([s20] : List Str).length) 1) 9 1 (([s20] : List Str).length) (cells zg ([s20] : List Str)), .blk b5 [str s18, int i19] 148, .blk b12 [str r7.1, str s20, .bool r10.1] 223, .blk b1 [str [], str [], .bool false] 223] | 3 => Dk.Own w0 [] w [.row (.slice (some ⟨σ, 0, none⟩) (([s20] : List Str).length) 1) 9 1 (([s20] : List Str).length) (cells zg ([s20] : List Str)), .blk b5 [str s18, int i19] 148, .blk b12 [str r7.1, str s20, .bool r10.1] 223, .blk b1 [str [], str [], .bool false] 223] | _ => Dk.Own w0 [] w [.row (.slice (some ⟨σ, 0, none⟩) (([s20] : List Str).length) 1) 9 1 (([s20] : List Str).length) (cells zg ([s20] : List Str)), .blk b5 [str s18, int i19] 148, .blk b12 [str r7.1, str s20, .bool r10.1] 223, .blk b1 [str r7.1, str s20, .bool r10.1] 223]) (fun σ => [⟨[(7, ptr b12 0)], some (25, .agg #[str r7.1, str s20, .bool r10.1])⟩, ⟨[(6, .bool r7.2.1)], some (26, .bool r7.2.1)⟩, ⟨[(26, .bool r7.2.1)], some (27, .bool r7.2.1)⟩, ⟨[(4, ptr b5 0), (27, .bool r7.2.1)], some (28, ptr b5 0)⟩, ⟨[(28, ptr b5 0), (27, .bool r7.2.1)], some (29, .bool r22)⟩, ⟨[(27, .bool r7.2.1), (29, .bool r22)], some (30, .bool r22)⟩, ⟨[(30, .bool r22)], some (31, .bool r22)⟩, ⟨[(7, ptr b12 0), (31, .bool r22)], some (32, ptr b12 1)⟩, ⟨[(32, ptr b12 1), (31, .bool r22)], some (33, str s20)⟩, ⟨[(33, str s20), (31, .bool r22)], some (34, .slice (some ⟨σ, 0, none⟩) (([s20] : List Str).length) 1)⟩, ⟨[(34, .slice (some ⟨σ, 0, none⟩) (([s20] : List Str).length) 1), (31, .bool r22)], some (35, .bool r25)⟩, ⟨[(31, .bool r22), (35, .bool r25)], some (36, .bool r25)⟩, ⟨[(36, .bool r25)], some (37, .bool r25)⟩, ⟨[(37, .bool r25)], some (38, undef)⟩, ⟨[(37, .bool r25)], some (39, undef)⟩, ⟨[(37, .bool r25)], some (40, undef)⟩, ⟨[(37, .bool r25)], some (41, undef)⟩, ⟨[(37, .bool r25)], some (42, undef)⟩, ⟨[(37, .bool r25)], some (43, undef)⟩, ⟨[(37, .bool r25), (43, undef)], some (44, .bool false)⟩, ⟨[(2, ptr b1 0), (25, .agg #[str r7.1, str s20, .bool r10.1])], none⟩, ⟨[(44, .bool false)], some (3, .bool false)⟩]) (0) [4, 9, 10, 20] [13, 14, 15, 16, 17, 18] ⟨zan rfl rfl, zan rfl rfl, zan rfl rfl, z7 (u := fun σ => r7.2.1) rfl (fun σ => rfl) rfl (fun σ => rfl) (fun σ => by rw [hc21] <;> rfl), z7 (u := fun σ => r7.2.1) rfl (fun σ => rfl) rfl (fun σ => rfl) (fun σ => by rw [hc21] <;> rfl), zan rfl rfl, zan rfl rfl, z7 (u := fun σ => r22) rfl (fun σ => rfl) rfl (fun σ => rfl) (fun σ => by rw [hc23] <;> rfl), z7 (u := fun σ => r22) rfl (fun σ => rfl) rfl (fun σ => rfl) (fun σ => by rw [hc23] <;> rfl), z7 (u := fun σ => r22) rfl (fun σ => rfl) rfl (fun σ => rfl) (fun σ => by rw [hc23] <;> rfl), z7 (u := fun σ => r22) rfl (fun σ => rfl) rfl (fun σ => rfl) (fun σ => by rw [hc23] <;> rfl), zan rfl rfl, zan rfl rfl, z7 (u := fun σ => r25) rfl (fun σ => rfl) rfl (fun σ => rfl) (fun σ => by rw [hc26] <;> rfl), z7 (u := fun σ => r25) rfl (fun σ => rfl) rfl (fun σ => rfl) (fun σ => by rw [hc26] <;> rfl), z7 (u := fun σ => r25) rfl (fun σ => rfl) rfl (fun σ => rfl) (fun σ => by rw [hc26] <;> rfl), z7 (u := fun σ => r25) rfl (fun σ => rfl) rfl (fun σ => rfl) (fun σ => by rw [hc26] <;> rfl), z7 (u := fun σ => r25) rfl (fun σ => rfl) rfl (fun σ => rfl) (fun σ => by rw [hc26] <;> rfl), z7 (u := fun σ => r25) rfl (fun σ => rfl) rfl (fun σ => rfl) (fun σ => by rw [hc26] <;> rfl), zan rfl rfl, zan rfl rfl, zan rfl rfl, trivial⟩ (fun σ => ⟨.inl rfl, .inl rfl, .inl rfl, .inl rfl, .inl rfl, .inl rfl, .inl rfl, .inl rfl, .inl rfl, .inl rfl, .inl rfl, .inl rfl, .inl rfl, .inr ⟨rfl, rfl⟩, .inr ⟨rfl, rfl⟩, .inr ⟨rfl, rfl⟩, .inr ⟨rfl, rfl⟩, .inr ⟨rfl, rfl⟩, .inr ⟨rfl, rfl⟩, .inl rfl, .inl rfl, .inl rfl, trivial⟩) (fun _ => rfl) (fun _ => rfl) (fun _ => rfl) rfl rfl (by decide) rfl hO.drew (hf.cons rfl (hf.cons rfl (hf.cons rfl (hf.cons rfl hf.nil)))) (fun σ => ⟨⟨rfl, trivial⟩, ⟨rfl, trivial⟩, ⟨rfl, trivial⟩, ⟨rfl, rfl, trivial⟩, ⟨rfl, rfl, trivial⟩, ⟨rfl, rfl, trivial⟩, ⟨rfl, trivial⟩, ⟨rfl, rfl, trivial⟩, ⟨rfl, rfl, trivial⟩, ⟨rfl, rfl, trivial⟩, ⟨rfl, rfl, trivial⟩, ⟨rfl, rfl, trivial⟩, ⟨rfl, trivial⟩, ⟨rfl, trivial⟩, ⟨rfl, trivial⟩, ⟨rfl, trivial⟩, ⟨rfl, trivial⟩, ⟨rfl, trivial⟩, ⟨rfl, trivial⟩, ⟨rfl, rfl, trivial⟩, ⟨rfl, rfl, trivial⟩, ⟨rfl, trivial⟩, trivial⟩) ⟨.inr ⟨rfl, zd rfl (fun σ => rfl) (fun σ => rfl) (fun σ a w k hk hlo hup hst hf => match k, hk, hlo, hup, hst, hf with | 0, _, _, _, hst, hf => have hO : Dk.Own w0 [] w _ := hst; zq (o := 0) (vs := [str r7.1, str s20, .bool r10.1]) zc0 zaZ (hO.blkSees (i := 1) rfl) rfl rfl hf rfl | 1, _, _, _, hst, hf => have hO : Dk.Own w0 [] w _ := hst; zq (o := 0) (vs := [str r7.1, str s20, .bool r10.1]) zc0 zaZ (hO.blkSees (i := 1) rfl) rfl rfl hf rfl | 2, _, _, _, hst, hf => have hO : Dk.Own w0 [] w _ := hst; zq (o := 0) (vs := [str r7.1, str s20, .bool r10.1]) zc0 zaZ (hO.blkSees (i := 2) rfl) rfl rfl hf rfl | 3, _, _, _, hst, hf => have hO : Dk.Own w0 [] w _ := hst; zq (o := 0) (vs := [str r7.1, str s20, .bool r10.1]) zc0 zaZ (hO.blkSees (i := 2) rfl) rfl rfl hf rfl | 4, _, _, _, hst, hf => have hO : Dk.Own w0 [] w _ := hst; zq (o := 0) (vs := [str r7.1, str s20, .bool r10.1]) zc0 zaZ (hO.blkSees (i := 2) rfl) rfl rfl hf rfl | k + 5, hk, _, _, _, _ => absurd hk (by simp))⟩, .inr ⟨rfl, zd rfl (fun σ => rfl) (fun σ => rfl) (fun σ a w k _ _ _ _ hf => zp hf rfl)⟩, .inr ⟨rfl, zd rfl (fun σ => rfl) (fun σ => rfl) (fun σ a w k _ _ _ _ hf => zp hf rfl)⟩, .inr ⟨rfl, zd rfl (fun σ => rfl) (fun σ => rfl) (fun σ a w k _ _ _ _ hf => zp hf rfl)⟩, .inr ⟨rfl, zaR rfl (fun σ => rfl) (fun σ => rfl) rfl (fun σ a w (_ : _) hf => zj c_59 hf (vs := [ptr b5 0]) rfl) (fun σ w (hO : Dk.Own w0 [] w _) => (zbH (⟨s18, i19⟩ : scan_Scanner) r22 _ (hG.own hF hO) (hO.blkSees (i := 0) rfl) hr22).mono fun e w' h => by obtain ⟨he, hb⟩ := h; exact ⟨(σ), he, hO.grow hb, .inr rfl, .inr rfl, .inr rfl, .inr rfl, .inr rfl, .inr rfl, .inr rfl, .inr rfl, .inr rfl, .inr rfl, .inr rfl, .inr rfl, .inr rfl, .inr rfl, .inr rfl, .inr rfl, .inr rfl, .inr rfl, .inr rfl, .inr rfl, .inr rfl, .inr rfl, trivial⟩)⟩, .inr ⟨rfl, zd rfl (fun σ => rfl) (fun σ => rfl) (fun σ a w k _ _ _ _ hf => zhh hf rfl hc21 rfl)⟩, .inr ⟨rfl, zd rfl (fun σ => rfl) (fun σ => rfl) (fun σ a w k _ _ _ _ hf => zp hf rfl)⟩, .inr ⟨rfl, zd rfl (fun σ => rfl) (fun σ => rfl) (fun σ a w k _ _ _ _ hf => zz zlC hf rfl)⟩, .inr ⟨rfl, zd rfl (fun σ => rfl) (fun σ => rfl) (fun σ a w k hk hlo hup hst hf => match k, hk, hlo, hup, hst, hf with | 0, _, _, _, hst, hf => have hO : Dk.Own w0 [] w _ := hst; zf (o := 1) zX (hO.blkSees (i := 1) rfl) rfl hf rfl | 1, _, _, _, hst, hf => have hO : Dk.Own w0 [] w _ := hst; zf (o := 1) zX (hO.blkSees (i := 1) rfl) rfl hf rfl | 2, _, _, _, hst, hf => have hO : Dk.Own w0 [] w _ := hst; zf (o := 1) zX (hO.blkSees (i := 2) rfl) rfl hf rfl | 3, _, _, _, hst, hf => have hO : Dk.Own w0 [] w _ := hst; zf (o := 1) zX (hO.blkSees (i := 2) rfl) rfl hf rfl | 4, _, _, _, hst, hf => have hO : Dk.Own w0 [] w _ := hst; zf (o := 1) zX (hO.blkSees (i := 2) rfl) rfl hf rfl | k + 5, hk, _, _, _, _ => absurd hk (by simp))⟩, .inr ⟨rfl, zfC rfl (fun σ => rfl) (fun σ => rfl) rfl (fun σ w (hO : Dk.Own w0 [] w _) => by obtain ⟨b24, w', hO', hr⟩ := zbN (E := [(33, str s20), (31, .bool r22)]) (parts := #[(0, (.tmp 33))]) (t' := 42) (n := 1) (vs := [(0, str s20)]) (cs := [str s20]) (e := 9) (sz := 1) (fun w => by kernel_rfl) rfl rfl hO rfl; exact ⟨(b24), w', hO', ⟨.inr rfl, .inr rfl, .inr rfl, .inr rfl, .inr rfl, .inr rfl, .inr rfl, .inr rfl, .inr rfl, .inl rfl, .inl rfl, .inr rfl, .inr rfl, .inr rfl, .inr rfl, .inr rfl, .inr rfl, .inr rfl, .inr rfl, .inr rfl, .inr rfl, .inr rfl, trivial⟩, hr⟩)⟩, .inr ⟨rfl, zaR rfl (fun σ => rfl) (fun σ => rfl) rfl (fun σ a w (_ : _) hf => zj zkK hf (vs := [.func (.func 168) #[] #[], .slice (some ⟨σ, 0, none⟩) (([s20] : List Str).length) 1]) rfl) (fun σ w (hO : Dk.Own w0 [] w _) => (zbA zaJ ([s20] : List Str) r25 _ (hG.own hF hO) zte (fun y0 r w hG h => zgc (zen y0 r w hG h)) (hO.rowSees (i := 0) rfl) (hO.rowCap (i := 0) rfl) hr25).mono fun e w' h => by obtain ⟨he, hb⟩ := h; exact ⟨(σ), he, hO.grow hb, .inr rfl, .inr rfl, .inr rfl, .inr rfl, .inr rfl, .inr rfl, .inr rfl, .inr rfl, .inr rfl, .inr rfl, .inr rfl, .inr rfl, .inr rfl, .inr rfl, .inr rfl, .inr rfl, .inr rfl, .inr rfl, .inr rfl, .inr rfl, .inr rfl, .inr rfl, trivial⟩)⟩, .inr ⟨rfl, zd rfl (fun σ => rfl) (fun σ => rfl) (fun σ a w k _ _ _ _ hf => zhh hf rfl hc23 rfl)⟩, .inr ⟨rfl, zd rfl (fun σ => rfl) (fun σ => rfl) (fun σ a w k _ _ _ _ hf => zp hf rfl)⟩, .inl rfl, .inl rfl, .inl rfl, .inl rfl, .inl rfl, .inl rfl, .inr ⟨rfl, zd rfl (fun σ => rfl) (fun σ => rfl) (fun σ a w k _ _ _ _ hf => ziz hf rfl hc26 rfl)⟩, .inr ⟨rfl, zbC rfl (fun σ => rfl) (fun σ => rfl) rfl (fun σ w (hO : Dk.Own w0 [] w _) => by obtain ⟨w', hO', hr⟩ := zeq (x := (.tmp 2)) (y := (.tmp 25)) (E := [(2, ptr b1 0), (25, .agg #[str r7.1, str s20, .bool r10.1])]) (i := 3) (n := 3) (vs := [str r7.1, str s20, .bool r10.1]) zaZ rfl rfl rfl (by simp [Value.oneCell']) hO rfl rfl; exact ⟨(σ), w', hO', ⟨.inr rfl, .inr rfl, .inr rfl, .inr rfl, .inr rfl, .inr rfl, .inr rfl, .inr rfl, .inr rfl, .inr rfl, .inr rfl, .inr rfl, .inr rfl, .inr rfl, .inr rfl, .inr rfl, .inr rfl, .inr rfl, .inr rfl, .inr rfl, .inr rfl, .inr rfl, trivial⟩, hr⟩)⟩, .inr ⟨rfl, zd rfl (fun σ => rfl) (fun σ => rfl) (fun σ a w k _ _ _ _ hf => z8 hf rfl)⟩, trivial⟩ ?_
 rintro b24 a w hf hO
 have hO : Dk.Own w0 [] w _ := hO
 have hf : Fits 45 [(2, ptr b1 0), (3, .bool false)] a := (hf.cons rfl (hf.cons rfl hf.nil))
 refine S.no tb ?_ hf hO hm
 exact ec [3, 1, 2] rfl rfl rfl fun _ _ j => ⟨false, j rfl⟩
 have hm := ie hc23 hm
 refine zlK (S := Unit) (E0 := [(2, ptr b1 0), (4, ptr b5 0), (6, .bool r7.2.1), (7, ptr b12 0)]) (by kernel_rfl) (fun k σ w => match k with | 0 => Dk.Own w0 [] w [.blk b5 [str s18, int i19] 148, .blk b12 [str r7.1, str s20, .bool r10.1] 223, .blk b1 [str [], str [], .bool false] 223] | 1 => Dk.Own w0 [] w [.blk b5 [str s18, int i19] 148, .blk b12 [str r7.1, str s20, .bool r10.1] 223, .blk b1 [str [], str [], .bool false] 223] | _ => Dk.Own w0 [] w [.blk b5 [str s18, int i19] 148, .blk b12 [str r7.1, str s20, .bool r10.1] 223, .blk b1 [str r7.1, str s20, .bool r10.1] 223]) (fun σ => [⟨[(7, ptr b12 0)], some (25, .agg #[str r7.1, str s20, .bool r10.1])⟩, ⟨[(6, .bool r7.2.1)], some (26, .bool r7.2.1)⟩, ⟨[(26, .bool r7.2.1)], some (27, .bool r7.2.1)⟩, ⟨[(4, ptr b5 0), (27, .bool r7.2.1)], some (28, ptr b5 0)⟩, ⟨[(28, ptr b5 0), (27, .bool r7.2.1)], some (29, .bool r22)⟩, ⟨[(27, .bool r7.2.1), (29, .bool r22)], some (30, .bool r22)⟩, ⟨[(30, .bool r22)], some (31, .bool r22)⟩, ⟨[(31, .bool r22)], some (32, undef)⟩, ⟨[(31, .bool r22)], some (33, undef)⟩, ⟨[(31, .bool r22)], some (34, undef)⟩, ⟨[(31, .bool r22)], some (35, undef)⟩, ⟨[(31, .bool r22), (35, undef)], some (36, .bool false)⟩, ⟨[(36, .bool false)], some (37, .bool false)⟩, ⟨[(37, .bool false)], some (38, undef)⟩, ⟨[(37, .bool false)], some (39, undef)⟩, ⟨[(37, .bool false)], some (40, undef)⟩, ⟨[(37, .bool false)], some (41, undef)⟩, ⟨[(37, .bool false)], some (42, undef)⟩, ⟨[(37, .bool false)], some (43, undef)⟩, ⟨[(37, .bool false), (43, undef)], some (44, .bool false)⟩, ⟨[(2, ptr b1 0), (25, .agg #[str r7.1, str s20, .bool r10.1])], none⟩, ⟨[(44, .bool false)], some (3, .bool false)⟩]) () [4, 20] [7, 8, 9, 10, 13, 14, 15, 16, 17, 18] ⟨zan rfl rfl, zan rfl rfl, zan rfl rfl, z7 (u := fun σ => r7.2.1) rfl (fun σ => rfl) rfl (fun σ => rfl) (fun σ => by rw [hc21] <;> rfl), z7 (u := fun σ => r7.2.1) rfl (fun σ => rfl) rfl (fun σ => rfl) (fun σ => by rw [hc21] <;> rfl), zan rfl rfl, zan rfl rfl, z7 (u := fun σ => r22) rfl (fun σ => rfl) rfl (fun σ => rfl) (fun σ => by rw [hc23] <;> rfl), z7 (u := fun σ => r22) rfl (fun σ => rfl) rfl (fun σ => rfl) (fun σ => by rw [hc23] <;> rfl), z7 (u := fun σ => r22) rfl (fun σ => rfl) rfl (fun σ => rfl) (fun σ => by rw [hc23] <;> rfl), z7 (u := fun σ => r22) rfl (fun σ => rfl) rfl (fun σ => rfl) (fun σ => by rw [hc23] <;> rfl), zan rfl rfl, zan rfl rfl, z7 (u := fun σ => false) rfl (fun σ => rfl) rfl (fun σ => rfl) (fun σ => rfl), z7 (u := fun σ => false) rfl (fun σ => rfl) rfl (fun σ => rfl) (fun σ => rfl), z7 (u := fun σ => false) rfl (fun σ => rfl) rfl (fun σ => rfl) (fun σ => rfl), z7 (u := fun σ => false) rfl (fun σ => rfl) rfl (fun σ => rfl) (fun σ => rfl), z7 (u := fun σ => false) rfl (fun σ => rfl) rfl (fun σ => rfl) (fun σ => rfl), z7 (u := fun σ => false) rfl (fun σ => rfl) rfl (fun σ => rfl) (fun σ => rfl), zan rfl rfl, zan rfl rfl, zan rfl rfl, trivial⟩ (fun σ => ⟨.inl rfl, .inl rfl, .inl rfl, .inl rfl, .inl rfl, .inl rfl, .inl rfl, .inr ⟨rfl, rfl⟩, .inr ⟨rfl, rfl⟩, .inr ⟨rfl, rfl⟩, .inr ⟨rfl, rfl⟩, .inl rfl, .inl rfl, .inr ⟨rfl, rfl⟩, .inr ⟨rfl, rfl⟩, .inr ⟨rfl, rfl⟩, .inr ⟨rfl, rfl⟩, .inr ⟨rfl, rfl⟩, .inr ⟨rfl, rfl⟩, .inl rfl, .inl rfl, .inl rfl, trivial⟩) (fun _ => rfl) (fun _ => rfl) (fun _ => rfl) rfl rfl (by decide) rfl hO.drew (hf.cons rfl (hf.cons rfl (hf.cons rfl (hf.cons rfl hf.nil)))) (fun σ => ⟨⟨rfl, trivial⟩, ⟨rfl, trivial⟩, ⟨rfl, trivial⟩, ⟨rfl, rfl, trivial⟩, ⟨rfl, rfl, trivial⟩, ⟨rfl, rfl, trivial⟩, ⟨rfl, trivial⟩, ⟨rfl, trivial⟩, ⟨rfl, trivial⟩, ⟨rfl, trivial⟩, ⟨rfl, trivial⟩, ⟨rfl, rfl, trivial⟩, ⟨rfl, trivial⟩, ⟨rfl, trivial⟩, ⟨rfl, trivial⟩, ⟨rfl, trivial⟩, ⟨rfl, trivial⟩, ⟨rfl, trivial⟩, ⟨rfl, trivial⟩, ⟨rfl, rfl, trivial⟩, ⟨rfl, rfl, trivial⟩, ⟨rfl, trivial⟩, trivial⟩) ⟨.inr ⟨rfl, zd rfl (fun σ => rfl) (fun σ => rfl) (fun σ a w k hk hlo hup hst hf => match k, hk, hlo, hup, hst, hf with | 0, _, _, _, hst, hf => have hO : Dk.Own w0 [] w _ := hst; zq (o := 0) (vs := [str r7.1, str s20, .bool r10.1]) zc0 zaZ (hO.blkSees (i := 1) rfl) rfl rfl hf rfl | 1, _, _, _, hst, hf => have hO : Dk.Own w0 [] w _ := hst; zq (o := 0) (vs := [str r7.1, str s20, .bool r10.1]) zc0 zaZ (hO.blkSees (i := 1) rfl) rfl rfl hf rfl | 2, _, _, _, hst, hf => have hO : Dk.Own w0 [] w _ := hst; zq (o := 0) (vs := [str r7.1, str s20, .bool r10.1]) zc0 zaZ (hO.blkSees (i := 1) rfl) rfl rfl hf rfl | k + 3, hk, _, _, _, _ => absurd hk (by simp))⟩, .inr ⟨rfl, zd rfl (fun σ => rfl) (fun σ => rfl) (fun σ a w k _ _ _ _ hf => zp hf rfl)⟩, .inr ⟨rfl, zd rfl (fun σ => rfl) (fun σ => rfl) (fun σ a w k _ _ _ _ hf => zp hf rfl)⟩, .inr ⟨rfl, zd rfl (fun σ => rfl) (fun σ => rfl) (fun σ a w k _ _ _ _ hf => zp hf rfl)⟩, .inr ⟨rfl, zaR rfl (fun σ => rfl) (fun σ => rfl) rfl (fun σ a w (_ : _) hf => zj c_59 hf (vs := [ptr b5 0]) rfl) (fun σ w (hO : Dk.Own w0 [] w _) => (zbH (⟨s18, i19⟩ : scan_Scanner) r22 _ (hG.own hF hO) (hO.blkSees (i := 0) rfl) hr22).mono fun e w' h => by obtain ⟨he, hb⟩ := h; exact ⟨(), he, hO.grow hb, .inr rfl, .inr rfl, .inr rfl, .inr rfl, .inr rfl, .inr rfl, .inr rfl, .inr rfl, .inr rfl, .inr rfl, .inr rfl, .inr rfl, .inr rfl, .inr rfl, .inr rfl, .inr rfl, .inr rfl, .inr rfl, .inr rfl, .inr rfl, .inr rfl, .inr rfl, trivial⟩)⟩, .inr ⟨rfl, zd rfl (fun σ => rfl) (fun σ => rfl) (fun σ a w k _ _ _ _ hf => zhh hf rfl hc21 rfl)⟩, .inr ⟨rfl, zd rfl (fun σ => rfl) (fun σ => rfl) (fun σ a w k _ _ _ _ hf => zp hf rfl)⟩, .inl rfl, .inl rfl, .inl rfl, .inl rfl, .inr ⟨rfl, zd rfl (fun σ => rfl) (fun σ => rfl) (fun σ a w k _ _ _ _ hf => ziz hf rfl hc23 rfl)⟩, .inr ⟨rfl, zd rfl (fun σ => rfl) (fun σ => rfl) (fun σ a w k _ _ _ _ hf => zp hf rfl)⟩, .inl rfl, .inl rfl, .inl rfl, .inl rfl, .inl rfl, .inl rfl, .inr ⟨rfl, zd rfl (fun σ => rfl) (fun σ => rfl) (fun σ a w k _ _ _ _ hf => ziz hf rfl rfl rfl)⟩, .inr ⟨rfl, zbC rfl (fun σ => rfl) (fun σ => rfl) rfl (fun σ w (hO : Dk.Own w0 [] w _) => by obtain ⟨w', hO', hr⟩ := zeq (x := (.tmp 2)) (y := (.tmp 25)) (E := [(2, ptr b1 0), (25, .agg #[str r7.1, str s20, .bool r10.1])]) (i := 2) (n := 3) (vs := [str r7.1, str s20, .bool r10.1]) zaZ rfl rfl rfl (by simp [Value.oneCell']) hO rfl rfl; exact ⟨(), w', hO', ⟨.inr rfl, .inr rfl, .inr rfl, .inr rfl, .inr rfl, .inr rfl, .inr rfl, .inr rfl, .inr rfl, .inr rfl, .inr rfl, .inr rfl, .inr rfl, .inr rfl, .inr rfl, .inr rfl, .inr rfl, .inr rfl, .inr rfl, .inr rfl, .inr rfl, .inr rfl, trivial⟩, hr⟩)⟩, .inr ⟨rfl, zd rfl (fun σ => rfl) (fun σ => rfl) (fun σ a w k _ _ _ _ hf => z8 hf rfl)⟩, trivial⟩ ?_
 rintro _ a w hf hO
 have hO : Dk.Own w0 [] w _ := hO
 have hf : Fits 45 [(2, ptr b1 0), (3, .bool false)] a := (hf.cons rfl (hf.cons rfl hf.nil))
 refine S.no tb ?_ hf hO hm
 exact ec [2, 0, 1] rfl rfl rfl fun _ _ j => ⟨false, j rfl⟩
 have hm := ie hc21 hm
 refine zlK (S := Unit) (E0 := [(2, ptr b1 0), (4, ptr b5 0), (6, .bool r7.2.1), (7, ptr b12 0)]) (by kernel_rfl) (fun k σ w => match k with | 0 => Dk.Own w0 [] w [.blk b5 [str s18, int i19] 148, .blk b12 [str r7.1, str s20, .bool r10.1] 223, .blk b1 [str [], str [], .bool false] 223] | _ => Dk.Own w0 [] w [.blk b5 [str s18, int i19] 148, .blk b12 [str r7.1, str s20, .bool r10.1] 223, .blk b1 [str r7.1, str s20, .bool r10.1] 223]) (fun σ => [⟨[(7, ptr b12 0)], some (25, .agg #[str r7.1, str s20, .bool r10.1])⟩, ⟨[(6, .bool r7.2.1)], some (26, .bool r7.2.1)⟩, ⟨[(26, .bool r7.2.1)], some (27, .bool r7.2.1)⟩, ⟨[(27, .bool r7.2.1)], some (28, undef)⟩, ⟨[(27, .bool r7.2.1)], some (29, undef)⟩, ⟨[(27, .bool r7.2.1), (29, undef)], some (30, .bool false)⟩, ⟨[(30, .bool false)], some (31, .bool false)⟩, ⟨[(31, .bool false)], some (32, undef)⟩, ⟨[(31, .bool false)], some (33, undef)⟩, ⟨[(31, .bool false)], some (34, undef)⟩, ⟨[(31, .bool false)], some (35, undef)⟩, ⟨[(31, .bool false), (35, undef)], some (36, .bool false)⟩, ⟨[(36, .bool false)], some (37, .bool false)⟩, ⟨[(37, .bool false)], some (38, undef)⟩, ⟨[(37, .bool false)], some (39, undef)⟩, ⟨[(37, .bool false)], some (40, undef)⟩, ⟨[(37, .bool false)], some (41, undef)⟩, ⟨[(37, .bool false)], some (42, undef)⟩, ⟨[(37, .bool false)], some (43, undef)⟩, ⟨[(37, .bool false), (43, undef)], some (44, .bool false)⟩, ⟨[(2, ptr b1 0), (25, .agg #[str r7.1, str s20, .bool r10.1])], none⟩, ⟨[(44, .bool false)], some (3, .bool false)⟩]) () [20] [3, 4, 7, 8, 9, 10, 13, 14, 15, 16, 17, 18] ⟨zan rfl rfl, zan rfl rfl, zan rfl rfl, z7 (u := fun σ => r7.2.1) rfl (fun σ => rfl) rfl (fun σ => rfl) (fun σ => by rw [hc21] <;> rfl), z7 (u := fun σ => r7.2.1) rfl (fun σ => rfl) rfl (fun σ => rfl) (fun σ => by rw [hc21] <;> rfl), zan rfl rfl, zan rfl rfl, z7 (u := fun σ => false) rfl (fun σ => rfl) rfl (fun σ => rfl) (fun σ => rfl), z7 (u := fun σ => false) rfl (fun σ => rfl) rfl (fun σ => rfl) (fun σ => rfl), z7 (u := fun σ => false) rfl (fun σ => rfl) rfl (fun σ => rfl) (fun σ => rfl), z7 (u := fun σ => false) rfl (fun σ => rfl) rfl (fun σ => rfl) (fun σ => rfl), zan rfl rfl, zan rfl rfl, z7 (u := fun σ => false) rfl (fun σ => rfl) rfl (fun σ => rfl) (fun σ => rfl), z7 (u := fun σ => false) rfl (fun σ => rfl) rfl (fun σ => rfl) (fun σ => rfl), z7 (u := fun σ => false) rfl (fun σ => rfl) rfl (fun σ => rfl) (fun σ => rfl), z7 (u := fun σ => false) rfl (fun σ => rfl) rfl (fun σ => rfl) (fun σ => rfl), z7 (u := fun σ => false) rfl (fun σ => rfl) rfl (fun σ => rfl) (fun σ => rfl), z7 (u := fun σ => false) rfl (fun σ => rfl) rfl (fun σ => rfl) (fun σ => rfl), zan rfl rfl, zan rfl rfl, zan rfl rfl, trivial⟩ (fun σ => ⟨.inl rfl, .inl rfl, .inl rfl, .inr ⟨rfl, rfl⟩, .inr ⟨rfl, rfl⟩, .inl rfl, .inl rfl, .inr ⟨rfl, rfl⟩, .inr ⟨rfl, rfl⟩, .inr ⟨rfl, rfl⟩, .inr ⟨rfl, rfl⟩, .inl rfl, .inl rfl, .inr ⟨rfl, rfl⟩, .inr ⟨rfl, rfl⟩, .inr ⟨rfl, rfl⟩, .inr ⟨rfl, rfl⟩, .inr ⟨rfl, rfl⟩, .inr ⟨rfl, rfl⟩, .inl rfl, .inl rfl, .inl rfl, trivial⟩) (fun _ => rfl) (fun _ => rfl) (fun _ => rfl) rfl rfl (by decide) rfl hO.drew (hf.cons rfl (hf.cons rfl (hf.cons rfl (hf.cons rfl hf.nil)))) (fun σ => ⟨⟨rfl, trivial⟩, ⟨rfl, trivial⟩, ⟨rfl, trivial⟩, ⟨rfl, trivial⟩, ⟨rfl, trivial⟩, ⟨rfl, rfl, trivial⟩, ⟨rfl, trivial⟩, ⟨rfl, trivial⟩, ⟨rfl, trivial⟩, ⟨rfl, trivial⟩, ⟨rfl, trivial⟩, ⟨rfl, rfl, trivial⟩, ⟨rfl, trivial⟩, ⟨rfl, trivial⟩, ⟨rfl, trivial⟩, ⟨rfl, trivial⟩, ⟨rfl, trivial⟩, ⟨rfl, trivial⟩, ⟨rfl, trivial⟩, ⟨rfl, rfl, trivial⟩, ⟨rfl, rfl, trivial⟩, ⟨rfl, trivial⟩, trivial⟩) ⟨.inr ⟨rfl, zd rfl (fun σ => rfl) (fun σ => rfl) (fun σ a w k hk hlo hup hst hf => match k, hk, hlo, hup, hst, hf with | 0, _, _, _, hst, hf => have hO : Dk.Own w0 [] w _ := hst; zq (o := 0) (vs := [str r7.1, str s20, .bool r10.1]) zc0 zaZ (hO.blkSees (i := 1) rfl) rfl rfl hf rfl | 1, _, _, _, hst, hf => have hO : Dk.Own w0 [] w _ := hst; zq (o := 0) (vs := [str r7.1, str s20, .bool r10.1]) zc0 zaZ (hO.blkSees (i := 1) rfl) rfl rfl hf rfl | k + 2, hk, _, _, _, _ => absurd hk (by simp))⟩, .inr ⟨rfl, zd rfl (fun σ => rfl) (fun σ => rfl) (fun σ a w k _ _ _ _ hf => zp hf rfl)⟩, .inr ⟨rfl, zd rfl (fun σ => rfl) (fun σ => rfl) (fun σ a w k _ _ _ _ hf => zp hf rfl)⟩, .inl rfl, .inl rfl, .inr ⟨rfl, zd rfl (fun σ => rfl) (fun σ => rfl) (fun σ a w k _ _ _ _ hf => ziz hf rfl hc21 rfl)⟩, .inr ⟨rfl, zd rfl (fun σ => rfl) (fun σ => rfl) (fun σ a w k _ _ _ _ hf => zp hf rfl)⟩, .inl rfl, .inl rfl, .inl rfl, .inl rfl, .inr ⟨rfl, zd rfl (fun σ => rfl) (fun σ => rfl) (fun σ a w k _ _ _ _ hf => ziz hf rfl rfl rfl)⟩, .inr ⟨rfl, zd rfl (fun σ => rfl) (fun σ => rfl) (fun σ a w k _ _ _ _ hf => zp hf rfl)⟩, .inl rfl, .inl rfl, .inl rfl, .inl rfl, .inl rfl, .inl rfl, .inr ⟨rfl, zd rfl (fun σ => rfl) (fun σ => rfl) (fun σ a w k _ _ _ _ hf => ziz hf rfl rfl rfl)⟩, .inr ⟨rfl, zbC rfl (fun σ => rfl) (fun σ => rfl) rfl (fun σ w (hO : Dk.Own w0 [] w _) => by obtain ⟨w', hO', hr⟩ := zeq (x := (.tmp 2)) (y := (.tmp 25)) (E := [(2, ptr b1 0), (25, .agg #[str r7.1, str s20, .bool r10.1])]) (i := 2) (n := 3) (vs := [str r7.1, str s20, .bool r10.1]) zaZ rfl rfl rfl (by simp [Value.oneCell']) hO rfl rfl; exact ⟨(), w', hO', ⟨.inr rfl, .inr rfl, .inr rfl, .inr rfl, .inr rfl, .inr rfl, .inr rfl, .inr rfl, .inr rfl, .inr rfl, .inr rfl, .inr rfl, .inr rfl, .inr rfl, .inr rfl, .inr rfl, .inr rfl, .inr rfl, .inr rfl, .inr rfl, .inr rfl, .inr rfl, trivial⟩, hr⟩)⟩, .inr ⟨rfl, zd rfl (fun σ => rfl) (fun σ => rfl) (fun σ a w k _ _ _ _ hf => z8 hf rfl)⟩, trivial⟩ ?_
 rintro _ a w hf hO
 have hO : Dk.Own w0 [] w _ := hO
 have hf : Fits 45 [(2, ptr b1 0), (3, .bool false)] a := (hf.cons rfl (hf.cons rfl hf.nil))
 refine S.no tb ?_ hf hO hm
 exact ec [2, 0, 1] rfl rfl rfl fun _ _ j => ⟨false, j rfl⟩
 rintro a w ⟨t28, hf, hO, hm⟩
 rw [zdJ] at hm
 refine S.co tb ?_ hf hO hm
 refine re_ rfl fun a w hf hO hm => ?_
 obtain rfl := Option.some.inj hm
 exact zh Tryz.results189 hf (.cell rfl (zk (n := 3) (vs := [str r7.1, str s20, .bool r10.1]) zc0 zaZ rfl ((hO.blkSees (i := 0) rfl).cells (o := 0) (n := 3) rfl)) (.tmp rfl .nil)) ⟨rfl, hO.below⟩

theorem zkc (x_s : Str) (x_suffix : Str) (R : Str × Bool) (w0 : World) (hG : zr w0) (hm : stringslite_CutSuffix x_s x_suffix = some R) :
    Calls Tryz.prog 117 #[str x_s, str x_suffix] w0 (Ret w0 (fun R => .tuple #[str R.1, .bool R.2]) R) := by
 rw [stringslite_CutSuffix] at hm
 have hF : zs [] := ze
 have hO : Dk.Own w0 [] w0 [] := Dk.Own.refl w0
 refine S.enter tb Tryz.func117 rfl Tryz.ntmps117 rfl ?_ hO hm
 refine cl c_172 rfl (fun r2 w hr2 hO => zgl x_s x_suffix r2 _ (hG.own hF hO) hr2) fun r2 hr2 => ?_
 refine br rfl (fun hc4 => ?_) fun hc4 => ?_
 exact rt Tryz.results117 rfl
 refine bi rfl fun i7 hi7 => ?_
 refine bi rfl fun s8 hs8 => ?_
 exact rt Tryz.results117 rfl

theorem zij (x_s : Str) (x_suffix : Str) (R : Str × Bool) (w0 : World) (hG : zr w0) (hm : strings_CutSuffix x_s x_suffix = some R) :
    Calls Tryz.prog 70 #[str x_s, str x_suffix] w0 (Ret w0 (fun R => .tuple #[str R.1, .bool R.2]) R) := by
 rw [strings_CutSuffix] at hm
 have hF : zs [] := ze
 have hO : Dk.Own w0 [] w0 [] := Dk.Own.refl w0
 refine S.enter tb Tryz.func70 rfl Tryz.ntmps70 rfl ?_ hO hm
 refine cl c_117 rfl (fun r2 w hr2 hO => zkc x_s x_suffix r2 _ (hG.own hF hO) hr2) fun r2 hr2 => ?_
 exact rt Tryz.results70 rfl

theorem zpS (x_b : UInt8) (R : Bool) (w0 : World) (hG : zr w0) (hm : zis x_b = some R) :
    Calls Tryz.prog 232 #[zac x_b] w0 (Ret w0 (fun R => .bool R) R) := by
 rw [zis] at hm
 have hF : zs [] := ze
 have hO : Dk.Own w0 [] w0 [] := Dk.Own.refl w0
 refine S.enter tb Tryz.func232 rfl Tryz.ntmps232 rfl ?_ hO hm
 refine jv 0 [] [] (fun J E L => ∃ (t5 : Bool), J ((2, .bool t5) :: E) (L) (zf7 t5)) rfl ?_ ?_
 refine cl c_216 rfl (fun r2 w hr2 hO => zjo x_b r2 _ (hG.own hF hO) hr2) fun r2 hr2 => ?_
 refine br rfl (fun hc3 => ?_) fun hc3 => ?_
 refine cl zq3 rfl (fun r4 w hr4 hO => zbu [34, 44, 59, 92] x_b r4 _ (hG.own hF hO) hr4) fun r4 hr4 => ?_
 exact en rfl fun _ _ j => ⟨decide (r4 < 0), j rfl⟩
 exact en rfl fun _ _ j => ⟨false, j rfl⟩
 rintro a w ⟨t5, hf, hO, hm⟩
 rw [zf7] at hm
 refine S.co tb ?_ hf hO hm
 exact rt Tryz.results232 rfl

theorem zpT (x_s : Str) (R : Bool) (w0 : World) (hG : zr w0) (hm : zks x_s = some R) :
    Calls Tryz.prog 190 #[str x_s] w0 (Ret w0 (fun R => .bool R) R) := by
 rw [zks] at hm
 have hF : zs [] := ze
 have hO : Dk.Own w0 [] w0 [] := Dk.Own.refl w0
 refine S.enter tb Tryz.func190 rfl Tryz.ntmps190 rfl ?_ hO hm
 refine cl c_69 rfl (fun r2 w hr2 hO => zfD x_s [34] r2 _ (hG.own hF hO) hr2) fun r2 hr2 => ?_
 refine cl c_70 rfl (fun r4 w hr4 hO => zij r2.1 [34] r4 _ (hG.own hF hO) hr4) fun r4 hr4 => ?_
 refine jv 0 [] [] (fun J E L => ∃ (t9 : Bool), J ((2, .bool t9) :: E) (L) (zf8 t9)) rfl ?_ ?_
 refine vl rfl rfl (fun a w hf hO => zvx Tryz.underlying4 hf rfl rfl) ?_
 refine br rfl (fun hc6 => ?_) fun hc6 => ?_
 refine rw_ rfl fun a w hf hO hm => ?_
 refine zn (vs := [(0, str r4.1)]) (cs := [str r4.1]) (e := 9) (sz := 1) hf rfl rfl (fun w => by kernel_rfl) rfl rfl hO fun a b7 w hf hO => ?_
 refine S.op tb ?_ hf hO hm
 refine kn (b' := true) hc6 rfl ?_
 refine cl zkK rfl (fun r8 w hr8 hO => zbA zis ([r4.1] : List Str) r8 _ (hG.own hF hO) c_232 (fun y0 r w hG h => zgc (zpS y0 r w hG h)) (hO.rowSees (i := 0) rfl) (hO.rowCap (i := 0) rfl) hr8) fun r8 hr8 => ?_
 exact ec [] rfl rfl rfl fun _ _ j => ⟨r8, j rfl⟩
 exact en rfl fun _ _ j => ⟨false, j rfl⟩
 rintro a w ⟨t9, hf, hO, hm⟩
 rw [zf8] at hm
 refine S.co tb ?_ hf hO hm
 exact rt Tryz.results190 rfl

end Go.Proofs
end
