/-
  Walks, written by a program (wip/gen): what its model says, the function returns; what was there before is as it was.
  Walks, written by a program (wip/gen): what its model says, the function returns; what was there before is as it was.
  Walks, written by a program (wip/gen): what its model says, the function returns; what was there before is as it was.
  Walks, written by a program (wip/gen): what its model says, the function returns; what was there before is as it was.
-/
import Derived.Test.YtinncambjiffoaaGreatDoorLib
import Derived.Test.YtinncambjiffoaaGreatDoorW5
section
set_option linter.unusedVariables false
set_option maxHeartbeats 1000000
set_option linter.unusedSimpArgs false
set_option maxRecDepth 100000
namespace Go.Proofs
open Go.Dk Go.Dm Go.RowKit

theorem zmp (x_s : Str) (R : api_Target × Bool) (w0 : World) (hG : zaG w0) (hm : zhs x_s = some R) :
    Calls Tryz.prog 131 #[str x_s] w0 (Ret w0 (fun R => .tuple #[.agg #[int R.1.Kind, str R.1.Scheme, int R.1.Host.Kind, str R.1.Host.Name, int R.1.Host.Port, str R.1.Path, str R.1.Query, .bool R.1.HasQuery], .bool R.2]) R) := by
 rw [zhs] at hm
 have hF : zu [] := zf
 have hO : Dk.Own w0 [] w0 [] := Dk.Own.refl w0
 refine S.enter tb Tryz.func131 rfl Tryz.ntmps131 rfl ?_ hO hm
 refine al znK rfl fun b1 => ?_
 refine cl zwv rfl (fun r3 w hr3 hO => ziH x_s [58, 47, 47] r3 _ (hG.own hF hO).1 hr3) fun r3 hr3 => ?_
 refine cl zty rfl (fun r5 w hr5 hO => zdM r3.1 r5 _ (hG.own hF hO).1 hr5) fun r5 hr5 => ?_
 refine vl rfl rfl (fun a w hf hO => zB (vs := [(0, int 2), (1, str r5)]) (v := .agg #[int 2, str r5, int 0, str [], int 0, str [], str [], .bool false]) hf rfl (by kernel_rfl)) ?_
 refine al znK rfl fun b6 => ?_
 refine st 0 rfl rfl ?_
 refine jv 1 [2, 5, 7] [0, 1] (fun J E L => ∃ (t10 : Bool), J ((31, .bool t10) :: E) (L) (zcR r3 r5 t10)) rfl ?_ ?_
 refine br rfl (fun hc8 => ?_) fun hc8 => ?_
 exact en rfl fun _ _ j => ⟨true, j rfl⟩
 refine ld 0 rfl rfl ?_
 refine br rfl (fun hc9 => ?_) fun hc9 => ?_
 refine ld 0 rfl rfl ?_
 exact en rfl fun _ _ j => ⟨!(r5 == [104, 116, 116, 112, 115]), j rfl⟩
 exact en rfl fun _ _ j => ⟨false, j rfl⟩
 rintro a w ⟨t10, hf, hO, hm⟩
 rw [zcR] at hm
 refine S.co tb ?_ hf hO hm
 refine br rfl (fun hc11 => ?_) fun hc11 => ?_
 refine ld 0 rfl rfl ?_
 refine st 1 rfl rfl ?_
 refine re_ rfl fun a w hf hO hm => ?_
 obtain rfl := Option.some.inj hm
 exact zi Tryz.results131 hf (.cell rfl (zp (n := 8) (vs := [int 2, str r5, int 0, str [], int 0, str [], str [], .bool false]) zhC zhk rfl ((hO.blkSees (i := 1) rfl).cells (o := 0) (n := 8) rfl)) (.tmp rfl .nil)) ⟨rfl, hO.below⟩
 refine cl zwx rfl (fun r14 w hr14 hO => zfD r3.2.1 [47, 63] r14 _ (hG.own hF hO).1 hr14) fun r14 hr14 => ?_
 refine jv 0 [2, 5, 7] [0, 1] (fun J E L => ∃ (i18 : Int), J ((8, int i18) :: E) (L) (zdR r3 r5 i18)) rfl ?_ ?_
 refine br rfl (fun hc17 => ?_) fun hc17 => ?_
 exact en rfl fun _ _ j => ⟨(r3.2.1.length : Int), j rfl⟩
 exact en rfl fun _ _ j => ⟨r14, j rfl⟩
 rintro a w ⟨i18, hf, hO, hm⟩
 rw [zdR] at hm
 refine S.co tb ?_ hf hO hm
 refine bi rfl fun s19 hs19 => ?_
 refine cl c_76 rfl (fun r20 w hr20 hO => zeN s19 r20 _ (hG.own hF hO) hr20) fun r20 hr20 => ?_
 refine al zmB rfl fun b21 => ?_
 refine st 0 rfl rfl ?_
 refine br rfl (fun hc24 => ?_) fun hc24 => ?_
 refine ld 1 rfl rfl ?_
 refine st 2 rfl rfl ?_
 refine re_ rfl fun a w hf hO hm => ?_
 obtain rfl := Option.some.inj hm
 exact zi Tryz.results131 hf (.cell rfl (zp (n := 8) (vs := [int 2, str r5, int 0, str [], int 0, str [], str [], .bool false]) zhC zhk rfl ((hO.blkSees (i := 2) rfl).cells (o := 0) (n := 8) rfl)) (.tmp rfl .nil)) ⟨rfl, hO.below⟩
 refine ld 0 rfl rfl ?_
 refine st 1 rfl rfl ?_
 refine rc_ rfl fun a w hf hO hm => ?_
 obtain ⟨s28, hs28, hm⟩ := ob hm
 obtain ⟨r29, hr29, hm⟩ := ob hm
 refine zaV (S := Unit) (E0 := [(2, ptr b1 0), (5, str r3.2.1), (7, ptr b6 0), (8, int i18)]) (by kernel_rfl) (fun k σ w => match k with | 0 => Dk.Own w0 [] w [.blk b21 [int r20.1.Kind, str r20.1.Name, int r20.1.Port] 87, .blk b6 [int 2, str r5, int r20.1.Kind, str r20.1.Name, int r20.1.Port, str [], str [], .bool false] 89, .blk b1 [int 0, str [], int 0, str [], int 0, str [], str [], .bool false] 89] | 1 => Dk.Own w0 [] w [.blk b21 [int r20.1.Kind, str r20.1.Name, int r20.1.Port] 87, .blk b6 [int 2, str r5, int r20.1.Kind, str r20.1.Name, int r20.1.Port, str [], str [], .bool false] 89, .blk b1 [int 0, str [], int 0, str [], int 0, str [], str [], .bool false] 89] | _ => Dk.Own w0 [] w [.blk b21 [int r20.1.Kind, str r20.1.Name, int r20.1.Port] 87, .blk b6 [int 2, str r5, int r20.1.Kind, str r20.1.Name, int r20.1.Port, str [], str [], .bool false] 89, .blk b1 [int r29.1.Kind, str r29.1.Scheme, int r29.1.Host.Kind, str r29.1.Host.Name, int r29.1.Host.Port, str r29.1.Path, str r29.1.Query, .bool r29.1.HasQuery] 89]) (fun σ => [⟨[(7, ptr b6 0)], some (51, .agg #[int 2, str r5, int r20.1.Kind, str r20.1.Name, int r20.1.Port, str [], str [], .bool false])⟩, ⟨[(5, str r3.2.1)], some (52, str r3.2.1)⟩, ⟨[(8, int i18)], some (53, int i18)⟩, ⟨[(52, str r3.2.1), (53, int i18)], some (54, str s28)⟩, ⟨[(51, .agg #[int 2, str r5, int r20.1.Kind, str r20.1.Name, int r20.1.Port, str [], str [], .bool false]), (54, str s28)], some (55, .tuple #[.agg #[int r29.1.Kind, str r29.1.Scheme, int r29.1.Host.Kind, str r29.1.Host.Name, int r29.1.Host.Port, str r29.1.Path, str r29.1.Query, .bool r29.1.HasQuery], .bool r29.2])⟩, ⟨[(55, .tuple #[.agg #[int r29.1.Kind, str r29.1.Scheme, int r29.1.Host.Kind, str r29.1.Host.Name, int r29.1.Host.Port, str r29.1.Path, str r29.1.Query, .bool r29.1.HasQuery], .bool r29.2])], some (56, .agg #[int r29.1.Kind, str r29.1.Scheme, int r29.1.Host.Kind, str r29.1.Host.Name, int r29.1.Host.Port, str r29.1.Path, str r29.1.Query, .bool r29.1.HasQuery])⟩, ⟨[(55, .tuple #[.agg #[int r29.1.Kind, str r29.1.Scheme, int r29.1.Host.Kind, str r29.1.Host.Name, int r29.1.Host.Port, str r29.1.Path, str r29.1.Query, .bool r29.1.HasQuery], .bool r29.2])], some (57, .bool r29.2)⟩, ⟨[(2, ptr b1 0), (56, .agg #[int r29.1.Kind, str r29.1.Scheme, int r29.1.Host.Kind, str r29.1.Host.Name, int r29.1.Host.Port, str r29.1.Path, str r29.1.Query, .bool r29.1.HasQuery])], none⟩, ⟨[(57, .bool r29.2)], some (3, .bool r29.2)⟩]) () [4, 7] rfl (fun _ => rfl) (fun _ => rfl) (fun _ => rfl) rfl rfl (by decide) rfl hO.drew (hf.cons rfl (hf.cons rfl (hf.cons rfl (hf.cons rfl hf.nil)))) (fun σ => ⟨⟨rfl, trivial⟩, ⟨rfl, trivial⟩, ⟨rfl, trivial⟩, ⟨rfl, rfl, trivial⟩, ⟨rfl, rfl, trivial⟩, ⟨rfl, trivial⟩, ⟨rfl, trivial⟩, ⟨rfl, rfl, trivial⟩, ⟨rfl, trivial⟩, trivial⟩) ⟨zc rfl (fun σ => rfl) (fun σ => rfl) (fun σ a w k hk hlo hup hst hf => match k, hk, hlo, hup, hst, hf with | 0, _, _, _, hst, hf => have hO : Dk.Own w0 [] w _ := hst; zo (o := 0) (vs := [int 2, str r5, int r20.1.Kind, str r20.1.Name, int r20.1.Port, str [], str [], .bool false]) zhC zhk (hO.blkSees (i := 1) rfl) rfl rfl hf rfl | 1, _, _, _, hst, hf => have hO : Dk.Own w0 [] w _ := hst; zo (o := 0) (vs := [int 2, str r5, int r20.1.Kind, str r20.1.Name, int r20.1.Port, str [], str [], .bool false]) zhC zhk (hO.blkSees (i := 1) rfl) rfl rfl hf rfl | 2, _, _, _, hst, hf => have hO : Dk.Own w0 [] w _ := hst; zo (o := 0) (vs := [int 2, str r5, int r20.1.Kind, str r20.1.Name, int r20.1.Port, str [], str [], .bool false]) zhC zhk (hO.blkSees (i := 1) rfl) rfl rfl hf rfl | k + 3, hk, _, _, _, _ => absurd hk (by simp)), zc rfl (fun σ => rfl) (fun σ => rfl) (fun σ a w k _ _ _ _ hf => zl hf rfl), zc rfl (fun σ => rfl) (fun σ => rfl) (fun σ a w k _ _ _ _ hf => zl hf rfl), zc rfl (fun σ => rfl) (fun σ => rfl) (fun σ a w k _ _ _ _ hf => zhP (l := r3.2.1) Tryz.underlying9 hf rfl rfl hs28), zbg rfl (fun σ => rfl) (fun σ => rfl) rfl (fun σ a w (_ : _) hf => zh c_132 hf (vs := [.agg #[int 2, str r5, int r20.1.Kind, str r20.1.Name, int r20.1.Port, str [], str [], .bool false], str s28]) rfl) (fun σ w (hO : Dk.Own w0 [] w _) => (zlg (⟨2, r5, r20.1, [], [], false⟩ : api_Target) s28 r29 _ (hG.own hF hO).1 hr29).mono fun e w' h => by obtain ⟨he, hb⟩ := h; exact ⟨(), he, hO.grow hb, .inr rfl, .inr rfl, .inr rfl, .inr rfl, .inr rfl, .inr rfl, .inr rfl, .inr rfl, .inr rfl, trivial⟩), zc rfl (fun σ => rfl) (fun σ => rfl) (fun σ a w k _ _ _ _ hf => zfC hf rfl rfl), zc rfl (fun σ => rfl) (fun σ => rfl) (fun σ a w k _ _ _ _ hf => zfC hf rfl rfl), zce rfl (fun σ => rfl) (fun σ => rfl) rfl (fun σ w (hO : Dk.Own w0 [] w _) => by obtain ⟨w', hO', hr⟩ := zeI (x := (.tmp 2)) (y := (.tmp 56)) (E := [(2, ptr b1 0), (56, .agg #[int r29.1.Kind, str r29.1.Scheme, int r29.1.Host.Kind, str r29.1.Host.Name, int r29.1.Host.Port, str r29.1.Path, str r29.1.Query, .bool r29.1.HasQuery])]) (i := 2) (n := 8) (vs := [int r29.1.Kind, str r29.1.Scheme, int r29.1.Host.Kind, str r29.1.Host.Name, int r29.1.Host.Port, str r29.1.Path, str r29.1.Query, .bool r29.1.HasQuery]) zhk rfl rfl rfl (by simp [Value.oneCell']) hO rfl rfl; exact ⟨(), w', hO', ⟨.inr rfl, .inr rfl, .inr rfl, .inr rfl, .inr rfl, .inr rfl, .inr rfl, .inr rfl, .inr rfl, trivial⟩, hr⟩), zc rfl (fun σ => rfl) (fun σ => rfl) (fun σ a w k _ _ _ _ hf => z8 hf rfl), trivial⟩ ?_
 rintro _ a w hf hO
 have hO : Dk.Own w0 [] w _ := hO
 have hf : Fits 58 [(2, ptr b1 0), (3, .bool r29.2)] a := (hf.cons rfl (hf.cons rfl hf.nil))
 refine S.no tb ?_ hf hO hm
 refine re_ rfl fun a w hf hO hm => ?_
 obtain rfl := Option.some.inj hm
 exact zi Tryz.results131 hf (.cell rfl (zp (n := 8) (vs := [int r29.1.Kind, str r29.1.Scheme, int r29.1.Host.Kind, str r29.1.Host.Name, int r29.1.Host.Port, str r29.1.Path, str r29.1.Query, .bool r29.1.HasQuery]) zhC zhk rfl ((hO.blkSees (i := 2) rfl).cells (o := 0) (n := 8) rfl)) (.tmp rfl .nil)) ⟨rfl, hO.below⟩

theorem zr3 (x_method : Str) (x_s : Str) (R : api_Target × Bool) (w0 : World) (hG : zaG w0) (hm : znf x_method x_s = some R) :
    Calls Tryz.prog 77 #[str x_method, str x_s] w0 (Ret w0 (fun R => .tuple #[.agg #[int R.1.Kind, str R.1.Scheme, int R.1.Host.Kind, str R.1.Host.Name, int R.1.Host.Port, str R.1.Path, str R.1.Query, .bool R.1.HasQuery], .bool R.2]) R) := by
 rw [znf] at hm
 have hF : zu [] := zf
 have hO : Dk.Own w0 [] w0 [] := Dk.Own.refl w0
 refine S.enter tb Tryz.func77 rfl Tryz.ntmps77 rfl ?_ hO hm
 refine al znK rfl fun b1 => ?_
 refine br rfl (fun hc4 => ?_) fun hc4 => ?_
 refine vl rfl rfl (fun a w hf hO => zB (vs := [(0, int 4)]) (v := .agg #[int 4, str [], int 0, str [], int 0, str [], str [], .bool false]) hf rfl (by kernel_rfl)) ?_
 refine st 0 rfl rfl ?_
 refine re_ rfl fun a w hf hO hm => ?_
 obtain rfl := Option.some.inj hm
 exact zi Tryz.results77 hf (.cell rfl (zp (n := 8) (vs := [int 4, str [], int 0, str [], int 0, str [], str [], .bool false]) zhC zhk rfl ((hO.blkSees (i := 0) rfl).cells (o := 0) (n := 8) rfl)) (.tmp rfl .nil)) ⟨rfl, hO.below⟩
 refine cl zsC rfl (fun r7 w hr7 hO => zct x_s [47] r7 _ (hG.own hF hO).1 hr7) fun r7 hr7 => ?_
 refine br rfl (fun hc9 => ?_) fun hc9 => ?_
 refine cl c_131 rfl (fun r10 w hr10 hO => zmp x_s r10 _ (hG.own hF hO) hr10) fun r10 hr10 => ?_
 refine st 0 rfl rfl ?_
 refine re_ rfl fun a w hf hO hm => ?_
 obtain rfl := Option.some.inj hm
 exact zi Tryz.results77 hf (.cell rfl (zp (n := 8) (vs := [int r10.1.Kind, str r10.1.Scheme, int r10.1.Host.Kind, str r10.1.Host.Name, int r10.1.Host.Port, str r10.1.Path, str r10.1.Query, .bool r10.1.HasQuery]) zhC zhk rfl ((hO.blkSees (i := 0) rfl).cells (o := 0) (n := 8) rfl)) (.tmp rfl .nil)) ⟨rfl, hO.below⟩
 refine vl rfl rfl (fun a w hf hO => zB (vs := [(0, int 1)]) (v := .agg #[int 1, str [], int 0, str [], int 0, str [], str [], .bool false]) hf rfl (by kernel_rfl)) ?_
 refine cl c_132 rfl (fun r13 w hr13 hO => zlg ((⟨1, [], (⟨0, [], 0⟩ : api_Host), [], [], false⟩ : api_Target)) x_s r13 _ (hG.own hF hO).1 hr13) fun r13 hr13 => ?_
 refine al znK rfl fun b14 => ?_
 refine st 0 rfl rfl ?_
 refine ld 0 rfl rfl ?_
 refine st 1 rfl rfl ?_
 refine re_ rfl fun a w hf hO hm => ?_
 obtain rfl := Option.some.inj hm
 exact zi Tryz.results77 hf (.cell rfl (zp (n := 8) (vs := [int r13.1.Kind, str r13.1.Scheme, int r13.1.Host.Kind, str r13.1.Host.Name, int r13.1.Host.Port, str r13.1.Path, str r13.1.Query, .bool r13.1.HasQuery]) zhC zhk rfl ((hO.blkSees (i := 1) rfl).cells (o := 0) (n := 8) rfl)) (.tmp rfl .nil)) ⟨rfl, hO.below⟩

theorem zoP (x_method : Str) (x_s : Str) (R : api_Target × Int) (w0 : World) (hG : zaG w0) (hm : zjC x_method x_s = some R) :
    Calls Tryz.prog 39 #[str x_method, str x_s] w0 (Ret w0 (fun R => .tuple #[.agg #[int R.1.Kind, str R.1.Scheme, int R.1.Host.Kind, str R.1.Host.Name, int R.1.Host.Port, str R.1.Path, str R.1.Query, .bool R.1.HasQuery], int R.2]) R) := by
 rw [zjC] at hm
 have hF : zu [] := zf
 have hO : Dk.Own w0 [] w0 [] := Dk.Own.refl w0
 refine S.enter tb Tryz.func39 rfl Tryz.ntmps39 rfl ?_ hO hm
 refine al znK rfl fun b1 => ?_
 refine br rfl (fun hc4 => ?_) fun hc4 => ?_
 refine cl c_76 rfl (fun r5 w hr5 hO => zeN x_s r5 _ (hG.own hF hO) hr5) fun r5 hr5 => ?_
 refine al zmB rfl fun b6 => ?_
 refine st 0 rfl rfl ?_
 refine jv 2 [4, 6] [0, 1] (fun J E L => ∃ (t9 : Bool), J ((23, .bool t9) :: E) (L) (zfn r5 t9)) rfl ?_ ?_
 refine br rfl (fun hc8 => ?_) fun hc8 => ?_
 exact en rfl fun _ _ j => ⟨true, j rfl⟩
 refine ld 0 rfl rfl ?_
 exact en rfl fun _ _ j => ⟨decide (r5.1.Port < 0), j rfl⟩
 rintro a w ⟨t9, hf, hO, hm⟩
 rw [zfn] at hm
 refine S.co tb ?_ hf hO hm
 refine br rfl (fun hc10 => ?_) fun hc10 => ?_
 refine vl rfl rfl (fun a w hf hO => zB (vs := []) (v := .agg #[int 0, str [], int 0, str [], int 0, str [], str [], .bool false]) hf rfl (by kernel_rfl)) ?_
 refine st 1 rfl rfl ?_
 refine re_ rfl fun a w hf hO hm => ?_
 obtain rfl := Option.some.inj hm
 exact zi Tryz.results39 hf (.cell rfl (zp (n := 8) (vs := [int 0, str [], int 0, str [], int 0, str [], str [], .bool false]) zhC zhk rfl ((hO.blkSees (i := 1) rfl).cells (o := 0) (n := 8) rfl)) (.tmp rfl .nil)) ⟨rfl, hO.below⟩
 refine ld 0 rfl rfl ?_
 refine vl rfl rfl (fun a w hf hO => zB (vs := [(0, int 3), (2, .agg #[int r5.1.Kind, str r5.1.Name, int r5.1.Port])]) (v := .agg #[int 3, str [], int r5.1.Kind, str r5.1.Name, int r5.1.Port, str [], str [], .bool false]) hf rfl (by kernel_rfl)) ?_
 refine st 1 rfl rfl ?_
 refine re_ rfl fun a w hf hO hm => ?_
 obtain rfl := Option.some.inj hm
 exact zi Tryz.results39 hf (.cell rfl (zp (n := 8) (vs := [int 3, str [], int r5.1.Kind, str r5.1.Name, int r5.1.Port, str [], str [], .bool false]) zhC zhk rfl ((hO.blkSees (i := 1) rfl).cells (o := 0) (n := 8) rfl)) (.tmp rfl .nil)) ⟨rfl, hO.below⟩
 refine cl c_77 rfl (fun r15 w hr15 hO => zr3 x_method x_s r15 _ (hG.own hF hO) hr15) fun r15 hr15 => ?_
 refine al znK rfl fun b16 => ?_
 refine st 0 rfl rfl ?_
 refine br rfl (fun hc19 => ?_) fun hc19 => ?_
 refine vl rfl rfl (fun a w hf hO => zB (vs := []) (v := .agg #[int 0, str [], int 0, str [], int 0, str [], str [], .bool false]) hf rfl (by kernel_rfl)) ?_
 refine st 1 rfl rfl ?_
 refine re_ rfl fun a w hf hO hm => ?_
 obtain rfl := Option.some.inj hm
 exact zi Tryz.results39 hf (.cell rfl (zp (n := 8) (vs := [int 0, str [], int 0, str [], int 0, str [], str [], .bool false]) zhC zhk rfl ((hO.blkSees (i := 1) rfl).cells (o := 0) (n := 8) rfl)) (.tmp rfl .nil)) ⟨rfl, hO.below⟩
 refine ld 0 rfl rfl ?_
 refine st 1 rfl rfl ?_
 refine re_ rfl fun a w hf hO hm => ?_
 obtain rfl := Option.some.inj hm
 exact zi Tryz.results39 hf (.cell rfl (zp (n := 8) (vs := [int r15.1.Kind, str r15.1.Scheme, int r15.1.Host.Kind, str r15.1.Host.Name, int r15.1.Host.Port, str r15.1.Path, str r15.1.Query, .bool r15.1.HasQuery]) zhC zhk rfl ((hO.blkSees (i := 1) rfl).cells (o := 0) (n := 8) rfl)) (.tmp rfl .nil)) ⟨rfl, hO.below⟩

theorem zqZ (x_path : Str) (x_query : Str) (x_has : Bool) (R : Str) (w0 : World) (hG : zt w0) (hm : zlM x_path x_query x_has = some R) :
    Calls Tryz.prog 78 #[str x_path, str x_query, .bool x_has] w0 (Ret w0 (fun R => str R) R) := by
 rw [zlM] at hm
 have hF : zu [] := zf
 have hO : Dk.Own w0 [] w0 [] := Dk.Own.refl w0
 refine S.enter tb Tryz.func78 rfl Tryz.ntmps78 rfl ?_ hO hm
 refine br rfl (fun hc3 => ?_) fun hc3 => ?_
 exact rt Tryz.results78 rfl
 refine bi rfl fun s6 hs6 => ?_
 refine bi rfl fun s7 hs7 => ?_
 exact rt Tryz.results78 rfl

theorem zn0 (x_t : api_Target) (R : Str) (w0 : World) (hG : zt w0) (hm : ziQ x_t = some R) :
    Calls Tryz.prog 40 #[.agg #[int x_t.Kind, str x_t.Scheme, int x_t.Host.Kind, str x_t.Host.Name, int x_t.Host.Port, str x_t.Path, str x_t.Query, .bool x_t.HasQuery]] w0 (Ret w0 (fun R => str R) R) := by
 rw [ziQ] at hm
 have hF : zu [] := zf
 have hO : Dk.Own w0 [] w0 [] := Dk.Own.refl w0
 refine S.enter tb Tryz.func40 rfl Tryz.ntmps40 rfl ?_ hO hm
 refine bo rfl fun b1 => ?_
 refine ld 0 rfl rfl ?_
 refine br rfl (fun hc5 => ?_) fun hc5 => ?_
 exact rt Tryz.results40 rfl
 refine br rfl (fun hc8 => ?_) fun hc8 => ?_
 exact rt Tryz.results40 rfl
 refine ld 0 rfl rfl ?_
 refine jv 0 [1] [0] (fun J E L => ∃ (s14 : Str), J ((3, str s14) :: E) (L) (zeX x_t s14)) rfl ?_ ?_
 refine br rfl (fun hc13 => ?_) fun hc13 => ?_
 exact en rfl fun _ _ j => ⟨[47], j rfl⟩
 exact en rfl fun _ _ j => ⟨x_t.Path, j rfl⟩
 rintro a w ⟨s14, hf, hO, hm⟩
 rw [zeX] at hm
 refine S.co tb ?_ hf hO hm
 refine ld 0 rfl rfl ?_
 refine ld 0 rfl rfl ?_
 refine cl c_78 rfl (fun r15 w hr15 hO => zqZ s14 x_t.Query x_t.HasQuery r15 _ (hG.own hF hO) hr15) fun r15 hr15 => ?_
 exact rt Tryz.results40 rfl

theorem zgb (x_sep : Str) (x_l : List Str) (R : Str) (w0 : World) (hG : zt w0) {x_l_p0 : Option Addr} {x_l_c0 : Nat} (hs0 : zy w0 x_l_p0 (cells zg x_l)) (hc0 : x_l.length ≤ x_l_c0) (hm : zcp x_sep x_l = some R) :
    Calls Tryz.prog 86 #[str x_sep, .slice x_l_p0 x_l.length x_l_c0] w0 (Ret w0 (fun R => str R) R) := by
 rw [zcp] at hm
 have hF : zu [] := zf
 have hO : Dk.Own w0 [] w0 [] := Dk.Own.refl w0
 have hO := hO.addShr hs0 (by simp [Res.shared])
 refine S.enter tb Tryz.func86 rfl Tryz.ntmps86 rfl ?_ hO hm
 refine cl c_144 rfl (fun r2 w hr2 hO => zoy x_l x_sep r2 _ (hG.own hF hO) (hO.sees (i := 0) rfl) hc0 hr2) fun r2 hr2 => ?_
 exact rt Tryz.results86 rfl

theorem zn1 (x_h : api_Host) (R : Str × Int) (w0 : World) (hG : zaG w0) (hm : ziR x_h = some R) :
    Calls Tryz.prog 79 #[.agg #[int x_h.Kind, str x_h.Name, int x_h.Port]] w0 (Ret w0 (fun R => .tuple #[str R.1, int R.2]) R) := by
 rw [ziR] at hm
 have hF : zu [] := zf
 have hO : Dk.Own w0 [] w0 [] := Dk.Own.refl w0
 refine S.enter tb Tryz.func79 rfl Tryz.ntmps79 rfl ?_ hO hm
 refine bo rfl fun b1 => ?_
 refine ld 0 rfl rfl ?_
 refine rw_ rfl fun a w hf hO hm => ?_
 refine zm (vs := [(0, str x_h.Name)]) (cs := [str x_h.Name]) (e := 9) (sz := 1) hf rfl rfl (fun w => by kernel_rfl) rfl rfl hO fun a b3 w hf hO => ?_
 refine S.op tb ?_ hf hO hm
 refine jv 0 [1] [1] (fun J E L => ∃ (p8 : Option Addr) (c9 : Nat) (l10 : List Str), J ((4, .slice p8 l10.length c9) :: E) (.row (.slice p8 l10.length c9) 9 1 l10.length (cells zg l10) :: L) (ze0 x_h l10)) rfl ?_ ?_
 refine ld 1 rfl rfl ?_
 refine br rfl (fun hc6 => ?_) fun hc6 => ?_
 refine ld 1 rfl rfl ?_
 refine rw_ rfl fun a w hf hO hm => ?_
 refine zm (vs := [(0, str [91]), (1, str x_h.Name), (2, str [93])]) (cs := [str [91], str x_h.Name, str [93]]) (e := 9) (sz := 1) hf rfl rfl (fun w => by kernel_rfl) rfl rfl hO fun a b7 w hf hO => ?_
 refine S.op tb ?_ hf hO hm
 exact ec [0, 2] rfl rfl rfl fun _ _ j => ⟨some ⟨b7, 0, none⟩, 3, ([[91], x_h.Name, [93]] : List Str), j rfl⟩
 exact en rfl fun _ _ j => ⟨some ⟨b3, 0, none⟩, 1, ([x_h.Name] : List Str), j rfl⟩
 rintro a w ⟨p8, c9, l10, hf, hO, hm⟩
 rw [ze0] at hm
 refine S.co tb ?_ hf hO hm
 refine jv 0 [1] [1] (fun J E L => ∃ (p18 : Option Addr) (c19 : Nat) (l20 : List Str), J ((4, .slice p18 l20.length c19) :: E) (.row (.slice p18 l20.length c19) 9 1 l20.length (cells zg l20) :: L) (zeZ x_h l20)) rfl ?_ ?_
 refine ld 1 rfl rfl ?_
 refine br rfl (fun hc12 => ?_) fun hc12 => ?_
 refine ld 1 rfl rfl ?_
 refine cl c_21 rfl (fun r13 w hr13 hO => zhZ x_h.Port r13 _ (hG.own hF hO) hr13) fun r13 hr13 => ?_
 refine rw_ rfl fun a w hf hO hm => ?_
 refine zm (vs := [(0, str [58]), (1, str r13)]) (cs := [str [58], str r13]) (e := 9) (sz := 1) hf rfl rfl (fun w => by kernel_rfl) rfl rfl hO fun a b14 w hf hO => ?_
 refine S.op tb ?_ hf hO hm
 refine rw_ rfl fun a w hf hO hm => ?_
 obtain ⟨hg17, hm⟩ := og hm
 refine zae ziE (enc := zg) (xs := l10) (ys := ([[58], r13] : List Str)) (i := 1) (fun _ => rfl) rfl (hO.rowSees (i := 0) rfl) (by simp [cells, zg, Value.oneCell']) hg17 hf rfl rfl rfl hO fun a p15 c16 w hf hO => ?_
 refine S.op tb ?_ hf hO hm
 exact ec [1, 2] rfl rfl rfl fun _ _ j => ⟨p15, c16, l10 ++ ([[58], r13] : List Str), j rfl⟩
 exact en rfl fun _ _ j => ⟨p8, c9, l10, j rfl⟩
 rintro a w ⟨p18, c19, l20, hf, hO, hm⟩
 rw [zeZ] at hm
 refine S.co tb ?_ hf hO hm
 refine cl c_86 rfl (fun r21 w hr21 hO => zgb [] l20 r21 _ (hG.own hF hO).1 (hO.rowSees (i := 0) rfl) (hO.rowCap (i := 0) rfl) hr21) fun r21 hr21 => ?_
 refine cl c_76 rfl (fun r23 w hr23 hO => zeN r21 r23 _ (hG.own hF hO) hr23) fun r23 hr23 => ?_
 refine al zmB rfl fun b24 => ?_
 refine st 0 rfl rfl ?_
 refine jv 1 [5] [0, 1, 2] (fun J E L => ∃ (t27 : Bool), J ((39, .bool t27) :: E) (L) (zeY r21 t27)) rfl ?_ ?_
 refine br rfl (fun hc26 => ?_) fun hc26 => ?_
 exact en rfl fun _ _ j => ⟨true, j rfl⟩
 refine ld 0 rfl rfl ?_
 refine ld 2 rfl rfl ?_
 refine vl rfl rfl (fun a w hf hO => zj8 (by kernel_rfl) (eq_87 r23.1 x_h) hf rfl rfl) ?_
 exact en rfl fun _ _ j => ⟨!(r23.1 == x_h), j rfl⟩
 rintro a w ⟨t27, hf, hO, hm⟩
 rw [zeY] at hm
 refine S.co tb ?_ hf hO hm
 refine br rfl (fun hc28 => ?_) fun hc28 => ?_
 exact rt Tryz.results79 rfl
 exact rt Tryz.results79 rfl

theorem ziN (x_b : bag_Bag) (x_l : List api_Field) (R : bag_Bag) (w0 : World) (hG : zt w0) {x_b_b0 : Nat} {x_b_p1 : Option Addr} {x_b_c1 : Nat} {x_l_p2 : Option Addr} {x_l_c2 : Nat} {F : List Nat} (hF : zu F) (hO : Dk.Own w0 F w0 [.blk x_b_b0 [.slice x_b_p1 x_b.f_l.length x_b_c1] 107, .row (.slice x_b_p1 x_b.f_l.length x_b_c1) 54 2 x_b.f_l.length (cells za x_b.f_l), .shr x_l_p2 (cells za x_l)]) (hcw0 : x_l.length ≤ x_l_c2) (hm : zfP x_b x_l = some R) :
    Calls Tryz.prog 82 #[ptr x_b_b0 0, .slice x_l_p2 x_l.length x_l_c2] w0 fun e w' => ∃ (p0 : Option Addr) (c0 : Nat), e = .returned (.tuple #[]) ∧ Dk.Own w0 F w' [.blk x_b_b0 [.slice p0 R.f_l.length c0] 107, .row (.slice p0 R.f_l.length c0) 54 2 R.f_l.length (cells za R.f_l)] := by
 rw [zfP] at hm
 refine S.enter tb Tryz.func82 rfl Tryz.ntmps82 rfl ?_ hO hm
 refine vl rfl rfl (fun a w hf hO => zqb Tryz.underlying63 hf rfl rfl) ?_
 refine kn (b' := true) rfl rfl ?_
 refine ld 0 rfl rfl ?_
 refine rw_ rfl fun a w hf hO hm => ?_
 obtain ⟨hg4, hm⟩ := og hm
 refine zfH zss (enc := za) (xs := x_b.f_l) (ys := x_l) (i := 1) (fun _ => rfl) rfl (hO.sees (i := 2) rfl) (by simp [za, Value.oneCell']) hg4 hf rfl rfl rfl hO fun a p2 c3 w hf hO => ?_
 refine S.op tb ?_ hf hO hm
 refine st 0 rfl rfl ?_
 refine rn_ rfl fun a w hf hO hm => ?_
 obtain rfl := Option.some.inj hm
 exact zhV Tryz.results82 hf .nil ⟨p2, c3, rfl, (hO.sub (.cons_cons _ (.cons_cons _ (.cons _ .slnil))))⟩

theorem zn2 (x_x : api_Field) (x_k0 : Str) (R : Bool) (w0 : World) (hG : zt w0) {x_k0_b0 : Nat} (hs0 : zy w0 (some ⟨x_k0_b0, 0, none⟩) [str x_k0]) (hm : ziS x_x x_k0 = some R) :
    Calls Tryz.prog 134 #[.agg #[str x_x.Name, str x_x.Value], ptr x_k0_b0 0] w0 (Ret w0 (fun R => .bool R) R) := by
 rw [ziS] at hm
 have hF : zu [] := zf
 have hO : Dk.Own w0 [] w0 [] := Dk.Own.refl w0
 have hO := hO.addShr hs0 (by simp [Res.shared])
 refine S.enter tb Tryz.func134 rfl Tryz.ntmps134 rfl ?_ hO hm
 refine bo rfl fun b1 => ?_
 refine ld 0 rfl rfl ?_
 refine ld 1 rfl rfl ?_
 refine cl zp0 rfl (fun r3 w hr3 hO => zbZ x_x.Name x_k0 r3 _ (hG.own hF hO) hr3) fun r3 hr3 => ?_
 exact rt Tryz.results134 rfl

theorem zdr (x_s : List api_Field) (x_f_k0 : Str) (R : Int) (w0 : World) (hG : zt w0) {x_s_p0 : Option Addr} {x_s_c0 : Nat} (hs0 : zy w0 x_s_p0 (cells za x_s)) (hc0 : x_s.length ≤ x_s_c0) {x_f_k0_b1 : Nat} (hs1 : zy w0 (some ⟨x_f_k0_b1, 0, none⟩) [str x_f_k0]) (hm : zam x_s x_f_k0 = some R) :
    Calls Tryz.prog 133 #[.slice x_s_p0 x_s.length x_s_c0, .func (.func 134) #[] #[ptr x_f_k0_b1 0]] w0 (Ret w0 (fun R => int R) R) := by
 rw [zam] at hm
 have hF : zu [] := zf
 have hO : Dk.Own w0 [] w0 [] := Dk.Own.refl w0
 have hO := hO.addShr hs0 (by simp [Res.shared])
 have hO := hO.addShr hs1 (by simp [Res.shared])
 refine S.enter tb Tryz.func133 rfl Tryz.ntmps133 rfl ?_ hO hm
 refine lv [0, 1, 7] [0, 1] (fun J E L k => ∃ (i3 : Int), J ((8, int i3) :: E) (L) (zD x_s x_f_k0 k i3)) rfl (fun _ _ j => ⟨0, j rfl⟩) ?_
 rintro n1 a w ⟨i3, hf, hO, hm⟩
 obtain _ | n1 := n1
 rw [zD] at hm
 cases hm
 rw [zD] at hm
 refine S.co tb ?_ hf hO hm
 refine br rfl (fun hc5 => ?_) fun hc5 => ?_
 refine rw_ rfl fun a w hf hO hm => ?_
 obtain ⟨x8, hx8, hm⟩ := ob hm
 obtain ⟨b9, o10, hix8, hSx8⟩ := zaK (enc := za) (sz := 2) (xs := x_s) 26 Tryz.underlying26 zcc (by decide) (fun _ => rfl) (hO.sees (i := 1) rfl) hx8
 refine zS (zk hix8 hf rfl rfl) rfl hf rfl rfl fun a hf => ?_
 refine S.op tb ?_ hf hO hm
 refine vl rfl rfl (fun a w hf hO => zo (o := 0) (vs := [str x8.Name, str x8.Value]) ziD zcc (hSx8 _ (hO.sees (i := 1) rfl)) rfl rfl hf rfl) ?_
 refine rw_ rfl fun a w hf hO hm => ?_
 obtain ⟨r11, hr11, hm⟩ := ob hm
 refine oc (ziZ (first := #[]) (captured := #[ptr x_f_k0_b1 0]) c_134 hf rfl (vs := [.agg #[str x8.Name, str x8.Value]]) rfl) hf rfl (zoc (cs := [ptr x_f_k0_b1 0]) (zn2 x8 x_f_k0 r11 _ (hG.own hF hO) (hO.sees (i := 0) rfl) hr11)) hO fun a w' hf hO => ?_
 refine S.op tb ?_ hf hO hm
 refine br rfl (fun hc13 => ?_) fun hc13 => ?_
 exact rt Tryz.results133 rfl
 refine bi rfl fun i16 hi16 => ?_
 exact en rfl fun _ _ j => ⟨_, Nat.lt_succ_self _, i16, j rfl⟩
 exact rt Tryz.results133 rfl

theorem zpR (x_b : bag_Bag) (x_name : Str) (x_value : Str) (R : bag_Bag) (w0 : World) (hG : zt w0) {x_b_b0 : Nat} {x_b_p1 : Option Addr} {x_b_c1 : Nat} {F : List Nat} (hF : zu F) (hO : Dk.Own w0 F w0 [.blk x_b_b0 [.slice x_b_p1 x_b.f_l.length x_b_c1] 107, .row (.slice x_b_p1 x_b.f_l.length x_b_c1) 54 2 x_b.f_l.length (cells za x_b.f_l)]) (hm : zku x_b x_name x_value = some R) :
    Calls Tryz.prog 80 #[ptr x_b_b0 0, str x_name, str x_value] w0 fun e w' => ∃ (p0 : Option Addr) (c0 : Nat), e = .returned (.tuple #[]) ∧ Dk.Own w0 F w' [.blk x_b_b0 [.slice p0 R.f_l.length c0] 107, .row (.slice p0 R.f_l.length c0) 54 2 R.f_l.length (cells za R.f_l)] := by
 rw [zku] at hm
 refine S.enter tb Tryz.func80 rfl Tryz.ntmps80 rfl ?_ hO hm
 refine bo rfl fun b1 => ?_
 refine vl rfl rfl (fun a w hf hO => zgF Tryz.underlying63 hf rfl rfl) ?_
 refine kn (b' := false) rfl rfl ?_
 refine ld 0 rfl rfl ?_
 refine vl rfl rfl (fun a w hf hO => zB (vs := [(0, str x_name), (1, str x_value)]) (v := .agg #[str x_name, str x_value]) hf rfl (by kernel_rfl)) ?_
 refine al ztY rfl fun b5 => ?_
 refine st 0 rfl rfl ?_
 refine ld 2 rfl rfl ?_
 refine vl rfl rfl (fun a w hf hO => zka hf (vs := [ptr b1 0]) rfl) ?_
 refine cl c_133 rfl (fun r7 w hr7 hO => zdr x_b.f_l x_name r7 _ (hG.own hF hO) (hO.rowSees (i := 3) rfl) (hO.rowCap (i := 3) rfl) (hO.blkSees (i := 1) rfl) hr7) fun r7 hr7 => ?_
 refine br rfl (fun hc10 => ?_) fun hc10 => ?_
 refine ld 0 rfl rfl ?_
 refine rw_ rfl fun a w hf hO hm => ?_
 refine zm (vs := [(0, .agg #[str x_name, str x_value])]) (cs := [str x_name, str x_value]) (e := 54) (sz := 2) hf rfl rfl (fun w => by kernel_rfl) rfl rfl hO fun a b11 w hf hO => ?_
 refine S.op tb ?_ hf hO hm
 refine rw_ rfl fun a w hf hO hm => ?_
 obtain ⟨r12, hr12, hm⟩ := ob hm
 have hch15 := (show Dk.Own w0 F _ ([.blk x_b_b0 [.slice x_b_p1 x_b.f_l.length x_b_c1] 107, .row (.slice x_b_p1 x_b.f_l.length x_b_c1) 54 2 x_b.f_l.length (cells za x_b.f_l)] ++ [.row (.slice (some ⟨b11, 0, none⟩) (([(⟨x_name, x_value⟩ : api_Field)]).length) 1) 54 2 (([(⟨x_name, x_value⟩ : api_Field)]).length) (cells za ([(⟨x_name, x_value⟩ : api_Field)])), .blk b5 [str x_name, str x_value] 54, .blk b1 [str x_name] 9]) from hO.choose [3, 4, 0, 1, 2] rfl)
 have hfar15 := Dk.Own.far hch15 rfl hF hG.size
 have hlend15 := hch15.lend (S := [.shr (some ⟨b11, 0, none⟩) (cells za ([(⟨x_name, x_value⟩ : api_Field)]))]) rfl ⟨zkN (hO.rowSees (i := 0) rfl) (List.mem_of_getElem? (i := 0) rfl), trivial⟩
 have hcl15 := ziN x_b ([(⟨x_name, x_value⟩ : api_Field)]) r12 _ (hG.own hF hO) hfar15 hlend15 (hO.rowCap (i := 0) rfl) hr12
 refine zj (zh c_82 hf (vs := [ptr x_b_b0 0, .slice (some ⟨b11, 0, none⟩) (([(⟨x_name, x_value⟩ : api_Field)]).length) 1]) rfl) rfl hf rfl rfl (hcl15) ?_
 rintro e w' ⟨p13, c14, he, hO'⟩
 refine ⟨_, he, fun a hf => ?_⟩
 have hO := hch15.back rfl hO' rfl
 refine S.op tb ?_ hf hO hm
 refine re_ rfl fun a w hf hO hm => ?_
 obtain rfl := Option.some.inj hm
 exact zi Tryz.results80 hf .nil ⟨p13, c14, rfl, (hO.sub (.cons_cons _ (.cons_cons _ (.cons _ (.cons _ (.cons _ .slnil))))))⟩
 refine ld 1 rfl rfl ?_
 refine rw_ rfl fun a w hf hO hm => ?_
 refine zm (vs := [(0, str x_name)]) (cs := [str x_name]) (e := 9) (sz := 1) hf rfl rfl (fun w => by kernel_rfl) rfl rfl hO fun a b18 w hf hO => ?_
 refine S.op tb ?_ hf hO hm
 refine rw_ rfl fun a w hf hO hm => ?_
 obtain ⟨r19, hr19, hm⟩ := ob hm
 have hch22 := (show Dk.Own w0 F _ ([.blk x_b_b0 [.slice x_b_p1 x_b.f_l.length x_b_c1] 107, .row (.slice x_b_p1 x_b.f_l.length x_b_c1) 54 2 x_b.f_l.length (cells za x_b.f_l)] ++ [.row (.slice (some ⟨b18, 0, none⟩) (([x_name] : List Str).length) 1) 9 1 (([x_name] : List Str).length) (cells zg ([x_name] : List Str)), .blk b5 [str x_name, str x_value] 54, .blk b1 [str x_name] 9]) from hO.choose [3, 4, 0, 1, 2] rfl)
 have hfar22 := Dk.Own.far hch22 rfl hF hG.size
 have hlend22 := hch22.lend (S := [.shr (some ⟨b18, 0, none⟩) (cells zg ([x_name] : List Str))]) rfl ⟨zkN (hO.rowSees (i := 0) rfl) (List.mem_of_getElem? (i := 0) rfl), trivial⟩
 have hcl22 := zi3 x_b ([x_name] : List Str) r19 _ (hG.own hF hO) hfar22 hlend22 (hO.rowCap (i := 0) rfl) hr19
 refine zj (zh c_73 hf (vs := [ptr x_b_b0 0, .slice (some ⟨b18, 0, none⟩) (([x_name] : List Str).length) 1]) rfl) rfl hf rfl rfl (hcl22) ?_
 rintro e w' ⟨p20, c21, he, hO'⟩
 refine ⟨_, he, fun a hf => ?_⟩
 have hO := hch22.back rfl hO' rfl
 refine S.op tb ?_ hf hO hm
 refine rc_ rfl fun a w hf hO hm => ?_
 obtain ⟨r25, hr25, hm⟩ := ob hm
 refine zaV (S := Nat × Option Addr × Nat) (E0 := [(0, ptr x_b_b0 0), (6, ptr b5 0), (7, int r7)]) (by kernel_rfl) (fun k σ w => match k with | 0 => Dk.Own w0 F w [.blk x_b_b0 [.slice p20 r19.2.f_l.length c21] 107, .row (.slice p20 r19.2.f_l.length c21) 54 2 r19.2.f_l.length (cells za r19.2.f_l), .row (.slice (some ⟨b18, 0, none⟩) (([x_name] : List Str).length) 1) 9 1 (([x_name] : List Str).length) (cells zg ([x_name] : List Str)), .blk b5 [str x_name, str x_value] 54, .blk b1 [str x_name] 9] | 1 => Dk.Own w0 F w [.row (.slice (some ⟨(σ.1), 0, none⟩) (([(⟨x_name, x_value⟩ : api_Field)]).length) 1) 54 2 (([(⟨x_name, x_value⟩ : api_Field)]).length) (cells za ([(⟨x_name, x_value⟩ : api_Field)])), .blk x_b_b0 [.slice p20 r19.2.f_l.length c21] 107, .row (.slice p20 r19.2.f_l.length c21) 54 2 r19.2.f_l.length (cells za r19.2.f_l), .row (.slice (some ⟨b18, 0, none⟩) (([x_name] : List Str).length) 1) 9 1 (([x_name] : List Str).length) (cells zg ([x_name] : List Str)), .blk b5 [str x_name, str x_value] 54, .blk b1 [str x_name] 9] | 2 => Dk.Own w0 F w [.row (.slice (σ.2.1) r25.length (σ.2.2)) 54 2 r25.length (cells za r25), .blk x_b_b0 [.slice p20 r19.2.f_l.length c21] 107, .row (.slice (some ⟨b18, 0, none⟩) (([x_name] : List Str).length) 1) 9 1 (([x_name] : List Str).length) (cells zg ([x_name] : List Str)), .blk b5 [str x_name, str x_value] 54, .blk b1 [str x_name] 9] | _ => Dk.Own w0 F w [.row (.slice (σ.2.1) r25.length (σ.2.2)) 54 2 r25.length (cells za r25), .blk x_b_b0 [.slice (σ.2.1) r25.length (σ.2.2)] 107, .row (.slice (some ⟨b18, 0, none⟩) (([x_name] : List Str).length) 1) 9 1 (([x_name] : List Str).length) (cells zg ([x_name] : List Str)), .blk b5 [str x_name, str x_value] 54, .blk b1 [str x_name] 9]) (fun σ => [⟨[(0, ptr x_b_b0 0)], some (29, ptr x_b_b0 0)⟩, ⟨[(0, ptr x_b_b0 0)], some (30, ptr x_b_b0 0)⟩, ⟨[(30, ptr x_b_b0 0)], some (31, ptr x_b_b0 0)⟩, ⟨[(31, ptr x_b_b0 0)], some (32, ptr x_b_b0 0)⟩, ⟨[(32, ptr x_b_b0 0)], some (33, .slice p20 r19.2.f_l.length c21)⟩, ⟨[(7, int r7)], some (34, int r7)⟩, ⟨[(6, ptr b5 0)], some (35, .agg #[str x_name, str x_value])⟩, ⟨[(35, .agg #[str x_name, str x_value])], some (36, .slice (some ⟨(σ.1), 0, none⟩) (([(⟨x_name, x_value⟩ : api_Field)]).length) 1)⟩, ⟨[(33, .slice p20 r19.2.f_l.length c21), (34, int r7), (36, .slice (some ⟨(σ.1), 0, none⟩) (([(⟨x_name, x_value⟩ : api_Field)]).length) 1)], some (37, .slice (σ.2.1) r25.length (σ.2.2))⟩, ⟨[(29, ptr x_b_b0 0)], some (38, ptr x_b_b0 0)⟩, ⟨[(38, ptr x_b_b0 0)], some (39, ptr x_b_b0 0)⟩, ⟨[(37, .slice (σ.2.1) r25.length (σ.2.2)), (39, ptr x_b_b0 0)], none⟩]) (0, none, 0) [7, 8, 11] rfl (fun _ => rfl) (fun _ => rfl) (fun _ => rfl) rfl rfl (by decide) rfl hO.drew (hf.cons rfl (hf.cons rfl (hf.cons rfl hf.nil))) (fun σ => ⟨⟨rfl, trivial⟩, ⟨rfl, trivial⟩, ⟨rfl, trivial⟩, ⟨rfl, trivial⟩, ⟨rfl, trivial⟩, ⟨rfl, trivial⟩, ⟨rfl, trivial⟩, ⟨rfl, trivial⟩, ⟨rfl, rfl, rfl, trivial⟩, ⟨rfl, trivial⟩, ⟨rfl, trivial⟩, ⟨rfl, rfl, trivial⟩, trivial⟩) ⟨zc rfl (fun σ => rfl) (fun σ => rfl) (fun σ a w k _ _ _ _ hf => zl hf rfl), zc rfl (fun σ => rfl) (fun σ => rfl) (fun σ a w k _ _ _ _ hf => zl hf rfl), zc rfl (fun σ => rfl) (fun σ => rfl) (fun σ a w k _ _ _ _ hf => zaD hf rfl), zc rfl (fun σ => rfl) (fun σ => rfl) (fun σ a w k _ _ _ _ hf => zw zkL hf rfl), zc rfl (fun σ => rfl) (fun σ => rfl) (fun σ a w k hk hlo hup hst hf => match k, hk, hlo, hup, hst, hf with | 0, _, _, _, hst, hf => have hO : Dk.Own w0 F w [.blk x_b_b0 [.slice p20 r19.2.f_l.length c21] 107, .row (.slice p20 r19.2.f_l.length c21) 54 2 r19.2.f_l.length (cells za r19.2.f_l), .row (.slice (some ⟨b18, 0, none⟩) (([x_name] : List Str).length) 1) 9 1 (([x_name] : List Str).length) (cells zg ([x_name] : List Str)), .blk b5 [str x_name, str x_value] 54, .blk b1 [str x_name] 9] := hst; ze (o := 0) zdi (hO.blkSees (i := 0) rfl) rfl hf rfl | 1, _, _, _, hst, hf => have hO : Dk.Own w0 F w [.row (.slice (some ⟨(σ.1), 0, none⟩) (([(⟨x_name, x_value⟩ : api_Field)]).length) 1) 54 2 (([(⟨x_name, x_value⟩ : api_Field)]).length) (cells za ([(⟨x_name, x_value⟩ : api_Field)])), .blk x_b_b0 [.slice p20 r19.2.f_l.length c21] 107, .row (.slice p20 r19.2.f_l.length c21) 54 2 r19.2.f_l.length (cells za r19.2.f_l), .row (.slice (some ⟨b18, 0, none⟩) (([x_name] : List Str).length) 1) 9 1 (([x_name] : List Str).length) (cells zg ([x_name] : List Str)), .blk b5 [str x_name, str x_value] 54, .blk b1 [str x_name] 9] := hst; ze (o := 0) zdi (hO.blkSees (i := 1) rfl) rfl hf rfl | 2, _, _, _, hst, hf => have hO : Dk.Own w0 F w [.row (.slice (σ.2.1) r25.length (σ.2.2)) 54 2 r25.length (cells za r25), .blk x_b_b0 [.slice p20 r19.2.f_l.length c21] 107, .row (.slice (some ⟨b18, 0, none⟩) (([x_name] : List Str).length) 1) 9 1 (([x_name] : List Str).length) (cells zg ([x_name] : List Str)), .blk b5 [str x_name, str x_value] 54, .blk b1 [str x_name] 9] := hst; ze (o := 0) zdi (hO.blkSees (i := 1) rfl) rfl hf rfl | 3, _, _, hup, _, _ => absurd (hup 1 (by decide) (by kernel_rfl)) (by decide) | k + 4, hk, _, _, _, _ => absurd hk (by simp)), zc rfl (fun σ => rfl) (fun σ => rfl) (fun σ a w k _ _ _ _ hf => zl hf rfl), zc rfl (fun σ => rfl) (fun σ => rfl) (fun σ a w k hk hlo hup hst hf => match k, hk, hlo, hup, hst, hf with | 0, _, _, _, hst, hf => have hO : Dk.Own w0 F w [.blk x_b_b0 [.slice p20 r19.2.f_l.length c21] 107, .row (.slice p20 r19.2.f_l.length c21) 54 2 r19.2.f_l.length (cells za r19.2.f_l), .row (.slice (some ⟨b18, 0, none⟩) (([x_name] : List Str).length) 1) 9 1 (([x_name] : List Str).length) (cells zg ([x_name] : List Str)), .blk b5 [str x_name, str x_value] 54, .blk b1 [str x_name] 9] := hst; zo (o := 0) (vs := [str x_name, str x_value]) ziD zcc (hO.blkSees (i := 3) rfl) rfl rfl hf rfl | 1, _, _, _, hst, hf => have hO : Dk.Own w0 F w [.row (.slice (some ⟨(σ.1), 0, none⟩) (([(⟨x_name, x_value⟩ : api_Field)]).length) 1) 54 2 (([(⟨x_name, x_value⟩ : api_Field)]).length) (cells za ([(⟨x_name, x_value⟩ : api_Field)])), .blk x_b_b0 [.slice p20 r19.2.f_l.length c21] 107, .row (.slice p20 r19.2.f_l.length c21) 54 2 r19.2.f_l.length (cells za r19.2.f_l), .row (.slice (some ⟨b18, 0, none⟩) (([x_name] : List Str).length) 1) 9 1 (([x_name] : List Str).length) (cells zg ([x_name] : List Str)), .blk b5 [str x_name, str x_value] 54, .blk b1 [str x_name] 9] := hst; zo (o := 0) (vs := [str x_name, str x_value]) ziD zcc (hO.blkSees (i := 4) rfl) rfl rfl hf rfl | 2, _, _, _, hst, hf => have hO : Dk.Own w0 F w [.row (.slice (σ.2.1) r25.length (σ.2.2)) 54 2 r25.length (cells za r25), .blk x_b_b0 [.slice p20 r19.2.f_l.length c21] 107, .row (.slice (some ⟨b18, 0, none⟩) (([x_name] : List Str).length) 1) 9 1 (([x_name] : List Str).length) (cells zg ([x_name] : List Str)), .blk b5 [str x_name, str x_value] 54, .blk b1 [str x_name] 9] := hst; zo (o := 0) (vs := [str x_name, str x_value]) ziD zcc (hO.blkSees (i := 3) rfl) rfl rfl hf rfl | 3, _, _, _, hst, hf => have hO : Dk.Own w0 F w [.row (.slice (σ.2.1) r25.length (σ.2.2)) 54 2 r25.length (cells za r25), .blk x_b_b0 [.slice (σ.2.1) r25.length (σ.2.2)] 107, .row (.slice (some ⟨b18, 0, none⟩) (([x_name] : List Str).length) 1) 9 1 (([x_name] : List Str).length) (cells zg ([x_name] : List Str)), .blk b5 [str x_name, str x_value] 54, .blk b1 [str x_name] 9] := hst; zo (o := 0) (vs := [str x_name, str x_value]) ziD zcc (hO.blkSees (i := 3) rfl) rfl rfl hf rfl | k + 4, hk, _, _, _, _ => absurd hk (by simp)), zfB rfl (fun σ => rfl) (fun σ => rfl) rfl (fun σ w (hO : Dk.Own w0 F w [.blk x_b_b0 [.slice p20 r19.2.f_l.length c21] 107, .row (.slice p20 r19.2.f_l.length c21) 54 2 r19.2.f_l.length (cells za r19.2.f_l), .row (.slice (some ⟨b18, 0, none⟩) (([x_name] : List Str).length) 1) 9 1 (([x_name] : List Str).length) (cells zg ([x_name] : List Str)), .blk b5 [str x_name, str x_value] 54, .blk b1 [str x_name] 9]) => by obtain ⟨b24, w', hO', hr⟩ := zbY (E := [(35, .agg #[str x_name, str x_value])]) (parts := #[(0, (.tmp 35))]) (t' := 26) (n := 1) (vs := [(0, .agg #[str x_name, str x_value])]) (cs := [str x_name, str x_value]) (e := 54) (sz := 2) (fun w => by kernel_rfl) rfl rfl hO rfl; exact ⟨(b24, (σ.2.1), (σ.2.2)), w', hO', ⟨.inr rfl, .inr rfl, .inr rfl, .inr rfl, .inr rfl, .inr rfl, .inr rfl, .inl rfl, .inl rfl, .inr rfl, .inr rfl, .inr rfl, trivial⟩, hr⟩), zbg rfl (fun σ => rfl) (fun σ => rfl) rfl (fun σ a w (_ : _) hf => zh c_135 hf (vs := [.slice p20 r19.2.f_l.length c21, int r7, .slice (some ⟨(σ.1), 0, none⟩) (([(⟨x_name, x_value⟩ : api_Field)]).length) 1]) rfl) (fun σ w (hO : Dk.Own w0 F w [.row (.slice (some ⟨(σ.1), 0, none⟩) (([(⟨x_name, x_value⟩ : api_Field)]).length) 1) 54 2 (([(⟨x_name, x_value⟩ : api_Field)]).length) (cells za ([(⟨x_name, x_value⟩ : api_Field)])), .blk x_b_b0 [.slice p20 r19.2.f_l.length c21] 107, .row (.slice p20 r19.2.f_l.length c21) 54 2 r19.2.f_l.length (cells za r19.2.f_l), .row (.slice (some ⟨b18, 0, none⟩) (([x_name] : List Str).length) 1) 9 1 (([x_name] : List Str).length) (cells zg ([x_name] : List Str)), .blk b5 [str x_name, str x_value] 54, .blk b1 [str x_name] 9]) => (zlc r19.2.f_l r7 ([(⟨x_name, x_value⟩ : api_Field)]) r25 _ (hG.own hF hO) (Dk.Own.far (show Dk.Own w0 F _ ([.row (.slice p20 r19.2.f_l.length c21) 54 2 r19.2.f_l.length (cells za r19.2.f_l), .row (.slice (some ⟨(σ.1), 0, none⟩) (([(⟨x_name, x_value⟩ : api_Field)]).length) 1) 54 2 (([(⟨x_name, x_value⟩ : api_Field)]).length) (cells za ([(⟨x_name, x_value⟩ : api_Field)]))] ++ [.blk x_b_b0 [.slice p20 r19.2.f_l.length c21] 107, .row (.slice (some ⟨b18, 0, none⟩) (([x_name] : List Str).length) 1) 9 1 (([x_name] : List Str).length) (cells zg ([x_name] : List Str)), .blk b5 [str x_name, str x_value] 54, .blk b1 [str x_name] 9]) from hO.choose [2, 0, 1, 3, 4, 5] rfl) rfl hF hG.size) ((show Dk.Own w0 F _ ([.row (.slice p20 r19.2.f_l.length c21) 54 2 r19.2.f_l.length (cells za r19.2.f_l), .row (.slice (some ⟨(σ.1), 0, none⟩) (([(⟨x_name, x_value⟩ : api_Field)]).length) 1) 54 2 (([(⟨x_name, x_value⟩ : api_Field)]).length) (cells za ([(⟨x_name, x_value⟩ : api_Field)]))] ++ [.blk x_b_b0 [.slice p20 r19.2.f_l.length c21] 107, .row (.slice (some ⟨b18, 0, none⟩) (([x_name] : List Str).length) 1) 9 1 (([x_name] : List Str).length) (cells zg ([x_name] : List Str)), .blk b5 [str x_name, str x_value] 54, .blk b1 [str x_name] 9]) from hO.choose [2, 0, 1, 3, 4, 5] rfl).lend (S := []) rfl trivial) hr25).mono fun e w' h => by obtain ⟨p26, c27, he, hO'⟩ := h; exact ⟨((σ.1), p26, c27), he, (show Dk.Own w0 F _ ([.row (.slice p20 r19.2.f_l.length c21) 54 2 r19.2.f_l.length (cells za r19.2.f_l), .row (.slice (some ⟨(σ.1), 0, none⟩) (([(⟨x_name, x_value⟩ : api_Field)]).length) 1) 54 2 (([(⟨x_name, x_value⟩ : api_Field)]).length) (cells za ([(⟨x_name, x_value⟩ : api_Field)]))] ++ [.blk x_b_b0 [.slice p20 r19.2.f_l.length c21] 107, .row (.slice (some ⟨b18, 0, none⟩) (([x_name] : List Str).length) 1) 9 1 (([x_name] : List Str).length) (cells zg ([x_name] : List Str)), .blk b5 [str x_name, str x_value] 54, .blk b1 [str x_name] 9]) from hO.choose [2, 0, 1, 3, 4, 5] rfl).back rfl hO' rfl, .inr rfl, .inr rfl, .inr rfl, .inr rfl, .inr rfl, .inr rfl, .inr rfl, .inr rfl, .inl rfl, .inr rfl, .inr rfl, .inl rfl, trivial⟩), zc rfl (fun σ => rfl) (fun σ => rfl) (fun σ a w k _ _ _ _ hf => zaD hf rfl), zc rfl (fun σ => rfl) (fun σ => rfl) (fun σ a w k _ _ _ _ hf => zw zkL hf rfl), zce rfl (fun σ => rfl) (fun σ => rfl) rfl (fun σ w (hO : Dk.Own w0 F w [.row (.slice (σ.2.1) r25.length (σ.2.2)) 54 2 r25.length (cells za r25), .blk x_b_b0 [.slice p20 r19.2.f_l.length c21] 107, .row (.slice (some ⟨b18, 0, none⟩) (([x_name] : List Str).length) 1) 9 1 (([x_name] : List Str).length) (cells zg ([x_name] : List Str)), .blk b5 [str x_name, str x_value] 54, .blk b1 [str x_name] 9]) => by obtain ⟨w', hO', hr⟩ := zea (x := (.tmp 39)) (y := (.tmp 37)) (E := [(37, .slice (σ.2.1) r25.length (σ.2.2)), (39, ptr x_b_b0 0)]) (i := 1) (o := 0) (v := .slice (σ.2.1) r25.length (σ.2.2)) sz_26 rfl rfl rfl rfl hO rfl rfl; exact ⟨((σ.1), (σ.2.1), (σ.2.2)), w', hO', ⟨.inr rfl, .inr rfl, .inr rfl, .inr rfl, .inr rfl, .inr rfl, .inr rfl, .inr rfl, .inr rfl, .inr rfl, .inr rfl, .inr rfl, trivial⟩, hr⟩), trivial⟩ ?_
 rintro ⟨b24, p26, c27⟩ a w hf hO
 have hO : Dk.Own w0 F w [.row (.slice p26 r25.length c27) 54 2 r25.length (cells za r25), .blk x_b_b0 [.slice p26 r25.length c27] 107, .row (.slice (some ⟨b18, 0, none⟩) (([x_name] : List Str).length) 1) 9 1 (([x_name] : List Str).length) (cells zg ([x_name] : List Str)), .blk b5 [str x_name, str x_value] 54, .blk b1 [str x_name] 9] := hO
 have hf : Fits 40 [] a := hf.nil
 refine S.no tb ?_ hf hO hm
 refine rn_ rfl fun a w hf hO hm => ?_
 obtain rfl := Option.some.inj hm
 exact zhV Tryz.results80 hf .nil ⟨p26, c27, rfl, (hO.choose [1, 0] rfl)⟩

end Go.Proofs
end
section
set_option linter.unusedVariables false
set_option maxHeartbeats 1000000
set_option linter.unusedSimpArgs false
set_option maxRecDepth 100000
namespace Go.Proofs
open Go.Dk Go.Dm Go.RowKit

theorem zpF (x_b : bag_Bag) (x_name : Str) (R : Str × Bool) (w0 : World) (hG : zt w0) {x_b_b0 : Nat} {x_b_p1 : Option Addr} {x_b_c1 : Nat} (hs0 : zy w0 (some ⟨x_b_b0, 0, none⟩) [.slice x_b_p1 x_b.f_l.length x_b_c1]) (hs1 : zy w0 x_b_p1 (cells za x_b.f_l)) (hc1 : x_b.f_l.length ≤ x_b_c1) (hm : zkv x_b x_name = some R) :
    Calls Tryz.prog 81 #[ptr x_b_b0 0, str x_name] w0 (Ret w0 (fun R => .tuple #[str R.1, .bool R.2]) R) := by
 rw [zkv] at hm
 have hF : zu [] := zf
 have hO : Dk.Own w0 [] w0 [] := Dk.Own.refl w0
 have hO := hO.addShr hs0 (by simp [Res.shared])
 have hO := hO.addShr hs1 (by simp [Res.shared])
 refine S.enter tb Tryz.func81 rfl Tryz.ntmps81 rfl ?_ hO hm
 refine rw_ rfl fun a w hf hO hm => ?_
 obtain ⟨r2, hr2, hm⟩ := ob hm
 refine zj (zh c_123 hf (vs := [ptr x_b_b0 0, str x_name]) rfl) rfl hf rfl rfl (ziX x_b x_name r2 _ (hG.own hF hO) (hO.sees (i := 1) rfl) (hO.sees (i := 0) rfl) hc1 hr2) ?_
 rintro e w' ⟨p3, c4, he, hO'⟩
 refine ⟨_, he, fun a hf => ?_⟩
 have hO := hO.call hO' (by simp [Res.shared])
 refine S.op tb ?_ hf hO hm
 refine br rfl (fun hc7 => ?_) fun hc7 => ?_
 exact rt Tryz.results81 rfl
 refine rw_ rfl fun a w hf hO hm => ?_
 obtain ⟨x10, hx10, hm⟩ := ob hm
 obtain ⟨b11, o12, hix10, hSx10, hAx10⟩ := zaw (enc := zg) (sz := 1) (xs := r2) 42 Tryz.underlying42 zfZ (by decide) (fun _ => rfl) hO (i := 0) rfl hx10
 refine zS (zk hix10 hf rfl rfl) rfl hf rfl rfl fun a hf => ?_
 refine S.op tb ?_ hf hO hm
 refine vl rfl rfl (fun a w hf hO => ze (o := 0) z7 (hSx10 _ (hO.rowSees (i := 0) rfl)) rfl hf rfl) ?_
 exact rt Tryz.results81 rfl

theorem zi4 (x_s : Str) (x_prefix : Str) (R : Str × Bool) (w0 : World) (hG : zt w0) (hm : stringslite_CutPrefix x_s x_prefix = some R) :
    Calls Tryz.prog 116 #[str x_s, str x_prefix] w0 (Ret w0 (fun R => .tuple #[str R.1, .bool R.2]) R) := by
 rw [stringslite_CutPrefix] at hm
 have hF : zu [] := zf
 have hO : Dk.Own w0 [] w0 [] := Dk.Own.refl w0
 refine S.enter tb Tryz.func116 rfl Tryz.ntmps116 rfl ?_ hO hm
 refine cl zwy rfl (fun r2 w hr2 hO => zdt x_s x_prefix r2 _ (hG.own hF hO) hr2) fun r2 hr2 => ?_
 refine br rfl (fun hc4 => ?_) fun hc4 => ?_
 exact rt Tryz.results116 rfl
 refine bi rfl fun s7 hs7 => ?_
 exact rt Tryz.results116 rfl

theorem zds (x_s : Str) (x_prefix : Str) (R : Str × Bool) (w0 : World) (hG : zt w0) (hm : strings_CutPrefix x_s x_prefix = some R) :
    Calls Tryz.prog 69 #[str x_s, str x_prefix] w0 (Ret w0 (fun R => .tuple #[str R.1, .bool R.2]) R) := by
 rw [strings_CutPrefix] at hm
 have hF : zu [] := zf
 have hO : Dk.Own w0 [] w0 [] := Dk.Own.refl w0
 refine S.enter tb Tryz.func69 rfl Tryz.ntmps69 rfl ?_ hO hm
 refine cl c_116 rfl (fun r2 w hr2 hO => zi4 x_s x_prefix r2 _ (hG.own hF hO) hr2) fun r2 hr2 => ?_
 exact rt Tryz.results69 rfl

theorem zfL (x_s : Str) (x_suffix : Str) (R : Bool) (w0 : World) (hG : zt w0) (hm : stringslite_HasSuffix x_s x_suffix = some R) :
    Calls Tryz.prog 172 #[str x_s, str x_suffix] w0 (Ret w0 (fun R => .bool R) R) := by
 rw [stringslite_HasSuffix] at hm
 have hF : zu [] := zf
 have hO : Dk.Own w0 [] w0 [] := Dk.Own.refl w0
 refine S.enter tb Tryz.func172 rfl Tryz.ntmps172 rfl ?_ hO hm
 refine jv 0 [] [] (fun J E L => ∃ (t5 : Bool), J ((4, .bool t5) :: E) (L) (zaA t5)) rfl ?_ ?_
 refine br rfl (fun hc2 => ?_) fun hc2 => ?_
 refine bi rfl fun i3 hi3 => ?_
 refine bi rfl fun s4 hs4 => ?_
 exact en rfl fun _ _ j => ⟨s4 == x_suffix, j rfl⟩
 exact en rfl fun _ _ j => ⟨false, j rfl⟩
 rintro a w ⟨t5, hf, hO, hm⟩
 rw [zaA] at hm
 refine S.co tb ?_ hf hO hm
 exact rt Tryz.results172 rfl

theorem zhz (x_s : Str) (x_suffix : Str) (R : Bool) (w0 : World) (hG : zt w0) (hm : strings_HasSuffix x_s x_suffix = some R) :
    Calls Tryz.prog 186 #[str x_s, str x_suffix] w0 (Ret w0 (fun R => .bool R) R) := by
 rw [strings_HasSuffix] at hm
 have hF : zu [] := zf
 have hO : Dk.Own w0 [] w0 [] := Dk.Own.refl w0
 refine S.enter tb Tryz.func186 rfl Tryz.ntmps186 rfl ?_ hO hm
 refine cl c_172 rfl (fun r2 w hr2 hO => zfL x_s x_suffix r2 _ (hG.own hF hO) hr2) fun r2 hr2 => ?_
 exact rt Tryz.results186 rfl

theorem zpG (x_s : Str) (x_l : List api_Swap) (R : Str × Bool) (w0 : World) (hG : zt w0) {x_l_p0 : Option Addr} {x_l_c0 : Nat} (hs0 : zy w0 x_l_p0 (cells zb x_l)) (hc0 : x_l.length ≤ x_l_c0) (hm : zkw x_s x_l = some R) :
    Calls Tryz.prog 137 #[str x_s, .slice x_l_p0 x_l.length x_l_c0] w0 (Ret w0 (fun R => .tuple #[str R.1, .bool R.2]) R) := by
 rw [zkw] at hm
 have hF : zu [] := zf
 have hO : Dk.Own w0 [] w0 [] := Dk.Own.refl w0
 have hO := hO.addShr hs0 (by simp [Res.shared])
 refine S.enter tb Tryz.func137 rfl Tryz.ntmps137 rfl ?_ hO hm
 refine lv [0, 10, 11] [0] (fun J E L k => ∃ (i3 : Int), J ((12, int i3) :: E) (L) (zbq x_s x_l k i3)) rfl (fun _ _ j => ⟨0, j rfl⟩) ?_
 rintro n1 a w ⟨i3, hf, hO, hm⟩
 obtain _ | n1 := n1
 rw [zbq] at hm
 cases hm
 rw [zbq] at hm
 refine S.co tb ?_ hf hO hm
 refine br rfl (fun hc5 => ?_) fun hc5 => ?_
 refine jv 3 [0, 10, 11, 12] [0] (fun J E L => J (E) (L) (zgj (zbq x_s x_l n1) i3)) rfl ?_ ?_
 refine rw_ rfl fun a w hf hO hm => ?_
 obtain ⟨x7, hx7, hm⟩ := ob hm
 obtain ⟨b8, o9, hix7, hSx7⟩ := zaK (enc := zb) (sz := 2) (xs := x_l) 22 Tryz.underlying22 zeH (by decide) (fun _ => rfl) (hO.sees (i := 0) rfl) hx7
 refine zS (zk hix7 hf rfl rfl) rfl hf rfl rfl fun a hf => ?_
 refine S.op tb ?_ hf hO hm
 refine vl rfl rfl (fun a w hf hO => zo (o := 0) (vs := [str x7.From, str x7.To]) zjk zeH (hSx7 _ (hO.sees (i := 0) rfl)) rfl rfl hf rfl) ?_
 refine al zv8 rfl fun b10 => ?_
 refine st 0 rfl rfl ?_
 refine ld 0 rfl rfl ?_
 refine cl c_69 rfl (fun r12 w hr12 hO => zds x_s x7.From r12 _ (hG.own hF hO) hr12) fun r12 hr12 => ?_
 refine jv 6 [0, 7, 8, 10, 11, 12] [0, 1] (fun J E L => ∃ (t15 : Bool), J ((29, .bool t15) :: E) (L) (zgk (zbq x_s x_l n1) i3 x7 r12 t15)) rfl ?_ ?_
 refine br rfl (fun hc14 => ?_) fun hc14 => ?_
 exact en rfl fun _ _ j => ⟨true, j rfl⟩
 refine ld 0 rfl rfl ?_
 exact en rfl fun _ _ j => ⟨x7.From == [], j rfl⟩
 rintro a w ⟨t15, hf, hO, hm⟩
 rw [zgk] at hm
 refine S.co tb ?_ hf hO hm
 refine br rfl (fun hc16 => ?_) fun hc16 => ?_
 exact ec [1] rfl rfl rfl fun _ _ j => j rfl
 refine jv 5 [0, 7, 8, 10, 11, 12] [0, 1] (fun J E L => ∃ (t23 : Bool), J ((42, .bool t23) :: E) (L) (zev (zbq x_s x_l n1) i3 x7 r12 t23)) rfl ?_ ?_
 refine br rfl (fun hc18 => ?_) fun hc18 => ?_
 exact en rfl fun _ _ j => ⟨true, j rfl⟩
 refine ld 0 rfl rfl ?_
 refine cl c_186 rfl (fun r19 w hr19 hO => zhz x7.From [47] r19 _ (hG.own hF hO) hr19) fun r19 hr19 => ?_
 refine br rfl (fun hc20 => ?_) fun hc20 => ?_
 exact en rfl fun _ _ j => ⟨true, j rfl⟩
 refine bi rfl fun b21 hb21 => ?_
 refine cl zqy rfl (fun r22 w hr22 hO => zbx [47, 63, 35] b21 r22 _ (hG.own hF hO) hr22) fun r22 hr22 => ?_
 exact en rfl fun _ _ j => ⟨decide (0 ≤ r22), j rfl⟩
 rintro a w ⟨t23, hf, hO, hm⟩
 rw [zev] at hm
 refine S.co tb ?_ hf hO hm
 refine br rfl (fun hc24 => ?_) fun hc24 => ?_
 refine ld 0 rfl rfl ?_
 refine bi rfl fun s25 hs25 => ?_
 exact rt Tryz.results137 rfl
 exact ec [1] rfl rfl rfl fun _ _ j => j rfl
 rintro a w ⟨hf, hO, hm⟩
 rw [zgj] at hm
 refine S.co tb ?_ hf hO hm
 refine bi rfl fun i27 hi27 => ?_
 exact en rfl fun _ _ j => ⟨_, Nat.lt_succ_self _, i27, j rfl⟩
 exact rt Tryz.results137 rfl

theorem zmf (x_b : UInt8) (R : Bool) (w0 : World) (hG : zt w0) (hm : zfo x_b = some R) :
    Calls Tryz.prog 269 #[zak x_b] w0 (Ret w0 (fun R => .bool R) R) := by
 rw [zfo] at hm
 have hF : zu [] := zf
 have hO : Dk.Own w0 [] w0 [] := Dk.Own.refl w0
 refine S.enter tb Tryz.func269 rfl Tryz.ntmps269 rfl ?_ hO hm
 refine jv 0 [] [] (fun J E L => ∃ (t8 : Bool), J ((2, .bool t8) :: E) (L) (za9 t8)) rfl ?_ ?_
 refine cl zt6 rfl (fun r2 w hr2 hO => zfA x_b r2 _ (hG.own hF hO) hr2) fun r2 hr2 => ?_
 refine br rfl (fun hc3 => ?_) fun hc3 => ?_
 exact en rfl fun _ _ j => ⟨true, j rfl⟩
 refine cl zqx rfl (fun r4 w hr4 hO => zc4 x_b r4 _ (hG.own hF hO) hr4) fun r4 hr4 => ?_
 refine br rfl (fun hc5 => ?_) fun hc5 => ?_
 exact en rfl fun _ _ j => ⟨true, j rfl⟩
 refine vl rfl rfl (fun a w hf hO => zaL (b := x_b) (c := 43) hf rfl rfl) ?_
 refine br rfl (fun hc6 => ?_) fun hc6 => ?_
 exact en rfl fun _ _ j => ⟨true, j rfl⟩
 refine vl rfl rfl (fun a w hf hO => zaL (b := x_b) (c := 45) hf rfl rfl) ?_
 refine br rfl (fun hc7 => ?_) fun hc7 => ?_
 exact en rfl fun _ _ j => ⟨true, j rfl⟩
 refine vl rfl rfl (fun a w hf hO => zaL (b := x_b) (c := 46) hf rfl rfl) ?_
 exact en rfl fun _ _ j => ⟨x_b == 46, j rfl⟩
 rintro a w ⟨t8, hf, hO, hm⟩
 rw [za9] at hm
 refine S.co tb ?_ hf hO hm
 exact rt Tryz.results269 rfl

theorem znX (x_s : Str) (R : Bool) (w0 : World) (hG : zt w0) (hm : ziT x_s = some R) :
    Calls Tryz.prog 257 #[str x_s] w0 (Ret w0 (fun R => .bool R) R) := by
 rw [ziT] at hm
 have hF : zu [] := zf
 have hO : Dk.Own w0 [] w0 [] := Dk.Own.refl w0
 refine S.enter tb Tryz.func257 rfl Tryz.ntmps257 rfl ?_ hO hm
 refine jv 0 [] [] (fun J E L => ∃ (t9 : Bool), J ((2, .bool t9) :: E) (L) (zdA t9)) rfl ?_ ?_
 refine br rfl (fun hc3 => ?_) fun hc3 => ?_
 refine bi rfl fun b4 hb4 => ?_
 refine cl zt6 rfl (fun r5 w hr5 hO => zfA b4 r5 _ (hG.own hF hO) hr5) fun r5 hr5 => ?_
 refine br rfl (fun hc6 => ?_) fun hc6 => ?_
 refine rw_ rfl fun a w hf hO hm => ?_
 refine zm (vs := [(0, str x_s)]) (cs := [str x_s]) (e := 9) (sz := 1) hf rfl rfl (fun w => by kernel_rfl) rfl rfl hO fun a b7 w hf hO => ?_
 refine S.op tb ?_ hf hO hm
 refine kn (b' := true) hc6 rfl ?_
 refine cl zjW rfl (fun r8 w hr8 hO => zbI zfo ([x_s] : List Str) r8 _ (hG.own hF hO) c_269 (fun y0 r w hG h => ze5 (zmf y0 r w hG h)) (hO.rowSees (i := 0) rfl) (hO.rowCap (i := 0) rfl) hr8) fun r8 hr8 => ?_
 exact ec [] rfl rfl rfl fun _ _ j => ⟨r8, j rfl⟩
 exact en rfl fun _ _ j => ⟨false, j rfl⟩
 exact en rfl fun _ _ j => ⟨false, j rfl⟩
 rintro a w ⟨t9, hf, hO, hm⟩
 rw [zdA] at hm
 refine S.co tb ?_ hf hO hm
 exact rt Tryz.results257 rfl

theorem zgZ (x_s : Str) (x_l : Str) (R : Str × Str) (w0 : World) (hG : zt w0) (hm : zfQ x_s x_l = some R) :
    Calls Tryz.prog 258 #[str x_s, str x_l] w0 (Ret w0 (fun R => .tuple #[str R.1, str R.2]) R) := by
 rw [zfQ] at hm
 have hF : zu [] := zf
 have hO : Dk.Own w0 [] w0 [] := Dk.Own.refl w0
 refine S.enter tb Tryz.func258 rfl Tryz.ntmps258 rfl ?_ hO hm
 refine cl zwx rfl (fun r2 w hr2 hO => zfD x_s x_l r2 _ (hG.own hF hO) hr2) fun r2 hr2 => ?_
 refine br rfl (fun hc5 => ?_) fun hc5 => ?_
 refine rc_ rfl fun a w hf hO hm => ?_
 refine zd1 (by kernel_rfl) (by kernel_rfl) hO ?_
 refine zn (fun w hO => zl hf rfl) rfl hf rfl rfl fun a hf => ?_
 refine zn (fun w hO => zl hf rfl) rfl hf rfl rfl fun a hf => ?_
 obtain ⟨s6, hs6, hm⟩ := ob hm
 refine zn (fun w hO => zhG (l := x_s) Tryz.underlying9 hf rfl rfl hs6) rfl hf rfl rfl fun a hf => ?_
 refine zn (fun w hO => zl hf rfl) rfl hf rfl rfl fun a hf => ?_
 refine zn (fun w hO => zl hf rfl) rfl hf rfl rfl fun a hf => ?_
 obtain ⟨s7, hs7, hm⟩ := ob hm
 refine zn (fun w hO => zhP (l := x_s) Tryz.underlying9 hf rfl rfl hs7) rfl hf rfl rfl fun a hf => ?_
 refine zn (fun w hO => z8 hf rfl) rfl hf rfl rfl fun a hf => ?_
 refine zn (fun w hO => z8 hf rfl) rfl hf rfl rfl fun a hf => ?_
 refine wpQuiet_nil ?_
 intro w hO
 refine S.no tb ?_ hf hO hm
 exact rt Tryz.results258 rfl
 exact rt Tryz.results258 rfl

theorem zoE (x_s : Str) (R : api_Ref) (w0 : World) (hG : zt w0) (hm : zjD x_s = some R) :
    Calls Tryz.prog 229 #[str x_s] w0 (Ret w0 (fun R => .agg #[str R.Scheme, str R.Auth, str R.Path, str R.Query, str R.Frag, .bool R.HasAuth, .bool R.HasQuery, .bool R.HasFrag]) R) := by
 rw [zjD] at hm
 have hF : zu [] := zf
 have hO : Dk.Own w0 [] w0 [] := Dk.Own.refl w0
 refine S.enter tb Tryz.func229 rfl Tryz.ntmps229 rfl ?_ hO hm
 refine al zpd rfl fun b1 => ?_
 refine al zpd rfl fun b3 => ?_
 refine jv 0 [2, 3] [1] (fun J E L => ∃ (s15 : Str) (s16 : Str), J ((0, str s15) :: E) (.blk b3 [str s16, str [], str [], str [], str [], .bool false, .bool false, .bool false] 219 :: L) (zfs s15 s16)) rfl ?_ ?_
 refine cl zqy rfl (fun r5 w hr5 hO => zbx x_s 58 r5 _ (hG.own hF hO) hr5) fun r5 hr5 => ?_
 refine jv 1 [0, 2, 3, 4] [0, 1] (fun J E L => ∃ (t10 : Bool), J ((14, .bool t10) :: E) (L) (zft x_s r5 t10)) rfl ?_ ?_
 refine br rfl (fun hc7 => ?_) fun hc7 => ?_
 refine bi rfl fun s8 hs8 => ?_
 refine cl c_257 rfl (fun r9 w hr9 hO => znX s8 r9 _ (hG.own hF hO) hr9) fun r9 hr9 => ?_
 exact en rfl fun _ _ j => ⟨r9, j rfl⟩
 exact en rfl fun _ _ j => ⟨false, j rfl⟩
 rintro a w ⟨t10, hf, hO, hm⟩
 rw [zft] at hm
 refine S.co tb ?_ hf hO hm
 refine br rfl (fun hc11 => ?_) fun hc11 => ?_
 refine rc_ rfl fun a w hf hO hm => ?_
 obtain ⟨s12, hs12, hm⟩ := ob hm
 obtain ⟨i13, hi13, hm⟩ := ob hm
 obtain ⟨s14, hs14, hm⟩ := ob hm
 refine zaV (S := Unit) (E0 := [(0, str x_s), (2, ptr b1 0), (3, ptr b3 0), (4, int r5)]) (by kernel_rfl) (fun k σ w => match k with | 0 => Dk.Own w0 [] w [.blk b3 [str [], str [], str [], str [], str [], .bool false, .bool false, .bool false] 219, .blk b1 [str [], str [], str [], str [], str [], .bool false, .bool false, .bool false] 219] | _ => Dk.Own w0 [] w [.blk b3 [str s12, str [], str [], str [], str [], .bool false, .bool false, .bool false] 219, .blk b1 [str [], str [], str [], str [], str [], .bool false, .bool false, .bool false] 219]) (fun σ => [⟨[(0, str x_s)], some (15, str x_s)⟩, ⟨[(4, int r5)], some (16, int r5)⟩, ⟨[(15, str x_s), (16, int r5)], some (17, str s12)⟩, ⟨[(0, str x_s)], some (18, str x_s)⟩, ⟨[(4, int r5)], some (19, int r5)⟩, ⟨[(19, int r5)], some (20, int i13)⟩, ⟨[(18, str x_s), (20, int i13)], some (21, str s14)⟩, ⟨[(3, ptr b3 0)], some (22, ptr b3 0)⟩, ⟨[(17, str s12), (22, ptr b3 0)], none⟩, ⟨[(21, str s14)], some (0, str s14)⟩]) () [8] rfl (fun _ => rfl) (fun _ => rfl) (fun _ => rfl) rfl rfl (by decide) rfl hO.drew (hf.cons rfl (hf.cons rfl (hf.cons rfl (hf.cons rfl hf.nil)))) (fun σ => ⟨⟨rfl, trivial⟩, ⟨rfl, trivial⟩, ⟨rfl, rfl, trivial⟩, ⟨rfl, trivial⟩, ⟨rfl, trivial⟩, ⟨rfl, trivial⟩, ⟨rfl, rfl, trivial⟩, ⟨rfl, trivial⟩, ⟨rfl, rfl, trivial⟩, ⟨rfl, trivial⟩, trivial⟩) ⟨zc rfl (fun σ => rfl) (fun σ => rfl) (fun σ a w k _ _ _ _ hf => zl hf rfl), zc rfl (fun σ => rfl) (fun σ => rfl) (fun σ a w k _ _ _ _ hf => zl hf rfl), zc rfl (fun σ => rfl) (fun σ => rfl) (fun σ a w k _ _ _ _ hf => zhG (l := x_s) Tryz.underlying9 hf rfl rfl hs12), zc rfl (fun σ => rfl) (fun σ => rfl) (fun σ a w k _ _ _ _ hf => zl hf rfl), zc rfl (fun σ => rfl) (fun σ => rfl) (fun σ a w k _ _ _ _ hf => zl hf rfl), zc rfl (fun σ => rfl) (fun σ => rfl) (fun σ a w k _ _ _ _ hf => zsV hf rfl rfl hi13), zc rfl (fun σ => rfl) (fun σ => rfl) (fun σ a w k _ _ _ _ hf => zhP (l := x_s) Tryz.underlying9 hf rfl rfl hs14), zc rfl (fun σ => rfl) (fun σ => rfl) (fun σ a w k _ _ _ _ hf => zw zsw hf rfl), zce rfl (fun σ => rfl) (fun σ => rfl) rfl (fun σ w (hO : Dk.Own w0 [] w _) => by obtain ⟨w', hO', hr⟩ := zea (x := (.tmp 22)) (y := (.tmp 17)) (E := [(17, str s12), (22, ptr b3 0)]) (i := 0) (o := 0) (v := str s12) zfZ rfl rfl rfl rfl hO rfl rfl; exact ⟨(), w', hO', ⟨.inr rfl, .inr rfl, .inr rfl, .inr rfl, .inr rfl, .inr rfl, .inr rfl, .inr rfl, .inr rfl, .inr rfl, trivial⟩, hr⟩), zc rfl (fun σ => rfl) (fun σ => rfl) (fun σ a w k _ _ _ _ hf => z8 hf rfl), trivial⟩ ?_
 rintro _ a w hf hO
 have hO : Dk.Own w0 [] w _ := hO
 have hf : Fits 56 [(0, str s14), (2, ptr b1 0), (3, ptr b3 0)] a := (hf.cons rfl (hf.cons rfl (hf.cons rfl hf.nil)))
 refine S.no tb ?_ hf hO hm
 exact en rfl fun _ _ j => ⟨s14, s12, j rfl⟩
 exact en rfl fun _ _ j => ⟨x_s, [], j rfl⟩
 rintro a w ⟨s15, s16, hf, hO, hm⟩
 rw [zfs] at hm
 refine S.co tb ?_ hf hO hm
 refine jv 0 [2, 3] [1] (fun J E L => ∃ (s23 : Str) (s24 : Str) (t25 : Bool), J ((0, str s23) :: E) (.blk b3 [str s16, str s24, str [], str [], str [], .bool t25, .bool false, .bool false] 219 :: L) (zfr s16 s23 s24 t25)) rfl ?_ ?_
 refine cl zsC rfl (fun r17 w hr17 hO => zct s15 [47, 47] r17 _ (hG.own hF hO) hr17) fun r17 hr17 => ?_
 refine br rfl (fun hc19 => ?_) fun hc19 => ?_
 refine st 0 rfl rfl ?_
 refine bi rfl fun s21 hs21 => ?_
 refine cl zt8 rfl (fun r22 w hr22 hO => zgZ s21 [47, 63, 35] r22 _ (hG.own hF hO) hr22) fun r22 hr22 => ?_
 refine st 0 rfl rfl ?_
 exact en rfl fun _ _ j => ⟨r22.2, r22.1, true, j rfl⟩
 exact en rfl fun _ _ j => ⟨s15, [], false, j rfl⟩
 rintro a w ⟨s23, s24, t25, hf, hO, hm⟩
 rw [zfr] at hm
 refine S.co tb ?_ hf hO hm
 refine cl zt8 rfl (fun r26 w hr26 hO => zgZ s23 [63, 35] r26 _ (hG.own hF hO) hr26) fun r26 hr26 => ?_
 refine st 0 rfl rfl ?_
 refine jv 0 [2, 3] [1] (fun J E L => ∃ (s34 : Str) (s35 : Str) (t36 : Bool), J ((0, str s34) :: E) (.blk b3 [str s16, str s24, str r26.1, str s35, str [], .bool t25, .bool t36, .bool false] 219 :: L) (zfq s16 s24 t25 r26 s34 s35 t36)) rfl ?_ ?_
 refine cl zsC rfl (fun r28 w hr28 hO => zct r26.2 [63] r28 _ (hG.own hF hO) hr28) fun r28 hr28 => ?_
 refine br rfl (fun hc30 => ?_) fun hc30 => ?_
 refine st 0 rfl rfl ?_
 refine bi rfl fun s32 hs32 => ?_
 refine cl zt8 rfl (fun r33 w hr33 hO => zgZ s32 [35] r33 _ (hG.own hF hO) hr33) fun r33 hr33 => ?_
 refine st 0 rfl rfl ?_
 exact en rfl fun _ _ j => ⟨r33.2, r33.1, true, j rfl⟩
 exact en rfl fun _ _ j => ⟨r26.2, [], false, j rfl⟩
 rintro a w ⟨s34, s35, t36, hf, hO, hm⟩
 rw [zfq] at hm
 refine S.co tb ?_ hf hO hm
 refine jv 0 [2, 3] [1] (fun J E L => ∃ (s40 : Str) (t41 : Bool), J (E) (.blk b3 [str s16, str s24, str r26.1, str s35, str s40, .bool t25, .bool t36, .bool t41] 219 :: L) (zfp s16 s24 t25 r26 s35 t36 s40 t41)) rfl ?_ ?_
 refine br rfl (fun hc38 => ?_) fun hc38 => ?_
 refine rc_ rfl fun a w hf hO hm => ?_
 obtain ⟨s39, hs39, hm⟩ := ob hm
 refine zaV (S := Unit) (E0 := [(0, str s34), (2, ptr b1 0), (3, ptr b3 0)]) (by kernel_rfl) (fun k σ w => match k with | 0 => Dk.Own w0 [] w [.blk b3 [str s16, str s24, str r26.1, str s35, str [], .bool t25, .bool t36, .bool false] 219, .blk b1 [str [], str [], str [], str [], str [], .bool false, .bool false, .bool false] 219] | 1 => Dk.Own w0 [] w [.blk b3 [str s16, str s24, str r26.1, str s35, str [], .bool t25, .bool t36, .bool true] 219, .blk b1 [str [], str [], str [], str [], str [], .bool false, .bool false, .bool false] 219] | _ => Dk.Own w0 [] w [.blk b3 [str s16, str s24, str r26.1, str s35, str s39, .bool t25, .bool t36, .bool true] 219, .blk b1 [str [], str [], str [], str [], str [], .bool false, .bool false, .bool false] 219]) (fun σ => [⟨[(0, str s34)], some (51, str s34)⟩, ⟨[(51, str s34)], some (52, str s39)⟩, ⟨[(3, ptr b3 0)], some (53, ptr b3 7)⟩, ⟨[(53, ptr b3 7)], none⟩, ⟨[(3, ptr b3 0)], some (54, ptr b3 4)⟩, ⟨[(52, str s39), (54, ptr b3 4)], none⟩]) () [3, 5] rfl (fun _ => rfl) (fun _ => rfl) (fun _ => rfl) rfl rfl (by decide) rfl hO.drew (hf.cons rfl (hf.cons rfl (hf.cons rfl hf.nil))) (fun σ => ⟨⟨rfl, trivial⟩, ⟨rfl, trivial⟩, ⟨rfl, trivial⟩, ⟨rfl, trivial⟩, ⟨rfl, trivial⟩, ⟨rfl, rfl, trivial⟩, trivial⟩) ⟨zc rfl (fun σ => rfl) (fun σ => rfl) (fun σ a w k _ _ _ _ hf => zl hf rfl), zc rfl (fun σ => rfl) (fun σ => rfl) (fun σ a w k _ _ _ _ hf => zhP (l := s34) Tryz.underlying9 hf rfl rfl hs39), zc rfl (fun σ => rfl) (fun σ => rfl) (fun σ a w k _ _ _ _ hf => zw zsy hf rfl), zce rfl (fun σ => rfl) (fun σ => rfl) rfl (fun σ w (hO : Dk.Own w0 [] w _) => by obtain ⟨w', hO', hr⟩ := zea (x := (.tmp 53)) (y := (.const (.bool true))) (E := [(53, ptr b3 7)]) (i := 0) (o := 7) (v := .bool true) sz_4 rfl rfl rfl rfl hO rfl rfl; exact ⟨(), w', hO', ⟨.inr rfl, .inr rfl, .inr rfl, .inr rfl, .inr rfl, .inr rfl, trivial⟩, hr⟩), zc rfl (fun σ => rfl) (fun σ => rfl) (fun σ a w k _ _ _ _ hf => zw zsx hf rfl), zce rfl (fun σ => rfl) (fun σ => rfl) rfl (fun σ w (hO : Dk.Own w0 [] w _) => by obtain ⟨w', hO', hr⟩ := zea (x := (.tmp 54)) (y := (.tmp 52)) (E := [(52, str s39), (54, ptr b3 4)]) (i := 0) (o := 4) (v := str s39) zfZ rfl rfl rfl rfl hO rfl rfl; exact ⟨(), w', hO', ⟨.inr rfl, .inr rfl, .inr rfl, .inr rfl, .inr rfl, .inr rfl, trivial⟩, hr⟩), trivial⟩ ?_
 rintro _ a w hf hO
 have hO : Dk.Own w0 [] w _ := hO
 have hf : Fits 56 [(2, ptr b1 0), (3, ptr b3 0)] a := (hf.cons rfl (hf.cons rfl hf.nil))
 refine S.no tb ?_ hf hO hm
 exact en rfl fun _ _ j => ⟨s39, true, j rfl⟩
 exact en rfl fun _ _ j => ⟨[], false, j rfl⟩
 rintro a w ⟨s40, t41, hf, hO, hm⟩
 rw [zfp] at hm
 refine S.co tb ?_ hf hO hm
 refine ld 0 rfl rfl ?_
 refine st 1 rfl rfl ?_
 refine re_ rfl fun a w hf hO hm => ?_
 obtain rfl := Option.some.inj hm
 exact zi Tryz.results229 hf (.cell rfl (zp (n := 8) (vs := [str s16, str s24, str r26.1, str s35, str s40, .bool t25, .bool t36, .bool t41]) zrd zrh rfl ((hO.blkSees (i := 1) rfl).cells (o := 0) (n := 8) rfl)) .nil) ⟨rfl, hO.below⟩

theorem zf4 (x_s : Str) (x_more : Str) (R : Bool) (w0 : World) (hG : zt w0) (hm : ze1 x_s x_more = some R) :
    Calls Tryz.prog 259 #[str x_s, str x_more] w0 (Ret w0 (fun R => .bool R) R) := by
 rw [ze1] at hm
 have hF : zu [] := zf
 have hO : Dk.Own w0 [] w0 [] := Dk.Own.refl w0
 refine S.enter tb Tryz.func259 rfl Tryz.ntmps259 rfl ?_ hO hm
 refine lv [0, 1] [] (fun J E L k => ∃ (i3 : Int), J ((5, int i3) :: E) (L) (zav x_s x_more k i3)) rfl (fun _ _ j => ⟨0, j rfl⟩) ?_
 rintro n1 a w ⟨i3, hf, hO, hm⟩
 obtain _ | n1 := n1
 rw [zav] at hm
 cases hm
 rw [zav] at hm
 refine S.co tb ?_ hf hO hm
 refine br rfl (fun hc5 => ?_) fun hc5 => ?_
 refine jv 3 [0, 1] [] (fun J E L => ∃ (i30 : Int), J ((5, int i30) :: E) (L) (zfu (zav x_s x_more n1) i30)) rfl ?_ ?_
 refine bi rfl fun b7 hb7 => ?_
 refine vl rfl rfl (fun a w hf hO => zaL (b := b7) (c := 37) hf rfl rfl) ?_
 refine br rfl (fun hc9 => ?_) fun hc9 => ?_
 refine jv 7 [0, 1, 5] [] (fun J E L => ∃ (t17 : Bool), J ((32, .bool t17) :: E) (L) (zfv (zav x_s x_more n1) i3 t17)) rfl ?_ ?_
 refine bi rfl fun i10 hi10 => ?_
 refine br rfl (fun hc11 => ?_) fun hc11 => ?_
 exact en rfl fun _ _ j => ⟨true, j rfl⟩
 refine bi rfl fun i12 hi12 => ?_
 refine bi rfl fun i13 hi13 => ?_
 refine bi rfl fun s14 hs14 => ?_
 refine rw_ rfl fun a w hf hO hm => ?_
 refine zm (vs := [(0, str s14)]) (cs := [str s14]) (e := 9) (sz := 1) hf rfl rfl (fun w => by kernel_rfl) rfl rfl hO fun a b15 w hf hO => ?_
 refine S.op tb ?_ hf hO hm
 refine kn (b' := false) hc11 rfl ?_
 refine cl zjW rfl (fun r16 w hr16 hO => zbI zbF ([s14] : List Str) r16 _ (hG.own hF hO) zt5 (fun y0 r w hG h => ze5 (zg0 y0 r w hG h)) (hO.rowSees (i := 0) rfl) (hO.rowCap (i := 0) rfl) hr16) fun r16 hr16 => ?_
 exact ec [] rfl rfl rfl fun _ _ j => ⟨!r16, j rfl⟩
 rintro a w ⟨t17, hf, hO, hm⟩
 rw [zfv] at hm
 refine S.co tb ?_ hf hO hm
 refine br rfl (fun hc18 => ?_) fun hc18 => ?_
 exact rt Tryz.results259 rfl
 refine bi rfl fun i21 hi21 => ?_
 exact en rfl fun _ _ j => ⟨i21, j rfl⟩
 refine jv 6 [0, 1, 5] [] (fun J E L => ∃ (t27 : Bool), J ((35, .bool t27) :: E) (L) (zfw (zav x_s x_more n1) i3 t27)) rfl ?_ ?_
 refine bi rfl fun b22 hb22 => ?_
 refine cl c_268 rfl (fun r23 w hr23 hO => zkd b22 r23 _ (hG.own hF hO) hr23) fun r23 hr23 => ?_
 refine br rfl (fun hc24 => ?_) fun hc24 => ?_
 refine bi rfl fun b25 hb25 => ?_
 refine cl zqy rfl (fun r26 w hr26 hO => zbx x_more b25 r26 _ (hG.own hF hO) hr26) fun r26 hr26 => ?_
 exact en rfl fun _ _ j => ⟨decide (r26 < 0), j rfl⟩
 exact en rfl fun _ _ j => ⟨false, j rfl⟩
 rintro a w ⟨t27, hf, hO, hm⟩
 rw [zfw] at hm
 refine S.co tb ?_ hf hO hm
 refine br rfl (fun hc28 => ?_) fun hc28 => ?_
 exact rt Tryz.results259 rfl
 exact en rfl fun _ _ j => ⟨i3, j rfl⟩
 rintro a w ⟨i30, hf, hO, hm⟩
 rw [zfu] at hm
 refine S.co tb ?_ hf hO hm
 refine bi rfl fun i31 hi31 => ?_
 exact en rfl fun _ _ j => ⟨_, Nat.lt_succ_self _, i31, j rfl⟩
 exact rt Tryz.results259 rfl

end Go.Proofs
end
section
set_option linter.unusedVariables false
set_option maxHeartbeats 1000000
set_option linter.unusedSimpArgs false
set_option maxRecDepth 100000
namespace Go.Proofs
open Go.Dk Go.Dm Go.RowKit

theorem zp4 (x_r : api_Ref) (R : Bool) (w0 : World) (hG : zt w0) (hm : zkx x_r = some R) :
    Calls Tryz.prog 230 #[.agg #[str x_r.Scheme, str x_r.Auth, str x_r.Path, str x_r.Query, str x_r.Frag, .bool x_r.HasAuth, .bool x_r.HasQuery, .bool x_r.HasFrag]] w0 (Ret w0 (fun R => .bool R) R) := by
 rw [zkx] at hm
 have hF : zu [] := zf
 have hO : Dk.Own w0 [] w0 [] := Dk.Own.refl w0
 refine S.enter tb Tryz.func230 rfl Tryz.ntmps230 rfl ?_ hO hm
 refine bo rfl fun b1 => ?_
 refine ld 0 rfl rfl ?_
 refine cl zt8 rfl (fun r3 w hr3 hO => zgZ x_r.Path [47] r3 _ (hG.own hF hO) hr3) fun r3 hr3 => ?_
 refine jv 2 [1, 3] [0] (fun J E L => ∃ (t14 : Bool), J ((11, .bool t14) :: E) (L) (zcS x_r r3 t14)) rfl ?_ ?_
 refine ld 0 rfl rfl ?_
 refine cl zt9 rfl (fun r5 w hr5 hO => zf4 x_r.Auth [91, 93] r5 _ (hG.own hF hO) hr5) fun r5 hr5 => ?_
 refine br rfl (fun hc6 => ?_) fun hc6 => ?_
 exact en rfl fun _ _ j => ⟨true, j rfl⟩
 refine ld 0 rfl rfl ?_
 refine cl c_260 rfl (fun r7 w hr7 hO => zhW x_r.Auth [64] r7 _ (hG.own hF hO) hr7) fun r7 hr7 => ?_
 refine br rfl (fun hc8 => ?_) fun hc8 => ?_
 exact en rfl fun _ _ j => ⟨true, j rfl⟩
 refine ld 0 rfl rfl ?_
 refine cl zt9 rfl (fun r9 w hr9 hO => zf4 x_r.Path [47] r9 _ (hG.own hF hO) hr9) fun r9 hr9 => ?_
 refine br rfl (fun hc10 => ?_) fun hc10 => ?_
 exact en rfl fun _ _ j => ⟨true, j rfl⟩
 refine ld 0 rfl rfl ?_
 refine cl zt9 rfl (fun r11 w hr11 hO => zf4 x_r.Query [47, 63] r11 _ (hG.own hF hO) hr11) fun r11 hr11 => ?_
 refine br rfl (fun hc12 => ?_) fun hc12 => ?_
 exact en rfl fun _ _ j => ⟨true, j rfl⟩
 refine ld 0 rfl rfl ?_
 refine cl zt9 rfl (fun r13 w hr13 hO => zf4 x_r.Frag [47, 63] r13 _ (hG.own hF hO) hr13) fun r13 hr13 => ?_
 exact en rfl fun _ _ j => ⟨!r13, j rfl⟩
 rintro a w ⟨t14, hf, hO, hm⟩
 rw [zcS] at hm
 refine S.co tb ?_ hf hO hm
 refine br rfl (fun hc15 => ?_) fun hc15 => ?_
 exact rt Tryz.results230 rfl
 refine ld 0 rfl rfl ?_
 refine br rfl (fun hc18 => ?_) fun hc18 => ?_
 refine jv 2 [] [0] (fun J E L => ∃ (t21 : Bool), J ((2, .bool t21) :: E) (L) (zgl t21)) rfl ?_ ?_
 refine ld 0 rfl rfl ?_
 refine br rfl (fun hc19 => ?_) fun hc19 => ?_
 exact en rfl fun _ _ j => ⟨true, j rfl⟩
 refine ld 0 rfl rfl ?_
 refine bi rfl fun b20 hb20 => ?_
 refine vl rfl rfl (fun a w hf hO => zaL (b := b20) (c := 47) hf rfl rfl) ?_
 exact en rfl fun _ _ j => ⟨b20 == 47, j rfl⟩
 rintro a w ⟨t21, hf, hO, hm⟩
 rw [zgl] at hm
 refine S.co tb ?_ hf hO hm
 exact rt Tryz.results230 rfl
 refine ld 0 rfl rfl ?_
 refine cl zsC rfl (fun r22 w hr22 hO => zct x_r.Path [47, 47] r22 _ (hG.own hF hO) hr22) fun r22 hr22 => ?_
 refine br rfl (fun hc24 => ?_) fun hc24 => ?_
 exact rt Tryz.results230 rfl
 refine jv 0 [] [0] (fun J E L => ∃ (t29 : Bool), J ((2, .bool t29) :: E) (L) (zgm t29)) rfl ?_ ?_
 refine ld 0 rfl rfl ?_
 refine br rfl (fun hc27 => ?_) fun hc27 => ?_
 exact en rfl fun _ _ j => ⟨true, j rfl⟩
 refine cl c_260 rfl (fun r28 w hr28 hO => zhW r3.1 [58] r28 _ (hG.own hF hO) hr28) fun r28 hr28 => ?_
 exact en rfl fun _ _ j => ⟨!r28, j rfl⟩
 rintro a w ⟨t29, hf, hO, hm⟩
 rw [zgm] at hm
 refine S.co tb ?_ hf hO hm
 exact rt Tryz.results230 rfl

theorem zpk (x_s : Str) (R : api_Ref × Int) (w0 : World) (hG : zt w0) (hm : zjE x_s = some R) :
    Calls Tryz.prog 188 #[str x_s] w0 (Ret w0 (fun R => .tuple #[.agg #[str R.1.Scheme, str R.1.Auth, str R.1.Path, str R.1.Query, str R.1.Frag, .bool R.1.HasAuth, .bool R.1.HasQuery, .bool R.1.HasFrag], int R.2]) R) := by
 rw [zjE] at hm
 have hF : zu [] := zf
 have hO : Dk.Own w0 [] w0 [] := Dk.Own.refl w0
 refine S.enter tb Tryz.func188 rfl Tryz.ntmps188 rfl ?_ hO hm
 refine al zpd rfl fun b1 => ?_
 refine cl c_229 rfl (fun r3 w hr3 hO => zoE x_s r3 _ (hG.own hF hO) hr3) fun r3 hr3 => ?_
 refine al zpd rfl fun b4 => ?_
 refine st 0 rfl rfl ?_
 refine ld 0 rfl rfl ?_
 refine cl c_230 rfl (fun r6 w hr6 hO => zp4 r3 r6 _ (hG.own hF hO) hr6) fun r6 hr6 => ?_
 refine br rfl (fun hc8 => ?_) fun hc8 => ?_
 refine vl rfl rfl (fun a w hf hO => zB (vs := []) (v := .agg #[str [], str [], str [], str [], str [], .bool false, .bool false, .bool false]) hf rfl (by kernel_rfl)) ?_
 refine st 1 rfl rfl ?_
 refine re_ rfl fun a w hf hO hm => ?_
 obtain rfl := Option.some.inj hm
 exact zi Tryz.results188 hf (.cell rfl (zp (n := 8) (vs := [str [], str [], str [], str [], str [], .bool false, .bool false, .bool false]) zrd zrh rfl ((hO.blkSees (i := 1) rfl).cells (o := 0) (n := 8) rfl)) (.tmp rfl .nil)) ⟨rfl, hO.below⟩
 refine ld 0 rfl rfl ?_
 refine st 1 rfl rfl ?_
 refine re_ rfl fun a w hf hO hm => ?_
 obtain rfl := Option.some.inj hm
 exact zi Tryz.results188 hf (.cell rfl (zp (n := 8) (vs := [str r3.Scheme, str r3.Auth, str r3.Path, str r3.Query, str r3.Frag, .bool r3.HasAuth, .bool r3.HasQuery, .bool r3.HasFrag]) zrd zrh rfl ((hO.blkSees (i := 1) rfl).cells (o := 0) (n := 8) rfl)) (.tmp rfl .nil)) ⟨rfl, hO.below⟩

theorem zlq (x_s : Str) (R : Bool) (w0 : World) (hG : zt w0) (hm : ziu x_s = some R) :
    Calls Tryz.prog 138 #[str x_s] w0 (Ret w0 (fun R => .bool R) R) := by
 rw [ziu] at hm
 have hF : zu [] := zf
 have hO : Dk.Own w0 [] w0 [] := Dk.Own.refl w0
 refine S.enter tb Tryz.func138 rfl Tryz.ntmps138 rfl ?_ hO hm
 refine cl c_188 rfl (fun r2 w hr2 hO => zpk x_s r2 _ (hG.own hF hO) hr2) fun r2 hr2 => ?_
 refine al zpd rfl fun b3 => ?_
 refine st 0 rfl rfl ?_
 exact rt Tryz.results138 rfl

theorem zlR (x_s : Str) (x_l : List api_Swap) (R : Str) (w0 : World) (hG : zt w0) {x_l_p0 : Option Addr} {x_l_c0 : Nat} (hs0 : zy w0 x_l_p0 (cells zb x_l)) (hc0 : x_l.length ≤ x_l_c0) (hm : zgM x_s x_l = some R) :
    Calls Tryz.prog 84 #[str x_s, .slice x_l_p0 x_l.length x_l_c0] w0 (Ret w0 (fun R => str R) R) := by
 rw [zgM] at hm
 have hF : zu [] := zf
 have hO : Dk.Own w0 [] w0 [] := Dk.Own.refl w0
 have hO := hO.addShr hs0 (by simp [Res.shared])
 refine S.enter tb Tryz.func84 rfl Tryz.ntmps84 rfl ?_ hO hm
 refine cl c_137 rfl (fun r2 w hr2 hO => zpG x_s x_l r2 _ (hG.own hF hO) (hO.sees (i := 0) rfl) hc0 hr2) fun r2 hr2 => ?_
 refine jv 1 [0, 5] [0] (fun J E L => ∃ (t8 : Bool), J ((24, .bool t8) :: E) (L) (zcu x_s r2 t8)) rfl ?_ ?_
 refine br rfl (fun hc4 => ?_) fun hc4 => ?_
 exact en rfl fun _ _ j => ⟨true, j rfl⟩
 refine cl c_138 rfl (fun r5 w hr5 hO => zlq x_s r5 _ (hG.own hF hO) hr5) fun r5 hr5 => ?_
 refine br rfl (fun hc6 => ?_) fun hc6 => ?_
 exact en rfl fun _ _ j => ⟨true, j rfl⟩
 refine cl c_138 rfl (fun r7 w hr7 hO => zlq r2.1 r7 _ (hG.own hF hO) hr7) fun r7 hr7 => ?_
 exact en rfl fun _ _ j => ⟨!r7, j rfl⟩
 rintro a w ⟨t8, hf, hO, hm⟩
 rw [zcu] at hm
 refine S.co tb ?_ hf hO hm
 refine br rfl (fun hc9 => ?_) fun hc9 => ?_
 exact rt Tryz.results84 rfl
 exact rt Tryz.results84 rfl

theorem zdj (x_c : scan_Scanner) (x_is : UInt8 → Option Bool) (R : Str × scan_Scanner) (w0 : World) (hG : zt w0) {x_c_b0 : Nat} {F : List Nat} (hF : zu F) (hO : Dk.Own w0 F w0 [.blk x_c_b0 [str x_c.f_s, int x_c.f_at] 148]) {x_is_f : Nat} {x_is_p x_is_c : Array Value} (x_is_k : zd Tryz.prog x_is_f) (x_is_h : ∀ (y0 : UInt8) (r : Bool) (w : World), zt w → x_is y0 = some r → Calls Tryz.prog x_is_f (x_is_p ++ [zak y0].toArray ++ x_is_c) w fun e w' => e = .returned (.bool r) ∧ Below w.heap.size w w') (hm : zar x_c x_is = some R) :
    Calls Tryz.prog 110 #[ptr x_c_b0 0, .func (.func x_is_f) x_is_p x_is_c] w0 fun e w' => e = .returned (str R.1) ∧ Dk.Own w0 F w' [.blk x_c_b0 [str R.2.f_s, int R.2.f_at] 148] := by
 rw [zar] at hm
 refine S.enter tb Tryz.func110 rfl Tryz.ntmps110 rfl ?_ hO hm
 refine cl zsA rfl (fun r2 w hr2 hO => zc5 x_c r2 _ (hG.own hF hO) (hO.blkSees (i := 0) rfl) hr2) fun r2 hr2 => ?_
 refine jv 0 [0, 5] [] (fun J E L => ∃ (s14 : Str) (i15 : Int), J (E) (.blk x_c_b0 [str s14, int i15] 148 :: L) (zbR r2 s14 i15)) rfl ?_ ?_
 refine lv [0, 1, 5] [] (fun J E L k => ∃ (s4 : Str) (i5 : Int), J (E) (.blk x_c_b0 [str s4, int i5] 148 :: L) (zQ x_is r2 k s4 i5)) rfl (fun _ _ j => ⟨x_c.f_s, x_c.f_at, j rfl⟩) ?_
 rintro n1 a w ⟨s4, i5, hf, hO, hm⟩
 obtain _ | n1 := n1
 rw [zQ] at hm
 cases hm
 rw [zQ] at hm
 refine S.co tb ?_ hf hO hm
 refine cl zqw rfl (fun r6 w hr6 hO => zbw (⟨s4, i5⟩ : scan_Scanner) r6 _ (hG.own hF hO) (hO.blkSees (i := 0) rfl) hr6) fun r6 hr6 => ?_
 refine jv 5 [0, 1, 5] [0] (fun J E L => ∃ (t10 : Bool), J ((22, .bool t10) :: E) (L) (za1 (zQ x_is r2 n1) r2 s4 i5 t10)) rfl ?_ ?_
 refine br rfl (fun hc8 => ?_) fun hc8 => ?_
 exact en rfl fun _ _ j => ⟨true, j rfl⟩
 refine rw_ rfl fun a w hf hO hm => ?_
 obtain ⟨r9, hr9, hm⟩ := ob hm
 refine oc (ziZ x_is_k hf rfl (vs := [zak r6.1]) rfl) hf rfl (x_is_h r6.1 r9 _ (hG.own hF hO) hr9) hO fun a w' hf hO => ?_
 refine S.op tb ?_ hf hO hm
 refine kn (b' := false) hc8 rfl ?_
 exact en rfl fun _ _ j => ⟨!r9, j rfl⟩
 rintro a w ⟨t10, hf, hO, hm⟩
 rw [za1] at hm
 refine S.co tb ?_ hf hO hm
 refine br rfl (fun hc11 => ?_) fun hc11 => ?_
 exact en rfl fun _ _ j => ⟨s4, i5, j rfl⟩
 refine ld 0 rfl rfl ?_
 refine bi rfl fun i13 hi13 => ?_
 refine st 0 rfl rfl ?_
 exact en rfl fun _ _ j => ⟨_, Nat.lt_succ_self _, s4, i13, j rfl⟩
 rintro a w ⟨s14, i15, hf, hO, hm⟩
 rw [zbR] at hm
 refine S.co tb ?_ hf hO hm
 refine vl rfl rfl (fun a w hf hO => zgF Tryz.underlying114 hf rfl rfl) ?_
 refine kn (b' := false) rfl rfl ?_
 refine rc_ rfl fun a w hf hO hm => ?_
 refine zd1 (by kernel_rfl) (by kernel_rfl) hO ?_
 refine zn (fun w hO => zl hf rfl) rfl hf rfl rfl fun a hf => ?_
 refine zn (fun w hO => zaD hf rfl) rfl hf rfl rfl fun a hf => ?_
 refine zn (fun w hO => zw zmC hf rfl) rfl hf rfl rfl fun a hf => ?_
 refine zn (fun w hO => ze (o := 0) z7 (hO.blkSees (i := 0) rfl) rfl hf rfl) rfl hf rfl rfl fun a hf => ?_
 refine zn (fun w hO => zl hf rfl) rfl hf rfl rfl fun a hf => ?_
 refine zn (fun w hO => zl hf rfl) rfl hf rfl rfl fun a hf => ?_
 refine zn (fun w hO => zaD hf rfl) rfl hf rfl rfl fun a hf => ?_
 refine zn (fun w hO => zw zmD hf rfl) rfl hf rfl rfl fun a hf => ?_
 refine zn (fun w hO => ze (o := 1) ag_3 (hO.blkSees (i := 0) rfl) rfl hf rfl) rfl hf rfl rfl fun a hf => ?_
 obtain ⟨s18, hs18, hm⟩ := ob hm
 refine zn (fun w hO => zl4 (l := s14) Tryz.underlying9 hf rfl rfl rfl hs18) rfl hf rfl rfl fun a hf => ?_
 refine zn (fun w hO => z8 hf rfl) rfl hf rfl rfl fun a hf => ?_
 refine wpQuiet_nil ?_
 intro w hO
 refine S.no tb ?_ hf hO hm
 refine re_ rfl fun a w hf hO hm => ?_
 obtain rfl := Option.some.inj hm
 exact zi Tryz.results110 hf (.tmp rfl .nil) ⟨rfl, hO⟩

theorem zcd (x_c : scan_Scanner) (R : Str × Bool × scan_Scanner) (w0 : World) (hG : zt w0) {x_c_b0 : Nat} {F : List Nat} (hF : zu F) (hO : Dk.Own w0 F w0 [.blk x_c_b0 [str x_c.f_s, int x_c.f_at] 148]) (hm : zas x_c = some R) :
    Calls Tryz.prog 109 #[ptr x_c_b0 0] w0 fun e w' => e = .returned (.tuple #[str R.1, .bool R.2.1]) ∧ Dk.Own w0 F w' [.blk x_c_b0 [str R.2.2.f_s, int R.2.2.f_at] 148] := by
 rw [zas] at hm
 refine S.enter tb Tryz.func109 rfl Tryz.ntmps109 rfl ?_ hO hm
 refine rw_ rfl fun a w hf hO hm => ?_
 obtain ⟨r2, hr2, hm⟩ := ob hm
 have hch3 := (show Dk.Own w0 F _ ([.blk x_c_b0 [str x_c.f_s, int x_c.f_at] 148] ++ []) from hO)
 have hfar3 := Dk.Own.far hch3 rfl hF hG.size
 have hlend3 := hch3.lend (S := []) rfl trivial
 have hcl3 := zdj x_c zcD r2 _ (hG.own hF hO) hfar3 hlend3 c_150 (fun y0 r w hG h => ze5 (zjU y0 r w hG h)) hr2
 refine zj (zh zt4 hf (vs := [ptr x_c_b0 0, .func (.func 150) #[] #[]]) rfl) rfl hf rfl rfl (hcl3) ?_
 rintro e w' ⟨he, hO'⟩
 refine ⟨_, he, fun a hf => ?_⟩
 have hO := hch3.back rfl hO' rfl
 refine S.op tb ?_ hf hO hm
 refine re_ rfl fun a w hf hO hm => ?_
 obtain rfl := Option.some.inj hm
 exact zi Tryz.results109 hf (.tmp rfl (.tmp rfl .nil)) ⟨rfl, hO⟩

theorem zn9 (x_a0 : UInt8) (R : Bool) (w0 : World) (hG : zt w0) (hm : zg2 x_a0 = some R) :
    Calls Tryz.prog 231 #[zak x_a0] w0 (Ret w0 (fun R => .bool R) R) := by
 rw [zg2] at hm
 have hF : zu [] := zf
 have hO : Dk.Own w0 [] w0 [] := Dk.Own.refl w0
 refine S.enter tb Tryz.func231 rfl Tryz.ntmps231 rfl ?_ hO hm
 exact rt Tryz.results231 rfl

theorem zlr (x_s : Str) (R : api_Attr × Bool) (w0 : World) (hG : zt w0) (hm : ziv x_s = some R) :
    Calls Tryz.prog 189 #[str x_s] w0 (Ret w0 (fun R => .tuple #[.agg #[str R.1.Name, str R.1.Value, .bool R.1.Has], .bool R.2]) R) := by
 rw [ziv] at hm
 have hF : zu [] := zf
 have hO : Dk.Own w0 [] w0 [] := Dk.Own.refl w0
 refine S.enter tb Tryz.func189 rfl Tryz.ntmps189 rfl ?_ hO hm
 refine al znk rfl fun b1 => ?_
 refine cl zt3 rfl (fun r3 w hr3 hO => zf3 x_s [32, 9] r3 _ (hG.own hF hO) hr3) fun r3 hr3 => ?_
 refine rw_ rfl fun a w hf hO hm => ?_
 obtain ⟨r4, hr4, hm⟩ := ob hm
 refine zj (zh c_58 hf (vs := [str r3]) rfl) rfl hf rfl rfl (zjo r3 r4 _ (hG.own hF hO) hr4) ?_
 rintro e w' ⟨b5, he, hO'⟩
 refine ⟨_, he, fun a hf => ?_⟩
 have hO := hO.call hO' (by simp [Res.shared])
 refine S.op tb ?_ hf hO hm
 refine rw_ rfl fun a w hf hO hm => ?_
 obtain ⟨r7, hr7, hm⟩ := ob hm
 have hch8 := (show Dk.Own w0 [] _ ([.blk b5 [str r4.f_s, int r4.f_at] 148] ++ [.blk b1 [str [], str [], .bool false] 223]) from hO)
 have hfar8 := Dk.Own.far hch8 rfl hF hG.size
 have hlend8 := hch8.lend (S := []) rfl trivial
 have hcl8 := zcd r4 r7 _ (hG.own hF hO) hfar8 hlend8 hr7
 refine zj (zh zsB hf (vs := [ptr b5 0]) rfl) rfl hf rfl rfl (hcl8) ?_
 rintro e w' ⟨he, hO'⟩
 refine ⟨_, he, fun a hf => ?_⟩
 have hO := hch8.back rfl hO' rfl
 refine S.op tb ?_ hf hO hm
 refine rw_ rfl fun a w hf hO hm => ?_
 obtain ⟨r10, hr10, hm⟩ := ob hm
 have hch11 := (show Dk.Own w0 [] _ ([.blk b5 [str r7.2.2.f_s, int r7.2.2.f_at] 148] ++ [.blk b1 [str [], str [], .bool false] 223]) from hO)
 have hfar11 := Dk.Own.far hch11 rfl hF hG.size
 have hlend11 := hch11.lend (S := []) rfl trivial
 have hcl11 := zE r7.2.2 61 r10 _ (hG.own hF hO) hfar11 hlend11 hr10
 refine zj (zh zmH hf (vs := [ptr b5 0, zak 61]) rfl) rfl hf rfl rfl (hcl11) ?_
 rintro e w' ⟨he, hO'⟩
 refine ⟨_, he, fun a hf => ?_⟩
 have hO := hch11.back rfl hO' rfl
 refine S.op tb ?_ hf hO hm
 refine vl rfl rfl (fun a w hf hO => zB (vs := [(0, str r7.1), (2, .bool r10.1)]) (v := .agg #[str r7.1, str [], .bool r10.1]) hf rfl (by kernel_rfl)) ?_
 refine al znk rfl fun b12 => ?_
 refine st 0 rfl rfl ?_
 refine jv 0 [2, 4, 6, 7] [2] (fun J E L => ∃ (s18 : Str) (i19 : Int) (s20 : Str), J (E) (.blk b5 [str s18, int i19] 148 :: .blk b12 [str r7.1, str s20, .bool r10.1] 223 :: L) (zgn r7 r10 s18 i19 s20)) rfl ?_ ?_
 refine ld 0 rfl rfl ?_
 refine br rfl (fun hc15 => ?_) fun hc15 => ?_
 refine rw_ rfl fun a w hf hO hm => ?_
 obtain ⟨r16, hr16, hm⟩ := ob hm
 have hch17 := (show Dk.Own w0 [] _ ([.blk b5 [str r10.2.f_s, int r10.2.f_at] 148] ++ [.blk b12 [str r7.1, str [], .bool r10.1] 223, .blk b1 [str [], str [], .bool false] 223]) from hO.choose [1, 0, 2] rfl)
 have hfar17 := Dk.Own.far hch17 rfl hF hG.size
 have hlend17 := hch17.lend (S := []) rfl trivial
 have hcl17 := zdj r10.2 zg2 r16 _ (hG.own hF hO) hfar17 hlend17 c_231 (fun y0 r w hG h => ze5 (zn9 y0 r w hG h)) hr16
 refine zj (zh zt4 hf (vs := [ptr b5 0, .func (.func 231) #[] #[]]) rfl) rfl hf rfl rfl (hcl17) ?_
 rintro e w' ⟨he, hO'⟩
 refine ⟨_, he, fun a hf => ?_⟩
 have hO := hch17.back rfl hO' rfl
 refine S.op tb ?_ hf hO hm
 refine st 1 rfl rfl ?_
 exact en rfl fun _ _ j => ⟨r16.2.f_s, r16.2.f_at, r16.1, j rfl⟩
 exact ec [1, 0, 2] rfl rfl rfl fun _ _ j => ⟨r10.2.f_s, r10.2.f_at, [], j rfl⟩
 rintro a w ⟨s18, i19, s20, hf, hO, hm⟩
 rw [zgn] at hm
 refine S.co tb ?_ hf hO hm
 refine jv 0 [2] [0, 1] (fun J E L => ∃ (t28 : Bool), J ((3, .bool t28) :: E) (.blk b1 [str r7.1, str s20, .bool r10.1] 223 :: L) (zdB r7 r10 s20 t28)) rfl ?_ ?_
 refine rc_ rfl fun a w hf hO hm => ?_
 rcases zga (r7.2.1) with hc21 | hc21
 have hm := it hc21 hm
 obtain ⟨r22, hr22, hm⟩ := ob hm
 rcases zga (r22) with hc23 | hc23
 have hm := it hc23 hm
 obtain ⟨r25, hr25, hm⟩ := ob hm
 rcases zga (r25) with hc26 | hc26
 have hm := it hc26 hm
 obtain ⟨r27, hr27, hm⟩ := ob hm
 refine zkS (S := Nat) (E0 := [(2, ptr b1 0), (4, ptr b5 0), (6, .bool r7.2.1), (7, ptr b12 0)]) (by kernel_rfl) (fun k σ w => match k with | 0 => Dk.Own w0 [] w [.blk b5 [str s18, int i19] 148, .blk b12 [str r7.1, str s20, .bool r10.1] 223, .blk b1 [str [], str [], .bool false] 223] | 1 => Dk.Own w0 [] w [.blk b5 [str s18, int i19] 148, .blk b12 [str r7.1, str s20, .bool r10.1] 223, .blk b1 [str [], str [], .bool false] 223] | 2 => Dk.Own w0 [] w [.row (.slice (some ⟨σ, 0, none⟩) (([s20] : List Str).length) 1) 9 1 (([s20] : List Str).length) (cells zg ([s20] : List Str)), .blk b5 [str s18, int i19] 148, .blk b12 [str r7.1, str s20, .bool r10.1] 223, .blk b1 [str [], str [], .bool false] 223] | 3 => Dk.Own w0 [] w [.row (.slice (some ⟨σ, 0, none⟩) (([s20] : List Str).length) 1) 9 1 (([s20] : List Str).length) (cells zg ([s20] : List Str)), .blk b5 [str s18, int i19] 148, .blk b12 [str r7.1, str s20, .bool r10.1] 223, .blk b1 [str [], str [], .bool false] 223] | 4 => Dk.Own w0 [] w [.row (.slice (some ⟨σ, 0, none⟩) (([s20] : List Str).length) 1) 9 1 (([s20] : List Str).length) (cells zg ([s20] : List Str)), .blk b5 [str s18, int i19] 148, .blk b12 [str r7.1, str s20, .bool r10.1] 223, .blk b1 [str [], str [], .bool false] 223] | _ => Dk.Own w0 [] w [.row (.slice (some ⟨σ, 0, none⟩) (([s20] : List Str).length) 1) 9 1 (([s20] : List Str).length) (cells zg ([s20] : List Str)), .blk b5 [str s18, int i19] 148, .blk b12 [str r7.1, str s20, .bool r10.1] 223, .blk b1 [str r7.1, str s20, .bool r10.1] 223]) (fun σ => [⟨[(7, ptr b12 0)], some (25, .agg #[str r7.1, str s20, .bool r10.1])⟩, ⟨[(6, .bool r7.2.1)], some (26, .bool r7.2.1)⟩, ⟨[(26, .bool r7.2.1)], some (27, .bool r7.2.1)⟩, ⟨[(4, ptr b5 0), (27, .bool r7.2.1)], some (28, ptr b5 0)⟩, ⟨[(28, ptr b5 0), (27, .bool r7.2.1)], some (29, .bool r22)⟩, ⟨[(27, .bool r7.2.1), (29, .bool r22)], some (30, .bool r22)⟩, ⟨[(30, .bool r22)], some (31, .bool r22)⟩, ⟨[(7, ptr b12 0), (31, .bool r22)], some (32, ptr b12 1)⟩, ⟨[(32, ptr b12 1), (31, .bool r22)], some (33, str s20)⟩, ⟨[(33, str s20), (31, .bool r22)], some (34, .slice (some ⟨σ, 0, none⟩) (([s20] : List Str).length) 1)⟩, ⟨[(34, .slice (some ⟨σ, 0, none⟩) (([s20] : List Str).length) 1), (31, .bool r22)], some (35, .bool r25)⟩, ⟨[(31, .bool r22), (35, .bool r25)], some (36, .bool r25)⟩, ⟨[(36, .bool r25)], some (37, .bool r25)⟩, ⟨[(7, ptr b12 0), (37, .bool r25)], some (38, ptr b12 1)⟩, ⟨[(38, ptr b12 1), (37, .bool r25)], some (39, str s20)⟩, ⟨[(39, str s20), (37, .bool r25)], some (40, str r27)⟩, ⟨[(7, ptr b12 0), (37, .bool r25)], some (41, ptr b12 1)⟩, ⟨[(41, ptr b12 1), (37, .bool r25)], some (42, str s20)⟩, ⟨[(40, str r27), (42, str s20), (37, .bool r25)], some (43, .bool (r27 == s20))⟩, ⟨[(37, .bool r25), (43, .bool (r27 == s20))], some (44, .bool (r27 == s20))⟩, ⟨[(2, ptr b1 0), (25, .agg #[str r7.1, str s20, .bool r10.1])], none⟩, ⟨[(44, .bool (r27 == s20))], some (3, .bool (r27 == s20))⟩]) (0) [4, 9, 10, 15, 20] [] ⟨zaj rfl rfl, zaj rfl rfl, zaj rfl rfl, zY (u := fun σ => r7.2.1) rfl (fun σ => rfl) rfl (fun σ => rfl) (fun σ => by rw [hc21] <;> rfl), zY (u := fun σ => r7.2.1) rfl (fun σ => rfl) rfl (fun σ => rfl) (fun σ => by rw [hc21] <;> rfl), zaj rfl rfl, zaj rfl rfl, zY (u := fun σ => r22) rfl (fun σ => rfl) rfl (fun σ => rfl) (fun σ => by rw [hc23] <;> rfl), zY (u := fun σ => r22) rfl (fun σ => rfl) rfl (fun σ => rfl) (fun σ => by rw [hc23] <;> rfl), zY (u := fun σ => r22) rfl (fun σ => rfl) rfl (fun σ => rfl) (fun σ => by rw [hc23] <;> rfl), zY (u := fun σ => r22) rfl (fun σ => rfl) rfl (fun σ => rfl) (fun σ => by rw [hc23] <;> rfl), zaj rfl rfl, zaj rfl rfl, zY (u := fun σ => r25) rfl (fun σ => rfl) rfl (fun σ => rfl) (fun σ => by rw [hc26] <;> rfl), zY (u := fun σ => r25) rfl (fun σ => rfl) rfl (fun σ => rfl) (fun σ => by rw [hc26] <;> rfl), zY (u := fun σ => r25) rfl (fun σ => rfl) rfl (fun σ => rfl) (fun σ => by rw [hc26] <;> rfl), zY (u := fun σ => r25) rfl (fun σ => rfl) rfl (fun σ => rfl) (fun σ => by rw [hc26] <;> rfl), zY (u := fun σ => r25) rfl (fun σ => rfl) rfl (fun σ => rfl) (fun σ => by rw [hc26] <;> rfl), zY (u := fun σ => r25) rfl (fun σ => rfl) rfl (fun σ => rfl) (fun σ => by rw [hc26] <;> rfl), zaj rfl rfl, zaj rfl rfl, zaj rfl rfl, trivial⟩ (fun σ => ⟨.inl rfl, .inl rfl, .inl rfl, .inl rfl, .inl rfl, .inl rfl, .inl rfl, .inl rfl, .inl rfl, .inl rfl, .inl rfl, .inl rfl, .inl rfl, .inl rfl, .inl rfl, .inl rfl, .inl rfl, .inl rfl, .inl rfl, .inl rfl, .inl rfl, .inl rfl, trivial⟩) (fun _ => rfl) (fun _ => rfl) (fun _ => rfl) rfl rfl (by decide) rfl hO.drew (hf.cons rfl (hf.cons rfl (hf.cons rfl (hf.cons rfl hf.nil)))) (fun σ => ⟨⟨rfl, trivial⟩, ⟨rfl, trivial⟩, ⟨rfl, trivial⟩, ⟨rfl, rfl, trivial⟩, ⟨rfl, rfl, trivial⟩, ⟨rfl, rfl, trivial⟩, ⟨rfl, trivial⟩, ⟨rfl, rfl, trivial⟩, ⟨rfl, rfl, trivial⟩, ⟨rfl, rfl, trivial⟩, ⟨rfl, rfl, trivial⟩, ⟨rfl, rfl, trivial⟩, ⟨rfl, trivial⟩, ⟨rfl, rfl, trivial⟩, ⟨rfl, rfl, trivial⟩, ⟨rfl, rfl, trivial⟩, ⟨rfl, rfl, trivial⟩, ⟨rfl, rfl, trivial⟩, ⟨rfl, rfl, rfl, trivial⟩, ⟨rfl, rfl, trivial⟩, ⟨rfl, rfl, trivial⟩, ⟨rfl, trivial⟩, trivial⟩) ⟨.inr ⟨rfl, zc rfl (fun σ => rfl) (fun σ => rfl) (fun σ a w k hk hlo hup hst hf => match k, hk, hlo, hup, hst, hf with | 0, _, _, _, hst, hf => have hO : Dk.Own w0 [] w _ := hst; zo (o := 0) (vs := [str r7.1, str s20, .bool r10.1]) zcW za3 (hO.blkSees (i := 1) rfl) rfl rfl hf rfl | 1, _, _, _, hst, hf => have hO : Dk.Own w0 [] w _ := hst; zo (o := 0) (vs := [str r7.1, str s20, .bool r10.1]) zcW za3 (hO.blkSees (i := 1) rfl) rfl rfl hf rfl | 2, _, _, _, hst, hf => have hO : Dk.Own w0 [] w _ := hst; zo (o := 0) (vs := [str r7.1, str s20, .bool r10.1]) zcW za3 (hO.blkSees (i := 2) rfl) rfl rfl hf rfl | 3, _, _, _, hst, hf => have hO : Dk.Own w0 [] w _ := hst; zo (o := 0) (vs := [str r7.1, str s20, .bool r10.1]) zcW za3 (hO.blkSees (i := 2) rfl) rfl rfl hf rfl | 4, _, _, _, hst, hf => have hO : Dk.Own w0 [] w _ := hst; zo (o := 0) (vs := [str r7.1, str s20, .bool r10.1]) zcW za3 (hO.blkSees (i := 2) rfl) rfl rfl hf rfl | 5, _, _, _, hst, hf => have hO : Dk.Own w0 [] w _ := hst; zo (o := 0) (vs := [str r7.1, str s20, .bool r10.1]) zcW za3 (hO.blkSees (i := 2) rfl) rfl rfl hf rfl | k + 6, hk, _, _, _, _ => absurd hk (by simp))⟩, .inr ⟨rfl, zc rfl (fun σ => rfl) (fun σ => rfl) (fun σ a w k _ _ _ _ hf => zl hf rfl)⟩, .inr ⟨rfl, zc rfl (fun σ => rfl) (fun σ => rfl) (fun σ a w k _ _ _ _ hf => zl hf rfl)⟩, .inr ⟨rfl, zc rfl (fun σ => rfl) (fun σ => rfl) (fun σ a w k _ _ _ _ hf => zl hf rfl)⟩, .inr ⟨rfl, zbg rfl (fun σ => rfl) (fun σ => rfl) rfl (fun σ a w (_ : _) hf => zh ztx hf (vs := [ptr b5 0]) rfl) (fun σ w (hO : Dk.Own w0 [] w _) => (za5 (⟨s18, i19⟩ : scan_Scanner) r22 _ (hG.own hF hO) (hO.blkSees (i := 0) rfl) hr22).mono fun e w' h => by obtain ⟨he, hb⟩ := h; exact ⟨(σ), he, hO.grow hb, .inr rfl, .inr rfl, .inr rfl, .inr rfl, .inr rfl, .inr rfl, .inr rfl, .inr rfl, .inr rfl, .inr rfl, .inr rfl, .inr rfl, .inr rfl, .inr rfl, .inr rfl, .inr rfl, .inr rfl, .inr rfl, .inr rfl, .inr rfl, .inr rfl, .inr rfl, trivial⟩)⟩, .inr ⟨rfl, zc rfl (fun σ => rfl) (fun σ => rfl) (fun σ a w k _ _ _ _ hf => zbb hf rfl hc21 rfl)⟩, .inr ⟨rfl, zc rfl (fun σ => rfl) (fun σ => rfl) (fun σ a w k _ _ _ _ hf => zl hf rfl)⟩, .inr ⟨rfl, zc rfl (fun σ => rfl) (fun σ => rfl) (fun σ a w k _ _ _ _ hf => zw zkM hf rfl)⟩, .inr ⟨rfl, zc rfl (fun σ => rfl) (fun σ => rfl) (fun σ a w k hk hlo hup hst hf => match k, hk, hlo, hup, hst, hf with | 0, _, _, _, hst, hf => have hO : Dk.Own w0 [] w _ := hst; ze (o := 1) z7 (hO.blkSees (i := 1) rfl) rfl hf rfl | 1, _, _, _, hst, hf => have hO : Dk.Own w0 [] w _ := hst; ze (o := 1) z7 (hO.blkSees (i := 1) rfl) rfl hf rfl | 2, _, _, _, hst, hf => have hO : Dk.Own w0 [] w _ := hst; ze (o := 1) z7 (hO.blkSees (i := 2) rfl) rfl hf rfl | 3, _, _, _, hst, hf => have hO : Dk.Own w0 [] w _ := hst; ze (o := 1) z7 (hO.blkSees (i := 2) rfl) rfl hf rfl | 4, _, _, _, hst, hf => have hO : Dk.Own w0 [] w _ := hst; ze (o := 1) z7 (hO.blkSees (i := 2) rfl) rfl hf rfl | 5, _, _, _, hst, hf => have hO : Dk.Own w0 [] w _ := hst; ze (o := 1) z7 (hO.blkSees (i := 2) rfl) rfl hf rfl | k + 6, hk, _, _, _, _ => absurd hk (by simp))⟩, .inr ⟨rfl, zfB rfl (fun σ => rfl) (fun σ => rfl) rfl (fun σ w (hO : Dk.Own w0 [] w _) => by obtain ⟨b24, w', hO', hr⟩ := zbY (E := [(33, str s20), (31, .bool r22)]) (parts := #[(0, (.tmp 33))]) (t' := 42) (n := 1) (vs := [(0, str s20)]) (cs := [str s20]) (e := 9) (sz := 1) (fun w => by kernel_rfl) rfl rfl hO rfl; exact ⟨(b24), w', hO', ⟨.inr rfl, .inr rfl, .inr rfl, .inr rfl, .inr rfl, .inr rfl, .inr rfl, .inr rfl, .inr rfl, .inl rfl, .inl rfl, .inr rfl, .inr rfl, .inr rfl, .inr rfl, .inr rfl, .inr rfl, .inr rfl, .inr rfl, .inr rfl, .inr rfl, .inr rfl, trivial⟩, hr⟩)⟩, .inr ⟨rfl, zbg rfl (fun σ => rfl) (fun σ => rfl) rfl (fun σ a w (_ : _) hf => zh zjW hf (vs := [.func (.func 168) #[] #[], .slice (some ⟨σ, 0, none⟩) (([s20] : List Str).length) 1]) rfl) (fun σ w (hO : Dk.Own w0 [] w _) => (zbI zaP ([s20] : List Str) r25 _ (hG.own hF hO) zsE (fun y0 r w hG h => ze5 (zd9 y0 r w hG h)) (hO.rowSees (i := 0) rfl) (hO.rowCap (i := 0) rfl) hr25).mono fun e w' h => by obtain ⟨he, hb⟩ := h; exact ⟨(σ), he, hO.grow hb, .inr rfl, .inr rfl, .inr rfl, .inr rfl, .inr rfl, .inr rfl, .inr rfl, .inr rfl, .inr rfl, .inr rfl, .inr rfl, .inr rfl, .inr rfl, .inr rfl, .inr rfl, .inr rfl, .inr rfl, .inr rfl, .inr rfl, .inr rfl, .inr rfl, .inr rfl, trivial⟩)⟩, .inr ⟨rfl, zc rfl (fun σ => rfl) (fun σ => rfl) (fun σ a w k _ _ _ _ hf => zbb hf rfl hc23 rfl)⟩, .inr ⟨rfl, zc rfl (fun σ => rfl) (fun σ => rfl) (fun σ a w k _ _ _ _ hf => zl hf rfl)⟩, .inr ⟨rfl, zc rfl (fun σ => rfl) (fun σ => rfl) (fun σ a w k _ _ _ _ hf => zw zkM hf rfl)⟩, .inr ⟨rfl, zc rfl (fun σ => rfl) (fun σ => rfl) (fun σ a w k hk hlo hup hst hf => match k, hk, hlo, hup, hst, hf with | 0, _, _, _, hst, hf => have hO : Dk.Own w0 [] w _ := hst; ze (o := 1) z7 (hO.blkSees (i := 1) rfl) rfl hf rfl | 1, _, _, _, hst, hf => have hO : Dk.Own w0 [] w _ := hst; ze (o := 1) z7 (hO.blkSees (i := 1) rfl) rfl hf rfl | 2, _, _, _, hst, hf => have hO : Dk.Own w0 [] w _ := hst; ze (o := 1) z7 (hO.blkSees (i := 2) rfl) rfl hf rfl | 3, _, _, _, hst, hf => have hO : Dk.Own w0 [] w _ := hst; ze (o := 1) z7 (hO.blkSees (i := 2) rfl) rfl hf rfl | 4, _, _, _, hst, hf => have hO : Dk.Own w0 [] w _ := hst; ze (o := 1) z7 (hO.blkSees (i := 2) rfl) rfl hf rfl | 5, _, _, _, hst, hf => have hO : Dk.Own w0 [] w _ := hst; ze (o := 1) z7 (hO.blkSees (i := 2) rfl) rfl hf rfl | k + 6, hk, _, _, _, _ => absurd hk (by simp))⟩, .inr ⟨rfl, zbg rfl (fun σ => rfl) (fun σ => rfl) rfl (fun σ a w (_ : _) hf => zh zt3 hf (vs := [str s20, str [32, 9]]) rfl) (fun σ w (hO : Dk.Own w0 [] w _) => (zf3 s20 [32, 9] r27 _ (hG.own hF hO) hr27).mono fun e w' h => by obtain ⟨he, hb⟩ := h; exact ⟨(σ), he, hO.grow hb, .inr rfl, .inr rfl, .inr rfl, .inr rfl, .inr rfl, .inr rfl, .inr rfl, .inr rfl, .inr rfl, .inr rfl, .inr rfl, .inr rfl, .inr rfl, .inr rfl, .inr rfl, .inr rfl, .inr rfl, .inr rfl, .inr rfl, .inr rfl, .inr rfl, .inr rfl, trivial⟩)⟩, .inr ⟨rfl, zc rfl (fun σ => rfl) (fun σ => rfl) (fun σ a w k _ _ _ _ hf => zw zkM hf rfl)⟩, .inr ⟨rfl, zc rfl (fun σ => rfl) (fun σ => rfl) (fun σ a w k hk hlo hup hst hf => match k, hk, hlo, hup, hst, hf with | 0, _, _, _, hst, hf => have hO : Dk.Own w0 [] w _ := hst; ze (o := 1) z7 (hO.blkSees (i := 1) rfl) rfl hf rfl | 1, _, _, _, hst, hf => have hO : Dk.Own w0 [] w _ := hst; ze (o := 1) z7 (hO.blkSees (i := 1) rfl) rfl hf rfl | 2, _, _, _, hst, hf => have hO : Dk.Own w0 [] w _ := hst; ze (o := 1) z7 (hO.blkSees (i := 2) rfl) rfl hf rfl | 3, _, _, _, hst, hf => have hO : Dk.Own w0 [] w _ := hst; ze (o := 1) z7 (hO.blkSees (i := 2) rfl) rfl hf rfl | 4, _, _, _, hst, hf => have hO : Dk.Own w0 [] w _ := hst; ze (o := 1) z7 (hO.blkSees (i := 2) rfl) rfl hf rfl | 5, _, _, _, hst, hf => have hO : Dk.Own w0 [] w _ := hst; ze (o := 1) z7 (hO.blkSees (i := 2) rfl) rfl hf rfl | k + 6, hk, _, _, _, _ => absurd hk (by simp))⟩, .inr ⟨rfl, zc rfl (fun σ => rfl) (fun σ => rfl) (fun σ a w k _ _ _ _ hf => zrA (l := r27) (m := s20) hf rfl rfl)⟩, .inr ⟨rfl, zc rfl (fun σ => rfl) (fun σ => rfl) (fun σ a w k _ _ _ _ hf => zbb hf rfl hc26 rfl)⟩, .inr ⟨rfl, zce rfl (fun σ => rfl) (fun σ => rfl) rfl (fun σ w (hO : Dk.Own w0 [] w _) => by obtain ⟨w', hO', hr⟩ := zeI (x := (.tmp 2)) (y := (.tmp 25)) (E := [(2, ptr b1 0), (25, .agg #[str r7.1, str s20, .bool r10.1])]) (i := 3) (n := 3) (vs := [str r7.1, str s20, .bool r10.1]) za3 rfl rfl rfl (by simp [Value.oneCell']) hO rfl rfl; exact ⟨(σ), w', hO', ⟨.inr rfl, .inr rfl, .inr rfl, .inr rfl, .inr rfl, .inr rfl, .inr rfl, .inr rfl, .inr rfl, .inr rfl, .inr rfl, .inr rfl, .inr rfl, .inr rfl, .inr rfl, .inr rfl, .inr rfl, .inr rfl, .inr rfl, .inr rfl, .inr rfl, .inr rfl, trivial⟩, hr⟩)⟩, .inr ⟨rfl, zc rfl (fun σ => rfl) (fun σ => rfl) (fun σ a w k _ _ _ _ hf => z8 hf rfl)⟩, trivial⟩ ?_
 rintro b24 a w hf hO
 have hO : Dk.Own w0 [] w _ := hO
 have hf : Fits 45 [(2, ptr b1 0), (3, .bool (r27 == s20))] a := (hf.cons rfl (hf.cons rfl hf.nil))
 refine S.no tb ?_ hf hO hm
 exact ec [3, 1, 2] rfl rfl rfl fun _ _ j => ⟨r27 == s20, j rfl⟩
 have hm := ie hc26 hm
 refine zkS (S := Nat) (E0 := [(2, ptr b1 0), (4, ptr b5 0), (6, .bool r7.2.1), (7, ptr b12 0)]) (by kernel_rfl) (fun k σ w => match k with | 0 => Dk.Own w0 [] w [.blk b5 [str s18, int i19] 148, .blk b12 [str r7.1, str s20, .bool r10.1] 223, .blk b1 [str [], str [], .bool false] 223] | 1 => Dk.Own w0 [] w [.blk b5 [str s18, int i19] 148, .blk b12 [str r7.1, str s20, .bool r10.1] 223, .blk b1 [str [], str [], .bool false] 223] | 2 => Dk.Own w0 [] w [.row (.slice (some ⟨σ, 0, none⟩) (([s20] : List Str).length) 1) 9 1 (([s20] : List Str).length) (cells zg ([s20] : List Str)), .blk b5 [str s18, int i19] 148, .blk b12 [str r7.1, str s20, .bool r10.1] 223, .blk b1 [str [], str [], .bool false] 223] | 3 => Dk.Own w0 [] w [.row (.slice (some ⟨σ, 0, none⟩) (([s20] : List Str).length) 1) 9 1 (([s20] : List Str).length) (cells zg ([s20] : List Str)), .blk b5 [str s18, int i19] 148, .blk b12 [str r7.1, str s20, .bool r10.1] 223, .blk b1 [str [], str [], .bool false] 223] | _ => Dk.Own w0 [] w [.row (.slice (some ⟨σ, 0, none⟩) (([s20] : List Str).length) 1) 9 1 (([s20] : List Str).length) (cells zg ([s20] : List Str)), .blk b5 [str s18, int i19] 148, .blk b12 [str r7.1, str s20, .bool r10.1] 223, .blk b1 [str r7.1, str s20, .bool r10.1] 223]) (fun σ => [⟨[(7, ptr b12 0)], some (25, .agg #[str r7.1, str s20, .bool r10.1])⟩, ⟨[(6, .bool r7.2.1)], some (26, .bool r7.2.1)⟩, ⟨[(26, .bool r7.2.1)], some (27, .bool r7.2.1)⟩, ⟨[(4, ptr b5 0), (27, .bool r7.2.1)], some (28, ptr b5 0)⟩, ⟨[(28, ptr b5 0), (27, .bool r7.2.1)], some (29, .bool r22)⟩, ⟨[(27, .bool r7.2.1), (29, .bool r22)], some (30, .bool r22)⟩, ⟨[(30, .bool r22)], some (31, .bool r22)⟩, ⟨[(7, ptr b12 0), (31, .bool r22)], some (32, ptr b12 1)⟩, ⟨[(32, ptr b12 1), (31, .bool r22)], some (33, str s20)⟩, ⟨[(33, str s20), (31, .bool r22)], some (34, .slice (some ⟨σ, 0, none⟩) (([s20] : List Str).length) 1)⟩, ⟨[(34, .slice (some ⟨σ, 0, none⟩) (([s20] : List Str).length) 1), (31, .bool r22)], some (35, .bool r25)⟩, ⟨[(31, .bool r22), (35, .bool r25)], some (36, .bool r25)⟩, ⟨[(36, .bool r25)], some (37, .bool r25)⟩, ⟨[(37, .bool r25)], some (38, undef)⟩, ⟨[(37, .bool r25)], some (39, undef)⟩, ⟨[(37, .bool r25)], some (40, undef)⟩, ⟨[(37, .bool r25)], some (41, undef)⟩, ⟨[(37, .bool r25)], some (42, undef)⟩, ⟨[(37, .bool r25)], some (43, undef)⟩, ⟨[(37, .bool r25), (43, undef)], some (44, .bool false)⟩, ⟨[(2, ptr b1 0), (25, .agg #[str r7.1, str s20, .bool r10.1])], none⟩, ⟨[(44, .bool false)], some (3, .bool false)⟩]) (0) [4, 9, 10, 20] [13, 14, 15, 16, 17, 18] ⟨zaj rfl rfl, zaj rfl rfl, zaj rfl rfl, zY (u := fun σ => r7.2.1) rfl (fun σ => rfl) rfl (fun σ => rfl) (fun σ => by rw [hc21] <;> rfl), zY (u := fun σ => r7.2.1) rfl (fun σ => rfl) rfl (fun σ => rfl) (fun σ => by rw [hc21] <;> rfl), zaj rfl rfl, zaj rfl rfl, zY (u := fun σ => r22) rfl (fun σ => rfl) rfl (fun σ => rfl) (fun σ => by rw [hc23] <;> rfl), zY (u := fun σ => r22) rfl (fun σ => rfl) rfl (fun σ => rfl) (fun σ => by rw [hc23] <;> rfl), zY (u := fun σ => r22) rfl (fun σ => rfl) rfl (fun σ => rfl) (fun σ => by rw [hc23] <;> rfl), zY (u := fun σ => r22) rfl (fun σ => rfl) rfl (fun σ => rfl) (fun σ => by rw [hc23] <;> rfl), zaj rfl rfl, zaj rfl rfl, zY (u := fun σ => r25) rfl (fun σ => rfl) rfl (fun σ => rfl) (fun σ => by rw [hc26] <;> rfl), zY (u := fun σ => r25) rfl (fun σ => rfl) rfl (fun σ => rfl) (fun σ => by rw [hc26] <;> rfl), zY (u := fun σ => r25) rfl (fun σ => rfl) rfl (fun σ => rfl) (fun σ => by rw [hc26] <;> rfl), zY (u := fun σ => r25) rfl (fun σ => rfl) rfl (fun σ => rfl) (fun σ => by rw [hc26] <;> rfl), zY (u := fun σ => r25) rfl (fun σ => rfl) rfl (fun σ => rfl) (fun σ => by rw [hc26] <;> rfl), zY (u := fun σ => r25) rfl (fun σ => rfl) rfl (fun σ => rfl) (fun σ => by rw [hc26] <;> rfl), zaj rfl rfl, zaj rfl rfl, zaj rfl rfl, trivial⟩ (fun σ => ⟨.inl rfl, .inl rfl, .inl rfl, .inl rfl, .inl rfl, .inl rfl, .inl rfl, .inl rfl, .inl rfl, .inl rfl, .inl rfl, .inl rfl, .inl rfl, .inr ⟨rfl, rfl⟩, .inr ⟨rfl, rfl⟩, .inr ⟨rfl, rfl⟩, .inr ⟨rfl, rfl⟩, .inr ⟨rfl, rfl⟩, .inr ⟨rfl, rfl⟩, .inl rfl, .inl rfl, .inl rfl, trivial⟩) (fun _ => rfl) (fun _ => rfl) (fun _ => rfl) rfl rfl (by decide) rfl hO.drew (hf.cons rfl (hf.cons rfl (hf.cons rfl (hf.cons rfl hf.nil)))) (fun σ => ⟨⟨rfl, trivial⟩, ⟨rfl, trivial⟩, ⟨rfl, trivial⟩, ⟨rfl, rfl, trivial⟩, ⟨rfl, rfl, trivial⟩, ⟨rfl, rfl, trivial⟩, ⟨rfl, trivial⟩, ⟨rfl, rfl, trivial⟩, ⟨rfl, rfl, trivial⟩, ⟨rfl, rfl, trivial⟩, ⟨rfl, rfl, trivial⟩, ⟨rfl, rfl, trivial⟩, ⟨rfl, trivial⟩, ⟨rfl, trivial⟩, ⟨rfl, trivial⟩, ⟨rfl, trivial⟩, ⟨rfl, trivial⟩, ⟨rfl, trivial⟩, ⟨rfl, trivial⟩, ⟨rfl, rfl, trivial⟩, ⟨rfl, rfl, trivial⟩, ⟨rfl, trivial⟩, trivial⟩) ⟨.inr ⟨rfl, zc rfl (fun σ => rfl) (fun σ => rfl) (fun σ a w k hk hlo hup hst hf => match k, hk, hlo, hup, hst, hf with | 0, _, _, _, hst, hf => have hO : Dk.Own w0 [] w _ := hst; zo (o := 0) (vs := [str r7.1, str s20, .bool r10.1]) zcW za3 (hO.blkSees (i := 1) rfl) rfl rfl hf rfl | 1, _, _, _, hst, hf => have hO : Dk.Own w0 [] w _ := hst; zo (o := 0) (vs := [str r7.1, str s20, .bool r10.1]) zcW za3 (hO.blkSees (i := 1) rfl) rfl rfl hf rfl | 2, _, _, _, hst, hf => have hO : Dk.Own w0 [] w _ := hst; zo (o := 0) (vs := [str r7.1, str s20, .bool r10.1]) zcW za3 (hO.blkSees (i := 2) rfl) rfl rfl hf rfl | 3, _, _, _, hst, hf => have hO : Dk.Own w0 [] w _ := hst; zo (o := 0) (vs := [str r7.1, str s20, .bool r10.1]) zcW za3 (hO.blkSees (i := 2) rfl) rfl rfl hf rfl | 4, _, _, _, hst, hf => have hO : Dk.Own w0 [] w _ := hst; zo (o := 0) (vs := [str r7.1, str s20, .bool r10.1]) zcW za3 (hO.blkSees (i := 2) rfl) rfl rfl hf rfl | k + 5, hk, _, _, _, _ => absurd hk (by simp))⟩, .inr ⟨rfl, zc rfl (fun σ => rfl) (fun σ => rfl) (fun σ a w k _ _ _ _ hf => zl hf rfl)⟩, .inr ⟨rfl, zc rfl (fun σ => rfl) (fun σ => rfl) (fun σ a w k _ _ _ _ hf => zl hf rfl)⟩, .inr ⟨rfl, zc rfl (fun σ => rfl) (fun σ => rfl) (fun σ a w k _ _ _ _ hf => zl hf rfl)⟩, .inr ⟨rfl, zbg rfl (fun σ => rfl) (fun σ => rfl) rfl (fun σ a w (_ : _) hf => zh ztx hf (vs := [ptr b5 0]) rfl) (fun σ w (hO : Dk.Own w0 [] w _) => (za5 (⟨s18, i19⟩ : scan_Scanner) r22 _ (hG.own hF hO) (hO.blkSees (i := 0) rfl) hr22).mono fun e w' h => by obtain ⟨he, hb⟩ := h; exact ⟨(σ), he, hO.grow hb, .inr rfl, .inr rfl, .inr rfl, .inr rfl, .inr rfl, .inr rfl, .inr rfl, .inr rfl, .inr rfl, .inr rfl, .inr rfl, .inr rfl, .inr rfl, .inr rfl, .inr rfl, .inr rfl, .inr rfl, .inr rfl, .inr rfl, .inr rfl, .inr rfl, .inr rfl, trivial⟩)⟩, .inr ⟨rfl, zc rfl (fun σ => rfl) (fun σ => rfl) (fun σ a w k _ _ _ _ hf => zbb hf rfl hc21 rfl)⟩, .inr ⟨rfl, zc rfl (fun σ => rfl) (fun σ => rfl) (fun σ a w k _ _ _ _ hf => zl hf rfl)⟩, .inr ⟨rfl, zc rfl (fun σ => rfl) (fun σ => rfl) (fun σ a w k _ _ _ _ hf => zw zkM hf rfl)⟩, .inr ⟨rfl, zc rfl (fun σ => rfl) (fun σ => rfl) (fun σ a w k hk hlo hup hst hf => match k, hk, hlo, hup, hst, hf with | 0, _, _, _, hst, hf => have hO : Dk.Own w0 [] w _ := hst; ze (o := 1) z7 (hO.blkSees (i := 1) rfl) rfl hf rfl | 1, _, _, _, hst, hf => have hO : Dk.Own w0 [] w _ := hst; ze (o := 1) z7 (hO.blkSees (i := 1) rfl) rfl hf rfl | 2, _, _, _, hst, hf => have hO : Dk.Own w0 [] w _ := hst; ze (o := 1) z7 (hO.blkSees (i := 2) rfl) rfl hf rfl | 3, _, _, _, hst, hf => have hO : Dk.Own w0 [] w _ := hst; ze (o := 1) z7 (hO.blkSees (i := 2) rfl) rfl hf rfl | 4, _, _, _, hst, hf => have hO : Dk.Own w0 [] w _ := hst; ze (o := 1) z7 (hO.blkSees (i := 2) rfl) rfl hf rfl | k + 5, hk, _, _, _, _ => absurd hk (by simp))⟩, .inr ⟨rfl, zfB rfl (fun σ => rfl) (fun σ => rfl) rfl (fun σ w (hO : Dk.Own w0 [] w _) => by obtain ⟨b24, w', hO', hr⟩ := zbY (E := [(33, str s20), (31, .bool r22)]) (parts := #[(0, (.tmp 33))]) (t' := 42) (n := 1) (vs := [(0, str s20)]) (cs := [str s20]) (e := 9) (sz := 1) (fun w => by kernel_rfl) rfl rfl hO rfl; exact ⟨(b24), w', hO', ⟨.inr rfl, .inr rfl, .inr rfl, .inr rfl, .inr rfl, .inr rfl, .inr rfl, .inr rfl, .inr rfl, .inl rfl, .inl rfl, .inr rfl, .inr rfl, .inr rfl, .inr rfl, .inr rfl, .inr rfl, .inr rfl, .inr rfl, .inr rfl, .inr rfl, .inr rfl, trivial⟩, hr⟩)⟩, .inr ⟨rfl, zbg rfl (fun σ => rfl) (fun σ => rfl) rfl (fun σ a w (_ : _) hf => zh zjW hf (vs := [.func (.func 168) #[] #[], .slice (some ⟨σ, 0, none⟩) (([s20] : List Str).length) 1]) rfl) (fun σ w (hO : Dk.Own w0 [] w _) => (zbI zaP ([s20] : List Str) r25 _ (hG.own hF hO) zsE (fun y0 r w hG h => ze5 (zd9 y0 r w hG h)) (hO.rowSees (i := 0) rfl) (hO.rowCap (i := 0) rfl) hr25).mono fun e w' h => by obtain ⟨he, hb⟩ := h; exact ⟨(σ), he, hO.grow hb, .inr rfl, .inr rfl, .inr rfl, .inr rfl, .inr rfl, .inr rfl, .inr rfl, .inr rfl, .inr rfl, .inr rfl, .inr rfl, .inr rfl, .inr rfl, .inr rfl, .inr rfl, .inr rfl, .inr rfl, .inr rfl, .inr rfl, .inr rfl, .inr rfl, .inr rfl, trivial⟩)⟩, .inr ⟨rfl, zc rfl (fun σ => rfl) (fun σ => rfl) (fun σ a w k _ _ _ _ hf => zbb hf rfl hc23 rfl)⟩, .inr ⟨rfl, zc rfl (fun σ => rfl) (fun σ => rfl) (fun σ a w k _ _ _ _ hf => zl hf rfl)⟩, .inl rfl, .inl rfl, .inl rfl, .inl rfl, .inl rfl, .inl rfl, .inr ⟨rfl, zc rfl (fun σ => rfl) (fun σ => rfl) (fun σ a w k _ _ _ _ hf => zec hf rfl hc26 rfl)⟩, .inr ⟨rfl, zce rfl (fun σ => rfl) (fun σ => rfl) rfl (fun σ w (hO : Dk.Own w0 [] w _) => by obtain ⟨w', hO', hr⟩ := zeI (x := (.tmp 2)) (y := (.tmp 25)) (E := [(2, ptr b1 0), (25, .agg #[str r7.1, str s20, .bool r10.1])]) (i := 3) (n := 3) (vs := [str r7.1, str s20, .bool r10.1]) za3 rfl rfl rfl (by simp [Value.oneCell']) hO rfl rfl; exact ⟨(σ), w', hO', ⟨.inr rfl, .inr rfl, .inr rfl, .inr rfl, .inr rfl, .inr rfl, .inr rfl, .inr rfl, .inr rfl, .inr rfl, .inr rfl, .inr rfl, .inr rfl, .inr rfl, .inr rfl, .inr rfl, .inr rfl, .inr rfl, .inr rfl, .inr rfl, .inr rfl, .inr rfl, trivial⟩, hr⟩)⟩, .inr ⟨rfl, zc rfl (fun σ => rfl) (fun σ => rfl) (fun σ a w k _ _ _ _ hf => z8 hf rfl)⟩, trivial⟩ ?_
 rintro b24 a w hf hO
 have hO : Dk.Own w0 [] w _ := hO
 have hf : Fits 45 [(2, ptr b1 0), (3, .bool false)] a := (hf.cons rfl (hf.cons rfl hf.nil))
 refine S.no tb ?_ hf hO hm
 exact ec [3, 1, 2] rfl rfl rfl fun _ _ j => ⟨false, j rfl⟩
 have hm := ie hc23 hm
 refine zkS (S := Unit) (E0 := [(2, ptr b1 0), (4, ptr b5 0), (6, .bool r7.2.1), (7, ptr b12 0)]) (by kernel_rfl) (fun k σ w => match k with | 0 => Dk.Own w0 [] w [.blk b5 [str s18, int i19] 148, .blk b12 [str r7.1, str s20, .bool r10.1] 223, .blk b1 [str [], str [], .bool false] 223] | 1 => Dk.Own w0 [] w [.blk b5 [str s18, int i19] 148, .blk b12 [str r7.1, str s20, .bool r10.1] 223, .blk b1 [str [], str [], .bool false] 223] | _ => Dk.Own w0 [] w [.blk b5 [str s18, int i19] 148, .blk b12 [str r7.1, str s20, .bool r10.1] 223, .blk b1 [str r7.1, str s20, .bool r10.1] 223]) (fun σ => [⟨[(7, ptr b12 0)], some (25, .agg #[str r7.1, str s20, .bool r10.1])⟩, ⟨[(6, .bool r7.2.1)], some (26, .bool r7.2.1)⟩, ⟨[(26, .bool r7.2.1)], some (27, .bool r7.2.1)⟩, ⟨[(4, ptr b5 0), (27, .bool r7.2.1)], some (28, ptr b5 0)⟩, ⟨[(28, ptr b5 0), (27, .bool r7.2.1)], some (29, .bool r22)⟩, ⟨[(27, .bool r7.2.1), (29, .bool r22)], some (30, .bool r22)⟩, ⟨[(30, .bool r22)], some (31, .bool r22)⟩, ⟨[(31, .bool r22)], some (32, undef)⟩, ⟨[(31, .bool r22)], some (33, undef)⟩, ⟨[(31, .bool r22)], some (34, undef)⟩, ⟨[(31, .bool r22)], some (35, undef)⟩, ⟨[(31, .bool r22), (35, undef)], some (36, .bool false)⟩, ⟨[(36, .bool false)], some (37, .bool false)⟩, ⟨[(37, .bool false)], some (38, undef)⟩, ⟨[(37, .bool false)], some (39, undef)⟩, ⟨[(37, .bool false)], some (40, undef)⟩, ⟨[(37, .bool false)], some (41, undef)⟩, ⟨[(37, .bool false)], some (42, undef)⟩, ⟨[(37, .bool false)], some (43, undef)⟩, ⟨[(37, .bool false), (43, undef)], some (44, .bool false)⟩, ⟨[(2, ptr b1 0), (25, .agg #[str r7.1, str s20, .bool r10.1])], none⟩, ⟨[(44, .bool false)], some (3, .bool false)⟩]) () [4, 20] [7, 8, 9, 10, 13, 14, 15, 16, 17, 18] ⟨zaj rfl rfl, zaj rfl rfl, zaj rfl rfl, zY (u := fun σ => r7.2.1) rfl (fun σ => rfl) rfl (fun σ => rfl) (fun σ => by rw [hc21] <;> rfl), zY (u := fun σ => r7.2.1) rfl (fun σ => rfl) rfl (fun σ => rfl) (fun σ => by rw [hc21] <;> rfl), zaj rfl rfl, zaj rfl rfl, zY (u := fun σ => r22) rfl (fun σ => rfl) rfl (fun σ => rfl) (fun σ => by rw [hc23] <;> rfl), zY (u := fun σ => r22) rfl (fun σ => rfl) rfl (fun σ => rfl) (fun σ => by rw [hc23] <;> rfl), zY (u := fun σ => r22) rfl (fun σ => rfl) rfl (fun σ => rfl) (fun σ => by rw [hc23] <;> rfl), zY (u := fun σ => r22) rfl (fun σ => rfl) rfl (fun σ => rfl) (fun σ => by rw [hc23] <;> rfl), zaj rfl rfl, zaj rfl rfl, zY (u := fun σ => false) rfl (fun σ => rfl) rfl (fun σ => rfl) (fun σ => rfl), zY (u := fun σ => false) rfl (fun σ => rfl) rfl (fun σ => rfl) (fun σ => rfl), zY (u := fun σ => false) rfl (fun σ => rfl) rfl (fun σ => rfl) (fun σ => rfl), zY (u := fun σ => false) rfl (fun σ => rfl) rfl (fun σ => rfl) (fun σ => rfl), zY (u := fun σ => false) rfl (fun σ => rfl) rfl (fun σ => rfl) (fun σ => rfl), zY (u := fun σ => false) rfl (fun σ => rfl) rfl (fun σ => rfl) (fun σ => rfl), zaj rfl rfl, zaj rfl rfl, zaj rfl rfl, trivial⟩ (fun σ => ⟨.inl rfl, .inl rfl, .inl rfl, .inl rfl, .inl rfl, .inl rfl, .inl rfl, .inr ⟨rfl, rfl⟩, .inr ⟨rfl, rfl⟩, .inr ⟨rfl, rfl⟩, .inr ⟨rfl, rfl⟩, .inl rfl, .inl rfl, .inr ⟨rfl, rfl⟩, .inr ⟨rfl, rfl⟩, .inr ⟨rfl, rfl⟩, .inr ⟨rfl, rfl⟩, .inr ⟨rfl, rfl⟩, .inr ⟨rfl, rfl⟩, .inl rfl, .inl rfl, .inl rfl, trivial⟩) (fun _ => rfl) (fun _ => rfl) (fun _ => rfl) rfl rfl (by decide) rfl hO.drew (hf.cons rfl (hf.cons rfl (hf.cons rfl (hf.cons rfl hf.nil)))) (fun σ => ⟨⟨rfl, trivial⟩, ⟨rfl, trivial⟩, ⟨rfl, trivial⟩, ⟨rfl, rfl, trivial⟩, ⟨rfl, rfl, trivial⟩, ⟨rfl, rfl, trivial⟩, ⟨rfl, trivial⟩, ⟨rfl, trivial⟩, ⟨rfl, trivial⟩, ⟨rfl, trivial⟩, ⟨rfl, trivial⟩, ⟨rfl, rfl, trivial⟩, ⟨rfl, trivial⟩, ⟨rfl, trivial⟩, ⟨rfl, trivial⟩, ⟨rfl, trivial⟩, ⟨rfl, trivial⟩, ⟨rfl, trivial⟩, ⟨rfl, trivial⟩, ⟨rfl, rfl, trivial⟩, ⟨rfl, rfl, trivial⟩, ⟨rfl, trivial⟩, trivial⟩) ⟨.inr ⟨rfl, zc rfl (fun σ => rfl) (fun σ => rfl) (fun σ a w k hk hlo hup hst hf => match k, hk, hlo, hup, hst, hf with | 0, _, _, _, hst, hf => have hO : Dk.Own w0 [] w _ := hst; zo (o := 0) (vs := [str r7.1, str s20, .bool r10.1]) zcW za3 (hO.blkSees (i := 1) rfl) rfl rfl hf rfl | 1, _, _, _, hst, hf => have hO : Dk.Own w0 [] w _ := hst; zo (o := 0) (vs := [str r7.1, str s20, .bool r10.1]) zcW za3 (hO.blkSees (i := 1) rfl) rfl rfl hf rfl | 2, _, _, _, hst, hf => have hO : Dk.Own w0 [] w _ := hst; zo (o := 0) (vs := [str r7.1, str s20, .bool r10.1]) zcW za3 (hO.blkSees (i := 1) rfl) rfl rfl hf rfl | k + 3, hk, _, _, _, _ => absurd hk (by simp))⟩, .inr ⟨rfl, zc rfl (fun σ => rfl) (fun σ => rfl) (fun σ a w k _ _ _ _ hf => zl hf rfl)⟩, .inr ⟨rfl, zc rfl (fun σ => rfl) (fun σ => rfl) (fun σ a w k _ _ _ _ hf => zl hf rfl)⟩, .inr ⟨rfl, zc rfl (fun σ => rfl) (fun σ => rfl) (fun σ a w k _ _ _ _ hf => zl hf rfl)⟩, .inr ⟨rfl, zbg rfl (fun σ => rfl) (fun σ => rfl) rfl (fun σ a w (_ : _) hf => zh ztx hf (vs := [ptr b5 0]) rfl) (fun σ w (hO : Dk.Own w0 [] w _) => (za5 (⟨s18, i19⟩ : scan_Scanner) r22 _ (hG.own hF hO) (hO.blkSees (i := 0) rfl) hr22).mono fun e w' h => by obtain ⟨he, hb⟩ := h; exact ⟨(), he, hO.grow hb, .inr rfl, .inr rfl, .inr rfl, .inr rfl, .inr rfl, .inr rfl, .inr rfl, .inr rfl, .inr rfl, .inr rfl, .inr rfl, .inr rfl, .inr rfl, .inr rfl, .inr rfl, .inr rfl, .inr rfl, .inr rfl, .inr rfl, .inr rfl, .inr rfl, .inr rfl, trivial⟩)⟩, .inr ⟨rfl, zc rfl (fun σ => rfl) (fun σ => rfl) (fun σ a w k _ _ _ _ hf => zbb hf rfl hc21 rfl)⟩, .inr ⟨rfl, zc rfl (fun σ => rfl) (fun σ => rfl) (fun σ a w k _ _ _ _ hf => zl hf rfl)⟩, .inl rfl, .inl rfl, .inl rfl, .inl rfl, .inr ⟨rfl, zc rfl (fun σ => rfl) (fun σ => rfl) (fun σ a w k _ _ _ _ hf => zec hf rfl hc23 rfl)⟩, .inr ⟨rfl, zc rfl (fun σ => rfl) (fun σ => rfl) (fun σ a w k _ _ _ _ hf => zl hf rfl)⟩, .inl rfl, .inl rfl, .inl rfl, .inl rfl, .inl rfl, .inl rfl, .inr ⟨rfl, zc rfl (fun σ => rfl) (fun σ => rfl) (fun σ a w k _ _ _ _ hf => zec hf rfl rfl rfl)⟩, .inr ⟨rfl, zce rfl (fun σ => rfl) (fun σ => rfl) rfl (fun σ w (hO : Dk.Own w0 [] w _) => by obtain ⟨w', hO', hr⟩ := zeI (x := (.tmp 2)) (y := (.tmp 25)) (E := [(2, ptr b1 0), (25, .agg #[str r7.1, str s20, .bool r10.1])]) (i := 2) (n := 3) (vs := [str r7.1, str s20, .bool r10.1]) za3 rfl rfl rfl (by simp [Value.oneCell']) hO rfl rfl; exact ⟨(), w', hO', ⟨.inr rfl, .inr rfl, .inr rfl, .inr rfl, .inr rfl, .inr rfl, .inr rfl, .inr rfl, .inr rfl, .inr rfl, .inr rfl, .inr rfl, .inr rfl, .inr rfl, .inr rfl, .inr rfl, .inr rfl, .inr rfl, .inr rfl, .inr rfl, .inr rfl, .inr rfl, trivial⟩, hr⟩)⟩, .inr ⟨rfl, zc rfl (fun σ => rfl) (fun σ => rfl) (fun σ a w k _ _ _ _ hf => z8 hf rfl)⟩, trivial⟩ ?_
 rintro _ a w hf hO
 have hO : Dk.Own w0 [] w _ := hO
 have hf : Fits 45 [(2, ptr b1 0), (3, .bool false)] a := (hf.cons rfl (hf.cons rfl hf.nil))
 refine S.no tb ?_ hf hO hm
 exact ec [2, 0, 1] rfl rfl rfl fun _ _ j => ⟨false, j rfl⟩
 have hm := ie hc21 hm
 refine zkS (S := Unit) (E0 := [(2, ptr b1 0), (4, ptr b5 0), (6, .bool r7.2.1), (7, ptr b12 0)]) (by kernel_rfl) (fun k σ w => match k with | 0 => Dk.Own w0 [] w [.blk b5 [str s18, int i19] 148, .blk b12 [str r7.1, str s20, .bool r10.1] 223, .blk b1 [str [], str [], .bool false] 223] | _ => Dk.Own w0 [] w [.blk b5 [str s18, int i19] 148, .blk b12 [str r7.1, str s20, .bool r10.1] 223, .blk b1 [str r7.1, str s20, .bool r10.1] 223]) (fun σ => [⟨[(7, ptr b12 0)], some (25, .agg #[str r7.1, str s20, .bool r10.1])⟩, ⟨[(6, .bool r7.2.1)], some (26, .bool r7.2.1)⟩, ⟨[(26, .bool r7.2.1)], some (27, .bool r7.2.1)⟩, ⟨[(27, .bool r7.2.1)], some (28, undef)⟩, ⟨[(27, .bool r7.2.1)], some (29, undef)⟩, ⟨[(27, .bool r7.2.1), (29, undef)], some (30, .bool false)⟩, ⟨[(30, .bool false)], some (31, .bool false)⟩, ⟨[(31, .bool false)], some (32, undef)⟩, ⟨[(31, .bool false)], some (33, undef)⟩, ⟨[(31, .bool false)], some (34, undef)⟩, ⟨[(31, .bool false)], some (35, undef)⟩, ⟨[(31, .bool false), (35, undef)], some (36, .bool false)⟩, ⟨[(36, .bool false)], some (37, .bool false)⟩, ⟨[(37, .bool false)], some (38, undef)⟩, ⟨[(37, .bool false)], some (39, undef)⟩, ⟨[(37, .bool false)], some (40, undef)⟩, ⟨[(37, .bool false)], some (41, undef)⟩, ⟨[(37, .bool false)], some (42, undef)⟩, ⟨[(37, .bool false)], some (43, undef)⟩, ⟨[(37, .bool false), (43, undef)], some (44, .bool false)⟩, ⟨[(2, ptr b1 0), (25, .agg #[str r7.1, str s20, .bool r10.1])], none⟩, ⟨[(44, .bool false)], some (3, .bool false)⟩]) () [20] [3, 4, 7, 8, 9, 10, 13, 14, 15, 16, 17, 18] ⟨zaj rfl rfl, zaj rfl rfl, zaj rfl rfl, zY (u := fun σ => r7.2.1) rfl (fun σ => rfl) rfl (fun σ => rfl) (fun σ => by rw [hc21] <;> rfl), zY (u := fun σ => r7.2.1) rfl (fun σ => rfl) rfl (fun σ => rfl) (fun σ => by rw [hc21] <;> rfl), zaj rfl rfl, zaj rfl rfl, zY (u := fun σ => false) rfl (fun σ => rfl) rfl (fun σ => rfl) (fun σ => rfl), zY (u := fun σ => false) rfl (fun σ => rfl) rfl (fun σ => rfl) (fun σ => rfl), zY (u := fun σ => false) rfl (fun σ => rfl) rfl (fun σ => rfl) (fun σ => rfl), zY (u := fun σ => false) rfl (fun σ => rfl) rfl (fun σ => rfl) (fun σ => rfl), zaj rfl rfl, zaj rfl rfl, zY (u := fun σ => false) rfl (fun σ => rfl) rfl (fun σ => rfl) (fun σ => rfl), zY (u := fun σ => false) rfl (fun σ => rfl) rfl (fun σ => rfl) (fun σ => rfl), zY (u := fun σ => false) rfl (fun σ => rfl) rfl (fun σ => rfl) (fun σ => rfl), zY (u := fun σ => false) rfl (fun σ => rfl) rfl (fun σ => rfl) (fun σ => rfl), zY (u := fun σ => false) rfl (fun σ => rfl) rfl (fun σ => rfl) (fun σ => rfl), zY (u := fun σ => false) rfl (fun σ => rfl) rfl (fun σ => rfl) (fun σ => rfl), zaj rfl rfl, zaj rfl rfl, zaj rfl rfl, trivial⟩ (fun σ => ⟨.inl rfl, .inl rfl, .inl rfl, .inr ⟨rfl, rfl⟩, .inr ⟨rfl, rfl⟩, .inl rfl, .inl rfl, .inr ⟨rfl, rfl⟩, .inr ⟨rfl, rfl⟩, .inr ⟨rfl, rfl⟩, .inr ⟨rfl, rfl⟩, .inl rfl, .inl rfl, .inr ⟨rfl, rfl⟩, .inr ⟨rfl, rfl⟩, .inr ⟨rfl, rfl⟩, .inr ⟨rfl, rfl⟩, .inr ⟨rfl, rfl⟩, .inr ⟨rfl, rfl⟩, .inl rfl, .inl rfl, .inl rfl, trivial⟩) (fun _ => rfl) (fun _ => rfl) (fun _ => rfl) rfl rfl (by decide) rfl hO.drew (hf.cons rfl (hf.cons rfl (hf.cons rfl (hf.cons rfl hf.nil)))) (fun σ => ⟨⟨rfl, trivial⟩, ⟨rfl, trivial⟩, ⟨rfl, trivial⟩, ⟨rfl, trivial⟩, ⟨rfl, trivial⟩, ⟨rfl, rfl, trivial⟩, ⟨rfl, trivial⟩, ⟨rfl, trivial⟩, ⟨rfl, trivial⟩, ⟨rfl, trivial⟩, ⟨rfl, trivial⟩, ⟨rfl, rfl, trivial⟩, ⟨rfl, trivial⟩, ⟨rfl, trivial⟩, ⟨rfl, trivial⟩, ⟨rfl, trivial⟩, ⟨rfl, trivial⟩, ⟨rfl, trivial⟩, ⟨rfl, trivial⟩, ⟨rfl, rfl, trivial⟩, ⟨rfl, rfl, trivial⟩, ⟨rfl, trivial⟩, trivial⟩) ⟨.inr ⟨rfl, zc rfl (fun σ => rfl) (fun σ => rfl) (fun σ a w k hk hlo hup hst hf => match k, hk, hlo, hup, hst, hf with | 0, _, _, _, hst, hf => have hO : Dk.Own w0 [] w _ := hst; zo (o := 0) (vs := [str r7.1, str s20, .bool r10.1]) zcW za3 (hO.blkSees (i := 1) rfl) rfl rfl hf rfl | 1, _, _, _, hst, hf => have hO : Dk.Own w0 [] w _ := hst; zo (o := 0) (vs := [str r7.1, str s20, .bool r10.1]) zcW za3 (hO.blkSees (i := 1) rfl) rfl rfl hf rfl | k + 2, hk, _, _, _, _ => absurd hk (by simp))⟩, .inr ⟨rfl, zc rfl (fun σ => rfl) (fun σ => rfl) (fun σ a w k _ _ _ _ hf => zl hf rfl)⟩, .inr ⟨rfl, zc rfl (fun σ => rfl) (fun σ => rfl) (fun σ a w k _ _ _ _ hf => zl hf rfl)⟩, .inl rfl, .inl rfl, .inr ⟨rfl, zc rfl (fun σ => rfl) (fun σ => rfl) (fun σ a w k _ _ _ _ hf => zec hf rfl hc21 rfl)⟩, .inr ⟨rfl, zc rfl (fun σ => rfl) (fun σ => rfl) (fun σ a w k _ _ _ _ hf => zl hf rfl)⟩, .inl rfl, .inl rfl, .inl rfl, .inl rfl, .inr ⟨rfl, zc rfl (fun σ => rfl) (fun σ => rfl) (fun σ a w k _ _ _ _ hf => zec hf rfl rfl rfl)⟩, .inr ⟨rfl, zc rfl (fun σ => rfl) (fun σ => rfl) (fun σ a w k _ _ _ _ hf => zl hf rfl)⟩, .inl rfl, .inl rfl, .inl rfl, .inl rfl, .inl rfl, .inl rfl, .inr ⟨rfl, zc rfl (fun σ => rfl) (fun σ => rfl) (fun σ a w k _ _ _ _ hf => zec hf rfl rfl rfl)⟩, .inr ⟨rfl, zce rfl (fun σ => rfl) (fun σ => rfl) rfl (fun σ w (hO : Dk.Own w0 [] w _) => by obtain ⟨w', hO', hr⟩ := zeI (x := (.tmp 2)) (y := (.tmp 25)) (E := [(2, ptr b1 0), (25, .agg #[str r7.1, str s20, .bool r10.1])]) (i := 2) (n := 3) (vs := [str r7.1, str s20, .bool r10.1]) za3 rfl rfl rfl (by simp [Value.oneCell']) hO rfl rfl; exact ⟨(), w', hO', ⟨.inr rfl, .inr rfl, .inr rfl, .inr rfl, .inr rfl, .inr rfl, .inr rfl, .inr rfl, .inr rfl, .inr rfl, .inr rfl, .inr rfl, .inr rfl, .inr rfl, .inr rfl, .inr rfl, .inr rfl, .inr rfl, .inr rfl, .inr rfl, .inr rfl, .inr rfl, trivial⟩, hr⟩)⟩, .inr ⟨rfl, zc rfl (fun σ => rfl) (fun σ => rfl) (fun σ a w k _ _ _ _ hf => z8 hf rfl)⟩, trivial⟩ ?_
 rintro _ a w hf hO
 have hO : Dk.Own w0 [] w _ := hO
 have hf : Fits 45 [(2, ptr b1 0), (3, .bool false)] a := (hf.cons rfl (hf.cons rfl hf.nil))
 refine S.no tb ?_ hf hO hm
 exact ec [2, 0, 1] rfl rfl rfl fun _ _ j => ⟨false, j rfl⟩
 rintro a w ⟨t28, hf, hO, hm⟩
 rw [zdB] at hm
 refine S.co tb ?_ hf hO hm
 refine re_ rfl fun a w hf hO hm => ?_
 obtain rfl := Option.some.inj hm
 exact zi Tryz.results189 hf (.cell rfl (zp (n := 3) (vs := [str r7.1, str s20, .bool r10.1]) zcW za3 rfl ((hO.blkSees (i := 0) rfl).cells (o := 0) (n := 3) rfl)) (.tmp rfl .nil)) ⟨rfl, hO.below⟩

theorem zjm (x_s : Str) (x_suffix : Str) (R : Str × Bool) (w0 : World) (hG : zt w0) (hm : stringslite_CutSuffix x_s x_suffix = some R) :
    Calls Tryz.prog 117 #[str x_s, str x_suffix] w0 (Ret w0 (fun R => .tuple #[str R.1, .bool R.2]) R) := by
 rw [stringslite_CutSuffix] at hm
 have hF : zu [] := zf
 have hO : Dk.Own w0 [] w0 [] := Dk.Own.refl w0
 refine S.enter tb Tryz.func117 rfl Tryz.ntmps117 rfl ?_ hO hm
 refine cl c_172 rfl (fun r2 w hr2 hO => zfL x_s x_suffix r2 _ (hG.own hF hO) hr2) fun r2 hr2 => ?_
 refine br rfl (fun hc4 => ?_) fun hc4 => ?_
 exact rt Tryz.results117 rfl
 refine bi rfl fun i7 hi7 => ?_
 refine bi rfl fun s8 hs8 => ?_
 exact rt Tryz.results117 rfl

theorem ze8 (x_s : Str) (x_suffix : Str) (R : Str × Bool) (w0 : World) (hG : zt w0) (hm : strings_CutSuffix x_s x_suffix = some R) :
    Calls Tryz.prog 70 #[str x_s, str x_suffix] w0 (Ret w0 (fun R => .tuple #[str R.1, .bool R.2]) R) := by
 rw [strings_CutSuffix] at hm
 have hF : zu [] := zf
 have hO : Dk.Own w0 [] w0 [] := Dk.Own.refl w0
 refine S.enter tb Tryz.func70 rfl Tryz.ntmps70 rfl ?_ hO hm
 refine cl c_117 rfl (fun r2 w hr2 hO => zjm x_s x_suffix r2 _ (hG.own hF hO) hr2) fun r2 hr2 => ?_
 exact rt Tryz.results70 rfl

theorem zpl (x_b : UInt8) (R : Bool) (w0 : World) (hG : zt w0) (hm : zhK x_b = some R) :
    Calls Tryz.prog 232 #[zak x_b] w0 (Ret w0 (fun R => .bool R) R) := by
 rw [zhK] at hm
 have hF : zu [] := zf
 have hO : Dk.Own w0 [] w0 [] := Dk.Own.refl w0
 refine S.enter tb Tryz.func232 rfl Tryz.ntmps232 rfl ?_ hO hm
 refine jv 0 [] [] (fun J E L => ∃ (t5 : Bool), J ((2, .bool t5) :: E) (L) (zfx t5)) rfl ?_ ?_
 refine cl c_216 rfl (fun r2 w hr2 hO => ziB x_b r2 _ (hG.own hF hO) hr2) fun r2 hr2 => ?_
 refine br rfl (fun hc3 => ?_) fun hc3 => ?_
 refine cl zqy rfl (fun r4 w hr4 hO => zbx [34, 44, 59, 92] x_b r4 _ (hG.own hF hO) hr4) fun r4 hr4 => ?_
 exact en rfl fun _ _ j => ⟨decide (r4 < 0), j rfl⟩
 exact en rfl fun _ _ j => ⟨false, j rfl⟩
 rintro a w ⟨t5, hf, hO, hm⟩
 rw [zfx] at hm
 refine S.co tb ?_ hf hO hm
 exact rt Tryz.results232 rfl

theorem zpm (x_s : Str) (R : Bool) (w0 : World) (hG : zt w0) (hm : zjF x_s = some R) :
    Calls Tryz.prog 190 #[str x_s] w0 (Ret w0 (fun R => .bool R) R) := by
 rw [zjF] at hm
 have hF : zu [] := zf
 have hO : Dk.Own w0 [] w0 [] := Dk.Own.refl w0
 refine S.enter tb Tryz.func190 rfl Tryz.ntmps190 rfl ?_ hO hm
 refine cl c_69 rfl (fun r2 w hr2 hO => zds x_s [34] r2 _ (hG.own hF hO) hr2) fun r2 hr2 => ?_
 refine cl c_70 rfl (fun r4 w hr4 hO => ze8 r2.1 [34] r4 _ (hG.own hF hO) hr4) fun r4 hr4 => ?_
 refine jv 0 [] [] (fun J E L => ∃ (t9 : Bool), J ((2, .bool t9) :: E) (L) (zfy t9)) rfl ?_ ?_
 refine vl rfl rfl (fun a w hf hO => zvn Tryz.underlying4 hf rfl rfl) ?_
 refine br rfl (fun hc6 => ?_) fun hc6 => ?_
 refine rw_ rfl fun a w hf hO hm => ?_
 refine zm (vs := [(0, str r4.1)]) (cs := [str r4.1]) (e := 9) (sz := 1) hf rfl rfl (fun w => by kernel_rfl) rfl rfl hO fun a b7 w hf hO => ?_
 refine S.op tb ?_ hf hO hm
 refine kn (b' := true) hc6 rfl ?_
 refine cl zjW rfl (fun r8 w hr8 hO => zbI zhK ([r4.1] : List Str) r8 _ (hG.own hF hO) c_232 (fun y0 r w hG h => ze5 (zpl y0 r w hG h)) (hO.rowSees (i := 0) rfl) (hO.rowCap (i := 0) rfl) hr8) fun r8 hr8 => ?_
 exact ec [] rfl rfl rfl fun _ _ j => ⟨r8, j rfl⟩
 exact en rfl fun _ _ j => ⟨false, j rfl⟩
 rintro a w ⟨t9, hf, hO, hm⟩
 rw [zfy] at hm
 refine S.co tb ?_ hf hO hm
 exact rt Tryz.results190 rfl

end Go.Proofs
end
section
set_option linter.unusedVariables false
set_option maxHeartbeats 1000000
set_option linter.unusedSimpArgs false
set_option maxRecDepth 100000
namespace Go.Proofs
open Go.Dk Go.Dm Go.RowKit

theorem zkh (x_s : Str) (R : api_Cookie × Int) (w0 : World) (hG : zt w0) (hm : zhL x_s = some R) :
    Calls Tryz.prog 139 #[str x_s] w0 fun e w' => ∃ (p0 : Option Addr) (c0 : Nat), e = .returned (.tuple #[.agg #[str R.1.Name, str R.1.Value, .slice p0 R.1.Attrs.length c0], int R.2]) ∧ Dk.Own w0 [] w' [.row (.slice p0 R.1.Attrs.length c0) 223 3 R.1.Attrs.length (cells zA R.1.Attrs)] := by
 rw [zhL] at hm
 have hF : zu [] := zf
 have hO : Dk.Own w0 [] w0 [] := Dk.Own.refl w0
 refine S.enter tb Tryz.func139 rfl Tryz.ntmps139 rfl ?_ hO hm
 refine al znj rfl fun b1 => ?_
 refine nl 223 3 ?_
 refine rw_ rfl fun a w hf hO hm => ?_
 obtain ⟨r3, hr3, hm⟩ := ob hm
 refine zj (zh c_174 hf (vs := [str x_s, str [59]]) rfl) rfl hf rfl rfl (zjR x_s [59] r3 _ (hG.own hF hO) hr3) ?_
 rintro e w' ⟨p4, c5, he, hO'⟩
 refine ⟨_, he, fun a hf => ?_⟩
 have hO := hO.call hO' (by simp [Res.shared])
 refine S.op tb ?_ hf hO hm
 refine rw_ rfl fun a w hf hO hm => ?_
 obtain ⟨x7, hx7, hm⟩ := ob hm
 obtain ⟨b8, o9, hix7, hSx7, hAx7⟩ := zaw (enc := zg) (sz := 1) (xs := r3) 42 Tryz.underlying42 zfZ (by decide) (fun _ => rfl) hO (i := 0) rfl hx7
 refine zS (zk hix7 hf rfl rfl) rfl hf rfl rfl fun a hf => ?_
 refine S.op tb ?_ hf hO hm
 refine vl rfl rfl (fun a w hf hO => ze (o := 0) z7 (hSx7 _ (hO.rowSees (i := 0) rfl)) rfl hf rfl) ?_
 refine cl c_189 rfl (fun r10 w hr10 hO => zlr x7 r10 _ (hG.own hF hO) hr10) fun r10 hr10 => ?_
 refine al znk rfl fun b11 => ?_
 refine st 0 rfl rfl ?_
 refine jv 1 [2, 4, 5] [0, 1, 2, 3] (fun J E L => ∃ (t16 : Bool), J ((33, .bool t16) :: E) (L) (zd4 r3 r10 t16)) rfl ?_ ?_
 refine br rfl (fun hc13 => ?_) fun hc13 => ?_
 exact en rfl fun _ _ j => ⟨true, j rfl⟩
 refine ld 0 rfl rfl ?_
 refine br rfl (fun hc14 => ?_) fun hc14 => ?_
 exact en rfl fun _ _ j => ⟨true, j rfl⟩
 refine ld 0 rfl rfl ?_
 refine cl c_190 rfl (fun r15 w hr15 hO => zpm r10.1.Value r15 _ (hG.own hF hO) hr15) fun r15 hr15 => ?_
 exact en rfl fun _ _ j => ⟨!r15, j rfl⟩
 rintro a w ⟨t16, hf, hO, hm⟩
 rw [zd4] at hm
 refine S.co tb ?_ hf hO hm
 refine br rfl (fun hc17 => ?_) fun hc17 => ?_
 refine vl rfl rfl (fun a w hf hO => zB (vs := []) (v := .agg #[str [], str [], .slice none 0 0]) hf rfl (by kernel_rfl)) ?_
 refine st 3 rfl rfl ?_
 refine nl 223 3 ?_
 refine re_ rfl fun a w hf hO hm => ?_
 obtain rfl := Option.some.inj hm
 exact zi Tryz.results139 hf (.cell rfl (zp (n := 3) (vs := [str [], str [], .slice none 0 0]) zpb zpf rfl ((hO.blkSees (i := 4) rfl).cells (o := 0) (n := 3) rfl)) (.tmp rfl .nil)) ⟨none, 0, rfl, (hO.sub (.cons_cons _ (.cons _ (.cons _ (.cons _ (.cons _ .slnil))))))⟩
 refine ld 0 rfl rfl ?_
 refine ld 0 rfl rfl ?_
 refine vl rfl rfl (fun a w hf hO => zB (vs := [(0, str r10.1.Name), (1, str r10.1.Value)]) (v := .agg #[str r10.1.Name, str r10.1.Value, .slice none 0 0]) hf rfl (by kernel_rfl)) ?_
 refine al znj rfl fun b20 => ?_
 refine nl 223 3 ?_
 refine st 1 rfl rfl ?_
 refine nl 223 3 ?_
 refine jv 0 [2, 7] [1, 3, 5, 6] (fun J E L => ∃ (s53 : Str) (s54 : Str) (p55 : Option Addr) (c56 : Nat) (l57 : List api_Attr), J (E) (.row (.slice p55 l57.length c56) 223 3 l57.length (cells zA l57) :: .blk b20 [str s53, str s54, .slice p55 l57.length c56] 183 :: .shr p4 (cells zg r3) :: L) (zht s53 s54 l57)) rfl ?_ ?_
 refine rw_ rfl fun a w hf hO hm => ?_
 obtain ⟨l23, hl23, hm⟩ := ob hm
 have hcr22 := hO.rowCap (i := 4) rfl
 have hO := hO.giveRow (i := 4) rfl
 obtain ⟨p24, c25, hrl23, hVl23, hCl23, hPl23⟩ := zuF (enc := zg) (xs := r3) 42 Tryz.underlying42 zfZ (fun _ => rfl) (hO.sees (i := 4) rfl) hcr22 hl23
 have hO := hO.share (i := 4) rfl hPl23 (hVl23 _ (hO.sees (i := 4) rfl))
 refine zS (zq6 Tryz.underlying42 hrl23 hf rfl rfl) rfl hf rfl rfl fun a hf => ?_
 refine S.op tb ?_ hf hO hm
 refine ch [1, 3, 0, 2, 4, 5, 6, 7] rfl rfl ?_
 refine lv [2, 7, 41, 42] [2, 3, 4, 5, 6, 7] (fun J E L k => ∃ (p27 : Option Addr) (c28 : Nat) (l29 : List api_Attr) (s30 : Str) (s31 : Str) (i32 : Int), J ((43, int i32) :: E) (.row (.slice p27 l29.length c28) 223 3 l29.length (cells zA l29) :: .blk b20 [str s30, str s31, .slice p27 l29.length c28] 183 :: L) (zd3 l23 k l29 s30 s31 i32)) rfl (fun _ _ j => ⟨none, 0, [], r10.1.Name, r10.1.Value, 0, j rfl⟩) ?_
 rintro n2 a w ⟨p27, c28, l29, s30, s31, i32, hf, hO, hm⟩
 obtain _ | n2 := n2
 rw [zd3] at hm
 cases hm
 rw [zd3] at hm
 refine S.co tb ?_ hf hO hm
 refine br rfl (fun hc34 => ?_) fun hc34 => ?_
 refine rw_ rfl fun a w hf hO hm => ?_
 obtain ⟨x36, hx36, hm⟩ := ob hm
 obtain ⟨b37, o38, hix36, hSx36⟩ := zaK (enc := zg) (sz := 1) (xs := l23) 42 Tryz.underlying42 zfZ (by decide) (fun _ => rfl) (hO.sees (i := 2) rfl) hx36
 refine zS (zk hix36 hf rfl rfl) rfl hf rfl rfl fun a hf => ?_
 refine S.op tb ?_ hf hO hm
 refine vl rfl rfl (fun a w hf hO => ze (o := 0) z7 (hSx36 _ (hO.sees (i := 2) rfl)) rfl hf rfl) ?_
 refine cl c_189 rfl (fun r40 w hr40 hO => zlr x36 r40 _ (hG.own hF hO) hr40) fun r40 hr40 => ?_
 refine al znk rfl fun b41 => ?_
 refine st 0 rfl rfl ?_
 refine br rfl (fun hc44 => ?_) fun hc44 => ?_
 refine vl rfl rfl (fun a w hf hO => zB (vs := []) (v := .agg #[str [], str [], .slice none 0 0]) hf rfl (by kernel_rfl)) ?_
 refine st 8 rfl rfl ?_
 refine nl 223 3 ?_
 refine re_ rfl fun a w hf hO hm => ?_
 obtain rfl := Option.some.inj hm
 exact zi Tryz.results139 hf (.cell rfl (zp (n := 3) (vs := [str [], str [], .slice none 0 0]) zpb zpf rfl ((hO.blkSees (i := 9) rfl).cells (o := 0) (n := 3) rfl)) (.tmp rfl .nil)) ⟨none, 0, rfl, (hO.sub (.cons_cons _ (.cons _ (.cons _ (.cons _ (.cons _ (.cons _ (.cons _ (.cons _ (.cons _ (.cons _ .slnil)))))))))))⟩
 refine ld 2 rfl rfl ?_
 refine ld 0 rfl rfl ?_
 refine rw_ rfl fun a w hf hO hm => ?_
 refine zm (vs := [(0, .agg #[str r40.1.Name, str r40.1.Value, .bool r40.1.Has])]) (cs := [str r40.1.Name, str r40.1.Value, .bool r40.1.Has]) (e := 223) (sz := 3) hf rfl rfl (fun w => by kernel_rfl) rfl rfl hO fun a b47 w hf hO => ?_
 refine S.op tb ?_ hf hO hm
 refine rw_ rfl fun a w hf hO hm => ?_
 obtain ⟨hg50, hm⟩ := og hm
 refine zae ztu (enc := zA) (xs := l29) (ys := [r40.1]) (i := 2) (fun _ => rfl) rfl (hO.rowSees (i := 0) rfl) (by simp [cells, zA, Value.oneCell']) hg50 hf rfl rfl rfl hO fun a p48 c49 w hf hO => ?_
 refine S.op tb ?_ hf hO hm
 refine st 3 rfl rfl ?_
 refine bi rfl fun i52 hi52 => ?_
 exact ec [2, 3, 4, 5, 6, 7, 8, 9] rfl rfl rfl fun _ _ j => ⟨_, Nat.lt_succ_self _, p48, c49, l29 ++ [r40.1], s30, s31, i52, j rfl⟩
 exact ec [0, 1, 5, 3, 4, 6, 7] rfl rfl rfl fun _ _ j => ⟨s30, s31, p27, c28, l29, j rfl⟩
 rintro a w ⟨s53, s54, p55, c56, l57, hf, hO, hm⟩
 rw [zht] at hm
 refine S.co tb ?_ hf hO hm
 refine ld 1 rfl rfl ?_
 refine st 6 rfl rfl ?_
 refine re_ rfl fun a w hf hO hm => ?_
 obtain rfl := Option.some.inj hm
 exact zi Tryz.results139 hf (.cell rfl (zp (n := 3) (vs := [str s53, str s54, .slice p55 l57.length c56]) zpb zpf rfl ((hO.blkSees (i := 6) rfl).cells (o := 0) (n := 3) rfl)) (.tmp rfl .nil)) ⟨p55, c56, rfl, (hO.sub (.cons_cons _ (.cons _ (.cons _ (.cons _ (.cons _ (.cons _ (.cons _ .slnil))))))))⟩

theorem zlk (x_c : api_Cookie) (x_name : Str) (R : Int) (w0 : World) (hG : zt w0) {x_c_p0 : Option Addr} {x_c_c0 : Nat} (hs0 : zy w0 x_c_p0 (cells zA x_c.Attrs)) (hc0 : x_c.Attrs.length ≤ x_c_c0) (hm : ziw x_c x_name = some R) :
    Calls Tryz.prog 191 #[.agg #[str x_c.Name, str x_c.Value, .slice x_c_p0 x_c.Attrs.length x_c_c0], str x_name] w0 (Ret w0 (fun R => int R) R) := by
 rw [ziw] at hm
 have hF : zu [] := zf
 have hO : Dk.Own w0 [] w0 [] := Dk.Own.refl w0
 have hO := hO.addShr hs0 (by simp [Res.shared])
 refine S.enter tb Tryz.func191 rfl Tryz.ntmps191 rfl ?_ hO hm
 refine bo rfl fun b1 => ?_
 refine ld 0 rfl rfl ?_
 refine bi rfl fun i3 hi3 => ?_
 refine lv [1, 2] [0, 1] (fun J E L k => ∃ (i5 : Int), J ((5, int i5) :: E) (L) (zew x_c x_name k i5)) rfl (fun _ _ j => ⟨i3, j rfl⟩) ?_
 rintro n1 a w ⟨i5, hf, hO, hm⟩
 obtain _ | n1 := n1
 rw [zew] at hm
 cases hm
 rw [zew] at hm
 refine S.co tb ?_ hf hO hm
 refine br rfl (fun hc7 => ?_) fun hc7 => ?_
 refine ld 0 rfl rfl ?_
 refine rw_ rfl fun a w hf hO hm => ?_
 obtain ⟨x9, hx9, hm⟩ := ob hm
 obtain ⟨b10, o11, hix9, hSx9⟩ := zaK (enc := zA) (sz := 3) (xs := x_c.Attrs) 181 Tryz.underlying181 za3 (by decide) (fun _ => rfl) (hO.sees (i := 1) rfl) hx9
 refine zS (zk hix9 hf rfl rfl) rfl hf rfl rfl fun a hf => ?_
 refine S.op tb ?_ hf hO hm
 refine vl rfl rfl (fun a w hf hO => ze (o := 0) z7 (hSx9 _ (hO.sees (i := 1) rfl)) rfl hf rfl) ?_
 refine cl zp0 rfl (fun r12 w hr12 hO => zbZ x9.Name x_name r12 _ (hG.own hF hO) hr12) fun r12 hr12 => ?_
 refine br rfl (fun hc14 => ?_) fun hc14 => ?_
 exact rt Tryz.results191 rfl
 refine bi rfl fun i17 hi17 => ?_
 exact en rfl fun _ _ j => ⟨_, Nat.lt_succ_self _, i17, j rfl⟩
 exact rt Tryz.results191 rfl

theorem zqU (x_c : api_Cookie) (x_name : Str) (R : Str × Bool) (w0 : World) (hG : zt w0) {x_c_p0 : Option Addr} {x_c_c0 : Nat} (hs0 : zy w0 x_c_p0 (cells zA x_c.Attrs)) (hc0 : x_c.Attrs.length ≤ x_c_c0) (hm : zlN x_c x_name = some R) :
    Calls Tryz.prog 140 #[.agg #[str x_c.Name, str x_c.Value, .slice x_c_p0 x_c.Attrs.length x_c_c0], str x_name] w0 (Ret w0 (fun R => .tuple #[str R.1, .bool R.2]) R) := by
 rw [zlN] at hm
 have hF : zu [] := zf
 have hO : Dk.Own w0 [] w0 [] := Dk.Own.refl w0
 have hO := hO.addShr hs0 (by simp [Res.shared])
 refine S.enter tb Tryz.func140 rfl Tryz.ntmps140 rfl ?_ hO hm
 refine bo rfl fun b1 => ?_
 refine ld 0 rfl rfl ?_
 refine cl c_191 rfl (fun r3 w hr3 hO => zlk x_c x_name r3 _ (hG.own hF hO) (hO.sees (i := 1) rfl) hc0 hr3) fun r3 hr3 => ?_
 refine br rfl (fun hc6 => ?_) fun hc6 => ?_
 exact rt Tryz.results140 rfl
 refine ld 0 rfl rfl ?_
 refine rw_ rfl fun a w hf hO hm => ?_
 obtain ⟨x9, hx9, hm⟩ := ob hm
 obtain ⟨b10, o11, hix9, hSx9⟩ := zaK (enc := zA) (sz := 3) (xs := x_c.Attrs) 181 Tryz.underlying181 za3 (by decide) (fun _ => rfl) (hO.sees (i := 1) rfl) hx9
 refine zS (zk hix9 hf rfl rfl) rfl hf rfl rfl fun a hf => ?_
 refine S.op tb ?_ hf hO hm
 refine vl rfl rfl (fun a w hf hO => ze (o := 1) z7 (hSx9 _ (hO.sees (i := 1) rfl)) rfl hf rfl) ?_
 exact rt Tryz.results140 rfl

theorem ziK (x_s : Str) (x_prefix : Str) (R : Str) (w0 : World) (hG : zt w0) (hm : stringslite_TrimPrefix x_s x_prefix = some R) :
    Calls Tryz.prog 233 #[str x_s, str x_prefix] w0 (Ret w0 (fun R => str R) R) := by
 rw [stringslite_TrimPrefix] at hm
 have hF : zu [] := zf
 have hO : Dk.Own w0 [] w0 [] := Dk.Own.refl w0
 refine S.enter tb Tryz.func233 rfl Tryz.ntmps233 rfl ?_ hO hm
 refine cl zwy rfl (fun r2 w hr2 hO => zdt x_s x_prefix r2 _ (hG.own hF hO) hr2) fun r2 hr2 => ?_
 refine br rfl (fun hc4 => ?_) fun hc4 => ?_
 refine bi rfl fun s5 hs5 => ?_
 exact rt Tryz.results233 rfl
 exact rt Tryz.results233 rfl

theorem zki (x_s : Str) (x_prefix : Str) (R : Str) (w0 : World) (hG : zt w0) (hm : strings_TrimPrefix x_s x_prefix = some R) :
    Calls Tryz.prog 192 #[str x_s, str x_prefix] w0 (Ret w0 (fun R => str R) R) := by
 rw [strings_TrimPrefix] at hm
 have hF : zu [] := zf
 have hO : Dk.Own w0 [] w0 [] := Dk.Own.refl w0
 refine S.enter tb Tryz.func192 rfl Tryz.ntmps192 rfl ?_ hO hm
 refine cl c_233 rfl (fun r2 w hr2 hO => ziK x_s x_prefix r2 _ (hG.own hF hO) hr2) fun r2 hr2 => ?_
 exact rt Tryz.results192 rfl

theorem zm0 (x_name : Str) (x_domain : Str) (R : Bool) (w0 : World) (hG : zaG w0) (hm : zh8 x_name x_domain = some R) :
    Calls Tryz.prog 193 #[str x_name, str x_domain] w0 (Ret w0 (fun R => .bool R) R) := by
 rw [zh8] at hm
 have hF : zu [] := zf
 have hO : Dk.Own w0 [] w0 [] := Dk.Own.refl w0
 refine S.enter tb Tryz.func193 rfl Tryz.ntmps193 rfl ?_ hO hm
 refine jv 1 [0, 1] [] (fun J E L => ∃ (t9 : Bool), J ((22, .bool t9) :: E) (L) (zci x_name x_domain t9)) rfl ?_ ?_
 refine cl zwz rfl (fun r2 w hr2 hO => zhp x_name r2 _ (hG.own hF hO).1 hr2) fun r2 hr2 => ?_
 refine br rfl (fun hc3 => ?_) fun hc3 => ?_
 exact en rfl fun _ _ j => ⟨true, j rfl⟩
 refine cl zwz rfl (fun r4 w hr4 hO => zhp x_domain r4 _ (hG.own hF hO).1 hr4) fun r4 hr4 => ?_
 refine br rfl (fun hc5 => ?_) fun hc5 => ?_
 exact en rfl fun _ _ j => ⟨true, j rfl⟩
 refine cl c_92 rfl (fun r6 w hr6 hO => zcY x_name r6 _ (hG.own hF hO) hr6) fun r6 hr6 => ?_
 refine br rfl (fun hc7 => ?_) fun hc7 => ?_
 exact en rfl fun _ _ j => ⟨true, j rfl⟩
 refine cl c_92 rfl (fun r8 w hr8 hO => zcY x_domain r8 _ (hG.own hF hO) hr8) fun r8 hr8 => ?_
 exact en rfl fun _ _ j => ⟨r8, j rfl⟩
 rintro a w ⟨t9, hf, hO, hm⟩
 rw [zci] at hm
 refine S.co tb ?_ hf hO hm
 refine br rfl (fun hc10 => ?_) fun hc10 => ?_
 exact rt Tryz.results193 rfl
 refine cl zty rfl (fun r13 w hr13 hO => zdM x_name r13 _ (hG.own hF hO).1 hr13) fun r13 hr13 => ?_
 refine cl zty rfl (fun r14 w hr14 hO => zdM x_domain r14 _ (hG.own hF hO).1 hr14) fun r14 hr14 => ?_
 refine jv 0 [] [] (fun J E L => ∃ (t19 : Bool), J ((4, .bool t19) :: E) (L) (zel t19)) rfl ?_ ?_
 refine br rfl (fun hc16 => ?_) fun hc16 => ?_
 exact en rfl fun _ _ j => ⟨true, j rfl⟩
 refine bi rfl fun s17 hs17 => ?_
 refine cl c_186 rfl (fun r18 w hr18 hO => zhz r13 s17 r18 _ (hG.own hF hO).1 hr18) fun r18 hr18 => ?_
 exact en rfl fun _ _ j => ⟨r18, j rfl⟩
 rintro a w ⟨t19, hf, hO, hm⟩
 rw [zel] at hm
 refine S.co tb ?_ hf hO hm
 exact rt Tryz.results193 rfl

theorem zpL (x_name : Str) (x_l : List api_Swap) (R : Str × Bool) (w0 : World) (hG : zaG w0) {x_l_p0 : Option Addr} {x_l_c0 : Nat} (hs0 : zy w0 x_l_p0 (cells zb x_l)) (hc0 : x_l.length ≤ x_l_c0) (hm : zky x_name x_l = some R) :
    Calls Tryz.prog 141 #[str x_name, .slice x_l_p0 x_l.length x_l_c0] w0 (Ret w0 (fun R => .tuple #[str R.1, .bool R.2]) R) := by
 rw [zky] at hm
 have hF : zu [] := zf
 have hO : Dk.Own w0 [] w0 [] := Dk.Own.refl w0
 have hO := hO.addShr hs0 (by simp [Res.shared])
 refine S.enter tb Tryz.func141 rfl Tryz.ntmps141 rfl ?_ hO hm
 refine cl c_192 rfl (fun r2 w hr2 hO => zki x_name [46] r2 _ (hG.own hF hO).1 hr2) fun r2 hr2 => ?_
 refine lv [0, 6, 11, 12] [0] (fun J E L k => ∃ (i5 : Int), J ((13, int i5) :: E) (L) (zex x_name x_l r2 k i5)) rfl (fun _ _ j => ⟨0, j rfl⟩) ?_
 rintro n1 a w ⟨i5, hf, hO, hm⟩
 obtain _ | n1 := n1
 rw [zex] at hm
 cases hm
 rw [zex] at hm
 refine S.co tb ?_ hf hO hm
 refine br rfl (fun hc7 => ?_) fun hc7 => ?_
 refine rw_ rfl fun a w hf hO hm => ?_
 obtain ⟨x9, hx9, hm⟩ := ob hm
 obtain ⟨b10, o11, hix9, hSx9⟩ := zaK (enc := zb) (sz := 2) (xs := x_l) 22 Tryz.underlying22 zeH (by decide) (fun _ => rfl) (hO.sees (i := 0) rfl) hx9
 refine zS (zk hix9 hf rfl rfl) rfl hf rfl rfl fun a hf => ?_
 refine S.op tb ?_ hf hO hm
 refine vl rfl rfl (fun a w hf hO => zo (o := 0) (vs := [str x9.From, str x9.To]) zjk zeH (hSx9 _ (hO.sees (i := 0) rfl)) rfl rfl hf rfl) ?_
 refine al zv8 rfl fun b12 => ?_
 refine st 0 rfl rfl ?_
 refine ld 0 rfl rfl ?_
 refine cl c_193 rfl (fun r14 w hr14 hO => zm0 r2 x9.From r14 _ (hG.own hF hO) hr14) fun r14 hr14 => ?_
 refine br rfl (fun hc16 => ?_) fun hc16 => ?_
 refine rc_ rfl fun a w hf hO hm => ?_
 refine zd1 (by kernel_rfl) (by kernel_rfl) hO ?_
 refine zn (fun w hO => zl hf rfl) rfl hf rfl rfl fun a hf => ?_
 refine zn (fun w hO => zl hf rfl) rfl hf rfl rfl fun a hf => ?_
 refine zn (fun w hO => zf1 (l := r2) Tryz.underlying9 hf rfl) rfl hf rfl rfl fun a hf => ?_
 refine zn (fun w hO => zw zk3 hf rfl) rfl hf rfl rfl fun a hf => ?_
 refine zn (fun w hO => ze (o := 0) z7 (hO.blkSees (i := 0) rfl) rfl hf rfl) rfl hf rfl rfl fun a hf => ?_
 refine zn (fun w hO => zf1 (l := x9.From) Tryz.underlying9 hf rfl) rfl hf rfl rfl fun a hf => ?_
 obtain ⟨i17, hi17, hm⟩ := ob hm
 refine zn (fun w hO => zsW hf rfl rfl hi17) rfl hf rfl rfl fun a hf => ?_
 obtain ⟨s18, hs18, hm⟩ := ob hm
 refine zn (fun w hO => zhG (l := r2) Tryz.underlying9 hf rfl rfl hs18) rfl hf rfl rfl fun a hf => ?_
 refine zn (fun w hO => zw zk4 hf rfl) rfl hf rfl rfl fun a hf => ?_
 refine zn (fun w hO => ze (o := 1) z7 (hO.blkSees (i := 0) rfl) rfl hf rfl) rfl hf rfl rfl fun a hf => ?_
 obtain ⟨s19, hs19, hm⟩ := ob hm
 refine zn (fun w hO => zsZ (l := s18) (m := x9.To) hf rfl rfl hs19) rfl hf rfl rfl fun a hf => ?_
 refine zn (fun w hO => z8 hf rfl) rfl hf rfl rfl fun a hf => ?_
 refine zn (fun w hO => z8 hf rfl) rfl hf rfl rfl fun a hf => ?_
 refine wpQuiet_nil ?_
 intro w hO
 refine S.no tb ?_ hf hO hm
 exact rt Tryz.results141 rfl
 refine bi rfl fun i22 hi22 => ?_
 exact ec [1] rfl rfl rfl fun _ _ j => ⟨_, Nat.lt_succ_self _, i22, j rfl⟩
 exact rt Tryz.results141 rfl

theorem zqV (x_c : api_Cookie) (x_name : Str) (x_value : Str) (R : api_Cookie) (w0 : World) (hG : zt w0) {x_c_p0 : Option Addr} {x_c_c0 : Nat} (hs0 : zy w0 x_c_p0 (cells zA x_c.Attrs)) (hc0 : x_c.Attrs.length ≤ x_c_c0) (hm : zlO x_c x_name x_value = some R) :
    Calls Tryz.prog 143 #[.agg #[str x_c.Name, str x_c.Value, .slice x_c_p0 x_c.Attrs.length x_c_c0], str x_name, str x_value] w0 fun e w' => ∃ (p0 : Option Addr) (c0 : Nat), e = .returned (.agg #[str R.Name, str R.Value, .slice p0 R.Attrs.length c0]) ∧ Dk.Own w0 [] w' [.row (.slice p0 R.Attrs.length c0) 223 3 R.Attrs.length (cells zA R.Attrs)] := by
 rw [zlO] at hm
 have hF : zu [] := zf
 have hO : Dk.Own w0 [] w0 [] := Dk.Own.refl w0
 have hO := hO.addShr hs0 (by simp [Res.shared])
 refine S.enter tb Tryz.func143 rfl Tryz.ntmps143 rfl ?_ hO hm
 refine bo rfl fun b1 => ?_
 refine al znj rfl fun b2 => ?_
 refine nl 223 3 ?_
 refine ld 2 rfl rfl ?_
 refine cl c_191 rfl (fun r4 w hr4 hO => zlk x_c x_name r4 _ (hG.own hF hO) (hO.sees (i := 3) rfl) hc0 hr4) fun r4 hr4 => ?_
 refine ld 2 rfl rfl ?_
 refine ld 2 rfl rfl ?_
 refine vl rfl rfl (fun a w hf hO => zB (vs := [(0, str x_c.Name), (1, str x_c.Value)]) (v := .agg #[str x_c.Name, str x_c.Value, .slice none 0 0]) hf rfl (by kernel_rfl)) ?_
 refine al znj rfl fun b6 => ?_
 refine nl 223 3 ?_
 refine st 1 rfl rfl ?_
 refine nl 223 3 ?_
 refine jv 0 [1, 2, 6, 7, 8] [1, 3, 4, 5, 6] (fun J E L => ∃ (s38 : Str) (s39 : Str) (p40 : Option Addr) (c41 : Nat) (l42 : List api_Attr), J (E) (.row (.slice p40 l42.length c41) 223 3 l42.length (cells zA l42) :: .blk b6 [str s38, str s39, .slice p40 l42.length c41] 183 :: L) (ziU x_name x_value r4 s38 s39 l42)) rfl ?_ ?_
 refine ld 5 rfl rfl ?_
 refine ch [0, 2, 1, 3, 4, 5, 6] rfl rfl ?_
 refine lv [1, 2, 6, 7, 8, 20, 21] [2, 3, 4, 5, 6] (fun J E L k => ∃ (p9 : Option Addr) (c10 : Nat) (l11 : List api_Attr) (s12 : Str) (s13 : Str) (i14 : Int), J ((22, int i14) :: E) (.row (.slice p9 l11.length c10) 223 3 l11.length (cells zA l11) :: .blk b6 [str s12, str s13, .slice p9 l11.length c10] 183 :: L) (zb0 x_c x_name x_value r4 k l11 s12 s13 i14)) rfl (fun _ _ j => ⟨none, 0, [], x_c.Name, x_c.Value, 0, j rfl⟩) ?_
 rintro n1 a w ⟨p9, c10, l11, s12, s13, i14, hf, hO, hm⟩
 obtain _ | n1 := n1
 rw [zb0] at hm
 cases hm
 rw [zb0] at hm
 refine S.co tb ?_ hf hO hm
 refine br rfl (fun hc16 => ?_) fun hc16 => ?_
 refine jv 3 [1, 2, 6, 7, 8, 20, 21, 22] [2, 3, 4, 5, 6] (fun J E L => ∃ (p34 : Option Addr) (c35 : Nat) (l36 : List api_Attr), J (E) (.row (.slice p34 l36.length c35) 223 3 l36.length (cells zA l36) :: .blk b6 [str s12, str s13, .slice p34 l36.length c35] 183 :: L) (zg3 (zb0 x_c x_name x_value r4 n1) s12 s13 i14 l36)) rfl ?_ ?_
 refine rw_ rfl fun a w hf hO hm => ?_
 obtain ⟨x18, hx18, hm⟩ := ob hm
 obtain ⟨b19, o20, hix18, hSx18⟩ := zaK (enc := zA) (sz := 3) (xs := x_c.Attrs) 181 Tryz.underlying181 za3 (by decide) (fun _ => rfl) (hO.sees (i := 6) rfl) hx18
 refine zS (zk hix18 hf rfl rfl) rfl hf rfl rfl fun a hf => ?_
 refine S.op tb ?_ hf hO hm
 refine vl rfl rfl (fun a w hf hO => zo (o := 0) (vs := [str x18.Name, str x18.Value, .bool x18.Has]) zcW za3 (hSx18 _ (hO.sees (i := 6) rfl)) rfl rfl hf rfl) ?_
 refine al znk rfl fun b21 => ?_
 refine st 0 rfl rfl ?_
 refine jv 5 [1, 2, 6, 7, 8, 10, 20, 21, 22] [1, 2, 3, 4, 5, 6, 7] (fun J E L => ∃ (s28 : Str) (t29 : Bool), J (E) (.blk b21 [str x18.Name, str s28, .bool t29] 223 :: L) (zg4 (zb0 x_c x_name x_value r4 n1) l11 s12 s13 i14 x18 s28 t29)) rfl ?_ ?_
 refine br rfl (fun hc24 => ?_) fun hc24 => ?_
 refine st 0 rfl rfl ?_
 refine st 0 rfl rfl ?_
 exact en rfl fun _ _ j => ⟨x_value, true, j rfl⟩
 refine ld 0 rfl rfl ?_
 refine cl zp0 rfl (fun r25 w hr25 hO => zbZ x18.Name x_name r25 _ (hG.own hF hO) hr25) fun r25 hr25 => ?_
 refine br rfl (fun hc27 => ?_) fun hc27 => ?_
 exact ec [1, 2, 3, 4, 5, 6, 7] rfl rfl rfl fun _ _ j => ⟨p9, c10, l11, j rfl⟩
 exact en rfl fun _ _ j => ⟨x18.Value, x18.Has, j rfl⟩
 rintro a w ⟨s28, t29, hf, hO, hm⟩
 rw [zg4] at hm
 refine S.co tb ?_ hf hO hm
 refine ld 2 rfl rfl ?_
 refine ld 0 rfl rfl ?_
 refine rw_ rfl fun a w hf hO hm => ?_
 refine zm (vs := [(0, .agg #[str x18.Name, str s28, .bool t29])]) (cs := [str x18.Name, str s28, .bool t29]) (e := 223) (sz := 3) hf rfl rfl (fun w => by kernel_rfl) rfl rfl hO fun a b30 w hf hO => ?_
 refine S.op tb ?_ hf hO hm
 refine rw_ rfl fun a w hf hO hm => ?_
 obtain ⟨hg33, hm⟩ := og hm
 refine zae ztu (enc := zA) (xs := l11) (ys := [(⟨x18.Name, s28, t29⟩ : api_Attr)]) (i := 2) (fun _ => rfl) rfl (hO.rowSees (i := 0) rfl) (by simp [cells, zA, Value.oneCell']) hg33 hf rfl rfl rfl hO fun a p31 c32 w hf hO => ?_
 refine S.op tb ?_ hf hO hm
 refine st 3 rfl rfl ?_
 exact ec [2, 3, 4, 5, 6, 7, 8] rfl rfl rfl fun _ _ j => ⟨p31, c32, l11 ++ [(⟨x18.Name, s28, t29⟩ : api_Attr)], j rfl⟩
 rintro a w ⟨p34, c35, l36, hf, hO, hm⟩
 rw [zg3] at hm
 refine S.co tb ?_ hf hO hm
 refine bi rfl fun i37 hi37 => ?_
 exact en rfl fun _ _ j => ⟨_, Nat.lt_succ_self _, p34, c35, l36, s12, s13, i37, j rfl⟩
 exact en rfl fun _ _ j => ⟨s12, s13, p9, c10, l11, j rfl⟩
 rintro a w ⟨s38, s39, p40, c41, l42, hf, hO, hm⟩
 rw [ziU] at hm
 refine S.co tb ?_ hf hO hm
 refine jv 0 [6, 8] [2, 3, 4, 5, 6] (fun J E L => ∃ (p49 : Option Addr) (c50 : Nat) (l51 : List api_Attr), J (E) (.row (.slice p49 l51.length c50) 223 3 l51.length (cells zA l51) :: .blk b6 [str s38, str s39, .slice p49 l51.length c50] 183 :: L) (zg5 s38 s39 l51)) rfl ?_ ?_
 refine br rfl (fun hc44 => ?_) fun hc44 => ?_
 refine ld 1 rfl rfl ?_
 refine vl rfl rfl (fun a w hf hO => zB (vs := [(0, str x_name), (1, str x_value), (2, .bool true)]) (v := .agg #[str x_name, str x_value, .bool true]) hf rfl (by kernel_rfl)) ?_
 refine rw_ rfl fun a w hf hO hm => ?_
 refine zm (vs := [(0, .agg #[str x_name, str x_value, .bool true])]) (cs := [str x_name, str x_value, .bool true]) (e := 223) (sz := 3) hf rfl rfl (fun w => by kernel_rfl) rfl rfl hO fun a b45 w hf hO => ?_
 refine S.op tb ?_ hf hO hm
 refine rw_ rfl fun a w hf hO hm => ?_
 obtain ⟨hg48, hm⟩ := og hm
 refine zae ztu (enc := zA) (xs := l42) (ys := [(⟨x_name, x_value, true⟩ : api_Attr)]) (i := 1) (fun _ => rfl) rfl (hO.rowSees (i := 0) rfl) (by simp [cells, zA, Value.oneCell']) hg48 hf rfl rfl rfl hO fun a p46 c47 w hf hO => ?_
 refine S.op tb ?_ hf hO hm
 refine st 2 rfl rfl ?_
 exact ec [1, 2, 3, 4, 5, 6, 7] rfl rfl rfl fun _ _ j => ⟨p46, c47, l42 ++ [(⟨x_name, x_value, true⟩ : api_Attr)], j rfl⟩
 exact en rfl fun _ _ j => ⟨p40, c41, l42, j rfl⟩
 rintro a w ⟨p49, c50, l51, hf, hO, hm⟩
 rw [zg5] at hm
 refine S.co tb ?_ hf hO hm
 refine ld 1 rfl rfl ?_
 refine st 4 rfl rfl ?_
 refine re_ rfl fun a w hf hO hm => ?_
 obtain rfl := Option.some.inj hm
 exact zi Tryz.results143 hf (.cell rfl (zp (n := 3) (vs := [str s38, str s39, .slice p49 l51.length c50]) zpb zpf rfl ((hO.blkSees (i := 4) rfl).cells (o := 0) (n := 3) rfl)) .nil) ⟨p49, c50, rfl, (hO.sub (.cons_cons _ (.cons _ (.cons _ (.cons _ (.cons _ (.cons _ (.cons _ .slnil))))))))⟩

theorem zfF (x_s1 : List api_Attr) (x_s2 : List api_Attr) (R : Bool) (w0 : World) (hG : zt w0) {x_s1_p0 : Option Addr} {x_s1_c0 : Nat} (hs0 : zy w0 x_s1_p0 (cells zA x_s1)) (hc0 : x_s1.length ≤ x_s1_c0) {x_s2_p1 : Option Addr} {x_s2_c1 : Nat} (hs1 : zy w0 x_s2_p1 (cells zA x_s2)) (hc1 : x_s2.length ≤ x_s2_c1) (hm : zbr x_s1 x_s2 = some R) :
    Calls Tryz.prog 234 #[.slice x_s1_p0 x_s1.length x_s1_c0, .slice x_s2_p1 x_s2.length x_s2_c1] w0 (Ret w0 (fun R => .bool R) R) := by
 rw [zbr] at hm
 have hF : zu [] := zf
 have hO : Dk.Own w0 [] w0 [] := Dk.Own.refl w0
 have hO := hO.addShr hs0 (by simp [Res.shared])
 have hO := hO.addShr hs1 (by simp [Res.shared])
 refine S.enter tb Tryz.func234 rfl Tryz.ntmps234 rfl ?_ hO hm
 refine br rfl (fun hc3 => ?_) fun hc3 => ?_
 exact rt Tryz.results234 rfl
 refine lv [0, 1, 12] [0, 1] (fun J E L k => ∃ (i7 : Int), J ((13, int i7) :: E) (L) (zX x_s1 x_s2 k i7)) rfl (fun _ _ j => ⟨0, j rfl⟩) ?_
 rintro n1 a w ⟨i7, hf, hO, hm⟩
 obtain _ | n1 := n1
 rw [zX] at hm
 cases hm
 rw [zX] at hm
 refine S.co tb ?_ hf hO hm
 refine br rfl (fun hc9 => ?_) fun hc9 => ?_
 refine rc_ rfl fun a w hf hO hm => ?_
 refine zd1 (by kernel_rfl) (by kernel_rfl) hO ?_
 refine zn (fun w hO => zl hf rfl) rfl hf rfl rfl fun a hf => ?_
 refine zn (fun w hO => zl hf rfl) rfl hf rfl rfl fun a hf => ?_
 obtain ⟨x12, hx12, hm⟩ := ob hm
 obtain ⟨b13, o14, hix12, hSx12⟩ := zaK (enc := zA) (sz := 3) (xs := x_s1) 181 Tryz.underlying181 za3 (by decide) (fun _ => rfl) (hO.sees (i := 1) rfl) hx12
 refine zn (fun w hO => zk hix12 hf rfl rfl) rfl hf rfl rfl fun a hf => ?_
 refine zn (fun w hO => zo (o := 0) (vs := [str x12.Name, str x12.Value, .bool x12.Has]) zcW za3 (hSx12 _ (hO.sees (i := 1) rfl)) rfl rfl hf rfl) rfl hf rfl rfl fun a hf => ?_
 refine zn (fun w hO => zl hf rfl) rfl hf rfl rfl fun a hf => ?_
 refine zn (fun w hO => zl hf rfl) rfl hf rfl rfl fun a hf => ?_
 obtain ⟨x15, hx15, hm⟩ := ob hm
 obtain ⟨b16, o17, hix15, hSx15⟩ := zaK (enc := zA) (sz := 3) (xs := x_s2) 181 Tryz.underlying181 za3 (by decide) (fun _ => rfl) (hO.sees (i := 0) rfl) hx15
 refine zn (fun w hO => zk hix15 hf rfl rfl) rfl hf rfl rfl fun a hf => ?_
 refine zn (fun w hO => zo (o := 0) (vs := [str x15.Name, str x15.Value, .bool x15.Has]) zcW za3 (hSx15 _ (hO.sees (i := 0) rfl)) rfl rfl hf rfl) rfl hf rfl rfl fun a hf => ?_
 refine zn (fun w hO => zj8 (by kernel_rfl) (eq_223 x12 x15) hf rfl rfl) rfl hf rfl rfl fun a hf => ?_
 refine wpQuiet_nil ?_
 intro w hO
 refine S.no tb ?_ hf hO hm
 refine br rfl (fun hc19 => ?_) fun hc19 => ?_
 exact rt Tryz.results234 rfl
 refine bi rfl fun i22 hi22 => ?_
 exact en rfl fun _ _ j => ⟨_, Nat.lt_succ_self _, i22, j rfl⟩
 exact rt Tryz.results234 rfl

theorem zpM (x_a : api_Cookie) (x_b : api_Cookie) (R : Bool) (w0 : World) (hG : zt w0) {x_a_p0 : Option Addr} {x_a_c0 : Nat} (hs0 : zy w0 x_a_p0 (cells zA x_a.Attrs)) (hc0 : x_a.Attrs.length ≤ x_a_c0) {x_b_p1 : Option Addr} {x_b_c1 : Nat} (hs1 : zy w0 x_b_p1 (cells zA x_b.Attrs)) (hc1 : x_b.Attrs.length ≤ x_b_c1) (hm : zkz x_a x_b = some R) :
    Calls Tryz.prog 194 #[.agg #[str x_a.Name, str x_a.Value, .slice x_a_p0 x_a.Attrs.length x_a_c0], .agg #[str x_b.Name, str x_b.Value, .slice x_b_p1 x_b.Attrs.length x_b_c1]] w0 (Ret w0 (fun R => .bool R) R) := by
 rw [zkz] at hm
 have hF : zu [] := zf
 have hO : Dk.Own w0 [] w0 [] := Dk.Own.refl w0
 have hO := hO.addShr hs0 (by simp [Res.shared])
 have hO := hO.addShr hs1 (by simp [Res.shared])
 refine S.enter tb Tryz.func194 rfl Tryz.ntmps194 rfl ?_ hO hm
 refine bo rfl fun b1 => ?_
 refine bo rfl fun b2 => ?_
 refine jv 0 [] [0, 1, 2, 3] (fun J E L => ∃ (t7 : Bool), J ((4, .bool t7) :: E) (L) (zey t7)) rfl ?_ ?_
 refine ld 1 rfl rfl ?_
 refine ld 0 rfl rfl ?_
 refine br rfl (fun hc4 => ?_) fun hc4 => ?_
 refine ld 1 rfl rfl ?_
 refine ld 0 rfl rfl ?_
 refine br rfl (fun hc5 => ?_) fun hc5 => ?_
 refine ld 1 rfl rfl ?_
 refine ld 0 rfl rfl ?_
 refine cl c_234 rfl (fun r6 w hr6 hO => zfF x_a.Attrs x_b.Attrs r6 _ (hG.own hF hO) (hO.sees (i := 3) rfl) hc0 (hO.sees (i := 2) rfl) hc1 hr6) fun r6 hr6 => ?_
 exact en rfl fun _ _ j => ⟨r6, j rfl⟩
 exact en rfl fun _ _ j => ⟨false, j rfl⟩
 exact en rfl fun _ _ j => ⟨false, j rfl⟩
 rintro a w ⟨t7, hf, hO, hm⟩
 rw [zey] at hm
 refine S.co tb ?_ hf hO hm
 exact rt Tryz.results194 rfl

theorem zpN (x_c : api_Cookie) (R : Str × Int) (w0 : World) (hG : zt w0) {x_c_p0 : Option Addr} {x_c_c0 : Nat} (hs0 : zy w0 x_c_p0 (cells zA x_c.Attrs)) (hc0 : x_c.Attrs.length ≤ x_c_c0) (hm : zkA x_c = some R) :
    Calls Tryz.prog 142 #[.agg #[str x_c.Name, str x_c.Value, .slice x_c_p0 x_c.Attrs.length x_c_c0]] w0 (Ret w0 (fun R => .tuple #[str R.1, int R.2]) R) := by
 rw [zkA] at hm
 have hF : zu [] := zf
 have hO : Dk.Own w0 [] w0 [] := Dk.Own.refl w0
 have hO := hO.addShr hs0 (by simp [Res.shared])
 refine S.enter tb Tryz.func142 rfl Tryz.ntmps142 rfl ?_ hO hm
 refine bo rfl fun b1 => ?_
 refine ld 0 rfl rfl ?_
 refine bi rfl fun s3 hs3 => ?_
 refine ld 0 rfl rfl ?_
 refine bi rfl fun s4 hs4 => ?_
 refine rw_ rfl fun a w hf hO hm => ?_
 refine zm (vs := [(0, str s4)]) (cs := [str s4]) (e := 9) (sz := 1) hf rfl rfl (fun w => by kernel_rfl) rfl rfl hO fun a b5 w hf hO => ?_
 refine S.op tb ?_ hf hO hm
 refine ld 1 rfl rfl ?_
 refine lv [1, 18, 19] [1, 2] (fun J E L k => ∃ (p8 : Option Addr) (c9 : Nat) (l10 : List Str) (i11 : Int), J ((4, .slice p8 l10.length c9) :: (20, int i11) :: E) (.row (.slice p8 l10.length c9) 9 1 l10.length (cells zg l10) :: L) (zcT x_c k l10 i11)) rfl (fun _ _ j => ⟨some ⟨b5, 0, none⟩, 1, ([s4] : List Str), 0, j rfl⟩) ?_
 rintro n1 a w ⟨p8, c9, l10, i11, hf, hO, hm⟩
 obtain _ | n1 := n1
 rw [zcT] at hm
 cases hm
 rw [zcT] at hm
 refine S.co tb ?_ hf hO hm
 refine br rfl (fun hc13 => ?_) fun hc13 => ?_
 refine jv 3 [1, 18, 19, 20] [1, 2] (fun J E L => ∃ (p32 : Option Addr) (c33 : Nat) (l34 : List Str), J ((4, .slice p32 l34.length c33) :: E) (.row (.slice p32 l34.length c33) 9 1 l34.length (cells zg l34) :: L) (zgo (zcT x_c n1) i11 l34)) rfl ?_ ?_
 refine rw_ rfl fun a w hf hO hm => ?_
 obtain ⟨x15, hx15, hm⟩ := ob hm
 obtain ⟨b16, o17, hix15, hSx15⟩ := zaK (enc := zA) (sz := 3) (xs := x_c.Attrs) 181 Tryz.underlying181 za3 (by decide) (fun _ => rfl) (hO.sees (i := 2) rfl) hx15
 refine zS (zk hix15 hf rfl rfl) rfl hf rfl rfl fun a hf => ?_
 refine S.op tb ?_ hf hO hm
 refine vl rfl rfl (fun a w hf hO => zo (o := 0) (vs := [str x15.Name, str x15.Value, .bool x15.Has]) zcW za3 (hSx15 _ (hO.sees (i := 2) rfl)) rfl rfl hf rfl) ?_
 refine al znk rfl fun b18 => ?_
 refine st 0 rfl rfl ?_
 refine ld 0 rfl rfl ?_
 refine br rfl (fun hc21 => ?_) fun hc21 => ?_
 refine ld 0 rfl rfl ?_
 refine bi rfl fun s22 hs22 => ?_
 refine ld 0 rfl rfl ?_
 refine bi rfl fun s23 hs23 => ?_
 refine rw_ rfl fun a w hf hO hm => ?_
 refine zm (vs := [(0, str s23)]) (cs := [str s23]) (e := 9) (sz := 1) hf rfl rfl (fun w => by kernel_rfl) rfl rfl hO fun a b24 w hf hO => ?_
 refine S.op tb ?_ hf hO hm
 refine rw_ rfl fun a w hf hO hm => ?_
 obtain ⟨hg27, hm⟩ := og hm
 refine zae ziE (enc := zg) (xs := l10) (ys := ([s23] : List Str)) (i := 2) (fun _ => rfl) rfl (hO.rowSees (i := 0) rfl) (by simp [cells, zg, Value.oneCell']) hg27 hf rfl rfl rfl hO fun a p25 c26 w hf hO => ?_
 refine S.op tb ?_ hf hO hm
 exact ec [2, 3, 4] rfl rfl rfl fun _ _ j => ⟨p25, c26, l10 ++ ([s23] : List Str), j rfl⟩
 refine ld 0 rfl rfl ?_
 refine rw_ rfl fun a w hf hO hm => ?_
 refine zm (vs := [(0, str x15.Name)]) (cs := [str x15.Name]) (e := 9) (sz := 1) hf rfl rfl (fun w => by kernel_rfl) rfl rfl hO fun a b28 w hf hO => ?_
 refine S.op tb ?_ hf hO hm
 refine rw_ rfl fun a w hf hO hm => ?_
 obtain ⟨hg31, hm⟩ := og hm
 refine zae ziE (enc := zg) (xs := l10) (ys := ([x15.Name] : List Str)) (i := 2) (fun _ => rfl) rfl (hO.rowSees (i := 0) rfl) (by simp [cells, zg, Value.oneCell']) hg31 hf rfl rfl rfl hO fun a p29 c30 w hf hO => ?_
 refine S.op tb ?_ hf hO hm
 exact ec [2, 3, 4] rfl rfl rfl fun _ _ j => ⟨p29, c30, l10 ++ ([x15.Name] : List Str), j rfl⟩
 rintro a w ⟨p32, c33, l34, hf, hO, hm⟩
 rw [zgo] at hm
 refine S.co tb ?_ hf hO hm
 refine bi rfl fun i35 hi35 => ?_
 exact en rfl fun _ _ j => ⟨_, Nat.lt_succ_self _, p32, c33, l34, i35, j rfl⟩
 refine cl c_86 rfl (fun r37 w hr37 hO => zgb [59, 32] l10 r37 _ (hG.own hF hO) (hO.rowSees (i := 0) rfl) (hO.rowCap (i := 0) rfl) hr37) fun r37 hr37 => ?_
 refine rw_ rfl fun a w hf hO hm => ?_
 obtain ⟨r39, hr39, hm⟩ := ob hm
 refine zj (zh c_139 hf (vs := [str r37]) rfl) rfl hf rfl rfl (zkh r37 r39 _ (hG.own hF hO) hr39) ?_
 rintro e w' ⟨p40, c41, he, hO'⟩
 refine ⟨_, he, fun a hf => ?_⟩
 have hO := hO.call hO' (by simp [Res.shared])
 refine S.op tb ?_ hf hO hm
 refine al znj rfl fun b42 => ?_
 refine nl 223 3 ?_
 refine st 1 rfl rfl ?_
 refine jv 1 [7] [0, 1, 2, 3, 4, 5] (fun J E L => ∃ (t46 : Bool), J ((55, .bool t46) :: E) (L) (zgp r37 t46)) rfl ?_ ?_
 refine br rfl (fun hc44 => ?_) fun hc44 => ?_
 exact en rfl fun _ _ j => ⟨true, j rfl⟩
 refine ld 1 rfl rfl ?_
 refine ld 4 rfl rfl ?_
 refine cl c_194 rfl (fun r45 w hr45 hO => zpM r39.1 x_c r45 _ (hG.own hF hO) (hO.rowSees (i := 2) rfl) (hO.rowCap (i := 2) rfl) (hO.sees (i := 5) rfl) hc0 hr45) fun r45 hr45 => ?_
 exact en rfl fun _ _ j => ⟨!r45, j rfl⟩
 rintro a w ⟨t46, hf, hO, hm⟩
 rw [zgp] at hm
 refine S.co tb ?_ hf hO hm
 refine br rfl (fun hc47 => ?_) fun hc47 => ?_
 exact rt Tryz.results142 rfl
 exact rt Tryz.results142 rfl

theorem zmg (x_s : Str) (x_l : List api_Swap) (R : Str) (w0 : World) (hG : zaG w0) {x_l_p0 : Option Addr} {x_l_c0 : Nat} (hs0 : zy w0 x_l_p0 (cells zb x_l)) (hc0 : x_l.length ≤ x_l_c0) (hm : zhu x_s x_l = some R) :
    Calls Tryz.prog 85 #[str x_s, .slice x_l_p0 x_l.length x_l_c0] w0 (Ret w0 (fun R => str R) R) := by
 rw [zhu] at hm
 have hF : zu [] := zf
 have hO : Dk.Own w0 [] w0 [] := Dk.Own.refl w0
 have hO := hO.addShr hs0 (by simp [Res.shared])
 refine S.enter tb Tryz.func85 rfl Tryz.ntmps85 rfl ?_ hO hm
 refine rw_ rfl fun a w hf hO hm => ?_
 obtain ⟨r2, hr2, hm⟩ := ob hm
 refine zj (zh c_139 hf (vs := [str x_s]) rfl) rfl hf rfl rfl (zkh x_s r2 _ (hG.own hF hO).1 hr2) ?_
 rintro e w' ⟨p3, c4, he, hO'⟩
 refine ⟨_, he, fun a hf => ?_⟩
 have hO := hO.call hO' (by simp [Res.shared])
 refine S.op tb ?_ hf hO hm
 refine al znj rfl fun b5 => ?_
 refine nl 223 3 ?_
 refine st 1 rfl rfl ?_
 refine br rfl (fun hc8 => ?_) fun hc8 => ?_
 exact rt Tryz.results85 rfl
 refine ld 1 rfl rfl ?_
 refine cl c_140 rfl (fun r11 w hr11 hO => zqU r2.1 [68, 111, 109, 97, 105, 110] r11 _ (hG.own hF hO).1 (hO.rowSees (i := 2) rfl) (hO.rowCap (i := 2) rfl) hr11) fun r11 hr11 => ?_
 refine cl c_141 rfl (fun r13 w hr13 hO => zpL r11.1 x_l r13 _ (hG.own hF hO) (hO.sees (i := 3) rfl) hc0 hr13) fun r13 hr13 => ?_
 refine br rfl (fun hc16 => ?_) fun hc16 => ?_
 exact rt Tryz.results85 rfl
 refine ld 1 rfl rfl ?_
 refine rw_ rfl fun a w hf hO hm => ?_
 obtain ⟨r19, hr19, hm⟩ := ob hm
 refine zj (zh c_143 hf (vs := [.agg #[str r2.1.Name, str r2.1.Value, .slice p3 r2.1.Attrs.length c4], str [68, 111, 109, 97, 105, 110], str r13.1]) rfl) rfl hf rfl rfl (zqV r2.1 [68, 111, 109, 97, 105, 110] r13.1 r19 _ (hG.own hF hO).1 (hO.rowSees (i := 2) rfl) (hO.rowCap (i := 2) rfl) hr19) ?_
 rintro e w' ⟨p20, c21, he, hO'⟩
 refine ⟨_, he, fun a hf => ?_⟩
 have hO := hO.call hO' (by simp [Res.shared])
 refine S.op tb ?_ hf hO hm
 refine cl c_142 rfl (fun r22 w hr22 hO => zpN r19 r22 _ (hG.own hF hO).1 (hO.rowSees (i := 0) rfl) (hO.rowCap (i := 0) rfl) hr22) fun r22 hr22 => ?_
 refine br rfl (fun hc25 => ?_) fun hc25 => ?_
 exact rt Tryz.results85 rfl
 exact rt Tryz.results85 rfl

end Go.Proofs
end
