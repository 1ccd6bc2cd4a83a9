/-
  Walks, written by a program (wip/gen): what its model says, the function returns; what was there before is as it was.
-/
import Derived.Test.YtoofmjmnhgdloaaGreatDoorLib
import Derived.Test.YtoofmjmnhgdloaaGreatDoorW8
set_option linter.unusedVariables false
set_option maxHeartbeats 1000000
set_option linter.unusedSimpArgs false
set_option maxRecDepth 100000
namespace Go.Proofs
open Go.Dk Go.Dm Go.RowKit

theorem zj7 (x_s : Str) (R : Bool) (w0 : World) (hG : zD w0) (hm : zfq x_s = some R) :
    Calls Tryz.prog 117 #[str x_s] w0 (Ret w0 (fun R => .bool R) R) := by
 rw [zfq] at hm
 have hF : zG [] := zg
 have hO : Dk.Own w0 [] w0 [] := Dk.Own.refl w0
 refine S.enter tb Tryz.func117 rfl Tryz.ntmps117 rfl ?_ hO hm
 refine cl zqt rfl (fun r2 w hr2 hO => zm2 x_s [47, 63] r2 _ (hG.own hF hO) hr2) fun r2 hr2 => ?_
 exact rt Tryz.results117 rfl

theorem zjf (x_t : api_Target) (x_s : Str) (R : api_Target × Bool) (w0 : World) (hG : zD w0) (hm : zeK x_t x_s = some R) :
    Calls Tryz.prog 115 #[.agg #[int x_t.Kind, str x_t.Scheme, int x_t.Host.Kind, str x_t.Host.Name, int x_t.Host.Port, str x_t.Path, str x_t.Query, .bool x_t.HasQuery], str x_s] w0 (Ret w0 (fun R => .tuple #[.agg #[int R.1.Kind, str R.1.Scheme, int R.1.Host.Kind, str R.1.Host.Name, int R.1.Host.Port, str R.1.Path, str R.1.Query, .bool R.1.HasQuery], .bool R.2]) R) := by
 rw [zeK] at hm
 have hF : zG [] := zg
 have hO : Dk.Own w0 [] w0 [] := Dk.Own.refl w0
 refine S.enter tb Tryz.func115 rfl Tryz.ntmps115 rfl ?_ hO hm
 refine rw_ rfl fun a w hf hO hm => ?_
 refine zeA (v := .agg #[int x_t.Kind, str x_t.Scheme, int x_t.Host.Kind, str x_t.Host.Name, int x_t.Host.Port, str x_t.Path, str x_t.Query, .bool x_t.HasQuery]) (cs := [int x_t.Kind, str x_t.Scheme, int x_t.Host.Kind, str x_t.Host.Name, int x_t.Host.Port, str x_t.Path, str x_t.Query, .bool x_t.HasQuery]) rfl hf rfl rfl hO fun a b1 w hf hO => ?_
 refine S.op tb ?_ hf hO hm
 refine rw_ rfl fun a w hf hO hm => ?_
 refine zx zgf hf rfl hO fun a b2 w hf hO => ?_
 refine S.op tb ?_ hf hO hm
 refine cl c_152 rfl (fun r4 w hr4 hO => zo6 x_s r4 _ (hG.own hF hO) hr4) fun r4 hr4 => ?_
 refine bi rfl fun s6 hs6 => ?_
 refine rw_ rfl fun a w hf hO hm => ?_
 refine zV (i := 1) (o := 5) (v := str s6) zeB rfl rfl rfl rfl hf rfl rfl hO fun w hO => ?_
 refine S.op tb ?_ hf hO hm
 refine rw_ rfl fun a w hf hO hm => ?_
 refine zV (i := 1) (o := 7) (v := .bool (decide (r4 < (x_s.length : Int)))) sz_4 rfl rfl rfl rfl hf rfl rfl hO fun w hO => ?_
 refine S.op tb ?_ hf hO hm
 refine jn 0 (fun a w => ∃ (s13 : Str), Fits 34 [(2, ptr b1 0), (4, ptr b2 0)] a ∧ Dk.Own w0 [] w [.blk b2 [int 0, str [], int 0, str [], int 0, str [], str [], .bool false] 109, .blk b1 [int x_t.Kind, str x_t.Scheme, int x_t.Host.Kind, str x_t.Host.Name, int x_t.Host.Port, str s6, str s13, .bool (decide (r4 < (x_s.length : Int)))] 109] ∧ zcP x_t x_s r4 s6 s13 = some R) rfl ?_ ?_
 refine vl rfl rfl (fun a w hf hO => zb (o := 7) ag_4 (hO.blkSees (i := 1) rfl) rfl hf rfl) ?_
 refine br rfl (fun hc10 => ?_) fun hc10 => ?_
 refine bi rfl fun i11 hi11 => ?_
 refine bi rfl fun s12 hs12 => ?_
 refine rw_ rfl fun a w hf hO hm => ?_
 refine zV (i := 1) (o := 6) (v := str s12) zeB rfl rfl rfl rfl hf rfl rfl hO fun w hO => ?_
 refine S.op tb ?_ hf hO hm
 exact en rfl fun a w hf hO hm => ⟨s12, hf.sel rfl, hO, hm⟩
 exact en rfl fun a w hf hO hm => ⟨x_t.Query, hf.sel rfl, hO, hm⟩
 rintro a w ⟨s13, hf, hO, hm⟩
 rw [zcP] at hm
 refine S.co tb ?_ hf hO hm
 refine jn 0 (fun a w => ∃ (t17 : Bool), Fits 34 [(4, ptr b2 0), (5, .bool t17)] a ∧ Dk.Own w0 [] w [.blk b2 [int x_t.Kind, str x_t.Scheme, int x_t.Host.Kind, str x_t.Host.Name, int x_t.Host.Port, str s6, str s13, .bool (decide (r4 < (x_s.length : Int)))] 109, .blk b1 [int x_t.Kind, str x_t.Scheme, int x_t.Host.Kind, str x_t.Host.Name, int x_t.Host.Port, str s6, str s13, .bool (decide (r4 < (x_s.length : Int)))] 109] ∧ zdK x_t x_s r4 s6 s13 t17 = some R) rfl ?_ ?_
 refine rc_ rfl fun a w hf hO hm => ?_
 obtain ⟨r14, hr14, hm⟩ := ob hm
 rcases zbN (r14) with hc15 | hc15
 have hm := it hc15 hm
 obtain ⟨r16, hr16, hm⟩ := ob hm
 refine zoP (S := Unit) (E0 := [(2, ptr b1 0), (4, ptr b2 0)]) (by kernel_rfl) (fun k σ w => match k with | 0 => Dk.Own w0 [] w [.blk b2 [int 0, str [], int 0, str [], int 0, str [], str [], .bool false] 109, .blk b1 [int x_t.Kind, str x_t.Scheme, int x_t.Host.Kind, str x_t.Host.Name, int x_t.Host.Port, str s6, str s13, .bool (decide (r4 < (x_s.length : Int)))] 109] | 1 => Dk.Own w0 [] w [.blk b2 [int 0, str [], int 0, str [], int 0, str [], str [], .bool false] 109, .blk b1 [int x_t.Kind, str x_t.Scheme, int x_t.Host.Kind, str x_t.Host.Name, int x_t.Host.Port, str s6, str s13, .bool (decide (r4 < (x_s.length : Int)))] 109] | 2 => Dk.Own w0 [] w [.blk b2 [int 0, str [], int 0, str [], int 0, str [], str [], .bool false] 109, .blk b1 [int x_t.Kind, str x_t.Scheme, int x_t.Host.Kind, str x_t.Host.Name, int x_t.Host.Port, str s6, str s13, .bool (decide (r4 < (x_s.length : Int)))] 109] | _ => Dk.Own w0 [] w [.blk b2 [int x_t.Kind, str x_t.Scheme, int x_t.Host.Kind, str x_t.Host.Name, int x_t.Host.Port, str s6, str s13, .bool (decide (r4 < (x_s.length : Int)))] 109, .blk b1 [int x_t.Kind, str x_t.Scheme, int x_t.Host.Kind, str x_t.Host.Name, int x_t.Host.Port, str s6, str s13, .bool (decide (r4 < (x_s.length : Int)))] 109]) (fun σ => [⟨[(2, ptr b1 0)], some (25, .agg #[int x_t.Kind, str x_t.Scheme, int x_t.Host.Kind, str x_t.Host.Name, int x_t.Host.Port, str s6, str s13, .bool (decide (r4 < (x_s.length : Int)))])⟩, ⟨[(2, ptr b1 0)], some (26, ptr b1 5)⟩, ⟨[(26, ptr b1 5)], some (27, str s6)⟩, ⟨[(27, str s6)], some (28, .bool r14)⟩, ⟨[(28, .bool r14)], some (29, .bool r14)⟩, ⟨[(2, ptr b1 0), (29, .bool r14)], some (30, ptr b1 6)⟩, ⟨[(30, ptr b1 6), (29, .bool r14)], some (31, str s13)⟩, ⟨[(31, str s13), (29, .bool r14)], some (32, .bool r16)⟩, ⟨[(29, .bool r14), (32, .bool r16)], some (33, .bool r16)⟩, ⟨[(4, ptr b2 0), (25, .agg #[int x_t.Kind, str x_t.Scheme, int x_t.Host.Kind, str x_t.Host.Name, int x_t.Host.Port, str s6, str s13, .bool (decide (r4 < (x_s.length : Int)))])], none⟩, ⟨[(33, .bool r16)], some (5, .bool r16)⟩]) () [3, 7, 9] [] ⟨zeR rfl rfl, zeR rfl rfl, zeR rfl rfl, zeR rfl rfl, zeR rfl rfl, zlM (u := fun σ => r14) rfl (fun σ => rfl) rfl (fun σ => rfl) (fun σ => by rw [hc15] <;> rfl), zlM (u := fun σ => r14) rfl (fun σ => rfl) rfl (fun σ => rfl) (fun σ => by rw [hc15] <;> rfl), zlM (u := fun σ => r14) rfl (fun σ => rfl) rfl (fun σ => rfl) (fun σ => by rw [hc15] <;> rfl), zeR rfl rfl, zeR rfl rfl, zeR rfl rfl, trivial⟩ (fun σ => ⟨.inl rfl, .inl rfl, .inl rfl, .inl rfl, .inl rfl, .inl rfl, .inl rfl, .inl rfl, .inl rfl, .inl rfl, .inl rfl, trivial⟩) (fun _ => rfl) (fun _ => rfl) (fun _ => rfl) rfl rfl (by decide) rfl hO.drew (hf.cons rfl (hf.cons rfl hf.nil)) (fun σ => ⟨⟨rfl, trivial⟩, ⟨rfl, trivial⟩, ⟨rfl, trivial⟩, ⟨rfl, trivial⟩, ⟨rfl, trivial⟩, ⟨rfl, rfl, trivial⟩, ⟨rfl, rfl, trivial⟩, ⟨rfl, rfl, trivial⟩, ⟨rfl, rfl, trivial⟩, ⟨rfl, rfl, trivial⟩, ⟨rfl, trivial⟩, trivial⟩) ⟨.inr ⟨rfl, zk rfl (fun σ => rfl) (fun σ => rfl) (fun σ a w k hk hlo hup hst hf => match k, hk, hlo, hup, hst, hf with | 0, _, _, _, hst, hf => have hO : Dk.Own w0 [] w _ := hst; zu (o := 0) (vs := [int x_t.Kind, str x_t.Scheme, int x_t.Host.Kind, str x_t.Host.Name, int x_t.Host.Port, str s6, str s13, .bool (decide (r4 < (x_s.length : Int)))]) zad zB (hO.blkSees (i := 1) rfl) rfl rfl hf rfl | 1, _, _, _, hst, hf => have hO : Dk.Own w0 [] w _ := hst; zu (o := 0) (vs := [int x_t.Kind, str x_t.Scheme, int x_t.Host.Kind, str x_t.Host.Name, int x_t.Host.Port, str s6, str s13, .bool (decide (r4 < (x_s.length : Int)))]) zad zB (hO.blkSees (i := 1) rfl) rfl rfl hf rfl | 2, _, _, _, hst, hf => have hO : Dk.Own w0 [] w _ := hst; zu (o := 0) (vs := [int x_t.Kind, str x_t.Scheme, int x_t.Host.Kind, str x_t.Host.Name, int x_t.Host.Port, str s6, str s13, .bool (decide (r4 < (x_s.length : Int)))]) zad zB (hO.blkSees (i := 1) rfl) rfl rfl hf rfl | 3, _, _, _, hst, hf => have hO : Dk.Own w0 [] w _ := hst; zu (o := 0) (vs := [int x_t.Kind, str x_t.Scheme, int x_t.Host.Kind, str x_t.Host.Name, int x_t.Host.Port, str s6, str s13, .bool (decide (r4 < (x_s.length : Int)))]) zad zB (hO.blkSees (i := 1) rfl) rfl rfl hf rfl | k + 4, hk, _, _, _, _ => absurd hk (by simp))⟩, .inr ⟨rfl, zk rfl (fun σ => rfl) (fun σ => rfl) (fun σ a w k _ _ _ _ hf => zao znw hf rfl)⟩, .inr ⟨rfl, zk rfl (fun σ => rfl) (fun σ => rfl) (fun σ a w k hk hlo hup hst hf => match k, hk, hlo, hup, hst, hf with | 0, _, _, _, hst, hf => have hO : Dk.Own w0 [] w _ := hst; zb (o := 5) za6 (hO.blkSees (i := 1) rfl) rfl hf rfl | 1, _, _, _, hst, hf => have hO : Dk.Own w0 [] w _ := hst; zb (o := 5) za6 (hO.blkSees (i := 1) rfl) rfl hf rfl | 2, _, _, _, hst, hf => have hO : Dk.Own w0 [] w _ := hst; zb (o := 5) za6 (hO.blkSees (i := 1) rfl) rfl hf rfl | 3, _, _, _, hst, hf => have hO : Dk.Own w0 [] w _ := hst; zb (o := 5) za6 (hO.blkSees (i := 1) rfl) rfl hf rfl | k + 4, hk, _, _, _, _ => absurd hk (by simp))⟩, .inr ⟨rfl, ziQ rfl (fun σ => rfl) (fun σ => rfl) rfl (fun σ a w (_ : _) hf => zt c_153 hf (vs := [str s6]) rfl) (fun σ w (hO : Dk.Own w0 [] w _) => (zkO s6 r14 _ (hG.own hF hO) hr14).mono fun e w' h => by obtain ⟨he, hb⟩ := h; exact ⟨(), he, hO.grow hb, .inr rfl, .inr rfl, .inr rfl, .inr rfl, .inr rfl, .inr rfl, .inr rfl, .inr rfl, .inr rfl, .inr rfl, .inr rfl, trivial⟩)⟩, .inr ⟨rfl, zk rfl (fun σ => rfl) (fun σ => rfl) (fun σ a w k _ _ _ _ hf => zp hf rfl)⟩, .inr ⟨rfl, zk rfl (fun σ => rfl) (fun σ => rfl) (fun σ a w k _ _ _ _ hf => zao zqs hf rfl)⟩, .inr ⟨rfl, zk rfl (fun σ => rfl) (fun σ => rfl) (fun σ a w k hk hlo hup hst hf => match k, hk, hlo, hup, hst, hf with | 0, _, _, _, hst, hf => have hO : Dk.Own w0 [] w _ := hst; zb (o := 6) za6 (hO.blkSees (i := 1) rfl) rfl hf rfl | 1, _, _, _, hst, hf => have hO : Dk.Own w0 [] w _ := hst; zb (o := 6) za6 (hO.blkSees (i := 1) rfl) rfl hf rfl | 2, _, _, _, hst, hf => have hO : Dk.Own w0 [] w _ := hst; zb (o := 6) za6 (hO.blkSees (i := 1) rfl) rfl hf rfl | 3, _, _, _, hst, hf => have hO : Dk.Own w0 [] w _ := hst; zb (o := 6) za6 (hO.blkSees (i := 1) rfl) rfl hf rfl | k + 4, hk, _, _, _, _ => absurd hk (by simp))⟩, .inr ⟨rfl, ziQ rfl (fun σ => rfl) (fun σ => rfl) rfl (fun σ a w (_ : _) hf => zt c_117 hf (vs := [str s13]) rfl) (fun σ w (hO : Dk.Own w0 [] w _) => (zj7 s13 r16 _ (hG.own hF hO) hr16).mono fun e w' h => by obtain ⟨he, hb⟩ := h; exact ⟨(), he, hO.grow hb, .inr rfl, .inr rfl, .inr rfl, .inr rfl, .inr rfl, .inr rfl, .inr rfl, .inr rfl, .inr rfl, .inr rfl, .inr rfl, trivial⟩)⟩, .inr ⟨rfl, zk rfl (fun σ => rfl) (fun σ => rfl) (fun σ a w k _ _ _ _ hf => zaF hf rfl hc15 rfl)⟩, .inr ⟨rfl, zgp rfl (fun σ => rfl) (fun σ => rfl) rfl (fun σ w (hO : Dk.Own w0 [] w _) => by obtain ⟨w', hO', hr⟩ := zgh (x := (.tmp 4)) (y := (.tmp 25)) (E := [(4, ptr b2 0), (25, .agg #[int x_t.Kind, str x_t.Scheme, int x_t.Host.Kind, str x_t.Host.Name, int x_t.Host.Port, str s6, str s13, .bool (decide (r4 < (x_s.length : Int)))])]) (i := 0) (n := 8) (vs := [int x_t.Kind, str x_t.Scheme, int x_t.Host.Kind, str x_t.Host.Name, int x_t.Host.Port, str s6, str s13, .bool (decide (r4 < (x_s.length : Int)))]) zB rfl rfl rfl (by simp [Value.oneCell']) hO rfl rfl; exact ⟨(), w', hO', ⟨.inr rfl, .inr rfl, .inr rfl, .inr rfl, .inr rfl, .inr rfl, .inr rfl, .inr rfl, .inr rfl, .inr rfl, .inr rfl, trivial⟩, hr⟩)⟩, .inr ⟨rfl, zk rfl (fun σ => rfl) (fun σ => rfl) (fun σ a w k _ _ _ _ hf => zaE hf rfl)⟩, trivial⟩ ?_
 rintro _ a w hf hO
 have hO : Dk.Own w0 [] w _ := hO
 have hf : Fits 34 [(4, ptr b2 0), (5, .bool r16)] a := (hf.cons rfl (hf.cons rfl hf.nil))
 refine S.no tb ?_ hf hO hm
 exact en rfl fun a w hf hO hm => ⟨r16, hf.sel rfl, hO, hm⟩
 have hm := ie hc15 hm
 refine zoP (S := Unit) (E0 := [(2, ptr b1 0), (4, ptr b2 0)]) (by kernel_rfl) (fun k σ w => match k with | 0 => Dk.Own w0 [] w [.blk b2 [int 0, str [], int 0, str [], int 0, str [], str [], .bool false] 109, .blk b1 [int x_t.Kind, str x_t.Scheme, int x_t.Host.Kind, str x_t.Host.Name, int x_t.Host.Port, str s6, str s13, .bool (decide (r4 < (x_s.length : Int)))] 109] | 1 => Dk.Own w0 [] w [.blk b2 [int 0, str [], int 0, str [], int 0, str [], str [], .bool false] 109, .blk b1 [int x_t.Kind, str x_t.Scheme, int x_t.Host.Kind, str x_t.Host.Name, int x_t.Host.Port, str s6, str s13, .bool (decide (r4 < (x_s.length : Int)))] 109] | _ => Dk.Own w0 [] w [.blk b2 [int x_t.Kind, str x_t.Scheme, int x_t.Host.Kind, str x_t.Host.Name, int x_t.Host.Port, str s6, str s13, .bool (decide (r4 < (x_s.length : Int)))] 109, .blk b1 [int x_t.Kind, str x_t.Scheme, int x_t.Host.Kind, str x_t.Host.Name, int x_t.Host.Port, str s6, str s13, .bool (decide (r4 < (x_s.length : Int)))] 109]) (fun σ => [⟨[(2, ptr b1 0)], some (25, .agg #[int x_t.Kind, str x_t.Scheme, int x_t.Host.Kind, str x_t.Host.Name, int x_t.Host.Port, str s6, str s13, .bool (decide (r4 < (x_s.length : Int)))])⟩, ⟨[(2, ptr b1 0)], some (26, ptr b1 5)⟩, ⟨[(26, ptr b1 5)], some (27, str s6)⟩, ⟨[(27, str s6)], some (28, .bool r14)⟩, ⟨[(28, .bool r14)], some (29, .bool r14)⟩, ⟨[(29, .bool r14)], some (30, undef)⟩, ⟨[(29, .bool r14)], some (31, undef)⟩, ⟨[(29, .bool r14)], some (32, undef)⟩, ⟨[(29, .bool r14), (32, undef)], some (33, .bool false)⟩, ⟨[(4, ptr b2 0), (25, .agg #[int x_t.Kind, str x_t.Scheme, int x_t.Host.Kind, str x_t.Host.Name, int x_t.Host.Port, str s6, str s13, .bool (decide (r4 < (x_s.length : Int)))])], none⟩, ⟨[(33, .bool false)], some (5, .bool false)⟩]) () [3, 9] [5, 6, 7] ⟨zeR rfl rfl, zeR rfl rfl, zeR rfl rfl, zeR rfl rfl, zeR rfl rfl, zlM (u := fun σ => r14) rfl (fun σ => rfl) rfl (fun σ => rfl) (fun σ => by rw [hc15] <;> rfl), zlM (u := fun σ => r14) rfl (fun σ => rfl) rfl (fun σ => rfl) (fun σ => by rw [hc15] <;> rfl), zlM (u := fun σ => r14) rfl (fun σ => rfl) rfl (fun σ => rfl) (fun σ => by rw [hc15] <;> rfl), zeR rfl rfl, zeR rfl rfl, zeR rfl rfl, trivial⟩ (fun σ => ⟨.inl rfl, .inl rfl, .inl rfl, .inl rfl, .inl rfl, .inr ⟨rfl, rfl⟩, .inr ⟨rfl, rfl⟩, .inr ⟨rfl, rfl⟩, .inl rfl, .inl rfl, .inl rfl, trivial⟩) (fun _ => rfl) (fun _ => rfl) (fun _ => rfl) rfl rfl (by decide) rfl hO.drew (hf.cons rfl (hf.cons rfl hf.nil)) (fun σ => ⟨⟨rfl, trivial⟩, ⟨rfl, trivial⟩, ⟨rfl, trivial⟩, ⟨rfl, trivial⟩, ⟨rfl, trivial⟩, ⟨rfl, trivial⟩, ⟨rfl, trivial⟩, ⟨rfl, trivial⟩, ⟨rfl, rfl, trivial⟩, ⟨rfl, rfl, trivial⟩, ⟨rfl, trivial⟩, trivial⟩) ⟨.inr ⟨rfl, zk rfl (fun σ => rfl) (fun σ => rfl) (fun σ a w k hk hlo hup hst hf => match k, hk, hlo, hup, hst, hf with | 0, _, _, _, hst, hf => have hO : Dk.Own w0 [] w _ := hst; zu (o := 0) (vs := [int x_t.Kind, str x_t.Scheme, int x_t.Host.Kind, str x_t.Host.Name, int x_t.Host.Port, str s6, str s13, .bool (decide (r4 < (x_s.length : Int)))]) zad zB (hO.blkSees (i := 1) rfl) rfl rfl hf rfl | 1, _, _, _, hst, hf => have hO : Dk.Own w0 [] w _ := hst; zu (o := 0) (vs := [int x_t.Kind, str x_t.Scheme, int x_t.Host.Kind, str x_t.Host.Name, int x_t.Host.Port, str s6, str s13, .bool (decide (r4 < (x_s.length : Int)))]) zad zB (hO.blkSees (i := 1) rfl) rfl rfl hf rfl | 2, _, _, _, hst, hf => have hO : Dk.Own w0 [] w _ := hst; zu (o := 0) (vs := [int x_t.Kind, str x_t.Scheme, int x_t.Host.Kind, str x_t.Host.Name, int x_t.Host.Port, str s6, str s13, .bool (decide (r4 < (x_s.length : Int)))]) zad zB (hO.blkSees (i := 1) rfl) rfl rfl hf rfl | k + 3, hk, _, _, _, _ => absurd hk (by simp))⟩, .inr ⟨rfl, zk rfl (fun σ => rfl) (fun σ => rfl) (fun σ a w k _ _ _ _ hf => zao znw hf rfl)⟩, .inr ⟨rfl, zk rfl (fun σ => rfl) (fun σ => rfl) (fun σ a w k hk hlo hup hst hf => match k, hk, hlo, hup, hst, hf with | 0, _, _, _, hst, hf => have hO : Dk.Own w0 [] w _ := hst; zb (o := 5) za6 (hO.blkSees (i := 1) rfl) rfl hf rfl | 1, _, _, _, hst, hf => have hO : Dk.Own w0 [] w _ := hst; zb (o := 5) za6 (hO.blkSees (i := 1) rfl) rfl hf rfl | 2, _, _, _, hst, hf => have hO : Dk.Own w0 [] w _ := hst; zb (o := 5) za6 (hO.blkSees (i := 1) rfl) rfl hf rfl | k + 3, hk, _, _, _, _ => absurd hk (by simp))⟩, .inr ⟨rfl, ziQ rfl (fun σ => rfl) (fun σ => rfl) rfl (fun σ a w (_ : _) hf => zt c_153 hf (vs := [str s6]) rfl) (fun σ w (hO : Dk.Own w0 [] w _) => (zkO s6 r14 _ (hG.own hF hO) hr14).mono fun e w' h => by obtain ⟨he, hb⟩ := h; exact ⟨(), he, hO.grow hb, .inr rfl, .inr rfl, .inr rfl, .inr rfl, .inr rfl, .inr rfl, .inr rfl, .inr rfl, .inr rfl, .inr rfl, .inr rfl, trivial⟩)⟩, .inr ⟨rfl, zk rfl (fun σ => rfl) (fun σ => rfl) (fun σ a w k _ _ _ _ hf => zp hf rfl)⟩, .inl rfl, .inl rfl, .inl rfl, .inr ⟨rfl, zk rfl (fun σ => rfl) (fun σ => rfl) (fun σ a w k _ _ _ _ hf => zd1 hf rfl hc15 rfl)⟩, .inr ⟨rfl, zgp rfl (fun σ => rfl) (fun σ => rfl) rfl (fun σ w (hO : Dk.Own w0 [] w _) => by obtain ⟨w', hO', hr⟩ := zgh (x := (.tmp 4)) (y := (.tmp 25)) (E := [(4, ptr b2 0), (25, .agg #[int x_t.Kind, str x_t.Scheme, int x_t.Host.Kind, str x_t.Host.Name, int x_t.Host.Port, str s6, str s13, .bool (decide (r4 < (x_s.length : Int)))])]) (i := 0) (n := 8) (vs := [int x_t.Kind, str x_t.Scheme, int x_t.Host.Kind, str x_t.Host.Name, int x_t.Host.Port, str s6, str s13, .bool (decide (r4 < (x_s.length : Int)))]) zB rfl rfl rfl (by simp [Value.oneCell']) hO rfl rfl; exact ⟨(), w', hO', ⟨.inr rfl, .inr rfl, .inr rfl, .inr rfl, .inr rfl, .inr rfl, .inr rfl, .inr rfl, .inr rfl, .inr rfl, .inr rfl, trivial⟩, hr⟩)⟩, .inr ⟨rfl, zk rfl (fun σ => rfl) (fun σ => rfl) (fun σ a w k _ _ _ _ hf => zaE hf rfl)⟩, trivial⟩ ?_
 rintro _ a w hf hO
 have hO : Dk.Own w0 [] w _ := hO
 have hf : Fits 34 [(4, ptr b2 0), (5, .bool false)] a := (hf.cons rfl (hf.cons rfl hf.nil))
 refine S.no tb ?_ hf hO hm
 exact en rfl fun a w hf hO hm => ⟨false, hf.sel rfl, hO, hm⟩
 rintro a w ⟨t17, hf, hO, hm⟩
 rw [zdK] at hm
 refine S.co tb ?_ hf hO hm
 refine re_ rfl fun a w hf hO hm => ?_
 obtain rfl := Option.some.inj hm
 exact zf Tryz.results115 hf (.cell rfl (zc (n := 8) (vs := [int x_t.Kind, str x_t.Scheme, int x_t.Host.Kind, str x_t.Host.Name, int x_t.Host.Port, str s6, str s13, .bool (decide (r4 < (x_s.length : Int)))]) zad zB rfl ((hO.blkSees (i := 0) rfl).cells (o := 0) (n := 8) rfl)) (.tmp rfl .nil)) ⟨rfl, hO.below⟩

theorem ziB (x_s : Str) (R : Str) (w0 : World) (hG : zD w0) (hm : zfe x_s = some R) :
    Calls Tryz.prog 116 #[str x_s] w0 (Ret w0 (fun R => str R) R) := by
 rw [zfe] at hm
 have hF : zG [] := zg
 have hO : Dk.Own w0 [] w0 [] := Dk.Own.refl w0
 refine S.enter tb Tryz.func116 rfl Tryz.ntmps116 rfl ?_ hO hm
 refine lp (fun k a w => ∃ (s4 : Str) (i5 : Int), Fits 36 [(0, str x_s), (3, str s4), (4, int i5)] a ∧ Dk.Own w0 [] w [] ∧ zbk x_s k s4 i5 = some R) rfl (fun a w hf hO hm => ⟨[], 0, hf.sel rfl, hO, hm⟩) ?_
 rintro n1 a w ⟨s4, i5, hf, hO, hm⟩
 obtain _ | n1 := n1
 rw [zbk] at hm
 cases hm
 rw [zbk] at hm
 refine S.co tb ?_ hf hO hm
 refine br rfl (fun hc7 => ?_) fun hc7 => ?_
 refine bi rfl fun i9 hi9 => ?_
 refine bi rfl fun s10 hs10 => ?_
 refine lp (fun k a w => ∃ (s13 : Str) (i14 : Int), Fits 36 [(0, str x_s), (3, str s4), (4, int i5), (5, str s13), (6, int i14)] a ∧ Dk.Own w0 [] w [] ∧ zbj (zbk x_s n1) x_s s4 i5 k s13 i14 = some R) rfl (fun a w hf hO hm => ⟨s10, 0, hf.sel rfl, hO, hm⟩) ?_
 rintro n2 a w ⟨s13, i14, hf, hO, hm⟩
 obtain _ | n2 := n2
 rw [zbj] at hm
 cases hm
 rw [zbj] at hm
 refine S.co tb ?_ hf hO hm
 refine br rfl (fun hc16 => ?_) fun hc16 => ?_
 refine jn 8 (fun a w => ∃ (s24 : Str), Fits 36 [(0, str x_s), (3, str s4), (4, int i5), (5, str s24), (6, int i14)] a ∧ Dk.Own w0 [] w [] ∧ ze5 (zbj (zbk x_s n1) x_s s4 i5 n2) i14 s24 = some R) rfl ?_ ?_
 refine rc_ rfl fun a w hf hO hm => ?_
 refine zfT (by kernel_rfl) (by kernel_rfl) hO ?_
 refine zn (fun w hO => zp hf rfl) rfl hf rfl rfl fun a hf => ?_
 obtain ⟨b18, hb18, hm⟩ := ob hm
 refine zn (fun w hO => zli (l := [65, 66, 67, 68, 69, 70, 71, 72, 73, 74, 75, 76, 77, 78, 79, 80, 81, 82, 83, 84, 85, 86, 87, 88, 89, 90]) Tryz.underlying9 hf rfl rfl hb18) rfl hf rfl rfl fun a hf => ?_
 refine zn (fun w hO => zp hf rfl) rfl hf rfl rfl fun a hf => ?_
 refine zn (fun w hO => zp hf rfl) rfl hf rfl rfl fun a hf => ?_
 obtain ⟨b19, hb19, hm⟩ := ob hm
 refine zn (fun w hO => zli (l := x_s) Tryz.underlying9 hf rfl rfl hb19) rfl hf rfl rfl fun a hf => ?_
 refine zn (fun w hO => zU (b := b18) (c := b19) hf rfl rfl) rfl hf rfl rfl fun a hf => ?_
 refine wpQuiet_nil ?_
 intro w hO
 refine S.no tb ?_ hf hO hm
 refine br rfl (fun hc21 => ?_) fun hc21 => ?_
 refine bi rfl fun i22 hi22 => ?_
 refine bi rfl fun s23 hs23 => ?_
 exact en rfl fun a w hf hO hm => ⟨s23, hf.sel rfl, hO, hm⟩
 exact en rfl fun a w hf hO hm => ⟨s13, hf.sel rfl, hO, hm⟩
 rintro a w ⟨s24, hf, hO, hm⟩
 rw [ze5] at hm
 refine S.co tb ?_ hf hO hm
 refine bi rfl fun i25 hi25 => ?_
 exact en rfl fun a w hf hO hm => ⟨_, Nat.lt_succ_self _, s24, i25, hf.sel rfl, hO, hm⟩
 refine bi rfl fun s27 hs27 => ?_
 refine bi rfl fun i29 hi29 => ?_
 exact en rfl fun a w hf hO hm => ⟨_, Nat.lt_succ_self _, s27, i29, hf.sel rfl, hO, hm⟩
 exact rt Tryz.results116 rfl

theorem zj8 (x_a0 : Str) (x_a1 : Str) (R : api_Target × Int) (w0 : World) (hG : zD w0) (hm : zgC x_a0 x_a1 = some R) :
    Calls Tryz.prog 69 #[str x_a0, str x_a1] w0 (Ret w0 (fun R => .tuple #[.agg #[int R.1.Kind, str R.1.Scheme, int R.1.Host.Kind, str R.1.Host.Name, int R.1.Host.Port, str R.1.Path, str R.1.Query, .bool R.1.HasQuery], int R.2]) R) := by
 rw [zgC] at hm
 have hF : zG [] := zg
 have hO : Dk.Own w0 [] w0 [] := Dk.Own.refl w0
 refine S.enter tb Tryz.func69 rfl Tryz.ntmps69 rfl ?_ hO hm
 refine rw_ rfl fun a w hf hO hm => ?_
 refine zx zgf hf rfl hO fun a b1 w hf hO => ?_
 refine S.op tb ?_ hf hO hm
 refine br rfl (fun hc4 => ?_) fun hc4 => ?_
 refine cl c_80 rfl (fun r5 w hr5 hO => zhX x_a1 r5 _ (hG.own hF hO) hr5) fun r5 hr5 => ?_
 refine rw_ rfl fun a w hf hO hm => ?_
 refine zx zfU hf rfl hO fun a b6 w hf hO => ?_
 refine S.op tb ?_ hf hO hm
 refine rw_ rfl fun a w hf hO hm => ?_
 refine zd (i := 0) (n := 3) zW rfl rfl rfl (by simp [Value.oneCell']) hf rfl rfl hO fun w hO => ?_
 refine S.op tb ?_ hf hO hm
 refine jn 2 (fun a w => ∃ (t9 : Bool), Fits 137 [(4, ptr b1 0), (6, ptr b6 0), (30, .bool t9)] a ∧ Dk.Own w0 [] w [.blk b6 [int r5.1.Kind, str r5.1.Name, int r5.1.Port] 107, .blk b1 [int 0, str [], int 0, str [], int 0, str [], str [], .bool false] 109] ∧ zen r5 t9 = some R) rfl ?_ ?_
 refine br rfl (fun hc8 => ?_) fun hc8 => ?_
 exact en rfl fun a w hf hO hm => ⟨true, hf.sel rfl, hO, hm⟩
 refine vl rfl rfl (fun a w hf hO => zb (o := 2) zfz (hO.blkSees (i := 0) rfl) rfl hf rfl) ?_
 exact en rfl fun a w hf hO hm => ⟨decide (r5.1.Port < 0), hf.sel rfl, hO, hm⟩
 rintro a w ⟨t9, hf, hO, hm⟩
 rw [zen] at hm
 refine S.co tb ?_ hf hO hm
 refine br rfl (fun hc10 => ?_) fun hc10 => ?_
 refine vl rfl rfl (fun a w hf hO => zo (vs := []) (v := .agg #[int 0, str [], int 0, str [], int 0, str [], str [], .bool false]) hf rfl (by kernel_rfl)) ?_
 refine rw_ rfl fun a w hf hO hm => ?_
 refine zd (i := 1) (n := 8) zB rfl rfl rfl (by simp [Value.oneCell']) hf rfl rfl hO fun w hO => ?_
 refine S.op tb ?_ hf hO hm
 refine re_ rfl fun a w hf hO hm => ?_
 obtain rfl := Option.some.inj hm
 exact zf Tryz.results69 hf (.cell rfl (zc (n := 8) (vs := [int 0, str [], int 0, str [], int 0, str [], str [], .bool false]) zad zB rfl ((hO.blkSees (i := 1) rfl).cells (o := 0) (n := 8) rfl)) (.tmp rfl .nil)) ⟨rfl, hO.below⟩
 refine vl rfl rfl (fun a w hf hO => zu (o := 0) (vs := [int r5.1.Kind, str r5.1.Name, int r5.1.Port]) zcI zW (hO.blkSees (i := 0) rfl) rfl rfl hf rfl) ?_
 refine vl rfl rfl (fun a w hf hO => zo (vs := [(0, int 3), (2, .agg #[int r5.1.Kind, str r5.1.Name, int r5.1.Port])]) (v := .agg #[int 3, str [], int r5.1.Kind, str r5.1.Name, int r5.1.Port, str [], str [], .bool false]) hf rfl (by kernel_rfl)) ?_
 refine rw_ rfl fun a w hf hO hm => ?_
 refine zd (i := 1) (n := 8) zB rfl rfl rfl (by simp [Value.oneCell']) hf rfl rfl hO fun w hO => ?_
 refine S.op tb ?_ hf hO hm
 refine re_ rfl fun a w hf hO hm => ?_
 obtain rfl := Option.some.inj hm
 exact zf Tryz.results69 hf (.cell rfl (zc (n := 8) (vs := [int 3, str [], int r5.1.Kind, str r5.1.Name, int r5.1.Port, str [], str [], .bool false]) zad zB rfl ((hO.blkSees (i := 1) rfl).cells (o := 0) (n := 8) rfl)) (.tmp rfl .nil)) ⟨rfl, hO.below⟩
 refine jn 1 (fun a w => ∃ (t16 : Bool), Fits 137 [(1, str x_a1), (4, ptr b1 0), (39, .bool t16)] a ∧ Dk.Own w0 [] w [.blk b1 [int 0, str [], int 0, str [], int 0, str [], str [], .bool false] 109] ∧ zbZ x_a1 t16 = some R) rfl ?_ ?_
 refine br rfl (fun hc15 => ?_) fun hc15 => ?_
 exact en rfl fun a w hf hO hm => ⟨x_a0 == [79, 80, 84, 73, 79, 78, 83], hf.sel rfl, hO, hm⟩
 exact en rfl fun a w hf hO hm => ⟨false, hf.sel rfl, hO, hm⟩
 rintro a w ⟨t16, hf, hO, hm⟩
 rw [zbZ] at hm
 refine S.co tb ?_ hf hO hm
 refine br rfl (fun hc17 => ?_) fun hc17 => ?_
 refine vl rfl rfl (fun a w hf hO => zo (vs := [(0, int 4)]) (v := .agg #[int 4, str [], int 0, str [], int 0, str [], str [], .bool false]) hf rfl (by kernel_rfl)) ?_
 refine rw_ rfl fun a w hf hO hm => ?_
 refine zd (i := 0) (n := 8) zB rfl rfl rfl (by simp [Value.oneCell']) hf rfl rfl hO fun w hO => ?_
 refine S.op tb ?_ hf hO hm
 refine re_ rfl fun a w hf hO hm => ?_
 obtain rfl := Option.some.inj hm
 exact zf Tryz.results69 hf (.cell rfl (zc (n := 8) (vs := [int 4, str [], int 0, str [], int 0, str [], str [], .bool false]) zad zB rfl ((hO.blkSees (i := 0) rfl).cells (o := 0) (n := 8) rfl)) (.tmp rfl .nil)) ⟨rfl, hO.below⟩
 refine vl rfl rfl (fun a w hf hO => zo (vs := [(0, int 1)]) (v := .agg #[int 1, str [], int 0, str [], int 0, str [], str [], .bool false]) hf rfl (by kernel_rfl)) ?_
 refine cl c_115 rfl (fun r20 w hr20 hO => zjf ((⟨1, [], (⟨0, [], 0⟩ : api_Host), [], [], false⟩ : api_Target)) x_a1 r20 _ (hG.own hF hO) hr20) fun r20 hr20 => ?_
 refine rw_ rfl fun a w hf hO hm => ?_
 refine zx zgf hf rfl hO fun a b21 w hf hO => ?_
 refine S.op tb ?_ hf hO hm
 refine rw_ rfl fun a w hf hO hm => ?_
 refine zd (i := 0) (n := 8) zB rfl rfl rfl (by simp [Value.oneCell']) hf rfl rfl hO fun w hO => ?_
 refine S.op tb ?_ hf hO hm
 refine br rfl (fun hc24 => ?_) fun hc24 => ?_
 refine vl rfl rfl (fun a w hf hO => zu (o := 0) (vs := [int r20.1.Kind, str r20.1.Scheme, int r20.1.Host.Kind, str r20.1.Host.Name, int r20.1.Host.Port, str r20.1.Path, str r20.1.Query, .bool r20.1.HasQuery]) zad zB (hO.blkSees (i := 0) rfl) rfl rfl hf rfl) ?_
 refine rw_ rfl fun a w hf hO hm => ?_
 refine zd (i := 1) (n := 8) zB rfl rfl rfl (by simp [Value.oneCell']) hf rfl rfl hO fun w hO => ?_
 refine S.op tb ?_ hf hO hm
 refine re_ rfl fun a w hf hO hm => ?_
 obtain rfl := Option.some.inj hm
 exact zf Tryz.results69 hf (.cell rfl (zc (n := 8) (vs := [int r20.1.Kind, str r20.1.Scheme, int r20.1.Host.Kind, str r20.1.Host.Name, int r20.1.Host.Port, str r20.1.Path, str r20.1.Query, .bool r20.1.HasQuery]) zad zB rfl ((hO.blkSees (i := 1) rfl).cells (o := 0) (n := 8) rfl)) (.tmp rfl .nil)) ⟨rfl, hO.below⟩
 refine rw_ rfl fun a w hf hO hm => ?_
 refine zS (vs := [(0, str [104, 116, 116, 112]), (1, str [104, 116, 116, 112, 115])]) (cs := [str [104, 116, 116, 112], str [104, 116, 116, 112, 115]]) (e := 9) (sz := 1) hf rfl rfl (fun w => by kernel_rfl) rfl rfl hO fun a b27 w hf hO => ?_
 refine S.op tb ?_ hf hO hm
 refine lp (fun k a w => ∃ (s29 : Str) (i30 : Int), Fits 137 [(1, str s29), (4, ptr b1 0), (49, .slice (some ⟨b27, 0, none⟩) (([[104, 116, 116, 112], [104, 116, 116, 112, 115]] : List Str).length) 2), (50, int ((([[104, 116, 116, 112], [104, 116, 116, 112, 115]] : List Str).length : Int))), (51, int i30)] a ∧ Dk.Own w0 [] w [.row (.slice (some ⟨b27, 0, none⟩) (([[104, 116, 116, 112], [104, 116, 116, 112, 115]] : List Str).length) 2) 9 1 (([[104, 116, 116, 112], [104, 116, 116, 112, 115]] : List Str).length) (cells zj ([[104, 116, 116, 112], [104, 116, 116, 112, 115]] : List Str)), .blk b21 [int r20.1.Kind, str r20.1.Scheme, int r20.1.Host.Kind, str r20.1.Host.Name, int r20.1.Host.Port, str r20.1.Path, str r20.1.Query, .bool r20.1.HasQuery] 109, .blk b1 [int 0, str [], int 0, str [], int 0, str [], str [], .bool false] 109] ∧ zam k s29 i30 = some R) rfl (fun a w hf hO hm => ⟨x_a1, 0, hf.sel rfl, hO, hm⟩) ?_
 rintro n3 a w ⟨s29, i30, hf, hO, hm⟩
 obtain _ | n3 := n3
 rw [zam] at hm
 cases hm
 rw [zam] at hm
 refine S.co tb ?_ hf hO hm
 refine br rfl (fun hc32 => ?_) fun hc32 => ?_
 refine rw_ rfl fun a w hf hO hm => ?_
 obtain ⟨x34, hx34, hm⟩ := ob hm
 obtain ⟨b35, o36, hix34, hSx34, hAx34⟩ := zae (enc := zj) (sz := 1) (xs := ([[104, 116, 116, 112], [104, 116, 116, 112, 115]] : List Str)) 31 Tryz.underlying31 zeB (by decide) (fun _ => rfl) hO (i := 0) rfl hx34
 refine zaL (zw hix34 hf rfl rfl) rfl hf rfl rfl fun a hf => ?_
 refine S.op tb ?_ hf hO hm
 refine vl rfl rfl (fun a w hf hO => zb (o := 0) za6 (hSx34 _ (hO.rowSees (i := 0) rfl)) rfl hf rfl) ?_
 refine bi rfl fun i38 hi38 => ?_
 refine jn 6 (fun a w => ∃ (t44 : Bool), Fits 137 [(1, str s29), (4, ptr b1 0), (11, str x34), (12, int i38), (49, .slice (some ⟨b27, 0, none⟩) (([[104, 116, 116, 112], [104, 116, 116, 112, 115]] : List Str).length) 2), (50, int ((([[104, 116, 116, 112], [104, 116, 116, 112, 115]] : List Str).length : Int))), (51, int i30), (70, .bool t44)] a ∧ Dk.Own w0 [] w [.row (.slice (some ⟨b27, 0, none⟩) (([[104, 116, 116, 112], [104, 116, 116, 112, 115]] : List Str).length) 2) 9 1 (([[104, 116, 116, 112], [104, 116, 116, 112, 115]] : List Str).length) (cells zj ([[104, 116, 116, 112], [104, 116, 116, 112, 115]] : List Str)), .blk b21 [int r20.1.Kind, str r20.1.Scheme, int r20.1.Host.Kind, str r20.1.Host.Name, int r20.1.Host.Port, str r20.1.Path, str r20.1.Query, .bool r20.1.HasQuery] 109, .blk b1 [int 0, str [], int 0, str [], int 0, str [], str [], .bool false] 109] ∧ zep (zam n3) s29 i30 x34 i38 t44 = some R) rfl ?_ ?_
 refine br rfl (fun hc40 => ?_) fun hc40 => ?_
 exact en rfl fun a w hf hO hm => ⟨true, hf.sel rfl, hO, hm⟩
 refine bi rfl fun s41 hs41 => ?_
 refine cl zty rfl (fun r42 w hr42 hO => ziB s41 r42 _ (hG.own hF hO) hr42) fun r42 hr42 => ?_
 refine bi rfl fun s43 hs43 => ?_
 exact en rfl fun a w hf hO hm => ⟨!(r42 == s43), hf.sel rfl, hO, hm⟩
 rintro a w ⟨t44, hf, hO, hm⟩
 rw [zep] at hm
 refine S.co tb ?_ hf hO hm
 refine br rfl (fun hc45 => ?_) fun hc45 => ?_
 refine bi rfl fun i99 hi99 => ?_
 exact en rfl fun a w hf hO hm => ⟨_, Nat.lt_succ_self _, s29, i99, hf.sel rfl, hO, hm⟩
 refine bi rfl fun s47 hs47 => ?_
 refine lp (fun k a w => ∃ (i50 : Int), Fits 137 [(1, str s47), (4, ptr b1 0), (11, str x34), (13, int i50)] a ∧ Dk.Own w0 [] w [.row (.slice (some ⟨b27, 0, none⟩) (([[104, 116, 116, 112], [104, 116, 116, 112, 115]] : List Str).length) 2) 9 1 (([[104, 116, 116, 112], [104, 116, 116, 112, 115]] : List Str).length) (cells zj ([[104, 116, 116, 112], [104, 116, 116, 112, 115]] : List Str)), .blk b21 [int r20.1.Kind, str r20.1.Scheme, int r20.1.Host.Kind, str r20.1.Host.Name, int r20.1.Host.Port, str r20.1.Path, str r20.1.Query, .bool r20.1.HasQuery] 109, .blk b1 [int 0, str [], int 0, str [], int 0, str [], str [], .bool false] 109] ∧ zaG x34 s47 k i50 = some R) rfl (fun a w hf hO hm => ⟨0, hf.sel rfl, hO, hm⟩) ?_
 rintro n5 a w ⟨i50, hf, hO, hm⟩
 obtain _ | n5 := n5
 rw [zaG] at hm
 cases hm
 rw [zaG] at hm
 refine S.co tb ?_ hf hO hm
 refine jn 9 (fun a w => ∃ (t55 : Bool), Fits 137 [(1, str s47), (4, ptr b1 0), (11, str x34), (13, int i50), (89, .bool t55)] a ∧ Dk.Own w0 [] w [.row (.slice (some ⟨b27, 0, none⟩) (([[104, 116, 116, 112], [104, 116, 116, 112, 115]] : List Str).length) 2) 9 1 (([[104, 116, 116, 112], [104, 116, 116, 112, 115]] : List Str).length) (cells zj ([[104, 116, 116, 112], [104, 116, 116, 112, 115]] : List Str)), .blk b21 [int r20.1.Kind, str r20.1.Scheme, int r20.1.Host.Kind, str r20.1.Host.Name, int r20.1.Host.Port, str r20.1.Path, str r20.1.Query, .bool r20.1.HasQuery] 109, .blk b1 [int 0, str [], int 0, str [], int 0, str [], str [], .bool false] 109] ∧ zbY (zaG x34 s47 n5) x34 s47 i50 t55 = some R) rfl ?_ ?_
 refine br rfl (fun hc51 => ?_) fun hc51 => ?_
 refine bi rfl fun b52 hb52 => ?_
 refine vl rfl rfl (fun a w hf hO => zcJ (b := b52) (c := 47) hf rfl rfl) ?_
 refine br rfl (fun hc53 => ?_) fun hc53 => ?_
 refine bi rfl fun b54 hb54 => ?_
 refine vl rfl rfl (fun a w hf hO => zcJ (b := b54) (c := 63) hf rfl rfl) ?_
 exact en rfl fun a w hf hO hm => ⟨!(b54 == 63), hf.sel rfl, hO, hm⟩
 exact en rfl fun a w hf hO hm => ⟨false, hf.sel rfl, hO, hm⟩
 exact en rfl fun a w hf hO hm => ⟨false, hf.sel rfl, hO, hm⟩
 rintro a w ⟨t55, hf, hO, hm⟩
 rw [zbY] at hm
 refine S.co tb ?_ hf hO hm
 refine br rfl (fun hc56 => ?_) fun hc56 => ?_
 refine bi rfl fun i58 hi58 => ?_
 exact en rfl fun a w hf hO hm => ⟨_, Nat.lt_succ_self _, i58, hf.sel rfl, hO, hm⟩
 refine bi rfl fun s60 hs60 => ?_
 refine cl c_80 rfl (fun r61 w hr61 hO => zhX s60 r61 _ (hG.own hF hO) hr61) fun r61 hr61 => ?_
 refine rw_ rfl fun a w hf hO hm => ?_
 refine zx zfU hf rfl hO fun a b62 w hf hO => ?_
 refine S.op tb ?_ hf hO hm
 refine rw_ rfl fun a w hf hO hm => ?_
 refine zd (i := 0) (n := 3) zW rfl rfl rfl (by simp [Value.oneCell']) hf rfl rfl hO fun w hO => ?_
 refine S.op tb ?_ hf hO hm
 refine br rfl (fun hc65 => ?_) fun hc65 => ?_
 refine vl rfl rfl (fun a w hf hO => zo (vs := []) (v := .agg #[int 0, str [], int 0, str [], int 0, str [], str [], .bool false]) hf rfl (by kernel_rfl)) ?_
 refine rw_ rfl fun a w hf hO hm => ?_
 refine zd (i := 3) (n := 8) zB rfl rfl rfl (by simp [Value.oneCell']) hf rfl rfl hO fun w hO => ?_
 refine S.op tb ?_ hf hO hm
 refine re_ rfl fun a w hf hO hm => ?_
 obtain rfl := Option.some.inj hm
 exact zf Tryz.results69 hf (.cell rfl (zc (n := 8) (vs := [int 0, str [], int 0, str [], int 0, str [], str [], .bool false]) zad zB rfl ((hO.blkSees (i := 3) rfl).cells (o := 0) (n := 8) rfl)) (.tmp rfl .nil)) ⟨rfl, hO.below⟩
 refine vl rfl rfl (fun a w hf hO => zu (o := 0) (vs := [int r61.1.Kind, str r61.1.Name, int r61.1.Port]) zcI zW (hO.blkSees (i := 0) rfl) rfl rfl hf rfl) ?_
 refine vl rfl rfl (fun a w hf hO => zo (vs := [(0, int 2), (1, str x34), (2, .agg #[int r61.1.Kind, str r61.1.Name, int r61.1.Port])]) (v := .agg #[int 2, str x34, int r61.1.Kind, str r61.1.Name, int r61.1.Port, str [], str [], .bool false]) hf rfl (by kernel_rfl)) ?_
 refine rw_ rfl fun a w hf hO hm => ?_
 refine zx zgf hf rfl hO fun a b68 w hf hO => ?_
 refine S.op tb ?_ hf hO hm
 refine rw_ rfl fun a w hf hO hm => ?_
 refine zd (i := 0) (n := 8) zB rfl rfl rfl (by simp [Value.oneCell']) hf rfl rfl hO fun w hO => ?_
 refine S.op tb ?_ hf hO hm
 refine br rfl (fun hc71 => ?_) fun hc71 => ?_
 refine vl rfl rfl (fun a w hf hO => zu (o := 0) (vs := [int 2, str x34, int r61.1.Kind, str r61.1.Name, int r61.1.Port, str [], str [], .bool false]) zad zB (hO.blkSees (i := 0) rfl) rfl rfl hf rfl) ?_
 refine rw_ rfl fun a w hf hO hm => ?_
 refine zd (i := 4) (n := 8) zB rfl rfl rfl (by simp [Value.oneCell']) hf rfl rfl hO fun w hO => ?_
 refine S.op tb ?_ hf hO hm
 refine re_ rfl fun a w hf hO hm => ?_
 obtain rfl := Option.some.inj hm
 exact zf Tryz.results69 hf (.cell rfl (zc (n := 8) (vs := [int 2, str x34, int r61.1.Kind, str r61.1.Name, int r61.1.Port, str [], str [], .bool false]) zad zB rfl ((hO.blkSees (i := 4) rfl).cells (o := 0) (n := 8) rfl)) (.tmp rfl .nil)) ⟨rfl, hO.below⟩
 refine jn 5 (fun a w => ∃ (t84 : Bool) (i85 : Int) (s86 : Str) (i87 : Int) (s88 : Str) (i89 : Int) (s90 : Str) (s91 : Str) (t92 : Bool), Fits 137 [(4, ptr b1 0), (9, .bool t84), (16, ptr b68 0)] a ∧ Dk.Own w0 [] w [.blk b68 [int i85, str s86, int i87, str s88, int i89, str s90, str s91, .bool t92] 109, .blk b62 [int r61.1.Kind, str r61.1.Name, int r61.1.Port] 107, .row (.slice (some ⟨b27, 0, none⟩) (([[104, 116, 116, 112], [104, 116, 116, 112, 115]] : List Str).length) 2) 9 1 (([[104, 116, 116, 112], [104, 116, 116, 112, 115]] : List Str).length) (cells zj ([[104, 116, 116, 112], [104, 116, 116, 112, 115]] : List Str)), .blk b21 [int r20.1.Kind, str r20.1.Scheme, int r20.1.Host.Kind, str r20.1.Host.Name, int r20.1.Host.Port, str r20.1.Path, str r20.1.Query, .bool r20.1.HasQuery] 109, .blk b1 [int 0, str [], int 0, str [], int 0, str [], str [], .bool false] 109] ∧ zeo t84 i85 s86 i87 s88 i89 s90 s91 t92 = some R) rfl ?_ ?_
 refine bi rfl fun b74 hb74 => ?_
 refine vl rfl rfl (fun a w hf hO => zU (b := b74) (c := 63) hf rfl rfl) ?_
 refine br rfl (fun hc76 => ?_) fun hc76 => ?_
 refine rw_ rfl fun a w hf hO hm => ?_
 refine zV (i := 0) (o := 7) (v := .bool true) sz_4 rfl rfl rfl rfl hf rfl rfl hO fun w hO => ?_
 refine S.op tb ?_ hf hO hm
 refine bi rfl fun i78 hi78 => ?_
 refine bi rfl fun s79 hs79 => ?_
 refine rw_ rfl fun a w hf hO hm => ?_
 refine zV (i := 0) (o := 6) (v := str s79) zeB rfl rfl rfl rfl hf rfl rfl hO fun w hO => ?_
 refine S.op tb ?_ hf hO hm
 refine vl rfl rfl (fun a w hf hO => zb (o := 6) za6 (hO.blkSees (i := 0) rfl) rfl hf rfl) ?_
 refine cl c_117 rfl (fun r81 w hr81 hO => zj7 s79 r81 _ (hG.own hF hO) hr81) fun r81 hr81 => ?_
 exact en rfl fun a w hf hO hm => ⟨r81, 2, x34, r61.1.Kind, r61.1.Name, r61.1.Port, [], s79, true, hf.sel rfl, hO, hm⟩
 refine rc_ rfl fun a w hf hO hm => ?_
 obtain ⟨s82, hs82, hm⟩ := ob hm
 obtain ⟨r83, hr83, hm⟩ := ob hm
 refine zfy (S := Unit) (E0 := [(1, str s47), (4, ptr b1 0), (13, int i50), (16, ptr b68 0)]) (by kernel_rfl) (fun k σ w => match k with | 0 => Dk.Own w0 [] w [.blk b68 [int 2, str x34, int r61.1.Kind, str r61.1.Name, int r61.1.Port, str [], str [], .bool false] 109, .blk b62 [int r61.1.Kind, str r61.1.Name, int r61.1.Port] 107, .row (.slice (some ⟨b27, 0, none⟩) (([[104, 116, 116, 112], [104, 116, 116, 112, 115]] : List Str).length) 2) 9 1 (([[104, 116, 116, 112], [104, 116, 116, 112, 115]] : List Str).length) (cells zj ([[104, 116, 116, 112], [104, 116, 116, 112, 115]] : List Str)), .blk b21 [int r20.1.Kind, str r20.1.Scheme, int r20.1.Host.Kind, str r20.1.Host.Name, int r20.1.Host.Port, str r20.1.Path, str r20.1.Query, .bool r20.1.HasQuery] 109, .blk b1 [int 0, str [], int 0, str [], int 0, str [], str [], .bool false] 109] | 1 => Dk.Own w0 [] w [.blk b68 [int 2, str x34, int r61.1.Kind, str r61.1.Name, int r61.1.Port, str [], str [], .bool false] 109, .blk b62 [int r61.1.Kind, str r61.1.Name, int r61.1.Port] 107, .row (.slice (some ⟨b27, 0, none⟩) (([[104, 116, 116, 112], [104, 116, 116, 112, 115]] : List Str).length) 2) 9 1 (([[104, 116, 116, 112], [104, 116, 116, 112, 115]] : List Str).length) (cells zj ([[104, 116, 116, 112], [104, 116, 116, 112, 115]] : List Str)), .blk b21 [int r20.1.Kind, str r20.1.Scheme, int r20.1.Host.Kind, str r20.1.Host.Name, int r20.1.Host.Port, str r20.1.Path, str r20.1.Query, .bool r20.1.HasQuery] 109, .blk b1 [int 0, str [], int 0, str [], int 0, str [], str [], .bool false] 109] | _ => Dk.Own w0 [] w [.blk b68 [int r83.1.Kind, str r83.1.Scheme, int r83.1.Host.Kind, str r83.1.Host.Name, int r83.1.Host.Port, str r83.1.Path, str r83.1.Query, .bool r83.1.HasQuery] 109, .blk b62 [int r61.1.Kind, str r61.1.Name, int r61.1.Port] 107, .row (.slice (some ⟨b27, 0, none⟩) (([[104, 116, 116, 112], [104, 116, 116, 112, 115]] : List Str).length) 2) 9 1 (([[104, 116, 116, 112], [104, 116, 116, 112, 115]] : List Str).length) (cells zj ([[104, 116, 116, 112], [104, 116, 116, 112, 115]] : List Str)), .blk b21 [int r20.1.Kind, str r20.1.Scheme, int r20.1.Host.Kind, str r20.1.Host.Name, int r20.1.Host.Port, str r20.1.Path, str r20.1.Query, .bool r20.1.HasQuery] 109, .blk b1 [int 0, str [], int 0, str [], int 0, str [], str [], .bool false] 109]) (fun σ => [⟨[(16, ptr b68 0)], some (124, .agg #[int 2, str x34, int r61.1.Kind, str r61.1.Name, int r61.1.Port, str [], str [], .bool false])⟩, ⟨[(1, str s47)], some (125, str s47)⟩, ⟨[(13, int i50)], some (126, int i50)⟩, ⟨[(125, str s47), (126, int i50)], some (127, str s82)⟩, ⟨[(124, .agg #[int 2, str x34, int r61.1.Kind, str r61.1.Name, int r61.1.Port, str [], str [], .bool false]), (127, str s82)], some (128, .tuple #[.agg #[int r83.1.Kind, str r83.1.Scheme, int r83.1.Host.Kind, str r83.1.Host.Name, int r83.1.Host.Port, str r83.1.Path, str r83.1.Query, .bool r83.1.HasQuery], .bool r83.2])⟩, ⟨[(128, .tuple #[.agg #[int r83.1.Kind, str r83.1.Scheme, int r83.1.Host.Kind, str r83.1.Host.Name, int r83.1.Host.Port, str r83.1.Path, str r83.1.Query, .bool r83.1.HasQuery], .bool r83.2])], some (123, .tuple #[.agg #[int r83.1.Kind, str r83.1.Scheme, int r83.1.Host.Kind, str r83.1.Host.Name, int r83.1.Host.Port, str r83.1.Path, str r83.1.Query, .bool r83.1.HasQuery], .bool r83.2])⟩, ⟨[(123, .tuple #[.agg #[int r83.1.Kind, str r83.1.Scheme, int r83.1.Host.Kind, str r83.1.Host.Name, int r83.1.Host.Port, str r83.1.Path, str r83.1.Query, .bool r83.1.HasQuery], .bool r83.2])], some (129, .agg #[int r83.1.Kind, str r83.1.Scheme, int r83.1.Host.Kind, str r83.1.Host.Name, int r83.1.Host.Port, str r83.1.Path, str r83.1.Query, .bool r83.1.HasQuery])⟩, ⟨[(123, .tuple #[.agg #[int r83.1.Kind, str r83.1.Scheme, int r83.1.Host.Kind, str r83.1.Host.Name, int r83.1.Host.Port, str r83.1.Path, str r83.1.Query, .bool r83.1.HasQuery], .bool r83.2])], some (130, .bool r83.2)⟩, ⟨[(16, ptr b68 0), (129, .agg #[int r83.1.Kind, str r83.1.Scheme, int r83.1.Host.Kind, str r83.1.Host.Name, int r83.1.Host.Port, str r83.1.Path, str r83.1.Query, .bool r83.1.HasQuery])], none⟩, ⟨[(130, .bool r83.2)], some (9, .bool r83.2)⟩]) () [4, 8] rfl (fun _ => rfl) (fun _ => rfl) (fun _ => rfl) rfl rfl (by decide) rfl hO.drew (hf.cons rfl (hf.cons rfl (hf.cons rfl (hf.cons rfl hf.nil)))) (fun σ => ⟨⟨rfl, trivial⟩, ⟨rfl, trivial⟩, ⟨rfl, trivial⟩, ⟨rfl, rfl, trivial⟩, ⟨rfl, rfl, trivial⟩, ⟨rfl, trivial⟩, ⟨rfl, trivial⟩, ⟨rfl, trivial⟩, ⟨rfl, rfl, trivial⟩, ⟨rfl, trivial⟩, trivial⟩) ⟨zk rfl (fun σ => rfl) (fun σ => rfl) (fun σ a w k hk hlo hup hst hf => match k, hk, hlo, hup, hst, hf with | 0, _, _, _, hst, hf => have hO : Dk.Own w0 [] w _ := hst; zu (o := 0) (vs := [int 2, str x34, int r61.1.Kind, str r61.1.Name, int r61.1.Port, str [], str [], .bool false]) zad zB (hO.blkSees (i := 0) rfl) rfl rfl hf rfl | 1, _, _, _, hst, hf => have hO : Dk.Own w0 [] w _ := hst; zu (o := 0) (vs := [int 2, str x34, int r61.1.Kind, str r61.1.Name, int r61.1.Port, str [], str [], .bool false]) zad zB (hO.blkSees (i := 0) rfl) rfl rfl hf rfl | 2, _, _, hup, _, _ => absurd (hup 0 (by decide) (by kernel_rfl)) (by decide) | k + 3, hk, _, _, _, _ => absurd hk (by simp)), zk rfl (fun σ => rfl) (fun σ => rfl) (fun σ a w k _ _ _ _ hf => zp hf rfl), zk rfl (fun σ => rfl) (fun σ => rfl) (fun σ a w k _ _ _ _ hf => zp hf rfl), zk rfl (fun σ => rfl) (fun σ => rfl) (fun σ a w k _ _ _ _ hf => zjR (l := s47) Tryz.underlying9 hf rfl rfl hs82), ziQ rfl (fun σ => rfl) (fun σ => rfl) rfl (fun σ a w (_ : _) hf => zt c_115 hf (vs := [.agg #[int 2, str x34, int r61.1.Kind, str r61.1.Name, int r61.1.Port, str [], str [], .bool false], str s82]) rfl) (fun σ w (hO : Dk.Own w0 [] w _) => (zjf (⟨2, x34, r61.1, [], [], false⟩ : api_Target) s82 r83 _ (hG.own hF hO) hr83).mono fun e w' h => by obtain ⟨he, hb⟩ := h; exact ⟨(), he, hO.grow hb, .inr rfl, .inr rfl, .inr rfl, .inr rfl, .inr rfl, .inr rfl, .inr rfl, .inr rfl, .inr rfl, .inr rfl, trivial⟩), zk rfl (fun σ => rfl) (fun σ => rfl) (fun σ a w k _ _ _ _ hf => zp hf rfl), zk rfl (fun σ => rfl) (fun σ => rfl) (fun σ a w k _ _ _ _ hf => zcK hf rfl rfl), zk rfl (fun σ => rfl) (fun σ => rfl) (fun σ a w k _ _ _ _ hf => zcK hf rfl rfl), zgp rfl (fun σ => rfl) (fun σ => rfl) rfl (fun σ w (hO : Dk.Own w0 [] w _) => by obtain ⟨w', hO', hr⟩ := zgh (x := (.tmp 16)) (y := (.tmp 129)) (E := [(16, ptr b68 0), (129, .agg #[int r83.1.Kind, str r83.1.Scheme, int r83.1.Host.Kind, str r83.1.Host.Name, int r83.1.Host.Port, str r83.1.Path, str r83.1.Query, .bool r83.1.HasQuery])]) (i := 0) (n := 8) (vs := [int r83.1.Kind, str r83.1.Scheme, int r83.1.Host.Kind, str r83.1.Host.Name, int r83.1.Host.Port, str r83.1.Path, str r83.1.Query, .bool r83.1.HasQuery]) zB rfl rfl rfl (by simp [Value.oneCell']) hO rfl rfl; exact ⟨(), w', hO', ⟨.inr rfl, .inr rfl, .inr rfl, .inr rfl, .inr rfl, .inr rfl, .inr rfl, .inr rfl, .inr rfl, .inr rfl, trivial⟩, hr⟩), zk rfl (fun σ => rfl) (fun σ => rfl) (fun σ a w k _ _ _ _ hf => zaE hf rfl), trivial⟩ ?_
 rintro _ a w hf hO
 have hO : Dk.Own w0 [] w _ := hO
 have hf : Fits 137 [(4, ptr b1 0), (9, .bool r83.2), (16, ptr b68 0)] a := (hf.cons rfl (hf.cons rfl (hf.cons rfl hf.nil)))
 refine S.no tb ?_ hf hO hm
 exact en rfl fun a w hf hO hm => ⟨r83.2, r83.1.Kind, r83.1.Scheme, r83.1.Host.Kind, r83.1.Host.Name, r83.1.Host.Port, r83.1.Path, r83.1.Query, r83.1.HasQuery, hf.sel rfl, hO, hm⟩
 rintro a w ⟨t84, i85, s86, i87, s88, i89, s90, s91, t92, hf, hO, hm⟩
 rw [zeo] at hm
 refine S.co tb ?_ hf hO hm
 refine br rfl (fun hc94 => ?_) fun hc94 => ?_
 refine vl rfl rfl (fun a w hf hO => zo (vs := []) (v := .agg #[int 0, str [], int 0, str [], int 0, str [], str [], .bool false]) hf rfl (by kernel_rfl)) ?_
 refine rw_ rfl fun a w hf hO hm => ?_
 refine zd (i := 4) (n := 8) zB rfl rfl rfl (by simp [Value.oneCell']) hf rfl rfl hO fun w hO => ?_
 refine S.op tb ?_ hf hO hm
 refine re_ rfl fun a w hf hO hm => ?_
 obtain rfl := Option.some.inj hm
 exact zf Tryz.results69 hf (.cell rfl (zc (n := 8) (vs := [int 0, str [], int 0, str [], int 0, str [], str [], .bool false]) zad zB rfl ((hO.blkSees (i := 4) rfl).cells (o := 0) (n := 8) rfl)) (.tmp rfl .nil)) ⟨rfl, hO.below⟩
 refine vl rfl rfl (fun a w hf hO => zu (o := 0) (vs := [int i85, str s86, int i87, str s88, int i89, str s90, str s91, .bool t92]) zad zB (hO.blkSees (i := 0) rfl) rfl rfl hf rfl) ?_
 refine rw_ rfl fun a w hf hO hm => ?_
 refine zd (i := 4) (n := 8) zB rfl rfl rfl (by simp [Value.oneCell']) hf rfl rfl hO fun w hO => ?_
 refine S.op tb ?_ hf hO hm
 refine re_ rfl fun a w hf hO hm => ?_
 obtain rfl := Option.some.inj hm
 exact zf Tryz.results69 hf (.cell rfl (zc (n := 8) (vs := [int i85, str s86, int i87, str s88, int i89, str s90, str s91, .bool t92]) zad zB rfl ((hO.blkSees (i := 4) rfl).cells (o := 0) (n := 8) rfl)) (.tmp rfl .nil)) ⟨rfl, hO.below⟩
 refine vl rfl rfl (fun a w hf hO => zo (vs := []) (v := .agg #[int 0, str [], int 0, str [], int 0, str [], str [], .bool false]) hf rfl (by kernel_rfl)) ?_
 refine rw_ rfl fun a w hf hO hm => ?_
 refine zd (i := 2) (n := 8) zB rfl rfl rfl (by simp [Value.oneCell']) hf rfl rfl hO fun w hO => ?_
 refine S.op tb ?_ hf hO hm
 refine re_ rfl fun a w hf hO hm => ?_
 obtain rfl := Option.some.inj hm
 exact zf Tryz.results69 hf (.cell rfl (zc (n := 8) (vs := [int 0, str [], int 0, str [], int 0, str [], str [], .bool false]) zad zB rfl ((hO.blkSees (i := 2) rfl).cells (o := 0) (n := 8) rfl)) (.tmp rfl .nil)) ⟨rfl, hO.below⟩

theorem zj9 (x_b : UInt8) (R : Bool) (w0 : World) (hG : zD w0) (hm : zfr x_b = some R) :
    Calls Tryz.prog 71 #[zY x_b] w0 (Ret w0 (fun R => .bool R) R) := by
 rw [zfr] at hm
 have hF : zG [] := zg
 have hO : Dk.Own w0 [] w0 [] := Dk.Own.refl w0
 refine S.enter tb Tryz.func71 rfl Tryz.ntmps71 rfl ?_ hO hm
 refine jn 0 (fun a w => ∃ (t4 : Bool), Fits 13 [(2, .bool t4)] a ∧ Dk.Own w0 [] w [] ∧ zeq t4 = some R) rfl ?_ ?_
 refine vl rfl rfl (fun a w hf hO => zjJ (b := x_b) (c := 32) hf rfl rfl) ?_
 refine br rfl (fun hc2 => ?_) fun hc2 => ?_
 refine vl rfl rfl (fun a w hf hO => zcJ (b := x_b) (c := 127) hf rfl rfl) ?_
 refine br rfl (fun hc3 => ?_) fun hc3 => ?_
 exact en rfl fun a w hf hO hm => ⟨true, hf.sel rfl, hO, hm⟩
 refine vl rfl rfl (fun a w hf hO => zU (b := x_b) (c := 9) hf rfl rfl) ?_
 exact en rfl fun a w hf hO hm => ⟨x_b == 9, hf.sel rfl, hO, hm⟩
 refine vl rfl rfl (fun a w hf hO => zU (b := x_b) (c := 9) hf rfl rfl) ?_
 exact en rfl fun a w hf hO hm => ⟨x_b == 9, hf.sel rfl, hO, hm⟩
 rintro a w ⟨t4, hf, hO, hm⟩
 rw [zeq] at hm
 refine S.co tb ?_ hf hO hm
 exact rt Tryz.results71 rfl

theorem zka (x_a0 : Int) (x_a1 : Str) (R : api_Head × Int) (w0 : World) (hG : zD w0) (hm : zfs x_a0 x_a1 = some R) :
    Calls Tryz.prog 35 #[int x_a0, str x_a1] w0 fun e w' => ∃ (p0 : Option Addr) (c0 : Nat), e = .returned (.tuple #[.agg #[int R.1.Kind, str R.1.Method, str R.1.Target, int R.1.Code, str R.1.Reason, int R.1.Minor, .slice p0 R.1.Fields.length c0], int R.2]) ∧ Dk.Own w0 [] w' [.row (.slice p0 R.1.Fields.length c0) 69 2 R.1.Fields.length (cells za R.1.Fields)] := by
 rw [zfs] at hm
 have hF : zG [] := zg
 have hO : Dk.Own w0 [] w0 [] := Dk.Own.refl w0
 refine S.enter tb Tryz.func35 rfl Tryz.ntmps35 rfl ?_ hO hm
 refine rw_ rfl fun a w hf hO hm => ?_
 refine zx zgH hf rfl hO fun a b1 w hf hO => ?_
 have hO := hO.nilRow 69 2
 refine S.op tb ?_ hf hO hm
 refine jn 1 (fun a w => ∃ (t4 : Bool), Fits 144 [(0, int x_a0), (1, str x_a1), (4, ptr b1 0), (21, .bool t4)] a ∧ Dk.Own w0 [] w [.row (.slice none 0 0) 69 2 0 (cells za []), .blk b1 [int 0, str [], str [], int 0, str [], int 0, .slice none 0 0] 35] ∧ zet x_a0 x_a1 t4 = some R) rfl ?_ ?_
 refine br rfl (fun hc3 => ?_) fun hc3 => ?_
 exact en rfl fun a w hf hO hm => ⟨!(x_a0 == 2), hf.sel rfl, hO, hm⟩
 exact en rfl fun a w hf hO hm => ⟨false, hf.sel rfl, hO, hm⟩
 rintro a w ⟨t4, hf, hO, hm⟩
 rw [zet] at hm
 refine S.co tb ?_ hf hO hm
 refine br rfl (fun hc5 => ?_) fun hc5 => ?_
 refine vl rfl rfl (fun a w hf hO => zo (vs := []) (v := .agg #[int 0, str [], str [], int 0, str [], int 0, .slice none 0 0]) hf rfl (by kernel_rfl)) ?_
 refine rw_ rfl fun a w hf hO hm => ?_
 refine zd (i := 1) (n := 7) zA rfl rfl rfl (by simp [Value.oneCell']) hf rfl rfl hO fun w hO => ?_
 have hO := hO.nilRow 69 2
 refine S.op tb ?_ hf hO hm
 refine re_ rfl fun a w hf hO hm => ?_
 obtain rfl := Option.some.inj hm
 exact zf Tryz.results35 hf (.cell rfl (zc (n := 7) (vs := [int 0, str [], str [], int 0, str [], int 0, .slice none 0 0]) zau zA rfl ((hO.blkSees (i := 2) rfl).cells (o := 0) (n := 7) rfl)) (.tmp rfl .nil)) ⟨none, 0, rfl, (hO.sub (.cons_cons _ (.cons _ (.cons _ .slnil))))⟩
 refine lp (fun k a w => ∃ (i9 : Int), Fits 144 [(0, int x_a0), (1, str x_a1), (4, ptr b1 0), (6, int i9)] a ∧ Dk.Own w0 [] w [.row (.slice none 0 0) 69 2 0 (cells za []), .blk b1 [int 0, str [], str [], int 0, str [], int 0, .slice none 0 0] 35] ∧ zaX x_a0 x_a1 k i9 = some R) rfl (fun a w hf hO hm => ⟨0, hf.sel rfl, hO, hm⟩) ?_
 rintro n2 a w ⟨i9, hf, hO, hm⟩
 obtain _ | n2 := n2
 rw [zaX] at hm
 cases hm
 rw [zaX] at hm
 refine S.co tb ?_ hf hO hm
 refine br rfl (fun hc11 => ?_) fun hc11 => ?_
 refine jn 5 (fun a w => ∃ (t16 : Bool), Fits 144 [(0, int x_a0), (1, str x_a1), (4, ptr b1 0), (6, int i9), (38, .bool t16)] a ∧ Dk.Own w0 [] w [.row (.slice none 0 0) 69 2 0 (cells za []), .blk b1 [int 0, str [], str [], int 0, str [], int 0, .slice none 0 0] 35] ∧ zer (zaX x_a0 x_a1 n2) i9 t16 = some R) rfl ?_ ?_
 refine bi rfl fun b13 hb13 => ?_
 refine vl rfl rfl (fun a w hf hO => zU (b := b13) (c := 13) hf rfl rfl) ?_
 refine br rfl (fun hc14 => ?_) fun hc14 => ?_
 exact en rfl fun a w hf hO hm => ⟨true, hf.sel rfl, hO, hm⟩
 refine bi rfl fun b15 hb15 => ?_
 refine vl rfl rfl (fun a w hf hO => zU (b := b15) (c := 10) hf rfl rfl) ?_
 exact en rfl fun a w hf hO hm => ⟨b15 == 10, hf.sel rfl, hO, hm⟩
 rintro a w ⟨t16, hf, hO, hm⟩
 rw [zer] at hm
 refine S.co tb ?_ hf hO hm
 refine br rfl (fun hc17 => ?_) fun hc17 => ?_
 refine vl rfl rfl (fun a w hf hO => zo (vs := []) (v := .agg #[int 0, str [], str [], int 0, str [], int 0, .slice none 0 0]) hf rfl (by kernel_rfl)) ?_
 refine rw_ rfl fun a w hf hO hm => ?_
 refine zd (i := 1) (n := 7) zA rfl rfl rfl (by simp [Value.oneCell']) hf rfl rfl hO fun w hO => ?_
 have hO := hO.nilRow 69 2
 refine S.op tb ?_ hf hO hm
 refine re_ rfl fun a w hf hO hm => ?_
 obtain rfl := Option.some.inj hm
 exact zf Tryz.results35 hf (.cell rfl (zc (n := 7) (vs := [int 0, str [], str [], int 0, str [], int 0, .slice none 0 0]) zau zA rfl ((hO.blkSees (i := 2) rfl).cells (o := 0) (n := 7) rfl)) (.tmp rfl .nil)) ⟨none, 0, rfl, (hO.sub (.cons_cons _ (.cons _ (.cons _ .slnil))))⟩
 refine bi rfl fun i20 hi20 => ?_
 exact en rfl fun a w hf hO hm => ⟨_, Nat.lt_succ_self _, i20, hf.sel rfl, hO, hm⟩
 refine rw_ rfl fun a w hf hO hm => ?_
 obtain ⟨r22, hr22, hm⟩ := ob hm
 refine zv (zt c_66 hf (vs := [str x_a1, zY 32]) rfl) rfl hf rfl rfl (zhW x_a1 32 r22 _ (hG.own hF hO) hr22) ?_
 rintro e w' ⟨p23, c24, he, hO'⟩
 refine ⟨_, he, fun a hf => ?_⟩
 have hO := hO.call hO' (by simp [Res.shared])
 refine S.op tb ?_ hf hO hm
 refine br rfl (fun hc27 => ?_) fun hc27 => ?_
 refine bi rfl fun i28 hi28 => ?_
 refine rw_ rfl fun a w hf hO hm => ?_
 obtain ⟨x29, hx29, hm⟩ := ob hm
 obtain ⟨b30, o31, hix29, hSx29, hAx29⟩ := zae (enc := zj) (sz := 1) (xs := r22) 31 Tryz.underlying31 zeB (by decide) (fun _ => rfl) hO (i := 0) rfl hx29
 refine zaL (zw hix29 hf rfl rfl) rfl hf rfl rfl fun a hf => ?_
 refine S.op tb ?_ hf hO hm
 refine vl rfl rfl (fun a w hf hO => zb (o := 0) za6 (hSx29 _ (hO.rowSees (i := 0) rfl)) rfl hf rfl) ?_
 refine cl c_67 rfl (fun r32 w hr32 hO => zi2 x29 r32 _ (hG.own hF hO) hr32) fun r32 hr32 => ?_
 refine br rfl (fun hc35 => ?_) fun hc35 => ?_
 refine vl rfl rfl (fun a w hf hO => zo (vs := []) (v := .agg #[int 0, str [], str [], int 0, str [], int 0, .slice none 0 0]) hf rfl (by kernel_rfl)) ?_
 refine rw_ rfl fun a w hf hO hm => ?_
 refine zd (i := 2) (n := 7) zA rfl rfl rfl (by simp [Value.oneCell']) hf rfl rfl hO fun w hO => ?_
 have hO := hO.nilRow 69 2
 refine S.op tb ?_ hf hO hm
 refine re_ rfl fun a w hf hO hm => ?_
 obtain rfl := Option.some.inj hm
 exact zf Tryz.results35 hf (.cell rfl (zc (n := 7) (vs := [int 0, str [], str [], int 0, str [], int 0, .slice none 0 0]) zau zA rfl ((hO.blkSees (i := 3) rfl).cells (o := 0) (n := 7) rfl)) (.tmp rfl .nil)) ⟨none, 0, rfl, (hO.sub (.cons_cons _ (.cons _ (.cons _ (.cons _ .slnil)))))⟩
 refine jn 2 (fun a w => ∃ (t44 : Bool), Fits 144 [(4, ptr b1 0), (7, .slice p23 r22.length c24), (8, int r32), (67, .bool t44)] a ∧ Dk.Own w0 [] w [.row (.slice p23 r22.length c24) 9 1 r22.length (cells zj r22), .row (.slice none 0 0) 69 2 0 (cells za []), .blk b1 [int 0, str [], str [], int 0, str [], int 0, .slice none 0 0] 35] ∧ zaH r22 r32 t44 = some R) rfl ?_ ?_
 refine br rfl (fun hc38 => ?_) fun hc38 => ?_
 exact en rfl fun a w hf hO hm => ⟨true, hf.sel rfl, hO, hm⟩
 refine br rfl (fun hc39 => ?_) fun hc39 => ?_
 exact en rfl fun a w hf hO hm => ⟨true, hf.sel rfl, hO, hm⟩
 refine rw_ rfl fun a w hf hO hm => ?_
 obtain ⟨x40, hx40, hm⟩ := ob hm
 obtain ⟨b41, o42, hix40, hSx40, hAx40⟩ := zae (enc := zj) (sz := 1) (xs := r22) 31 Tryz.underlying31 zeB (by decide) (fun _ => rfl) hO (i := 0) rfl hx40
 refine zaL (zw hix40 hf rfl rfl) rfl hf rfl rfl fun a hf => ?_
 refine S.op tb ?_ hf hO hm
 refine kn (b' := false) hc39 rfl ?_
 refine vl rfl rfl (fun a w hf hO => zb (o := 0) za6 (hSx40 _ (hO.rowSees (i := 0) rfl)) rfl hf rfl) ?_
 refine cl c_68 rfl (fun r43 w hr43 hO => zkh x40 r43 _ (hG.own hF hO) hr43) fun r43 hr43 => ?_
 exact en rfl fun a w hf hO hm => ⟨!r43, hf.sel rfl, hO, hm⟩
 rintro a w ⟨t44, hf, hO, hm⟩
 rw [zaH] at hm
 refine S.co tb ?_ hf hO hm
 refine br rfl (fun hc45 => ?_) fun hc45 => ?_
 refine vl rfl rfl (fun a w hf hO => zo (vs := []) (v := .agg #[int 0, str [], str [], int 0, str [], int 0, .slice none 0 0]) hf rfl (by kernel_rfl)) ?_
 refine rw_ rfl fun a w hf hO hm => ?_
 refine zd (i := 2) (n := 7) zA rfl rfl rfl (by simp [Value.oneCell']) hf rfl rfl hO fun w hO => ?_
 have hO := hO.nilRow 69 2
 refine S.op tb ?_ hf hO hm
 refine re_ rfl fun a w hf hO hm => ?_
 obtain rfl := Option.some.inj hm
 exact zf Tryz.results35 hf (.cell rfl (zc (n := 7) (vs := [int 0, str [], str [], int 0, str [], int 0, .slice none 0 0]) zau zA rfl ((hO.blkSees (i := 3) rfl).cells (o := 0) (n := 7) rfl)) (.tmp rfl .nil)) ⟨none, 0, rfl, (hO.sub (.cons_cons _ (.cons _ (.cons _ (.cons _ .slnil)))))⟩
 refine rc_ rfl fun a w hf hO hm => ?_
 obtain ⟨x48, hx48, hm⟩ := ob hm
 obtain ⟨b49, o50, hix48, hSx48, hAx48⟩ := zae (enc := zj) (sz := 1) (xs := r22) 31 Tryz.underlying31 zeB (by decide) (fun _ => rfl) hO (i := 0) rfl hx48
 obtain ⟨x51, hx51, hm⟩ := ob hm
 obtain ⟨b52, o53, hix51, hSx51, hAx51⟩ := zae (enc := zj) (sz := 1) (xs := r22) 31 Tryz.underlying31 zeB (by decide) (fun _ => rfl) hO (i := 0) rfl hx51
 obtain ⟨r54, hr54, hm⟩ := ob hm
 refine zfy (S := Nat) (E0 := [(4, ptr b1 0), (7, .slice p23 r22.length c24), (8, int r32)]) (by kernel_rfl) (fun k σ w => match k with | 0 => Dk.Own w0 [] w [.row (.slice p23 r22.length c24) 9 1 r22.length (cells zj r22), .row (.slice none 0 0) 69 2 0 (cells za []), .blk b1 [int 0, str [], str [], int 0, str [], int 0, .slice none 0 0] 35] | 1 => Dk.Own w0 [] w [.blk σ [int 0, str [], int 0, str [], int 0, str [], str [], .bool false] 109, .row (.slice p23 r22.length c24) 9 1 r22.length (cells zj r22), .row (.slice none 0 0) 69 2 0 (cells za []), .blk b1 [int 0, str [], str [], int 0, str [], int 0, .slice none 0 0] 35] | _ => Dk.Own w0 [] w [.blk σ [int r54.1.Kind, str r54.1.Scheme, int r54.1.Host.Kind, str r54.1.Host.Name, int r54.1.Host.Port, str r54.1.Path, str r54.1.Query, .bool r54.1.HasQuery] 109, .row (.slice p23 r22.length c24) 9 1 r22.length (cells zj r22), .row (.slice none 0 0) 69 2 0 (cells za []), .blk b1 [int 0, str [], str [], int 0, str [], int 0, .slice none 0 0] 35]) (fun σ => [⟨[(7, .slice p23 r22.length c24)], some (70, .slice p23 r22.length c24)⟩, ⟨[(70, .slice p23 r22.length c24)], some (71, ptr b49 o50)⟩, ⟨[(71, ptr b49 o50)], some (72, str x48)⟩, ⟨[(7, .slice p23 r22.length c24)], some (73, .slice p23 r22.length c24)⟩, ⟨[(73, .slice p23 r22.length c24)], some (74, ptr b52 o53)⟩, ⟨[(74, ptr b52 o53)], some (75, str x51)⟩, ⟨[(72, str x48), (75, str x51)], some (76, .tuple #[.agg #[int r54.1.Kind, str r54.1.Scheme, int r54.1.Host.Kind, str r54.1.Host.Name, int r54.1.Host.Port, str r54.1.Path, str r54.1.Query, .bool r54.1.HasQuery], int r54.2])⟩, ⟨[(76, .tuple #[.agg #[int r54.1.Kind, str r54.1.Scheme, int r54.1.Host.Kind, str r54.1.Host.Name, int r54.1.Host.Port, str r54.1.Path, str r54.1.Query, .bool r54.1.HasQuery], int r54.2])], some (69, .tuple #[.agg #[int r54.1.Kind, str r54.1.Scheme, int r54.1.Host.Kind, str r54.1.Host.Name, int r54.1.Host.Port, str r54.1.Path, str r54.1.Query, .bool r54.1.HasQuery], int r54.2])⟩, ⟨[(69, .tuple #[.agg #[int r54.1.Kind, str r54.1.Scheme, int r54.1.Host.Kind, str r54.1.Host.Name, int r54.1.Host.Port, str r54.1.Path, str r54.1.Query, .bool r54.1.HasQuery], int r54.2])], some (77, .agg #[int r54.1.Kind, str r54.1.Scheme, int r54.1.Host.Kind, str r54.1.Host.Name, int r54.1.Host.Port, str r54.1.Path, str r54.1.Query, .bool r54.1.HasQuery])⟩, ⟨[(69, .tuple #[.agg #[int r54.1.Kind, str r54.1.Scheme, int r54.1.Host.Kind, str r54.1.Host.Name, int r54.1.Host.Port, str r54.1.Path, str r54.1.Query, .bool r54.1.HasQuery], int r54.2])], some (78, int r54.2)⟩, ⟨[], some (9, ptr σ 0)⟩, ⟨[(9, ptr σ 0), (77, .agg #[int r54.1.Kind, str r54.1.Scheme, int r54.1.Host.Kind, str r54.1.Host.Name, int r54.1.Host.Port, str r54.1.Path, str r54.1.Query, .bool r54.1.HasQuery])], none⟩, ⟨[(78, int r54.2)], some (10, int r54.2)⟩]) (0) [10, 11] rfl (fun _ => rfl) (fun _ => rfl) (fun _ => rfl) rfl rfl (by decide) rfl hO.drew (hf.cons rfl (hf.cons rfl (hf.cons rfl hf.nil))) (fun σ => ⟨⟨rfl, trivial⟩, ⟨rfl, trivial⟩, ⟨rfl, trivial⟩, ⟨rfl, trivial⟩, ⟨rfl, trivial⟩, ⟨rfl, trivial⟩, ⟨rfl, rfl, trivial⟩, ⟨rfl, trivial⟩, ⟨rfl, trivial⟩, ⟨rfl, trivial⟩, trivial, ⟨rfl, rfl, trivial⟩, ⟨rfl, trivial⟩, trivial⟩) ⟨zk rfl (fun σ => rfl) (fun σ => rfl) (fun σ a w k _ _ _ _ hf => zp hf rfl), zk rfl (fun σ => rfl) (fun σ => rfl) (fun σ a w k _ _ _ _ hf => zw hix48 hf rfl rfl), zk rfl (fun σ => rfl) (fun σ => rfl) (fun σ a w k hk hlo hup hst hf => match k, hk, hlo, hup, hst, hf with | 0, _, _, _, hst, hf => have hO : Dk.Own w0 [] w _ := hst; zb (o := 0) za6 (hSx48 _ (hO.rowSees (i := 0) rfl)) rfl hf rfl | 1, _, _, _, hst, hf => have hO : Dk.Own w0 [] w _ := hst; zb (o := 0) za6 (hSx48 _ (hO.rowSees (i := 1) rfl)) rfl hf rfl | 2, _, _, _, hst, hf => have hO : Dk.Own w0 [] w _ := hst; zb (o := 0) za6 (hSx48 _ (hO.rowSees (i := 1) rfl)) rfl hf rfl | k + 3, hk, _, _, _, _ => absurd hk (by simp)), zk rfl (fun σ => rfl) (fun σ => rfl) (fun σ a w k _ _ _ _ hf => zp hf rfl), zk rfl (fun σ => rfl) (fun σ => rfl) (fun σ a w k _ _ _ _ hf => zw hix51 hf rfl rfl), zk rfl (fun σ => rfl) (fun σ => rfl) (fun σ a w k hk hlo hup hst hf => match k, hk, hlo, hup, hst, hf with | 0, _, _, _, hst, hf => have hO : Dk.Own w0 [] w _ := hst; zb (o := 0) za6 (hSx51 _ (hO.rowSees (i := 0) rfl)) rfl hf rfl | 1, _, _, _, hst, hf => have hO : Dk.Own w0 [] w _ := hst; zb (o := 0) za6 (hSx51 _ (hO.rowSees (i := 1) rfl)) rfl hf rfl | 2, _, _, _, hst, hf => have hO : Dk.Own w0 [] w _ := hst; zb (o := 0) za6 (hSx51 _ (hO.rowSees (i := 1) rfl)) rfl hf rfl | k + 3, hk, _, _, _, _ => absurd hk (by simp)), zuQ rfl (fun σ => rfl) (fun σ => rfl) (fun σ a w hf => zt c_69 hf (vs := [str x48, str x51]) rfl) (fun σ w k hk hlo hup hst => match k, hk, hlo, hup, hst with | 0, _, _, _, hst => have hO : Dk.Own w0 [] w _ := hst; (zj8 x48 x51 r54 _ (hG.own hF hO) hr54).mono fun e w' h => ⟨h.1, hO.grow h.2⟩ | 1, _, _, _, hst => have hO : Dk.Own w0 [] w _ := hst; (zj8 x48 x51 r54 _ (hG.own hF hO) hr54).mono fun e w' h => ⟨h.1, hO.grow h.2⟩ | 2, _, _, hup, _ => absurd (hup 1 (by decide) (by kernel_rfl)) (by decide) | k + 3, hk, _, _, _ => absurd hk (by simp)), zk rfl (fun σ => rfl) (fun σ => rfl) (fun σ a w k _ _ _ _ hf => zp hf rfl), zk rfl (fun σ => rfl) (fun σ => rfl) (fun σ a w k _ _ _ _ hf => zcK hf rfl rfl), zk rfl (fun σ => rfl) (fun σ => rfl) (fun σ a w k _ _ _ _ hf => zcK hf rfl rfl), sS_val rfl (fun σ => rfl) (fun σ => rfl) rfl (fun σ w (hO : Dk.Own w0 [] w _) => by obtain ⟨b55, w', hO', hr⟩ := ztR (E := []) zgf hO; exact ⟨(b55), w', hO', ⟨.inr rfl, .inr rfl, .inr rfl, .inr rfl, .inr rfl, .inr rfl, .inr rfl, .inr rfl, .inr rfl, .inr rfl, .inl rfl, .inl rfl, .inr rfl, trivial⟩, hr⟩), zgp rfl (fun σ => rfl) (fun σ => rfl) rfl (fun σ w (hO : Dk.Own w0 [] w _) => by obtain ⟨w', hO', hr⟩ := zgh (x := (.tmp 9)) (y := (.tmp 77)) (E := [(9, ptr σ 0), (77, .agg #[int r54.1.Kind, str r54.1.Scheme, int r54.1.Host.Kind, str r54.1.Host.Name, int r54.1.Host.Port, str r54.1.Path, str r54.1.Query, .bool r54.1.HasQuery])]) (i := 0) (n := 8) (vs := [int r54.1.Kind, str r54.1.Scheme, int r54.1.Host.Kind, str r54.1.Host.Name, int r54.1.Host.Port, str r54.1.Path, str r54.1.Query, .bool r54.1.HasQuery]) zB rfl rfl rfl (by simp [Value.oneCell']) hO rfl rfl; exact ⟨(σ), w', hO', ⟨.inr rfl, .inr rfl, .inr rfl, .inr rfl, .inr rfl, .inr rfl, .inr rfl, .inr rfl, .inr rfl, .inr rfl, .inr rfl, .inr rfl, .inr rfl, trivial⟩, hr⟩), zk rfl (fun σ => rfl) (fun σ => rfl) (fun σ a w k _ _ _ _ hf => zaE hf rfl), trivial⟩ ?_
 rintro b55 a w hf hO
 have hO : Dk.Own w0 [] w _ := hO
 have hf : Fits 144 [(4, ptr b1 0), (7, .slice p23 r22.length c24), (8, int r32), (10, int r54.2)] a := (hf.cons rfl (hf.cons rfl (hf.cons rfl (hf.cons rfl hf.nil))))
 refine S.no tb ?_ hf hO hm
 refine br rfl (fun hc58 => ?_) fun hc58 => ?_
 refine vl rfl rfl (fun a w hf hO => zo (vs := []) (v := .agg #[int 0, str [], str [], int 0, str [], int 0, .slice none 0 0]) hf rfl (by kernel_rfl)) ?_
 refine rw_ rfl fun a w hf hO hm => ?_
 refine zd (i := 3) (n := 7) zA rfl rfl rfl (by simp [Value.oneCell']) hf rfl rfl hO fun w hO => ?_
 have hO := hO.nilRow 69 2
 refine S.op tb ?_ hf hO hm
 refine re_ rfl fun a w hf hO hm => ?_
 obtain rfl := Option.some.inj hm
 exact zf Tryz.results35 hf (.cell rfl (zc (n := 7) (vs := [int 0, str [], str [], int 0, str [], int 0, .slice none 0 0]) zau zA rfl ((hO.blkSees (i := 4) rfl).cells (o := 0) (n := 7) rfl)) (.tmp rfl .nil)) ⟨none, 0, rfl, (hO.sub (.cons_cons _ (.cons _ (.cons _ (.cons _ (.cons _ .slnil))))))⟩
 refine rc_ rfl fun a w hf hO hm => ?_
 obtain ⟨x61, hx61, hm⟩ := ob hm
 obtain ⟨b62, o63, hix61, hSx61, hAx61⟩ := zae (enc := zj) (sz := 1) (xs := r22) 31 Tryz.underlying31 zeB (by decide) (fun _ => rfl) hO (i := 1) rfl hx61
 obtain ⟨x64, hx64, hm⟩ := ob hm
 obtain ⟨b65, o66, hix64, hSx64, hAx64⟩ := zae (enc := zj) (sz := 1) (xs := r22) 31 Tryz.underlying31 zeB (by decide) (fun _ => rfl) hO (i := 1) rfl hx64
 refine zfy (S := Unit) (E0 := [(4, ptr b1 0), (7, .slice p23 r22.length c24), (8, int r32)]) (by kernel_rfl) (fun k σ w => match k with | 0 => Dk.Own w0 [] w [.blk b55 [int r54.1.Kind, str r54.1.Scheme, int r54.1.Host.Kind, str r54.1.Host.Name, int r54.1.Host.Port, str r54.1.Path, str r54.1.Query, .bool r54.1.HasQuery] 109, .row (.slice p23 r22.length c24) 9 1 r22.length (cells zj r22), .row (.slice none 0 0) 69 2 0 (cells za []), .blk b1 [int 0, str [], str [], int 0, str [], int 0, .slice none 0 0] 35] | _ => Dk.Own w0 [] w [.blk b55 [int r54.1.Kind, str r54.1.Scheme, int r54.1.Host.Kind, str r54.1.Host.Name, int r54.1.Host.Port, str r54.1.Path, str r54.1.Query, .bool r54.1.HasQuery] 109, .row (.slice p23 r22.length c24) 9 1 r22.length (cells zj r22), .row (.slice none 0 0) 69 2 0 (cells za []), .blk b1 [int 1, str x61, str x64, int 0, str [], int r32, .slice none 0 0] 35]) (fun σ => [⟨[(7, .slice p23 r22.length c24)], some (82, .slice p23 r22.length c24)⟩, ⟨[(82, .slice p23 r22.length c24)], some (83, ptr b62 o63)⟩, ⟨[(83, ptr b62 o63)], some (84, str x61)⟩, ⟨[(7, .slice p23 r22.length c24)], some (85, .slice p23 r22.length c24)⟩, ⟨[(85, .slice p23 r22.length c24)], some (86, ptr b65 o66)⟩, ⟨[(86, ptr b65 o66)], some (87, str x64)⟩, ⟨[(8, int r32)], some (88, int r32)⟩, ⟨[(84, str x61), (87, str x64), (88, int r32)], some (89, .agg #[int 1, str x61, str x64, int 0, str [], int r32, .slice none 0 0])⟩, ⟨[(4, ptr b1 0), (89, .agg #[int 1, str x61, str x64, int 0, str [], int r32, .slice none 0 0])], none⟩, ⟨[], some (5, int 0)⟩]) () [8] rfl (fun _ => rfl) (fun _ => rfl) (fun _ => rfl) rfl rfl (by decide) rfl hO.drew (hf.cons rfl (hf.cons rfl (hf.cons rfl hf.nil))) (fun σ => ⟨⟨rfl, trivial⟩, ⟨rfl, trivial⟩, ⟨rfl, trivial⟩, ⟨rfl, trivial⟩, ⟨rfl, trivial⟩, ⟨rfl, trivial⟩, ⟨rfl, trivial⟩, ⟨rfl, rfl, rfl, trivial⟩, ⟨rfl, rfl, trivial⟩, trivial, trivial⟩) ⟨zk rfl (fun σ => rfl) (fun σ => rfl) (fun σ a w k _ _ _ _ hf => zp hf rfl), zk rfl (fun σ => rfl) (fun σ => rfl) (fun σ a w k _ _ _ _ hf => zw hix61 hf rfl rfl), zk rfl (fun σ => rfl) (fun σ => rfl) (fun σ a w k hk hlo hup hst hf => match k, hk, hlo, hup, hst, hf with | 0, _, _, _, hst, hf => have hO : Dk.Own w0 [] w _ := hst; zb (o := 0) za6 (hSx61 _ (hO.rowSees (i := 1) rfl)) rfl hf rfl | 1, _, _, _, hst, hf => have hO : Dk.Own w0 [] w _ := hst; zb (o := 0) za6 (hSx61 _ (hO.rowSees (i := 1) rfl)) rfl hf rfl | k + 2, hk, _, _, _, _ => absurd hk (by simp)), zk rfl (fun σ => rfl) (fun σ => rfl) (fun σ a w k _ _ _ _ hf => zp hf rfl), zk rfl (fun σ => rfl) (fun σ => rfl) (fun σ a w k _ _ _ _ hf => zw hix64 hf rfl rfl), zk rfl (fun σ => rfl) (fun σ => rfl) (fun σ a w k hk hlo hup hst hf => match k, hk, hlo, hup, hst, hf with | 0, _, _, _, hst, hf => have hO : Dk.Own w0 [] w _ := hst; zb (o := 0) za6 (hSx64 _ (hO.rowSees (i := 1) rfl)) rfl hf rfl | 1, _, _, _, hst, hf => have hO : Dk.Own w0 [] w _ := hst; zb (o := 0) za6 (hSx64 _ (hO.rowSees (i := 1) rfl)) rfl hf rfl | k + 2, hk, _, _, _, _ => absurd hk (by simp)), zk rfl (fun σ => rfl) (fun σ => rfl) (fun σ a w k _ _ _ _ hf => zp hf rfl), zk rfl (fun σ => rfl) (fun σ => rfl) (fun σ a w k _ _ _ _ hf => zo (vs := [(0, int 1), (1, str x61), (2, str x64), (5, int r32)]) (v := .agg #[int 1, str x61, str x64, int 0, str [], int r32, .slice none 0 0]) hf rfl (by kernel_rfl)), zgp rfl (fun σ => rfl) (fun σ => rfl) rfl (fun σ w (hO : Dk.Own w0 [] w _) => by obtain ⟨w', hO', hr⟩ := zgh (x := (.tmp 4)) (y := (.tmp 89)) (E := [(4, ptr b1 0), (89, .agg #[int 1, str x61, str x64, int 0, str [], int r32, .slice none 0 0])]) (i := 3) (n := 7) (vs := [int 1, str x61, str x64, int 0, str [], int r32, .slice none 0 0]) zA rfl rfl rfl (by simp [Value.oneCell']) hO rfl rfl; exact ⟨(), w', hO', ⟨.inr rfl, .inr rfl, .inr rfl, .inr rfl, .inr rfl, .inr rfl, .inr rfl, .inr rfl, .inr rfl, .inr rfl, trivial⟩, hr⟩), zk rfl (fun σ => rfl) (fun σ => rfl) (fun σ a w k _ _ _ _ hf => zaE hf rfl), trivial⟩ ?_
 rintro _ a w hf hO
 have hO : Dk.Own w0 [] w _ := hO
 have hf : Fits 144 [(4, ptr b1 0), (5, int 0)] a := (hf.cons rfl (hf.cons rfl hf.nil))
 have hO := hO.nilRow 69 2
 refine S.no tb ?_ hf hO hm
 refine re_ rfl fun a w hf hO hm => ?_
 obtain rfl := Option.some.inj hm
 exact zf Tryz.results35 hf (.cell rfl (zc (n := 7) (vs := [int 1, str x61, str x64, int 0, str [], int r32, .slice none 0 0]) zau zA rfl ((hO.blkSees (i := 4) rfl).cells (o := 0) (n := 7) rfl)) (.tmp rfl .nil)) ⟨none, 0, rfl, (hO.sub (.cons_cons _ (.cons _ (.cons _ (.cons _ (.cons _ .slnil))))))⟩
 refine rw_ rfl fun a w hf hO hm => ?_
 obtain ⟨x69, hx69, hm⟩ := ob hm
 obtain ⟨b70, o71, hix69, hSx69, hAx69⟩ := zae (enc := zj) (sz := 1) (xs := r22) 31 Tryz.underlying31 zeB (by decide) (fun _ => rfl) hO (i := 0) rfl hx69
 refine zaL (zw hix69 hf rfl rfl) rfl hf rfl rfl fun a hf => ?_
 refine S.op tb ?_ hf hO hm
 refine vl rfl rfl (fun a w hf hO => zb (o := 0) za6 (hSx69 _ (hO.rowSees (i := 0) rfl)) rfl hf rfl) ?_
 refine cl c_67 rfl (fun r72 w hr72 hO => zi2 x69 r72 _ (hG.own hF hO) hr72) fun r72 hr72 => ?_
 refine br rfl (fun hc75 => ?_) fun hc75 => ?_
 refine vl rfl rfl (fun a w hf hO => zo (vs := []) (v := .agg #[int 0, str [], str [], int 0, str [], int 0, .slice none 0 0]) hf rfl (by kernel_rfl)) ?_
 refine rw_ rfl fun a w hf hO hm => ?_
 refine zd (i := 2) (n := 7) zA rfl rfl rfl (by simp [Value.oneCell']) hf rfl rfl hO fun w hO => ?_
 have hO := hO.nilRow 69 2
 refine S.op tb ?_ hf hO hm
 refine re_ rfl fun a w hf hO hm => ?_
 obtain rfl := Option.some.inj hm
 exact zf Tryz.results35 hf (.cell rfl (zc (n := 7) (vs := [int 0, str [], str [], int 0, str [], int 0, .slice none 0 0]) zau zA rfl ((hO.blkSees (i := 3) rfl).cells (o := 0) (n := 7) rfl)) (.tmp rfl .nil)) ⟨none, 0, rfl, (hO.sub (.cons_cons _ (.cons _ (.cons _ (.cons _ .slnil)))))⟩
 refine jn 1 (fun a w => ∃ (t83 : Bool), Fits 144 [(1, str x_a1), (4, ptr b1 0), (7, .slice p23 r22.length c24), (11, int r72), (110, .bool t83)] a ∧ Dk.Own w0 [] w [.row (.slice p23 r22.length c24) 9 1 r22.length (cells zj r22), .row (.slice none 0 0) 69 2 0 (cells za []), .blk b1 [int 0, str [], str [], int 0, str [], int 0, .slice none 0 0] 35] ∧ zaI x_a1 r22 r72 t83 = some R) rfl ?_ ?_
 refine br rfl (fun hc78 => ?_) fun hc78 => ?_
 exact en rfl fun a w hf hO hm => ⟨true, hf.sel rfl, hO, hm⟩
 refine br rfl (fun hc79 => ?_) fun hc79 => ?_
 exact en rfl fun a w hf hO hm => ⟨true, hf.sel rfl, hO, hm⟩
 refine rw_ rfl fun a w hf hO hm => ?_
 obtain ⟨x80, hx80, hm⟩ := ob hm
 obtain ⟨b81, o82, hix80, hSx80, hAx80⟩ := zae (enc := zj) (sz := 1) (xs := r22) 31 Tryz.underlying31 zeB (by decide) (fun _ => rfl) hO (i := 0) rfl hx80
 refine zaL (zw hix80 hf rfl rfl) rfl hf rfl rfl fun a hf => ?_
 refine S.op tb ?_ hf hO hm
 refine kn (b' := false) hc79 rfl ?_
 refine vl rfl rfl (fun a w hf hO => zb (o := 0) za6 (hSx80 _ (hO.rowSees (i := 0) rfl)) rfl hf rfl) ?_
 exact en rfl fun a w hf hO hm => ⟨!((x80.length : Int) == 3), hf.sel rfl, hO, hm⟩
 rintro a w ⟨t83, hf, hO, hm⟩
 rw [zaI] at hm
 refine S.co tb ?_ hf hO hm
 refine br rfl (fun hc84 => ?_) fun hc84 => ?_
 refine vl rfl rfl (fun a w hf hO => zo (vs := []) (v := .agg #[int 0, str [], str [], int 0, str [], int 0, .slice none 0 0]) hf rfl (by kernel_rfl)) ?_
 refine rw_ rfl fun a w hf hO hm => ?_
 refine zd (i := 2) (n := 7) zA rfl rfl rfl (by simp [Value.oneCell']) hf rfl rfl hO fun w hO => ?_
 have hO := hO.nilRow 69 2
 refine S.op tb ?_ hf hO hm
 refine re_ rfl fun a w hf hO hm => ?_
 obtain rfl := Option.some.inj hm
 exact zf Tryz.results35 hf (.cell rfl (zc (n := 7) (vs := [int 0, str [], str [], int 0, str [], int 0, .slice none 0 0]) zau zA rfl ((hO.blkSees (i := 3) rfl).cells (o := 0) (n := 7) rfl)) (.tmp rfl .nil)) ⟨none, 0, rfl, (hO.sub (.cons_cons _ (.cons _ (.cons _ (.cons _ .slnil)))))⟩
 refine rw_ rfl fun a w hf hO hm => ?_
 obtain ⟨x87, hx87, hm⟩ := ob hm
 obtain ⟨b88, o89, hix87, hSx87, hAx87⟩ := zae (enc := zj) (sz := 1) (xs := r22) 31 Tryz.underlying31 zeB (by decide) (fun _ => rfl) hO (i := 0) rfl hx87
 refine zaL (zw hix87 hf rfl rfl) rfl hf rfl rfl fun a hf => ?_
 refine S.op tb ?_ hf hO hm
 refine vl rfl rfl (fun a w hf hO => zb (o := 0) za6 (hSx87 _ (hO.rowSees (i := 0) rfl)) rfl hf rfl) ?_
 refine cl c_70 rfl (fun r90 w hr90 hO => zla x87 10 599 r90 _ (hG.own hF hO) hr90) fun r90 hr90 => ?_
 refine bi rfl fun s92 hs92 => ?_
 refine lp (fun k a w => ∃ (i95 : Int), Fits 144 [(4, ptr b1 0), (11, int r72), (12, int r90.1), (13, int r90.2), (14, str s92), (15, int i95)] a ∧ Dk.Own w0 [] w [.row (.slice p23 r22.length c24) 9 1 r22.length (cells zj r22), .row (.slice none 0 0) 69 2 0 (cells za []), .blk b1 [int 0, str [], str [], int 0, str [], int 0, .slice none 0 0] 35] ∧ zb0 r72 r90 s92 k i95 = some R) rfl (fun a w hf hO hm => ⟨0, hf.sel rfl, hO, hm⟩) ?_
 rintro n6 a w ⟨i95, hf, hO, hm⟩
 obtain _ | n6 := n6
 rw [zb0] at hm
 cases hm
 rw [zb0] at hm
 refine S.co tb ?_ hf hO hm
 refine br rfl (fun hc97 => ?_) fun hc97 => ?_
 refine bi rfl fun b99 hb99 => ?_
 refine cl c_71 rfl (fun r100 w hr100 hO => zj9 b99 r100 _ (hG.own hF hO) hr100) fun r100 hr100 => ?_
 refine br rfl (fun hc102 => ?_) fun hc102 => ?_
 refine vl rfl rfl (fun a w hf hO => zo (vs := []) (v := .agg #[int 0, str [], str [], int 0, str [], int 0, .slice none 0 0]) hf rfl (by kernel_rfl)) ?_
 refine rw_ rfl fun a w hf hO hm => ?_
 refine zd (i := 2) (n := 7) zA rfl rfl rfl (by simp [Value.oneCell']) hf rfl rfl hO fun w hO => ?_
 have hO := hO.nilRow 69 2
 refine S.op tb ?_ hf hO hm
 refine re_ rfl fun a w hf hO hm => ?_
 obtain rfl := Option.some.inj hm
 exact zf Tryz.results35 hf (.cell rfl (zc (n := 7) (vs := [int 0, str [], str [], int 0, str [], int 0, .slice none 0 0]) zau zA rfl ((hO.blkSees (i := 3) rfl).cells (o := 0) (n := 7) rfl)) (.tmp rfl .nil)) ⟨none, 0, rfl, (hO.sub (.cons_cons _ (.cons _ (.cons _ (.cons _ .slnil)))))⟩
 refine bi rfl fun i105 hi105 => ?_
 exact en rfl fun a w hf hO hm => ⟨_, Nat.lt_succ_self _, i105, hf.sel rfl, hO, hm⟩
 refine jn 1 (fun a w => ∃ (t108 : Bool), Fits 144 [(4, ptr b1 0), (11, int r72), (12, int r90.1), (14, str s92), (138, .bool t108)] a ∧ Dk.Own w0 [] w [.row (.slice p23 r22.length c24) 9 1 r22.length (cells zj r22), .row (.slice none 0 0) 69 2 0 (cells za []), .blk b1 [int 0, str [], str [], int 0, str [], int 0, .slice none 0 0] 35] ∧ zes r72 r90 s92 t108 = some R) rfl ?_ ?_
 refine br rfl (fun hc107 => ?_) fun hc107 => ?_
 exact en rfl fun a w hf hO hm => ⟨true, hf.sel rfl, hO, hm⟩
 exact en rfl fun a w hf hO hm => ⟨decide (r90.1 < 100), hf.sel rfl, hO, hm⟩
 rintro a w ⟨t108, hf, hO, hm⟩
 rw [zes] at hm
 refine S.co tb ?_ hf hO hm
 refine br rfl (fun hc109 => ?_) fun hc109 => ?_
 refine vl rfl rfl (fun a w hf hO => zo (vs := []) (v := .agg #[int 0, str [], str [], int 0, str [], int 0, .slice none 0 0]) hf rfl (by kernel_rfl)) ?_
 refine rw_ rfl fun a w hf hO hm => ?_
 refine zd (i := 2) (n := 7) zA rfl rfl rfl (by simp [Value.oneCell']) hf rfl rfl hO fun w hO => ?_
 have hO := hO.nilRow 69 2
 refine S.op tb ?_ hf hO hm
 refine re_ rfl fun a w hf hO hm => ?_
 obtain rfl := Option.some.inj hm
 exact zf Tryz.results35 hf (.cell rfl (zc (n := 7) (vs := [int 0, str [], str [], int 0, str [], int 0, .slice none 0 0]) zau zA rfl ((hO.blkSees (i := 3) rfl).cells (o := 0) (n := 7) rfl)) (.tmp rfl .nil)) ⟨none, 0, rfl, (hO.sub (.cons_cons _ (.cons _ (.cons _ (.cons _ .slnil)))))⟩
 refine vl rfl rfl (fun a w hf hO => zo (vs := [(0, int 2), (5, int r72), (3, int r90.1), (4, str s92)]) (v := .agg #[int 2, str [], str [], int r90.1, str s92, int r72, .slice none 0 0]) hf rfl (by kernel_rfl)) ?_
 refine rw_ rfl fun a w hf hO hm => ?_
 refine zd (i := 2) (n := 7) zA rfl rfl rfl (by simp [Value.oneCell']) hf rfl rfl hO fun w hO => ?_
 have hO := hO.nilRow 69 2
 refine S.op tb ?_ hf hO hm
 refine re_ rfl fun a w hf hO hm => ?_
 obtain rfl := Option.some.inj hm
 exact zf Tryz.results35 hf (.cell rfl (zc (n := 7) (vs := [int 2, str [], str [], int r90.1, str s92, int r72, .slice none 0 0]) zau zA rfl ((hO.blkSees (i := 3) rfl).cells (o := 0) (n := 7) rfl)) (.tmp rfl .nil)) ⟨none, 0, rfl, (hO.sub (.cons_cons _ (.cons _ (.cons _ (.cons _ .slnil)))))⟩

theorem zhY (x_b : UInt8) (R : Bool) (w0 : World) (hG : zD w0) (hm : zeu x_b = some R) :
    Calls Tryz.prog 72 #[zY x_b] w0 (Ret w0 (fun R => .bool R) R) := by
 rw [zeu] at hm
 have hF : zG [] := zg
 have hO : Dk.Own w0 [] w0 [] := Dk.Own.refl w0
 refine S.enter tb Tryz.func72 rfl Tryz.ntmps72 rfl ?_ hO hm
 refine jn 0 (fun a w => ∃ (t3 : Bool), Fits 9 [(2, .bool t3)] a ∧ Dk.Own w0 [] w [] ∧ zfP t3 = some R) rfl ?_ ?_
 refine vl rfl rfl (fun a w hf hO => zU (b := x_b) (c := 32) hf rfl rfl) ?_
 refine br rfl (fun hc2 => ?_) fun hc2 => ?_
 exact en rfl fun a w hf hO hm => ⟨true, hf.sel rfl, hO, hm⟩
 refine vl rfl rfl (fun a w hf hO => zU (b := x_b) (c := 9) hf rfl rfl) ?_
 exact en rfl fun a w hf hO hm => ⟨x_b == 9, hf.sel rfl, hO, hm⟩
 rintro a w ⟨t3, hf, hO, hm⟩
 rw [zfP] at hm
 refine S.co tb ?_ hf hO hm
 exact rt Tryz.results72 rfl

theorem zkQ (x_s : Str) (R : Str) (w0 : World) (hG : zD w0) (hm : zgd x_s = some R) :
    Calls Tryz.prog 73 #[str x_s] w0 (Ret w0 (fun R => str R) R) := by
 rw [zgd] at hm
 have hF : zG [] := zg
 have hO : Dk.Own w0 [] w0 [] := Dk.Own.refl w0
 refine S.enter tb Tryz.func73 rfl Tryz.ntmps73 rfl ?_ hO hm
 refine lp (fun k a w => ∃ (s2 : Str), Fits 30 [(0, str s2)] a ∧ Dk.Own w0 [] w [] ∧ zbm k s2 = some R) rfl (fun a w hf hO hm => ⟨x_s, hf.sel rfl, hO, hm⟩) ?_
 rintro n1 a w ⟨s2, hf, hO, hm⟩
 obtain _ | n1 := n1
 rw [zbm] at hm
 cases hm
 rw [zbm] at hm
 refine S.co tb ?_ hf hO hm
 refine jn 4 (fun a w => ∃ (t6 : Bool), Fits 30 [(0, str s2), (10, .bool t6)] a ∧ Dk.Own w0 [] w [] ∧ zdX (zbm n1) s2 t6 = some R) rfl ?_ ?_
 refine br rfl (fun hc3 => ?_) fun hc3 => ?_
 refine bi rfl fun b4 hb4 => ?_
 refine cl c_72 rfl (fun r5 w hr5 hO => zhY b4 r5 _ (hG.own hF hO) hr5) fun r5 hr5 => ?_
 exact en rfl fun a w hf hO hm => ⟨r5, hf.sel rfl, hO, hm⟩
 exact en rfl fun a w hf hO hm => ⟨false, hf.sel rfl, hO, hm⟩
 rintro a w ⟨t6, hf, hO, hm⟩
 rw [zdX] at hm
 refine S.co tb ?_ hf hO hm
 refine br rfl (fun hc7 => ?_) fun hc7 => ?_
 refine bi rfl fun s9 hs9 => ?_
 exact en rfl fun a w hf hO hm => ⟨_, Nat.lt_succ_self _, s9, hf.sel rfl, hO, hm⟩
 refine lp (fun k a w => ∃ (s11 : Str), Fits 30 [(0, str s11)] a ∧ Dk.Own w0 [] w [] ∧ zbl k s11 = some R) rfl (fun a w hf hO hm => ⟨s2, hf.sel rfl, hO, hm⟩) ?_
 rintro n3 a w ⟨s11, hf, hO, hm⟩
 obtain _ | n3 := n3
 rw [zbl] at hm
 cases hm
 rw [zbl] at hm
 refine S.co tb ?_ hf hO hm
 refine jn 4 (fun a w => ∃ (t16 : Bool), Fits 30 [(0, str s11), (23, .bool t16)] a ∧ Dk.Own w0 [] w [] ∧ zdW (zbl n3) s11 t16 = some R) rfl ?_ ?_
 refine br rfl (fun hc12 => ?_) fun hc12 => ?_
 refine bi rfl fun i13 hi13 => ?_
 refine bi rfl fun b14 hb14 => ?_
 refine cl c_72 rfl (fun r15 w hr15 hO => zhY b14 r15 _ (hG.own hF hO) hr15) fun r15 hr15 => ?_
 exact en rfl fun a w hf hO hm => ⟨r15, hf.sel rfl, hO, hm⟩
 exact en rfl fun a w hf hO hm => ⟨false, hf.sel rfl, hO, hm⟩
 rintro a w ⟨t16, hf, hO, hm⟩
 rw [zdW] at hm
 refine S.co tb ?_ hf hO hm
 refine br rfl (fun hc17 => ?_) fun hc17 => ?_
 refine bi rfl fun i19 hi19 => ?_
 refine bi rfl fun s20 hs20 => ?_
 exact en rfl fun a w hf hO hm => ⟨_, Nat.lt_succ_self _, s20, hf.sel rfl, hO, hm⟩
 exact rt Tryz.results73 rfl

theorem zm6 (x_s : Str) (R : Bool) (w0 : World) (hG : zD w0) (hm : zfQ x_s = some R) :
    Calls Tryz.prog 74 #[str x_s] w0 (Ret w0 (fun R => .bool R) R) := by
 rw [zfQ] at hm
 have hF : zG [] := zg
 have hO : Dk.Own w0 [] w0 [] := Dk.Own.refl w0
 refine S.enter tb Tryz.func74 rfl Tryz.ntmps74 rfl ?_ hO hm
 refine lp (fun k a w => ∃ (i3 : Int), Fits 15 [(0, str x_s), (3, int i3)] a ∧ Dk.Own w0 [] w [] ∧ zca x_s k i3 = some R) rfl (fun a w hf hO hm => ⟨0, hf.sel rfl, hO, hm⟩) ?_
 rintro n1 a w ⟨i3, hf, hO, hm⟩
 obtain _ | n1 := n1
 rw [zca] at hm
 cases hm
 rw [zca] at hm
 refine S.co tb ?_ hf hO hm
 refine br rfl (fun hc5 => ?_) fun hc5 => ?_
 refine bi rfl fun b7 hb7 => ?_
 refine cl c_71 rfl (fun r8 w hr8 hO => zj9 b7 r8 _ (hG.own hF hO) hr8) fun r8 hr8 => ?_
 refine br rfl (fun hc10 => ?_) fun hc10 => ?_
 exact rt Tryz.results74 rfl
 refine bi rfl fun i13 hi13 => ?_
 exact en rfl fun a w hf hO hm => ⟨_, Nat.lt_succ_self _, i13, hf.sel rfl, hO, hm⟩
 exact rt Tryz.results74 rfl

theorem zkb (x_a0 : Str) (R : api_Field × Int) (w0 : World) (hG : zD w0) (hm : zft x_a0 = some R) :
    Calls Tryz.prog 36 #[str x_a0] w0 (Ret w0 (fun R => .tuple #[.agg #[str R.1.Name, str R.1.Value], int R.2]) R) := by
 rw [zft] at hm
 have hF : zG [] := zg
 have hO : Dk.Own w0 [] w0 [] := Dk.Own.refl w0
 refine S.enter tb Tryz.func36 rfl Tryz.ntmps36 rfl ?_ hO hm
 refine rw_ rfl fun a w hf hO hm => ?_
 refine zx zoD hf rfl hO fun a b1 w hf hO => ?_
 refine S.op tb ?_ hf hO hm
 refine lp (fun k a w => ∃ (i4 : Int), Fits 78 [(0, str x_a0), (2, ptr b1 0), (4, int i4)] a ∧ Dk.Own w0 [] w [.blk b1 [str [], str []] 69] ∧ zbr x_a0 k i4 = some R) rfl (fun a w hf hO hm => ⟨0, hf.sel rfl, hO, hm⟩) ?_
 rintro n1 a w ⟨i4, hf, hO, hm⟩
 obtain _ | n1 := n1
 rw [zbr] at hm
 cases hm
 rw [zbr] at hm
 refine S.co tb ?_ hf hO hm
 refine br rfl (fun hc6 => ?_) fun hc6 => ?_
 refine jn 5 (fun a w => ∃ (t11 : Bool), Fits 78 [(0, str x_a0), (2, ptr b1 0), (4, int i4), (22, .bool t11)] a ∧ Dk.Own w0 [] w [.blk b1 [str [], str []] 69] ∧ zev (zbr x_a0 n1) i4 t11 = some R) rfl ?_ ?_
 refine bi rfl fun b8 hb8 => ?_
 refine vl rfl rfl (fun a w hf hO => zU (b := b8) (c := 13) hf rfl rfl) ?_
 refine br rfl (fun hc9 => ?_) fun hc9 => ?_
 exact en rfl fun a w hf hO hm => ⟨true, hf.sel rfl, hO, hm⟩
 refine bi rfl fun b10 hb10 => ?_
 refine vl rfl rfl (fun a w hf hO => zU (b := b10) (c := 10) hf rfl rfl) ?_
 exact en rfl fun a w hf hO hm => ⟨b10 == 10, hf.sel rfl, hO, hm⟩
 rintro a w ⟨t11, hf, hO, hm⟩
 rw [zev] at hm
 refine S.co tb ?_ hf hO hm
 refine br rfl (fun hc12 => ?_) fun hc12 => ?_
 refine vl rfl rfl (fun a w hf hO => zo (vs := []) (v := .agg #[str [], str []]) hf rfl (by kernel_rfl)) ?_
 refine rw_ rfl fun a w hf hO hm => ?_
 refine zd (i := 0) (n := 2) zbt rfl rfl rfl (by simp [Value.oneCell']) hf rfl rfl hO fun w hO => ?_
 refine S.op tb ?_ hf hO hm
 refine re_ rfl fun a w hf hO hm => ?_
 obtain rfl := Option.some.inj hm
 exact zf Tryz.results36 hf (.cell rfl (zc (n := 2) (vs := [str [], str []]) zf3 zbt rfl ((hO.blkSees (i := 0) rfl).cells (o := 0) (n := 2) rfl)) (.tmp rfl .nil)) ⟨rfl, hO.below⟩
 refine bi rfl fun i15 hi15 => ?_
 exact en rfl fun a w hf hO hm => ⟨_, Nat.lt_succ_self _, i15, hf.sel rfl, hO, hm⟩
 refine jn 1 (fun a w => ∃ (t20 : Bool), Fits 78 [(0, str x_a0), (2, ptr b1 0), (31, .bool t20)] a ∧ Dk.Own w0 [] w [.blk b1 [str [], str []] 69] ∧ zcG x_a0 t20 = some R) rfl ?_ ?_
 refine br rfl (fun hc17 => ?_) fun hc17 => ?_
 refine bi rfl fun b18 hb18 => ?_
 refine cl c_72 rfl (fun r19 w hr19 hO => zhY b18 r19 _ (hG.own hF hO) hr19) fun r19 hr19 => ?_
 exact en rfl fun a w hf hO hm => ⟨r19, hf.sel rfl, hO, hm⟩
 exact en rfl fun a w hf hO hm => ⟨false, hf.sel rfl, hO, hm⟩
 rintro a w ⟨t20, hf, hO, hm⟩
 rw [zcG] at hm
 refine S.co tb ?_ hf hO hm
 refine br rfl (fun hc21 => ?_) fun hc21 => ?_
 refine vl rfl rfl (fun a w hf hO => zo (vs := []) (v := .agg #[str [], str []]) hf rfl (by kernel_rfl)) ?_
 refine rw_ rfl fun a w hf hO hm => ?_
 refine zd (i := 0) (n := 2) zbt rfl rfl rfl (by simp [Value.oneCell']) hf rfl rfl hO fun w hO => ?_
 refine S.op tb ?_ hf hO hm
 refine re_ rfl fun a w hf hO hm => ?_
 obtain rfl := Option.some.inj hm
 exact zf Tryz.results36 hf (.cell rfl (zc (n := 2) (vs := [str [], str []]) zf3 zbt rfl ((hO.blkSees (i := 0) rfl).cells (o := 0) (n := 2) rfl)) (.tmp rfl .nil)) ⟨rfl, hO.below⟩
 refine lp (fun k a w => ∃ (i25 : Int), Fits 78 [(0, str x_a0), (2, ptr b1 0), (5, int i25)] a ∧ Dk.Own w0 [] w [.blk b1 [str [], str []] 69] ∧ zaJ x_a0 k i25 = some R) rfl (fun a w hf hO hm => ⟨0, hf.sel rfl, hO, hm⟩) ?_
 rintro n4 a w ⟨i25, hf, hO, hm⟩
 obtain _ | n4 := n4
 rw [zaJ] at hm
 cases hm
 rw [zaJ] at hm
 refine S.co tb ?_ hf hO hm
 refine jn 4 (fun a w => ∃ (t28 : Bool), Fits 78 [(0, str x_a0), (2, ptr b1 0), (5, int i25), (42, .bool t28)] a ∧ Dk.Own w0 [] w [.blk b1 [str [], str []] 69] ∧ zcF (zaJ x_a0 n4) x_a0 i25 t28 = some R) rfl ?_ ?_
 refine br rfl (fun hc26 => ?_) fun hc26 => ?_
 refine bi rfl fun b27 hb27 => ?_
 refine vl rfl rfl (fun a w hf hO => zcJ (b := b27) (c := 58) hf rfl rfl) ?_
 exact en rfl fun a w hf hO hm => ⟨!(b27 == 58), hf.sel rfl, hO, hm⟩
 exact en rfl fun a w hf hO hm => ⟨false, hf.sel rfl, hO, hm⟩
 rintro a w ⟨t28, hf, hO, hm⟩
 rw [zcF] at hm
 refine S.co tb ?_ hf hO hm
 refine br rfl (fun hc29 => ?_) fun hc29 => ?_
 refine bi rfl fun i31 hi31 => ?_
 exact en rfl fun a w hf hO hm => ⟨_, Nat.lt_succ_self _, i31, hf.sel rfl, hO, hm⟩
 refine bi rfl fun s33 hs33 => ?_
 refine cl c_73 rfl (fun r34 w hr34 hO => zkQ s33 r34 _ (hG.own hF hO) hr34) fun r34 hr34 => ?_
 refine jn 1 (fun a w => ∃ (t38 : Bool), Fits 78 [(0, str x_a0), (2, ptr b1 0), (5, int i25), (6, str r34), (57, .bool t38)] a ∧ Dk.Own w0 [] w [.blk b1 [str [], str []] 69] ∧ zew x_a0 i25 r34 t38 = some R) rfl ?_ ?_
 refine br rfl (fun hc36 => ?_) fun hc36 => ?_
 exact en rfl fun a w hf hO hm => ⟨true, hf.sel rfl, hO, hm⟩
 refine cl c_68 rfl (fun r37 w hr37 hO => zkh r34 r37 _ (hG.own hF hO) hr37) fun r37 hr37 => ?_
 exact en rfl fun a w hf hO hm => ⟨!r37, hf.sel rfl, hO, hm⟩
 rintro a w ⟨t38, hf, hO, hm⟩
 rw [zew] at hm
 refine S.co tb ?_ hf hO hm
 refine br rfl (fun hc39 => ?_) fun hc39 => ?_
 refine vl rfl rfl (fun a w hf hO => zo (vs := []) (v := .agg #[str [], str []]) hf rfl (by kernel_rfl)) ?_
 refine rw_ rfl fun a w hf hO hm => ?_
 refine zd (i := 0) (n := 2) zbt rfl rfl rfl (by simp [Value.oneCell']) hf rfl rfl hO fun w hO => ?_
 refine S.op tb ?_ hf hO hm
 refine re_ rfl fun a w hf hO hm => ?_
 obtain rfl := Option.some.inj hm
 exact zf Tryz.results36 hf (.cell rfl (zc (n := 2) (vs := [str [], str []]) zf3 zbt rfl ((hO.blkSees (i := 0) rfl).cells (o := 0) (n := 2) rfl)) (.tmp rfl .nil)) ⟨rfl, hO.below⟩
 refine br rfl (fun hc43 => ?_) fun hc43 => ?_
 refine vl rfl rfl (fun a w hf hO => zo (vs := []) (v := .agg #[str [], str []]) hf rfl (by kernel_rfl)) ?_
 refine rw_ rfl fun a w hf hO hm => ?_
 refine zd (i := 0) (n := 2) zbt rfl rfl rfl (by simp [Value.oneCell']) hf rfl rfl hO fun w hO => ?_
 refine S.op tb ?_ hf hO hm
 refine re_ rfl fun a w hf hO hm => ?_
 obtain rfl := Option.some.inj hm
 exact zf Tryz.results36 hf (.cell rfl (zc (n := 2) (vs := [str [], str []]) zf3 zbt rfl ((hO.blkSees (i := 0) rfl).cells (o := 0) (n := 2) rfl)) (.tmp rfl .nil)) ⟨rfl, hO.below⟩
 refine bi rfl fun i46 hi46 => ?_
 refine bi rfl fun s47 hs47 => ?_
 refine cl c_74 rfl (fun r48 w hr48 hO => zm6 s47 r48 _ (hG.own hF hO) hr48) fun r48 hr48 => ?_
 refine br rfl (fun hc50 => ?_) fun hc50 => ?_
 refine vl rfl rfl (fun a w hf hO => zo (vs := []) (v := .agg #[str [], str []]) hf rfl (by kernel_rfl)) ?_
 refine rw_ rfl fun a w hf hO hm => ?_
 refine zd (i := 0) (n := 2) zbt rfl rfl rfl (by simp [Value.oneCell']) hf rfl rfl hO fun w hO => ?_
 refine S.op tb ?_ hf hO hm
 refine re_ rfl fun a w hf hO hm => ?_
 obtain rfl := Option.some.inj hm
 exact zf Tryz.results36 hf (.cell rfl (zc (n := 2) (vs := [str [], str []]) zf3 zbt rfl ((hO.blkSees (i := 0) rfl).cells (o := 0) (n := 2) rfl)) (.tmp rfl .nil)) ⟨rfl, hO.below⟩
 refine bi rfl fun i53 hi53 => ?_
 refine bi rfl fun s54 hs54 => ?_
 refine cl c_73 rfl (fun r55 w hr55 hO => zkQ s54 r55 _ (hG.own hF hO) hr55) fun r55 hr55 => ?_
 refine vl rfl rfl (fun a w hf hO => zo (vs := [(0, str r34), (1, str r55)]) (v := .agg #[str r34, str r55]) hf rfl (by kernel_rfl)) ?_
 refine rw_ rfl fun a w hf hO hm => ?_
 refine zd (i := 0) (n := 2) zbt rfl rfl rfl (by simp [Value.oneCell']) hf rfl rfl hO fun w hO => ?_
 refine S.op tb ?_ hf hO hm
 refine re_ rfl fun a w hf hO hm => ?_
 obtain rfl := Option.some.inj hm
 exact zf Tryz.results36 hf (.cell rfl (zc (n := 2) (vs := [str r34, str r55]) zf3 zbt rfl ((hO.blkSees (i := 0) rfl).cells (o := 0) (n := 2) rfl)) (.tmp rfl .nil)) ⟨rfl, hO.below⟩

theorem zqc (x_b : Str) (R : Int) (w0 : World) (hG : zD w0) (hm : zig x_b = some R) :
    Calls Tryz.prog 48 #[str x_b] w0 (Ret w0 (fun R => int R) R) := by
 rw [zig] at hm
 have hF : zG [] := zg
 have hO : Dk.Own w0 [] w0 [] := Dk.Own.refl w0
 refine S.enter tb Tryz.func48 rfl Tryz.ntmps48 rfl ?_ hO hm
 refine lp (fun k a w => ∃ (i3 : Int), Fits 19 [(0, str x_b), (3, int i3)] a ∧ Dk.Own w0 [] w [] ∧ zdA x_b k i3 = some R) rfl (fun a w hf hO hm => ⟨0, hf.sel rfl, hO, hm⟩) ?_
 rintro n1 a w ⟨i3, hf, hO, hm⟩
 obtain _ | n1 := n1
 rw [zdA] at hm
 cases hm
 rw [zdA] at hm
 refine S.co tb ?_ hf hO hm
 refine bi rfl fun i4 hi4 => ?_
 refine br rfl (fun hc6 => ?_) fun hc6 => ?_
 refine bi rfl fun i8 hi8 => ?_
 refine bi rfl fun s9 hs9 => ?_
 refine br rfl (fun hc11 => ?_) fun hc11 => ?_
 refine bi rfl fun i12 hi12 => ?_
 exact rt Tryz.results48 rfl
 refine bi rfl fun i15 hi15 => ?_
 exact en rfl fun a w hf hO hm => ⟨_, Nat.lt_succ_self _, i15, hf.sel rfl, hO, hm⟩
 exact rt Tryz.results48 rfl

theorem zqW (x_f : api_Field) (x_name : Str) (R : Bool) (w0 : World) (hG : zD w0) (hm : zjs x_f x_name = some R) :
    Calls Tryz.prog 125 #[.agg #[str x_f.Name, str x_f.Value], str x_name] w0 (Ret w0 (fun R => .bool R) R) := by
 rw [zjs] at hm
 have hF : zG [] := zg
 have hO : Dk.Own w0 [] w0 [] := Dk.Own.refl w0
 refine S.enter tb Tryz.func125 rfl Tryz.ntmps125 rfl ?_ hO hm
 refine rw_ rfl fun a w hf hO hm => ?_
 refine zeA (v := .agg #[str x_f.Name, str x_f.Value]) (cs := [str x_f.Name, str x_f.Value]) rfl hf rfl rfl hO fun a b1 w hf hO => ?_
 refine S.op tb ?_ hf hO hm
 refine vl rfl rfl (fun a w hf hO => zb (o := 0) za6 (hO.blkSees (i := 0) rfl) rfl hf rfl) ?_
 refine cl zty rfl (fun r3 w hr3 hO => ziB x_f.Name r3 _ (hG.own hF hO) hr3) fun r3 hr3 => ?_
 refine cl zty rfl (fun r4 w hr4 hO => ziB x_name r4 _ (hG.own hF hO) hr4) fun r4 hr4 => ?_
 exact rt Tryz.results125 rfl

end Go.Proofs
