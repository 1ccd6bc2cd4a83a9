/-
  Walks, written by a program (wip/gen): what its model says, the function returns; what was there before is as it was.
  Walks, written by a program (wip/gen): what its model says, the function returns; what was there before is as it was.
  Walks, written by a program (wip/gen): what its model says, the function returns; what was there before is as it was.
-/
import Derived.Test.YtoofmjmnhgdloaaGreatDoorLib
import Derived.Test.YtoofmjmnhgdloaaGreatDoorW8
import Derived.Test.YtoofmjmnhgdloaaGreatDoorW4
section
set_option linter.unusedVariables false
set_option maxHeartbeats 1000000
set_option linter.unusedSimpArgs false
set_option maxRecDepth 100000
namespace Go.Proofs
open Go.Dk Go.Dm Go.RowKit

theorem zjC (x_s : Str) (R : Bool) (w0 : World) (hG : zx w0) (hm : ze1 x_s = some R) :
    Calls Tryz.prog 117 #[str x_s] w0 (Ret w0 (fun R => .bool R) R) := by
 rw [ze1] at hm
 have hF : zz [] := zf
 have hO : Dk.Own w0 [] w0 [] := Dk.Own.refl w0
 refine S.enter tb Tryz.func117 rfl Tryz.ntmps117 rfl ?_ hO hm
 refine cl zpL rfl (fun r2 w hr2 hO => zmg x_s [47, 63] r2 _ (hG.own hF hO) hr2) fun r2 hr2 => ?_
 exact rt Tryz.results117 rfl

theorem ziL (x_t : api_Target) (x_s : Str) (R : api_Target × Bool) (w0 : World) (hG : zx w0) (hm : zeb x_t x_s = some R) :
    Calls Tryz.prog 115 #[.agg #[int x_t.Kind, str x_t.Scheme, int x_t.Host.Kind, str x_t.Host.Name, int x_t.Host.Port, str x_t.Path, str x_t.Query, .bool x_t.HasQuery], str x_s] w0 (Ret w0 (fun R => .tuple #[.agg #[int R.1.Kind, str R.1.Scheme, int R.1.Host.Kind, str R.1.Host.Name, int R.1.Host.Port, str R.1.Path, str R.1.Query, .bool R.1.HasQuery], .bool R.2]) R) := by
 rw [zeb] at hm
 have hF : zz [] := zf
 have hO : Dk.Own w0 [] w0 [] := Dk.Own.refl w0
 refine S.enter tb Tryz.func115 rfl Tryz.ntmps115 rfl ?_ hO hm
 refine rw_ rfl fun a w hf hO hm => ?_
 refine zbU (v := .agg #[int x_t.Kind, str x_t.Scheme, int x_t.Host.Kind, str x_t.Host.Name, int x_t.Host.Port, str x_t.Path, str x_t.Query, .bool x_t.HasQuery]) (cs := [int x_t.Kind, str x_t.Scheme, int x_t.Host.Kind, str x_t.Host.Name, int x_t.Host.Port, str x_t.Path, str x_t.Query, .bool x_t.HasQuery]) rfl hf rfl rfl hO fun a b1 w hf hO => ?_
 refine S.op tb ?_ hf hO hm
 refine rw_ rfl fun a w hf hO hm => ?_
 refine zt zfN hf rfl hO fun a b2 w hf hO => ?_
 refine S.op tb ?_ hf hO hm
 refine cl c_152 rfl (fun r4 w hr4 hO => zor x_s r4 _ (hG.own hF hO) hr4) fun r4 hr4 => ?_
 refine bi rfl fun s6 hs6 => ?_
 refine rw_ rfl fun a w hf hO hm => ?_
 refine z6 (i := 1) (o := 5) (v := str s6) zd1 rfl rfl rfl rfl hf rfl rfl hO fun w hO => ?_
 refine S.op tb ?_ hf hO hm
 refine rw_ rfl fun a w hf hO hm => ?_
 refine z6 (i := 1) (o := 7) (v := .bool (decide (r4 < (x_s.length : Int)))) sz_4 rfl rfl rfl rfl hf rfl rfl hO fun w hO => ?_
 refine S.op tb ?_ hf hO hm
 refine jn 0 (fun a w => ∃ (s13 : Str), Fits 34 [(2, ptr b1 0), (4, ptr b2 0)] a ∧ Dk.Own w0 [] w [.blk b2 [int 0, str [], int 0, str [], int 0, str [], str [], .bool false] 109, .blk b1 [int x_t.Kind, str x_t.Scheme, int x_t.Host.Kind, str x_t.Host.Name, int x_t.Host.Port, str s6, str s13, .bool (decide (r4 < (x_s.length : Int)))] 109] ∧ zcq x_t x_s r4 s6 s13 = some R) rfl ?_ ?_
 refine vl rfl rfl (fun a w hf hO => zb (o := 7) ag_4 (hO.blkSees (i := 1) rfl) rfl hf rfl) ?_
 refine br rfl (fun hc10 => ?_) fun hc10 => ?_
 refine bi rfl fun i11 hi11 => ?_
 refine bi rfl fun s12 hs12 => ?_
 refine rw_ rfl fun a w hf hO hm => ?_
 refine z6 (i := 1) (o := 6) (v := str s12) zd1 rfl rfl rfl rfl hf rfl rfl hO fun w hO => ?_
 refine S.op tb ?_ hf hO hm
 exact en rfl fun a w hf hO hm => ⟨s12, hf.sel rfl, hO, hm⟩
 exact en rfl fun a w hf hO hm => ⟨x_t.Query, hf.sel rfl, hO, hm⟩
 rintro a w ⟨s13, hf, hO, hm⟩
 rw [zcq] at hm
 refine S.co tb ?_ hf hO hm
 refine jn 0 (fun a w => ∃ (t17 : Bool), Fits 34 [(4, ptr b2 0), (5, .bool t17)] a ∧ Dk.Own w0 [] w [.blk b2 [int x_t.Kind, str x_t.Scheme, int x_t.Host.Kind, str x_t.Host.Name, int x_t.Host.Port, str s6, str s13, .bool (decide (r4 < (x_s.length : Int)))] 109, .blk b1 [int x_t.Kind, str x_t.Scheme, int x_t.Host.Kind, str x_t.Host.Name, int x_t.Host.Port, str s6, str s13, .bool (decide (r4 < (x_s.length : Int)))] 109] ∧ zc9 x_t x_s r4 s6 s13 t17 = some R) rfl ?_ ?_
 refine rc_ rfl fun a w hf hO hm => ?_
 obtain ⟨r14, hr14, hm⟩ := ob hm
 rcases zct (r14) with hc15 | hc15
 have hm := it hc15 hm
 obtain ⟨r16, hr16, hm⟩ := ob hm
 refine zjn (S := Unit) (E0 := [(2, ptr b1 0), (4, ptr b2 0)]) (by kernel_rfl) (fun k σ w => match k with | 0 => Dk.Own w0 [] w [.blk b2 [int 0, str [], int 0, str [], int 0, str [], str [], .bool false] 109, .blk b1 [int x_t.Kind, str x_t.Scheme, int x_t.Host.Kind, str x_t.Host.Name, int x_t.Host.Port, str s6, str s13, .bool (decide (r4 < (x_s.length : Int)))] 109] | 1 => Dk.Own w0 [] w [.blk b2 [int 0, str [], int 0, str [], int 0, str [], str [], .bool false] 109, .blk b1 [int x_t.Kind, str x_t.Scheme, int x_t.Host.Kind, str x_t.Host.Name, int x_t.Host.Port, str s6, str s13, .bool (decide (r4 < (x_s.length : Int)))] 109] | 2 => Dk.Own w0 [] w [.blk b2 [int 0, str [], int 0, str [], int 0, str [], str [], .bool false] 109, .blk b1 [int x_t.Kind, str x_t.Scheme, int x_t.Host.Kind, str x_t.Host.Name, int x_t.Host.Port, str s6, str s13, .bool (decide (r4 < (x_s.length : Int)))] 109] | _ => Dk.Own w0 [] w [.blk b2 [int x_t.Kind, str x_t.Scheme, int x_t.Host.Kind, str x_t.Host.Name, int x_t.Host.Port, str s6, str s13, .bool (decide (r4 < (x_s.length : Int)))] 109, .blk b1 [int x_t.Kind, str x_t.Scheme, int x_t.Host.Kind, str x_t.Host.Name, int x_t.Host.Port, str s6, str s13, .bool (decide (r4 < (x_s.length : Int)))] 109]) (fun σ => [⟨[(2, ptr b1 0)], some (25, .agg #[int x_t.Kind, str x_t.Scheme, int x_t.Host.Kind, str x_t.Host.Name, int x_t.Host.Port, str s6, str s13, .bool (decide (r4 < (x_s.length : Int)))])⟩, ⟨[(2, ptr b1 0)], some (26, ptr b1 5)⟩, ⟨[(26, ptr b1 5)], some (27, str s6)⟩, ⟨[(27, str s6)], some (28, .bool r14)⟩, ⟨[(28, .bool r14)], some (29, .bool r14)⟩, ⟨[(2, ptr b1 0), (29, .bool r14)], some (30, ptr b1 6)⟩, ⟨[(30, ptr b1 6), (29, .bool r14)], some (31, str s13)⟩, ⟨[(31, str s13), (29, .bool r14)], some (32, .bool r16)⟩, ⟨[(29, .bool r14), (32, .bool r16)], some (33, .bool r16)⟩, ⟨[(4, ptr b2 0), (25, .agg #[int x_t.Kind, str x_t.Scheme, int x_t.Host.Kind, str x_t.Host.Name, int x_t.Host.Port, str s6, str s13, .bool (decide (r4 < (x_s.length : Int)))])], none⟩, ⟨[(33, .bool r16)], some (5, .bool r16)⟩]) () [3, 7, 9] [] ⟨zaN rfl rfl, zaN rfl rfl, zaN rfl rfl, zaN rfl rfl, zaN rfl rfl, zdq (u := fun σ => r14) rfl (fun σ => rfl) rfl (fun σ => rfl) (fun σ => by rw [hc15] <;> rfl), zdq (u := fun σ => r14) rfl (fun σ => rfl) rfl (fun σ => rfl) (fun σ => by rw [hc15] <;> rfl), zdq (u := fun σ => r14) rfl (fun σ => rfl) rfl (fun σ => rfl) (fun σ => by rw [hc15] <;> rfl), zaN rfl rfl, zaN rfl rfl, zaN rfl rfl, trivial⟩ (fun σ => ⟨.inl rfl, .inl rfl, .inl rfl, .inl rfl, .inl rfl, .inl rfl, .inl rfl, .inl rfl, .inl rfl, .inl rfl, .inl rfl, trivial⟩) (fun _ => rfl) (fun _ => rfl) (fun _ => rfl) rfl rfl (by decide) rfl hO.drew (hf.cons rfl (hf.cons rfl hf.nil)) (fun σ => ⟨⟨rfl, trivial⟩, ⟨rfl, trivial⟩, ⟨rfl, trivial⟩, ⟨rfl, trivial⟩, ⟨rfl, trivial⟩, ⟨rfl, rfl, trivial⟩, ⟨rfl, rfl, trivial⟩, ⟨rfl, rfl, trivial⟩, ⟨rfl, rfl, trivial⟩, ⟨rfl, rfl, trivial⟩, ⟨rfl, trivial⟩, trivial⟩) ⟨.inr ⟨rfl, zk rfl (fun σ => rfl) (fun σ => rfl) (fun σ a w k hk hlo hup hst hf => match k, hk, hlo, hup, hst, hf with | 0, _, _, _, hst, hf => have hO : Dk.Own w0 [] w _ := hst; zn (o := 0) (vs := [int x_t.Kind, str x_t.Scheme, int x_t.Host.Kind, str x_t.Host.Name, int x_t.Host.Port, str s6, str s13, .bool (decide (r4 < (x_s.length : Int)))]) zZ zu (hO.blkSees (i := 1) rfl) rfl rfl hf rfl | 1, _, _, _, hst, hf => have hO : Dk.Own w0 [] w _ := hst; zn (o := 0) (vs := [int x_t.Kind, str x_t.Scheme, int x_t.Host.Kind, str x_t.Host.Name, int x_t.Host.Port, str s6, str s13, .bool (decide (r4 < (x_s.length : Int)))]) zZ zu (hO.blkSees (i := 1) rfl) rfl rfl hf rfl | 2, _, _, _, hst, hf => have hO : Dk.Own w0 [] w _ := hst; zn (o := 0) (vs := [int x_t.Kind, str x_t.Scheme, int x_t.Host.Kind, str x_t.Host.Name, int x_t.Host.Port, str s6, str s13, .bool (decide (r4 < (x_s.length : Int)))]) zZ zu (hO.blkSees (i := 1) rfl) rfl rfl hf rfl | 3, _, _, _, hst, hf => have hO : Dk.Own w0 [] w _ := hst; zn (o := 0) (vs := [int x_t.Kind, str x_t.Scheme, int x_t.Host.Kind, str x_t.Host.Name, int x_t.Host.Port, str s6, str s13, .bool (decide (r4 < (x_s.length : Int)))]) zZ zu (hO.blkSees (i := 1) rfl) rfl rfl hf rfl | k + 4, hk, _, _, _, _ => absurd hk (by simp))⟩, .inr ⟨rfl, zk rfl (fun σ => rfl) (fun σ => rfl) (fun σ a w k _ _ _ _ hf => zaK zmM hf rfl)⟩, .inr ⟨rfl, zk rfl (fun σ => rfl) (fun σ => rfl) (fun σ a w k hk hlo hup hst hf => match k, hk, hlo, hup, hst, hf with | 0, _, _, _, hst, hf => have hO : Dk.Own w0 [] w _ := hst; zb (o := 5) zR (hO.blkSees (i := 1) rfl) rfl hf rfl | 1, _, _, _, hst, hf => have hO : Dk.Own w0 [] w _ := hst; zb (o := 5) zR (hO.blkSees (i := 1) rfl) rfl hf rfl | 2, _, _, _, hst, hf => have hO : Dk.Own w0 [] w _ := hst; zb (o := 5) zR (hO.blkSees (i := 1) rfl) rfl hf rfl | 3, _, _, _, hst, hf => have hO : Dk.Own w0 [] w _ := hst; zb (o := 5) zR (hO.blkSees (i := 1) rfl) rfl hf rfl | k + 4, hk, _, _, _, _ => absurd hk (by simp))⟩, .inr ⟨rfl, zfZ rfl (fun σ => rfl) (fun σ => rfl) rfl (fun σ a w (_ : _) hf => zp c_153 hf (vs := [str s6]) rfl) (fun σ w (hO : Dk.Own w0 [] w _) => (zke s6 r14 _ (hG.own hF hO) hr14).mono fun e w' h => by obtain ⟨he, hb⟩ := h; exact ⟨(), he, hO.grow hb, .inr rfl, .inr rfl, .inr rfl, .inr rfl, .inr rfl, .inr rfl, .inr rfl, .inr rfl, .inr rfl, .inr rfl, .inr rfl, trivial⟩)⟩, .inr ⟨rfl, zk rfl (fun σ => rfl) (fun σ => rfl) (fun σ a w k _ _ _ _ hf => zB hf rfl)⟩, .inr ⟨rfl, zk rfl (fun σ => rfl) (fun σ => rfl) (fun σ a w k _ _ _ _ hf => zaK zpI hf rfl)⟩, .inr ⟨rfl, zk rfl (fun σ => rfl) (fun σ => rfl) (fun σ a w k hk hlo hup hst hf => match k, hk, hlo, hup, hst, hf with | 0, _, _, _, hst, hf => have hO : Dk.Own w0 [] w _ := hst; zb (o := 6) zR (hO.blkSees (i := 1) rfl) rfl hf rfl | 1, _, _, _, hst, hf => have hO : Dk.Own w0 [] w _ := hst; zb (o := 6) zR (hO.blkSees (i := 1) rfl) rfl hf rfl | 2, _, _, _, hst, hf => have hO : Dk.Own w0 [] w _ := hst; zb (o := 6) zR (hO.blkSees (i := 1) rfl) rfl hf rfl | 3, _, _, _, hst, hf => have hO : Dk.Own w0 [] w _ := hst; zb (o := 6) zR (hO.blkSees (i := 1) rfl) rfl hf rfl | k + 4, hk, _, _, _, _ => absurd hk (by simp))⟩, .inr ⟨rfl, zfZ rfl (fun σ => rfl) (fun σ => rfl) rfl (fun σ a w (_ : _) hf => zp c_117 hf (vs := [str s13]) rfl) (fun σ w (hO : Dk.Own w0 [] w _) => (zjC s13 r16 _ (hG.own hF hO) hr16).mono fun e w' h => by obtain ⟨he, hb⟩ := h; exact ⟨(), he, hO.grow hb, .inr rfl, .inr rfl, .inr rfl, .inr rfl, .inr rfl, .inr rfl, .inr rfl, .inr rfl, .inr rfl, .inr rfl, .inr rfl, trivial⟩)⟩, .inr ⟨rfl, zk rfl (fun σ => rfl) (fun σ => rfl) (fun σ a w k _ _ _ _ hf => zn9 hf rfl hc15 rfl)⟩, .inr ⟨rfl, zgz rfl (fun σ => rfl) (fun σ => rfl) rfl (fun σ w (hO : Dk.Own w0 [] w _) => by obtain ⟨w', hO', hr⟩ := zfQ (x := (.tmp 4)) (y := (.tmp 25)) (E := [(4, ptr b2 0), (25, .agg #[int x_t.Kind, str x_t.Scheme, int x_t.Host.Kind, str x_t.Host.Name, int x_t.Host.Port, str s6, str s13, .bool (decide (r4 < (x_s.length : Int)))])]) (i := 0) (n := 8) (vs := [int x_t.Kind, str x_t.Scheme, int x_t.Host.Kind, str x_t.Host.Name, int x_t.Host.Port, str s6, str s13, .bool (decide (r4 < (x_s.length : Int)))]) zu rfl rfl rfl (by simp [Value.oneCell']) hO rfl rfl; exact ⟨(), w', hO', ⟨.inr rfl, .inr rfl, .inr rfl, .inr rfl, .inr rfl, .inr rfl, .inr rfl, .inr rfl, .inr rfl, .inr rfl, .inr rfl, trivial⟩, hr⟩)⟩, .inr ⟨rfl, zk rfl (fun σ => rfl) (fun σ => rfl) (fun σ a w k _ _ _ _ hf => zaG hf rfl)⟩, trivial⟩ ?_
 rintro _ a w hf hO
 have hO : Dk.Own w0 [] w _ := hO
 have hf : Fits 34 [(4, ptr b2 0), (5, .bool r16)] a := (hf.cons rfl (hf.cons rfl hf.nil))
 refine S.no tb ?_ hf hO hm
 exact en rfl fun a w hf hO hm => ⟨r16, hf.sel rfl, hO, hm⟩
 have hm := ie hc15 hm
 refine zjn (S := Unit) (E0 := [(2, ptr b1 0), (4, ptr b2 0)]) (by kernel_rfl) (fun k σ w => match k with | 0 => Dk.Own w0 [] w [.blk b2 [int 0, str [], int 0, str [], int 0, str [], str [], .bool false] 109, .blk b1 [int x_t.Kind, str x_t.Scheme, int x_t.Host.Kind, str x_t.Host.Name, int x_t.Host.Port, str s6, str s13, .bool (decide (r4 < (x_s.length : Int)))] 109] | 1 => Dk.Own w0 [] w [.blk b2 [int 0, str [], int 0, str [], int 0, str [], str [], .bool false] 109, .blk b1 [int x_t.Kind, str x_t.Scheme, int x_t.Host.Kind, str x_t.Host.Name, int x_t.Host.Port, str s6, str s13, .bool (decide (r4 < (x_s.length : Int)))] 109] | _ => Dk.Own w0 [] w [.blk b2 [int x_t.Kind, str x_t.Scheme, int x_t.Host.Kind, str x_t.Host.Name, int x_t.Host.Port, str s6, str s13, .bool (decide (r4 < (x_s.length : Int)))] 109, .blk b1 [int x_t.Kind, str x_t.Scheme, int x_t.Host.Kind, str x_t.Host.Name, int x_t.Host.Port, str s6, str s13, .bool (decide (r4 < (x_s.length : Int)))] 109]) (fun σ => [⟨[(2, ptr b1 0)], some (25, .agg #[int x_t.Kind, str x_t.Scheme, int x_t.Host.Kind, str x_t.Host.Name, int x_t.Host.Port, str s6, str s13, .bool (decide (r4 < (x_s.length : Int)))])⟩, ⟨[(2, ptr b1 0)], some (26, ptr b1 5)⟩, ⟨[(26, ptr b1 5)], some (27, str s6)⟩, ⟨[(27, str s6)], some (28, .bool r14)⟩, ⟨[(28, .bool r14)], some (29, .bool r14)⟩, ⟨[(29, .bool r14)], some (30, undef)⟩, ⟨[(29, .bool r14)], some (31, undef)⟩, ⟨[(29, .bool r14)], some (32, undef)⟩, ⟨[(29, .bool r14), (32, undef)], some (33, .bool false)⟩, ⟨[(4, ptr b2 0), (25, .agg #[int x_t.Kind, str x_t.Scheme, int x_t.Host.Kind, str x_t.Host.Name, int x_t.Host.Port, str s6, str s13, .bool (decide (r4 < (x_s.length : Int)))])], none⟩, ⟨[(33, .bool false)], some (5, .bool false)⟩]) () [3, 9] [5, 6, 7] ⟨zaN rfl rfl, zaN rfl rfl, zaN rfl rfl, zaN rfl rfl, zaN rfl rfl, zdq (u := fun σ => r14) rfl (fun σ => rfl) rfl (fun σ => rfl) (fun σ => by rw [hc15] <;> rfl), zdq (u := fun σ => r14) rfl (fun σ => rfl) rfl (fun σ => rfl) (fun σ => by rw [hc15] <;> rfl), zdq (u := fun σ => r14) rfl (fun σ => rfl) rfl (fun σ => rfl) (fun σ => by rw [hc15] <;> rfl), zaN rfl rfl, zaN rfl rfl, zaN rfl rfl, trivial⟩ (fun σ => ⟨.inl rfl, .inl rfl, .inl rfl, .inl rfl, .inl rfl, .inr ⟨rfl, rfl⟩, .inr ⟨rfl, rfl⟩, .inr ⟨rfl, rfl⟩, .inl rfl, .inl rfl, .inl rfl, trivial⟩) (fun _ => rfl) (fun _ => rfl) (fun _ => rfl) rfl rfl (by decide) rfl hO.drew (hf.cons rfl (hf.cons rfl hf.nil)) (fun σ => ⟨⟨rfl, trivial⟩, ⟨rfl, trivial⟩, ⟨rfl, trivial⟩, ⟨rfl, trivial⟩, ⟨rfl, trivial⟩, ⟨rfl, trivial⟩, ⟨rfl, trivial⟩, ⟨rfl, trivial⟩, ⟨rfl, rfl, trivial⟩, ⟨rfl, rfl, trivial⟩, ⟨rfl, trivial⟩, trivial⟩) ⟨.inr ⟨rfl, zk rfl (fun σ => rfl) (fun σ => rfl) (fun σ a w k hk hlo hup hst hf => match k, hk, hlo, hup, hst, hf with | 0, _, _, _, hst, hf => have hO : Dk.Own w0 [] w _ := hst; zn (o := 0) (vs := [int x_t.Kind, str x_t.Scheme, int x_t.Host.Kind, str x_t.Host.Name, int x_t.Host.Port, str s6, str s13, .bool (decide (r4 < (x_s.length : Int)))]) zZ zu (hO.blkSees (i := 1) rfl) rfl rfl hf rfl | 1, _, _, _, hst, hf => have hO : Dk.Own w0 [] w _ := hst; zn (o := 0) (vs := [int x_t.Kind, str x_t.Scheme, int x_t.Host.Kind, str x_t.Host.Name, int x_t.Host.Port, str s6, str s13, .bool (decide (r4 < (x_s.length : Int)))]) zZ zu (hO.blkSees (i := 1) rfl) rfl rfl hf rfl | 2, _, _, _, hst, hf => have hO : Dk.Own w0 [] w _ := hst; zn (o := 0) (vs := [int x_t.Kind, str x_t.Scheme, int x_t.Host.Kind, str x_t.Host.Name, int x_t.Host.Port, str s6, str s13, .bool (decide (r4 < (x_s.length : Int)))]) zZ zu (hO.blkSees (i := 1) rfl) rfl rfl hf rfl | k + 3, hk, _, _, _, _ => absurd hk (by simp))⟩, .inr ⟨rfl, zk rfl (fun σ => rfl) (fun σ => rfl) (fun σ a w k _ _ _ _ hf => zaK zmM hf rfl)⟩, .inr ⟨rfl, zk rfl (fun σ => rfl) (fun σ => rfl) (fun σ a w k hk hlo hup hst hf => match k, hk, hlo, hup, hst, hf with | 0, _, _, _, hst, hf => have hO : Dk.Own w0 [] w _ := hst; zb (o := 5) zR (hO.blkSees (i := 1) rfl) rfl hf rfl | 1, _, _, _, hst, hf => have hO : Dk.Own w0 [] w _ := hst; zb (o := 5) zR (hO.blkSees (i := 1) rfl) rfl hf rfl | 2, _, _, _, hst, hf => have hO : Dk.Own w0 [] w _ := hst; zb (o := 5) zR (hO.blkSees (i := 1) rfl) rfl hf rfl | k + 3, hk, _, _, _, _ => absurd hk (by simp))⟩, .inr ⟨rfl, zfZ rfl (fun σ => rfl) (fun σ => rfl) rfl (fun σ a w (_ : _) hf => zp c_153 hf (vs := [str s6]) rfl) (fun σ w (hO : Dk.Own w0 [] w _) => (zke s6 r14 _ (hG.own hF hO) hr14).mono fun e w' h => by obtain ⟨he, hb⟩ := h; exact ⟨(), he, hO.grow hb, .inr rfl, .inr rfl, .inr rfl, .inr rfl, .inr rfl, .inr rfl, .inr rfl, .inr rfl, .inr rfl, .inr rfl, .inr rfl, trivial⟩)⟩, .inr ⟨rfl, zk rfl (fun σ => rfl) (fun σ => rfl) (fun σ a w k _ _ _ _ hf => zB hf rfl)⟩, .inl rfl, .inl rfl, .inl rfl, .inr ⟨rfl, zk rfl (fun σ => rfl) (fun σ => rfl) (fun σ a w k _ _ _ _ hf => zoa hf rfl hc15 rfl)⟩, .inr ⟨rfl, zgz rfl (fun σ => rfl) (fun σ => rfl) rfl (fun σ w (hO : Dk.Own w0 [] w _) => by obtain ⟨w', hO', hr⟩ := zfQ (x := (.tmp 4)) (y := (.tmp 25)) (E := [(4, ptr b2 0), (25, .agg #[int x_t.Kind, str x_t.Scheme, int x_t.Host.Kind, str x_t.Host.Name, int x_t.Host.Port, str s6, str s13, .bool (decide (r4 < (x_s.length : Int)))])]) (i := 0) (n := 8) (vs := [int x_t.Kind, str x_t.Scheme, int x_t.Host.Kind, str x_t.Host.Name, int x_t.Host.Port, str s6, str s13, .bool (decide (r4 < (x_s.length : Int)))]) zu rfl rfl rfl (by simp [Value.oneCell']) hO rfl rfl; exact ⟨(), w', hO', ⟨.inr rfl, .inr rfl, .inr rfl, .inr rfl, .inr rfl, .inr rfl, .inr rfl, .inr rfl, .inr rfl, .inr rfl, .inr rfl, trivial⟩, hr⟩)⟩, .inr ⟨rfl, zk rfl (fun σ => rfl) (fun σ => rfl) (fun σ a w k _ _ _ _ hf => zaG hf rfl)⟩, trivial⟩ ?_
 rintro _ a w hf hO
 have hO : Dk.Own w0 [] w _ := hO
 have hf : Fits 34 [(4, ptr b2 0), (5, .bool false)] a := (hf.cons rfl (hf.cons rfl hf.nil))
 refine S.no tb ?_ hf hO hm
 exact en rfl fun a w hf hO hm => ⟨false, hf.sel rfl, hO, hm⟩
 rintro a w ⟨t17, hf, hO, hm⟩
 rw [zc9] at hm
 refine S.co tb ?_ hf hO hm
 refine re_ rfl fun a w hf hO hm => ?_
 obtain rfl := Option.some.inj hm
 exact zg Tryz.results115 hf (.cell rfl (zd (n := 8) (vs := [int x_t.Kind, str x_t.Scheme, int x_t.Host.Kind, str x_t.Host.Name, int x_t.Host.Port, str s6, str s13, .bool (decide (r4 < (x_s.length : Int)))]) zZ zu rfl ((hO.blkSees (i := 0) rfl).cells (o := 0) (n := 8) rfl)) (.tmp rfl .nil)) ⟨rfl, hO.below⟩

theorem zh9 (x_s : Str) (R : Str) (w0 : World) (hG : zx w0) (hm : zeN x_s = some R) :
    Calls Tryz.prog 116 #[str x_s] w0 (Ret w0 (fun R => str R) R) := by
 rw [zeN] at hm
 have hF : zz [] := zf
 have hO : Dk.Own w0 [] w0 [] := Dk.Own.refl w0
 refine S.enter tb Tryz.func116 rfl Tryz.ntmps116 rfl ?_ hO hm
 refine lp (fun k a w => ∃ (s4 : Str) (i5 : Int), Fits 36 [(0, str x_s), (3, str s4), (4, int i5)] a ∧ Dk.Own w0 [] w [] ∧ za4 x_s k s4 i5 = some R) rfl (fun a w hf hO hm => ⟨[], 0, hf.sel rfl, hO, hm⟩) ?_
 rintro n1 a w ⟨s4, i5, hf, hO, hm⟩
 obtain _ | n1 := n1
 rw [za4] at hm
 cases hm
 rw [za4] at hm
 refine S.co tb ?_ hf hO hm
 refine br rfl (fun hc7 => ?_) fun hc7 => ?_
 refine bi rfl fun i9 hi9 => ?_
 refine bi rfl fun s10 hs10 => ?_
 refine lp (fun k a w => ∃ (s13 : Str) (i14 : Int), Fits 36 [(0, str x_s), (3, str s4), (4, int i5), (5, str s13), (6, int i14)] a ∧ Dk.Own w0 [] w [] ∧ za3 (za4 x_s n1) x_s s4 i5 k s13 i14 = some R) rfl (fun a w hf hO hm => ⟨s10, 0, hf.sel rfl, hO, hm⟩) ?_
 rintro n2 a w ⟨s13, i14, hf, hO, hm⟩
 obtain _ | n2 := n2
 rw [za3] at hm
 cases hm
 rw [za3] at hm
 refine S.co tb ?_ hf hO hm
 refine br rfl (fun hc16 => ?_) fun hc16 => ?_
 refine jn 8 (fun a w => ∃ (s24 : Str), Fits 36 [(0, str x_s), (3, str s4), (4, int i5), (5, str s24), (6, int i14)] a ∧ Dk.Own w0 [] w [] ∧ zez (za3 (za4 x_s n1) x_s s4 i5 n2) i14 s24 = some R) rfl ?_ ?_
 refine rc_ rfl fun a w hf hO hm => ?_
 refine zgi (by kernel_rfl) (by kernel_rfl) hO ?_
 refine zA (fun w hO => zB hf rfl) rfl hf rfl rfl fun a hf => ?_
 obtain ⟨b18, hb18, hm⟩ := ob hm
 refine zA (fun w hO => zkO (l := [65, 66, 67, 68, 69, 70, 71, 72, 73, 74, 75, 76, 77, 78, 79, 80, 81, 82, 83, 84, 85, 86, 87, 88, 89, 90]) Tryz.underlying9 hf rfl rfl hb18) rfl hf rfl rfl fun a hf => ?_
 refine zA (fun w hO => zB hf rfl) rfl hf rfl rfl fun a hf => ?_
 refine zA (fun w hO => zB hf rfl) rfl hf rfl rfl fun a hf => ?_
 obtain ⟨b19, hb19, hm⟩ := ob hm
 refine zA (fun w hO => zkO (l := x_s) Tryz.underlying9 hf rfl rfl hb19) rfl hf rfl rfl fun a hf => ?_
 refine zA (fun w hO => zW (b := b18) (c := b19) hf rfl rfl) rfl hf rfl rfl fun a hf => ?_
 refine wpQuiet_nil ?_
 intro w hO
 refine S.no tb ?_ hf hO hm
 refine br rfl (fun hc21 => ?_) fun hc21 => ?_
 refine bi rfl fun i22 hi22 => ?_
 refine bi rfl fun s23 hs23 => ?_
 exact en rfl fun a w hf hO hm => ⟨s23, hf.sel rfl, hO, hm⟩
 exact en rfl fun a w hf hO hm => ⟨s13, hf.sel rfl, hO, hm⟩
 rintro a w ⟨s24, hf, hO, hm⟩
 rw [zez] at hm
 refine S.co tb ?_ hf hO hm
 refine bi rfl fun i25 hi25 => ?_
 exact en rfl fun a w hf hO hm => ⟨_, Nat.lt_succ_self _, s24, i25, hf.sel rfl, hO, hm⟩
 refine bi rfl fun s27 hs27 => ?_
 refine bi rfl fun i29 hi29 => ?_
 exact en rfl fun a w hf hO hm => ⟨_, Nat.lt_succ_self _, s27, i29, hf.sel rfl, hO, hm⟩
 exact rt Tryz.results116 rfl

theorem zjD (x_a0 : Str) (x_a1 : Str) (R : api_Target × Int) (w0 : World) (hG : zx w0) (hm : zgb x_a0 x_a1 = some R) :
    Calls Tryz.prog 69 #[str x_a0, str x_a1] w0 (Ret w0 (fun R => .tuple #[.agg #[int R.1.Kind, str R.1.Scheme, int R.1.Host.Kind, str R.1.Host.Name, int R.1.Host.Port, str R.1.Path, str R.1.Query, .bool R.1.HasQuery], int R.2]) R) := by
 rw [zgb] at hm
 have hF : zz [] := zf
 have hO : Dk.Own w0 [] w0 [] := Dk.Own.refl w0
 refine S.enter tb Tryz.func69 rfl Tryz.ntmps69 rfl ?_ hO hm
 refine rw_ rfl fun a w hf hO hm => ?_
 refine zt zfN hf rfl hO fun a b1 w hf hO => ?_
 refine S.op tb ?_ hf hO hm
 refine br rfl (fun hc4 => ?_) fun hc4 => ?_
 refine cl c_80 rfl (fun r5 w hr5 hO => zhs x_a1 r5 _ (hG.own hF hO) hr5) fun r5 hr5 => ?_
 refine rw_ rfl fun a w hf hO hm => ?_
 refine zt zfm hf rfl hO fun a b6 w hf hO => ?_
 refine S.op tb ?_ hf hO hm
 refine rw_ rfl fun a w hf hO hm => ?_
 refine ze (i := 0) (n := 3) zP rfl rfl rfl (by simp [Value.oneCell']) hf rfl rfl hO fun w hO => ?_
 refine S.op tb ?_ hf hO hm
 refine jn 2 (fun a w => ∃ (t9 : Bool), Fits 137 [(4, ptr b1 0), (6, ptr b6 0), (30, .bool t9)] a ∧ Dk.Own w0 [] w [.blk b6 [int r5.1.Kind, str r5.1.Name, int r5.1.Port] 107, .blk b1 [int 0, str [], int 0, str [], int 0, str [], str [], .bool false] 109] ∧ zdO r5 t9 = some R) rfl ?_ ?_
 refine br rfl (fun hc8 => ?_) fun hc8 => ?_
 exact en rfl fun a w hf hO hm => ⟨true, hf.sel rfl, hO, hm⟩
 refine vl rfl rfl (fun a w hf hO => zb (o := 2) zfl (hO.blkSees (i := 0) rfl) rfl hf rfl) ?_
 exact en rfl fun a w hf hO hm => ⟨decide (r5.1.Port < 0), hf.sel rfl, hO, hm⟩
 rintro a w ⟨t9, hf, hO, hm⟩
 rw [zdO] at hm
 refine S.co tb ?_ hf hO hm
 refine br rfl (fun hc10 => ?_) fun hc10 => ?_
 refine vl rfl rfl (fun a w hf hO => zj (vs := []) (v := .agg #[int 0, str [], int 0, str [], int 0, str [], str [], .bool false]) hf rfl (by kernel_rfl)) ?_
 refine rw_ rfl fun a w hf hO hm => ?_
 refine ze (i := 1) (n := 8) zu rfl rfl rfl (by simp [Value.oneCell']) hf rfl rfl hO fun w hO => ?_
 refine S.op tb ?_ hf hO hm
 refine re_ rfl fun a w hf hO hm => ?_
 obtain rfl := Option.some.inj hm
 exact zg Tryz.results69 hf (.cell rfl (zd (n := 8) (vs := [int 0, str [], int 0, str [], int 0, str [], str [], .bool false]) zZ zu rfl ((hO.blkSees (i := 1) rfl).cells (o := 0) (n := 8) rfl)) (.tmp rfl .nil)) ⟨rfl, hO.below⟩
 refine vl rfl rfl (fun a w hf hO => zn (o := 0) (vs := [int r5.1.Kind, str r5.1.Name, int r5.1.Port]) zci zP (hO.blkSees (i := 0) rfl) rfl rfl hf rfl) ?_
 refine vl rfl rfl (fun a w hf hO => zj (vs := [(0, int 3), (2, .agg #[int r5.1.Kind, str r5.1.Name, int r5.1.Port])]) (v := .agg #[int 3, str [], int r5.1.Kind, str r5.1.Name, int r5.1.Port, str [], str [], .bool false]) hf rfl (by kernel_rfl)) ?_
 refine rw_ rfl fun a w hf hO hm => ?_
 refine ze (i := 1) (n := 8) zu rfl rfl rfl (by simp [Value.oneCell']) hf rfl rfl hO fun w hO => ?_
 refine S.op tb ?_ hf hO hm
 refine re_ rfl fun a w hf hO hm => ?_
 obtain rfl := Option.some.inj hm
 exact zg Tryz.results69 hf (.cell rfl (zd (n := 8) (vs := [int 3, str [], int r5.1.Kind, str r5.1.Name, int r5.1.Port, str [], str [], .bool false]) zZ zu rfl ((hO.blkSees (i := 1) rfl).cells (o := 0) (n := 8) rfl)) (.tmp rfl .nil)) ⟨rfl, hO.below⟩
 refine jn 1 (fun a w => ∃ (t16 : Bool), Fits 137 [(1, str x_a1), (4, ptr b1 0), (39, .bool t16)] a ∧ Dk.Own w0 [] w [.blk b1 [int 0, str [], int 0, str [], int 0, str [], str [], .bool false] 109] ∧ zbD x_a1 t16 = some R) rfl ?_ ?_
 refine br rfl (fun hc15 => ?_) fun hc15 => ?_
 exact en rfl fun a w hf hO hm => ⟨x_a0 == [79, 80, 84, 73, 79, 78, 83], hf.sel rfl, hO, hm⟩
 exact en rfl fun a w hf hO hm => ⟨false, hf.sel rfl, hO, hm⟩
 rintro a w ⟨t16, hf, hO, hm⟩
 rw [zbD] at hm
 refine S.co tb ?_ hf hO hm
 refine br rfl (fun hc17 => ?_) fun hc17 => ?_
 refine vl rfl rfl (fun a w hf hO => zj (vs := [(0, int 4)]) (v := .agg #[int 4, str [], int 0, str [], int 0, str [], str [], .bool false]) hf rfl (by kernel_rfl)) ?_
 refine rw_ rfl fun a w hf hO hm => ?_
 refine ze (i := 0) (n := 8) zu rfl rfl rfl (by simp [Value.oneCell']) hf rfl rfl hO fun w hO => ?_
 refine S.op tb ?_ hf hO hm
 refine re_ rfl fun a w hf hO hm => ?_
 obtain rfl := Option.some.inj hm
 exact zg Tryz.results69 hf (.cell rfl (zd (n := 8) (vs := [int 4, str [], int 0, str [], int 0, str [], str [], .bool false]) zZ zu rfl ((hO.blkSees (i := 0) rfl).cells (o := 0) (n := 8) rfl)) (.tmp rfl .nil)) ⟨rfl, hO.below⟩
 refine vl rfl rfl (fun a w hf hO => zj (vs := [(0, int 1)]) (v := .agg #[int 1, str [], int 0, str [], int 0, str [], str [], .bool false]) hf rfl (by kernel_rfl)) ?_
 refine cl c_115 rfl (fun r20 w hr20 hO => ziL ((⟨1, [], (⟨0, [], 0⟩ : api_Host), [], [], false⟩ : api_Target)) x_a1 r20 _ (hG.own hF hO) hr20) fun r20 hr20 => ?_
 refine rw_ rfl fun a w hf hO hm => ?_
 refine zt zfN hf rfl hO fun a b21 w hf hO => ?_
 refine S.op tb ?_ hf hO hm
 refine rw_ rfl fun a w hf hO hm => ?_
 refine ze (i := 0) (n := 8) zu rfl rfl rfl (by simp [Value.oneCell']) hf rfl rfl hO fun w hO => ?_
 refine S.op tb ?_ hf hO hm
 refine br rfl (fun hc24 => ?_) fun hc24 => ?_
 refine vl rfl rfl (fun a w hf hO => zn (o := 0) (vs := [int r20.1.Kind, str r20.1.Scheme, int r20.1.Host.Kind, str r20.1.Host.Name, int r20.1.Host.Port, str r20.1.Path, str r20.1.Query, .bool r20.1.HasQuery]) zZ zu (hO.blkSees (i := 0) rfl) rfl rfl hf rfl) ?_
 refine rw_ rfl fun a w hf hO hm => ?_
 refine ze (i := 1) (n := 8) zu rfl rfl rfl (by simp [Value.oneCell']) hf rfl rfl hO fun w hO => ?_
 refine S.op tb ?_ hf hO hm
 refine re_ rfl fun a w hf hO hm => ?_
 obtain rfl := Option.some.inj hm
 exact zg Tryz.results69 hf (.cell rfl (zd (n := 8) (vs := [int r20.1.Kind, str r20.1.Scheme, int r20.1.Host.Kind, str r20.1.Host.Name, int r20.1.Host.Port, str r20.1.Path, str r20.1.Query, .bool r20.1.HasQuery]) zZ zu rfl ((hO.blkSees (i := 1) rfl).cells (o := 0) (n := 8) rfl)) (.tmp rfl .nil)) ⟨rfl, hO.below⟩
 refine rw_ rfl fun a w hf hO hm => ?_
 refine zJ (vs := [(0, str [104, 116, 116, 112]), (1, str [104, 116, 116, 112, 115])]) (cs := [str [104, 116, 116, 112], str [104, 116, 116, 112, 115]]) (e := 9) (sz := 1) hf rfl rfl (fun w => by kernel_rfl) rfl rfl hO fun a b27 w hf hO => ?_
 refine S.op tb ?_ hf hO hm
 refine lp (fun k a w => ∃ (s29 : Str) (i30 : Int), Fits 137 [(1, str s29), (4, ptr b1 0), (49, .slice (some ⟨b27, 0, none⟩) (([[104, 116, 116, 112], [104, 116, 116, 112, 115]] : List Str).length) 2), (50, int ((([[104, 116, 116, 112], [104, 116, 116, 112, 115]] : List Str).length : Int))), (51, int i30)] a ∧ Dk.Own w0 [] w [.row (.slice (some ⟨b27, 0, none⟩) (([[104, 116, 116, 112], [104, 116, 116, 112, 115]] : List Str).length) 2) 9 1 (([[104, 116, 116, 112], [104, 116, 116, 112, 115]] : List Str).length) (cells zh ([[104, 116, 116, 112], [104, 116, 116, 112, 115]] : List Str)), .blk b21 [int r20.1.Kind, str r20.1.Scheme, int r20.1.Host.Kind, str r20.1.Host.Name, int r20.1.Host.Port, str r20.1.Path, str r20.1.Query, .bool r20.1.HasQuery] 109, .blk b1 [int 0, str [], int 0, str [], int 0, str [], str [], .bool false] 109] ∧ zad k s29 i30 = some R) rfl (fun a w hf hO hm => ⟨x_a1, 0, hf.sel rfl, hO, hm⟩) ?_
 rintro n3 a w ⟨s29, i30, hf, hO, hm⟩
 obtain _ | n3 := n3
 rw [zad] at hm
 cases hm
 rw [zad] at hm
 refine S.co tb ?_ hf hO hm
 refine br rfl (fun hc32 => ?_) fun hc32 => ?_
 refine rw_ rfl fun a w hf hO hm => ?_
 obtain ⟨x34, hx34, hm⟩ := ob hm
 obtain ⟨b35, o36, hix34, hSx34, hAx34⟩ := zah (enc := zh) (sz := 1) (xs := ([[104, 116, 116, 112], [104, 116, 116, 112, 115]] : List Str)) 31 Tryz.underlying31 zd1 (by decide) (fun _ => rfl) hO (i := 0) rfl hx34
 refine za2 (zo hix34 hf rfl rfl) rfl hf rfl rfl fun a hf => ?_
 refine S.op tb ?_ hf hO hm
 refine vl rfl rfl (fun a w hf hO => zb (o := 0) zR (hSx34 _ (hO.rowSees (i := 0) rfl)) rfl hf rfl) ?_
 refine bi rfl fun i38 hi38 => ?_
 refine jn 6 (fun a w => ∃ (t44 : Bool), Fits 137 [(1, str s29), (4, ptr b1 0), (11, str x34), (12, int i38), (49, .slice (some ⟨b27, 0, none⟩) (([[104, 116, 116, 112], [104, 116, 116, 112, 115]] : List Str).length) 2), (50, int ((([[104, 116, 116, 112], [104, 116, 116, 112, 115]] : List Str).length : Int))), (51, int i30), (70, .bool t44)] a ∧ Dk.Own w0 [] w [.row (.slice (some ⟨b27, 0, none⟩) (([[104, 116, 116, 112], [104, 116, 116, 112, 115]] : List Str).length) 2) 9 1 (([[104, 116, 116, 112], [104, 116, 116, 112, 115]] : List Str).length) (cells zh ([[104, 116, 116, 112], [104, 116, 116, 112, 115]] : List Str)), .blk b21 [int r20.1.Kind, str r20.1.Scheme, int r20.1.Host.Kind, str r20.1.Host.Name, int r20.1.Host.Port, str r20.1.Path, str r20.1.Query, .bool r20.1.HasQuery] 109, .blk b1 [int 0, str [], int 0, str [], int 0, str [], str [], .bool false] 109] ∧ zdQ (zad n3) s29 i30 x34 i38 t44 = some R) rfl ?_ ?_
 refine br rfl (fun hc40 => ?_) fun hc40 => ?_
 exact en rfl fun a w hf hO hm => ⟨true, hf.sel rfl, hO, hm⟩
 refine bi rfl fun s41 hs41 => ?_
 refine cl zso rfl (fun r42 w hr42 hO => zh9 s41 r42 _ (hG.own hF hO) hr42) fun r42 hr42 => ?_
 refine bi rfl fun s43 hs43 => ?_
 exact en rfl fun a w hf hO hm => ⟨!(r42 == s43), hf.sel rfl, hO, hm⟩
 rintro a w ⟨t44, hf, hO, hm⟩
 rw [zdQ] at hm
 refine S.co tb ?_ hf hO hm
 refine br rfl (fun hc45 => ?_) fun hc45 => ?_
 refine bi rfl fun i99 hi99 => ?_
 exact en rfl fun a w hf hO hm => ⟨_, Nat.lt_succ_self _, s29, i99, hf.sel rfl, hO, hm⟩
 refine bi rfl fun s47 hs47 => ?_
 refine lp (fun k a w => ∃ (i50 : Int), Fits 137 [(1, str s47), (4, ptr b1 0), (11, str x34), (13, int i50)] a ∧ Dk.Own w0 [] w [.row (.slice (some ⟨b27, 0, none⟩) (([[104, 116, 116, 112], [104, 116, 116, 112, 115]] : List Str).length) 2) 9 1 (([[104, 116, 116, 112], [104, 116, 116, 112, 115]] : List Str).length) (cells zh ([[104, 116, 116, 112], [104, 116, 116, 112, 115]] : List Str)), .blk b21 [int r20.1.Kind, str r20.1.Scheme, int r20.1.Host.Kind, str r20.1.Host.Name, int r20.1.Host.Port, str r20.1.Path, str r20.1.Query, .bool r20.1.HasQuery] 109, .blk b1 [int 0, str [], int 0, str [], int 0, str [], str [], .bool false] 109] ∧ zat x34 s47 k i50 = some R) rfl (fun a w hf hO hm => ⟨0, hf.sel rfl, hO, hm⟩) ?_
 rintro n5 a w ⟨i50, hf, hO, hm⟩
 obtain _ | n5 := n5
 rw [zat] at hm
 cases hm
 rw [zat] at hm
 refine S.co tb ?_ hf hO hm
 refine jn 9 (fun a w => ∃ (t55 : Bool), Fits 137 [(1, str s47), (4, ptr b1 0), (11, str x34), (13, int i50), (89, .bool t55)] a ∧ Dk.Own w0 [] w [.row (.slice (some ⟨b27, 0, none⟩) (([[104, 116, 116, 112], [104, 116, 116, 112, 115]] : List Str).length) 2) 9 1 (([[104, 116, 116, 112], [104, 116, 116, 112, 115]] : List Str).length) (cells zh ([[104, 116, 116, 112], [104, 116, 116, 112, 115]] : List Str)), .blk b21 [int r20.1.Kind, str r20.1.Scheme, int r20.1.Host.Kind, str r20.1.Host.Name, int r20.1.Host.Port, str r20.1.Path, str r20.1.Query, .bool r20.1.HasQuery] 109, .blk b1 [int 0, str [], int 0, str [], int 0, str [], str [], .bool false] 109] ∧ zbC (zat x34 s47 n5) x34 s47 i50 t55 = some R) rfl ?_ ?_
 refine br rfl (fun hc51 => ?_) fun hc51 => ?_
 refine bi rfl fun b52 hb52 => ?_
 refine vl rfl rfl (fun a w hf hO => zd2 (b := b52) (c := 47) hf rfl rfl) ?_
 refine br rfl (fun hc53 => ?_) fun hc53 => ?_
 refine bi rfl fun b54 hb54 => ?_
 refine vl rfl rfl (fun a w hf hO => zd2 (b := b54) (c := 63) hf rfl rfl) ?_
 exact en rfl fun a w hf hO hm => ⟨!(b54 == 63), hf.sel rfl, hO, hm⟩
 exact en rfl fun a w hf hO hm => ⟨false, hf.sel rfl, hO, hm⟩
 exact en rfl fun a w hf hO hm => ⟨false, hf.sel rfl, hO, hm⟩
 rintro a w ⟨t55, hf, hO, hm⟩
 rw [zbC] at hm
 refine S.co tb ?_ hf hO hm
 refine br rfl (fun hc56 => ?_) fun hc56 => ?_
 refine bi rfl fun i58 hi58 => ?_
 exact en rfl fun a w hf hO hm => ⟨_, Nat.lt_succ_self _, i58, hf.sel rfl, hO, hm⟩
 refine bi rfl fun s60 hs60 => ?_
 refine cl c_80 rfl (fun r61 w hr61 hO => zhs s60 r61 _ (hG.own hF hO) hr61) fun r61 hr61 => ?_
 refine rw_ rfl fun a w hf hO hm => ?_
 refine zt zfm hf rfl hO fun a b62 w hf hO => ?_
 refine S.op tb ?_ hf hO hm
 refine rw_ rfl fun a w hf hO hm => ?_
 refine ze (i := 0) (n := 3) zP rfl rfl rfl (by simp [Value.oneCell']) hf rfl rfl hO fun w hO => ?_
 refine S.op tb ?_ hf hO hm
 refine br rfl (fun hc65 => ?_) fun hc65 => ?_
 refine vl rfl rfl (fun a w hf hO => zj (vs := []) (v := .agg #[int 0, str [], int 0, str [], int 0, str [], str [], .bool false]) hf rfl (by kernel_rfl)) ?_
 refine rw_ rfl fun a w hf hO hm => ?_
 refine ze (i := 3) (n := 8) zu rfl rfl rfl (by simp [Value.oneCell']) hf rfl rfl hO fun w hO => ?_
 refine S.op tb ?_ hf hO hm
 refine re_ rfl fun a w hf hO hm => ?_
 obtain rfl := Option.some.inj hm
 exact zg Tryz.results69 hf (.cell rfl (zd (n := 8) (vs := [int 0, str [], int 0, str [], int 0, str [], str [], .bool false]) zZ zu rfl ((hO.blkSees (i := 3) rfl).cells (o := 0) (n := 8) rfl)) (.tmp rfl .nil)) ⟨rfl, hO.below⟩
 refine vl rfl rfl (fun a w hf hO => zn (o := 0) (vs := [int r61.1.Kind, str r61.1.Name, int r61.1.Port]) zci zP (hO.blkSees (i := 0) rfl) rfl rfl hf rfl) ?_
 refine vl rfl rfl (fun a w hf hO => zj (vs := [(0, int 2), (1, str x34), (2, .agg #[int r61.1.Kind, str r61.1.Name, int r61.1.Port])]) (v := .agg #[int 2, str x34, int r61.1.Kind, str r61.1.Name, int r61.1.Port, str [], str [], .bool false]) hf rfl (by kernel_rfl)) ?_
 refine rw_ rfl fun a w hf hO hm => ?_
 refine zt zfN hf rfl hO fun a b68 w hf hO => ?_
 refine S.op tb ?_ hf hO hm
 refine rw_ rfl fun a w hf hO hm => ?_
 refine ze (i := 0) (n := 8) zu rfl rfl rfl (by simp [Value.oneCell']) hf rfl rfl hO fun w hO => ?_
 refine S.op tb ?_ hf hO hm
 refine br rfl (fun hc71 => ?_) fun hc71 => ?_
 refine vl rfl rfl (fun a w hf hO => zn (o := 0) (vs := [int 2, str x34, int r61.1.Kind, str r61.1.Name, int r61.1.Port, str [], str [], .bool false]) zZ zu (hO.blkSees (i := 0) rfl) rfl rfl hf rfl) ?_
 refine rw_ rfl fun a w hf hO hm => ?_
 refine ze (i := 4) (n := 8) zu rfl rfl rfl (by simp [Value.oneCell']) hf rfl rfl hO fun w hO => ?_
 refine S.op tb ?_ hf hO hm
 refine re_ rfl fun a w hf hO hm => ?_
 obtain rfl := Option.some.inj hm
 exact zg Tryz.results69 hf (.cell rfl (zd (n := 8) (vs := [int 2, str x34, int r61.1.Kind, str r61.1.Name, int r61.1.Port, str [], str [], .bool false]) zZ zu rfl ((hO.blkSees (i := 4) rfl).cells (o := 0) (n := 8) rfl)) (.tmp rfl .nil)) ⟨rfl, hO.below⟩
 refine jn 5 (fun a w => ∃ (t84 : Bool) (i85 : Int) (s86 : Str) (i87 : Int) (s88 : Str) (i89 : Int) (s90 : Str) (s91 : Str) (t92 : Bool), Fits 137 [(4, ptr b1 0), (9, .bool t84), (16, ptr b68 0)] a ∧ Dk.Own w0 [] w [.blk b68 [int i85, str s86, int i87, str s88, int i89, str s90, str s91, .bool t92] 109, .blk b62 [int r61.1.Kind, str r61.1.Name, int r61.1.Port] 107, .row (.slice (some ⟨b27, 0, none⟩) (([[104, 116, 116, 112], [104, 116, 116, 112, 115]] : List Str).length) 2) 9 1 (([[104, 116, 116, 112], [104, 116, 116, 112, 115]] : List Str).length) (cells zh ([[104, 116, 116, 112], [104, 116, 116, 112, 115]] : List Str)), .blk b21 [int r20.1.Kind, str r20.1.Scheme, int r20.1.Host.Kind, str r20.1.Host.Name, int r20.1.Host.Port, str r20.1.Path, str r20.1.Query, .bool r20.1.HasQuery] 109, .blk b1 [int 0, str [], int 0, str [], int 0, str [], str [], .bool false] 109] ∧ zdP t84 i85 s86 i87 s88 i89 s90 s91 t92 = some R) rfl ?_ ?_
 refine bi rfl fun b74 hb74 => ?_
 refine vl rfl rfl (fun a w hf hO => zW (b := b74) (c := 63) hf rfl rfl) ?_
 refine br rfl (fun hc76 => ?_) fun hc76 => ?_
 refine rw_ rfl fun a w hf hO hm => ?_
 refine z6 (i := 0) (o := 7) (v := .bool true) sz_4 rfl rfl rfl rfl hf rfl rfl hO fun w hO => ?_
 refine S.op tb ?_ hf hO hm
 refine bi rfl fun i78 hi78 => ?_
 refine bi rfl fun s79 hs79 => ?_
 refine rw_ rfl fun a w hf hO hm => ?_
 refine z6 (i := 0) (o := 6) (v := str s79) zd1 rfl rfl rfl rfl hf rfl rfl hO fun w hO => ?_
 refine S.op tb ?_ hf hO hm
 refine vl rfl rfl (fun a w hf hO => zb (o := 6) zR (hO.blkSees (i := 0) rfl) rfl hf rfl) ?_
 refine cl c_117 rfl (fun r81 w hr81 hO => zjC s79 r81 _ (hG.own hF hO) hr81) fun r81 hr81 => ?_
 exact en rfl fun a w hf hO hm => ⟨r81, 2, x34, r61.1.Kind, r61.1.Name, r61.1.Port, [], s79, true, hf.sel rfl, hO, hm⟩
 refine rc_ rfl fun a w hf hO hm => ?_
 obtain ⟨s82, hs82, hm⟩ := ob hm
 obtain ⟨r83, hr83, hm⟩ := ob hm
 refine zfP (S := Unit) (E0 := [(1, str s47), (4, ptr b1 0), (13, int i50), (16, ptr b68 0)]) (by kernel_rfl) (fun k σ w => match k with | 0 => Dk.Own w0 [] w [.blk b68 [int 2, str x34, int r61.1.Kind, str r61.1.Name, int r61.1.Port, str [], str [], .bool false] 109, .blk b62 [int r61.1.Kind, str r61.1.Name, int r61.1.Port] 107, .row (.slice (some ⟨b27, 0, none⟩) (([[104, 116, 116, 112], [104, 116, 116, 112, 115]] : List Str).length) 2) 9 1 (([[104, 116, 116, 112], [104, 116, 116, 112, 115]] : List Str).length) (cells zh ([[104, 116, 116, 112], [104, 116, 116, 112, 115]] : List Str)), .blk b21 [int r20.1.Kind, str r20.1.Scheme, int r20.1.Host.Kind, str r20.1.Host.Name, int r20.1.Host.Port, str r20.1.Path, str r20.1.Query, .bool r20.1.HasQuery] 109, .blk b1 [int 0, str [], int 0, str [], int 0, str [], str [], .bool false] 109] | 1 => Dk.Own w0 [] w [.blk b68 [int 2, str x34, int r61.1.Kind, str r61.1.Name, int r61.1.Port, str [], str [], .bool false] 109, .blk b62 [int r61.1.Kind, str r61.1.Name, int r61.1.Port] 107, .row (.slice (some ⟨b27, 0, none⟩) (([[104, 116, 116, 112], [104, 116, 116, 112, 115]] : List Str).length) 2) 9 1 (([[104, 116, 116, 112], [104, 116, 116, 112, 115]] : List Str).length) (cells zh ([[104, 116, 116, 112], [104, 116, 116, 112, 115]] : List Str)), .blk b21 [int r20.1.Kind, str r20.1.Scheme, int r20.1.Host.Kind, str r20.1.Host.Name, int r20.1.Host.Port, str r20.1.Path, str r20.1.Query, .bool r20.1.HasQuery] 109, .blk b1 [int 0, str [], int 0, str [], int 0, str [], str [], .bool false] 109] | _ => Dk.Own w0 [] w [.blk b68 [int r83.1.Kind, str r83.1.Scheme, int r83.1.Host.Kind, str r83.1.Host.Name, int r83.1.Host.Port, str r83.1.Path, str r83.1.Query, .bool r83.1.HasQuery] 109, .blk b62 [int r61.1.Kind, str r61.1.Name, int r61.1.Port] 107, .row (.slice (some ⟨b27, 0, none⟩) (([[104, 116, 116, 112], [104, 116, 116, 112, 115]] : List Str).length) 2) 9 1 (([[104, 116, 116, 112], [104, 116, 116, 112, 115]] : List Str).length) (cells zh ([[104, 116, 116, 112], [104, 116, 116, 112, 115]] : List Str)), .blk b21 [int r20.1.Kind, str r20.1.Scheme, int r20.1.Host.Kind, str r20.1.Host.Name, int r20.1.Host.Port, str r20.1.Path, str r20.1.Query, .bool r20.1.HasQuery] 109, .blk b1 [int 0, str [], int 0, str [], int 0, str [], str [], .bool false] 109]) (fun σ => [⟨[(16, ptr b68 0)], some (124, .agg #[int 2, str x34, int r61.1.Kind, str r61.1.Name, int r61.1.Port, str [], str [], .bool false])⟩, ⟨[(1, str s47)], some (125, str s47)⟩, ⟨[(13, int i50)], some (126, int i50)⟩, ⟨[(125, str s47), (126, int i50)], some (127, str s82)⟩, ⟨[(124, .agg #[int 2, str x34, int r61.1.Kind, str r61.1.Name, int r61.1.Port, str [], str [], .bool false]), (127, str s82)], some (128, .tuple #[.agg #[int r83.1.Kind, str r83.1.Scheme, int r83.1.Host.Kind, str r83.1.Host.Name, int r83.1.Host.Port, str r83.1.Path, str r83.1.Query, .bool r83.1.HasQuery], .bool r83.2])⟩, ⟨[(128, .tuple #[.agg #[int r83.1.Kind, str r83.1.Scheme, int r83.1.Host.Kind, str r83.1.Host.Name, int r83.1.Host.Port, str r83.1.Path, str r83.1.Query, .bool r83.1.HasQuery], .bool r83.2])], some (123, .tuple #[.agg #[int r83.1.Kind, str r83.1.Scheme, int r83.1.Host.Kind, str r83.1.Host.Name, int r83.1.Host.Port, str r83.1.Path, str r83.1.Query, .bool r83.1.HasQuery], .bool r83.2])⟩, ⟨[(123, .tuple #[.agg #[int r83.1.Kind, str r83.1.Scheme, int r83.1.Host.Kind, str r83.1.Host.Name, int r83.1.Host.Port, str r83.1.Path, str r83.1.Query, .bool r83.1.HasQuery], .bool r83.2])], some (129, .agg #[int r83.1.Kind, str r83.1.Scheme, int r83.1.Host.Kind, str r83.1.Host.Name, int r83.1.Host.Port, str r83.1.Path, str r83.1.Query, .bool r83.1.HasQuery])⟩, ⟨[(123, .tuple #[.agg #[int r83.1.Kind, str r83.1.Scheme, int r83.1.Host.Kind, str r83.1.Host.Name, int r83.1.Host.Port, str r83.1.Path, str r83.1.Query, .bool r83.1.HasQuery], .bool r83.2])], some (130, .bool r83.2)⟩, ⟨[(16, ptr b68 0), (129, .agg #[int r83.1.Kind, str r83.1.Scheme, int r83.1.Host.Kind, str r83.1.Host.Name, int r83.1.Host.Port, str r83.1.Path, str r83.1.Query, .bool r83.1.HasQuery])], none⟩, ⟨[(130, .bool r83.2)], some (9, .bool r83.2)⟩]) () [4, 8] rfl (fun _ => rfl) (fun _ => rfl) (fun _ => rfl) rfl rfl (by decide) rfl hO.drew (hf.cons rfl (hf.cons rfl (hf.cons rfl (hf.cons rfl hf.nil)))) (fun σ => ⟨⟨rfl, trivial⟩, ⟨rfl, trivial⟩, ⟨rfl, trivial⟩, ⟨rfl, rfl, trivial⟩, ⟨rfl, rfl, trivial⟩, ⟨rfl, trivial⟩, ⟨rfl, trivial⟩, ⟨rfl, trivial⟩, ⟨rfl, rfl, trivial⟩, ⟨rfl, trivial⟩, trivial⟩) ⟨zk rfl (fun σ => rfl) (fun σ => rfl) (fun σ a w k hk hlo hup hst hf => match k, hk, hlo, hup, hst, hf with | 0, _, _, _, hst, hf => have hO : Dk.Own w0 [] w _ := hst; zn (o := 0) (vs := [int 2, str x34, int r61.1.Kind, str r61.1.Name, int r61.1.Port, str [], str [], .bool false]) zZ zu (hO.blkSees (i := 0) rfl) rfl rfl hf rfl | 1, _, _, _, hst, hf => have hO : Dk.Own w0 [] w _ := hst; zn (o := 0) (vs := [int 2, str x34, int r61.1.Kind, str r61.1.Name, int r61.1.Port, str [], str [], .bool false]) zZ zu (hO.blkSees (i := 0) rfl) rfl rfl hf rfl | 2, _, _, hup, _, _ => absurd (hup 0 (by decide) (by kernel_rfl)) (by decide) | k + 3, hk, _, _, _, _ => absurd hk (by simp)), zk rfl (fun σ => rfl) (fun σ => rfl) (fun σ a w k _ _ _ _ hf => zB hf rfl), zk rfl (fun σ => rfl) (fun σ => rfl) (fun σ a w k _ _ _ _ hf => zB hf rfl), zk rfl (fun σ => rfl) (fun σ => rfl) (fun σ a w k _ _ _ _ hf => zjo (l := s47) Tryz.underlying9 hf rfl rfl hs82), zfZ rfl (fun σ => rfl) (fun σ => rfl) rfl (fun σ a w (_ : _) hf => zp c_115 hf (vs := [.agg #[int 2, str x34, int r61.1.Kind, str r61.1.Name, int r61.1.Port, str [], str [], .bool false], str s82]) rfl) (fun σ w (hO : Dk.Own w0 [] w _) => (ziL (⟨2, x34, r61.1, [], [], false⟩ : api_Target) s82 r83 _ (hG.own hF hO) hr83).mono fun e w' h => by obtain ⟨he, hb⟩ := h; exact ⟨(), he, hO.grow hb, .inr rfl, .inr rfl, .inr rfl, .inr rfl, .inr rfl, .inr rfl, .inr rfl, .inr rfl, .inr rfl, .inr rfl, trivial⟩), zk rfl (fun σ => rfl) (fun σ => rfl) (fun σ a w k _ _ _ _ hf => zB hf rfl), zk rfl (fun σ => rfl) (fun σ => rfl) (fun σ a w k _ _ _ _ hf => zeT hf rfl rfl), zk rfl (fun σ => rfl) (fun σ => rfl) (fun σ a w k _ _ _ _ hf => zeT hf rfl rfl), zgz rfl (fun σ => rfl) (fun σ => rfl) rfl (fun σ w (hO : Dk.Own w0 [] w _) => by obtain ⟨w', hO', hr⟩ := zfQ (x := (.tmp 16)) (y := (.tmp 129)) (E := [(16, ptr b68 0), (129, .agg #[int r83.1.Kind, str r83.1.Scheme, int r83.1.Host.Kind, str r83.1.Host.Name, int r83.1.Host.Port, str r83.1.Path, str r83.1.Query, .bool r83.1.HasQuery])]) (i := 0) (n := 8) (vs := [int r83.1.Kind, str r83.1.Scheme, int r83.1.Host.Kind, str r83.1.Host.Name, int r83.1.Host.Port, str r83.1.Path, str r83.1.Query, .bool r83.1.HasQuery]) zu rfl rfl rfl (by simp [Value.oneCell']) hO rfl rfl; exact ⟨(), w', hO', ⟨.inr rfl, .inr rfl, .inr rfl, .inr rfl, .inr rfl, .inr rfl, .inr rfl, .inr rfl, .inr rfl, .inr rfl, trivial⟩, hr⟩), zk rfl (fun σ => rfl) (fun σ => rfl) (fun σ a w k _ _ _ _ hf => zaG hf rfl), trivial⟩ ?_
 rintro _ a w hf hO
 have hO : Dk.Own w0 [] w _ := hO
 have hf : Fits 137 [(4, ptr b1 0), (9, .bool r83.2), (16, ptr b68 0)] a := (hf.cons rfl (hf.cons rfl (hf.cons rfl hf.nil)))
 refine S.no tb ?_ hf hO hm
 exact en rfl fun a w hf hO hm => ⟨r83.2, r83.1.Kind, r83.1.Scheme, r83.1.Host.Kind, r83.1.Host.Name, r83.1.Host.Port, r83.1.Path, r83.1.Query, r83.1.HasQuery, hf.sel rfl, hO, hm⟩
 rintro a w ⟨t84, i85, s86, i87, s88, i89, s90, s91, t92, hf, hO, hm⟩
 rw [zdP] at hm
 refine S.co tb ?_ hf hO hm
 refine br rfl (fun hc94 => ?_) fun hc94 => ?_
 refine vl rfl rfl (fun a w hf hO => zj (vs := []) (v := .agg #[int 0, str [], int 0, str [], int 0, str [], str [], .bool false]) hf rfl (by kernel_rfl)) ?_
 refine rw_ rfl fun a w hf hO hm => ?_
 refine ze (i := 4) (n := 8) zu rfl rfl rfl (by simp [Value.oneCell']) hf rfl rfl hO fun w hO => ?_
 refine S.op tb ?_ hf hO hm
 refine re_ rfl fun a w hf hO hm => ?_
 obtain rfl := Option.some.inj hm
 exact zg Tryz.results69 hf (.cell rfl (zd (n := 8) (vs := [int 0, str [], int 0, str [], int 0, str [], str [], .bool false]) zZ zu rfl ((hO.blkSees (i := 4) rfl).cells (o := 0) (n := 8) rfl)) (.tmp rfl .nil)) ⟨rfl, hO.below⟩
 refine vl rfl rfl (fun a w hf hO => zn (o := 0) (vs := [int i85, str s86, int i87, str s88, int i89, str s90, str s91, .bool t92]) zZ zu (hO.blkSees (i := 0) rfl) rfl rfl hf rfl) ?_
 refine rw_ rfl fun a w hf hO hm => ?_
 refine ze (i := 4) (n := 8) zu rfl rfl rfl (by simp [Value.oneCell']) hf rfl rfl hO fun w hO => ?_
 refine S.op tb ?_ hf hO hm
 refine re_ rfl fun a w hf hO hm => ?_
 obtain rfl := Option.some.inj hm
 exact zg Tryz.results69 hf (.cell rfl (zd (n := 8) (vs := [int i85, str s86, int i87, str s88, int i89, str s90, str s91, .bool t92]) zZ zu rfl ((hO.blkSees (i := 4) rfl).cells (o := 0) (n := 8) rfl)) (.tmp rfl .nil)) ⟨rfl, hO.below⟩
 refine vl rfl rfl (fun a w hf hO => zj (vs := []) (v := .agg #[int 0, str [], int 0, str [], int 0, str [], str [], .bool false]) hf rfl (by kernel_rfl)) ?_
 refine rw_ rfl fun a w hf hO hm => ?_
 refine ze (i := 2) (n := 8) zu rfl rfl rfl (by simp [Value.oneCell']) hf rfl rfl hO fun w hO => ?_
 refine S.op tb ?_ hf hO hm
 refine re_ rfl fun a w hf hO hm => ?_
 obtain rfl := Option.some.inj hm
 exact zg Tryz.results69 hf (.cell rfl (zd (n := 8) (vs := [int 0, str [], int 0, str [], int 0, str [], str [], .bool false]) zZ zu rfl ((hO.blkSees (i := 2) rfl).cells (o := 0) (n := 8) rfl)) (.tmp rfl .nil)) ⟨rfl, hO.below⟩

theorem zjE (x_b : UInt8) (R : Bool) (w0 : World) (hG : zx w0) (hm : ze2 x_b = some R) :
    Calls Tryz.prog 71 #[z7 x_b] w0 (Ret w0 (fun R => .bool R) R) := by
 rw [ze2] at hm
 have hF : zz [] := zf
 have hO : Dk.Own w0 [] w0 [] := Dk.Own.refl w0
 refine S.enter tb Tryz.func71 rfl Tryz.ntmps71 rfl ?_ hO hm
 refine jn 0 (fun a w => ∃ (t4 : Bool), Fits 13 [(2, .bool t4)] a ∧ Dk.Own w0 [] w [] ∧ zdR t4 = some R) rfl ?_ ?_
 refine vl rfl rfl (fun a w hf hO => zjf (b := x_b) (c := 32) hf rfl rfl) ?_
 refine br rfl (fun hc2 => ?_) fun hc2 => ?_
 refine vl rfl rfl (fun a w hf hO => zd2 (b := x_b) (c := 127) hf rfl rfl) ?_
 refine br rfl (fun hc3 => ?_) fun hc3 => ?_
 exact en rfl fun a w hf hO hm => ⟨true, hf.sel rfl, hO, hm⟩
 refine vl rfl rfl (fun a w hf hO => zW (b := x_b) (c := 9) hf rfl rfl) ?_
 exact en rfl fun a w hf hO hm => ⟨x_b == 9, hf.sel rfl, hO, hm⟩
 refine vl rfl rfl (fun a w hf hO => zW (b := x_b) (c := 9) hf rfl rfl) ?_
 exact en rfl fun a w hf hO hm => ⟨x_b == 9, hf.sel rfl, hO, hm⟩
 rintro a w ⟨t4, hf, hO, hm⟩
 rw [zdR] at hm
 refine S.co tb ?_ hf hO hm
 exact rt Tryz.results71 rfl

theorem znf (x_a0 : Int) (x_a1 : Str) (R : api_Head × Int) (w0 : World) (hG : zx w0) (hm : zgc x_a0 x_a1 = some R) :
    Calls Tryz.prog 35 #[int x_a0, str x_a1] w0 fun e w' => ∃ (p0 : Option Addr) (c0 : Nat), e = .returned (.tuple #[.agg #[int R.1.Kind, str R.1.Method, str R.1.Target, int R.1.Code, str R.1.Reason, int R.1.Minor, .slice p0 R.1.Fields.length c0], int R.2]) ∧ Dk.Own w0 [] w' [.row (.slice p0 R.1.Fields.length c0) 69 2 R.1.Fields.length (cells za R.1.Fields)] := by
 rw [zgc] at hm
 have hF : zz [] := zf
 have hO : Dk.Own w0 [] w0 [] := Dk.Own.refl w0
 refine S.enter tb Tryz.func35 rfl Tryz.ntmps35 rfl ?_ hO hm
 refine rw_ rfl fun a w hf hO hm => ?_
 refine zt zg5 hf rfl hO fun a b1 w hf hO => ?_
 have hO := hO.nilRow 69 2
 refine S.op tb ?_ hf hO hm
 refine jn 1 (fun a w => ∃ (t4 : Bool), Fits 144 [(0, int x_a0), (1, str x_a1), (4, ptr b1 0), (21, .bool t4)] a ∧ Dk.Own w0 [] w [.row (.slice none 0 0) 69 2 0 (cells za []), .blk b1 [int 0, str [], str [], int 0, str [], int 0, .slice none 0 0] 35] ∧ zdU x_a0 x_a1 t4 = some R) rfl ?_ ?_
 refine br rfl (fun hc3 => ?_) fun hc3 => ?_
 exact en rfl fun a w hf hO hm => ⟨!(x_a0 == 2), hf.sel rfl, hO, hm⟩
 exact en rfl fun a w hf hO hm => ⟨false, hf.sel rfl, hO, hm⟩
 rintro a w ⟨t4, hf, hO, hm⟩
 rw [zdU] at hm
 refine S.co tb ?_ hf hO hm
 refine br rfl (fun hc5 => ?_) fun hc5 => ?_
 refine vl rfl rfl (fun a w hf hO => zj (vs := []) (v := .agg #[int 0, str [], str [], int 0, str [], int 0, .slice none 0 0]) hf rfl (by kernel_rfl)) ?_
 refine rw_ rfl fun a w hf hO hm => ?_
 refine ze (i := 1) (n := 7) zv rfl rfl rfl (by simp [Value.oneCell']) hf rfl rfl hO fun w hO => ?_
 have hO := hO.nilRow 69 2
 refine S.op tb ?_ hf hO hm
 refine re_ rfl fun a w hf hO hm => ?_
 obtain rfl := Option.some.inj hm
 exact zg Tryz.results35 hf (.cell rfl (zd (n := 7) (vs := [int 0, str [], str [], int 0, str [], int 0, .slice none 0 0]) zae zv rfl ((hO.blkSees (i := 2) rfl).cells (o := 0) (n := 7) rfl)) (.tmp rfl .nil)) ⟨none, 0, rfl, (hO.sub (.cons_cons _ (.cons _ (.cons _ .slnil))))⟩
 refine lp (fun k a w => ∃ (i9 : Int), Fits 144 [(0, int x_a0), (1, str x_a1), (4, ptr b1 0), (6, int i9)] a ∧ Dk.Own w0 [] w [.row (.slice none 0 0) 69 2 0 (cells za []), .blk b1 [int 0, str [], str [], int 0, str [], int 0, .slice none 0 0] 35] ∧ zaJ x_a0 x_a1 k i9 = some R) rfl (fun a w hf hO hm => ⟨0, hf.sel rfl, hO, hm⟩) ?_
 rintro n2 a w ⟨i9, hf, hO, hm⟩
 obtain _ | n2 := n2
 rw [zaJ] at hm
 cases hm
 rw [zaJ] at hm
 refine S.co tb ?_ hf hO hm
 refine br rfl (fun hc11 => ?_) fun hc11 => ?_
 refine jn 5 (fun a w => ∃ (t16 : Bool), Fits 144 [(0, int x_a0), (1, str x_a1), (4, ptr b1 0), (6, int i9), (38, .bool t16)] a ∧ Dk.Own w0 [] w [.row (.slice none 0 0) 69 2 0 (cells za []), .blk b1 [int 0, str [], str [], int 0, str [], int 0, .slice none 0 0] 35] ∧ zdS (zaJ x_a0 x_a1 n2) i9 t16 = some R) rfl ?_ ?_
 refine bi rfl fun b13 hb13 => ?_
 refine vl rfl rfl (fun a w hf hO => zW (b := b13) (c := 13) hf rfl rfl) ?_
 refine br rfl (fun hc14 => ?_) fun hc14 => ?_
 exact en rfl fun a w hf hO hm => ⟨true, hf.sel rfl, hO, hm⟩
 refine bi rfl fun b15 hb15 => ?_
 refine vl rfl rfl (fun a w hf hO => zW (b := b15) (c := 10) hf rfl rfl) ?_
 exact en rfl fun a w hf hO hm => ⟨b15 == 10, hf.sel rfl, hO, hm⟩
 rintro a w ⟨t16, hf, hO, hm⟩
 rw [zdS] at hm
 refine S.co tb ?_ hf hO hm
 refine br rfl (fun hc17 => ?_) fun hc17 => ?_
 refine vl rfl rfl (fun a w hf hO => zj (vs := []) (v := .agg #[int 0, str [], str [], int 0, str [], int 0, .slice none 0 0]) hf rfl (by kernel_rfl)) ?_
 refine rw_ rfl fun a w hf hO hm => ?_
 refine ze (i := 1) (n := 7) zv rfl rfl rfl (by simp [Value.oneCell']) hf rfl rfl hO fun w hO => ?_
 have hO := hO.nilRow 69 2
 refine S.op tb ?_ hf hO hm
 refine re_ rfl fun a w hf hO hm => ?_
 obtain rfl := Option.some.inj hm
 exact zg Tryz.results35 hf (.cell rfl (zd (n := 7) (vs := [int 0, str [], str [], int 0, str [], int 0, .slice none 0 0]) zae zv rfl ((hO.blkSees (i := 2) rfl).cells (o := 0) (n := 7) rfl)) (.tmp rfl .nil)) ⟨none, 0, rfl, (hO.sub (.cons_cons _ (.cons _ (.cons _ .slnil))))⟩
 refine bi rfl fun i20 hi20 => ?_
 exact en rfl fun a w hf hO hm => ⟨_, Nat.lt_succ_self _, i20, hf.sel rfl, hO, hm⟩
 refine rw_ rfl fun a w hf hO hm => ?_
 obtain ⟨r22, hr22, hm⟩ := ob hm
 refine zr (zp c_66 hf (vs := [str x_a1, z7 32]) rfl) rfl hf rfl rfl (zhr x_a1 32 r22 _ (hG.own hF hO) hr22) ?_
 rintro e w' ⟨p23, c24, he, hO'⟩
 refine ⟨_, he, fun a hf => ?_⟩
 have hO := hO.call hO' (by simp [Res.shared])
 refine S.op tb ?_ hf hO hm
 refine br rfl (fun hc27 => ?_) fun hc27 => ?_
 refine bi rfl fun i28 hi28 => ?_
 refine rw_ rfl fun a w hf hO hm => ?_
 obtain ⟨x29, hx29, hm⟩ := ob hm
 obtain ⟨b30, o31, hix29, hSx29, hAx29⟩ := zah (enc := zh) (sz := 1) (xs := r22) 31 Tryz.underlying31 zd1 (by decide) (fun _ => rfl) hO (i := 0) rfl hx29
 refine za2 (zo hix29 hf rfl rfl) rfl hf rfl rfl fun a hf => ?_
 refine S.op tb ?_ hf hO hm
 refine vl rfl rfl (fun a w hf hO => zb (o := 0) zR (hSx29 _ (hO.rowSees (i := 0) rfl)) rfl hf rfl) ?_
 refine cl c_67 rfl (fun r32 w hr32 hO => ziA x29 r32 _ (hG.own hF hO) hr32) fun r32 hr32 => ?_
 refine br rfl (fun hc35 => ?_) fun hc35 => ?_
 refine vl rfl rfl (fun a w hf hO => zj (vs := []) (v := .agg #[int 0, str [], str [], int 0, str [], int 0, .slice none 0 0]) hf rfl (by kernel_rfl)) ?_
 refine rw_ rfl fun a w hf hO hm => ?_
 refine ze (i := 2) (n := 7) zv rfl rfl rfl (by simp [Value.oneCell']) hf rfl rfl hO fun w hO => ?_
 have hO := hO.nilRow 69 2
 refine S.op tb ?_ hf hO hm
 refine re_ rfl fun a w hf hO hm => ?_
 obtain rfl := Option.some.inj hm
 exact zg Tryz.results35 hf (.cell rfl (zd (n := 7) (vs := [int 0, str [], str [], int 0, str [], int 0, .slice none 0 0]) zae zv rfl ((hO.blkSees (i := 3) rfl).cells (o := 0) (n := 7) rfl)) (.tmp rfl .nil)) ⟨none, 0, rfl, (hO.sub (.cons_cons _ (.cons _ (.cons _ (.cons _ .slnil)))))⟩
 refine jn 2 (fun a w => ∃ (t44 : Bool), Fits 144 [(4, ptr b1 0), (7, .slice p23 r22.length c24), (8, int r32), (67, .bool t44)] a ∧ Dk.Own w0 [] w [.row (.slice p23 r22.length c24) 9 1 r22.length (cells zh r22), .row (.slice none 0 0) 69 2 0 (cells za []), .blk b1 [int 0, str [], str [], int 0, str [], int 0, .slice none 0 0] 35] ∧ zau r22 r32 t44 = some R) rfl ?_ ?_
 refine br rfl (fun hc38 => ?_) fun hc38 => ?_
 exact en rfl fun a w hf hO hm => ⟨true, hf.sel rfl, hO, hm⟩
 refine br rfl (fun hc39 => ?_) fun hc39 => ?_
 exact en rfl fun a w hf hO hm => ⟨true, hf.sel rfl, hO, hm⟩
 refine rw_ rfl fun a w hf hO hm => ?_
 obtain ⟨x40, hx40, hm⟩ := ob hm
 obtain ⟨b41, o42, hix40, hSx40, hAx40⟩ := zah (enc := zh) (sz := 1) (xs := r22) 31 Tryz.underlying31 zd1 (by decide) (fun _ => rfl) hO (i := 0) rfl hx40
 refine za2 (zo hix40 hf rfl rfl) rfl hf rfl rfl fun a hf => ?_
 refine S.op tb ?_ hf hO hm
 refine kn (b' := false) hc39 rfl ?_
 refine vl rfl rfl (fun a w hf hO => zb (o := 0) zR (hSx40 _ (hO.rowSees (i := 0) rfl)) rfl hf rfl) ?_
 refine cl c_68 rfl (fun r43 w hr43 hO => zjJ x40 r43 _ (hG.own hF hO) hr43) fun r43 hr43 => ?_
 exact en rfl fun a w hf hO hm => ⟨!r43, hf.sel rfl, hO, hm⟩
 rintro a w ⟨t44, hf, hO, hm⟩
 rw [zau] at hm
 refine S.co tb ?_ hf hO hm
 refine br rfl (fun hc45 => ?_) fun hc45 => ?_
 refine vl rfl rfl (fun a w hf hO => zj (vs := []) (v := .agg #[int 0, str [], str [], int 0, str [], int 0, .slice none 0 0]) hf rfl (by kernel_rfl)) ?_
 refine rw_ rfl fun a w hf hO hm => ?_
 refine ze (i := 2) (n := 7) zv rfl rfl rfl (by simp [Value.oneCell']) hf rfl rfl hO fun w hO => ?_
 have hO := hO.nilRow 69 2
 refine S.op tb ?_ hf hO hm
 refine re_ rfl fun a w hf hO hm => ?_
 obtain rfl := Option.some.inj hm
 exact zg Tryz.results35 hf (.cell rfl (zd (n := 7) (vs := [int 0, str [], str [], int 0, str [], int 0, .slice none 0 0]) zae zv rfl ((hO.blkSees (i := 3) rfl).cells (o := 0) (n := 7) rfl)) (.tmp rfl .nil)) ⟨none, 0, rfl, (hO.sub (.cons_cons _ (.cons _ (.cons _ (.cons _ .slnil)))))⟩
 refine rc_ rfl fun a w hf hO hm => ?_
 obtain ⟨x48, hx48, hm⟩ := ob hm
 obtain ⟨b49, o50, hix48, hSx48, hAx48⟩ := zah (enc := zh) (sz := 1) (xs := r22) 31 Tryz.underlying31 zd1 (by decide) (fun _ => rfl) hO (i := 0) rfl hx48
 obtain ⟨x51, hx51, hm⟩ := ob hm
 obtain ⟨b52, o53, hix51, hSx51, hAx51⟩ := zah (enc := zh) (sz := 1) (xs := r22) 31 Tryz.underlying31 zd1 (by decide) (fun _ => rfl) hO (i := 0) rfl hx51
 obtain ⟨r54, hr54, hm⟩ := ob hm
 refine zfP (S := Nat) (E0 := [(4, ptr b1 0), (7, .slice p23 r22.length c24), (8, int r32)]) (by kernel_rfl) (fun k σ w => match k with | 0 => Dk.Own w0 [] w [.row (.slice p23 r22.length c24) 9 1 r22.length (cells zh r22), .row (.slice none 0 0) 69 2 0 (cells za []), .blk b1 [int 0, str [], str [], int 0, str [], int 0, .slice none 0 0] 35] | 1 => Dk.Own w0 [] w [.blk σ [int 0, str [], int 0, str [], int 0, str [], str [], .bool false] 109, .row (.slice p23 r22.length c24) 9 1 r22.length (cells zh r22), .row (.slice none 0 0) 69 2 0 (cells za []), .blk b1 [int 0, str [], str [], int 0, str [], int 0, .slice none 0 0] 35] | _ => Dk.Own w0 [] w [.blk σ [int r54.1.Kind, str r54.1.Scheme, int r54.1.Host.Kind, str r54.1.Host.Name, int r54.1.Host.Port, str r54.1.Path, str r54.1.Query, .bool r54.1.HasQuery] 109, .row (.slice p23 r22.length c24) 9 1 r22.length (cells zh r22), .row (.slice none 0 0) 69 2 0 (cells za []), .blk b1 [int 0, str [], str [], int 0, str [], int 0, .slice none 0 0] 35]) (fun σ => [⟨[(7, .slice p23 r22.length c24)], some (70, .slice p23 r22.length c24)⟩, ⟨[(70, .slice p23 r22.length c24)], some (71, ptr b49 o50)⟩, ⟨[(71, ptr b49 o50)], some (72, str x48)⟩, ⟨[(7, .slice p23 r22.length c24)], some (73, .slice p23 r22.length c24)⟩, ⟨[(73, .slice p23 r22.length c24)], some (74, ptr b52 o53)⟩, ⟨[(74, ptr b52 o53)], some (75, str x51)⟩, ⟨[(72, str x48), (75, str x51)], some (76, .tuple #[.agg #[int r54.1.Kind, str r54.1.Scheme, int r54.1.Host.Kind, str r54.1.Host.Name, int r54.1.Host.Port, str r54.1.Path, str r54.1.Query, .bool r54.1.HasQuery], int r54.2])⟩, ⟨[(76, .tuple #[.agg #[int r54.1.Kind, str r54.1.Scheme, int r54.1.Host.Kind, str r54.1.Host.Name, int r54.1.Host.Port, str r54.1.Path, str r54.1.Query, .bool r54.1.HasQuery], int r54.2])], some (69, .tuple #[.agg #[int r54.1.Kind, str r54.1.Scheme, int r54.1.Host.Kind, str r54.1.Host.Name, int r54.1.Host.Port, str r54.1.Path, str r54.1.Query, .bool r54.1.HasQuery], int r54.2])⟩, ⟨[(69, .tuple #[.agg #[int r54.1.Kind, str r54.1.Scheme, int r54.1.Host.Kind, str r54.1.Host.Name, int r54.1.Host.Port, str r54.1.Path, str r54.1.Query, .bool r54.1.HasQuery], int r54.2])], some (77, .agg #[int r54.1.Kind, str r54.1.Scheme, int r54.1.Host.Kind, str r54.1.Host.Name, int r54.1.Host.Port, str r54.1.Path, str r54.1.Query, .bool r54.1.HasQuery])⟩, ⟨[(69, .tuple #[.agg #[int r54.1.Kind, str r54.1.Scheme, int r54.1.Host.Kind, str r54.1.Host.Name, int r54.1.Host.Port, str r54.1.Path, str r54.1.Query, .bool r54.1.HasQuery], int r54.2])], some (78, int r54.2)⟩, ⟨[], some (9, ptr σ 0)⟩, ⟨[(9, ptr σ 0), (77, .agg #[int r54.1.Kind, str r54.1.Scheme, int r54.1.Host.Kind, str r54.1.Host.Name, int r54.1.Host.Port, str r54.1.Path, str r54.1.Query, .bool r54.1.HasQuery])], none⟩, ⟨[(78, int r54.2)], some (10, int r54.2)⟩]) (0) [10, 11] rfl (fun _ => rfl) (fun _ => rfl) (fun _ => rfl) rfl rfl (by decide) rfl hO.drew (hf.cons rfl (hf.cons rfl (hf.cons rfl hf.nil))) (fun σ => ⟨⟨rfl, trivial⟩, ⟨rfl, trivial⟩, ⟨rfl, trivial⟩, ⟨rfl, trivial⟩, ⟨rfl, trivial⟩, ⟨rfl, trivial⟩, ⟨rfl, rfl, trivial⟩, ⟨rfl, trivial⟩, ⟨rfl, trivial⟩, ⟨rfl, trivial⟩, trivial, ⟨rfl, rfl, trivial⟩, ⟨rfl, trivial⟩, trivial⟩) ⟨zk rfl (fun σ => rfl) (fun σ => rfl) (fun σ a w k _ _ _ _ hf => zB hf rfl), zk rfl (fun σ => rfl) (fun σ => rfl) (fun σ a w k _ _ _ _ hf => zo hix48 hf rfl rfl), zk rfl (fun σ => rfl) (fun σ => rfl) (fun σ a w k hk hlo hup hst hf => match k, hk, hlo, hup, hst, hf with | 0, _, _, _, hst, hf => have hO : Dk.Own w0 [] w _ := hst; zb (o := 0) zR (hSx48 _ (hO.rowSees (i := 0) rfl)) rfl hf rfl | 1, _, _, _, hst, hf => have hO : Dk.Own w0 [] w _ := hst; zb (o := 0) zR (hSx48 _ (hO.rowSees (i := 1) rfl)) rfl hf rfl | 2, _, _, _, hst, hf => have hO : Dk.Own w0 [] w _ := hst; zb (o := 0) zR (hSx48 _ (hO.rowSees (i := 1) rfl)) rfl hf rfl | k + 3, hk, _, _, _, _ => absurd hk (by simp)), zk rfl (fun σ => rfl) (fun σ => rfl) (fun σ a w k _ _ _ _ hf => zB hf rfl), zk rfl (fun σ => rfl) (fun σ => rfl) (fun σ a w k _ _ _ _ hf => zo hix51 hf rfl rfl), zk rfl (fun σ => rfl) (fun σ => rfl) (fun σ a w k hk hlo hup hst hf => match k, hk, hlo, hup, hst, hf with | 0, _, _, _, hst, hf => have hO : Dk.Own w0 [] w _ := hst; zb (o := 0) zR (hSx51 _ (hO.rowSees (i := 0) rfl)) rfl hf rfl | 1, _, _, _, hst, hf => have hO : Dk.Own w0 [] w _ := hst; zb (o := 0) zR (hSx51 _ (hO.rowSees (i := 1) rfl)) rfl hf rfl | 2, _, _, _, hst, hf => have hO : Dk.Own w0 [] w _ := hst; zb (o := 0) zR (hSx51 _ (hO.rowSees (i := 1) rfl)) rfl hf rfl | k + 3, hk, _, _, _, _ => absurd hk (by simp)), ztB rfl (fun σ => rfl) (fun σ => rfl) (fun σ a w hf => zp c_69 hf (vs := [str x48, str x51]) rfl) (fun σ w k hk hlo hup hst => match k, hk, hlo, hup, hst with | 0, _, _, _, hst => have hO : Dk.Own w0 [] w _ := hst; (zjD x48 x51 r54 _ (hG.own hF hO) hr54).mono fun e w' h => ⟨h.1, hO.grow h.2⟩ | 1, _, _, _, hst => have hO : Dk.Own w0 [] w _ := hst; (zjD x48 x51 r54 _ (hG.own hF hO) hr54).mono fun e w' h => ⟨h.1, hO.grow h.2⟩ | 2, _, _, hup, _ => absurd (hup 1 (by decide) (by kernel_rfl)) (by decide) | k + 3, hk, _, _, _ => absurd hk (by simp)), zk rfl (fun σ => rfl) (fun σ => rfl) (fun σ a w k _ _ _ _ hf => zB hf rfl), zk rfl (fun σ => rfl) (fun σ => rfl) (fun σ a w k _ _ _ _ hf => zeT hf rfl rfl), zk rfl (fun σ => rfl) (fun σ => rfl) (fun σ a w k _ _ _ _ hf => zeT hf rfl rfl), zoZ rfl (fun σ => rfl) (fun σ => rfl) rfl (fun σ w (hO : Dk.Own w0 [] w _) => by obtain ⟨b55, w', hO', hr⟩ := zsF (E := []) zfN hO; exact ⟨(b55), w', hO', ⟨.inr rfl, .inr rfl, .inr rfl, .inr rfl, .inr rfl, .inr rfl, .inr rfl, .inr rfl, .inr rfl, .inr rfl, .inl rfl, .inl rfl, .inr rfl, trivial⟩, hr⟩), zgz rfl (fun σ => rfl) (fun σ => rfl) rfl (fun σ w (hO : Dk.Own w0 [] w _) => by obtain ⟨w', hO', hr⟩ := zfQ (x := (.tmp 9)) (y := (.tmp 77)) (E := [(9, ptr σ 0), (77, .agg #[int r54.1.Kind, str r54.1.Scheme, int r54.1.Host.Kind, str r54.1.Host.Name, int r54.1.Host.Port, str r54.1.Path, str r54.1.Query, .bool r54.1.HasQuery])]) (i := 0) (n := 8) (vs := [int r54.1.Kind, str r54.1.Scheme, int r54.1.Host.Kind, str r54.1.Host.Name, int r54.1.Host.Port, str r54.1.Path, str r54.1.Query, .bool r54.1.HasQuery]) zu rfl rfl rfl (by simp [Value.oneCell']) hO rfl rfl; exact ⟨(σ), w', hO', ⟨.inr rfl, .inr rfl, .inr rfl, .inr rfl, .inr rfl, .inr rfl, .inr rfl, .inr rfl, .inr rfl, .inr rfl, .inr rfl, .inr rfl, .inr rfl, trivial⟩, hr⟩), zk rfl (fun σ => rfl) (fun σ => rfl) (fun σ a w k _ _ _ _ hf => zaG hf rfl), trivial⟩ ?_
 rintro b55 a w hf hO
 have hO : Dk.Own w0 [] w _ := hO
 have hf : Fits 144 [(4, ptr b1 0), (7, .slice p23 r22.length c24), (8, int r32), (10, int r54.2)] a := (hf.cons rfl (hf.cons rfl (hf.cons rfl (hf.cons rfl hf.nil))))
 refine S.no tb ?_ hf hO hm
 refine br rfl (fun hc58 => ?_) fun hc58 => ?_
 refine vl rfl rfl (fun a w hf hO => zj (vs := []) (v := .agg #[int 0, str [], str [], int 0, str [], int 0, .slice none 0 0]) hf rfl (by kernel_rfl)) ?_
 refine rw_ rfl fun a w hf hO hm => ?_
 refine ze (i := 3) (n := 7) zv rfl rfl rfl (by simp [Value.oneCell']) hf rfl rfl hO fun w hO => ?_
 have hO := hO.nilRow 69 2
 refine S.op tb ?_ hf hO hm
 refine re_ rfl fun a w hf hO hm => ?_
 obtain rfl := Option.some.inj hm
 exact zg Tryz.results35 hf (.cell rfl (zd (n := 7) (vs := [int 0, str [], str [], int 0, str [], int 0, .slice none 0 0]) zae zv rfl ((hO.blkSees (i := 4) rfl).cells (o := 0) (n := 7) rfl)) (.tmp rfl .nil)) ⟨none, 0, rfl, (hO.sub (.cons_cons _ (.cons _ (.cons _ (.cons _ (.cons _ .slnil))))))⟩
 refine rc_ rfl fun a w hf hO hm => ?_
 obtain ⟨x61, hx61, hm⟩ := ob hm
 obtain ⟨b62, o63, hix61, hSx61, hAx61⟩ := zah (enc := zh) (sz := 1) (xs := r22) 31 Tryz.underlying31 zd1 (by decide) (fun _ => rfl) hO (i := 1) rfl hx61
 obtain ⟨x64, hx64, hm⟩ := ob hm
 obtain ⟨b65, o66, hix64, hSx64, hAx64⟩ := zah (enc := zh) (sz := 1) (xs := r22) 31 Tryz.underlying31 zd1 (by decide) (fun _ => rfl) hO (i := 1) rfl hx64
 refine zfP (S := Unit) (E0 := [(4, ptr b1 0), (7, .slice p23 r22.length c24), (8, int r32)]) (by kernel_rfl) (fun k σ w => match k with | 0 => Dk.Own w0 [] w [.blk b55 [int r54.1.Kind, str r54.1.Scheme, int r54.1.Host.Kind, str r54.1.Host.Name, int r54.1.Host.Port, str r54.1.Path, str r54.1.Query, .bool r54.1.HasQuery] 109, .row (.slice p23 r22.length c24) 9 1 r22.length (cells zh r22), .row (.slice none 0 0) 69 2 0 (cells za []), .blk b1 [int 0, str [], str [], int 0, str [], int 0, .slice none 0 0] 35] | _ => Dk.Own w0 [] w [.blk b55 [int r54.1.Kind, str r54.1.Scheme, int r54.1.Host.Kind, str r54.1.Host.Name, int r54.1.Host.Port, str r54.1.Path, str r54.1.Query, .bool r54.1.HasQuery] 109, .row (.slice p23 r22.length c24) 9 1 r22.length (cells zh r22), .row (.slice none 0 0) 69 2 0 (cells za []), .blk b1 [int 1, str x61, str x64, int 0, str [], int r32, .slice none 0 0] 35]) (fun σ => [⟨[(7, .slice p23 r22.length c24)], some (82, .slice p23 r22.length c24)⟩, ⟨[(82, .slice p23 r22.length c24)], some (83, ptr b62 o63)⟩, ⟨[(83, ptr b62 o63)], some (84, str x61)⟩, ⟨[(7, .slice p23 r22.length c24)], some (85, .slice p23 r22.length c24)⟩, ⟨[(85, .slice p23 r22.length c24)], some (86, ptr b65 o66)⟩, ⟨[(86, ptr b65 o66)], some (87, str x64)⟩, ⟨[(8, int r32)], some (88, int r32)⟩, ⟨[(84, str x61), (87, str x64), (88, int r32)], some (89, .agg #[int 1, str x61, str x64, int 0, str [], int r32, .slice none 0 0])⟩, ⟨[(4, ptr b1 0), (89, .agg #[int 1, str x61, str x64, int 0, str [], int r32, .slice none 0 0])], none⟩, ⟨[], some (5, int 0)⟩]) () [8] rfl (fun _ => rfl) (fun _ => rfl) (fun _ => rfl) rfl rfl (by decide) rfl hO.drew (hf.cons rfl (hf.cons rfl (hf.cons rfl hf.nil))) (fun σ => ⟨⟨rfl, trivial⟩, ⟨rfl, trivial⟩, ⟨rfl, trivial⟩, ⟨rfl, trivial⟩, ⟨rfl, trivial⟩, ⟨rfl, trivial⟩, ⟨rfl, trivial⟩, ⟨rfl, rfl, rfl, trivial⟩, ⟨rfl, rfl, trivial⟩, trivial, trivial⟩) ⟨zk rfl (fun σ => rfl) (fun σ => rfl) (fun σ a w k _ _ _ _ hf => zB hf rfl), zk rfl (fun σ => rfl) (fun σ => rfl) (fun σ a w k _ _ _ _ hf => zo hix61 hf rfl rfl), zk rfl (fun σ => rfl) (fun σ => rfl) (fun σ a w k hk hlo hup hst hf => match k, hk, hlo, hup, hst, hf with | 0, _, _, _, hst, hf => have hO : Dk.Own w0 [] w _ := hst; zb (o := 0) zR (hSx61 _ (hO.rowSees (i := 1) rfl)) rfl hf rfl | 1, _, _, _, hst, hf => have hO : Dk.Own w0 [] w _ := hst; zb (o := 0) zR (hSx61 _ (hO.rowSees (i := 1) rfl)) rfl hf rfl | k + 2, hk, _, _, _, _ => absurd hk (by simp)), zk rfl (fun σ => rfl) (fun σ => rfl) (fun σ a w k _ _ _ _ hf => zB hf rfl), zk rfl (fun σ => rfl) (fun σ => rfl) (fun σ a w k _ _ _ _ hf => zo hix64 hf rfl rfl), zk rfl (fun σ => rfl) (fun σ => rfl) (fun σ a w k hk hlo hup hst hf => match k, hk, hlo, hup, hst, hf with | 0, _, _, _, hst, hf => have hO : Dk.Own w0 [] w _ := hst; zb (o := 0) zR (hSx64 _ (hO.rowSees (i := 1) rfl)) rfl hf rfl | 1, _, _, _, hst, hf => have hO : Dk.Own w0 [] w _ := hst; zb (o := 0) zR (hSx64 _ (hO.rowSees (i := 1) rfl)) rfl hf rfl | k + 2, hk, _, _, _, _ => absurd hk (by simp)), zk rfl (fun σ => rfl) (fun σ => rfl) (fun σ a w k _ _ _ _ hf => zB hf rfl), zk rfl (fun σ => rfl) (fun σ => rfl) (fun σ a w k _ _ _ _ hf => zj (vs := [(0, int 1), (1, str x61), (2, str x64), (5, int r32)]) (v := .agg #[int 1, str x61, str x64, int 0, str [], int r32, .slice none 0 0]) hf rfl (by kernel_rfl)), zgz rfl (fun σ => rfl) (fun σ => rfl) rfl (fun σ w (hO : Dk.Own w0 [] w _) => by obtain ⟨w', hO', hr⟩ := zfQ (x := (.tmp 4)) (y := (.tmp 89)) (E := [(4, ptr b1 0), (89, .agg #[int 1, str x61, str x64, int 0, str [], int r32, .slice none 0 0])]) (i := 3) (n := 7) (vs := [int 1, str x61, str x64, int 0, str [], int r32, .slice none 0 0]) zv rfl rfl rfl (by simp [Value.oneCell']) hO rfl rfl; exact ⟨(), w', hO', ⟨.inr rfl, .inr rfl, .inr rfl, .inr rfl, .inr rfl, .inr rfl, .inr rfl, .inr rfl, .inr rfl, .inr rfl, trivial⟩, hr⟩), zk rfl (fun σ => rfl) (fun σ => rfl) (fun σ a w k _ _ _ _ hf => zaG hf rfl), trivial⟩ ?_
 rintro _ a w hf hO
 have hO : Dk.Own w0 [] w _ := hO
 have hf : Fits 144 [(4, ptr b1 0), (5, int 0)] a := (hf.cons rfl (hf.cons rfl hf.nil))
 have hO := hO.nilRow 69 2
 refine S.no tb ?_ hf hO hm
 refine re_ rfl fun a w hf hO hm => ?_
 obtain rfl := Option.some.inj hm
 exact zg Tryz.results35 hf (.cell rfl (zd (n := 7) (vs := [int 1, str x61, str x64, int 0, str [], int r32, .slice none 0 0]) zae zv rfl ((hO.blkSees (i := 4) rfl).cells (o := 0) (n := 7) rfl)) (.tmp rfl .nil)) ⟨none, 0, rfl, (hO.sub (.cons_cons _ (.cons _ (.cons _ (.cons _ (.cons _ .slnil))))))⟩
 refine rw_ rfl fun a w hf hO hm => ?_
 obtain ⟨x69, hx69, hm⟩ := ob hm
 obtain ⟨b70, o71, hix69, hSx69, hAx69⟩ := zah (enc := zh) (sz := 1) (xs := r22) 31 Tryz.underlying31 zd1 (by decide) (fun _ => rfl) hO (i := 0) rfl hx69
 refine za2 (zo hix69 hf rfl rfl) rfl hf rfl rfl fun a hf => ?_
 refine S.op tb ?_ hf hO hm
 refine vl rfl rfl (fun a w hf hO => zb (o := 0) zR (hSx69 _ (hO.rowSees (i := 0) rfl)) rfl hf rfl) ?_
 refine cl c_67 rfl (fun r72 w hr72 hO => ziA x69 r72 _ (hG.own hF hO) hr72) fun r72 hr72 => ?_
 refine br rfl (fun hc75 => ?_) fun hc75 => ?_
 refine vl rfl rfl (fun a w hf hO => zj (vs := []) (v := .agg #[int 0, str [], str [], int 0, str [], int 0, .slice none 0 0]) hf rfl (by kernel_rfl)) ?_
 refine rw_ rfl fun a w hf hO hm => ?_
 refine ze (i := 2) (n := 7) zv rfl rfl rfl (by simp [Value.oneCell']) hf rfl rfl hO fun w hO => ?_
 have hO := hO.nilRow 69 2
 refine S.op tb ?_ hf hO hm
 refine re_ rfl fun a w hf hO hm => ?_
 obtain rfl := Option.some.inj hm
 exact zg Tryz.results35 hf (.cell rfl (zd (n := 7) (vs := [int 0, str [], str [], int 0, str [], int 0, .slice none 0 0]) zae zv rfl ((hO.blkSees (i := 3) rfl).cells (o := 0) (n := 7) rfl)) (.tmp rfl .nil)) ⟨none, 0, rfl, (hO.sub (.cons_cons _ (.cons _ (.cons _ (.cons _ .slnil)))))⟩
 refine jn 1 (fun a w => ∃ (t83 : Bool), Fits 144 [(1, str x_a1), (4, ptr b1 0), (7, .slice p23 r22.length c24), (11, int r72), (110, .bool t83)] a ∧ Dk.Own w0 [] w [.row (.slice p23 r22.length c24) 9 1 r22.length (cells zh r22), .row (.slice none 0 0) 69 2 0 (cells za []), .blk b1 [int 0, str [], str [], int 0, str [], int 0, .slice none 0 0] 35] ∧ zav x_a1 r22 r72 t83 = some R) rfl ?_ ?_
 refine br rfl (fun hc78 => ?_) fun hc78 => ?_
 exact en rfl fun a w hf hO hm => ⟨true, hf.sel rfl, hO, hm⟩
 refine br rfl (fun hc79 => ?_) fun hc79 => ?_
 exact en rfl fun a w hf hO hm => ⟨true, hf.sel rfl, hO, hm⟩
 refine rw_ rfl fun a w hf hO hm => ?_
 obtain ⟨x80, hx80, hm⟩ := ob hm
 obtain ⟨b81, o82, hix80, hSx80, hAx80⟩ := zah (enc := zh) (sz := 1) (xs := r22) 31 Tryz.underlying31 zd1 (by decide) (fun _ => rfl) hO (i := 0) rfl hx80
 refine za2 (zo hix80 hf rfl rfl) rfl hf rfl rfl fun a hf => ?_
 refine S.op tb ?_ hf hO hm
 refine kn (b' := false) hc79 rfl ?_
 refine vl rfl rfl (fun a w hf hO => zb (o := 0) zR (hSx80 _ (hO.rowSees (i := 0) rfl)) rfl hf rfl) ?_
 exact en rfl fun a w hf hO hm => ⟨!((x80.length : Int) == 3), hf.sel rfl, hO, hm⟩
 rintro a w ⟨t83, hf, hO, hm⟩
 rw [zav] at hm
 refine S.co tb ?_ hf hO hm
 refine br rfl (fun hc84 => ?_) fun hc84 => ?_
 refine vl rfl rfl (fun a w hf hO => zj (vs := []) (v := .agg #[int 0, str [], str [], int 0, str [], int 0, .slice none 0 0]) hf rfl (by kernel_rfl)) ?_
 refine rw_ rfl fun a w hf hO hm => ?_
 refine ze (i := 2) (n := 7) zv rfl rfl rfl (by simp [Value.oneCell']) hf rfl rfl hO fun w hO => ?_
 have hO := hO.nilRow 69 2
 refine S.op tb ?_ hf hO hm
 refine re_ rfl fun a w hf hO hm => ?_
 obtain rfl := Option.some.inj hm
 exact zg Tryz.results35 hf (.cell rfl (zd (n := 7) (vs := [int 0, str [], str [], int 0, str [], int 0, .slice none 0 0]) zae zv rfl ((hO.blkSees (i := 3) rfl).cells (o := 0) (n := 7) rfl)) (.tmp rfl .nil)) ⟨none, 0, rfl, (hO.sub (.cons_cons _ (.cons _ (.cons _ (.cons _ .slnil)))))⟩
 refine rw_ rfl fun a w hf hO hm => ?_
 obtain ⟨x87, hx87, hm⟩ := ob hm
 obtain ⟨b88, o89, hix87, hSx87, hAx87⟩ := zah (enc := zh) (sz := 1) (xs := r22) 31 Tryz.underlying31 zd1 (by decide) (fun _ => rfl) hO (i := 0) rfl hx87
 refine za2 (zo hix87 hf rfl rfl) rfl hf rfl rfl fun a hf => ?_
 refine S.op tb ?_ hf hO hm
 refine vl rfl rfl (fun a w hf hO => zb (o := 0) zR (hSx87 _ (hO.rowSees (i := 0) rfl)) rfl hf rfl) ?_
 refine cl c_70 rfl (fun r90 w hr90 hO => zkF x87 10 599 r90 _ (hG.own hF hO) hr90) fun r90 hr90 => ?_
 refine bi rfl fun s92 hs92 => ?_
 refine lp (fun k a w => ∃ (i95 : Int), Fits 144 [(4, ptr b1 0), (11, int r72), (12, int r90.1), (13, int r90.2), (14, str s92), (15, int i95)] a ∧ Dk.Own w0 [] w [.row (.slice p23 r22.length c24) 9 1 r22.length (cells zh r22), .row (.slice none 0 0) 69 2 0 (cells za []), .blk b1 [int 0, str [], str [], int 0, str [], int 0, .slice none 0 0] 35] ∧ zbE r72 r90 s92 k i95 = some R) rfl (fun a w hf hO hm => ⟨0, hf.sel rfl, hO, hm⟩) ?_
 rintro n6 a w ⟨i95, hf, hO, hm⟩
 obtain _ | n6 := n6
 rw [zbE] at hm
 cases hm
 rw [zbE] at hm
 refine S.co tb ?_ hf hO hm
 refine br rfl (fun hc97 => ?_) fun hc97 => ?_
 refine bi rfl fun b99 hb99 => ?_
 refine cl c_71 rfl (fun r100 w hr100 hO => zjE b99 r100 _ (hG.own hF hO) hr100) fun r100 hr100 => ?_
 refine br rfl (fun hc102 => ?_) fun hc102 => ?_
 refine vl rfl rfl (fun a w hf hO => zj (vs := []) (v := .agg #[int 0, str [], str [], int 0, str [], int 0, .slice none 0 0]) hf rfl (by kernel_rfl)) ?_
 refine rw_ rfl fun a w hf hO hm => ?_
 refine ze (i := 2) (n := 7) zv rfl rfl rfl (by simp [Value.oneCell']) hf rfl rfl hO fun w hO => ?_
 have hO := hO.nilRow 69 2
 refine S.op tb ?_ hf hO hm
 refine re_ rfl fun a w hf hO hm => ?_
 obtain rfl := Option.some.inj hm
 exact zg Tryz.results35 hf (.cell rfl (zd (n := 7) (vs := [int 0, str [], str [], int 0, str [], int 0, .slice none 0 0]) zae zv rfl ((hO.blkSees (i := 3) rfl).cells (o := 0) (n := 7) rfl)) (.tmp rfl .nil)) ⟨none, 0, rfl, (hO.sub (.cons_cons _ (.cons _ (.cons _ (.cons _ .slnil)))))⟩
 refine bi rfl fun i105 hi105 => ?_
 exact en rfl fun a w hf hO hm => ⟨_, Nat.lt_succ_self _, i105, hf.sel rfl, hO, hm⟩
 refine jn 1 (fun a w => ∃ (t108 : Bool), Fits 144 [(4, ptr b1 0), (11, int r72), (12, int r90.1), (14, str s92), (138, .bool t108)] a ∧ Dk.Own w0 [] w [.row (.slice p23 r22.length c24) 9 1 r22.length (cells zh r22), .row (.slice none 0 0) 69 2 0 (cells za []), .blk b1 [int 0, str [], str [], int 0, str [], int 0, .slice none 0 0] 35] ∧ zdT r72 r90 s92 t108 = some R) rfl ?_ ?_
 refine br rfl (fun hc107 => ?_) fun hc107 => ?_
 exact en rfl fun a w hf hO hm => ⟨true, hf.sel rfl, hO, hm⟩
 exact en rfl fun a w hf hO hm => ⟨decide (r90.1 < 100), hf.sel rfl, hO, hm⟩
 rintro a w ⟨t108, hf, hO, hm⟩
 rw [zdT] at hm
 refine S.co tb ?_ hf hO hm
 refine br rfl (fun hc109 => ?_) fun hc109 => ?_
 refine vl rfl rfl (fun a w hf hO => zj (vs := []) (v := .agg #[int 0, str [], str [], int 0, str [], int 0, .slice none 0 0]) hf rfl (by kernel_rfl)) ?_
 refine rw_ rfl fun a w hf hO hm => ?_
 refine ze (i := 2) (n := 7) zv rfl rfl rfl (by simp [Value.oneCell']) hf rfl rfl hO fun w hO => ?_
 have hO := hO.nilRow 69 2
 refine S.op tb ?_ hf hO hm
 refine re_ rfl fun a w hf hO hm => ?_
 obtain rfl := Option.some.inj hm
 exact zg Tryz.results35 hf (.cell rfl (zd (n := 7) (vs := [int 0, str [], str [], int 0, str [], int 0, .slice none 0 0]) zae zv rfl ((hO.blkSees (i := 3) rfl).cells (o := 0) (n := 7) rfl)) (.tmp rfl .nil)) ⟨none, 0, rfl, (hO.sub (.cons_cons _ (.cons _ (.cons _ (.cons _ .slnil)))))⟩
 refine vl rfl rfl (fun a w hf hO => zj (vs := [(0, int 2), (5, int r72), (3, int r90.1), (4, str s92)]) (v := .agg #[int 2, str [], str [], int r90.1, str s92, int r72, .slice none 0 0]) hf rfl (by kernel_rfl)) ?_
 refine rw_ rfl fun a w hf hO hm => ?_
 refine ze (i := 2) (n := 7) zv rfl rfl rfl (by simp [Value.oneCell']) hf rfl rfl hO fun w hO => ?_
 have hO := hO.nilRow 69 2
 refine S.op tb ?_ hf hO hm
 refine re_ rfl fun a w hf hO hm => ?_
 obtain rfl := Option.some.inj hm
 exact zg Tryz.results35 hf (.cell rfl (zd (n := 7) (vs := [int 2, str [], str [], int r90.1, str s92, int r72, .slice none 0 0]) zae zv rfl ((hO.blkSees (i := 3) rfl).cells (o := 0) (n := 7) rfl)) (.tmp rfl .nil)) ⟨none, 0, rfl, (hO.sub (.cons_cons _ (.cons _ (.cons _ (.cons _ .slnil)))))⟩

theorem zhu (x_b : UInt8) (R : Bool) (w0 : World) (hG : zx w0) (hm : zdV x_b = some R) :
    Calls Tryz.prog 72 #[z7 x_b] w0 (Ret w0 (fun R => .bool R) R) := by
 rw [zdV] at hm
 have hF : zz [] := zf
 have hO : Dk.Own w0 [] w0 [] := Dk.Own.refl w0
 refine S.enter tb Tryz.func72 rfl Tryz.ntmps72 rfl ?_ hO hm
 refine jn 0 (fun a w => ∃ (t3 : Bool), Fits 9 [(2, .bool t3)] a ∧ Dk.Own w0 [] w [] ∧ zfg t3 = some R) rfl ?_ ?_
 refine vl rfl rfl (fun a w hf hO => zW (b := x_b) (c := 32) hf rfl rfl) ?_
 refine br rfl (fun hc2 => ?_) fun hc2 => ?_
 exact en rfl fun a w hf hO hm => ⟨true, hf.sel rfl, hO, hm⟩
 refine vl rfl rfl (fun a w hf hO => zW (b := x_b) (c := 9) hf rfl rfl) ?_
 exact en rfl fun a w hf hO hm => ⟨x_b == 9, hf.sel rfl, hO, hm⟩
 rintro a w ⟨t3, hf, hO, hm⟩
 rw [zfg] at hm
 refine S.co tb ?_ hf hO hm
 exact rt Tryz.results72 rfl

theorem zkg (x_s : Str) (R : Str) (w0 : World) (hG : zx w0) (hm : zfH x_s = some R) :
    Calls Tryz.prog 73 #[str x_s] w0 (Ret w0 (fun R => str R) R) := by
 rw [zfH] at hm
 have hF : zz [] := zf
 have hO : Dk.Own w0 [] w0 [] := Dk.Own.refl w0
 refine S.enter tb Tryz.func73 rfl Tryz.ntmps73 rfl ?_ hO hm
 refine lp (fun k a w => ∃ (s2 : Str), Fits 30 [(0, str s2)] a ∧ Dk.Own w0 [] w [] ∧ za6 k s2 = some R) rfl (fun a w hf hO hm => ⟨x_s, hf.sel rfl, hO, hm⟩) ?_
 rintro n1 a w ⟨s2, hf, hO, hm⟩
 obtain _ | n1 := n1
 rw [za6] at hm
 cases hm
 rw [za6] at hm
 refine S.co tb ?_ hf hO hm
 refine jn 4 (fun a w => ∃ (t6 : Bool), Fits 30 [(0, str s2), (10, .bool t6)] a ∧ Dk.Own w0 [] w [] ∧ zdm (za6 n1) s2 t6 = some R) rfl ?_ ?_
 refine br rfl (fun hc3 => ?_) fun hc3 => ?_
 refine bi rfl fun b4 hb4 => ?_
 refine cl c_72 rfl (fun r5 w hr5 hO => zhu b4 r5 _ (hG.own hF hO) hr5) fun r5 hr5 => ?_
 exact en rfl fun a w hf hO hm => ⟨r5, hf.sel rfl, hO, hm⟩
 exact en rfl fun a w hf hO hm => ⟨false, hf.sel rfl, hO, hm⟩
 rintro a w ⟨t6, hf, hO, hm⟩
 rw [zdm] at hm
 refine S.co tb ?_ hf hO hm
 refine br rfl (fun hc7 => ?_) fun hc7 => ?_
 refine bi rfl fun s9 hs9 => ?_
 exact en rfl fun a w hf hO hm => ⟨_, Nat.lt_succ_self _, s9, hf.sel rfl, hO, hm⟩
 refine lp (fun k a w => ∃ (s11 : Str), Fits 30 [(0, str s11)] a ∧ Dk.Own w0 [] w [] ∧ za5 k s11 = some R) rfl (fun a w hf hO hm => ⟨s2, hf.sel rfl, hO, hm⟩) ?_
 rintro n3 a w ⟨s11, hf, hO, hm⟩
 obtain _ | n3 := n3
 rw [za5] at hm
 cases hm
 rw [za5] at hm
 refine S.co tb ?_ hf hO hm
 refine jn 4 (fun a w => ∃ (t16 : Bool), Fits 30 [(0, str s11), (23, .bool t16)] a ∧ Dk.Own w0 [] w [] ∧ zdl (za5 n3) s11 t16 = some R) rfl ?_ ?_
 refine br rfl (fun hc12 => ?_) fun hc12 => ?_
 refine bi rfl fun i13 hi13 => ?_
 refine bi rfl fun b14 hb14 => ?_
 refine cl c_72 rfl (fun r15 w hr15 hO => zhu b14 r15 _ (hG.own hF hO) hr15) fun r15 hr15 => ?_
 exact en rfl fun a w hf hO hm => ⟨r15, hf.sel rfl, hO, hm⟩
 exact en rfl fun a w hf hO hm => ⟨false, hf.sel rfl, hO, hm⟩
 rintro a w ⟨t16, hf, hO, hm⟩
 rw [zdl] at hm
 refine S.co tb ?_ hf hO hm
 refine br rfl (fun hc17 => ?_) fun hc17 => ?_
 refine bi rfl fun i19 hi19 => ?_
 refine bi rfl fun s20 hs20 => ?_
 exact en rfl fun a w hf hO hm => ⟨_, Nat.lt_succ_self _, s20, hf.sel rfl, hO, hm⟩
 exact rt Tryz.results73 rfl

theorem zmm (x_s : Str) (R : Bool) (w0 : World) (hG : zx w0) (hm : zfh x_s = some R) :
    Calls Tryz.prog 74 #[str x_s] w0 (Ret w0 (fun R => .bool R) R) := by
 rw [zfh] at hm
 have hF : zz [] := zf
 have hO : Dk.Own w0 [] w0 [] := Dk.Own.refl w0
 refine S.enter tb Tryz.func74 rfl Tryz.ntmps74 rfl ?_ hO hm
 refine lp (fun k a w => ∃ (i3 : Int), Fits 15 [(0, str x_s), (3, int i3)] a ∧ Dk.Own w0 [] w [] ∧ zbM x_s k i3 = some R) rfl (fun a w hf hO hm => ⟨0, hf.sel rfl, hO, hm⟩) ?_
 rintro n1 a w ⟨i3, hf, hO, hm⟩
 obtain _ | n1 := n1
 rw [zbM] at hm
 cases hm
 rw [zbM] at hm
 refine S.co tb ?_ hf hO hm
 refine br rfl (fun hc5 => ?_) fun hc5 => ?_
 refine bi rfl fun b7 hb7 => ?_
 refine cl c_71 rfl (fun r8 w hr8 hO => zjE b7 r8 _ (hG.own hF hO) hr8) fun r8 hr8 => ?_
 refine br rfl (fun hc10 => ?_) fun hc10 => ?_
 exact rt Tryz.results74 rfl
 refine bi rfl fun i13 hi13 => ?_
 exact en rfl fun a w hf hO hm => ⟨_, Nat.lt_succ_self _, i13, hf.sel rfl, hO, hm⟩
 exact rt Tryz.results74 rfl

theorem zng (x_a0 : Str) (R : api_Field × Int) (w0 : World) (hG : zx w0) (hm : zgd x_a0 = some R) :
    Calls Tryz.prog 36 #[str x_a0] w0 (Ret w0 (fun R => .tuple #[.agg #[str R.1.Name, str R.1.Value], int R.2]) R) := by
 rw [zgd] at hm
 have hF : zz [] := zf
 have hO : Dk.Own w0 [] w0 [] := Dk.Own.refl w0
 refine S.enter tb Tryz.func36 rfl Tryz.ntmps36 rfl ?_ hO hm
 refine rw_ rfl fun a w hf hO hm => ?_
 refine zt zmK hf rfl hO fun a b1 w hf hO => ?_
 refine S.op tb ?_ hf hO hm
 refine lp (fun k a w => ∃ (i4 : Int), Fits 78 [(0, str x_a0), (2, ptr b1 0), (4, int i4)] a ∧ Dk.Own w0 [] w [.blk b1 [str [], str []] 69] ∧ zba x_a0 k i4 = some R) rfl (fun a w hf hO hm => ⟨0, hf.sel rfl, hO, hm⟩) ?_
 rintro n1 a w ⟨i4, hf, hO, hm⟩
 obtain _ | n1 := n1
 rw [zba] at hm
 cases hm
 rw [zba] at hm
 refine S.co tb ?_ hf hO hm
 refine br rfl (fun hc6 => ?_) fun hc6 => ?_
 refine jn 5 (fun a w => ∃ (t11 : Bool), Fits 78 [(0, str x_a0), (2, ptr b1 0), (4, int i4), (22, .bool t11)] a ∧ Dk.Own w0 [] w [.blk b1 [str [], str []] 69] ∧ zdW (zba x_a0 n1) i4 t11 = some R) rfl ?_ ?_
 refine bi rfl fun b8 hb8 => ?_
 refine vl rfl rfl (fun a w hf hO => zW (b := b8) (c := 13) hf rfl rfl) ?_
 refine br rfl (fun hc9 => ?_) fun hc9 => ?_
 exact en rfl fun a w hf hO hm => ⟨true, hf.sel rfl, hO, hm⟩
 refine bi rfl fun b10 hb10 => ?_
 refine vl rfl rfl (fun a w hf hO => zW (b := b10) (c := 10) hf rfl rfl) ?_
 exact en rfl fun a w hf hO hm => ⟨b10 == 10, hf.sel rfl, hO, hm⟩
 rintro a w ⟨t11, hf, hO, hm⟩
 rw [zdW] at hm
 refine S.co tb ?_ hf hO hm
 refine br rfl (fun hc12 => ?_) fun hc12 => ?_
 refine vl rfl rfl (fun a w hf hO => zj (vs := []) (v := .agg #[str [], str []]) hf rfl (by kernel_rfl)) ?_
 refine rw_ rfl fun a w hf hO hm => ?_
 refine ze (i := 0) (n := 2) zal rfl rfl rfl (by simp [Value.oneCell']) hf rfl rfl hO fun w hO => ?_
 refine S.op tb ?_ hf hO hm
 refine re_ rfl fun a w hf hO hm => ?_
 obtain rfl := Option.some.inj hm
 exact zg Tryz.results36 hf (.cell rfl (zd (n := 2) (vs := [str [], str []]) zdc zal rfl ((hO.blkSees (i := 0) rfl).cells (o := 0) (n := 2) rfl)) (.tmp rfl .nil)) ⟨rfl, hO.below⟩
 refine bi rfl fun i15 hi15 => ?_
 exact en rfl fun a w hf hO hm => ⟨_, Nat.lt_succ_self _, i15, hf.sel rfl, hO, hm⟩
 refine jn 1 (fun a w => ∃ (t20 : Bool), Fits 78 [(0, str x_a0), (2, ptr b1 0), (31, .bool t20)] a ∧ Dk.Own w0 [] w [.blk b1 [str [], str []] 69] ∧ zcd x_a0 t20 = some R) rfl ?_ ?_
 refine br rfl (fun hc17 => ?_) fun hc17 => ?_
 refine bi rfl fun b18 hb18 => ?_
 refine cl c_72 rfl (fun r19 w hr19 hO => zhu b18 r19 _ (hG.own hF hO) hr19) fun r19 hr19 => ?_
 exact en rfl fun a w hf hO hm => ⟨r19, hf.sel rfl, hO, hm⟩
 exact en rfl fun a w hf hO hm => ⟨false, hf.sel rfl, hO, hm⟩
 rintro a w ⟨t20, hf, hO, hm⟩
 rw [zcd] at hm
 refine S.co tb ?_ hf hO hm
 refine br rfl (fun hc21 => ?_) fun hc21 => ?_
 refine vl rfl rfl (fun a w hf hO => zj (vs := []) (v := .agg #[str [], str []]) hf rfl (by kernel_rfl)) ?_
 refine rw_ rfl fun a w hf hO hm => ?_
 refine ze (i := 0) (n := 2) zal rfl rfl rfl (by simp [Value.oneCell']) hf rfl rfl hO fun w hO => ?_
 refine S.op tb ?_ hf hO hm
 refine re_ rfl fun a w hf hO hm => ?_
 obtain rfl := Option.some.inj hm
 exact zg Tryz.results36 hf (.cell rfl (zd (n := 2) (vs := [str [], str []]) zdc zal rfl ((hO.blkSees (i := 0) rfl).cells (o := 0) (n := 2) rfl)) (.tmp rfl .nil)) ⟨rfl, hO.below⟩
 refine lp (fun k a w => ∃ (i25 : Int), Fits 78 [(0, str x_a0), (2, ptr b1 0), (5, int i25)] a ∧ Dk.Own w0 [] w [.blk b1 [str [], str []] 69] ∧ zaw x_a0 k i25 = some R) rfl (fun a w hf hO hm => ⟨0, hf.sel rfl, hO, hm⟩) ?_
 rintro n4 a w ⟨i25, hf, hO, hm⟩
 obtain _ | n4 := n4
 rw [zaw] at hm
 cases hm
 rw [zaw] at hm
 refine S.co tb ?_ hf hO hm
 refine jn 4 (fun a w => ∃ (t28 : Bool), Fits 78 [(0, str x_a0), (2, ptr b1 0), (5, int i25), (42, .bool t28)] a ∧ Dk.Own w0 [] w [.blk b1 [str [], str []] 69] ∧ zcc (zaw x_a0 n4) x_a0 i25 t28 = some R) rfl ?_ ?_
 refine br rfl (fun hc26 => ?_) fun hc26 => ?_
 refine bi rfl fun b27 hb27 => ?_
 refine vl rfl rfl (fun a w hf hO => zd2 (b := b27) (c := 58) hf rfl rfl) ?_
 exact en rfl fun a w hf hO hm => ⟨!(b27 == 58), hf.sel rfl, hO, hm⟩
 exact en rfl fun a w hf hO hm => ⟨false, hf.sel rfl, hO, hm⟩
 rintro a w ⟨t28, hf, hO, hm⟩
 rw [zcc] at hm
 refine S.co tb ?_ hf hO hm
 refine br rfl (fun hc29 => ?_) fun hc29 => ?_
 refine bi rfl fun i31 hi31 => ?_
 exact en rfl fun a w hf hO hm => ⟨_, Nat.lt_succ_self _, i31, hf.sel rfl, hO, hm⟩
 refine bi rfl fun s33 hs33 => ?_
 refine cl c_73 rfl (fun r34 w hr34 hO => zkg s33 r34 _ (hG.own hF hO) hr34) fun r34 hr34 => ?_
 refine jn 1 (fun a w => ∃ (t38 : Bool), Fits 78 [(0, str x_a0), (2, ptr b1 0), (5, int i25), (6, str r34), (57, .bool t38)] a ∧ Dk.Own w0 [] w [.blk b1 [str [], str []] 69] ∧ zdX x_a0 i25 r34 t38 = some R) rfl ?_ ?_
 refine br rfl (fun hc36 => ?_) fun hc36 => ?_
 exact en rfl fun a w hf hO hm => ⟨true, hf.sel rfl, hO, hm⟩
 refine cl c_68 rfl (fun r37 w hr37 hO => zjJ r34 r37 _ (hG.own hF hO) hr37) fun r37 hr37 => ?_
 exact en rfl fun a w hf hO hm => ⟨!r37, hf.sel rfl, hO, hm⟩
 rintro a w ⟨t38, hf, hO, hm⟩
 rw [zdX] at hm
 refine S.co tb ?_ hf hO hm
 refine br rfl (fun hc39 => ?_) fun hc39 => ?_
 refine vl rfl rfl (fun a w hf hO => zj (vs := []) (v := .agg #[str [], str []]) hf rfl (by kernel_rfl)) ?_
 refine rw_ rfl fun a w hf hO hm => ?_
 refine ze (i := 0) (n := 2) zal rfl rfl rfl (by simp [Value.oneCell']) hf rfl rfl hO fun w hO => ?_
 refine S.op tb ?_ hf hO hm
 refine re_ rfl fun a w hf hO hm => ?_
 obtain rfl := Option.some.inj hm
 exact zg Tryz.results36 hf (.cell rfl (zd (n := 2) (vs := [str [], str []]) zdc zal rfl ((hO.blkSees (i := 0) rfl).cells (o := 0) (n := 2) rfl)) (.tmp rfl .nil)) ⟨rfl, hO.below⟩
 refine br rfl (fun hc43 => ?_) fun hc43 => ?_
 refine vl rfl rfl (fun a w hf hO => zj (vs := []) (v := .agg #[str [], str []]) hf rfl (by kernel_rfl)) ?_
 refine rw_ rfl fun a w hf hO hm => ?_
 refine ze (i := 0) (n := 2) zal rfl rfl rfl (by simp [Value.oneCell']) hf rfl rfl hO fun w hO => ?_
 refine S.op tb ?_ hf hO hm
 refine re_ rfl fun a w hf hO hm => ?_
 obtain rfl := Option.some.inj hm
 exact zg Tryz.results36 hf (.cell rfl (zd (n := 2) (vs := [str [], str []]) zdc zal rfl ((hO.blkSees (i := 0) rfl).cells (o := 0) (n := 2) rfl)) (.tmp rfl .nil)) ⟨rfl, hO.below⟩
 refine bi rfl fun i46 hi46 => ?_
 refine bi rfl fun s47 hs47 => ?_
 refine cl c_74 rfl (fun r48 w hr48 hO => zmm s47 r48 _ (hG.own hF hO) hr48) fun r48 hr48 => ?_
 refine br rfl (fun hc50 => ?_) fun hc50 => ?_
 refine vl rfl rfl (fun a w hf hO => zj (vs := []) (v := .agg #[str [], str []]) hf rfl (by kernel_rfl)) ?_
 refine rw_ rfl fun a w hf hO hm => ?_
 refine ze (i := 0) (n := 2) zal rfl rfl rfl (by simp [Value.oneCell']) hf rfl rfl hO fun w hO => ?_
 refine S.op tb ?_ hf hO hm
 refine re_ rfl fun a w hf hO hm => ?_
 obtain rfl := Option.some.inj hm
 exact zg Tryz.results36 hf (.cell rfl (zd (n := 2) (vs := [str [], str []]) zdc zal rfl ((hO.blkSees (i := 0) rfl).cells (o := 0) (n := 2) rfl)) (.tmp rfl .nil)) ⟨rfl, hO.below⟩
 refine bi rfl fun i53 hi53 => ?_
 refine bi rfl fun s54 hs54 => ?_
 refine cl c_73 rfl (fun r55 w hr55 hO => zkg s54 r55 _ (hG.own hF hO) hr55) fun r55 hr55 => ?_
 refine vl rfl rfl (fun a w hf hO => zj (vs := [(0, str r34), (1, str r55)]) (v := .agg #[str r34, str r55]) hf rfl (by kernel_rfl)) ?_
 refine rw_ rfl fun a w hf hO hm => ?_
 refine ze (i := 0) (n := 2) zal rfl rfl rfl (by simp [Value.oneCell']) hf rfl rfl hO fun w hO => ?_
 refine S.op tb ?_ hf hO hm
 refine re_ rfl fun a w hf hO hm => ?_
 obtain rfl := Option.some.inj hm
 exact zg Tryz.results36 hf (.cell rfl (zd (n := 2) (vs := [str r34, str r55]) zdc zal rfl ((hO.blkSees (i := 0) rfl).cells (o := 0) (n := 2) rfl)) (.tmp rfl .nil)) ⟨rfl, hO.below⟩

theorem zps (x_b : Str) (R : Int) (w0 : World) (hG : zx w0) (hm : zhM x_b = some R) :
    Calls Tryz.prog 48 #[str x_b] w0 (Ret w0 (fun R => int R) R) := by
 rw [zhM] at hm
 have hF : zz [] := zf
 have hO : Dk.Own w0 [] w0 [] := Dk.Own.refl w0
 refine S.enter tb Tryz.func48 rfl Tryz.ntmps48 rfl ?_ hO hm
 refine lp (fun k a w => ∃ (i3 : Int), Fits 19 [(0, str x_b), (3, int i3)] a ∧ Dk.Own w0 [] w [] ∧ zc1 x_b k i3 = some R) rfl (fun a w hf hO hm => ⟨0, hf.sel rfl, hO, hm⟩) ?_
 rintro n1 a w ⟨i3, hf, hO, hm⟩
 obtain _ | n1 := n1
 rw [zc1] at hm
 cases hm
 rw [zc1] at hm
 refine S.co tb ?_ hf hO hm
 refine bi rfl fun i4 hi4 => ?_
 refine br rfl (fun hc6 => ?_) fun hc6 => ?_
 refine bi rfl fun i8 hi8 => ?_
 refine bi rfl fun s9 hs9 => ?_
 refine br rfl (fun hc11 => ?_) fun hc11 => ?_
 refine bi rfl fun i12 hi12 => ?_
 exact rt Tryz.results48 rfl
 refine bi rfl fun i15 hi15 => ?_
 exact en rfl fun a w hf hO hm => ⟨_, Nat.lt_succ_self _, i15, hf.sel rfl, hO, hm⟩
 exact rt Tryz.results48 rfl

theorem zqh (x_f : api_Field) (x_name : Str) (R : Bool) (w0 : World) (hG : zx w0) (hm : ziZ x_f x_name = some R) :
    Calls Tryz.prog 125 #[.agg #[str x_f.Name, str x_f.Value], str x_name] w0 (Ret w0 (fun R => .bool R) R) := by
 rw [ziZ] at hm
 have hF : zz [] := zf
 have hO : Dk.Own w0 [] w0 [] := Dk.Own.refl w0
 refine S.enter tb Tryz.func125 rfl Tryz.ntmps125 rfl ?_ hO hm
 refine rw_ rfl fun a w hf hO hm => ?_
 refine zbU (v := .agg #[str x_f.Name, str x_f.Value]) (cs := [str x_f.Name, str x_f.Value]) rfl hf rfl rfl hO fun a b1 w hf hO => ?_
 refine S.op tb ?_ hf hO hm
 refine vl rfl rfl (fun a w hf hO => zb (o := 0) zR (hO.blkSees (i := 0) rfl) rfl hf rfl) ?_
 refine cl zso rfl (fun r3 w hr3 hO => zh9 x_f.Name r3 _ (hG.own hF hO) hr3) fun r3 hr3 => ?_
 refine cl zso rfl (fun r4 w hr4 hO => zh9 x_name r4 _ (hG.own hF hO) hr4) fun r4 hr4 => ?_
 exact rt Tryz.results125 rfl

end Go.Proofs
end
section
set_option linter.unusedVariables false
set_option maxHeartbeats 1000000
set_option linter.unusedSimpArgs false
set_option maxRecDepth 100000
namespace Go.Proofs
open Go.Dk Go.Dm Go.RowKit

theorem zmQ (x_l : List api_Field) (x_name : Str) (R : List Str) (w0 : World) (hG : zx w0) {x_l_p0 : Option Addr} {x_l_c0 : Nat} (hs0 : zas w0 x_l_p0 (cells za x_l)) (hc0 : x_l.length ≤ x_l_c0) (hm : zec x_l x_name = some R) :
    Calls Tryz.prog 79 #[.slice x_l_p0 x_l.length x_l_c0, str x_name] w0 fun e w' => ∃ (p0 : Option Addr) (c0 : Nat), e = .returned (.slice p0 R.length c0) ∧ Dk.Own w0 [] w' [.row (.slice p0 R.length c0) 9 1 R.length (cells zh R)] := by
 rw [zec] at hm
 have hF : zz [] := zf
 have hO : Dk.Own w0 [] w0 [] := Dk.Own.refl w0
 have hO := hO.addShr hs0 (by simp [Res.shared])
 refine S.enter tb Tryz.func79 rfl Tryz.ntmps79 rfl ?_ hO hm
 refine nl 9 1 ?_
 refine nl 9 1 ?_
 refine lp (fun k a w => ∃ (p4 : Option Addr) (c5 : Nat) (l6 : List Str) (i7 : Int), Fits 28 [(0, .slice x_l_p0 x_l.length x_l_c0), (1, str x_name), (5, .slice p4 l6.length c5), (6, int i7)] a ∧ Dk.Own w0 [] w [.row (.slice p4 l6.length c5) 9 1 l6.length (cells zh l6), .row (.slice none 0 0) 9 1 0 (cells zh []), .shr x_l_p0 (cells za x_l)] ∧ zaP x_l x_name k l6 i7 = some R) rfl (fun a w hf hO hm => ⟨none, 0, [], 0, hf.sel rfl, hO, hm⟩) ?_
 rintro n1 a w ⟨p4, c5, l6, i7, hf, hO, hm⟩
 obtain _ | n1 := n1
 rw [zaP] at hm
 cases hm
 rw [zaP] at hm
 refine S.co tb ?_ hf hO hm
 refine br rfl (fun hc9 => ?_) fun hc9 => ?_
 refine jn 3 (fun a w => ∃ (p24 : Option Addr) (c25 : Nat) (l26 : List Str), Fits 28 [(0, .slice x_l_p0 x_l.length x_l_c0), (1, str x_name), (5, .slice p24 l26.length c25), (6, int i7)] a ∧ Dk.Own w0 [] w [.row (.slice p24 l26.length c25) 9 1 l26.length (cells zh l26), .row (.slice none 0 0) 9 1 0 (cells zh []), .shr x_l_p0 (cells za x_l)] ∧ zda (zaP x_l x_name n1) i7 l26 = some R) rfl ?_ ?_
 refine rw_ rfl fun a w hf hO hm => ?_
 obtain ⟨x11, hx11, hm⟩ := ob hm
 obtain ⟨b12, o13, hix11, hSx11⟩ := zfM (enc := za) (sz := 2) (xs := x_l) 33 Tryz.underlying33 zal (by decide) (fun _ => rfl) (hO.sees (i := 2) rfl) hx11
 refine za2 (zo hix11 hf rfl rfl) rfl hf rfl rfl fun a hf => ?_
 refine S.op tb ?_ hf hO hm
 refine vl rfl rfl (fun a w hf hO => zn (o := 0) (vs := [str x11.Name, str x11.Value]) zdc zal (hSx11 _ (hO.sees (i := 2) rfl)) rfl rfl hf rfl) ?_
 refine cl c_125 rfl (fun r14 w hr14 hO => zqh x11 x_name r14 _ (hG.own hF hO) hr14) fun r14 hr14 => ?_
 refine br rfl (fun hc16 => ?_) fun hc16 => ?_
 refine rw_ rfl fun a w hf hO hm => ?_
 obtain ⟨x17, hx17, hm⟩ := ob hm
 obtain ⟨b18, o19, hix17, hSx17⟩ := zfM (enc := za) (sz := 2) (xs := x_l) 33 Tryz.underlying33 zal (by decide) (fun _ => rfl) (hO.sees (i := 2) rfl) hx17
 refine za2 (zo hix17 hf rfl rfl) rfl hf rfl rfl fun a hf => ?_
 refine S.op tb ?_ hf hO hm
 refine vl rfl rfl (fun a w hf hO => zb (o := 1) zR (hSx17 _ (hO.sees (i := 2) rfl)) rfl hf rfl) ?_
 refine rw_ rfl fun a w hf hO hm => ?_
 refine zJ (vs := [(0, str x17.Value)]) (cs := [str x17.Value]) (e := 9) (sz := 1) hf rfl rfl (fun w => by kernel_rfl) rfl rfl hO fun a b20 w hf hO => ?_
 refine S.op tb ?_ hf hO hm
 refine rw_ rfl fun a w hf hO hm => ?_
 obtain ⟨hg23, hm⟩ := og hm
 refine zeQ znX (enc := zh) (xs := l6) (ys := ([x17.Value] : List Str)) (i := 1) (fun _ => rfl) rfl (hO.rowSees (i := 0) rfl) (by simp [cells, zh, Value.oneCell']) hg23 hf rfl rfl rfl hO fun a p21 c22 w hf hO => ?_
 refine S.op tb ?_ hf hO hm
 exact en rfl fun a w hf hO hm => ⟨p21, c22, l6 ++ ([x17.Value] : List Str), hf.sel rfl, (hO.sub (.cons _ (.cons_cons _ (.cons_cons _ (.cons_cons _ .slnil))))), hm⟩
 exact en rfl fun a w hf hO hm => ⟨p4, c5, l6, hf.sel rfl, hO, hm⟩
 rintro a w ⟨p24, c25, l26, hf, hO, hm⟩
 rw [zda] at hm
 refine S.co tb ?_ hf hO hm
 refine bi rfl fun i27 hi27 => ?_
 exact en rfl fun a w hf hO hm => ⟨_, Nat.lt_succ_self _, p24, c25, l26, i27, hf.sel rfl, hO, hm⟩
 refine re_ rfl fun a w hf hO hm => ?_
 obtain rfl := Option.some.inj hm
 exact zg Tryz.results79 hf (.tmp rfl .nil) ⟨p4, c5, rfl, (hO.sub (.cons_cons _ (.cons _ (.cons _ .slnil))))⟩

theorem znv (x_h : api_Head) (R : Int) (w0 : World) (hG : zx w0) {x_h_p0 : Option Addr} {x_h_c0 : Nat} (hs0 : zas w0 x_h_p0 (cells za x_h.Fields)) (hc0 : x_h.Fields.length ≤ x_h_c0) (hm : zge x_h = some R) :
    Calls Tryz.prog 45 #[.agg #[int x_h.Kind, str x_h.Method, str x_h.Target, int x_h.Code, str x_h.Reason, int x_h.Minor, .slice x_h_p0 x_h.Fields.length x_h_c0]] w0 (Ret w0 (fun R => int R) R) := by
 rw [zge] at hm
 have hF : zz [] := zf
 have hO : Dk.Own w0 [] w0 [] := Dk.Own.refl w0
 have hO := hO.addShr hs0 (by simp [Res.shared])
 refine S.enter tb Tryz.func45 rfl Tryz.ntmps45 rfl ?_ hO hm
 refine rw_ rfl fun a w hf hO hm => ?_
 refine zbU (v := .agg #[int x_h.Kind, str x_h.Method, str x_h.Target, int x_h.Code, str x_h.Reason, int x_h.Minor, .slice x_h_p0 x_h.Fields.length x_h_c0]) (cs := [int x_h.Kind, str x_h.Method, str x_h.Target, int x_h.Code, str x_h.Reason, int x_h.Minor, .slice x_h_p0 x_h.Fields.length x_h_c0]) rfl hf rfl rfl hO fun a b1 w hf hO => ?_
 refine S.op tb ?_ hf hO hm
 refine vl rfl rfl (fun a w hf hO => zb (o := 6) zhT (hO.blkSees (i := 0) rfl) rfl hf rfl) ?_
 refine br rfl (fun hc4 => ?_) fun hc4 => ?_
 exact rt Tryz.results45 rfl
 refine vl rfl rfl (fun a w hf hO => zb (o := 0) zlv (hO.blkSees (i := 0) rfl) rfl hf rfl) ?_
 refine br rfl (fun hc8 => ?_) fun hc8 => ?_
 exact rt Tryz.results45 rfl
 refine vl rfl rfl (fun a w hf hO => zb (o := 6) zhT (hO.blkSees (i := 0) rfl) rfl hf rfl) ?_
 refine rw_ rfl fun a w hf hO hm => ?_
 obtain ⟨r11, hr11, hm⟩ := ob hm
 refine zr (zp c_79 hf (vs := [.slice x_h_p0 x_h.Fields.length x_h_c0, str [104, 111, 115, 116]]) rfl) rfl hf rfl rfl (zmQ x_h.Fields [104, 111, 115, 116] r11 _ (hG.own hF hO) (hO.sees (i := 1) rfl) hc0 hr11) ?_
 rintro e w' ⟨p12, c13, he, hO'⟩
 refine ⟨_, he, fun a hf => ?_⟩
 have hO := hO.call hO' (by simp [Res.shared])
 refine S.op tb ?_ hf hO hm
 refine jn 1 (fun a w => ∃ (t17 : Bool), Fits 46 [(3, .slice p12 r11.length c13), (28, .bool t17)] a ∧ Dk.Own w0 [] w [.row (.slice p12 r11.length c13) 9 1 r11.length (cells zh r11), .blk b1 [int x_h.Kind, str x_h.Method, str x_h.Target, int x_h.Code, str x_h.Reason, int x_h.Minor, .slice x_h_p0 x_h.Fields.length x_h_c0] 35, .shr x_h_p0 (cells za x_h.Fields)] ∧ zak r11 t17 = some R) rfl ?_ ?_
 refine br rfl (fun hc15 => ?_) fun hc15 => ?_
 exact en rfl fun a w hf hO hm => ⟨true, hf.sel rfl, hO, hm⟩
 refine vl rfl rfl (fun a w hf hO => zb (o := 5) zfl (hO.blkSees (i := 1) rfl) rfl hf rfl) ?_
 refine br rfl (fun hc16 => ?_) fun hc16 => ?_
 exact en rfl fun a w hf hO hm => ⟨(r11.length : Int) == 0, hf.sel rfl, hO, hm⟩
 exact en rfl fun a w hf hO hm => ⟨false, hf.sel rfl, hO, hm⟩
 rintro a w ⟨t17, hf, hO, hm⟩
 rw [zak] at hm
 refine S.co tb ?_ hf hO hm
 refine br rfl (fun hc18 => ?_) fun hc18 => ?_
 exact rt Tryz.results45 rfl
 refine jn 1 (fun a w => ∃ (t25 : Bool), Fits 46 [(3, .slice p12 r11.length c13), (37, .bool t25)] a ∧ Dk.Own w0 [] w [.row (.slice p12 r11.length c13) 9 1 r11.length (cells zh r11), .blk b1 [int x_h.Kind, str x_h.Method, str x_h.Target, int x_h.Code, str x_h.Reason, int x_h.Minor, .slice x_h_p0 x_h.Fields.length x_h_c0] 35, .shr x_h_p0 (cells za x_h.Fields)] ∧ zdY r11 t25 = some R) rfl ?_ ?_
 refine br rfl (fun hc21 => ?_) fun hc21 => ?_
 refine rw_ rfl fun a w hf hO hm => ?_
 obtain ⟨x22, hx22, hm⟩ := ob hm
 obtain ⟨b23, o24, hix22, hSx22, hAx22⟩ := zah (enc := zh) (sz := 1) (xs := r11) 31 Tryz.underlying31 zd1 (by decide) (fun _ => rfl) hO (i := 0) rfl hx22
 refine za2 (zo hix22 hf rfl rfl) rfl hf rfl rfl fun a hf => ?_
 refine S.op tb ?_ hf hO hm
 refine kn (b' := true) hc21 rfl ?_
 refine vl rfl rfl (fun a w hf hO => zb (o := 0) zR (hSx22 _ (hO.rowSees (i := 0) rfl)) rfl hf rfl) ?_
 exact en rfl fun a w hf hO hm => ⟨!(x22 == []), hf.sel rfl, hO, hm⟩
 exact en rfl fun a w hf hO hm => ⟨false, hf.sel rfl, hO, hm⟩
 rintro a w ⟨t25, hf, hO, hm⟩
 rw [zdY] at hm
 refine S.co tb ?_ hf hO hm
 refine br rfl (fun hc26 => ?_) fun hc26 => ?_
 refine rw_ rfl fun a w hf hO hm => ?_
 obtain ⟨x27, hx27, hm⟩ := ob hm
 obtain ⟨b28, o29, hix27, hSx27, hAx27⟩ := zah (enc := zh) (sz := 1) (xs := r11) 31 Tryz.underlying31 zd1 (by decide) (fun _ => rfl) hO (i := 0) rfl hx27
 refine za2 (zo hix27 hf rfl rfl) rfl hf rfl rfl fun a hf => ?_
 refine S.op tb ?_ hf hO hm
 refine vl rfl rfl (fun a w hf hO => zb (o := 0) zR (hSx27 _ (hO.rowSees (i := 0) rfl)) rfl hf rfl) ?_
 refine cl c_80 rfl (fun r30 w hr30 hO => zhs x27 r30 _ (hG.own hF hO) hr30) fun r30 hr30 => ?_
 refine rw_ rfl fun a w hf hO hm => ?_
 refine zt zfm hf rfl hO fun a b31 w hf hO => ?_
 refine S.op tb ?_ hf hO hm
 refine rw_ rfl fun a w hf hO hm => ?_
 refine ze (i := 0) (n := 3) zP rfl rfl rfl (by simp [Value.oneCell']) hf rfl rfl hO fun w hO => ?_
 refine S.op tb ?_ hf hO hm
 exact rt Tryz.results45 rfl
 exact rt Tryz.results45 rfl

theorem znw (x_a0 : Int) (x_a1 : Str) (x_a2 : Int) (R : api_Head × Int) (w0 : World) (hG : zx w0) (hm : zgf x_a0 x_a1 x_a2 = some R) :
    Calls Tryz.prog 25 #[int x_a0, str x_a1, int x_a2] w0 fun e w' => ∃ (p0 : Option Addr) (c0 : Nat), e = .returned (.tuple #[.agg #[int R.1.Kind, str R.1.Method, str R.1.Target, int R.1.Code, str R.1.Reason, int R.1.Minor, .slice p0 R.1.Fields.length c0], int R.2]) ∧ Dk.Own w0 [] w' [.row (.slice p0 R.1.Fields.length c0) 69 2 R.1.Fields.length (cells za R.1.Fields)] := by
 rw [zgf] at hm
 have hF : zz [] := zf
 have hO : Dk.Own w0 [] w0 [] := Dk.Own.refl w0
 refine S.enter tb Tryz.func25 rfl Tryz.ntmps25 rfl ?_ hO hm
 refine rw_ rfl fun a w hf hO hm => ?_
 refine zt zg5 hf rfl hO fun a b1 w hf hO => ?_
 have hO := hO.nilRow 69 2
 refine S.op tb ?_ hf hO hm
 refine jn 1 (fun a w => ∃ (t4 : Bool), Fits 95 [(0, int x_a0), (1, str x_a1), (2, int x_a2), (6, ptr b1 0), (23, .bool t4)] a ∧ Dk.Own w0 [] w [.row (.slice none 0 0) 69 2 0 (cells za []), .blk b1 [int 0, str [], str [], int 0, str [], int 0, .slice none 0 0] 35] ∧ zcR x_a0 x_a1 x_a2 t4 = some R) rfl ?_ ?_
 refine br rfl (fun hc3 => ?_) fun hc3 => ?_
 exact en rfl fun a w hf hO hm => ⟨!(x_a0 == 2), hf.sel rfl, hO, hm⟩
 exact en rfl fun a w hf hO hm => ⟨false, hf.sel rfl, hO, hm⟩
 rintro a w ⟨t4, hf, hO, hm⟩
 rw [zcR] at hm
 refine S.co tb ?_ hf hO hm
 refine br rfl (fun hc5 => ?_) fun hc5 => ?_
 refine vl rfl rfl (fun a w hf hO => zj (vs := []) (v := .agg #[int 0, str [], str [], int 0, str [], int 0, .slice none 0 0]) hf rfl (by kernel_rfl)) ?_
 refine rw_ rfl fun a w hf hO hm => ?_
 refine ze (i := 1) (n := 7) zv rfl rfl rfl (by simp [Value.oneCell']) hf rfl rfl hO fun w hO => ?_
 have hO := hO.nilRow 69 2
 refine S.op tb ?_ hf hO hm
 refine re_ rfl fun a w hf hO hm => ?_
 obtain rfl := Option.some.inj hm
 exact zg Tryz.results25 hf (.cell rfl (zd (n := 7) (vs := [int 0, str [], str [], int 0, str [], int 0, .slice none 0 0]) zae zv rfl ((hO.blkSees (i := 2) rfl).cells (o := 0) (n := 7) rfl)) (.tmp rfl .nil)) ⟨none, 0, rfl, (hO.sub (.cons_cons _ (.cons _ (.cons _ .slnil))))⟩
 refine br rfl (fun hc9 => ?_) fun hc9 => ?_
 refine vl rfl rfl (fun a w hf hO => zj (vs := []) (v := .agg #[int 0, str [], str [], int 0, str [], int 0, .slice none 0 0]) hf rfl (by kernel_rfl)) ?_
 refine rw_ rfl fun a w hf hO hm => ?_
 refine ze (i := 1) (n := 7) zv rfl rfl rfl (by simp [Value.oneCell']) hf rfl rfl hO fun w hO => ?_
 have hO := hO.nilRow 69 2
 refine S.op tb ?_ hf hO hm
 refine re_ rfl fun a w hf hO hm => ?_
 obtain rfl := Option.some.inj hm
 exact zg Tryz.results25 hf (.cell rfl (zd (n := 7) (vs := [int 0, str [], str [], int 0, str [], int 0, .slice none 0 0]) zae zv rfl ((hO.blkSees (i := 2) rfl).cells (o := 0) (n := 7) rfl)) (.tmp rfl .nil)) ⟨none, 0, rfl, (hO.sub (.cons_cons _ (.cons _ (.cons _ .slnil))))⟩
 refine jn 1 (fun a w => ∃ (t14 : Bool), Fits 95 [(0, int x_a0), (1, str x_a1), (6, ptr b1 0), (39, .bool t14)] a ∧ Dk.Own w0 [] w [.row (.slice none 0 0) 69 2 0 (cells za []), .blk b1 [int 0, str [], str [], int 0, str [], int 0, .slice none 0 0] 35] ∧ zcQ x_a0 x_a1 t14 = some R) rfl ?_ ?_
 refine br rfl (fun hc12 => ?_) fun hc12 => ?_
 exact en rfl fun a w hf hO hm => ⟨true, hf.sel rfl, hO, hm⟩
 refine cl c_48 rfl (fun r13 w hr13 hO => zps x_a1 r13 _ (hG.own hF hO) hr13) fun r13 hr13 => ?_
 exact en rfl fun a w hf hO hm => ⟨!(r13 == (x_a1.length : Int)), hf.sel rfl, hO, hm⟩
 rintro a w ⟨t14, hf, hO, hm⟩
 rw [zcQ] at hm
 refine S.co tb ?_ hf hO hm
 refine br rfl (fun hc15 => ?_) fun hc15 => ?_
 refine vl rfl rfl (fun a w hf hO => zj (vs := []) (v := .agg #[int 0, str [], str [], int 0, str [], int 0, .slice none 0 0]) hf rfl (by kernel_rfl)) ?_
 refine rw_ rfl fun a w hf hO hm => ?_
 refine ze (i := 1) (n := 7) zv rfl rfl rfl (by simp [Value.oneCell']) hf rfl rfl hO fun w hO => ?_
 have hO := hO.nilRow 69 2
 refine S.op tb ?_ hf hO hm
 refine re_ rfl fun a w hf hO hm => ?_
 obtain rfl := Option.some.inj hm
 exact zg Tryz.results25 hf (.cell rfl (zd (n := 7) (vs := [int 0, str [], str [], int 0, str [], int 0, .slice none 0 0]) zae zv rfl ((hO.blkSees (i := 2) rfl).cells (o := 0) (n := 7) rfl)) (.tmp rfl .nil)) ⟨none, 0, rfl, (hO.sub (.cons_cons _ (.cons _ (.cons _ .slnil))))⟩
 refine vl rfl rfl (fun a w hf hO => zj (vs := []) (v := .agg #[int 0, str [], str [], int 0, str [], int 0, .slice none 0 0]) hf rfl (by kernel_rfl)) ?_
 refine rw_ rfl fun a w hf hO hm => ?_
 refine zt zg5 hf rfl hO fun a b18 w hf hO => ?_
 have hO := hO.nilRow 69 2
 refine S.op tb ?_ hf hO hm
 refine rw_ rfl fun a w hf hO hm => ?_
 refine ze (i := 1) (n := 7) zv rfl rfl rfl (by simp [Value.oneCell']) hf rfl rfl hO fun w hO => ?_
 have hO := hO.nilRow 69 2
 refine S.op tb ?_ hf hO hm
 refine jn 0 (fun a w => ∃ (i85 : Int) (s86 : Str) (s87 : Str) (i88 : Int) (s89 : Str) (i90 : Int) (p91 : Option Addr) (c92 : Nat) (l93 : List api_Field), Fits 95 [(6, ptr b1 0), (8, ptr b18 0)] a ∧ Dk.Own w0 [] w [.row (.slice p91 l93.length c92) 69 2 l93.length (cells za l93), .row (.slice none 0 0) 69 2 0 (cells za []), .blk b18 [int i85, str s86, str s87, int i88, str s89, int i90, .slice p91 l93.length c92] 35, .row (.slice none 0 0) 69 2 0 (cells za []), .blk b1 [int 0, str [], str [], int 0, str [], int 0, .slice none 0 0] 35] ∧ zdZ i85 s86 s87 i88 s89 i90 l93 = some R) rfl ?_ ?_
 refine lp (fun k a w => ∃ (p23 : Option Addr) (c24 : Nat) (l25 : List api_Field) (i26 : Int) (s27 : Str) (s28 : Str) (i29 : Int) (s30 : Str) (i31 : Int) (t32 : Bool) (i33 : Int) (i34 : Int), Fits 95 [(0, int x_a0), (1, str x_a1), (6, ptr b1 0), (8, ptr b18 0), (9, .bool t32), (10, int i33), (11, int i34)] a ∧ Dk.Own w0 [] w [.row (.slice p23 l25.length c24) 69 2 l25.length (cells za l25), .row (.slice none 0 0) 69 2 0 (cells za []), .blk b18 [int i26, str s27, str s28, int i29, str s30, int i31, .slice p23 l25.length c24] 35, .row (.slice none 0 0) 69 2 0 (cells za []), .blk b1 [int 0, str [], str [], int 0, str [], int 0, .slice none 0 0] 35] ∧ zD x_a0 x_a1 k l25 i26 s27 s28 i29 s30 i31 t32 i33 i34 = some R) rfl (fun a w hf hO hm => ⟨none, 0, [], 0, [], [], 0, [], 0, true, 0, 0, hf.sel rfl, hO, hm⟩) ?_
 rintro n3 a w ⟨p23, c24, l25, i26, s27, s28, i29, s30, i31, t32, i33, i34, hf, hO, hm⟩
 obtain _ | n3 := n3
 rw [zD] at hm
 cases hm
 rw [zD] at hm
 refine S.co tb ?_ hf hO hm
 refine bi rfl fun i35 hi35 => ?_
 refine br rfl (fun hc37 => ?_) fun hc37 => ?_
 refine jn 3 (fun a w => ∃ (t73 : Bool) (i74 : Int) (i75 : Int) (s76 : Str) (s77 : Str) (i78 : Int) (s79 : Str) (i80 : Int) (p81 : Option Addr) (c82 : Nat) (l83 : List api_Field), Fits 95 [(0, int x_a0), (1, str x_a1), (6, ptr b1 0), (8, ptr b18 0), (9, .bool t73), (10, int i74), (11, int i34)] a ∧ Dk.Own w0 [] w [.row (.slice none 0 0) 69 2 0 (cells za []), .blk b18 [int i75, str s76, str s77, int i78, str s79, int i80, .slice p81 l83.length c82] 35, .row (.slice none 0 0) 69 2 0 (cells za []), .blk b1 [int 0, str [], str [], int 0, str [], int 0, .slice none 0 0] 35, .row (.slice p81 l83.length c82) 69 2 l83.length (cells za l83)] ∧ zce (zD x_a0 x_a1 n3) i34 t73 i74 i75 s76 s77 i78 s79 i80 l83 = some R) rfl ?_ ?_
 refine bi rfl fun i39 hi39 => ?_
 refine bi rfl fun s40 hs40 => ?_
 refine br rfl (fun hc42 => ?_) fun hc42 => ?_
 exact en rfl fun a w hf hO hm => ⟨t32, i33, i26, s27, s28, i29, s30, i31, p23, c24, l25, hf.sel rfl, (hO.choose [1, 2, 3, 4, 0] rfl), hm⟩
 refine bi rfl fun s44 hs44 => ?_
 refine bi rfl fun i46 hi46 => ?_
 refine br rfl (fun hc49 => ?_) fun hc49 => ?_
 refine rw_ rfl fun a w hf hO hm => ?_
 obtain ⟨r50, hr50, hm⟩ := ob hm
 refine zr (zp c_35 hf (vs := [int x_a0, str s44]) rfl) rfl hf rfl rfl (znf x_a0 s44 r50 _ (hG.own hF hO) hr50) ?_
 rintro e w' ⟨p51, c52, he, hO'⟩
 refine ⟨_, he, fun a hf => ?_⟩
 have hO := hO.call hO' (by simp [Res.shared])
 refine S.op tb ?_ hf hO hm
 refine rw_ rfl fun a w hf hO hm => ?_
 refine zt zg5 hf rfl hO fun a b53 w hf hO => ?_
 have hO := hO.nilRow 69 2
 refine S.op tb ?_ hf hO hm
 refine rw_ rfl fun a w hf hO hm => ?_
 refine ze (i := 1) (n := 7) zv rfl rfl rfl (by simp [Value.oneCell']) hf rfl rfl hO fun w hO => ?_
 refine S.op tb ?_ hf hO hm
 refine br rfl (fun hc56 => ?_) fun hc56 => ?_
 refine vl rfl rfl (fun a w hf hO => zj (vs := []) (v := .agg #[int 0, str [], str [], int 0, str [], int 0, .slice none 0 0]) hf rfl (by kernel_rfl)) ?_
 refine rw_ rfl fun a w hf hO hm => ?_
 refine ze (i := 7) (n := 7) zv rfl rfl rfl (by simp [Value.oneCell']) hf rfl rfl hO fun w hO => ?_
 have hO := hO.nilRow 69 2
 refine S.op tb ?_ hf hO hm
 refine re_ rfl fun a w hf hO hm => ?_
 obtain rfl := Option.some.inj hm
 exact zg Tryz.results25 hf (.cell rfl (zd (n := 7) (vs := [int 0, str [], str [], int 0, str [], int 0, .slice none 0 0]) zae zv rfl ((hO.blkSees (i := 8) rfl).cells (o := 0) (n := 7) rfl)) (.tmp rfl .nil)) ⟨none, 0, rfl, (hO.sub (.cons_cons _ (.cons _ (.cons _ (.cons _ (.cons _ (.cons _ (.cons _ (.cons _ (.cons _ .slnil))))))))))⟩
 refine vl rfl rfl (fun a w hf hO => zn (o := 0) (vs := [int r50.1.Kind, str r50.1.Method, str r50.1.Target, int r50.1.Code, str r50.1.Reason, int r50.1.Minor, .slice p51 r50.1.Fields.length c52]) zae zv (hO.blkSees (i := 1) rfl) rfl rfl hf rfl) ?_
 refine rw_ rfl fun a w hf hO hm => ?_
 refine ze (i := 5) (n := 7) zv rfl rfl rfl (by simp [Value.oneCell']) hf rfl rfl hO fun w hO => ?_
 refine S.op tb ?_ hf hO hm
 exact en rfl fun a w hf hO hm => ⟨false, i46, r50.1.Kind, r50.1.Method, r50.1.Target, r50.1.Code, r50.1.Reason, r50.1.Minor, p51, c52, r50.1.Fields, hf.sel rfl, (hO.choose [4, 5, 6, 7, 2] rfl), hm⟩
 refine cl c_36 rfl (fun r62 w hr62 hO => zng s44 r62 _ (hG.own hF hO) hr62) fun r62 hr62 => ?_
 refine rw_ rfl fun a w hf hO hm => ?_
 refine zt zmK hf rfl hO fun a b63 w hf hO => ?_
 refine S.op tb ?_ hf hO hm
 refine rw_ rfl fun a w hf hO hm => ?_
 refine ze (i := 0) (n := 2) zal rfl rfl rfl (by simp [Value.oneCell']) hf rfl rfl hO fun w hO => ?_
 refine S.op tb ?_ hf hO hm
 refine br rfl (fun hc66 => ?_) fun hc66 => ?_
 refine vl rfl rfl (fun a w hf hO => zj (vs := []) (v := .agg #[int 0, str [], str [], int 0, str [], int 0, .slice none 0 0]) hf rfl (by kernel_rfl)) ?_
 refine rw_ rfl fun a w hf hO hm => ?_
 refine ze (i := 5) (n := 7) zv rfl rfl rfl (by simp [Value.oneCell']) hf rfl rfl hO fun w hO => ?_
 have hO := hO.nilRow 69 2
 refine S.op tb ?_ hf hO hm
 refine re_ rfl fun a w hf hO hm => ?_
 obtain rfl := Option.some.inj hm
 exact zg Tryz.results25 hf (.cell rfl (zd (n := 7) (vs := [int 0, str [], str [], int 0, str [], int 0, .slice none 0 0]) zae zv rfl ((hO.blkSees (i := 6) rfl).cells (o := 0) (n := 7) rfl)) (.tmp rfl .nil)) ⟨none, 0, rfl, (hO.sub (.cons_cons _ (.cons _ (.cons _ (.cons _ (.cons _ (.cons _ (.cons _ .slnil))))))))⟩
 refine vl rfl rfl (fun a w hf hO => zb (o := 6) zhT (hO.blkSees (i := 3) rfl) rfl hf rfl) ?_
 refine vl rfl rfl (fun a w hf hO => zn (o := 0) (vs := [str r62.1.Name, str r62.1.Value]) zdc zal (hO.blkSees (i := 0) rfl) rfl rfl hf rfl) ?_
 refine rw_ rfl fun a w hf hO hm => ?_
 refine zJ (vs := [(0, .agg #[str r62.1.Name, str r62.1.Value])]) (cs := [str r62.1.Name, str r62.1.Value]) (e := 69) (sz := 2) hf rfl rfl (fun w => by kernel_rfl) rfl rfl hO fun a b69 w hf hO => ?_
 refine S.op tb ?_ hf hO hm
 refine rw_ rfl fun a w hf hO hm => ?_
 obtain ⟨hg72, hm⟩ := og hm
 refine zeQ zse (enc := za) (xs := l25) (ys := [r62.1]) (i := 2) (fun _ => rfl) rfl (hO.rowSees (i := 0) rfl) (by simp [cells, za, Value.oneCell']) hg72 hf rfl rfl rfl hO fun a p70 c71 w hf hO => ?_
 refine S.op tb ?_ hf hO hm
 refine rw_ rfl fun a w hf hO hm => ?_
 refine z6 (i := 4) (o := 6) (v := .slice p70 ((l25 ++ [r62.1]).length) c71) sz_33 rfl rfl rfl rfl hf rfl rfl hO fun w hO => ?_
 refine S.op tb ?_ hf hO hm
 exact en rfl fun a w hf hO hm => ⟨t32, i46, i26, s27, s28, i29, s30, i31, p70, c71, l25 ++ [r62.1], hf.sel rfl, (hO.choose [3, 4, 5, 6, 2] rfl), hm⟩
 rintro a w ⟨t73, i74, i75, s76, s77, i78, s79, i80, p81, c82, l83, hf, hO, hm⟩
 rw [zce] at hm
 refine S.co tb ?_ hf hO hm
 refine bi rfl fun i84 hi84 => ?_
 exact en rfl fun a w hf hO hm => ⟨_, Nat.lt_succ_self _, p81, c82, l83, i75, s76, s77, i78, s79, i80, t73, i74, i84, hf.sel rfl, (hO.choose [4, 0, 1, 2, 3] rfl), hm⟩
 exact en rfl fun a w hf hO hm => ⟨i26, s27, s28, i29, s30, i31, p23, c24, l25, hf.sel rfl, hO, hm⟩
 rintro a w ⟨i85, s86, s87, i88, s89, i90, p91, c92, l93, hf, hO, hm⟩
 rw [zdZ] at hm
 refine S.co tb ?_ hf hO hm
 refine vl rfl rfl (fun a w hf hO => zn (o := 0) (vs := [int i85, str s86, str s87, int i88, str s89, int i90, .slice p91 l93.length c92]) zae zv (hO.blkSees (i := 2) rfl) rfl rfl hf rfl) ?_
 refine cl c_45 rfl (fun r94 w hr94 hO => znv (⟨i85, s86, s87, i88, s89, i90, l93⟩ : api_Head) r94 _ (hG.own hF hO) (hO.rowSees (i := 0) rfl) (hO.rowCap (i := 0) rfl) hr94) fun r94 hr94 => ?_
 refine br rfl (fun hc97 => ?_) fun hc97 => ?_
 refine vl rfl rfl (fun a w hf hO => zj (vs := []) (v := .agg #[int 0, str [], str [], int 0, str [], int 0, .slice none 0 0]) hf rfl (by kernel_rfl)) ?_
 refine rw_ rfl fun a w hf hO hm => ?_
 refine ze (i := 4) (n := 7) zv rfl rfl rfl (by simp [Value.oneCell']) hf rfl rfl hO fun w hO => ?_
 have hO := hO.nilRow 69 2
 refine S.op tb ?_ hf hO hm
 refine re_ rfl fun a w hf hO hm => ?_
 obtain rfl := Option.some.inj hm
 exact zg Tryz.results25 hf (.cell rfl (zd (n := 7) (vs := [int 0, str [], str [], int 0, str [], int 0, .slice none 0 0]) zae zv rfl ((hO.blkSees (i := 5) rfl).cells (o := 0) (n := 7) rfl)) (.tmp rfl .nil)) ⟨none, 0, rfl, (hO.sub (.cons_cons _ (.cons _ (.cons _ (.cons _ (.cons _ (.cons _ .slnil)))))))⟩
 refine vl rfl rfl (fun a w hf hO => zn (o := 0) (vs := [int i85, str s86, str s87, int i88, str s89, int i90, .slice p91 l93.length c92]) zae zv (hO.blkSees (i := 2) rfl) rfl rfl hf rfl) ?_
 refine rw_ rfl fun a w hf hO hm => ?_
 refine ze (i := 4) (n := 7) zv rfl rfl rfl (by simp [Value.oneCell']) hf rfl rfl hO fun w hO => ?_
 refine S.op tb ?_ hf hO hm
 refine re_ rfl fun a w hf hO hm => ?_
 obtain rfl := Option.some.inj hm
 exact zg Tryz.results25 hf (.cell rfl (zd (n := 7) (vs := [int i85, str s86, str s87, int i88, str s89, int i90, .slice p91 l93.length c92]) zae zv rfl ((hO.blkSees (i := 4) rfl).cells (o := 0) (n := 7) rfl)) (.tmp rfl .nil)) ⟨p91, c92, rfl, (hO.sub (.cons_cons _ (.cons _ (.cons _ (.cons _ (.cons _ .slnil))))))⟩

theorem zkE (x_sep : Str) (x_l : List Str) (R : Str) (w0 : World) (hG : zx w0) {x_l_p0 : Option Addr} {x_l_c0 : Nat} (hs0 : zas w0 x_l_p0 (cells zh x_l)) (hc0 : x_l.length ≤ x_l_c0) (hm : zie x_sep x_l = some R) :
    Calls Tryz.prog 76 #[str x_sep, .slice x_l_p0 x_l.length x_l_c0] w0 (Ret w0 (fun R => str R) R) := by
 rw [zie] at hm
 have hF : zz [] := zf
 have hO : Dk.Own w0 [] w0 [] := Dk.Own.refl w0
 have hO := hO.addShr hs0 (by simp [Res.shared])
 refine S.enter tb Tryz.func76 rfl Tryz.ntmps76 rfl ?_ hO hm
 refine cl c_123 rfl (fun r2 w hr2 hO => zl8 x_l x_sep r2 _ (hG.own hF hO) (hO.sees (i := 0) rfl) hc0 hr2) fun r2 hr2 => ?_
 exact rt Tryz.results76 rfl

theorem zhV (x_a0 : api_Head) (R : Str × Int) (w0 : World) (hG : zbh w0) {x_a0_p0 : Option Addr} {x_a0_c0 : Nat} (hs0 : zas w0 x_a0_p0 (cells za x_a0.Fields)) (hc0 : x_a0.Fields.length ≤ x_a0_c0) (hm : zfi x_a0 = some R) :
    Calls Tryz.prog 39 #[.agg #[int x_a0.Kind, str x_a0.Method, str x_a0.Target, int x_a0.Code, str x_a0.Reason, int x_a0.Minor, .slice x_a0_p0 x_a0.Fields.length x_a0_c0]] w0 (Ret w0 (fun R => .tuple #[str R.1, int R.2]) R) := by
 rw [zfi] at hm
 have hF : zz [] := zf
 have hO : Dk.Own w0 [] w0 [] := Dk.Own.refl w0
 have hO := hO.addShr hs0 (by simp [Res.shared])
 refine S.enter tb Tryz.func39 rfl Tryz.ntmps39 rfl ?_ hO hm
 refine rw_ rfl fun a w hf hO hm => ?_
 refine zbU (v := .agg #[int x_a0.Kind, str x_a0.Method, str x_a0.Target, int x_a0.Code, str x_a0.Reason, int x_a0.Minor, .slice x_a0_p0 x_a0.Fields.length x_a0_c0]) (cs := [int x_a0.Kind, str x_a0.Method, str x_a0.Target, int x_a0.Code, str x_a0.Reason, int x_a0.Minor, .slice x_a0_p0 x_a0.Fields.length x_a0_c0]) rfl hf rfl rfl hO fun a b1 w hf hO => ?_
 refine S.op tb ?_ hf hO hm
 refine vl rfl rfl (fun a w hf hO => zb (o := 5) zfl (hO.blkSees (i := 0) rfl) rfl hf rfl) ?_
 refine cl c_75 rfl (fun r3 w hr3 hO => zg6 x_a0.Minor r3 _ (hG.own hF hO) hr3) fun r3 hr3 => ?_
 refine bi rfl fun s4 hs4 => ?_
 refine vl rfl rfl (fun a w hf hO => zb (o := 1) zR (hO.blkSees (i := 0) rfl) rfl hf rfl) ?_
 refine vl rfl rfl (fun a w hf hO => zb (o := 2) zR (hO.blkSees (i := 0) rfl) rfl hf rfl) ?_
 refine rw_ rfl fun a w hf hO hm => ?_
 refine zJ (vs := [(0, str x_a0.Method), (1, str x_a0.Target), (2, str s4)]) (cs := [str x_a0.Method, str x_a0.Target, str s4]) (e := 9) (sz := 1) hf rfl rfl (fun w => by kernel_rfl) rfl rfl hO fun a b6 w hf hO => ?_
 refine S.op tb ?_ hf hO hm
 refine cl c_76 rfl (fun r7 w hr7 hO => zkE [32] ([x_a0.Method, x_a0.Target, s4] : List Str) r7 _ (hG.own hF hO).1 (hO.rowSees (i := 0) rfl) (hO.rowCap (i := 0) rfl) hr7) fun r7 hr7 => ?_
 refine jn 0 (fun a w => ∃ (s14 : Str), Fits 81 [(1, ptr b1 0), (5, str s14)] a ∧ Dk.Own w0 [] w [.row (.slice (some ⟨b6, 0, none⟩) (([x_a0.Method, x_a0.Target, s4] : List Str).length) 3) 9 1 (([x_a0.Method, x_a0.Target, s4] : List Str).length) (cells zh ([x_a0.Method, x_a0.Target, s4] : List Str)), .blk b1 [int x_a0.Kind, str x_a0.Method, str x_a0.Target, int x_a0.Code, str x_a0.Reason, int x_a0.Minor, .slice x_a0_p0 x_a0.Fields.length x_a0_c0] 35, .shr x_a0_p0 (cells za x_a0.Fields)] ∧ zdu x_a0 s14 = some R) rfl ?_ ?_
 refine vl rfl rfl (fun a w hf hO => zb (o := 0) zlv (hO.blkSees (i := 1) rfl) rfl hf rfl) ?_
 refine br rfl (fun hc10 => ?_) fun hc10 => ?_
 refine rc_ rfl fun a w hf hO hm => ?_
 obtain ⟨r11, hr11, hm⟩ := ob hm
 obtain ⟨r13, hr13, hm⟩ := ob hm
 refine zfP (S := Nat) (E0 := [(1, ptr b1 0), (4, str s4), (5, str r7)]) (by kernel_rfl) (fun k σ w => match k with | 0 => Dk.Own w0 [] w [.row (.slice (some ⟨b6, 0, none⟩) (([x_a0.Method, x_a0.Target, s4] : List Str).length) 3) 9 1 (([x_a0.Method, x_a0.Target, s4] : List Str).length) (cells zh ([x_a0.Method, x_a0.Target, s4] : List Str)), .blk b1 [int x_a0.Kind, str x_a0.Method, str x_a0.Target, int x_a0.Code, str x_a0.Reason, int x_a0.Minor, .slice x_a0_p0 x_a0.Fields.length x_a0_c0] 35, .shr x_a0_p0 (cells za x_a0.Fields)] | 1 => Dk.Own w0 [] w [.row (.slice (some ⟨b6, 0, none⟩) (([x_a0.Method, x_a0.Target, s4] : List Str).length) 3) 9 1 (([x_a0.Method, x_a0.Target, s4] : List Str).length) (cells zh ([x_a0.Method, x_a0.Target, s4] : List Str)), .blk b1 [int x_a0.Kind, str x_a0.Method, str x_a0.Target, int x_a0.Code, str x_a0.Reason, int x_a0.Minor, .slice x_a0_p0 x_a0.Fields.length x_a0_c0] 35, .shr x_a0_p0 (cells za x_a0.Fields)] | 2 => Dk.Own w0 [] w [.row (.slice (some ⟨σ, 0, none⟩) (([s4, r11, x_a0.Reason] : List Str).length) 3) 9 1 (([s4, r11, x_a0.Reason] : List Str).length) (cells zh ([s4, r11, x_a0.Reason] : List Str)), .row (.slice (some ⟨b6, 0, none⟩) (([x_a0.Method, x_a0.Target, s4] : List Str).length) 3) 9 1 (([x_a0.Method, x_a0.Target, s4] : List Str).length) (cells zh ([x_a0.Method, x_a0.Target, s4] : List Str)), .blk b1 [int x_a0.Kind, str x_a0.Method, str x_a0.Target, int x_a0.Code, str x_a0.Reason, int x_a0.Minor, .slice x_a0_p0 x_a0.Fields.length x_a0_c0] 35, .shr x_a0_p0 (cells za x_a0.Fields)] | _ => Dk.Own w0 [] w [.row (.slice (some ⟨σ, 0, none⟩) (([s4, r11, x_a0.Reason] : List Str).length) 3) 9 1 (([s4, r11, x_a0.Reason] : List Str).length) (cells zh ([s4, r11, x_a0.Reason] : List Str)), .row (.slice (some ⟨b6, 0, none⟩) (([x_a0.Method, x_a0.Target, s4] : List Str).length) 3) 9 1 (([x_a0.Method, x_a0.Target, s4] : List Str).length) (cells zh ([x_a0.Method, x_a0.Target, s4] : List Str)), .blk b1 [int x_a0.Kind, str x_a0.Method, str x_a0.Target, int x_a0.Code, str x_a0.Reason, int x_a0.Minor, .slice x_a0_p0 x_a0.Fields.length x_a0_c0] 35, .shr x_a0_p0 (cells za x_a0.Fields)]) (fun σ => [⟨[(4, str s4)], some (23, str s4)⟩, ⟨[(1, ptr b1 0)], some (24, ptr b1 3)⟩, ⟨[(24, ptr b1 3)], some (25, int x_a0.Code)⟩, ⟨[(25, int x_a0.Code)], some (26, str r11)⟩, ⟨[(1, ptr b1 0)], some (27, ptr b1 4)⟩, ⟨[(27, ptr b1 4)], some (28, str x_a0.Reason)⟩, ⟨[(23, str s4), (26, str r11), (28, str x_a0.Reason)], some (29, .slice (some ⟨σ, 0, none⟩) (([s4, r11, x_a0.Reason] : List Str).length) 3)⟩, ⟨[(29, .slice (some ⟨σ, 0, none⟩) (([s4, r11, x_a0.Reason] : List Str).length) 3)], some (30, str r13)⟩, ⟨[(30, str r13)], some (5, str r13)⟩]) (0) [3, 6, 7] rfl (fun _ => rfl) (fun _ => rfl) (fun _ => rfl) rfl rfl (by decide) rfl hO.drew (hf.cons rfl (hf.cons rfl (hf.cons rfl hf.nil))) (fun σ => ⟨⟨rfl, trivial⟩, ⟨rfl, trivial⟩, ⟨rfl, trivial⟩, ⟨rfl, trivial⟩, ⟨rfl, trivial⟩, ⟨rfl, trivial⟩, ⟨rfl, rfl, rfl, trivial⟩, ⟨rfl, trivial⟩, ⟨rfl, trivial⟩, trivial⟩) ⟨zk rfl (fun σ => rfl) (fun σ => rfl) (fun σ a w k _ _ _ _ hf => zB hf rfl), zk rfl (fun σ => rfl) (fun σ => rfl) (fun σ a w k _ _ _ _ hf => zaK zqU hf rfl), zk rfl (fun σ => rfl) (fun σ => rfl) (fun σ a w k hk hlo hup hst hf => match k, hk, hlo, hup, hst, hf with | 0, _, _, _, hst, hf => have hO : Dk.Own w0 [] w _ := hst; zb (o := 3) zfl (hO.blkSees (i := 1) rfl) rfl hf rfl | 1, _, _, _, hst, hf => have hO : Dk.Own w0 [] w _ := hst; zb (o := 3) zfl (hO.blkSees (i := 1) rfl) rfl hf rfl | 2, _, _, _, hst, hf => have hO : Dk.Own w0 [] w _ := hst; zb (o := 3) zfl (hO.blkSees (i := 2) rfl) rfl hf rfl | 3, _, _, _, hst, hf => have hO : Dk.Own w0 [] w _ := hst; zb (o := 3) zfl (hO.blkSees (i := 2) rfl) rfl hf rfl | k + 4, hk, _, _, _, _ => absurd hk (by simp)), zfZ rfl (fun σ => rfl) (fun σ => rfl) rfl (fun σ a w (_ : _) hf => zp c_75 hf (vs := [int x_a0.Code]) rfl) (fun σ w (hO : Dk.Own w0 [] w _) => (zg6 x_a0.Code r11 _ (hG.own hF hO) hr11).mono fun e w' h => by obtain ⟨he, hb⟩ := h; exact ⟨(σ), he, hO.grow hb, .inr rfl, .inr rfl, .inr rfl, .inr rfl, .inr rfl, .inr rfl, .inr rfl, .inr rfl, .inr rfl, trivial⟩), zk rfl (fun σ => rfl) (fun σ => rfl) (fun σ a w k _ _ _ _ hf => zaK zqV hf rfl), zk rfl (fun σ => rfl) (fun σ => rfl) (fun σ a w k hk hlo hup hst hf => match k, hk, hlo, hup, hst, hf with | 0, _, _, _, hst, hf => have hO : Dk.Own w0 [] w _ := hst; zb (o := 4) zR (hO.blkSees (i := 1) rfl) rfl hf rfl | 1, _, _, _, hst, hf => have hO : Dk.Own w0 [] w _ := hst; zb (o := 4) zR (hO.blkSees (i := 1) rfl) rfl hf rfl | 2, _, _, _, hst, hf => have hO : Dk.Own w0 [] w _ := hst; zb (o := 4) zR (hO.blkSees (i := 2) rfl) rfl hf rfl | 3, _, _, _, hst, hf => have hO : Dk.Own w0 [] w _ := hst; zb (o := 4) zR (hO.blkSees (i := 2) rfl) rfl hf rfl | k + 4, hk, _, _, _, _ => absurd hk (by simp)), zoZ rfl (fun σ => rfl) (fun σ => rfl) rfl (fun σ w (hO : Dk.Own w0 [] w _) => by obtain ⟨b12, w', hO', hr⟩ := zhA (E := [(23, str s4), (26, str r11), (28, str x_a0.Reason)]) (parts := #[(0, (.tmp 23)), (1, (.tmp 26)), (2, (.tmp 28))]) (t' := 31) (n := 3) (vs := [(0, str s4), (1, str r11), (2, str x_a0.Reason)]) (cs := [str s4, str r11, str x_a0.Reason]) (e := 9) (sz := 1) (fun w => by kernel_rfl) rfl rfl hO rfl; exact ⟨(b12), w', hO', ⟨.inr rfl, .inr rfl, .inr rfl, .inr rfl, .inr rfl, .inr rfl, .inl rfl, .inl rfl, .inr rfl, trivial⟩, hr⟩), zfZ rfl (fun σ => rfl) (fun σ => rfl) rfl (fun σ a w (_ : _) hf => zp c_76 hf (vs := [str [32], .slice (some ⟨σ, 0, none⟩) (([s4, r11, x_a0.Reason] : List Str).length) 3]) rfl) (fun σ w (hO : Dk.Own w0 [] w _) => (zkE [32] ([s4, r11, x_a0.Reason] : List Str) r13 _ (hG.own hF hO).1 (hO.rowSees (i := 0) rfl) (hO.rowCap (i := 0) rfl) hr13).mono fun e w' h => by obtain ⟨he, hb⟩ := h; exact ⟨(σ), he, hO.grow hb, .inr rfl, .inr rfl, .inr rfl, .inr rfl, .inr rfl, .inr rfl, .inr rfl, .inr rfl, .inr rfl, trivial⟩), zk rfl (fun σ => rfl) (fun σ => rfl) (fun σ a w k _ _ _ _ hf => zaG hf rfl), trivial⟩ ?_
 rintro b12 a w hf hO
 have hO : Dk.Own w0 [] w _ := hO
 have hf : Fits 81 [(1, ptr b1 0), (5, str r13)] a := (hf.cons rfl (hf.cons rfl hf.nil))
 refine S.no tb ?_ hf hO hm
 exact en rfl fun a w hf hO hm => ⟨r13, hf.sel rfl, (hO.sub (.cons _ (.cons_cons _ (.cons_cons _ (.cons_cons _ .slnil))))), hm⟩
 exact en rfl fun a w hf hO hm => ⟨r7, hf.sel rfl, hO, hm⟩
 rintro a w ⟨s14, hf, hO, hm⟩
 rw [zdu] at hm
 refine S.co tb ?_ hf hO hm
 refine vl rfl rfl (fun a w hf hO => zb (o := 0) zlv (hO.blkSees (i := 1) rfl) rfl hf rfl) ?_
 refine rw_ rfl fun a w hf hO hm => ?_
 obtain ⟨r15, hr15, hm⟩ := ob hm
 refine zr (zp c_30 hf (vs := [int x_a0.Kind, str s14]) rfl) rfl hf rfl rfl (ze7 x_a0.Kind s14 r15 _ (hG.own hF hO) hr15) ?_
 rintro e w' ⟨p16, c17, he, hO'⟩
 refine ⟨_, he, fun a hf => ?_⟩
 have hO := hO.call hO' (by simp [Res.shared])
 refine S.op tb ?_ hf hO hm
 refine rw_ rfl fun a w hf hO hm => ?_
 refine zt zg5 hf rfl hO fun a b18 w hf hO => ?_
 have hO := hO.nilRow 69 2
 refine S.op tb ?_ hf hO hm
 refine rw_ rfl fun a w hf hO hm => ?_
 refine ze (i := 1) (n := 7) zv rfl rfl rfl (by simp [Value.oneCell']) hf rfl rfl hO fun w hO => ?_
 refine S.op tb ?_ hf hO hm
 refine br rfl (fun hc21 => ?_) fun hc21 => ?_
 exact rt Tryz.results39 rfl
 refine jn 0 (fun a w => ∃ (t28 : Bool), Fits 81 [(5, str s14), (7, int r15.2), (8, .bool t28)] a ∧ Dk.Own w0 [] w [.row (.slice none 0 0) 69 2 0 (cells za []), .blk b18 [int r15.1.Kind, str r15.1.Method, str r15.1.Target, int r15.1.Code, str r15.1.Reason, int r15.1.Minor, .slice p16 r15.1.Fields.length c17] 35, .row (.slice p16 r15.1.Fields.length c17) 69 2 r15.1.Fields.length (cells za r15.1.Fields), .row (.slice (some ⟨b6, 0, none⟩) (([x_a0.Method, x_a0.Target, s4] : List Str).length) 3) 9 1 (([x_a0.Method, x_a0.Target, s4] : List Str).length) (cells zh ([x_a0.Method, x_a0.Target, s4] : List Str)), .blk b1 [int x_a0.Kind, str x_a0.Method, str x_a0.Target, int x_a0.Code, str x_a0.Reason, int x_a0.Minor, .slice x_a0_p0 x_a0.Fields.length x_a0_c0] 35, .shr x_a0_p0 (cells za x_a0.Fields)] ∧ zbb s14 r15 t28 = some R) rfl ?_ ?_
 refine vl rfl rfl (fun a w hf hO => zb (o := 1) zR (hO.blkSees (i := 1) rfl) rfl hf rfl) ?_
 refine vl rfl rfl (fun a w hf hO => zb (o := 1) zR (hO.blkSees (i := 4) rfl) rfl hf rfl) ?_
 refine br rfl (fun hc24 => ?_) fun hc24 => ?_
 refine vl rfl rfl (fun a w hf hO => zb (o := 2) zR (hO.blkSees (i := 1) rfl) rfl hf rfl) ?_
 refine vl rfl rfl (fun a w hf hO => zb (o := 2) zR (hO.blkSees (i := 4) rfl) rfl hf rfl) ?_
 refine br rfl (fun hc25 => ?_) fun hc25 => ?_
 refine vl rfl rfl (fun a w hf hO => zb (o := 5) zfl (hO.blkSees (i := 1) rfl) rfl hf rfl) ?_
 refine vl rfl rfl (fun a w hf hO => zb (o := 5) zfl (hO.blkSees (i := 4) rfl) rfl hf rfl) ?_
 refine br rfl (fun hc26 => ?_) fun hc26 => ?_
 refine vl rfl rfl (fun a w hf hO => zb (o := 3) zfl (hO.blkSees (i := 1) rfl) rfl hf rfl) ?_
 refine vl rfl rfl (fun a w hf hO => zb (o := 3) zfl (hO.blkSees (i := 4) rfl) rfl hf rfl) ?_
 refine br rfl (fun hc27 => ?_) fun hc27 => ?_
 refine vl rfl rfl (fun a w hf hO => zb (o := 4) zR (hO.blkSees (i := 1) rfl) rfl hf rfl) ?_
 refine vl rfl rfl (fun a w hf hO => zb (o := 4) zR (hO.blkSees (i := 4) rfl) rfl hf rfl) ?_
 exact en rfl fun a w hf hO hm => ⟨r15.1.Reason == x_a0.Reason, hf.sel rfl, hO, hm⟩
 exact en rfl fun a w hf hO hm => ⟨false, hf.sel rfl, hO, hm⟩
 exact en rfl fun a w hf hO hm => ⟨false, hf.sel rfl, hO, hm⟩
 exact en rfl fun a w hf hO hm => ⟨false, hf.sel rfl, hO, hm⟩
 exact en rfl fun a w hf hO hm => ⟨false, hf.sel rfl, hO, hm⟩
 rintro a w ⟨t28, hf, hO, hm⟩
 rw [zbb] at hm
 refine S.co tb ?_ hf hO hm
 refine jn 1 (fun a w => ∃ (t30 : Bool), Fits 81 [(5, str s14), (79, .bool t30)] a ∧ Dk.Own w0 [] w [.row (.slice none 0 0) 69 2 0 (cells za []), .blk b18 [int r15.1.Kind, str r15.1.Method, str r15.1.Target, int r15.1.Code, str r15.1.Reason, int r15.1.Minor, .slice p16 r15.1.Fields.length c17] 35, .row (.slice p16 r15.1.Fields.length c17) 69 2 r15.1.Fields.length (cells za r15.1.Fields), .row (.slice (some ⟨b6, 0, none⟩) (([x_a0.Method, x_a0.Target, s4] : List Str).length) 3) 9 1 (([x_a0.Method, x_a0.Target, s4] : List Str).length) (cells zh ([x_a0.Method, x_a0.Target, s4] : List Str)), .blk b1 [int x_a0.Kind, str x_a0.Method, str x_a0.Target, int x_a0.Code, str x_a0.Reason, int x_a0.Minor, .slice x_a0_p0 x_a0.Fields.length x_a0_c0] 35, .shr x_a0_p0 (cells za x_a0.Fields)] ∧ zdt s14 t30 = some R) rfl ?_ ?_
 refine br rfl (fun hc29 => ?_) fun hc29 => ?_
 exact en rfl fun a w hf hO hm => ⟨true, hf.sel rfl, hO, hm⟩
 exact en rfl fun a w hf hO hm => ⟨!t28, hf.sel rfl, hO, hm⟩
 rintro a w ⟨t30, hf, hO, hm⟩
 rw [zdt] at hm
 refine S.co tb ?_ hf hO hm
 refine br rfl (fun hc31 => ?_) fun hc31 => ?_
 exact rt Tryz.results39 rfl
 exact rt Tryz.results39 rfl

end Go.Proofs
end
section
set_option linter.unusedVariables false
set_option maxHeartbeats 1000000
set_option linter.unusedSimpArgs false
set_option maxRecDepth 100000
namespace Go.Proofs
open Go.Dk Go.Dm Go.RowKit

theorem znt (x_s : Str) (R : Bool) (w0 : World) (hG : zx w0) (hm : zi0 x_s = some R) :
    Calls Tryz.prog 81 #[str x_s] w0 (Ret w0 (fun R => .bool R) R) := by
 rw [zi0] at hm
 have hF : zz [] := zf
 have hO : Dk.Own w0 [] w0 [] := Dk.Own.refl w0
 refine S.enter tb Tryz.func81 rfl Tryz.ntmps81 rfl ?_ hO hm
 refine jn 0 (fun a w => ∃ (t5 : Bool), Fits 10 [(2, .bool t5)] a ∧ Dk.Own w0 [] w [] ∧ zfj t5 = some R) rfl ?_ ?_
 refine br rfl (fun hc2 => ?_) fun hc2 => ?_
 refine rw_ rfl fun a w hf hO hm => ?_
 refine zJ (vs := [(0, str x_s)]) (cs := [str x_s]) (e := 9) (sz := 1) hf rfl rfl (fun w => by kernel_rfl) rfl rfl hO fun a b3 w hf hO => ?_
 refine S.op tb ?_ hf hO hm
 refine kn (b' := true) hc2 rfl ?_
 refine cl zoQ rfl (fun r4 w hr4 hO => zcB zbV ([x_s] : List Str) r4 _ (hG.own hF hO) c_100 (fun y0 r w hG h => zfT (ziy y0 r w hG h)) (hO.rowSees (i := 0) rfl) (hO.rowCap (i := 0) rfl) hr4) fun r4 hr4 => ?_
 exact en rfl fun a w hf hO hm => ⟨r4, hf.sel rfl, (hO.sub (.cons _ .slnil)), hm⟩
 exact en rfl fun a w hf hO hm => ⟨false, hf.sel rfl, hO, hm⟩
 rintro a w ⟨t5, hf, hO, hm⟩
 rw [zfj] at hm
 refine S.co tb ?_ hf hO hm
 exact rt Tryz.results81 rfl

theorem zhi (x_f : api_Field) (R : Int) (w0 : World) (hG : zx w0) (hm : zeH x_f = some R) :
    Calls Tryz.prog 46 #[.agg #[str x_f.Name, str x_f.Value]] w0 (Ret w0 (fun R => int R) R) := by
 rw [zeH] at hm
 have hF : zz [] := zf
 have hO : Dk.Own w0 [] w0 [] := Dk.Own.refl w0
 refine S.enter tb Tryz.func46 rfl Tryz.ntmps46 rfl ?_ hO hm
 refine rw_ rfl fun a w hf hO hm => ?_
 refine zbU (v := .agg #[str x_f.Name, str x_f.Value]) (cs := [str x_f.Name, str x_f.Value]) rfl hf rfl rfl hO fun a b1 w hf hO => ?_
 refine S.op tb ?_ hf hO hm
 refine vl rfl rfl (fun a w hf hO => zb (o := 0) zR (hO.blkSees (i := 0) rfl) rfl hf rfl) ?_
 refine cl c_81 rfl (fun r3 w hr3 hO => znt x_f.Name r3 _ (hG.own hF hO) hr3) fun r3 hr3 => ?_
 refine br rfl (fun hc5 => ?_) fun hc5 => ?_
 exact rt Tryz.results46 rfl
 refine jn 2 (fun a w => ∃ (t11 : Bool), Fits 22 [(8, .bool t11)] a ∧ Dk.Own w0 [] w [.blk b1 [str x_f.Name, str x_f.Value] 69] ∧ zc2 t11 = some R) rfl ?_ ?_
 refine rc_ rfl fun a w hf hO hm => ?_
 obtain ⟨r8, hr8, hm⟩ := ob hm
 rcases zct (!r8) with hc9 | hc9
 have hm := it hc9 hm
 refine zjn (S := Nat) (E0 := [(1, ptr b1 0)]) (by kernel_rfl) (fun k σ w => match k with | 0 => Dk.Own w0 [] w [.blk b1 [str x_f.Name, str x_f.Value] 69] | 1 => Dk.Own w0 [] w [.row (.slice (some ⟨σ, 0, none⟩) (([x_f.Value] : List Str).length) 1) 9 1 (([x_f.Value] : List Str).length) (cells zh ([x_f.Value] : List Str)), .blk b1 [str x_f.Name, str x_f.Value] 69] | _ => Dk.Own w0 [] w [.row (.slice (some ⟨σ, 0, none⟩) (([x_f.Value] : List Str).length) 1) 9 1 (([x_f.Value] : List Str).length) (cells zh ([x_f.Value] : List Str)), .blk b1 [str x_f.Name, str x_f.Value] 69]) (fun σ => [⟨[(1, ptr b1 0)], some (9, ptr b1 1)⟩, ⟨[(9, ptr b1 1)], some (10, str x_f.Value)⟩, ⟨[(10, str x_f.Value)], some (11, .slice (some ⟨σ, 0, none⟩) (([x_f.Value] : List Str).length) 1)⟩, ⟨[(11, .slice (some ⟨σ, 0, none⟩) (([x_f.Value] : List Str).length) 1)], some (12, .bool r8)⟩, ⟨[(12, .bool r8)], some (13, .bool (!r8))⟩, ⟨[(13, .bool (!r8))], some (14, .bool (!r8))⟩, ⟨[(14, .bool (!r8))], some (15, undef)⟩, ⟨[(14, .bool (!r8))], some (16, undef)⟩, ⟨[(14, .bool (!r8))], some (17, undef)⟩, ⟨[(14, .bool (!r8))], some (18, undef)⟩, ⟨[(14, .bool (!r8))], some (19, undef)⟩, ⟨[(14, .bool (!r8))], some (20, undef)⟩, ⟨[(14, .bool (!r8)), (20, undef)], some (21, .bool true)⟩, ⟨[(21, .bool true)], some (8, .bool true)⟩]) (0) [2, 3] [6, 7, 8, 9, 10, 11] ⟨zaN rfl rfl, zaN rfl rfl, zaN rfl rfl, zaN rfl rfl, zaN rfl rfl, zaN rfl rfl, zdq (u := fun σ => !r8) rfl (fun σ => rfl) rfl (fun σ => rfl) (fun σ => by rw [hc9] <;> rfl), zdq (u := fun σ => !r8) rfl (fun σ => rfl) rfl (fun σ => rfl) (fun σ => by rw [hc9] <;> rfl), zdq (u := fun σ => !r8) rfl (fun σ => rfl) rfl (fun σ => rfl) (fun σ => by rw [hc9] <;> rfl), zdq (u := fun σ => !r8) rfl (fun σ => rfl) rfl (fun σ => rfl) (fun σ => by rw [hc9] <;> rfl), zdq (u := fun σ => !r8) rfl (fun σ => rfl) rfl (fun σ => rfl) (fun σ => by rw [hc9] <;> rfl), zdq (u := fun σ => !r8) rfl (fun σ => rfl) rfl (fun σ => rfl) (fun σ => by rw [hc9] <;> rfl), zaN rfl rfl, zaN rfl rfl, trivial⟩ (fun σ => ⟨.inl rfl, .inl rfl, .inl rfl, .inl rfl, .inl rfl, .inl rfl, .inr ⟨rfl, rfl⟩, .inr ⟨rfl, rfl⟩, .inr ⟨rfl, rfl⟩, .inr ⟨rfl, rfl⟩, .inr ⟨rfl, rfl⟩, .inr ⟨rfl, rfl⟩, .inl rfl, .inl rfl, trivial⟩) (fun _ => rfl) (fun _ => rfl) (fun _ => rfl) rfl rfl (by decide) rfl hO.drew (hf.cons rfl hf.nil) (fun σ => ⟨⟨rfl, trivial⟩, ⟨rfl, trivial⟩, ⟨rfl, trivial⟩, ⟨rfl, trivial⟩, ⟨rfl, trivial⟩, ⟨rfl, trivial⟩, ⟨rfl, trivial⟩, ⟨rfl, trivial⟩, ⟨rfl, trivial⟩, ⟨rfl, trivial⟩, ⟨rfl, trivial⟩, ⟨rfl, trivial⟩, ⟨rfl, rfl, trivial⟩, ⟨rfl, trivial⟩, trivial⟩) ⟨.inr ⟨rfl, zk rfl (fun σ => rfl) (fun σ => rfl) (fun σ a w k _ _ _ _ hf => zaK zkz hf rfl)⟩, .inr ⟨rfl, zk rfl (fun σ => rfl) (fun σ => rfl) (fun σ a w k hk hlo hup hst hf => match k, hk, hlo, hup, hst, hf with | 0, _, _, _, hst, hf => have hO : Dk.Own w0 [] w _ := hst; zb (o := 1) zR (hO.blkSees (i := 0) rfl) rfl hf rfl | 1, _, _, _, hst, hf => have hO : Dk.Own w0 [] w _ := hst; zb (o := 1) zR (hO.blkSees (i := 1) rfl) rfl hf rfl | 2, _, _, _, hst, hf => have hO : Dk.Own w0 [] w _ := hst; zb (o := 1) zR (hO.blkSees (i := 1) rfl) rfl hf rfl | k + 3, hk, _, _, _, _ => absurd hk (by simp))⟩, .inr ⟨rfl, zoZ rfl (fun σ => rfl) (fun σ => rfl) rfl (fun σ w (hO : Dk.Own w0 [] w _) => by obtain ⟨b7, w', hO', hr⟩ := zhA (E := [(10, str x_f.Value)]) (parts := #[(0, (.tmp 10))]) (t' := 31) (n := 1) (vs := [(0, str x_f.Value)]) (cs := [str x_f.Value]) (e := 9) (sz := 1) (fun w => by kernel_rfl) rfl rfl hO rfl; exact ⟨(b7), w', hO', ⟨.inr rfl, .inr rfl, .inl rfl, .inl rfl, .inr rfl, .inr rfl, .inr rfl, .inr rfl, .inr rfl, .inr rfl, .inr rfl, .inr rfl, .inr rfl, .inr rfl, trivial⟩, hr⟩)⟩, .inr ⟨rfl, zfZ rfl (fun σ => rfl) (fun σ => rfl) rfl (fun σ a w (_ : _) hf => zp zoQ hf (vs := [.func (.func 62) #[] #[], .slice (some ⟨σ, 0, none⟩) (([x_f.Value] : List Str).length) 1]) rfl) (fun σ w (hO : Dk.Own w0 [] w _) => (zcB zaH ([x_f.Value] : List Str) r8 _ (hG.own hF hO) c_62 (fun y0 r w hG h => zfT (zeF y0 r w hG h)) (hO.rowSees (i := 0) rfl) (hO.rowCap (i := 0) rfl) hr8).mono fun e w' h => by obtain ⟨he, hb⟩ := h; exact ⟨(σ), he, hO.grow hb, .inr rfl, .inr rfl, .inr rfl, .inr rfl, .inr rfl, .inr rfl, .inr rfl, .inr rfl, .inr rfl, .inr rfl, .inr rfl, .inr rfl, .inr rfl, .inr rfl, trivial⟩)⟩, .inr ⟨rfl, zk rfl (fun σ => rfl) (fun σ => rfl) (fun σ a w k _ _ _ _ hf => zqE hf rfl)⟩, .inr ⟨rfl, zk rfl (fun σ => rfl) (fun σ => rfl) (fun σ a w k _ _ _ _ hf => zB hf rfl)⟩, .inl rfl, .inl rfl, .inl rfl, .inl rfl, .inl rfl, .inl rfl, .inr ⟨rfl, zk rfl (fun σ => rfl) (fun σ => rfl) (fun σ a w k _ _ _ _ hf => zn9 hf rfl hc9 rfl)⟩, .inr ⟨rfl, zk rfl (fun σ => rfl) (fun σ => rfl) (fun σ a w k _ _ _ _ hf => zaG hf rfl)⟩, trivial⟩ ?_
 rintro b7 a w hf hO
 have hO : Dk.Own w0 [] w _ := hO
 have hf : Fits 22 [(8, .bool true)] a := (hf.cons rfl hf.nil)
 refine S.no tb ?_ hf hO hm
 exact en rfl fun a w hf hO hm => ⟨true, hf.sel rfl, (hO.sub (.cons _ (.cons_cons _ .slnil))), hm⟩
 have hm := ie hc9 hm
 obtain ⟨r10, hr10, hm⟩ := ob hm
 refine zjn (S := Nat) (E0 := [(1, ptr b1 0)]) (by kernel_rfl) (fun k σ w => match k with | 0 => Dk.Own w0 [] w [.blk b1 [str x_f.Name, str x_f.Value] 69] | 1 => Dk.Own w0 [] w [.row (.slice (some ⟨σ, 0, none⟩) (([x_f.Value] : List Str).length) 1) 9 1 (([x_f.Value] : List Str).length) (cells zh ([x_f.Value] : List Str)), .blk b1 [str x_f.Name, str x_f.Value] 69] | 2 => Dk.Own w0 [] w [.row (.slice (some ⟨σ, 0, none⟩) (([x_f.Value] : List Str).length) 1) 9 1 (([x_f.Value] : List Str).length) (cells zh ([x_f.Value] : List Str)), .blk b1 [str x_f.Name, str x_f.Value] 69] | _ => Dk.Own w0 [] w [.row (.slice (some ⟨σ, 0, none⟩) (([x_f.Value] : List Str).length) 1) 9 1 (([x_f.Value] : List Str).length) (cells zh ([x_f.Value] : List Str)), .blk b1 [str x_f.Name, str x_f.Value] 69]) (fun σ => [⟨[(1, ptr b1 0)], some (9, ptr b1 1)⟩, ⟨[(9, ptr b1 1)], some (10, str x_f.Value)⟩, ⟨[(10, str x_f.Value)], some (11, .slice (some ⟨σ, 0, none⟩) (([x_f.Value] : List Str).length) 1)⟩, ⟨[(11, .slice (some ⟨σ, 0, none⟩) (([x_f.Value] : List Str).length) 1)], some (12, .bool r8)⟩, ⟨[(12, .bool r8)], some (13, .bool (!r8))⟩, ⟨[(13, .bool (!r8))], some (14, .bool (!r8))⟩, ⟨[(1, ptr b1 0), (14, .bool (!r8))], some (15, ptr b1 1)⟩, ⟨[(15, ptr b1 1), (14, .bool (!r8))], some (16, str x_f.Value)⟩, ⟨[(16, str x_f.Value), (14, .bool (!r8))], some (17, str r10)⟩, ⟨[(1, ptr b1 0), (14, .bool (!r8))], some (18, ptr b1 1)⟩, ⟨[(18, ptr b1 1), (14, .bool (!r8))], some (19, str x_f.Value)⟩, ⟨[(17, str r10), (19, str x_f.Value), (14, .bool (!r8))], some (20, .bool (!(r10 == x_f.Value)))⟩, ⟨[(14, .bool (!r8)), (20, .bool (!(r10 == x_f.Value)))], some (21, .bool (!(r10 == x_f.Value)))⟩, ⟨[(21, .bool (!(r10 == x_f.Value)))], some (8, .bool (!(r10 == x_f.Value)))⟩]) (0) [2, 3, 8] [] ⟨zaN rfl rfl, zaN rfl rfl, zaN rfl rfl, zaN rfl rfl, zaN rfl rfl, zaN rfl rfl, zdq (u := fun σ => !r8) rfl (fun σ => rfl) rfl (fun σ => rfl) (fun σ => by rw [hc9] <;> rfl), zdq (u := fun σ => !r8) rfl (fun σ => rfl) rfl (fun σ => rfl) (fun σ => by rw [hc9] <;> rfl), zdq (u := fun σ => !r8) rfl (fun σ => rfl) rfl (fun σ => rfl) (fun σ => by rw [hc9] <;> rfl), zdq (u := fun σ => !r8) rfl (fun σ => rfl) rfl (fun σ => rfl) (fun σ => by rw [hc9] <;> rfl), zdq (u := fun σ => !r8) rfl (fun σ => rfl) rfl (fun σ => rfl) (fun σ => by rw [hc9] <;> rfl), zdq (u := fun σ => !r8) rfl (fun σ => rfl) rfl (fun σ => rfl) (fun σ => by rw [hc9] <;> rfl), zaN rfl rfl, zaN rfl rfl, trivial⟩ (fun σ => ⟨.inl rfl, .inl rfl, .inl rfl, .inl rfl, .inl rfl, .inl rfl, .inl rfl, .inl rfl, .inl rfl, .inl rfl, .inl rfl, .inl rfl, .inl rfl, .inl rfl, trivial⟩) (fun _ => rfl) (fun _ => rfl) (fun _ => rfl) rfl rfl (by decide) rfl hO.drew (hf.cons rfl hf.nil) (fun σ => ⟨⟨rfl, trivial⟩, ⟨rfl, trivial⟩, ⟨rfl, trivial⟩, ⟨rfl, trivial⟩, ⟨rfl, trivial⟩, ⟨rfl, trivial⟩, ⟨rfl, rfl, trivial⟩, ⟨rfl, rfl, trivial⟩, ⟨rfl, rfl, trivial⟩, ⟨rfl, rfl, trivial⟩, ⟨rfl, rfl, trivial⟩, ⟨rfl, rfl, rfl, trivial⟩, ⟨rfl, rfl, trivial⟩, ⟨rfl, trivial⟩, trivial⟩) ⟨.inr ⟨rfl, zk rfl (fun σ => rfl) (fun σ => rfl) (fun σ a w k _ _ _ _ hf => zaK zkz hf rfl)⟩, .inr ⟨rfl, zk rfl (fun σ => rfl) (fun σ => rfl) (fun σ a w k hk hlo hup hst hf => match k, hk, hlo, hup, hst, hf with | 0, _, _, _, hst, hf => have hO : Dk.Own w0 [] w _ := hst; zb (o := 1) zR (hO.blkSees (i := 0) rfl) rfl hf rfl | 1, _, _, _, hst, hf => have hO : Dk.Own w0 [] w _ := hst; zb (o := 1) zR (hO.blkSees (i := 1) rfl) rfl hf rfl | 2, _, _, _, hst, hf => have hO : Dk.Own w0 [] w _ := hst; zb (o := 1) zR (hO.blkSees (i := 1) rfl) rfl hf rfl | 3, _, _, _, hst, hf => have hO : Dk.Own w0 [] w _ := hst; zb (o := 1) zR (hO.blkSees (i := 1) rfl) rfl hf rfl | k + 4, hk, _, _, _, _ => absurd hk (by simp))⟩, .inr ⟨rfl, zoZ rfl (fun σ => rfl) (fun σ => rfl) rfl (fun σ w (hO : Dk.Own w0 [] w _) => by obtain ⟨b7, w', hO', hr⟩ := zhA (E := [(10, str x_f.Value)]) (parts := #[(0, (.tmp 10))]) (t' := 31) (n := 1) (vs := [(0, str x_f.Value)]) (cs := [str x_f.Value]) (e := 9) (sz := 1) (fun w => by kernel_rfl) rfl rfl hO rfl; exact ⟨(b7), w', hO', ⟨.inr rfl, .inr rfl, .inl rfl, .inl rfl, .inr rfl, .inr rfl, .inr rfl, .inr rfl, .inr rfl, .inr rfl, .inr rfl, .inr rfl, .inr rfl, .inr rfl, trivial⟩, hr⟩)⟩, .inr ⟨rfl, zfZ rfl (fun σ => rfl) (fun σ => rfl) rfl (fun σ a w (_ : _) hf => zp zoQ hf (vs := [.func (.func 62) #[] #[], .slice (some ⟨σ, 0, none⟩) (([x_f.Value] : List Str).length) 1]) rfl) (fun σ w (hO : Dk.Own w0 [] w _) => (zcB zaH ([x_f.Value] : List Str) r8 _ (hG.own hF hO) c_62 (fun y0 r w hG h => zfT (zeF y0 r w hG h)) (hO.rowSees (i := 0) rfl) (hO.rowCap (i := 0) rfl) hr8).mono fun e w' h => by obtain ⟨he, hb⟩ := h; exact ⟨(σ), he, hO.grow hb, .inr rfl, .inr rfl, .inr rfl, .inr rfl, .inr rfl, .inr rfl, .inr rfl, .inr rfl, .inr rfl, .inr rfl, .inr rfl, .inr rfl, .inr rfl, .inr rfl, trivial⟩)⟩, .inr ⟨rfl, zk rfl (fun σ => rfl) (fun σ => rfl) (fun σ a w k _ _ _ _ hf => zqE hf rfl)⟩, .inr ⟨rfl, zk rfl (fun σ => rfl) (fun σ => rfl) (fun σ a w k _ _ _ _ hf => zB hf rfl)⟩, .inr ⟨rfl, zk rfl (fun σ => rfl) (fun σ => rfl) (fun σ a w k _ _ _ _ hf => zaK zkz hf rfl)⟩, .inr ⟨rfl, zk rfl (fun σ => rfl) (fun σ => rfl) (fun σ a w k hk hlo hup hst hf => match k, hk, hlo, hup, hst, hf with | 0, _, _, _, hst, hf => have hO : Dk.Own w0 [] w _ := hst; zb (o := 1) zR (hO.blkSees (i := 0) rfl) rfl hf rfl | 1, _, _, _, hst, hf => have hO : Dk.Own w0 [] w _ := hst; zb (o := 1) zR (hO.blkSees (i := 1) rfl) rfl hf rfl | 2, _, _, _, hst, hf => have hO : Dk.Own w0 [] w _ := hst; zb (o := 1) zR (hO.blkSees (i := 1) rfl) rfl hf rfl | 3, _, _, _, hst, hf => have hO : Dk.Own w0 [] w _ := hst; zb (o := 1) zR (hO.blkSees (i := 1) rfl) rfl hf rfl | k + 4, hk, _, _, _, _ => absurd hk (by simp))⟩, .inr ⟨rfl, zfZ rfl (fun σ => rfl) (fun σ => rfl) rfl (fun σ a w (_ : _) hf => zp c_64 hf (vs := [str x_f.Value, str [32, 9]]) rfl) (fun σ w (hO : Dk.Own w0 [] w _) => (ziI x_f.Value [32, 9] r10 _ (hG.own hF hO) hr10).mono fun e w' h => by obtain ⟨he, hb⟩ := h; exact ⟨(σ), he, hO.grow hb, .inr rfl, .inr rfl, .inr rfl, .inr rfl, .inr rfl, .inr rfl, .inr rfl, .inr rfl, .inr rfl, .inr rfl, .inr rfl, .inr rfl, .inr rfl, .inr rfl, trivial⟩)⟩, .inr ⟨rfl, zk rfl (fun σ => rfl) (fun σ => rfl) (fun σ a w k _ _ _ _ hf => zaK zkz hf rfl)⟩, .inr ⟨rfl, zk rfl (fun σ => rfl) (fun σ => rfl) (fun σ a w k hk hlo hup hst hf => match k, hk, hlo, hup, hst, hf with | 0, _, _, _, hst, hf => have hO : Dk.Own w0 [] w _ := hst; zb (o := 1) zR (hO.blkSees (i := 0) rfl) rfl hf rfl | 1, _, _, _, hst, hf => have hO : Dk.Own w0 [] w _ := hst; zb (o := 1) zR (hO.blkSees (i := 1) rfl) rfl hf rfl | 2, _, _, _, hst, hf => have hO : Dk.Own w0 [] w _ := hst; zb (o := 1) zR (hO.blkSees (i := 1) rfl) rfl hf rfl | 3, _, _, _, hst, hf => have hO : Dk.Own w0 [] w _ := hst; zb (o := 1) zR (hO.blkSees (i := 1) rfl) rfl hf rfl | k + 4, hk, _, _, _, _ => absurd hk (by simp))⟩, .inr ⟨rfl, zk rfl (fun σ => rfl) (fun σ => rfl) (fun σ a w k _ _ _ _ hf => zp1 (l := r10) (m := x_f.Value) hf rfl rfl)⟩, .inr ⟨rfl, zk rfl (fun σ => rfl) (fun σ => rfl) (fun σ a w k _ _ _ _ hf => zoa hf rfl hc9 rfl)⟩, .inr ⟨rfl, zk rfl (fun σ => rfl) (fun σ => rfl) (fun σ a w k _ _ _ _ hf => zaG hf rfl)⟩, trivial⟩ ?_
 rintro b7 a w hf hO
 have hO : Dk.Own w0 [] w _ := hO
 have hf : Fits 22 [(8, .bool (!(r10 == x_f.Value)))] a := (hf.cons rfl hf.nil)
 refine S.no tb ?_ hf hO hm
 exact en rfl fun a w hf hO hm => ⟨!(r10 == x_f.Value), hf.sel rfl, (hO.sub (.cons _ (.cons_cons _ .slnil))), hm⟩
 rintro a w ⟨t11, hf, hO, hm⟩
 rw [zc2] at hm
 refine S.co tb ?_ hf hO hm
 refine br rfl (fun hc12 => ?_) fun hc12 => ?_
 exact rt Tryz.results46 rfl
 exact rt Tryz.results46 rfl

theorem zoK (x_h : api_Head) (R : Int) (w0 : World) (hG : zbh w0) {x_h_p0 : Option Addr} {x_h_c0 : Nat} (hs0 : zas w0 x_h_p0 (cells za x_h.Fields)) (hc0 : x_h.Fields.length ≤ x_h_c0) (hm : zj0 x_h = some R) :
    Calls Tryz.prog 23 #[.agg #[int x_h.Kind, str x_h.Method, str x_h.Target, int x_h.Code, str x_h.Reason, int x_h.Minor, .slice x_h_p0 x_h.Fields.length x_h_c0]] w0 (Ret w0 (fun R => int R) R) := by
 rw [zj0] at hm
 have hF : zz [] := zf
 have hO : Dk.Own w0 [] w0 [] := Dk.Own.refl w0
 have hO := hO.addShr hs0 (by simp [Res.shared])
 refine S.enter tb Tryz.func23 rfl Tryz.ntmps23 rfl ?_ hO hm
 refine rw_ rfl fun a w hf hO hm => ?_
 refine zbU (v := .agg #[int x_h.Kind, str x_h.Method, str x_h.Target, int x_h.Code, str x_h.Reason, int x_h.Minor, .slice x_h_p0 x_h.Fields.length x_h_c0]) (cs := [int x_h.Kind, str x_h.Method, str x_h.Target, int x_h.Code, str x_h.Reason, int x_h.Minor, .slice x_h_p0 x_h.Fields.length x_h_c0]) rfl hf rfl rfl hO fun a b1 w hf hO => ?_
 refine S.op tb ?_ hf hO hm
 refine vl rfl rfl (fun a w hf hO => zn (o := 0) (vs := [int x_h.Kind, str x_h.Method, str x_h.Target, int x_h.Code, str x_h.Reason, int x_h.Minor, .slice x_h_p0 x_h.Fields.length x_h_c0]) zae zv (hO.blkSees (i := 0) rfl) rfl rfl hf rfl) ?_
 refine cl c_39 rfl (fun r3 w hr3 hO => zhV x_h r3 _ (hG.own hF hO) (hO.sees (i := 1) rfl) hc0 hr3) fun r3 hr3 => ?_
 refine br rfl (fun hc6 => ?_) fun hc6 => ?_
 exact rt Tryz.results23 rfl
 refine vl rfl rfl (fun a w hf hO => zb (o := 6) zhT (hO.blkSees (i := 0) rfl) rfl hf rfl) ?_
 refine lp (fun k a w => ∃ (i10 : Int), Fits 31 [(1, ptr b1 0), (17, .slice x_h_p0 x_h.Fields.length x_h_c0), (18, int (x_h.Fields.length : Int)), (19, int i10)] a ∧ Dk.Own w0 [] w [.blk b1 [int x_h.Kind, str x_h.Method, str x_h.Target, int x_h.Code, str x_h.Reason, int x_h.Minor, .slice x_h_p0 x_h.Fields.length x_h_c0] 35, .shr x_h_p0 (cells za x_h.Fields)] ∧ zeA x_h k i10 = some R) rfl (fun a w hf hO hm => ⟨0, hf.sel rfl, hO, hm⟩) ?_
 rintro n1 a w ⟨i10, hf, hO, hm⟩
 obtain _ | n1 := n1
 rw [zeA] at hm
 cases hm
 rw [zeA] at hm
 refine S.co tb ?_ hf hO hm
 refine br rfl (fun hc12 => ?_) fun hc12 => ?_
 refine rw_ rfl fun a w hf hO hm => ?_
 obtain ⟨x14, hx14, hm⟩ := ob hm
 obtain ⟨b15, o16, hix14, hSx14⟩ := zfM (enc := za) (sz := 2) (xs := x_h.Fields) 33 Tryz.underlying33 zal (by decide) (fun _ => rfl) (hO.sees (i := 1) rfl) hx14
 refine za2 (zo hix14 hf rfl rfl) rfl hf rfl rfl fun a hf => ?_
 refine S.op tb ?_ hf hO hm
 refine vl rfl rfl (fun a w hf hO => zn (o := 0) (vs := [str x14.Name, str x14.Value]) zdc zal (hSx14 _ (hO.sees (i := 1) rfl)) rfl rfl hf rfl) ?_
 refine rw_ rfl fun a w hf hO hm => ?_
 refine zt zmK hf rfl hO fun a b17 w hf hO => ?_
 refine S.op tb ?_ hf hO hm
 refine rw_ rfl fun a w hf hO hm => ?_
 refine ze (i := 0) (n := 2) zal rfl rfl rfl (by simp [Value.oneCell']) hf rfl rfl hO fun w hO => ?_
 refine S.op tb ?_ hf hO hm
 refine vl rfl rfl (fun a w hf hO => zn (o := 0) (vs := [str x14.Name, str x14.Value]) zdc zal (hO.blkSees (i := 0) rfl) rfl rfl hf rfl) ?_
 refine cl c_46 rfl (fun r19 w hr19 hO => zhi x14 r19 _ (hG.own hF hO).1 hr19) fun r19 hr19 => ?_
 refine br rfl (fun hc22 => ?_) fun hc22 => ?_
 exact rt Tryz.results23 rfl
 refine bi rfl fun i25 hi25 => ?_
 exact en rfl fun a w hf hO hm => ⟨_, Nat.lt_succ_self _, i25, hf.sel rfl, (hO.sub (.cons _ (.cons_cons _ (.cons_cons _ .slnil)))), hm⟩
 refine vl rfl rfl (fun a w hf hO => zn (o := 0) (vs := [int x_h.Kind, str x_h.Method, str x_h.Target, int x_h.Code, str x_h.Reason, int x_h.Minor, .slice x_h_p0 x_h.Fields.length x_h_c0]) zae zv (hO.blkSees (i := 0) rfl) rfl rfl hf rfl) ?_
 refine cl c_34 rfl (fun r27 w hr27 hO => zks x_h r27 _ (hG.own hF hO) (hO.sees (i := 1) rfl) hc0 hr27) fun r27 hr27 => ?_
 exact rt Tryz.results23 rfl

theorem zpG (x_most : Int) (R : quill_Quill) (w0 : World) (hG : zx w0) (hm : zkV x_most = some R) :
    Calls Tryz.prog 38 #[int x_most] w0 fun e w' => ∃ (b0 : Nat) (p1 : Option Addr) (c1 : Nat), e = .returned (ptr b0 0) ∧ Dk.Own w0 [] w' [.blk b0 [.slice p1 R.f_b.length c1, int R.f_most] 115, .row (.slice p1 R.f_b.length c1) 5 1 R.f_b.length (cells zaL R.f_b)] := by
 rw [zkV] at hm
 have hF : zz [] := zf
 have hO : Dk.Own w0 [] w0 [] := Dk.Own.refl w0
 refine S.enter tb Tryz.func38 rfl Tryz.ntmps38 rfl ?_ hO hm
 refine vl rfl rfl (fun a w hf hO => ex_max (m := x_most) (n := 0) hf rfl rfl) ?_
 refine vl rfl rfl (fun a w hf hO => zj (vs := [(1, int (max x_most 0))]) (v := .agg #[.slice none 0 0, int (max x_most 0)]) hf rfl (by kernel_rfl)) ?_
 refine rw_ rfl fun a w hf hO hm => ?_
 refine zbU (v := .agg #[.slice none 0 0, int (max x_most 0)]) (cs := [.slice none 0 0, int (max x_most 0)]) rfl hf rfl rfl hO fun a b2 w hf hO => ?_
 have hO := hO.nilRow 5 1
 refine S.op tb ?_ hf hO hm
 refine re_ rfl fun a w hf hO hm => ?_
 obtain rfl := Option.some.inj hm
 exact zg Tryz.results38 hf (.tmp rfl .nil) ⟨b2, none, 0, rfl, (hO.choose [1, 0] rfl)⟩

theorem zj2 (x_q : quill_Quill) (R : Int) (w0 : World) (hG : zx w0) {x_q_b0 : Nat} {x_q_p1 : Option Addr} {x_q_c1 : Nat} (hs0 : zas w0 (some ⟨x_q_b0, 0, none⟩) [.slice x_q_p1 x_q.f_b.length x_q_c1, int x_q.f_most]) (hs1 : zas w0 x_q_p1 (cells zaL x_q.f_b)) (hc1 : x_q.f_b.length ≤ x_q_c1) (hm : zfI x_q = some R) :
    Calls Tryz.prog 159 #[ptr x_q_b0 0] w0 (Ret w0 (fun R => int R) R) := by
 rw [zfI] at hm
 have hF : zz [] := zf
 have hO : Dk.Own w0 [] w0 [] := Dk.Own.refl w0
 have hO := hO.addShr hs0 (by simp [Res.shared])
 have hO := hO.addShr hs1 (by simp [Res.shared])
 refine S.enter tb Tryz.func159 rfl Tryz.ntmps159 rfl ?_ hO hm
 refine vl rfl rfl (fun a w hf hO => zfS Tryz.underlying77 hf rfl rfl) ?_
 refine kn (b' := false) rfl rfl ?_
 refine rc_ rfl fun a w hf hO hm => ?_
 refine zgi (by kernel_rfl) (by kernel_rfl) hO ?_
 refine zA (fun w hO => zB hf rfl) rfl hf rfl rfl fun a hf => ?_
 refine zA (fun w hO => zcC hf rfl) rfl hf rfl rfl fun a hf => ?_
 refine zA (fun w hO => zaK zpK hf rfl) rfl hf rfl rfl fun a hf => ?_
 refine zA (fun w hO => zb (o := 1) zfl (hO.sees (i := 1) rfl) rfl hf rfl) rfl hf rfl rfl fun a hf => ?_
 refine zA (fun w hO => zB hf rfl) rfl hf rfl rfl fun a hf => ?_
 refine zA (fun w hO => zcC hf rfl) rfl hf rfl rfl fun a hf => ?_
 refine zA (fun w hO => zaK zpJ hf rfl) rfl hf rfl rfl fun a hf => ?_
 refine zA (fun w hO => zb (o := 0) zsd (hO.sees (i := 1) rfl) rfl hf rfl) rfl hf rfl rfl fun a hf => ?_
 refine zA (fun w hO => zp5 Tryz.underlying23 hf rfl) rfl hf rfl rfl fun a hf => ?_
 obtain ⟨i4, hi4, hm⟩ := ob hm
 refine zA (fun w hO => zqF hf rfl rfl hi4) rfl hf rfl rfl fun a hf => ?_
 refine zA (fun w hO => zaG hf rfl) rfl hf rfl rfl fun a hf => ?_
 refine wpQuiet_nil ?_
 intro w hO
 refine S.no tb ?_ hf hO hm
 exact rt Tryz.results159 rfl

theorem zkv (x_q : quill_Quill) (x_l : List Str) (R : Int × quill_Quill) (w0 : World) (hG : zx w0) {x_q_b0 : Nat} {x_q_p1 : Option Addr} {x_q_c1 : Nat} {x_l_p2 : Option Addr} {x_l_c2 : Nat} {F : List Nat} (hF : zz F) (hO : Dk.Own w0 F w0 [.blk x_q_b0 [.slice x_q_p1 x_q.f_b.length x_q_c1, int x_q.f_most] 115, .row (.slice x_q_p1 x_q.f_b.length x_q_c1) 5 1 x_q.f_b.length (cells zaL x_q.f_b), .shr x_l_p2 (cells zh x_l)]) (hcw0 : x_l.length ≤ x_l_c2) (hm : zgp x_q x_l = some R) :
    Calls Tryz.prog 124 #[ptr x_q_b0 0, .slice x_l_p2 x_l.length x_l_c2] w0 fun e w' => ∃ (p0 : Option Addr) (c0 : Nat), e = .returned (int R.1) ∧ Dk.Own w0 F w' [.blk x_q_b0 [.slice p0 R.2.f_b.length c0, int R.2.f_most] 115, .row (.slice p0 R.2.f_b.length c0) 5 1 R.2.f_b.length (cells zaL R.2.f_b)] := by
 rw [zgp] at hm
 refine S.enter tb Tryz.func124 rfl Tryz.ntmps124 rfl ?_ hO hm
 refine vl rfl rfl (fun a w hf hO => zfS Tryz.underlying77 hf rfl rfl) ?_
 refine kn (b' := false) rfl rfl ?_
 refine cl c_159 rfl (fun r4 w hr4 hO => zj2 x_q r4 _ (hG.own hF hO) (hO.blkSees (i := 0) rfl) (hO.rowSees (i := 1) rfl) (hO.rowCap (i := 1) rfl) hr4) fun r4 hr4 => ?_
 refine lp (fun k a w => ∃ (i7 : Int) (i8 : Int), Fits 45 [(0, ptr x_q_b0 0), (1, .slice x_l_p2 x_l.length x_l_c2), (5, int i7), (14, .slice x_l_p2 x_l.length x_l_c2), (15, int (x_l.length : Int)), (16, int i8)] a ∧ Dk.Own w0 F w [.blk x_q_b0 [.slice x_q_p1 x_q.f_b.length x_q_c1, int x_q.f_most] 115, .row (.slice x_q_p1 x_q.f_b.length x_q_c1) 5 1 x_q.f_b.length (cells zaL x_q.f_b), .shr x_l_p2 (cells zh x_l)] ∧ zcg x_q x_l k i7 i8 = some R) rfl (fun a w hf hO hm => ⟨r4, 0, hf.sel rfl, hO, hm⟩) ?_
 rintro n1 a w ⟨i7, i8, hf, hO, hm⟩
 obtain _ | n1 := n1
 rw [zcg] at hm
 cases hm
 rw [zcg] at hm
 refine S.co tb ?_ hf hO hm
 refine br rfl (fun hc10 => ?_) fun hc10 => ?_
 refine rw_ rfl fun a w hf hO hm => ?_
 obtain ⟨x12, hx12, hm⟩ := ob hm
 obtain ⟨b13, o14, hix12, hSx12⟩ := zfM (enc := zh) (sz := 1) (xs := x_l) 31 Tryz.underlying31 zd1 (by decide) (fun _ => rfl) (hO.sees (i := 2) rfl) hx12
 refine za2 (zo hix12 hf rfl rfl) rfl hf rfl rfl fun a hf => ?_
 refine S.op tb ?_ hf hO hm
 refine vl rfl rfl (fun a w hf hO => zb (o := 0) zR (hSx12 _ (hO.sees (i := 2) rfl)) rfl hf rfl) ?_
 refine br rfl (fun hc17 => ?_) fun hc17 => ?_
 refine re_ rfl fun a w hf hO hm => ?_
 obtain rfl := Option.some.inj hm
 exact zg Tryz.results124 hf (.tmp rfl .nil) ⟨x_q_p1, x_q_c1, rfl, (hO.sub (.cons_cons _ (.cons_cons _ (.cons _ .slnil))))⟩
 refine bi rfl fun i20 hi20 => ?_
 refine bi rfl fun i22 hi22 => ?_
 exact en rfl fun a w hf hO hm => ⟨_, Nat.lt_succ_self _, i20, i22, hf.sel rfl, hO, hm⟩
 refine jn 0 (fun a w => ∃ (p42 : Option Addr) (c43 : Nat) (l44 : List UInt8) (i45 : Int), Fits 45 [] a ∧ Dk.Own w0 F w [.blk x_q_b0 [.slice p42 l44.length c43, int i45] 115, .row (.slice p42 l44.length c43) 5 1 l44.length (cells zaL l44), .shr x_l_p2 (cells zh x_l)] ∧ zeO l44 i45 = some R) rfl ?_ ?_
 refine lp (fun k a w => ∃ (p25 : Option Addr) (c26 : Nat) (l27 : List UInt8) (i28 : Int) (i29 : Int), Fits 45 [(0, ptr x_q_b0 0), (29, .slice x_l_p2 x_l.length x_l_c2), (30, int (x_l.length : Int)), (31, int i29)] a ∧ Dk.Own w0 F w [.blk x_q_b0 [.slice p25 l27.length c26, int i28] 115, .row (.slice p25 l27.length c26) 5 1 l27.length (cells zaL l27), .shr x_l_p2 (cells zh x_l)] ∧ zcf x_l k l27 i28 i29 = some R) rfl (fun a w hf hO hm => ⟨x_q_p1, x_q_c1, x_q.f_b, x_q.f_most, 0, hf.sel rfl, hO, hm⟩) ?_
 rintro n2 a w ⟨p25, c26, l27, i28, i29, hf, hO, hm⟩
 obtain _ | n2 := n2
 rw [zcf] at hm
 cases hm
 rw [zcf] at hm
 refine S.co tb ?_ hf hO hm
 refine br rfl (fun hc31 => ?_) fun hc31 => ?_
 refine rw_ rfl fun a w hf hO hm => ?_
 obtain ⟨x33, hx33, hm⟩ := ob hm
 obtain ⟨b34, o35, hix33, hSx33⟩ := zfM (enc := zh) (sz := 1) (xs := x_l) 31 Tryz.underlying31 zd1 (by decide) (fun _ => rfl) (hO.sees (i := 2) rfl) hx33
 refine za2 (zo hix33 hf rfl rfl) rfl hf rfl rfl fun a hf => ?_
 refine S.op tb ?_ hf hO hm
 refine vl rfl rfl (fun a w hf hO => zb (o := 0) zR (hSx33 _ (hO.sees (i := 2) rfl)) rfl hf rfl) ?_
 refine vl rfl rfl (fun a w hf hO => zb (o := 0) zsd (hO.blkSees (i := 0) rfl) rfl hf rfl) ?_
 refine rw_ rfl fun a w hf hO hm => ?_
 obtain ⟨hg39, hm⟩ := og hm
 refine zqC (en := zaL) (xs := l27) (s := x33) (i := 1) (fun _ => rfl) zs9 rfl hg39 hf rfl rfl rfl hO fun a p37 c38 w hf hO => ?_
 refine S.op tb ?_ hf hO hm
 refine rw_ rfl fun a w hf hO hm => ?_
 refine z6 (i := 0) (o := 0) (v := .slice p37 ((l27 ++ x33).length) c38) sz_23 rfl rfl rfl rfl hf rfl rfl hO fun w hO => ?_
 refine S.op tb ?_ hf hO hm
 refine bi rfl fun i41 hi41 => ?_
 exact en rfl fun a w hf hO hm => ⟨_, Nat.lt_succ_self _, p37, c38, l27 ++ x33, i28, i41, hf.sel rfl, hO, hm⟩
 exact en rfl fun a w hf hO hm => ⟨p25, c26, l27, i28, hf.sel rfl, hO, hm⟩
 rintro a w ⟨p42, c43, l44, i45, hf, hO, hm⟩
 rw [zeO] at hm
 refine S.co tb ?_ hf hO hm
 refine re_ rfl fun a w hf hO hm => ?_
 obtain rfl := Option.some.inj hm
 exact zg Tryz.results124 hf (.tmp rfl .nil) ⟨p42, c43, rfl, (hO.sub (.cons_cons _ (.cons_cons _ (.cons _ .slnil))))⟩

theorem zj3 (x_q : quill_Quill) (x_l : List Str) (R : Int × quill_Quill) (w0 : World) (hG : zx w0) {x_q_b0 : Nat} {x_q_p1 : Option Addr} {x_q_c1 : Nat} {x_l_p2 : Option Addr} {x_l_c2 : Nat} {F : List Nat} (hF : zz F) (hO : Dk.Own w0 F w0 [.blk x_q_b0 [.slice x_q_p1 x_q.f_b.length x_q_c1, int x_q.f_most] 115, .row (.slice x_q_p1 x_q.f_b.length x_q_c1) 5 1 x_q.f_b.length (cells zaL x_q.f_b), .shr x_l_p2 (cells zh x_l)]) (hcw0 : x_l.length ≤ x_l_c2) (hm : zfJ x_q x_l = some R) :
    Calls Tryz.prog 77 #[ptr x_q_b0 0, .slice x_l_p2 x_l.length x_l_c2] w0 fun e w' => ∃ (p0 : Option Addr) (c0 : Nat), e = .returned (int R.1) ∧ Dk.Own w0 F w' [.blk x_q_b0 [.slice p0 R.2.f_b.length c0, int R.2.f_most] 115, .row (.slice p0 R.2.f_b.length c0) 5 1 R.2.f_b.length (cells zaL R.2.f_b)] := by
 rw [zfJ] at hm
 refine S.enter tb Tryz.func77 rfl Tryz.ntmps77 rfl ?_ hO hm
 refine rw_ rfl fun a w hf hO hm => ?_
 refine zJ (vs := []) (cs := []) (e := 9) (sz := 1) hf rfl rfl (fun w => by kernel_rfl) rfl rfl hO fun a b2 w hf hO => ?_
 refine S.op tb ?_ hf hO hm
 refine rw_ rfl fun a w hf hO hm => ?_
 obtain ⟨hg5, hm⟩ := og hm
 refine zmJ znX (enc := zh) (xs := []) (ys := x_l) (i := 0) (fun _ => rfl) rfl (hO.sees (i := 3) rfl) (by simp [zh, Value.oneCell']) hg5 hf rfl rfl rfl hO fun a p3 c4 w hf hO => ?_
 refine S.op tb ?_ hf hO hm
 refine rw_ rfl fun a w hf hO hm => ?_
 refine zJ (vs := [(0, str [13, 10])]) (cs := [str [13, 10]]) (e := 9) (sz := 1) hf rfl rfl (fun w => by kernel_rfl) rfl rfl hO fun a b6 w hf hO => ?_
 refine S.op tb ?_ hf hO hm
 refine rw_ rfl fun a w hf hO hm => ?_
 obtain ⟨hg9, hm⟩ := og hm
 refine zeQ znX (enc := zh) (xs := x_l) (ys := ([[13, 10]] : List Str)) (i := 1) (fun _ => rfl) rfl (hO.rowSees (i := 0) rfl) (by simp [cells, zh, Value.oneCell']) hg9 hf rfl rfl rfl hO fun a p7 c8 w hf hO => ?_
 refine S.op tb ?_ hf hO hm
 refine rw_ rfl fun a w hf hO hm => ?_
 obtain ⟨r10, hr10, hm⟩ := ob hm
 have hch13 := (show Dk.Own w0 F _ ([.blk x_q_b0 [.slice x_q_p1 x_q.f_b.length x_q_c1, int x_q.f_most] 115, .row (.slice x_q_p1 x_q.f_b.length x_q_c1) 5 1 x_q.f_b.length (cells zaL x_q.f_b)] ++ [.row (.slice (some ⟨b6, 0, none⟩) (([[13, 10]] : List Str).length) 1) 9 1 (([[13, 10]] : List Str).length) (cells zh ([[13, 10]] : List Str)), .row (.slice p7 ((x_l ++ ([[13, 10]] : List Str)).length) c8) 9 1 ((x_l ++ ([[13, 10]] : List Str)).length) (cells zh (x_l ++ ([[13, 10]] : List Str))), .shr x_l_p2 (cells zh x_l)]) from hO.choose [2, 3, 0, 1, 4] rfl)
 have hfar13 := Dk.Own.far hch13 rfl hF hG.size
 have hlend13 := hch13.lend (S := [.shr p7 (cells zh (x_l ++ ([[13, 10]] : List Str)))]) rfl ⟨zo8 (hO.rowSees (i := 1) rfl) (List.mem_of_getElem? (i := 1) rfl), trivial⟩
 have hcl13 := zkv x_q (x_l ++ ([[13, 10]] : List Str)) r10 _ (hG.own hF hO) hfar13 hlend13 (hO.rowCap (i := 1) rfl) hr10
 refine zr (zp c_124 hf (vs := [ptr x_q_b0 0, .slice p7 ((x_l ++ ([[13, 10]] : List Str)).length) c8]) rfl) rfl hf rfl rfl (hcl13) ?_
 rintro e w' ⟨p11, c12, he, hO'⟩
 refine ⟨_, he, fun a hf => ?_⟩
 have hO := hch13.back rfl hO' rfl
 refine S.op tb ?_ hf hO hm
 refine re_ rfl fun a w hf hO hm => ?_
 obtain rfl := Option.some.inj hm
 exact zg Tryz.results77 hf (.tmp rfl .nil) ⟨p11, c12, rfl, (hO.sub (.cons_cons _ (.cons_cons _ (.cons _ (.cons _ (.cons _ .slnil))))))⟩

theorem zej (x_p : head_printer) (x_s : Str) (R : head_printer) (w0 : World) (hG : zx w0) {x_p_b0 : Nat} {x_p_b1 : Nat} {x_p_p2 : Option Addr} {x_p_c2 : Nat} {F : List Nat} (hF : zz F) (hO : Dk.Own w0 F w0 [.blk x_p_b0 [ptr x_p_b1 0, .bool x_p.f_full] 80, .blk x_p_b1 [.slice x_p_p2 x_p.Quill.f_b.length x_p_c2, int x_p.Quill.f_most] 115, .row (.slice x_p_p2 x_p.Quill.f_b.length x_p_c2) 5 1 x_p.Quill.f_b.length (cells zaL x_p.Quill.f_b)]) (hm : zcz x_p x_s = some R) :
    Calls Tryz.prog 40 #[ptr x_p_b0 0, str x_s] w0 fun e w' => ∃ (p0 : Option Addr) (c0 : Nat), e = .returned (.tuple #[]) ∧ Dk.Own w0 F w' [.blk x_p_b0 [ptr x_p_b1 0, .bool R.f_full] 80, .blk x_p_b1 [.slice p0 R.Quill.f_b.length c0, int R.Quill.f_most] 115, .row (.slice p0 R.Quill.f_b.length c0) 5 1 R.Quill.f_b.length (cells zaL R.Quill.f_b)] := by
 rw [zcz] at hm
 refine S.enter tb Tryz.func40 rfl Tryz.ntmps40 rfl ?_ hO hm
 refine vl rfl rfl (fun a w hf hO => zb (o := 0) ag_77 (hO.blkSees (i := 0) rfl) rfl hf rfl) ?_
 refine rw_ rfl fun a w hf hO hm => ?_
 refine zJ (vs := [(0, str x_s)]) (cs := [str x_s]) (e := 9) (sz := 1) hf rfl rfl (fun w => by kernel_rfl) rfl rfl hO fun a b1 w hf hO => ?_
 refine S.op tb ?_ hf hO hm
 refine rw_ rfl fun a w hf hO hm => ?_
 obtain ⟨r2, hr2, hm⟩ := ob hm
 have hch5 := (show Dk.Own w0 F _ ([.blk x_p_b1 [.slice x_p_p2 x_p.Quill.f_b.length x_p_c2, int x_p.Quill.f_most] 115, .row (.slice x_p_p2 x_p.Quill.f_b.length x_p_c2) 5 1 x_p.Quill.f_b.length (cells zaL x_p.Quill.f_b)] ++ [.row (.slice (some ⟨b1, 0, none⟩) (([x_s] : List Str).length) 1) 9 1 (([x_s] : List Str).length) (cells zh ([x_s] : List Str)), .blk x_p_b0 [ptr x_p_b1 0, .bool x_p.f_full] 80]) from hO.choose [2, 3, 0, 1] rfl)
 have hfar5 := Dk.Own.far hch5 rfl hF hG.size
 have hlend5 := hch5.lend (S := [.shr (some ⟨b1, 0, none⟩) (cells zh ([x_s] : List Str))]) rfl ⟨zo8 (hO.rowSees (i := 0) rfl) (List.mem_of_getElem? (i := 0) rfl), trivial⟩
 have hcl5 := zj3 x_p.Quill ([x_s] : List Str) r2 _ (hG.own hF hO) hfar5 hlend5 (hO.rowCap (i := 0) rfl) hr2
 refine zr (zp c_77 hf (vs := [ptr x_p_b1 0, .slice (some ⟨b1, 0, none⟩) (([x_s] : List Str).length) 1]) rfl) rfl hf rfl rfl (hcl5) ?_
 rintro e w' ⟨p3, c4, he, hO'⟩
 refine ⟨_, he, fun a hf => ?_⟩
 have hO := hch5.back rfl hO' rfl
 refine S.op tb ?_ hf hO hm
 refine br rfl (fun hc6 => ?_) fun hc6 => ?_
 refine rw_ rfl fun a w hf hO hm => ?_
 refine z6 (i := 3) (o := 1) (v := .bool true) sz_4 rfl rfl rfl rfl hf rfl rfl hO fun w hO => ?_
 refine S.op tb ?_ hf hO hm
 refine rn_ rfl fun a w hf hO hm => ?_
 obtain rfl := Option.some.inj hm
 exact zm6 Tryz.results40 hf .nil ⟨p3, c4, rfl, (hO.choose [3, 0, 1] rfl)⟩
 refine vl rfl rfl (fun a w hf hO => zb (o := 1) ag_4 (hO.blkSees (i := 3) rfl) rfl hf rfl) ?_
 refine rw_ rfl fun a w hf hO hm => ?_
 refine z6 (i := 3) (o := 1) (v := .bool x_p.f_full) sz_4 rfl rfl rfl rfl hf rfl rfl hO fun w hO => ?_
 refine S.op tb ?_ hf hO hm
 refine rn_ rfl fun a w hf hO hm => ?_
 obtain rfl := Option.some.inj hm
 exact zm6 Tryz.results40 hf .nil ⟨p3, c4, rfl, (hO.choose [3, 0, 1] rfl)⟩

theorem zk0 (x_f : api_Field) (R : Str × Int) (w0 : World) (hG : zx w0) (hm : zg1 x_f = some R) :
    Calls Tryz.prog 41 #[.agg #[str x_f.Name, str x_f.Value]] w0 (Ret w0 (fun R => .tuple #[str R.1, int R.2]) R) := by
 rw [zg1] at hm
 have hF : zz [] := zf
 have hO : Dk.Own w0 [] w0 [] := Dk.Own.refl w0
 refine S.enter tb Tryz.func41 rfl Tryz.ntmps41 rfl ?_ hO hm
 refine rw_ rfl fun a w hf hO hm => ?_
 refine zbU (v := .agg #[str x_f.Name, str x_f.Value]) (cs := [str x_f.Name, str x_f.Value]) rfl hf rfl rfl hO fun a b1 w hf hO => ?_
 refine S.op tb ?_ hf hO hm
 refine vl rfl rfl (fun a w hf hO => zn (o := 0) (vs := [str x_f.Name, str x_f.Value]) zdc zal (hO.blkSees (i := 0) rfl) rfl rfl hf rfl) ?_
 refine cl c_46 rfl (fun r3 w hr3 hO => zhi x_f r3 _ (hG.own hF hO) hr3) fun r3 hr3 => ?_
 refine br rfl (fun hc6 => ?_) fun hc6 => ?_
 exact rt Tryz.results41 rfl
 refine vl rfl rfl (fun a w hf hO => zb (o := 1) zR (hO.blkSees (i := 0) rfl) rfl hf rfl) ?_
 refine br rfl (fun hc10 => ?_) fun hc10 => ?_
 refine vl rfl rfl (fun a w hf hO => zb (o := 0) zR (hO.blkSees (i := 0) rfl) rfl hf rfl) ?_
 refine bi rfl fun s11 hs11 => ?_
 exact rt Tryz.results41 rfl
 refine vl rfl rfl (fun a w hf hO => zb (o := 0) zR (hO.blkSees (i := 0) rfl) rfl hf rfl) ?_
 refine bi rfl fun s14 hs14 => ?_
 refine vl rfl rfl (fun a w hf hO => zb (o := 1) zR (hO.blkSees (i := 0) rfl) rfl hf rfl) ?_
 refine bi rfl fun s15 hs15 => ?_
 exact rt Tryz.results41 rfl

theorem zj4 (x_q : quill_Quill) (R : Str) (w0 : World) (hG : zx w0) {x_q_b0 : Nat} {x_q_p1 : Option Addr} {x_q_c1 : Nat} (hs0 : zas w0 (some ⟨x_q_b0, 0, none⟩) [.slice x_q_p1 x_q.f_b.length x_q_c1, int x_q.f_most]) (hs1 : zas w0 x_q_p1 (cells zaL x_q.f_b)) (hc1 : x_q.f_b.length ≤ x_q_c1) (hm : zfK x_q = some R) :
    Calls Tryz.prog 42 #[ptr x_q_b0 0] w0 (Ret w0 (fun R => str R) R) := by
 rw [zfK] at hm
 have hF : zz [] := zf
 have hO : Dk.Own w0 [] w0 [] := Dk.Own.refl w0
 have hO := hO.addShr hs0 (by simp [Res.shared])
 have hO := hO.addShr hs1 (by simp [Res.shared])
 refine S.enter tb Tryz.func42 rfl Tryz.ntmps42 rfl ?_ hO hm
 refine vl rfl rfl (fun a w hf hO => zfS Tryz.underlying77 hf rfl rfl) ?_
 refine kn (b' := false) rfl rfl ?_
 refine vl rfl rfl (fun a w hf hO => zb (o := 0) zsd (hO.sees (i := 1) rfl) rfl hf rfl) ?_
 refine vl rfl rfl (fun a w hf hO => zqA (en := zaL) (l := x_q.f_b) (fun _ => rfl) Tryz.underlying9 Tryz.underlying23 Tryz.underlying5 (hO.sees (i := 0) rfl) hf rfl) ?_
 exact rt Tryz.results42 rfl

theorem zoL (x_h : api_Head) (x_limit : Int) (R : Str × Int) (w0 : World) (hG : zbh w0) {x_h_p0 : Option Addr} {x_h_c0 : Nat} (hs0 : zas w0 x_h_p0 (cells za x_h.Fields)) (hc0 : x_h.Fields.length ≤ x_h_c0) (hm : zj1 x_h x_limit = some R) :
    Calls Tryz.prog 21 #[.agg #[int x_h.Kind, str x_h.Method, str x_h.Target, int x_h.Code, str x_h.Reason, int x_h.Minor, .slice x_h_p0 x_h.Fields.length x_h_c0], int x_limit] w0 (Ret w0 (fun R => .tuple #[str R.1, int R.2]) R) := by
 rw [zj1] at hm
 have hF : zz [] := zf
 have hO : Dk.Own w0 [] w0 [] := Dk.Own.refl w0
 have hO := hO.addShr hs0 (by simp [Res.shared])
 refine S.enter tb Tryz.func21 rfl Tryz.ntmps21 rfl ?_ hO hm
 refine rw_ rfl fun a w hf hO hm => ?_
 refine zbU (v := .agg #[int x_h.Kind, str x_h.Method, str x_h.Target, int x_h.Code, str x_h.Reason, int x_h.Minor, .slice x_h_p0 x_h.Fields.length x_h_c0]) (cs := [int x_h.Kind, str x_h.Method, str x_h.Target, int x_h.Code, str x_h.Reason, int x_h.Minor, .slice x_h_p0 x_h.Fields.length x_h_c0]) rfl hf rfl rfl hO fun a b1 w hf hO => ?_
 refine S.op tb ?_ hf hO hm
 refine vl rfl rfl (fun a w hf hO => zn (o := 0) (vs := [int x_h.Kind, str x_h.Method, str x_h.Target, int x_h.Code, str x_h.Reason, int x_h.Minor, .slice x_h_p0 x_h.Fields.length x_h_c0]) zae zv (hO.blkSees (i := 0) rfl) rfl rfl hf rfl) ?_
 refine cl c_23 rfl (fun r3 w hr3 hO => zoK x_h r3 _ (hG.own hF hO) (hO.sees (i := 1) rfl) hc0 hr3) fun r3 hr3 => ?_
 refine br rfl (fun hc6 => ?_) fun hc6 => ?_
 exact rt Tryz.results21 rfl
 refine rw_ rfl fun a w hf hO hm => ?_
 obtain ⟨r9, hr9, hm⟩ := ob hm
 refine zr (zp c_38 hf (vs := [int x_limit]) rfl) rfl hf rfl rfl (zpG x_limit r9 _ (hG.own hF hO).1 hr9) ?_
 rintro e w' ⟨b10, p11, c12, he, hO'⟩
 refine ⟨_, he, fun a hf => ?_⟩
 have hO := hO.call hO' (by simp [Res.shared])
 refine S.op tb ?_ hf hO hm
 refine vl rfl rfl (fun a w hf hO => zj (vs := [(0, ptr b10 0)]) (v := .agg #[ptr b10 0, .bool false]) hf rfl (by kernel_rfl)) ?_
 refine rw_ rfl fun a w hf hO hm => ?_
 refine zbU (v := .agg #[ptr b10 0, .bool false]) (cs := [ptr b10 0, .bool false]) rfl hf rfl rfl hO fun a b13 w hf hO => ?_
 refine S.op tb ?_ hf hO hm
 refine vl rfl rfl (fun a w hf hO => zn (o := 0) (vs := [int x_h.Kind, str x_h.Method, str x_h.Target, int x_h.Code, str x_h.Reason, int x_h.Minor, .slice x_h_p0 x_h.Fields.length x_h_c0]) zae zv (hO.blkSees (i := 3) rfl) rfl rfl hf rfl) ?_
 refine cl c_39 rfl (fun r15 w hr15 hO => zhV x_h r15 _ (hG.own hF hO) (hO.sees (i := 4) rfl) hc0 hr15) fun r15 hr15 => ?_
 refine rw_ rfl fun a w hf hO hm => ?_
 obtain ⟨r17, hr17, hm⟩ := ob hm
 have hch20 := (show Dk.Own w0 [] _ ([.blk b13 [ptr b10 0, .bool false] 80, .blk b10 [.slice p11 r9.f_b.length c12, int r9.f_most] 115, .row (.slice p11 r9.f_b.length c12) 5 1 r9.f_b.length (cells zaL r9.f_b)] ++ [.blk b1 [int x_h.Kind, str x_h.Method, str x_h.Target, int x_h.Code, str x_h.Reason, int x_h.Minor, .slice x_h_p0 x_h.Fields.length x_h_c0] 35, .shr x_h_p0 (cells za x_h.Fields)]) from hO)
 have hfar20 := Dk.Own.far hch20 rfl hF hG.size
 have hlend20 := hch20.lend (S := []) rfl trivial
 have hcl20 := zej (⟨r9, false⟩ : head_printer) r15.1 r17 _ (hG.own hF hO).1 hfar20 hlend20 hr17
 refine zr (zp c_40 hf (vs := [ptr b13 0, str r15.1]) rfl) rfl hf rfl rfl (hcl20) ?_
 rintro e w' ⟨p18, c19, he, hO'⟩
 refine ⟨_, he, fun a hf => ?_⟩
 have hO := hch20.back rfl hO' rfl
 refine S.op tb ?_ hf hO hm
 refine jn 0 (fun a w => ∃ (t45 : Bool) (p46 : Option Addr) (c47 : Nat) (l48 : List UInt8) (i49 : Int), Fits 58 [(7, ptr b13 0)] a ∧ Dk.Own w0 [] w [.blk b13 [ptr b10 0, .bool t45] 80, .blk b10 [.slice p46 l48.length c47, int i49] 115, .row (.slice p46 l48.length c47) 5 1 l48.length (cells zaL l48), .blk b1 [int x_h.Kind, str x_h.Method, str x_h.Target, int x_h.Code, str x_h.Reason, int x_h.Minor, .slice x_h_p0 x_h.Fields.length x_h_c0] 35, .shr x_h_p0 (cells za x_h.Fields)] ∧ zhw t45 l48 i49 = some R) rfl ?_ ?_
 refine vl rfl rfl (fun a w hf hO => zb (o := 6) zhT (hO.blkSees (i := 3) rfl) rfl hf rfl) ?_
 refine lp (fun k a w => ∃ (t23 : Bool) (p24 : Option Addr) (c25 : Nat) (l26 : List UInt8) (i27 : Int) (i28 : Int), Fits 58 [(7, ptr b13 0), (32, .slice x_h_p0 x_h.Fields.length x_h_c0), (33, int (x_h.Fields.length : Int)), (34, int i28)] a ∧ Dk.Own w0 [] w [.blk b13 [ptr b10 0, .bool t23] 80, .blk b10 [.slice p24 l26.length c25, int i27] 115, .row (.slice p24 l26.length c25) 5 1 l26.length (cells zaL l26), .blk b1 [int x_h.Kind, str x_h.Method, str x_h.Target, int x_h.Code, str x_h.Reason, int x_h.Minor, .slice x_h_p0 x_h.Fields.length x_h_c0] 35, .shr x_h_p0 (cells za x_h.Fields)] ∧ zeB x_h k t23 l26 i27 i28 = some R) rfl (fun a w hf hO hm => ⟨r17.f_full, p18, c19, r17.Quill.f_b, r17.Quill.f_most, 0, hf.sel rfl, hO, hm⟩) ?_
 rintro n1 a w ⟨t23, p24, c25, l26, i27, i28, hf, hO, hm⟩
 obtain _ | n1 := n1
 rw [zeB] at hm
 cases hm
 rw [zeB] at hm
 refine S.co tb ?_ hf hO hm
 refine br rfl (fun hc30 => ?_) fun hc30 => ?_
 refine rw_ rfl fun a w hf hO hm => ?_
 obtain ⟨x32, hx32, hm⟩ := ob hm
 obtain ⟨b33, o34, hix32, hSx32⟩ := zfM (enc := za) (sz := 2) (xs := x_h.Fields) 33 Tryz.underlying33 zal (by decide) (fun _ => rfl) (hO.sees (i := 4) rfl) hx32
 refine za2 (zo hix32 hf rfl rfl) rfl hf rfl rfl fun a hf => ?_
 refine S.op tb ?_ hf hO hm
 refine vl rfl rfl (fun a w hf hO => zn (o := 0) (vs := [str x32.Name, str x32.Value]) zdc zal (hSx32 _ (hO.sees (i := 4) rfl)) rfl rfl hf rfl) ?_
 refine rw_ rfl fun a w hf hO hm => ?_
 refine zt zmK hf rfl hO fun a b35 w hf hO => ?_
 refine S.op tb ?_ hf hO hm
 refine rw_ rfl fun a w hf hO hm => ?_
 refine ze (i := 0) (n := 2) zal rfl rfl rfl (by simp [Value.oneCell']) hf rfl rfl hO fun w hO => ?_
 refine S.op tb ?_ hf hO hm
 refine vl rfl rfl (fun a w hf hO => zn (o := 0) (vs := [str x32.Name, str x32.Value]) zdc zal (hO.blkSees (i := 0) rfl) rfl rfl hf rfl) ?_
 refine cl c_41 rfl (fun r37 w hr37 hO => zk0 x32 r37 _ (hG.own hF hO).1 hr37) fun r37 hr37 => ?_
 refine rw_ rfl fun a w hf hO hm => ?_
 obtain ⟨r39, hr39, hm⟩ := ob hm
 have hch42 := (show Dk.Own w0 [] _ ([.blk b13 [ptr b10 0, .bool t23] 80, .blk b10 [.slice p24 l26.length c25, int i27] 115, .row (.slice p24 l26.length c25) 5 1 l26.length (cells zaL l26)] ++ [.blk b35 [str x32.Name, str x32.Value] 69, .blk b1 [int x_h.Kind, str x_h.Method, str x_h.Target, int x_h.Code, str x_h.Reason, int x_h.Minor, .slice x_h_p0 x_h.Fields.length x_h_c0] 35, .shr x_h_p0 (cells za x_h.Fields)]) from hO.choose [1, 2, 3, 0, 4, 5] rfl)
 have hfar42 := Dk.Own.far hch42 rfl hF hG.size
 have hlend42 := hch42.lend (S := []) rfl trivial
 have hcl42 := zej ((⟨(⟨l26, i27⟩ : quill_Quill), t23⟩ : head_printer)) r37.1 r39 _ (hG.own hF hO).1 hfar42 hlend42 hr39
 refine zr (zp c_40 hf (vs := [ptr b13 0, str r37.1]) rfl) rfl hf rfl rfl (hcl42) ?_
 rintro e w' ⟨p40, c41, he, hO'⟩
 refine ⟨_, he, fun a hf => ?_⟩
 have hO := hch42.back rfl hO' rfl
 refine S.op tb ?_ hf hO hm
 refine bi rfl fun i44 hi44 => ?_
 exact en rfl fun a w hf hO hm => ⟨_, Nat.lt_succ_self _, r39.f_full, p40, c41, r39.Quill.f_b, r39.Quill.f_most, i44, hf.sel rfl, (hO.sub (.cons_cons _ (.cons_cons _ (.cons_cons _ (.cons _ (.cons_cons _ (.cons_cons _ .slnil))))))), hm⟩
 exact en rfl fun a w hf hO hm => ⟨t23, p24, c25, l26, i27, hf.sel rfl, hO, hm⟩
 rintro a w ⟨t45, p46, c47, l48, i49, hf, hO, hm⟩
 rw [zhw] at hm
 refine S.co tb ?_ hf hO hm
 refine rw_ rfl fun a w hf hO hm => ?_
 obtain ⟨r50, hr50, hm⟩ := ob hm
 have hch53 := (show Dk.Own w0 [] _ ([.blk b13 [ptr b10 0, .bool t45] 80, .blk b10 [.slice p46 l48.length c47, int i49] 115, .row (.slice p46 l48.length c47) 5 1 l48.length (cells zaL l48)] ++ [.blk b1 [int x_h.Kind, str x_h.Method, str x_h.Target, int x_h.Code, str x_h.Reason, int x_h.Minor, .slice x_h_p0 x_h.Fields.length x_h_c0] 35, .shr x_h_p0 (cells za x_h.Fields)]) from hO)
 have hfar53 := Dk.Own.far hch53 rfl hF hG.size
 have hlend53 := hch53.lend (S := []) rfl trivial
 have hcl53 := zej ((⟨(⟨l48, i49⟩ : quill_Quill), t45⟩ : head_printer)) [] r50 _ (hG.own hF hO).1 hfar53 hlend53 hr50
 refine zr (zp c_40 hf (vs := [ptr b13 0, str []]) rfl) rfl hf rfl rfl (hcl53) ?_
 rintro e w' ⟨p51, c52, he, hO'⟩
 refine ⟨_, he, fun a hf => ?_⟩
 have hO := hch53.back rfl hO' rfl
 refine S.op tb ?_ hf hO hm
 refine vl rfl rfl (fun a w hf hO => zb (o := 1) ag_4 (hO.blkSees (i := 0) rfl) rfl hf rfl) ?_
 refine br rfl (fun hc56 => ?_) fun hc56 => ?_
 exact rt Tryz.results21 rfl
 refine vl rfl rfl (fun a w hf hO => zb (o := 0) ag_77 (hO.blkSees (i := 0) rfl) rfl hf rfl) ?_
 refine cl c_42 rfl (fun r59 w hr59 hO => zj4 r50.Quill r59 _ (hG.own hF hO).1 (hO.blkSees (i := 1) rfl) (hO.rowSees (i := 2) rfl) (hO.rowCap (i := 2) rfl) hr59) fun r59 hr59 => ?_
 exact rt Tryz.results21 rfl

theorem znu (R : Bool) (w0 : World) (hG : zbh w0) (hm : zhe = some R) :
    Calls Tryz.prog 19 #[] w0 (Ret w0 (fun R => .bool R) R) := by
 rw [zhe] at hm
 have hF : zz [] := zf
 have hO : Dk.Own w0 [] w0 [] := Dk.Own.refl w0
 refine S.enter tb Tryz.func19 rfl Tryz.ntmps19 rfl ?_ hO hm
 refine rw_ rfl fun a w hf hO hm => ?_
 obtain ⟨r2, hr2, hm⟩ := ob hm
 refine zr (zp c_14 hf (vs := [int 1, str [71, 69, 84, 32, 47, 32, 72, 84, 84, 80, 47, 49, 46, 49, 13, 10, 72, 111, 115, 116, 58, 97, 32, 13, 10, 13, 10], int 99]) rfl) rfl hf rfl rfl (zkt 1 [71, 69, 84, 32, 47, 32, 72, 84, 84, 80, 47, 49, 46, 49, 13, 10, 72, 111, 115, 116, 58, 97, 32, 13, 10, 13, 10] 99 r2 _ (hG.own hF hO) hr2) ?_
 rintro e w' ⟨p3, c4, he, hO'⟩
 refine ⟨_, he, fun a hf => ?_⟩
 have hO := hO.call hO' (by simp [Res.shared])
 refine S.op tb ?_ hf hO hm
 refine rw_ rfl fun a w hf hO hm => ?_
 refine zt zg5 hf rfl hO fun a b5 w hf hO => ?_
 have hO := hO.nilRow 69 2
 refine S.op tb ?_ hf hO hm
 refine rw_ rfl fun a w hf hO hm => ?_
 refine ze (i := 1) (n := 7) zv rfl rfl rfl (by simp [Value.oneCell']) hf rfl rfl hO fun w hO => ?_
 refine S.op tb ?_ hf hO hm
 refine vl rfl rfl (fun a w hf hO => zn (o := 0) (vs := [int r2.1.Kind, str r2.1.Method, str r2.1.Target, int r2.1.Code, str r2.1.Reason, int r2.1.Minor, .slice p3 r2.1.Fields.length c4]) zae zv (hO.blkSees (i := 1) rfl) rfl rfl hf rfl) ?_
 refine cl c_21 rfl (fun r7 w hr7 hO => zoL r2.1 99 r7 _ (hG.own hF hO) (hO.rowSees (i := 2) rfl) (hO.rowCap (i := 2) rfl) hr7) fun r7 hr7 => ?_
 refine jn 0 (fun a w => ∃ (t11 : Bool), Fits 24 [(0, .bool t11)] a ∧ Dk.Own w0 [] w [.row (.slice none 0 0) 69 2 0 (cells za []), .blk b5 [int r2.1.Kind, str r2.1.Method, str r2.1.Target, int r2.1.Code, str r2.1.Reason, int r2.1.Minor, .slice p3 r2.1.Fields.length c4] 35, .row (.slice p3 r2.1.Fields.length c4) 69 2 r2.1.Fields.length (cells za r2.1.Fields)] ∧ zd0 t11 = some R) rfl ?_ ?_
 refine br rfl (fun hc9 => ?_) fun hc9 => ?_
 refine br rfl (fun hc10 => ?_) fun hc10 => ?_
 exact en rfl fun a w hf hO hm => ⟨r7.1 == [71, 69, 84, 32, 47, 32, 72, 84, 84, 80, 47, 49, 46, 49, 13, 10, 72, 111, 115, 116, 58, 32, 97, 13, 10, 13, 10], hf.sel rfl, hO, hm⟩
 exact en rfl fun a w hf hO hm => ⟨false, hf.sel rfl, hO, hm⟩
 exact en rfl fun a w hf hO hm => ⟨false, hf.sel rfl, hO, hm⟩
 rintro a w ⟨t11, hf, hO, hm⟩
 rw [zd0] at hm
 refine S.co tb ?_ hf hO hm
 exact rt Tryz.results19 rfl

end Go.Proofs
end
