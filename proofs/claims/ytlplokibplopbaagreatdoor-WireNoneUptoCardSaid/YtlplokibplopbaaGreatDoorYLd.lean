/-
 When the models come to something: printed by a program (wip/gen/yt.py) off the models and a table. No program in sight.
 When the models come to something: printed by a program (wip/gen/yt.py) off the models and a table. No program in sight.
 WireNone's law in plain Lean: what wire.New and its methods come to. No program in sight. The three halves' definitions: printed by ypw.py.
 Walks by evaluation: operations that turn nothing. Over any program.
 Walks by evaluation: each operation that turns nothing yields what its evaluation says. Over any program.
 Walks by evaluation: data taken out o
-/
import Derived.Test.YtlplokibplopbaaGreatDoorG11
import Derived.Test.YtlplokibplopbaaGreatDoorYRun
import Derived.Test.YtlplokibplopbaaGreatDoorRune
set_option linter.unusedVariables false
set_option linter.unusedSimpArgs false
section
set_option linter.unusedVariables false
set_option maxRecDepth 10000
set_option maxHeartbeats 2000000
namespace Go.Dm
instance  : T (zfk) (True) (fun r => True) := ⟨fun h => by unfold zfk; exact go⟩

instance (x_f : zLy) (x_minor : Int) : T (znh x_f x_minor) (x_f.N ≤ 1099511627776 ∧ 0 ≤ x_f.N) (fun r => 0 ≤ r.N ∧ r.N ≤ 1099511627776) := ⟨fun h => by unfold znh; exact go⟩

instance (x_r : zMl) : T (zgP x_r) (x_r.zMv.length ≤ 1000) (fun r => True) := ⟨fun h => by unfold zgP; exact go⟩

instance (x_q : zLX) : T (zen x_q) (Qm x_q) (fun r => True) := ⟨fun h => by unfold zen; exact goH⟩

instance  : T (zgQ) (True) (fun r => True) := ⟨fun h => by unfold zgQ; exact go⟩

instance (vp0 : zLk) (i8 : Int) : T (zaD vp0 i8) (Gw vp0) (fun r => Gw r.2 ∧ kc r.2 ≤ kc vp0 ∧ ku r.2 ≤ ku vp0 ∧ tc r.2 ≤ tc vp0 + 0 ∧ tu r.2 = tu vp0) := ⟨fun h => by unfold zaD; exact goH⟩

instance (vp0 : zLk) (i8 : Int) (s9 : Str) (t43 : Bool) : T (zaE vp0 i8 s9 t43) (Gw vp0 ∧ s9.length ≤ 65536 ∧ tc vp0 ≤ 50000000000000) (fun r => Gw r.2 ∧ kc r.2 ≤ kc vp0 ∧ ku r.2 ≤ ku vp0 ∧ tc r.2 ≤ tc vp0 + 65536 ∧ tu r.2 = tu vp0) := ⟨fun h => by unfold zaE; exact goJ⟩

instance (x_g : zLk) (x_h : zLq) (x_t : zLz) : T (zck x_g x_h x_t) (Gw x_g ∧ Hd x_h ∧ tc x_g ≤ 50000000000000) (fun r => Gw r.2 ∧ kc r.2 ≤ kc x_g ∧ ku r.2 ≤ ku x_g ∧ tc r.2 ≤ tc x_g + 65536 ∧ tu r.2 = tu x_g) := ⟨fun h => by unfold zck; exact goO⟩

instance (x_h : zLq) (x_close : Bool) (x_minor : Int) : T (zkS x_h x_close x_minor) (Fm x_h.Fields ∧ x_h.Fields.length ≤ 9500 ∧ x_h.Method.length ≤ 10000 ∧ x_h.Target.length ≤ 30000 ∧ x_h.Reason.length ≤ 10000 ∧ x_h.Code ≤ 1000 ∧ x_h.Minor ≤ 1000) (fun r => Fm r.Fields ∧ r.Method.length ≤ 10000 ∧ r.Target.length ≤ 30000 ∧ r.Reason.length ≤ 10000 ∧ r.Code ≤ 1000 ∧ r.Minor ≤ 1000) := ⟨fun h => by unfold zkS zfz; exact go2⟩

instance (x_q : zLX) : T (zfl x_q) (Qm x_q) (fun r => Qm r.2) := ⟨fun h => by unfold zfl; exact goH⟩

instance (vp0 : zLk) : T (zao vp0) (Gw vp0) (fun r => Gw r ∧ kc r ≤ kc vp0 ∧ ku r ≤ ku vp0 ∧ tc r ≤ tc vp0 + 0 ∧ tu r = tu vp0) := ⟨fun h => by unfold zao; exact goJ⟩

instance (vp0 : zLk) : T (zap vp0) (Gw vp0) (fun r => Gw r ∧ kc r ≤ kc vp0 ∧ ku r ≤ ku vp0 ∧ tc r ≤ tc vp0 + 0 ∧ tu r = tu vp0) := ⟨fun h => by unfold zap; exact goJ⟩

instance (vp0 : zLk) (s2 : Str) : T (zO vp0 s2) (Gw vp0 ∧ s2.length ≤ 1200000 ∧ tc vp0 ≤ 50000000000000) (fun r => Gw r ∧ kc r ≤ kc vp0 ∧ ku r ≤ ku vp0 ∧ tc r ≤ tc vp0 + 1200000 ∧ tu r = tu vp0) := ⟨fun h => by unfold zO; exact goJ⟩

instance (x_g : zLk) : T (zak x_g) (Gw x_g ∧ tc x_g ≤ 50000000000000) (fun r => Gw r ∧ kc r ≤ kc x_g ∧ ku r ≤ ku x_g ∧ tc r ≤ tc x_g + 1200000 ∧ tu r = tu x_g) := ⟨fun h => by unfold zak; exact goJ⟩

instance (vp0 : zLk) (t123 : Bool) : T (za3 vp0 t123) (Gw vp0 ∧ tc vp0 ≤ 50000000000000) (fun r => Gw r.2 ∧ kc r.2 ≤ kc vp0 ∧ ku r.2 ≤ ku vp0 ∧ tc r.2 ≤ tc vp0 + 1200000 ∧ tu r.2 = tu vp0) := ⟨fun h => by unfold za3; exact goJ⟩

instance (vp0 : zLk) : T (za4 vp0) (Gw vp0 ∧ tc vp0 ≤ 50000000000000) (fun r => Gw r.2 ∧ kc r.2 ≤ kc vp0 ∧ ku r.2 ≤ ku vp0 ∧ tc r.2 ≤ tc vp0 + 1200000 ∧ tu r.2 = tu vp0) := ⟨fun h => by unfold za4; exact goJ⟩

instance (vp0 : zLk) (v9 : zLy) : T (za5 vp0 v9) (Gw vp0 ∧ v9.N ≤ 1099511627776 ∧ tc vp0 ≤ 50000000000000) (fun r => Gw r.2 ∧ kc r.2 ≤ kc vp0 ∧ ku r.2 ≤ ku vp0 ∧ tc r.2 ≤ tc vp0 + 1200000 ∧ tu r.2 = tu vp0) := ⟨fun h => by unfold za5; exact goJ⟩

instance (vp0 : zLk) (v5 : zLz) (v7 : zLy) (v9 : zLy) (v10 : zLq) : T (za6 vp0 v5 v7 v9 v10) (Gw vp0 ∧ v9.N ≤ 1099511627776 ∧ Fm v10.Fields ∧ v10.Fields.length ≤ 9500 ∧ v10.Method.length ≤ 10000 ∧ v10.Target.length ≤ 30000 ∧ v10.Reason.length ≤ 10000 ∧ v10.Code ≤ 1000 ∧ v10.Minor ≤ 1000 ∧ tc vp0 ≤ 40000000000000) (fun r => Gw r.2 ∧ kc r.2 ≤ kc vp0 ∧ ku r.2 ≤ ku vp0 ∧ tc r.2 ≤ tc vp0 + 1300000 ∧ tu r.2 = tu vp0) := ⟨fun h => by unfold za6; exact goO⟩

instance (vp0 : zLk) (v4 : zLq) (v5 : zLz) (v7 : zLy) (v9 : zLy) (v10 : zLq) : T (za7 vp0 v4 v5 v7 v9 v10) (Gw vp0 ∧ Hd v4 ∧ v9.N ≤ 1099511627776 ∧ Fm v10.Fields ∧ v10.Fields.length ≤ 9500 ∧ v10.Method.length ≤ 10000 ∧ v10.Target.length ≤ 30000 ∧ v10.Reason.length ≤ 10000 ∧ v10.Code ≤ 1000 ∧ v10.Minor ≤ 1000 ∧ tc vp0 ≤ 40000000000000) (fun r => Gw r.2 ∧ kc r.2 ≤ kc vp0 ∧ ku r.2 ≤ ku vp0 ∧ tc r.2 ≤ tc vp0 + 1300000 ∧ tu r.2 = tu vp0) := ⟨fun h => by unfold za7; exact goO⟩

instance (x_a0 : zLk) (x_a1 : zLq) (x_a2 : zLz) : T (zdd x_a0 x_a1 x_a2) (Gw x_a0 ∧ Hd x_a1 ∧ tc x_a0 ≤ 40000000000000) (fun r => Gw r.2 ∧ kc r.2 ≤ kc x_a0 ∧ ku r.2 ≤ ku x_a0 ∧ tc r.2 ≤ tc x_a0 + 1300000 ∧ tu r.2 = tu x_a0) := ⟨fun h => by unfold zdd; exact goO⟩

end Go.Dm
end
section
set_option linter.unusedVariables false
set_option maxRecDepth 10000
set_option maxHeartbeats 2000000
namespace Go.Dm
instance (vp0 : zLk) (i6 : Int) : T (z8 vp0 i6) (Gw vp0 ∧ tc vp0 ≤ 50000000000000) (fun r => Gw r ∧ kc r ≤ kc vp0 ∧ ku r ≤ ku vp0 ∧ tc r ≤ tc vp0 + 1000 ∧ tu r = tu vp0) := ⟨fun h => by unfold z8; exact goJ⟩

instance (vp0 : zLk) (v2 : zLq) (v4 : zLz) : T (zaF vp0 v2 v4) (Gw vp0 ∧ Hd v2 ∧ tc vp0 ≤ 40000000000000) (fun r => Gw r ∧ kc r ≤ kc vp0 ∧ ku r ≤ ku vp0 ∧ tc r ≤ tc vp0 + 1310000 ∧ tu r = tu vp0) := ⟨fun h => by unfold zaF; exact goJ⟩

instance (vp0 : zLk) (v2 : zLq) : T (zaG vp0 v2) (Gw vp0 ∧ Hd v2 ∧ tc vp0 ≤ 40000000000000) (fun r => Gw r ∧ kc r ≤ kc vp0 ∧ ku r ≤ ku vp0 ∧ tc r ≤ tc vp0 + 1310000 ∧ tu r = tu vp0) := ⟨fun h => by unfold zaG; exact goJ⟩

instance (x_g : zLk) : T (zcl x_g) (Gw x_g ∧ tc x_g ≤ 40000000000000) (fun r => Gw r ∧ kc r ≤ kc x_g ∧ ku r ≤ ku x_g ∧ tc r ≤ tc x_g + 1310000 ∧ tu r = tu x_g) := ⟨fun h => by unfold zcl; exact goO⟩

instance (vp0 : zLk) (i5 : Int) (t6 : Bool) (i7 : Int) : T (zaq vp0 i5 t6 i7) (Gw vp0 ∧ tc vp0 ≤ 40000000000000) (fun r => r.1 = i5 ∧ Gw r.2 ∧ kc r.2 ≤ kc vp0 ∧ ku r.2 ≤ ku vp0 ∧ tc r.2 ≤ tc vp0 + 1310000 ∧ tu r.2 = tu vp0 ∧ (i7 ≠ 0 → r.2.zLv = true)) := ⟨fun h => by unfold zaq; exact goJ⟩

instance (vp0 : zLk) (i8 : Int) (t10 : Bool) (i11 : Int) (s12 : Str) : T (zar vp0 i8 t10 i11 s12) (Gw vp0 ∧ s12.length ≤ 7000000 ∧ tc vp0 ≤ 30000000000000) (fun r => r.1 = i8 ∧ Gw r.2 ∧ kc r.2 ≤ kc vp0 ∧ ku r.2 ≤ ku vp0 ∧ tc r.2 ≤ tc vp0 + 8200000 ∧ tu r.2 = tu vp0 ∧ (i11 ≠ 0 → r.2.zLv = true)) := ⟨fun h => by unfold zar; exact goJ⟩

instance (vp0 : zLk) (i8 : Int) (s9 : Str) (t10 : Bool) (i11 : Int) : T (zas vp0 i8 s9 t10 i11) (Gw vp0 ∧ s9.length ≤ 3000 ∧ tc vp0 ≤ 30000000000000) (fun r => r.1 = i8 ∧ Gw r.2 ∧ kc r.2 ≤ kc vp0 ∧ ku r.2 ≤ ku vp0 ∧ tc r.2 ≤ tc vp0 + 8200000 ∧ tu r.2 = tu vp0 ∧ (i11 ≠ 0 → r.2.zLv = true)) := ⟨fun h => by unfold zas; exact goJ⟩

instance (vp0 : zLk) (s1 : Str) (t19 : Bool) : T (zat vp0 s1 t19) (Gw vp0 ∧ ku vp0 + s1.length ≤ 3000 ∧ tc vp0 ≤ 30000000000000) (fun r => 0 ≤ r.1 ∧ r.1 ≤ s1.length ∧ Gw r.2 ∧ ku r.2 ≤ ku vp0 + r.1 ∧ kc r.2 ≤ kc vp0 ∧ tu r.2 = tu vp0 ∧ tc r.2 ≤ tc vp0 + 8200000 ∧ (r.1 = 0 → s1.length = 0 ∨ r.2.zLv = true)) := ⟨fun h => by unfold zat; exact goJ⟩

instance (x_a0 : zLk) (x_a1 : Str) : T (zbZ x_a0 x_a1) (Gw x_a0 ∧ ku x_a0 + x_a1.length ≤ 3000 ∧ tc x_a0 ≤ 30000000000000) (fun r => 0 ≤ r.1 ∧ r.1 ≤ x_a1.length ∧ Gw r.2 ∧ ku r.2 ≤ ku x_a0 + r.1 ∧ kc r.2 ≤ kc x_a0 ∧ tu r.2 = tu x_a0 ∧ tc r.2 ≤ tc x_a0 + 8200000 ∧ (r.1 = 0 → x_a1.length = 0 ∨ r.2.zLv = true)) := ⟨fun h => by unfold zbZ; exact goJ⟩

instance (s1 : Str) (n : Nat) (vp0 : zLk) (i6 : Int) : T (zy s1 n vp0 i6) (Gw vp0 ∧ 0 ≤ i6 ∧ i6 ≤ s1.length ∧ s1.length ≤ 3000 ∧ ku vp0 + (s1.length - i6) ≤ 3000 ∧ (s1.length - i6) + 2 * st vp0.zLv + 1 ≤ n ∧ tc vp0 + 10000000 * (s1.length - i6) + 10000000 * st vp0.zLv ≤ 30000000000000) (fun r => Gw r.2.2 ∧ i6 ≤ r.1 ∧ r.1 ≤ s1.length ∧ ku r.2.2 ≤ ku vp0 + (r.1 - i6) ∧ kc r.2.2 ≤ kc vp0 ∧ tc r.2.2 ≤ tc vp0 + 10000000 * (r.1 - i6) + 10000000 * st vp0.zLv ∧ tu r.2.2 = tu vp0) := by
 induction n generalizing vp0 i6 with
 | zero => exact ⟨fun h => goJ⟩
 | succ n ih => exact ⟨fun h => by unfold zy zP; exact goJ⟩

instance (x_g : zLk) (x_s : Str) : T (zr x_g x_s) (Gw x_g ∧ x_s.length ≤ 3000 ∧ ku x_g + x_s.length ≤ 3000 ∧ tc x_g = 0 ∧ tu x_g = 0) (fun r => Gw r.2.2 ∧ 0 ≤ r.1 ∧ r.1 ≤ x_s.length ∧ ku r.2.2 ≤ ku x_g + r.1 ∧ kc r.2.2 ≤ kc x_g ∧ tc r.2.2 ≤ 10000000 * r.1 + 10000000 ∧ tu r.2.2 ≤ 10000000 * r.1 + 10000000) := ⟨fun h => by unfold zr; exact goJ⟩

instance  : T (zkT) (True) (fun r => True) := ⟨fun h => by unfold zkT; exact go⟩

instance (x_b : zL1) : T (ziB x_b) (Bm x_b) (fun r => Bm r.2.2) := ⟨fun h => by unfold ziB zf3; exact goG⟩

instance (vp0 : zLk) (t3 : Bool) : T (zac vp0 t3) (Gw vp0 ∧ tc vp0 ≤ 40000000000000) (fun r => Gw r.2 ∧ kc r.2 ≤ kc vp0 ∧ ku r.2 ≤ ku vp0 ∧ tc r.2 ≤ tc vp0 + 1310000 ∧ tu r.2 = tu vp0) := ⟨fun h => by unfold zac; exact goJ⟩

instance (x_g : zLk) : T (zn x_g) (Gw x_g ∧ tc x_g ≤ 40000000000000) (fun r => Gw r.2 ∧ kc r.2 ≤ kc x_g ∧ ku r.2 ≤ ku x_g ∧ tc r.2 ≤ tc x_g + 1310000 ∧ tu r.2 = tu x_g) := ⟨fun h => by unfold zn; exact goJ⟩

instance (x_g : zLk) : T (zaQ x_g) (Gw x_g ∧ tc x_g ≤ 40000000000000) (fun r => Gw r.2 ∧ kc r.2 ≤ kc x_g ∧ ku r.2 ≤ ku x_g ∧ tc r.2 ≤ tc x_g + 1310000 ∧ tu r.2 = tu x_g) := ⟨fun h => by unfold zaQ; exact goJ⟩

end Go.Dm
end
section
set_option linter.unusedVariables false
set_option maxRecDepth 10000
set_option maxHeartbeats 4000000
namespace Go.Dm
noncomputable def U0 (F : zLx → Int → Int → Option (Int × Option zLx)) (w : zLx) (i3 : Int) : Option (Int × Option zLx) := (zp w.Gateway).bind fun r33 => if r33 then some (i3,some w) else (zY w.zLl.zLW w.zLl.zLL).bind fun r34 => (sTo r34 (min (w.zLl.zLW.length : Int) (r34.length : Int))).bind fun r35 => (zr w.Gateway r35).bind fun r36 => (zj w.zLl.zLL r36.1).bind fun r37 => (zm (⟨r36.2.2,w.zLn,(⟨w.zLl.zLW,r37,w.zLl.zL6,w.zLl.zMe,w.zLl.zL7,w.zLl.zMg,w.zLl.zMs⟩ : zLP),w.zLN⟩ : zLx)).bind fun r38 => if r38.zLl.zL6 then if (!r38.zLl.zMe) then (zY r38.zLl.zLW r38.zLl.zLL).bind fun r39 => if (r39 == []) then (zY r38.zLl.zLW r38.zLl.zLL).bind fun r40 => if (!(r40 == [])) then (zj i3 r36.1).bind fun r41 => F (⟨r38.Gateway,r38.zLn,(⟨r38.zLl.zLW,r38.zLl.zLL,r38.zLl.zL6,true,r38.zLl.zL7,r38.zLl.zMg,r38.zLl.zMs⟩ : zLP),r38.zLN⟩ : zLx) r41 0 else (zn r38.Gateway).bind fun r42 => (zm (⟨r42.2,r38.zLn,(⟨r38.zLl.zLW,r38.zLl.zLL,r38.zLl.zL6,true,r38.zLl.zL7,r38.zLl.zMg,r38.zLl.zMs⟩ : zLP),r38.zLN⟩ : zLx)).bind fun r43 => (zj i3 r36.1).bind fun r44 => F r43 r44 0 else (zj i3 r36.1).bind fun r45 => if (decide ((0 : Int) < r36.1)) then F r38 r45 0 else F r38 r45 1 else (zj i3 r36.1).bind fun r46 => if (decide ((0 : Int) < r36.1)) then F r38 r46 0 else F r38 r46 1 else (zj i3 r36.1).bind fun r47 => if (decide ((0 : Int) < r36.1)) then F r38 r47 0 else F r38 r47 1
noncomputable def U1 (F : zLx → Int → Int → Option (Int × Option zLx)) (w : zLx) (i3 i4 : Int) : Option (Int × Option zLx) := (zp w.Gateway).bind fun r67 => if r67 then some (i3,some w) else (zY w.zLl.zLW w.zLl.zLL).bind fun r68 => (sTo r68 (min (w.zLl.zLW.length : Int) (r68.length : Int))).bind fun r69 => (zr w.Gateway r69).bind fun r70 => (zj w.zLl.zLL r70.1).bind fun r71 => (zm (⟨r70.2.2,w.zLn,(⟨w.zLl.zLW,r71,w.zLl.zL6,w.zLl.zMe,w.zLl.zL7,w.zLl.zMg,w.zLl.zMs⟩ : zLP),w.zLN⟩ : zLx)).bind fun r72 => if r72.zLl.zL6 then if (!r72.zLl.zMe) then (zY r72.zLl.zLW r72.zLl.zLL).bind fun r73 => if (r73 == []) then (zY r72.zLl.zLW r72.zLl.zLL).bind fun r74 => if (!(r74 == [])) then (zj i3 r70.1).bind fun r75 => (zj i4 1).bind fun r76 => F (⟨r72.Gateway,r72.zLn,(⟨r72.zLl.zLW,r72.zLl.zLL,r72.zLl.zL6,true,r72.zLl.zL7,r72.zLl.zMg,r72.zLl.zMs⟩ : zLP),r72.zLN⟩ : zLx) r75 0 else (zn r72.Gateway).bind fun r77 => (zm (⟨r77.2,r72.zLn,(⟨r72.zLl.zLW,r72.zLl.zLL,r72.zLl.zL6,true,r72.zLl.zL7,r72.zLl.zMg,r72.zLl.zMs⟩ : zLP),r72.zLN⟩ : zLx)).bind fun r78 => (zj i3 r70.1).bind fun r79 => (zj i4 1).bind fun r80 => F r78 r79 0 else (zj i3 r70.1).bind fun r81 => (zj i4 1).bind fun r82 => if (decide ((0 : Int) < r70.1)) then F r72 r81 0 else F r72 r81 r82 else (zj i3 r70.1).bind fun r83 => (zj i4 1).bind fun r84 => if (decide ((0 : Int) < r70.1)) then F r72 r83 0 else F r72 r83 r84 else (zj i3 r70.1).bind fun r85 => (zj i4 1).bind fun r86 => if (decide ((0 : Int) < r70.1)) then F r72 r85 0 else F r72 r85 r86
noncomputable def CH (F : zLx → Int → Int → Option (Int × Option zLx)) (vp0 : zLx) (i3 i4 : Int) : Option (Int × Option zLx) := (zp vp0.Gateway).bind fun r2 => if r2 then some (i3,some vp0) else (zY vp0.zLn.zLW vp0.zLn.zLL).bind fun r3 => (sTo r3 (min (vp0.zLn.zLW.length : Int) (r3.length : Int))).bind fun r4 => (zbo vp0.Gateway r4).bind fun r5 => (zj vp0.zLn.zLL r5.1).bind fun r6 => (zm (⟨r5.2.2,(⟨vp0.zLn.zLW,r6,vp0.zLn.zL6,vp0.zLn.zMe,vp0.zLn.zL7,vp0.zLn.zMg,vp0.zLn.zMs⟩ : zLP),vp0.zLl,vp0.zLN⟩ : zLx)).bind fun r7 => if r7.zLn.zL6 then if (!r7.zLn.zMe) then (zY r7.zLn.zLW r7.zLn.zLL).bind fun r8 => if (r8 == []) then (zY r7.zLn.zLW r7.zLn.zLL).bind fun r9 => if (!(r9 == [])) then (zj i3 r5.1).bind fun r10 => (zj i4 1).bind fun r11 => U0 F (⟨r7.Gateway,(⟨r7.zLn.zLW,r7.zLn.zLL,r7.zLn.zL6,true,r7.zLn.zL7,r7.zLn.zMg,r7.zLn.zMs⟩ : zLP),r7.zLl,r7.zLN⟩ : zLx) r10 else (zaQ r7.Gateway).bind fun r28 => (zm (⟨r28.2,(⟨r7.zLn.zLW,r7.zLn.zLL,r7.zLn.zL6,true,r7.zLn.zL7,r7.zLn.zMg,r7.zLn.zMs⟩ : zLP),r7.zLl,r7.zLN⟩ : zLx)).bind fun r29 => (zj i3 r5.1).bind fun r30 => (zj i4 1).bind fun r31 => U0 F r29 r30 else (zj i3 r5.1).bind fun r48 => (zj i4 1).bind fun r49 => if (decide ((0 : Int) < r5.1)) then U0 F r7 r48 else U1 F r7 r48 r49 else (zj i3 r5.1).bind fun r87 => (zj i4 1).bind fun r88 => if (decide ((0 : Int) < r5.1)) then U0 F r7 r87 else U1 F r7 r87 r88 else (zj i3 r5.1).bind fun r126 => (zj i4 1).bind fun r127 => if (decide ((0 : Int) < r5.1)) then U0 F r7 r126 else U1 F r7 r126 r127
theorem L0_s (n : Nat) (w : zLx) (i3 i4 : Int) : zd (n + 1) w i3 i4 = if (decide (i4 < 2)) then CH (zd n) w i3 i4 else some (i3,some w) := rfl
def uc (w : zLx) : Int := w.zLn.zLW.length - w.zLn.zLL
def uu (w : zLx) : Int := w.zLl.zLW.length - w.zLl.zLL
def Mz (w : zLx) : Int := uc w + uu w + st w.zLn.zMe + st w.zLl.zMe
def Bz (w : zLx) : Int := 10000000 * (uc w + uu w) + 30000000 * Mz w
def Wr (w : zLx) : Prop := Gw w.Gateway ∧ tc w.Gateway = 0 ∧ tu w.Gateway = 0 ∧ w.zLn.zLW.length ≤ 3000 ∧ w.zLl.zLW.length ≤ 3000 ∧ 0 ≤ w.zLn.zLL ∧ w.zLn.zLL ≤ w.zLn.zLW.length ∧ 0 ≤ w.zLl.zLL ∧ w.zLl.zLL ≤ w.zLl.zLW.length ∧ kc w.Gateway + uc w ≤ 3000 ∧ ku w.Gateway + uu w ≤ 3000
def Sn (w : zLx) (k : Int) : Prop := w.zLn.zL7.length + Bz w ≤ k ∧ w.zLl.zL7.length + Bz w ≤ k
theorem goWi {G : Prop} (h : G := by
 (with_reducible repeat' first | intro _ | refine And.intro ?_ ?_ | refine Wf ?_ ?_ | refine Wi ?_ ?_ | refine Ws ?_ | refine Wc ?_ ?_ | refine Wo ?_ ?_ | refine Wk ?_ | refine We ?_ ?_)
 all_goals (try simp only [List.length_cons,List.length_nil])
 all_goals grind (gen := 8) (ematch := 8) [tc,tu,Wr,Sn,Bz,uc,uu,Mz,st,fuel]) : G := h
section
variable {F : zLx → Int → Int → Option (Int × Option zLx)} {n : Int}
instance iU0 [h : ∀ w i3 i4,K (F w i3 i4) (fun _ => True) (Wr w ∧ 0 ≤ i3 ∧ i3 + uc w + uu w ≤ 6000 ∧ 0 ≤ i4 ∧ i4 ≤ 3 ∧ (i4 < 2 → Mz w + 2 ≤ n ∧ Sn w 10000000000000) ∧ 1 ≤ n)] (w : zLx) (i3 : Int) : K (U0 F w i3) (fun _ => True) (Wr w ∧ 0 ≤ i3 ∧ i3 + uc w + uu w ≤ 6000 ∧ Mz w + 2 ≤ n ∧ 1 ≤ n ∧ Sn w 9999988000000) := ⟨fun h => by unfold U0; exact goWi⟩
instance iU1 [h : ∀ w i3 i4,K (F w i3 i4) (fun _ => True) (Wr w ∧ 0 ≤ i3 ∧ i3 + uc w + uu w ≤ 6000 ∧ 0 ≤ i4 ∧ i4 ≤ 3 ∧ (i4 < 2 → Mz w + 2 ≤ n ∧ Sn w 10000000000000) ∧ 1 ≤ n)] (w : zLx) (i3 i4 : Int) : K (U1 F w i3 i4) (fun _ => True) (Wr w ∧ 0 ≤ i3 ∧ i3 + uc w + uu w ≤ 6000 ∧ 1 ≤ i4 ∧ i4 ≤ 2 ∧ Mz w + 1 ≤ n ∧ 1 ≤ n ∧ Sn w 10000018000000) := ⟨fun h => by unfold U1; exact goWi⟩
instance iCH [h : ∀ w i3 i4,K (F w i3 i4) (fun _ => True) (Wr w ∧ 0 ≤ i3 ∧ i3 + uc w + uu w ≤ 6000 ∧ 0 ≤ i4 ∧ i4 ≤ 3 ∧ (i4 < 2 → Mz w + 2 ≤ n ∧ Sn w 10000000000000) ∧ 1 ≤ n)] (w : zLx) (i3 i4 : Int) : K (CH F w i3 i4) (fun _ => True) (Wr w ∧ 0 ≤ i3 ∧ i3 + uc w + uu w ≤ 6000 ∧ 0 ≤ i4 ∧ i4 < 2 ∧ Mz w + 1 ≤ n ∧ 1 ≤ n ∧ Sn w 10000000000000) := ⟨fun h => by unfold CH; exact goWi⟩
end
theorem Mz_0 {w : zLx} (h : Wr w) : 0 ≤ Mz w := by grind [Wr,Mz,uc,uu,st]
instance iL0 (n : Nat) (w : zLx) (i3 i4 : Int) : K (zd n w i3 i4) (fun _ => True) (Wr w ∧ 0 ≤ i3 ∧ i3 + uc w + uu w ≤ 6000 ∧ 0 ≤ i4 ∧ i4 ≤ 3 ∧ (i4 < 2 → Mz w + 2 ≤ (n : Int) ∧ Sn w 10000000000000) ∧ 1 ≤ (n : Int)) := by
 induction n generalizing w i3 i4 with
 | zero => exact ⟨fun h => by omega⟩
 | succ n ih =>
  refine ⟨fun ⟨h1,h2,h3,h4,h5,h6,h7⟩ => ?_⟩
  have := Mz_0 h1
  rw [L0_s]
  refine Wi (fun c => ?_) fun _ => Ws trivial
  have c2 : i4 < 2 := by simpa using c
  have h8 := h6 c2
  exact (iCH (F := zd n) (n := (n : Int)) (h := ih) w i3 i4).ok ⟨h1,h2,h3,h4,c2,by omega,by omega,h8.2⟩
def Wn : Option zLx × Int → Prop
 | (none,e) => e ≠ 0
 | (some w,e) => e = 0 ∧ Wr w ∧ Sn w 10000000000000 ∧ uc w + uu w ≤ 6000 ∧ Mz w ≤ 6002 ∧ w.zLn.zL7 = [] ∧ w.zLl.zL7 = [] ∧ w.zLn.zLL = 0 ∧ w.zLl.zLL = 0 ∧ w.zLN = ⟨0,0⟩ ∧ w.Gateway.zLv = false
instance iNew (s : zMn) : T (znV s) (En s.Env ∧ s.Rules.length ≤ 400 ∧ (∀ r ∈ s.Rules,Rm r) ∧ s.Client.length ≤ 3000 ∧ s.Upstream.length ≤ 3000) Wn := ⟨fun ⟨h1,h2,h3,h4,h5⟩ => by
 obtain ⟨⟨o,e⟩,he,hN⟩ := (inferInstance : T (zk2 s.Env s.Caps s.Rules) _ _).ok ⟨h1,h2,h3⟩
 unfold znV
 rw [he]
 cases o with
 | none =>
  have hN : e ≠ 0 := hN
  exact ⟨(none,e),by simp [Go.Rk.optK,hN],hN⟩
 | some g =>
  have hN : Gf g := hN
  by_cases c : e = 0
  ·refine ⟨(some ⟨g,⟨s.Client,0,s.ClientEnds,false,[],(),()⟩,⟨s.Upstream,0,s.UpstreamEnds,false,[],(),()⟩,⟨0,0⟩⟩,0),?_,?_⟩
   ·simp only [Go.Rk.optK,Option.bind,c]
    rw [if_neg (by simp),if_neg (by simp; omega),if_neg (by simp; omega)]
   ·obtain ⟨n1,n2,n3,n4,n5,n6⟩ := hN
    simp only [Wn,Wr,Sn,Bz,uc,uu,Mz,st,List.length_nil,n1,n2,n3,n4,n5,n6]
    refine ⟨trivial,⟨trivial,trivial,trivial,h4,h5,?_⟩,?_,?_,?_,trivial,trivial,trivial,trivial,trivial,trivial⟩ <;> simp <;> omega
  ·exact ⟨(none,e),by simp [Go.Rk.optK,c],c⟩⟩
theorem Fin_t {w : zLx} {e : Int} (h : Wn (some w,e)) : ∃ r,zf4 (some w) = some r := by
 obtain ⟨_,h1,h2,h3,h4,h5,h6,h7,h8,h9,h10⟩ := h
 obtain ⟨r,er,_⟩ := (iL0 fuel w 0 0).ok ⟨h1,by omega,by omega,by omega,by omega,fun _ => ⟨by unfold fuel; omega,h2⟩,by unfold fuel; omega⟩
 exact ⟨r,er⟩
theorem Res_t (w : Option zLx) : ∃ r,zbz w = some (r,w) := by
 cases w with
 | none => exact ⟨_,rfl⟩
 | some w => exact ⟨_,rfl⟩
theorem Res_f {w : zLx} {e : Int} (h : Wn (some w,e)) : zbz (some w) = some (⟨[],[],0,0,⟨0,0⟩,false⟩,some w) := by
 obtain ⟨_,h1,h2,h3,h4,h5,h6,h7,h8,h9,h10⟩ := h
 show some ((⟨w.zLn.zL7,w.zLl.zL7,w.zLn.zLL,w.zLl.zLL,w.zLN,w.Gateway.zLv⟩ : zMu),some w) = _
 rw [h5,h6,h7,h8,h9,h10]
theorem zD0 {o : Option zLx} {e : Int} (h : Wn (o,e)) : zeN o e o e = some true := by
 unfold zeN
 cases o with
 | none =>
  have h : e ≠ 0 := h
  simp [h]
 | some w =>
  have h0 : e = 0 := h.1
  obtain ⟨⟨n,o2⟩,e1⟩ := Fin_t h
  obtain ⟨r,e2⟩ := Res_t o2
  rw [if_neg (by simp [h0]),if_neg (by simp [h0]),e1]
  simp only [Option.bind,e2,Res_f h,e1]
  simp
theorem zD1 {s : zMn} {o : Option zLx} {e : Int} (he : znV s = some (o,e)) (h : Wn (o,e)) : zeO s o e = some true := by
 unfold zeO
 rw [he]
 cases o with
 | none => exact zD0 h
 | some w => exact zD0 h
theorem zGb (x : zMn) (y : zMH) : zjF x y = some true := by
 obtain ⟨s,es,h1,h2,h3,h4,h5,h6,h7,h8,h9,h10⟩ := (inferInstance : T (znT x) _ _).ok trivial
 obtain ⟨⟨o,e⟩,he,hN⟩ := (iNew s).ok ⟨⟨by omega,by omega,by omega,by omega,h5,h6⟩,by omega,h8,h9,h10⟩
 have e0 : zj 0 5 = some 5 := rfl
 unfold zjF
 rw [show zzO = some true from rfl]
 simp only [Option.bind,Bool.not_true,es]
 rw [if_neg (by simp),show zoC y = some (0,5) from rfl,show zmi = some (0,0) from rfl]
 simp only [show zj 0 0 = some 0 from rfl,show zkg = some 0 from rfl,show zkh = some (⟨[],[],0,0,(⟨0,0⟩ : zME),false⟩ : zMu) from rfl]
 rw [if_neg (by simp),if_neg (by simp),if_neg (by simp),he]
 cases o with
 | none => exact zD1 he hN
 | some w => exact zD1 he hN
end Go.Dm
end
section
namespace Go.Rk
open Go.RowKit Go.Dm Go.Dk
variable {τ : Nat → Type}

def zi5 : XV τ → Bool
 | .gv _ _ => true
 | _ => false
section
variable (X : Cx τ) (h : Fz) (ν : Vn τ) (a : Act)
def ziI (t : Nat) (x : XV τ) : Prop := ∃ v,XOk X.P X.G h ν x v ∧ (Nat.blt t gh = true → zi5 x = false → a.tmps[t]? = some v) ∧ (gb ≤ t → v = ptr (t - gb) 0) ∧ (gh ≤ t → t < 20000 → v = X.fx (t - gh))
def zdU (r : List Nat) (E : zF τ) : Prop := ∀ t ∈ r, ∀ x,asc E t = some x → ziI X h ν a t x
end
structure TyOk (X : Cx τ) : Prop where
 el : ∀ p ∈ X.ty, ∃ i z,X.P.info? p.1 = some i ∧ i.zero = some z ∧ i.size = (ets X.G p.2).length ∧ z.cells.size = i.size ∧ 0 < i.size
 eq : ∀ t n,asc X.ty t = some (.st n) → (X.G.fs n).all zgW = true → ∀ (p q : DP τ (X.G.fs n)) (h : Fz) (xs ys : List Value),RpL X.P X.G h (X.G.fs n) p xs → RpL X.P X.G h (X.G.fs n) q ys →
  X.P.eqGuardType X.P.depth t = false ∧ ∀ w,(Op.equalIn 10000 t (.agg ⟨xs⟩) (.agg ⟨ys⟩)).run X.P w = .ok (X.G.eq n (X.G.ctor n p) (X.G.ctor n q)) w
theorem zlM {α : Type} : ∀ {l : List (Nat × α)} {t : Nat} {v : α},asc l t = some v → (t,v) ∈ l
 | [],_,_,h => by cases h
 | (k,u) :: l,t,v,h => by
  simp only [zc3,zbC] at h
  by_cases e : Nat.beq k t = true
  ·simp only [e,cond_true,Option.some.injEq] at h
   have : k = t := by simpa using e
   subst this; subst h
   exact List.mem_cons_self ..
  ·simp only [e] at h
   exact List.mem_cons_of_mem _ (zlM h)
theorem zfJ {α : Type} : ∀ (l : List α) (n : Nat),nthL l n = l[n]?
 | [],_ => by simp [nthL]
 | _ :: _,0 => by simp [nthL]
 | _ :: l,n + 1 => by simp [nthL,zfJ l n]
theorem zdt (a : Act) (hd : a.defers = []) : ∃ E,Fits a.tmps.size E a ∧ ∀ t,Dk.look E t = a.tmps[t]? := by
 have key : ∀ (l : List Value) (k t : Nat),Dk.look (params k l) t = if k ≤ t then l[t - k]? else none := by
  intro l
  induction l with
  | nil => intro k t; simp [params,Dk.look]
  | cons v l ih =>
   intro k t
   simp only [params,Dk.look]
   by_cases e : k = t
   ·subst e; simp
   ·rw [zbA.2 e,cond_false,ih]
    by_cases h : k ≤ t
    ·rw [if_pos (by omega),if_pos h,show t - k = (t - (k + 1)) + 1 by omega,List.getElem?_cons_succ]
    ·rw [if_neg (by omega),if_neg h]
 have hl : ∀ t,Dk.look (params 0 a.tmps.toList) t = a.tmps[t]? := by intro t; rw [key]; simp
 exact ⟨_,⟨hd,rfl,fun t v h => by rw [← hl]; exact h⟩,hl⟩

section
variable {X : Cx τ} {h : Fz} {ν : Vn τ} {a : Act} {E : zF τ} {w : World}
theorem zdU.op {o : Op} (hE : zdU X h ν a (rdO o) E) {x : Operand} (hx : x ∈ o.operands.toList) : zdU X h ν a (zuQ x) E :=
 fun t ht => hE t (List.mem_flatMap.2 ⟨x,hx,ht⟩)
theorem zFk {v : Value} {c : CV τ} (e : cvV v = some c) : zcC X.P X.G h ν c v := by
 unfold cvV at e
 split at e
 ·cases e; rfl
 ·cases e; rfl
 ·rename_i n
  by_cases hn : Nat.blt n 256 = true
  ·rw [hn] at e; cases e
   have : n < 256 := by simpa using hn
   show _ = Value.int .u8 _
   simp [UInt8.toNat_ofNat',Nat.mod_eq_of_lt this]
  ·simp only [Bool.not_eq_true] at hn; rw [hn] at e; cases e
 ·rename_i n
  by_cases hn : Nat.blt n 65536 = true
  ·rw [hn] at e; cases e
   have : n < 65536 := by simpa using hn
   show _ = Value.int .u16 _
   simp [UInt16.toNat_ofNat',Nat.mod_eq_of_lt this]
  ·simp only [Bool.not_eq_true] at hn; rw [hn] at e; cases e
 ·cases e; rfl
 ·cases e; rfl
 ·cases e; rfl
 ·cases e; rfl
 ·cases e; rfl
 ·cases e
theorem zwF : ∀ {vs : List Value} {cs : List (CV τ)},cvVs vs = some cs → CVs X.P X.G h ν cs vs
 | [],cs,e => by cases e; rfl
 | v :: vs,cs,e => by
  unfold cvVs at e
  split at e
  ·rename_i c hc
   split at e
   ·rename_i cs' hcs
    cases e
    exact ⟨v,vs,rfl,zFk hc,zwF hcs⟩
   ·cases e
  ·cases e
theorem zmc {Ea : Env} (hl : ∀ t,Dk.look Ea t = a.tmps[t]?) {x : Operand} {xv : XV τ} (hE : zdU X h ν a (zuQ x) E) (e : evX E x = some xv) (hg : zi5 xv = false) : ∃ v,evl Ea x = some v ∧ XOk X.P X.G h ν xv v := by
 unfold evX at e
 split at e
 ·rename_i t
  by_cases ht : Nat.blt t gh = true
  ·rw [ht] at e
   obtain ⟨v,h1,h2,_⟩ := hE t (by simp [zuQ,ht]) xv e
   exact ⟨v,(hl t).trans (h2 ht hg),h1⟩
  ·simp only [Bool.not_eq_true] at ht; rw [ht] at e; cases e
 ·rename_i v
  split at e
  ·rename_i c hc
   cases e
   exact ⟨v,rfl,zFk hc⟩
  ·cases e
 ·cases e
  exact ⟨_,rfl,rfl⟩
 ·rename_i g
  obtain ⟨v,h1,_,h2,_⟩ := hE (gb + g) (List.mem_singleton.2 rfl) xv e
  rw [h2 (Nat.le_add_right ..),Nat.add_sub_cancel_left] at h1
  exact ⟨_,rfl,h1⟩
theorem zpw (hd : a.defers = []) {x : Operand} {xv : XV τ} (hE : zdU X h ν a (zuQ x) E) (e : evX E x = some xv) : XOk X.P X.G h ν xv (a.eval x) := by
 cases hg : zi5 xv with
 | true =>
  cases xv with
  | gv t y => trivial
  | _ => cases hg
 | false =>
  obtain ⟨Ea,hf,hl⟩ := zdt a hd
  obtain ⟨v,h1,h2⟩ := zmc hl hE e hg
  rw [hf.ev h1]
  exact h2
theorem zo {Ea : Env} (hl : ∀ t,Dk.look Ea t = a.tmps[t]?) {x : Operand} {c : CV τ} (hE : zdU X h ν a (zuQ x) E) (e : evC E x = some c) : ∃ v,evl Ea x = some v ∧ zcC X.P X.G h ν c v := by
 unfold evC at e
 split at e
 ·rename_i c' hc
  cases e
  exact zmc hl hE hc rfl
 ·cases e
theorem CVs.len : ∀ {cs : List (CV τ)} {vs : List Value},CVs X.P X.G h ν cs vs → vs.length = cs.length
 | [],vs,e => by cases e; rfl
 | _ :: _,_,⟨v,us,rfl,_,h2⟩ => by simp [CVs.len h2]
theorem CVs.get : ∀ {cs : List (CV τ)} {vs : List Value} {i : Nat} {c : CV τ},CVs X.P X.G h ν cs vs → cs[i]? = some c → ∃ v,vs[i]? = some v ∧ zcC X.P X.G h ν c v
 | [],_,_,_,_,hc => by simp at hc
 | _ :: _,_,0,_,⟨v,us,rfl,h1,_⟩,hc => by simp at hc; subst hc; exact ⟨v,by simp,h1⟩
 | _ :: _,_,i + 1,_,⟨v,us,rfl,_,h2⟩,hc => by
  simp at hc
  obtain ⟨u,h3,h4⟩ := CVs.get h2 hc
  exact ⟨u,by simpa using h3,h4⟩
theorem TVs.get : ∀ {cs : List (Bool × List (CV τ))} {vs : List Value} {i : Nat} {b : Bool} {l : List (CV τ)},TVs X.P X.G h ν cs vs → cs[i]? = some (b,l) →
  ∃ v,vs[i]? = some v ∧ ((b = true ∧ ∃ ws,v = .agg ⟨ws⟩ ∧ CVs X.P X.G h ν l ws) ∨ (b = false ∧ ∃ c,l = [c] ∧ zcC X.P X.G h ν c v))
 | [],_,_,_,_,_,hc => by simp at hc
 | (false,[c]) :: _,_,0,_,_,⟨v,us,rfl,h1,_⟩,hc => by simp at hc; obtain ⟨rfl,rfl⟩ := hc; exact ⟨v,by simp, .inr ⟨rfl,c,rfl,h1⟩⟩
 | (true,l) :: _,_,0,_,_,⟨ws,us,rfl,h1,_⟩,hc => by simp at hc; obtain ⟨rfl,rfl⟩ := hc; exact ⟨.agg ⟨ws⟩,by simp, .inl ⟨rfl,ws,rfl,h1⟩⟩
 | (false,[_]) :: _,_,i + 1,_,_,⟨v,us,rfl,_,h2⟩,hc => by
  simp at hc
  obtain ⟨u,h3,h4⟩ := TVs.get h2 hc
  exact ⟨u,by simpa using h3,h4⟩
 | (true,_) :: _,_,i + 1,_,_,⟨ws,us,rfl,_,h2⟩,hc => by
  simp at hc
  obtain ⟨u,h3,h4⟩ := TVs.get h2 hc
  exact ⟨u,by simpa using h3,h4⟩
 | (false,[]) :: _,_,_,_,_,e,_ => e.elim
 | (false,_ :: _ :: _) :: _,_,_,_,_,e,_ => e.elim
theorem CVs.cut : ∀ {n o : Nat} {cs l : List (CV τ)} {vs : List Value},CVs X.P X.G h ν cs vs → zsS cs o n = some l → CVs X.P X.G h ν l ((vs.drop o).take n) ∧ o + n ≤ vs.length + (if n = 0 then o else 0)
 | 0,o,cs,l,vs,hv,e => by cases e; exact ⟨by simp [CVs],by simp⟩
 | n + 1,o,cs,l,vs,hv,e => by
  unfold zsS at e
  split at e
  ·rename_i c hc
   split at e
   ·rename_i r hr
    cases e
    rw [zfJ] at hc
    obtain ⟨v,h1,h2⟩ := hv.get hc
    obtain ⟨h3,h4⟩ := CVs.cut hv hr
    have hlt : o < vs.length := (List.getElem?_eq_some_iff.1 h1).1
    refine ⟨⟨v,_,?_,h2,h3⟩,?_⟩
    ·rw [List.drop_eq_getElem_cons hlt,List.take_succ_cons,(List.getElem?_eq_some_iff.1 h1).2]
    ·split at h4
     ·omega
     ·rw [if_neg (by omega)]; omega
   ·cases e
  ·cases e
theorem zfn {P : Program} {t : TypeId} {n : Nat} (e : szO P t = some n) : zj1 P t = some n := by
 unfold szO at e
 unfold zj1
 split at e
 ·rename_i i hi; rw [hi]; exact e
 ·cases e
theorem zDD {P : Program} {t i f ft : Nat} (e : zAZ P t i = some (f,ft)) : ∃ fs fd,P.underlying t = some (.struct fs) ∧ fs[i]? = some fd ∧ fd.offset = f ∧ fd.type = ft ∧ ∃ n,zj1 P ft = some (n + 1) := by
 unfold zAZ at e
 split at e
 ·rename_i fs hu
  split at e
  ·rename_i fd hn
   split at e
   ·rename_i n hs
    cases e
    rw [zfJ] at hn
    exact ⟨⟨fs⟩,fd,hu,by simpa using hn,rfl,rfl,n,zfn hs⟩
   ·cases e
  ·cases e
 ·cases e
theorem zwG : ∀ {o : Nat} {cs ws cs' : List (CV τ)} {us vs : List Value},CVs X.P X.G h ν cs us → CVs X.P X.G h ν ws vs → zty cs o ws = some cs' →
  o + vs.length ≤ us.length ∧ CVs X.P X.G h ν cs' (us.take o ++ vs ++ us.drop (o + vs.length))
 | 0,cs,ws,cs',us,vs,hc,hw,e => by
  unfold zty at e
  have := go hc hw e
  simpa using this
 | o + 1,c :: cs,ws,cs',_,vs,⟨u,us,rfl,h1,h2⟩,hw,e => by
  unfold zty at e
  split at e
  ·rename_i r hr
   cases e
   obtain ⟨h3,h4⟩ := zwG h2 hw hr
   refine ⟨by simp; omega,u,_,?_,h1,h4⟩
   rw [show o + 1 + vs.length = (o + vs.length) + 1 by omega]
   simp
  ·cases e
 | o + 1,[],ws,cs',us,vs,hc,hw,e => by simp [zty] at e
where
 go : ∀ {cs ws cs' : List (CV τ)} {us vs : List Value},CVs X.P X.G h ν cs us → CVs X.P X.G h ν ws vs → zty.go cs ws = some cs' → vs.length ≤ us.length ∧ CVs X.P X.G h ν cs' (vs ++ us.drop vs.length)
 | cs,[],cs',us,vs,hc,hw,e => by
  obtain rfl : vs = [] := hw
  simp [zty.go] at e
  subst e
  exact ⟨by simp,by simpa using hc⟩
 | c :: cs,w :: ws,cs',_,_,⟨u,us,rfl,h1,h2⟩,⟨v,vs,rfl,h3,h4⟩,e => by
  simp only [zty.go] at e
  split at e
  ·rename_i r hr
   cases e
   obtain ⟨h5,h6⟩ := go h2 h4 hr
   exact ⟨by simp; omega,v,_,by simp,h3,h6⟩
  ·cases e
 | [],w :: ws,cs',us,vs,hc,hw,e => by simp [zty.go] at e
theorem zuM {P : Program} {t : TypeId} {b : Bool} (e : isA P t = some b) : zzt P t = some b := by
 unfold isA at e
 unfold zzt
 split at e <;> first | (cases e; done) | (rename_i hu; rw [hu]; simpa using e)
end
end Go.Rk
end
section
namespace Go.Rk
open Go.RowKit Go.Dm Go.Dk
variable {τ : Nat → Type}
section
variable {X : Cx τ} {h : Fz} {ν : Vn τ} {a : Act} {E : zF τ} {Ea : Env} {N : Nat} {w : World} {x y : Operand} {dst : Option Nat} {t t' ty : Nat} {p : String} {af : Array Edge} {gd : Option (Nat × Bool)}
theorem lok0 : ∀ {d : Nat} {t : Ty} {c : CV τ} {x : t.den τ} {v : Value} {m : List Nat},zgW t = true → lok X.G [] d t c = some (x,m) → zcC X.P X.G h ν c v → Rp X.P X.G h t x v := by
 intro d t c x v m hs e hv
 cases d with
 | zero => cases e
 | succ d =>
  unfold lok at e
  cases t <;> first | (cases hs; done) | (dsimp only at e; split at e <;> first | (cases e; done) | (cases e; cases hv; constructor))
theorem zEZ {d : Nat} : ∀ {ts : List Ty} {cs : List (CV τ)} {q : DP τ ts} {vs : List Value} {m : List Nat},ts.all zgW = true → zuO (lok X.G [] d) ts cs = some (q,m) → CVs X.P X.G h ν cs vs → RpL X.P X.G h ts q vs
 | [],[],q,vs,_,_,e,hv => by cases e; cases hv; exact .nil
 | t :: ts,c :: cs,q,_,_,hs,e,⟨v,us,rfl,h1,h2⟩ => by
  simp only [List.all_cons,Bool.and_eq_true] at hs
  unfold zuO at e
  split at e
  ·rename_i x m hx
   split at e
   ·rename_i q' m' hq
    cases e
    refine .cons t ts _ v us ?_ ?_
    ·rw [DP.hd_mk]; exact lok0 hs.1 hx h1
    ·rw [DP.tl_mk]; exact zEZ hs.2 hq h2
   ·cases e
  ·cases e
 | [],_ :: _,_,_,_,_,e,_ => by cases e
 | _ :: _,[],_,_,_,_,e,_ => by cases e
theorem zwP {o : Option Bool} {v : XV τ} (e : obX o = some v) : ∃ b,o = some b ∧ v = .c (.b b) := by
 cases o with
 | none => cases e
 | some b => cases e; exact ⟨b,rfl,rfl⟩
theorem zzr {o : Option Bool} {v : XV τ} (e : okX o = some v) : ∃ b,o = some b ∧ v = .c (.k b) := by
 cases o with
 | none => cases e
 | some b => cases e; exact ⟨b,rfl,rfl⟩
theorem zE0 {c : CV τ} {v : Value} (e : adC c = true) (hc : zcC X.P X.G h ν c v) : ∃ ad,v = .pointer (some ad) := by
 cases c with
 | ea t z o => obtain ⟨b,k,vs,rfl,_⟩ := hc; exact ⟨_,rfl⟩
 | oe i k m t z o => obtain ⟨b,d,n,c,q,xs,u,_,_,_,rfl⟩ := hc; exact ⟨_,rfl⟩
 | _ => cases e
theorem zAQ {c : CV τ} {b : Bool} {v : Value} (e : zFo c = some b) (hc : zcC X.P X.G h ν c v) : v = .bool b := by
 cases c with
 | b x => cases e; exact hc
 | k x => cases e; exact hc
 | _ => cases e
theorem zHf (hT : TyOk X) (hf : Fits N Ea a) {o : BinOp} {A B v : XV τ} {vx vy : Value} (hx : evl Ea x = some vx) (hy : evl Ea y = some vy) (ca : XOk X.P X.G h ν A vx) (cb : XOk X.P X.G h ν B vy)
  (e : binX X o t' A B = some v) : ∃ u,(∀ w,(execOp a.eval ⟨dst, .binOp o t' x y ty,t,p,af,gd⟩).run X.P w = .ok (.value u) w) ∧ XOk X.P X.G h ν v u := by
 unfold binX at e
 split at e
 ·obtain rfl : vx = _ := ca
  obtain rfl : vy = _ := cb
  obtain ⟨b,h1,rfl⟩ := zwP e
  cases o <;> first | (cases h1; done) | skip
  all_goals cases h1
  ·exact ⟨_,fun w => zGo hf hx hy,rfl⟩
  ·exact ⟨_,fun w => zCP hf hx hy,rfl⟩
  ·exact ⟨_,fun w => zGp hf hx hy,rfl⟩
  ·exact ⟨_,fun w => zGq hf hx hy,rfl⟩
  ·exact ⟨_,fun w => zGr hf hx hy,rfl⟩
  ·exact ⟨_,fun w => zGs hf hx hy,rfl⟩
 ·obtain rfl : vx = _ := ca
  obtain rfl : vy = _ := cb
  split at e
  ·cases e; exact ⟨_,fun w => zGz hf hx hy,rfl⟩
  ·cases e; exact ⟨_,fun w => zGA hf hx hy,rfl⟩
  ·obtain ⟨b,h1,rfl⟩ := zwP e
   cases o <;> first | (cases h1; done) | skip
   all_goals cases h1
   ·exact ⟨_,fun w => zGt hf hx hy,rfl⟩
   ·exact ⟨_,fun w => zGu hf hx hy,rfl⟩
   ·exact ⟨_,fun w => zGv hf hx hy,rfl⟩
   ·exact ⟨_,fun w => zGw hf hx hy,rfl⟩
   ·exact ⟨_,fun w => zGx hf hx hy,rfl⟩
   ·exact ⟨_,fun w => zGy hf hx hy,rfl⟩
 ·obtain rfl : vx = _ := ca
  obtain rfl : vy = _ := cb
  split at e
  ·cases e; exact ⟨_,fun w => zGP hf hx hy,rfl⟩
  ·cases e
   rename_i m n _
   refine ⟨_,fun w => zCP hf hx hy,?_⟩
   show Value.bool _ = .bool _
   have : ((m.toNat : Int) == (n.toNat : Int)) = (m == n) := by
    rw [Bool.eq_iff_iff]
    simp only [beq_iff_eq]
    exact ⟨fun e => UInt16.toNat_inj.1 (by omega),fun e => by rw [e]⟩
   rw [this]
  ·cases e
 ·obtain rfl : vx = _ := ca
  obtain rfl : vy = _ := cb
  obtain ⟨b,h1,rfl⟩ := zwP e
  cases o <;> first | (cases h1; done) | skip
  all_goals cases h1
  ·exact ⟨_,fun w => zBz hf hx hy,rfl⟩
  ·exact ⟨_,fun w => zBA hf hx hy,rfl⟩
  ·exact ⟨_,fun w => zGF hf hx hy,rfl⟩
  ·exact ⟨_,fun w => zGG hf hx hy,rfl⟩
  ·exact ⟨_,fun w => zGH hf hx hy,rfl⟩
  ·exact ⟨_,fun w => zGI hf hx hy,rfl⟩
 ·obtain rfl : vx = _ := ca
  obtain rfl : vy = _ := cb
  split at e
  ·rename_i hu
   obtain ⟨b,h1,rfl⟩ := zzr e
   cases o <;> first | (cases h1; done) | skip
   all_goals cases h1
   ·exact ⟨_,fun w => zzo hu hf hx hy,rfl⟩
   ·exact ⟨_,fun w => zzp hu hf hx hy,rfl⟩
  ·cases e
 ·obtain rfl : vy = _ := cb
  split at e
  ·rename_i hu
   cases ha : adC (τ := τ) ‹_› with
   | false => rw [ha] at e; cases e
   | true =>
    rw [ha] at e
    obtain ⟨ad,rfl⟩ := zE0 ha ca
    obtain ⟨b,h1,rfl⟩ := zzr e
    cases o <;> first | (cases h1; done) | skip
    all_goals cases h1
    ·exact ⟨_,fun w => zzm hu hf hx hy,rfl⟩
    ·exact ⟨_,fun w => zzn hu hf hx hy,rfl⟩
  ·cases e
 ·split at e
  ·rename_i hb
   split at e
   ·rename_i hb'
    split at e
    ·rename_i hu
     obtain rfl := zAQ hb ca
     obtain rfl := zAQ hb' cb
     obtain ⟨b,h1,rfl⟩ := zwP e
     cases o <;> first | (cases h1; done) | skip
     all_goals cases h1
     ·exact ⟨_,fun w => zGB hu hf hx hy,rfl⟩
     ·exact ⟨_,fun w => zGC hu hf hx hy,rfl⟩
    ·cases e
   ·cases e
  ·cases e
 ·split at e
  ·rename_i n hn
   cases hs : (X.G.fs n).all zgW with
   | false => rw [hs] at e; cases e
   | true =>
    rw [hs] at e
    dsimp only [cond_true] at e
    split at e
    ·rename_i q hq
     split at e
     ·rename_i q' hq'
      obtain ⟨xs,rfl,ha⟩ := ca
      obtain ⟨ys,rfl,hb⟩ := cb
      obtain ⟨h1,h2⟩ := hT.eq t' n hn hs q q' h xs ys (zEZ hs hq ha) (zEZ hs hq' hb)
      obtain ⟨b,h3,rfl⟩ := zwP e
      cases o <;> first | (cases h3; done) | skip
      all_goals cases h3
      ·exact ⟨_,fun w => zGD h1 h2 hf hx hy,rfl⟩
      ·exact ⟨_,fun w => zGE h1 h2 hf hx hy,rfl⟩
     ·cases e
    ·cases e
  ·cases e
 ·cases e
theorem zHg {o : BinOp} {A B v : XV τ} (e : binX X o t A B = some v) : zi5 A = false ∧ zi5 B = false := by
 unfold binX at e
 split at e <;> first | exact ⟨rfl,rfl⟩ | cases e
theorem zE1 (hf : Fits N Ea a) {c : CV τ} {v : XV τ} {vx : Value} (hx : evl Ea x = some vx) (ca : zcC X.P X.G h ν c vx) {s : Nat} (hw : h.on w)
  (e : zFr X.P s t' c = some v) : ∃ u,(execOp a.eval ⟨dst, .convert s t' x,t,p,af,gd⟩).run X.P w = .ok (.value u) w ∧ XOk X.P X.G h ν v u := by
 unfold zFr at e
 split at e
 ·obtain rfl : vx = _ := ca
  split at e
  ·rename_i hd
   split at e
   ·rename_i hs
    cases e
    exact ⟨_,zu4 hd hs (zGN _) hf hx,rfl⟩
   ·cases e
  ·cases e
 ·obtain rfl : vx = _ := ca
  split at e
  ·rename_i hd
   split at e
   ·rename_i hs
    cases e
    exact ⟨_,zu4 hd hs (zIc _) hf hx,rfl⟩
   ·cases e
  ·cases e
 ·obtain rfl : vx = _ := ca
  split at e
  ·rename_i hd
   split at e
   ·rename_i hs
    cases e
    exact ⟨_,zEK hd hs hf hx,rfl⟩
   ·cases e
  ·cases e
 ·obtain rfl : vx = _ := ca
  split at e
  ·rename_i hd
   split at e
   ·rename_i hs
    cases e
    exact ⟨_,zEL hd hs hf hx,rfl⟩
   ·cases e
  ·cases e
 ·split at e
  ·rename_i hd
   split at e
   ·rename_i e' hs
    split at e
    ·rename_i he
     cases e
     obtain ⟨ad,k,vs,hvx,hsees,hc⟩ := slU8 ca
     subst hvx
     exact ⟨_,zyg (en := fun b => [zcO b]) (fun _ => rfl) hd hs he (hsees.sees hw) hf hx,rfl⟩
    ·cases e
   ·cases e
  ·cases e
 ·cases e
where
 slU8 {l : List UInt8} {v : Value} (hv : Rp X.P X.G h (.sl .u8) l v) : ∃ ad k vs,v = .slice ad l.length k ∧ zos h ad (cells (fun b => [zcO b]) l) ∧ vs = () := by
  cases hv with
  | sl e xs ad c vs hc hs hr =>
   refine ⟨ad,c,(),rfl,?_,rfl⟩
   suffices vs = cells (fun b => [zcO b]) l by rw [← this]; exact hs
   clear hs hc
   induction l generalizing vs with
   | nil => cases hr; rfl
   | cons b l ih =>
    cases hr with
    | cons _ _ _ us ws h1 h2 =>
     have h3 := ih _ h2
     cases h1 with
     | cons _ _ _ v vs h4 h5 =>
      cases h5
      cases h4
      subst h3
      rfl
theorem zcC.one {c : CV τ} {v : Value} (hv : zcC X.P X.G h ν c v) : v.oneCell' = true ∧ v.cells = #[v] := by
 cases c with
 | sl e xs => cases hv; exact ⟨rfl,rfl⟩
 | os i => obtain ⟨ad,n,c,q,_,rfl⟩ := hv; exact ⟨rfl,rfl⟩
 | pt i o => obtain ⟨u,q,_,rfl,_⟩ := hv; cases u <;> exact ⟨rfl,rfl⟩
 | ea t z o => obtain ⟨b,k,vs,rfl,_⟩ := hv; exact ⟨rfl,rfl⟩
 | oe i k m t z o => obtain ⟨b,d,n,c,q,xs,u',_,_,_,rfl⟩ := hv; exact ⟨rfl,rfl⟩
 | mf f => cases hv; exact ⟨rfl,rfl⟩
 | mv f i => obtain ⟨u,q,_,rfl⟩ := hv; exact ⟨rfl,rfl⟩
 | mp i => obtain ⟨b,q,_,rfl⟩ := hv; exact ⟨rfl,rfl⟩
 | fm m => cases hv; exact ⟨rfl,rfl⟩
 | cf i => obtain ⟨f,us,vs,q,_,rfl⟩ := hv; exact ⟨rfl,rfl⟩
 | ep n x =>
  cases hv with
  | pn0 => exact ⟨rfl,rfl⟩
  | pn1 _ x v hr => cases hr; exact ⟨rfl,rfl⟩
 | bad => exact hv.elim
 | _ => cases hv; exact ⟨rfl,rfl⟩
theorem CVs.one : ∀ {cs : List (CV τ)} {vs : List Value},CVs X.P X.G h ν cs vs → ∀ v ∈ vs,v.oneCell' = true
 | [],vs,e,v,hv => by cases e; cases hv
 | c :: cs,_,⟨u,us,rfl,h1,h2⟩,v,hv => by
  rcases List.mem_cons.1 hv with rfl | hv
  ·exact h1.one.1
  ·exact CVs.one h2 v hv
theorem zrs {v : XV τ} {cs : List (CV τ)} {u : Value} (e : zqx v = some cs) (hv : XOk X.P X.G h ν v u) : ∃ us,u.cells = ⟨us⟩ ∧ CVs X.P X.G h ν cs us ∧ zi5 v = false := by
 unfold zqx at e
 split at e
 ·rename_i c
  cases e
  have hv : zcC X.P X.G h ν c u := hv
  exact ⟨[u],hv.one.2,⟨u,[],rfl,hv,rfl⟩,rfl⟩
 ·rename_i l
  cases e
  obtain ⟨vs,rfl,hc⟩ := hv
  exact ⟨vs,rfl,hc,rfl⟩
 ·cases e
theorem zql : ∀ (vs us : List Value) (o k : Nat),o + k + vs.length ≤ us.length → ((vs.zipIdx k).foldl (fun cs (q : Value × Nat) => cs.setIfInBounds (o + q.2) q.1) us.toArray) = (us.take (o + k) ++ vs ++ us.drop (o + k + vs.length)).toArray
 | [],us,o,k,_ => by simp
 | v :: vs,us,o,k,hl => by
  simp only [List.zipIdx_cons,List.foldl_cons,List.length_cons] at hl ⊢
  have h1 : us.toArray.setIfInBounds (o + k) v = (us.set (o + k) v).toArray := by simp
  rw [h1,zql vs (us.set (o + k) v) o (k + 1) (by simp; omega)]
  have hA : (us.take (o + k)).length = o + k := by rw [List.length_take]; omega
  have h2 : us.set (o + k) v = (us.take (o + k) ++ [v]) ++ us.drop (o + k + 1) := by rw [List.set_eq_take_append_cons_drop,if_pos (by omega)]; simp
  have h3 : (us.take (o + k) ++ [v]).length = o + (k + 1) := by simp [hA]; omega
  rw [h2,List.take_append_of_le_length (by omega),List.take_of_length_le (by omega),List.drop_append,List.drop_eq_nil_of_le (by omega),h3,List.drop_drop]
  simp only [List.append_assoc,List.nil_append,List.cons_append]
  rw [show o + k + 1 + (o + (k + 1) + vs.length - (o + (k + 1))) = o + k + (vs.length + 1) by omega]
theorem zy3 {pl : Nat → Option (Nat × Nat)} (hd : a.defers = []) : ∀ {ps : List (Nat × Operand)} {cs cs' : List (CV τ)} {us : List Value},zw7 pl E ps cs = some cs' → (∀ q ∈ ps,zdU X h ν a (zuQ q.2) E) → CVs X.P X.G h ν cs us →
  ∃ us',Instr.fill pl us.toArray (ps.map fun q => (q.1,a.eval q.2)) = some us'.toArray ∧ CVs X.P X.G h ν cs' us'
 | [],cs,cs',us,e,_,hc => by cases e; exact ⟨us,rfl,hc⟩
 | (i,x) :: ps,cs,cs',us,e,hE,hc => by
  unfold zw7 at e
  split at e
  ·rename_i o s hpl
   split at e
   ·rename_i v hv
    split at e
    ·rename_i vs hvs
     cases hb : Nat.beq vs.length s with
     | false => rw [hb] at e; cases e
     | true =>
      rw [hb] at e
      dsimp only [cond_true] at e
      split at e
      ·rename_i cs2 hp
       obtain ⟨ws,h1,h2,_⟩ := zrs hvs (zpw hd (hE _ (List.mem_cons_self ..)) hv)
       obtain ⟨h3,h4⟩ := zwG hc h2 hp
       obtain ⟨us',h5,h6⟩ := zy3 hd e (fun q hq => hE q (List.mem_cons_of_mem _ hq)) h4
       refine ⟨us',?_,h6⟩
       have hs : vs.length = s := by simpa using hb
       have hl := h2.len
       have h7 := zql ws us o 0 (by omega)
       simp only [Nat.add_zero] at h7
       simp only [List.map_cons,Instr.fill,hpl,h1]
       rw [if_neg (by simp; omega)]
       have h8 : (Array.zipIdx ⟨ws⟩).foldl (fun cs (q : Value × Nat) => cs.setIfInBounds (o + q.2) q.1) us.toArray = (ws.zipIdx).foldl (fun cs (q : Value × Nat) => cs.setIfInBounds (o + q.2) q.1) us.toArray := by
        rw [← Array.foldl_toList]; simp
       refine Eq.trans (congrArg (fun z => Instr.fill pl z _) (h8.trans h7)) h5
      ·cases e
    ·cases e
   ·cases e
  ·cases e
theorem zwQ {P : Program} : ∀ {fs : List Field} {l : List (Nat × Nat)},zwI P fs = some l → fs.mapM (fun f => (P.info? f.type).map fun i => (f.offset,i.size)) = some l
 | [],l,e => by cases e; rfl
 | f :: fs,l,e => by
  unfold zwI at e
  split at e
  ·rename_i s hs
   split at e
   ·rename_i r hr
    cases e
    have h1 := zfn hs
    unfold zj1 at h1
    cases hi : P.info? f.type with
    | none => rw [hi] at h1; cases h1
    | some i =>
     rw [hi] at h1
     cases h1
     simp [List.mapM_cons,hi,zwQ hr]
   ·cases e
  ·cases e
theorem zwR {P : Program} {t : TypeId} {cs : List (CV τ)} (e : zw6 P t = some cs) : ∃ it z,P.info? t = some it ∧ it.zero = some z ∧ cvVs z.cells.toList = some cs := by
 unfold zw6 at e
 split at e
 ·rename_i it hi
  split at e
  ·rename_i z hz
   exact ⟨it,z,hi,hz,e⟩
  ·cases e
 ·cases e
theorem zE2 (hd : a.defers = []) {z cs : List (CV τ)} {pl : Nat → Option (Nat × Nat)} {ps : List (Nat × Operand)} (hz : zw6 X.P t' = some z) (hp : zCs X.P t' = some pl) (e : zw7 pl E ps z = some cs)
  (hE : ∀ q ∈ ps,zdU X h ν a (zuQ q.2) E) : ∃ u,(∀ w,(execOp a.eval ⟨dst, .build t' ⟨ps⟩,t,p,af,gd⟩).run X.P w = .ok (.value u) w) ∧ XOk X.P X.G h ν (.g cs) u := by
 obtain ⟨it,z0,hi,hz0,hc⟩ := zwR hz
 obtain ⟨us,h1,h2⟩ := zy3 hd e hE (zwF hc)
 have h3 : z0.cells.toList.toArray = z0.cells := by simp
 rw [h3] at h1
 refine ⟨.agg ⟨us⟩,fun w => ?_,us,rfl,h2⟩
 have hb : X.P.built t' ((ps.map fun q => (q.1,a.eval q.2)).toArray).toList = some us.toArray := by
  unfold zCs at hp
  split at hp
  ·rename_i n e' hu
   split at hp
   ·rename_i s hs
    cases hp
    have h4 := zfn hs
    unfold zj1 at h4
    cases hie : X.P.info? e' with
    | none => rw [hie] at h4; cases h4
    | some ie =>
     rw [hie] at h4
     cases h4
     simpa [Program.built,hi,hu,hz0,hie] using h1
   ·cases hp
  ·rename_i fs hu
   split at hp
   ·rename_i l hl
    cases hp
    have h5 : (l.toArray[·]?) = nthL l := funext fun i => by rw [zfJ]; simp
    simp only [Program.built,hi,hu,hz0,zwQ hl]
    rw [h5]
    exact h1
   ·cases hp
  ·cases hp
 have := run_build w t' _ _ hb
 simp only [execOp]
 have h6 : (Array.map (fun (q : Nat × Operand) => (q.1,a.eval q.2)) ⟨ps⟩) = (ps.map fun q => (q.1,a.eval q.2)).toArray := by simp
 have h7 : (Array.map (fun x => match x with | (i,x) => (i,a.eval x)) (⟨ps⟩ : Array (Nat × Operand))) = (ps.map fun q => (q.1,a.eval q.2)).toArray := h6
 first
 | (rw [h7]; simp only [Sem.run_bind,this,Result.andThen,Sem.run_pure])
 | (simp only [Sem.run_bind,this,Result.andThen,Sem.run_pure])
theorem zqm {P : Program} {i f ft b o : Nat} (e : zAZ P t i = some (f,ft)) : (Instr.fieldAt t (ptr b o) i).run P w = .ok (ptr b (o + f)) w := by
 obtain ⟨fs,fd,hu,hf,rfl,rfl,n,hs⟩ := zDD e
 have hadd : (⟨b,o,none⟩ : Addr).add fd.offset = ⟨b,o + fd.offset,none⟩ := by unfold Addr.add; split <;> simp_all
 simp [Instr.fieldAt,run_underlying hu,hf,Instr.sureAddr,fieldPlace,zct hs,hadd,Result.andThen]
theorem zE3 {i f ft : Nat} {cs : List (CV τ)} {vx : Value} {v : XV τ} (hx : XOk X.P X.G h ν (.g cs) vx) (e : zAZ X.P t i = some (f,ft))
  (hv : (match isA X.P ft with
    | some true => match szO X.P ft with
     | some s => match zsS cs f s with
      | some l => some (XV.g l)
      | none => none
     | none => none
    | some false => match nthL cs f with
     | some c => some (.c c)
     | none => none
    | none => none) = some v) : ∃ u,(∀ w,(Instr.field t vx i).run X.P w = .ok u w) ∧ XOk X.P X.G h ν v u := by
 obtain ⟨fs,fd,hu,hf,rfl,rfl,n,hs⟩ := zDD e
 obtain ⟨us,rfl,hc⟩ := hx
 split at hv
 ·rename_i ha
  split at hv
  ·rename_i s hs'
   split at hv
   ·rename_i l hl
    cases hv
    obtain ⟨h1,h2⟩ := hc.cut hl
    refine ⟨.agg ⟨_⟩,fun w => ?_,_,rfl,h1⟩
    simp [Instr.field,run_underlying hu,hf,asAgg,part,zrt (zuM ha),zct (zfn hs'),Result.andThen,List.extract_eq_take_drop]
   ·cases hv
  ·cases hv
 ·rename_i ha
  split at hv
  ·rename_i c hn
   cases hv
   rw [zfJ] at hn
   obtain ⟨u,h1,h2⟩ := hc.get hn
   refine ⟨u,fun w => ?_,h2⟩
   simp [Instr.field,run_underlying hu,hf,asAgg,part,zrt (zuM ha),h1,Result.andThen]
  ·cases hv
 ·cases hv
theorem zDt {c : CV τ} {vx : Value} (ha : adC c = true) (hc : zcC X.P X.G h ν c vx) {f : Nat} : (∃ b o,vx = ptr b o) ∧ (∀ b o,vx = ptr b o → ∀ c',(match c with
      | .ea t z o => some (.ea t z (o + f))
      | .oe id k m t z o => some (.oe id k m t z (o + f))
      | _ => none) = some c' → zcC X.P X.G h ν c' (ptr b (o + f))) := by
  cases c with
  | ea t z o =>
    obtain ⟨b,k,vs,rfl,h1,h2⟩ := hc
    refine ⟨⟨b,k + o,rfl⟩,fun b' o' e c' e' => ?_⟩
    cases e; cases e'
    exact ⟨b,k,vs,by rw [Nat.add_assoc],h1,h2⟩
  | oe i k m t z o =>
    obtain ⟨b,d,n,c,q,xs,u,h1,h2,h3,rfl⟩ := hc
    refine ⟨⟨b,_,rfl⟩,fun b' o' e c' e' => ?_⟩
    cases e; cases e'
    exact ⟨b,d,n,c,q,xs,u,h1,h2,h3,by rw [Nat.add_assoc]⟩
  | _ => cases ha
theorem opP_ok (hT : TyOk X) {o : Oper} (hd : a.defers = []) (hw : h.on w) (hE : zdU X h ν a (rdO o.op) E) {v : XV τ} (e : opP X E o.op = some v) :
  ∃ u,(execOp a.eval o).run X.P w = .ok (.value u) w ∧ XOk X.P X.G h ν v u := by
 obtain ⟨Ea,hf,hl⟩ := zdt a hd
 obtain ⟨dst,op,t,p,af,gd⟩ := o
 dsimp only at e hE
 unfold opP at e
 split at e
 ·exact ⟨_,by simp [execOp],zpw hd (hE.op (by simp [Op.operands])) e⟩
 ·exact ⟨_,by simp [execOp],zpw hd (hE.op (by simp [Op.operands])) e⟩
 ·split at e
  ·rename_i hc
   obtain ⟨u,h1,h2⟩ := zo hl (hE.op (by simp [Op.operands])) hc
   refine ⟨_,?_,zpw hd (hE.op (by simp [Op.operands])) e⟩
   simp only [execOp]; rw [hf.ev h1,show u = _ from h2]; simp [asBool]
  ·rename_i hc
   obtain ⟨u,h1,h2⟩ := zo hl (hE.op (by simp [Op.operands])) hc
   refine ⟨_,?_,zpw hd (hE.op (by simp [Op.operands])) e⟩
   simp only [execOp]; rw [hf.ev h1,show u = _ from h2]; simp [asBool]
  ·cases e
 ·split at e
  ·rename_i hc
   obtain ⟨u,h1,h2⟩ := zo hl (hE.op (by simp [Op.operands])) hc
   obtain rfl : u = _ := h2
   cases e
   exact ⟨_,zCO hf h1,rfl⟩
  ·rename_i hc
   obtain ⟨u,h1,h2⟩ := zo hl (hE.op (by simp [Op.operands])) hc
   obtain rfl : u = _ := h2
   cases e
   exact ⟨_,zCO hf h1,rfl⟩
  ·cases e
 ·split at e
  ·rename_i l hx
   obtain ⟨u,h1,h2⟩ := zmc hl (hE.op (by simp [Op.operands])) hx rfl
   obtain ⟨vs,rfl,h3⟩ := h2
   split at e
   ·rename_i c hc
    cases e
    rw [zfJ] at hc
    obtain ⟨v,h4,⟨h5,_⟩ | ⟨_,c',e',h5⟩⟩ := h3.get hc
    ·cases h5
    ·cases e'
     exact ⟨v,zs5 hf h1 (by simpa using h4),h5⟩
   ·rename_i cs hc
    cases e
    rw [zfJ] at hc
    obtain ⟨v,h4,⟨_,ws,rfl,h5⟩ | ⟨h5,_⟩⟩ := h3.get hc
    ·exact ⟨_,zs5 hf h1 (by simpa using h4),ws,rfl,h5⟩
    ·cases h5
   ·cases e
  ·cases e
 ·split at e
  ·rename_i c hc
   cases ha : adC c with
   | false => rw [ha] at e; cases e
   | true =>
    rw [ha] at e
    cases e
    obtain ⟨u,h1,h2⟩ := zo hl (hE.op (by simp [Op.operands])) hc
    obtain ⟨ad,rfl⟩ := zE0 ha h2
    exact ⟨_,zqO hf h1,h2⟩
  ·cases e
 ·split at e
  ·rename_i f ft hfl
   split at e
   ·rename_i t z o hc
    cases e
    obtain ⟨u,h1,h2⟩ := zo hl (hE.op (by simp [Op.operands])) hc
    obtain ⟨⟨b,k,rfl⟩,h3⟩ := zDt (f := f) rfl h2
    refine ⟨ptr b (k + f),?_,h3 _ _ rfl _ rfl⟩
    simp only [execOp]; rw [hf.ev h1]; simp [zqm hfl,Result.andThen]
   ·rename_i hc
    cases e
    obtain ⟨u,h1,h2⟩ := zo hl (hE.op (by simp [Op.operands])) hc
    obtain ⟨⟨b,k,rfl⟩,h3⟩ := zDt (f := f) rfl h2
    refine ⟨ptr b (k + f),?_,h3 _ _ rfl _ rfl⟩
    simp only [execOp]; rw [hf.ev h1]; simp [zqm hfl,Result.andThen]
   ·cases e
  ·cases e
 ·split at e
  ·rename_i f ft hfl
   split at e
   ·rename_i cs hx
    obtain ⟨u,h1,h2⟩ := zmc hl (hE.op (by simp [Op.operands])) hx rfl
    obtain ⟨r,h3,h4⟩ := zE3 h2 hfl e
    exact ⟨r,zEY hf h1 (h3 w),h4⟩
   ·cases e
  ·cases e
 ·split at e
  ·rename_i A hA
   split at e
   ·rename_i B hB
    obtain ⟨hgA,hgB⟩ := zHg e
    obtain ⟨vx,h1,h2⟩ := zmc hl (hE.op (by simp [Op.operands])) hA hgA
    obtain ⟨vy,h3,h4⟩ := zmc hl (hE.op (by simp [Op.operands])) hB hgB
    obtain ⟨u,h5,h6⟩ := zHf hT hf h1 h3 h2 h4 e
    exact ⟨u,h5 w,h6⟩
   ·cases e
  ·cases e
 ·split at e
  ·rename_i c hc
   obtain ⟨vx,h1,h2⟩ := zo hl (hE.op (by simp [Op.operands])) hc
   exact zE1 hf h1 h2 hw e
  ·cases e
 ·split at e
  ·rename_i z hz
   split at e
   ·rename_i pl hp
    split at e
    ·rename_i cs hc
     cases e
     obtain ⟨u,h1,h2⟩ := zE2 (dst := dst) (t := t) (p := p) (af := af) (gd := gd) hd hz hp hc fun q hq => hE.op (by simp only [Op.operands,List.toList_toArray,List.mem_map]; exact ⟨q,hq,rfl⟩)
     exact ⟨u,h1 w,h2⟩
    ·cases e
   ·cases e
  ·cases e
 ·split at e
  ·rename_i hc
   obtain ⟨vx,h1,h2⟩ := zo hl (hE.op (by simp [Op.operands,Call.operands])) hc
   obtain rfl : vx = _ := h2
   split at e
   ·rename_i hu
    cases e
    exact ⟨_,zBB hu hf h1,rfl⟩
   ·cases e
  ·rename_i hc
   obtain ⟨vx,h1,h2⟩ := zo hl (hE.op (by simp [Op.operands,Call.operands])) hc
   split at e
   ·rename_i hu
    cases e
    cases h2
    exact ⟨_,zn1 hu hf h1,rfl⟩
   ·cases e
  ·rename_i hc
   obtain ⟨vx,h1,h2⟩ := zo hl (hE.op (by simp [Op.operands,Call.operands])) hc
   obtain rfl : vx = _ := h2
   split at e
   ·rename_i hu
    cases e
    exact ⟨_,zn1 hu hf h1,rfl⟩
   ·cases e
  ·cases e
 ·split at e
  ·rename_i hc
   obtain ⟨vx,h1,h2⟩ := zo hl (hE.op (by simp [Op.operands,Call.operands])) hc
   obtain rfl : vx = _ := h2
   split at e
   ·rename_i hc'
    obtain ⟨vy,h3,h4⟩ := zo hl (hE.op (by simp [Op.operands,Call.operands])) hc'
    obtain rfl : vy = _ := h4
    cases e
    exact ⟨_,ex_min hf h1 h3,rfl⟩
   ·cases e
  ·cases e
 ·split at e
  ·rename_i hc
   obtain ⟨vx,h1,h2⟩ := zo hl (hE.op (by simp [Op.operands,Call.operands])) hc
   obtain rfl : vx = _ := h2
   split at e
   ·rename_i hc'
    obtain ⟨vy,h3,h4⟩ := zo hl (hE.op (by simp [Op.operands,Call.operands])) hc'
    obtain rfl : vy = _ := h4
    cases e
    exact ⟨_,ex_max hf h1 h3,rfl⟩
   ·cases e
  ·cases e
 ·cases e
end
end Go.Rk
end
section
namespace Go.Rk
open Go.RowKit Go.Dm Go.Dk
variable {τ : Nat → Type}

open Classical in
noncomputable def lend (h : Fz) (w : World) (bs : List Nat) : Fz := fun b => if b ∈ bs then w.heap[b]? else h b
section
variable {P : Program} {G : Sig τ} {w0 w w' : World} {h0 h h' H : Fz} {F : List Nat} {L L' L2 : Hp τ} {ν ν' : Vn τ} {φ φ' : Nat → List Nat}
theorem Fz.le.refl (h : Fz) : h.le h := fun _ _ e => e
theorem Fz.le.trans {h h' h'' : Fz} (a : h.le h') (b : h'.le h'') : h.le h'' := fun _ _ e => b _ _ (a _ _ e)
theorem Vn.le.refl (ν : Vn τ) : ν.le ν := fun _ _ e => e
theorem Vn.le.trans {ν ν' ν'' : Vn τ} (a : ν.le ν') (b : ν'.le ν'') : ν.le ν'' := fun _ _ e => b _ _ (a _ _ e)
theorem zpu {bs : List Nat} {b : Nat} (hb : b ∈ bs) : lend h w bs b = w.heap[b]? := by simp [lend,hb]
theorem zjX {bs : List Nat} {b : Nat} (hb : b ∉ bs) : lend h w bs b = h b := by simp [lend,hb]
theorem zuE {bs : List Nat} (hw : h.on w) : (lend h w bs).on w := by
 intro b o e
 by_cases hb : b ∈ bs
 ·rwa [zpu hb] at e
 ·rw [zjX hb] at e; exact hw _ _ e
theorem Mem.lend_le (M : Mem P G w0 h0 F L w ν h φ) (ids : List Nat) : h.le (lend h w (fps φ ids)) := by
 intro b o e
 by_cases hb : b ∈ fps φ ids
 ·obtain ⟨i,_,hi⟩ := mem_fps.1 hb
  rw [(M.out i b hi).1] at e; cases e
 ·rw [zjX hb]; exact e
theorem ze8 (φ : Nat → List Nat) (l m : List Nat) : fps φ (l ++ m) = fps φ l ++ fps φ m := by simp [fps]
theorem zc2 (φ : Nat → List Nat) (i : Nat) (m : List Nat) : fps φ (i :: m) = φ i ++ fps φ m := by simp [fps]

theorem zvu {te : TypeId} {e : Ty} {xs : List (e.den τ)} {v : Value} {vs : List Value} (hH : h.le H) (ho : zgt G w te (ets G e).length v xs.length vs) (hr : RpR P G h e xs vs) (hb : ∀ b ∈ v.ownBlock.toList,H b = w.heap[b]?) : Rp P G H (.sl e) xs v := by
 obtain ⟨hl,⟨rfl,hn⟩ | ⟨g,d,cap,cur,rfl,_,hg,hc,_,hs,ht⟩⟩ := ho
 ·rw [hn] at hl
  have : vs = [] := List.eq_nil_of_length_eq_zero (by simpa using hl)
  have hxs : xs = [] := List.eq_nil_of_length_eq_zero hn
  subst this; subst hxs
  exact .sl e [] none 0 [] (Nat.le_refl _) (.inl rfl) (.nil _)
 ·refine .sl e xs _ cap vs hc (.inr ⟨g,_,cur,te,(0,0),rfl,?_,?_⟩) (hr.le hH)
  ·rw [hb g (by simp [Value.ownBlock])]; exact hg
  ·intro k v hk
   rw [← ht,List.getElem?_take] at hk
   split at hk
   ·rw [List.getElem?_drop] at hk; simpa using hk
   ·cases hk

theorem RpL.len : ∀ {ts : List Ty} {q : DP τ ts} {vs : List Value},RpL P G h ts q vs → vs.length = ts.length
 | _,_,_, .nil => rfl
 | _,_,_, .cons _ _ _ _ _ _ h2 => by simp [RpL.len h2]
theorem RpR.len : ∀ {e : Ty} {xs : List (e.den τ)} {vs : List Value},RpR P G h e xs vs → vs.length = xs.length * (ets G e).length
 | _,_,_, .nil _ => by simp
 | _,_,_, .cons e x xs vs ws h1 h2 => by simp [RpR.len h2,h1.len,Nat.add_mul]; omega
theorem RpR.drop : ∀ {e : Ty} {xs : List (e.den τ)} {vs : List Value},RpR P G h e xs vs → ∀ (i : Nat),RpR P G h e (xs.drop i) (vs.drop (i * (ets G e).length))
 | _,_,_, .nil e,i => by simp; exact .nil e
 | _,_,_, .cons e x xs vs ws h1 h2,0 => by simp; exact .cons e x xs vs ws h1 h2
 | _,_,_, .cons e x xs vs ws h1 h2,i + 1 => by
  have hl := h1.len
  have e1 : vs.drop (i * (ets G e).length + (ets G e).length) = [] := List.drop_eq_nil_of_le (by omega)
  rw [List.drop_succ_cons,Nat.add_mul,Nat.one_mul,List.drop_append,e1,List.nil_append,hl,Nat.add_sub_cancel]
  exact h2.drop i
theorem RpR.take : ∀ {e : Ty} {xs : List (e.den τ)} {vs : List Value},RpR P G h e xs vs → ∀ (i : Nat),RpR P G h e (xs.take i) (vs.take (i * (ets G e).length))
 | _,_,_, .nil e,i => by simp; exact .nil e
 | _,_,_, .cons e x xs vs ws h1 h2,0 => by simp; exact .nil e
 | _,_,_, .cons e x xs vs ws h1 h2,i + 1 => by
  have hl := h1.len
  have e1 : vs.take (i * (ets G e).length + (ets G e).length) = vs := List.take_of_length_le (by omega)
  rw [List.take_succ_cons,Nat.add_mul,Nat.one_mul,List.take_append,e1,hl,Nat.add_sub_cancel]
  exact .cons e x _ vs _ h1 (h2.take i)
theorem zos.part {ad : Option Addr} {vs us : List Value} {k : Nat} (hs : zos h ad vs) (hu : ∀ j v,us[j]? = some v → vs[k + j]? = some v) : zos h (ad.map (·.add k)) us := by
 rcases hs with rfl | ⟨b,o,c,e,z,rfl,h1,h2⟩
 ·left
  apply List.eq_nil_iff_forall_not_mem.2
  intro v hv
  obtain ⟨j,hj⟩ := List.mem_iff_getElem?.1 hv
  have := hu j v hj
  simp at this
 ·have hadd : (⟨b,o,none⟩ : Addr).add k = ⟨b,o + k,none⟩ := by unfold Addr.add; split <;> simp_all
  refine .inr ⟨b,o + k,c,e,z,by simp [hadd],h1,fun j v hj => ?_⟩
  rw [Nat.add_assoc]; exact h2 _ _ (hu j v hj)
theorem zG0 {e : Ty} {xs : List (e.den τ)} {ad : Option Addr} {n c i j : Nat} (hr : Rp P G h (.sl e) xs (.slice ad n c)) (hij : i ≤ j) (hj : j ≤ xs.length) : n = xs.length ∧ xs.length ≤ c ∧
  Rp P G h (.sl e) ((xs.take j).drop i) (.slice (if c = i then ad else ad.map (·.add (i * (ets G e).length))) (j - i) (c - i)) := by
 cases hr with
 | sl _ _ _ _ vs hc hs hrr =>
  refine ⟨rfl,hc,?_⟩
  have hlen : ((xs.take j).drop i).length = j - i := by rw [List.length_drop,List.length_take]; omega
  rw [← hlen]
  have hcell : ∀ k v,((vs.take (j * (ets G e).length)).drop (i * (ets G e).length))[k]? = some v → vs[i * (ets G e).length + k]? = some v := by
   intro k v hk
   rw [List.getElem?_drop,List.getElem?_take] at hk
   split at hk
   ·exact hk
   ·cases hk
  refine .sl e _ _ _ ((vs.take (j * (ets G e).length)).drop (i * (ets G e).length)) (by rw [hlen]; omega) ?_ ((hrr.take j).drop i)
  by_cases hci : c = i
  ·rw [if_pos hci]
   left
   have h1 := ((hrr.take j).drop i).len
   rw [hlen,show j - i = 0 by omega,Nat.zero_mul] at h1
   exact List.eq_nil_of_length_eq_zero h1
  ·rw [if_neg hci]; exact hs.part hcell
theorem vw_rp {e : Ty} {xs ys : List (e.den τ)} {a a' : Option Addr} {n c c' lo : Nat} (hr : Rp P G H (.sl e) ys (.slice a n c)) (h1 : lo + xs.length ≤ ys.length) (h2 : xs = (ys.take (lo + xs.length)).drop lo) (h3 : xs.length ≤ c') (h4 : xs ≠ [] → a' = a.map (·.add (lo * (ets G e).length))) : Rp P G H (.sl e) xs (.slice a' xs.length c') := by
 by_cases hx : xs = []
 ·subst hx; exact .sl e [] a' c' [] h3 (.inl rfl) (.nil _)
 ·obtain ⟨_,hc,hs⟩ := zG0 hr (i := lo) (j := lo + xs.length) (by omega) h1
  have hl : 0 < xs.length := List.length_pos_iff.2 hx
  rw [← h2,if_neg (by omega), ← h4 hx] at hs
  rw [show lo + xs.length - lo = xs.length by omega] at hs
  cases hs with
  | sl _ _ _ _ vs _ hs hrr => exact .sl e xs a' c' vs h3 hs hrr
theorem zdi.part {ad : Option Addr} {vs us : List Value} {k : Nat} (hs : zdi w ad vs) (hu : ∀ (j : Nat) v,us[j]? = some v → vs[k + j]? = some v) : zdi w (ad.map (·.add k)) us := by
 by_cases hne : us = []
 ·subst hne
  cases ad with
  | none => rfl
  | some x => exact .inl rfl
 ·have hv : vs ≠ [] := by
   rintro rfl
   apply hne
   apply List.eq_nil_iff_forall_not_mem.2
   intro v hv
   obtain ⟨j,hj⟩ := List.mem_iff_getElem?.1 hv
   have := hu j v hj
   simp at this
  cases ad with
  | none => exact (hv hs).elim
  | some x =>
   obtain ⟨h1,h2,h3⟩ := hs.hard hv
   obtain ⟨b,o,sp⟩ := x
   simp only at h1 h2 h3
   subst h1
   have hadd : (⟨b,o,none⟩ : Addr).add k = ⟨b,o + k,none⟩ := by unfold Addr.add; split <;> simp_all
   simp only [Option.map_some,hadd]
   refine .inr ⟨rfl,h2,fun i v hv => ?_⟩
   have := h3 _ _ (hu i v hv)
   simpa [Nat.add_assoc] using this
mutual
theorem Tr.rp (hH : h.le H) : ∀ {t : Ty} {x : t.den τ} {v : Value} {fp : List Nat},Tr P G h w t x v fp → (∀ b ∈ fp,H b = w.heap[b]?) → Rp P G H t x v
 | _,_,_,_, .fz t x v hz hr,_ => hr.le hH
 | _,_,_,_, .so te e xs v vs ho hr,hb => .so te e xs v (zvu hH ho hr hb)
 | _,_,_,_, .po n x b vs fp h1 h2 hn _,hb => .po n x _ (.pt n x b 0 vs (.inr ⟨b,0,vs.toArray,G.ti n,(0,0),rfl,(hb b (List.mem_cons_self ..)).trans h1,fun k v hk => by simpa using hk⟩) (h2.rp hH fun c hc => hb c (List.mem_cons_of_mem _ hc)))
 | _,_,_,_, .pn0 n,_ => .pn0 n
 | _,_,_,_, .pn1 n x v fp hp,hb => .pn1 n x v (match hp.rp hH hb with | .po _ _ _ hr => hr)
theorem TrL.rp (hH : h.le H) : ∀ {ts : List Ty} {p : DP τ ts} {vs : List Value} {fp : List Nat},TrL P G h w ts p vs fp → (∀ b ∈ fp,H b = w.heap[b]?) → RpL P G H ts p vs
 | _,_,_,_, .nil,_ => .nil
 | _,_,_,_, .cons t ts p v vs f f' h1 h2 hd,hb => .cons t ts p v vs (h1.rp hH fun b hf => hb b (List.mem_append_left _ hf)) (h2.rp hH fun b hf => hb b (List.mem_append_right _ hf))
end
theorem zAJ (M : Mem P G w0 h0 F L2 w ν h φ) (hH : h.le H) {e : Ty} {c : CV τ} {xs : List (e.den τ)} {m : List Nat} {v : Value} (k : zzE L e c = some (xs,m)) (hL : ∀ i ∈ m,lk L2 i = lk L i) (hb : ∀ b ∈ fps φ m,H b = w.heap[b]?)
  (hv : zcC P G h ν c v) : Rp P G H (.sl e) xs v := by
 unfold zzE at k
 split at k
 ·split at k
  ·rename_i hx
   obtain ⟨rfl,rfl⟩ := zgz hx
   cases k
   exact Rp.le hH hv
  ·cases k
 ·cases k; cases hv
  exact .sl e [] none 0 [] (Nat.le_refl _) (.inl rfl) (.nil _)
 ·rename_i id
  obtain ⟨ad,n,cp,q,hν,rfl⟩ := hv
  split at k
  ·rename_i te e' xs' kk hlk
   split at k
   ·rename_i hx
    obtain ⟨rfl,rfl⟩ := zgz hx
    cases k
    have hr := M.res id
    rw [hL id (List.mem_singleton.2 rfl),hlk] at hr
    obtain ⟨v',q',vs,u,h1,h2,h3,h4,_⟩ := hr
    rw [hν] at h1
    cases h1
    exact zvu hH h3 h4 fun b hbb => hb b (by rw [zc2,h2]; exact List.mem_append_left _ hbb)
   ·cases k
  ·rename_i e' xs' hlk
   split at k
   ·rename_i hx
    obtain ⟨rfl,rfl⟩ := zgz hx
    cases k
    have hr := M.res id
    rw [hL id (List.mem_singleton.2 rfl),hlk] at hr
    obtain ⟨v',q',h1,_,h3⟩ := hr
    rw [hν] at h1
    cases h1
    exact h3.le hH
   ·cases k
  ·rename_i i kk e' lo xs' hlk
   split at k
   ·rename_i te e2 ys k' hlk2
    cases hkk : Nat.beq kk k' with
    | false => rw [hkk] at k; cases k
    | true =>
     rw [hkk] at k
     have : kk = k' := by simpa using hkk
     subst this
     dsimp only [cond_true] at k
     split at k
     ·rename_i hx
      obtain ⟨rfl,rfl⟩ := zgz hx
      cases k
      have hr := M.res id
      rw [hL id (List.mem_cons_self ..),hlk] at hr
      obtain ⟨a1,n1,c1,q1,q2,u1,ys1,a2,c2,g1,g2,g3,g4,g5,g6,g7,_⟩ := hr
      have hr2 := M.res i
      rw [hL i (List.mem_cons_of_mem _ (List.mem_cons_self ..)),hlk2] at hr2
      obtain ⟨v',q',vs,u,h1,h2,h3,h4,h5⟩ := hr2
      rw [g1] at h1
      cases h1
      rw [g2] at h5
      injection h5 with h5
      injection h5 with _ h5
      injection h5 with h5
      cases h5
      rw [hν] at g5
      cases g5
      exact vw_rp (zvu hH h3 h4 fun b hbb => hb b (by rw [zc2,zc2,h2]; exact List.mem_append_right _ (List.mem_append_left _ hbb))) g3 g4 g6 g7.1
     ·cases k
   ·cases k
  ·cases k
 ·cases k
theorem zrT {f : (t : Ty) → CV τ → Option (t.den τ × List Nat)} {A : List Nat → Prop} (hA : ∀ l m,A (l ++ m) → A l ∧ A m)
  (hf : ∀ t c x m v,f t c = some (x,m) → A m → zcC P G h ν c v → Rp P G H t x v) : ∀ {ts : List Ty} {cs : List (CV τ)} {q : DP τ ts} {vs : List Value} {m : List Nat},zuO f ts cs = some (q,m) → A m → CVs P G h ν cs vs → RpL P G H ts q vs
 | [],[],q,vs,_,e,_,hv => by cases e; cases hv; exact .nil
 | t :: ts,c :: cs,q,_,_,e,ha,⟨v,us,rfl,h1,h2⟩ => by
  unfold zuO at e
  split at e
  ·rename_i x m hx
   split at e
   ·rename_i q' m' hq
    cases e
    refine .cons t ts _ v us ?_ ?_
    ·rw [DP.hd_mk]; exact hf _ _ _ _ _ hx (hA _ _ ha).1 h1
    ·rw [DP.tl_mk]; exact zrT hA hf hq (hA _ _ ha).2 h2
   ·cases e
  ·cases e
 | [],_ :: _,_,_,_,e,_,_ => by cases e
 | _ :: _,[],_,_,_,e,_,_ => by cases e
theorem zD8 {t : Ty} {x : t.den τ} {v : Value} (hr : Rp P G h t x v) : zcC P G h ν (t.av x) v := by
 cases hr with
 | sl e xs a c vs hc hs hr => exact .sl e xs a c vs hc hs hr
 | so te e xs v hr => exact hr
 | pt n x b k vs hs hr => exact ⟨b,k,vs,rfl,hs,hr⟩
 | po n x v hr => cases hr with | pt n x b k vs hs hr => exact ⟨b,k,vs,rfl,hs,hr⟩
 | pn0 n => exact .pn0 n
 | pn1 n x v hr => exact .pn1 n x v hr
 | fn m f hf => exact .fn m f hf
 | cl f t x u hr => exact .cl f t x u hr
 | mv f u => exact .mv f u
 | _ => rfl
theorem zyi : ∀ {ts : List Ty} {q : DP τ ts} {vs : List Value},RpL P G h ts q vs → CVs P G h ν (avs ts q) vs
 | _,_,_, .nil => rfl
 | _,_,_, .cons t ts q v vs h1 h2 => ⟨v,vs,rfl,zD8 h1,zyi h2⟩
def zbB (L2 L : Hp τ) (φ : Nat → List Nat) (H : Fz) (w : World) (m : List Nat) : Prop := (∀ i ∈ m,lk L2 i = lk L i) ∧ ∀ b ∈ fps φ m,H b = w.heap[b]?
theorem zbB.app {l m : List Nat} (a : zbB L2 L φ H w (l ++ m)) : zbB L2 L φ H w l ∧ zbB L2 L φ H w m :=
  ⟨⟨fun i hi => a.1 i (List.mem_append_left _ hi),fun b hb => a.2 b (by rw [ze8]; exact List.mem_append_left _ hb)⟩,
   ⟨fun i hi => a.1 i (List.mem_append_right _ hi),fun b hb => a.2 b (by rw [ze8]; exact List.mem_append_right _ hb)⟩⟩
theorem zAK (M : Mem P G w0 h0 F L2 w ν h φ) (hH : h.le H) {f : (t : Ty) → CV τ → Option (t.den τ × List Nat)} (hf : ∀ t c x m v,f t c = some (x,m) → zbB L2 L φ H w m → zcC P G h ν c v → Rp P G H t x v)
  {n : Nat} {c : CV τ} {x : τ n} {m : List Nat} {v : Value} (k : lokP f G L n c = some (x,m)) (ha : zbB L2 L φ H w m) (hv : zcC P G h ν c v) : Rp P G H (.pt n) x v := by
 unfold lokP at k
 split at k
 ·rename_i t z o
  obtain ⟨b,q,vs,rfl,h1,h2⟩ := hv
  split at k
  ·rename_i x' hx
   cases k
   unfold eaO at hx
   split at hx
   ·rename_i n' z
    cases ho : Nat.beq o 0
    ·rw [ho] at hx; cases hx
    ·rw [ho] at hx
     replace ho := Nat.eq_of_beq_eq_true ho
     subst ho
     obtain ⟨rfl,rfl⟩ := zHe hx
     exact .pt _ _ b _ vs (h1.le hH) (h2.le hH)
   ·cases hx
  ·split at k
   ·rename_i cs hcut
    split at k
    ·rename_i p m' hq
     cases k
     have hc := (CVs.cut (X := ⟨P,G,[],[],0,fun _ => .bool false⟩) (zyi (ν := ν) h2) hcut).1
     refine .pt n _ b (q + o) ((vs.drop o).take (G.fs n).length) ?_ ?_
     ·rcases h1 with rfl | ⟨b',o',c,e,z',h3,h4,h5⟩
      ·exact .inl (by simp)
      ·cases h3
       refine .inr ⟨b,q + o,c,e,z',rfl,hH _ _ h4,fun k v hk => ?_⟩
       rw [List.getElem?_take] at hk
       split at hk
       ·rw [List.getElem?_drop] at hk
        rw [Nat.add_assoc]
        exact h5 _ _ hk
       ·cases hk
     ·rw [G.dc]; exact zrT (A := zbB L2 L φ H w) (fun _ _ => zbB.app) hf hq ha hc
    ·cases k
   ·cases k
 ·rename_i id o
  split at k
  ·rename_i t cs hlk
   split at k
   ·rename_i cs' hcut
    split at k
    ·rename_i p m' hq
     cases k
     have ha' := zbB.app (l := [id]) ha
     have hr := M.res id
     rw [ha.1 id (List.mem_cons_self ..),hlk] at hr
     obtain ⟨b,q,vs,h1,h2,h3,h4⟩ := hr
     obtain ⟨u,q',h5,rfl,_⟩ := hv
     rw [h1] at h5
     cases h5
     have hc := (CVs.cut (X := ⟨P,G,[],[],0,fun _ => .bool false⟩) h4 hcut).1
     refine .pt n _ b (0 + o) ((vs.drop o).take (G.fs n).length) (.inr ⟨b,0 + o,vs.toArray,t,(0,0),rfl,?_,fun k v hk => ?_⟩) ?_
     ·rw [ha.2 b (by rw [zc2,h2]; simp)]; exact h3
     ·rw [List.getElem?_take] at hk
      split at hk
      ·rw [List.getElem?_drop] at hk
       simpa using hk
      ·cases hk
     ·rw [G.dc]; exact zrT (A := zbB L2 L φ H w) (fun _ _ => zbB.app) hf hq ha'.2 hc
    ·cases k
   ·cases k
  ·cases k
 ·cases k
theorem zIk (M : Mem P G w0 h0 F L2 w ν h φ) (hH : h.le H) {n : Nat} {c : CV τ} {x : Option (τ n)} {m : List Nat} {v : Value} (k : lokT L n c = some (x,m)) (ha : zbB L2 L φ H w m) (hv : zcC P G h ν c v) : Rp P G H (.pn n) x v := by
 unfold lokT at k
 split at k
 ·rename_i id
  obtain ⟨u,q',h5,rfl,_⟩ := hv
  have e0 : zs2 (.pointer u) 0 = .pointer u := by cases u <;> rfl
  rw [e0]
  split at k
  ·rename_i n' y hlk
   split at k
   ·rename_i hx
    obtain ⟨rfl,rfl⟩ := zyn hx
    cases k
    have hr := M.res id
    rw [ha.1 id (List.mem_singleton.2 rfl),hlk] at hr
    obtain ⟨v',q,h1,h2⟩ := hr
    rw [h1] at h5; cases h5
    exact h2.rp hH fun b hb => ha.2 b (by rw [zc2]; exact List.mem_append_left _ hb)
   ·cases k
  ·rename_i hlk
   cases k
   have hr := M.res id
   rw [ha.1 id (List.mem_singleton.2 rfl),hlk] at hr
   obtain ⟨q,h1,h2⟩ := hr
   rw [h1] at h5; cases h5
   exact .pn0 n
  ·cases k
 ·cases k
theorem zvv (M : Mem P G w0 h0 F L2 w ν h φ) (hH : h.le H) : ∀ (d : Nat) (t : Ty) (c : CV τ) (x : t.den τ) (m : List Nat) (v : Value),lok G L d t c = some (x,m) → zbB L2 L φ H w m → zcC P G h ν c v → Rp P G H t x v
 | 0,t,c,x,m,v,k,_,_ => by cases k
 | d + 1,t,c,x,m,v,k,ha,hv => by
  have ih := zvv M hH d
  unfold lok at k
  cases t <;> dsimp only at k
  case sl e => exact zAJ M hH k ha.1 ha.2 hv
  case so te e => exact .so te e x v (zAJ M hH k ha.1 ha.2 hv)
  case pt n => exact zAK M hH ih k ha hv
  case po n => exact .po n x v (zAK M hH ih k ha hv)
  case pn n =>
   split at k
   ·cases k; cases hv; exact .pn0 n
   ·split at k
    ·rename_i hx
     obtain ⟨rfl,rfl⟩ := zyn hx
     cases k
     exact Rp.le hH hv
    ·cases k
   ·split at k
    ·rename_i hy
     cases k
     exact zIk M hH hy ha hv
    ·split at k
     ·rename_i y m' hy
      cases k
      exact .pn1 n y v (zAK M hH ih hy ha hv)
     ·cases k
  case fn =>
   split at k
   ·cases k; exact Rp.le hH hv
   ·split at k
    ·rename_i f m hm
     cases k; cases hv
     exact .fn _ _ (M.fp _ (zlM hm))
    ·cases k
   ·cases k
  case fc f =>
   split at k
   ·rename_i g
    cases hb : Nat.beq g f with
    | false => rw [hb] at k; cases k
    | true =>
     rw [hb] at k
     cases k
     have : g = f := by simpa using hb
     subst this
     cases hv
     exact .fc g
   ·cases k
  case mv f =>
   split at k
   ·rename_i g
    cases hb : Nat.beq g f with
    | false => rw [hb] at k; cases k
    | true =>
     rw [hb] at k
     cases k
     have : g = f := by simpa using hb
     subst this
     exact Rp.le hH hv
   ·rename_i g i
    cases hb : Nat.beq g f with
    | false => rw [hb] at k; cases k
    | true =>
     rw [hb] at k
     cases k
     have : g = f := by simpa using hb
     subst this
     obtain ⟨u,q,_,rfl⟩ := hv
     exact .mv _ _
   ·cases k
  case cl f t' =>
   split at k
   ·rename_i g t2 y
    cases hb : Nat.beq g f with
    | false => rw [hb] at k; cases k
    | true =>
     rw [hb] at k
     dsimp only [cond_true] at k
     have : g = f := by simpa using hb
     subst this
     split at k
     ·rename_i hx
      obtain ⟨rfl,rfl⟩ := zHd hx
      cases k
      exact Rp.le hH hv
     ·cases k
   ·rename_i id
    split at k
    ·rename_i g c' hl
     cases hb : Nat.beq g f with
     | false => rw [hb] at k; cases k
     | true =>
      rw [hb] at k
      dsimp only [cond_true] at k
      have : g = f := by simpa using hb
      subst this
      split at k
      ·rename_i x' m' hx
       cases k
       obtain ⟨f',us,vs,q,hν,rfl⟩ := hv
       have hr := M.res id
       rw [ha.1 id (List.mem_cons_self ..),hl] at hr
       obtain ⟨us',vs',q',h1,_,h2,h3⟩ := hr
       rw [hν] at h1
       cases h1
       obtain rfl : us = [] := h2
       obtain ⟨v',_,rfl,h4,rfl⟩ := h3
       exact .cl _ _ _ _ (ih _ _ _ _ _ hx (zbB.app (l := [id]) ha).2 h4)
      ·cases k
    ·cases k
   ·cases k
  all_goals first | (cases k; done) | (split at k <;> first | (cases k; done) | (cases k; cases hv; constructor))

theorem zeo {l : List Nat} {i : Nat} : mem l i = true ↔ i ∈ l := by simp [zry,List.any_eq_true]
theorem zuF : ∀ {l m : List Nat},nod (l ++ m) = true → nod l = true ∧ nod m = true ∧ ∀ i ∈ l,i ∉ m
 | [],m,h => ⟨rfl,h,fun i hi => by cases hi⟩
 | a :: l,m,h => by
  simp only [List.cons_append,nod,Bool.and_eq_true,Bool.not_eq_true'] at h
  obtain ⟨h1,h2⟩ := h
  obtain ⟨h3,h4,h5⟩ := zuF h2
  have hn : a ∉ l ++ m := fun e => by rw [zeo.2 e] at h1; cases h1
  refine ⟨?_,h4,fun i hi => ?_⟩
  ·simp only [nod,Bool.and_eq_true,Bool.not_eq_true']
   exact ⟨Bool.eq_false_iff.2 fun e => hn (List.mem_append_left _ (zeo.1 e)),h3⟩
  ·rcases List.mem_cons.1 hi with rfl | hi
   ·exact fun e => hn (List.mem_append_right _ e)
   ·exact h5 i hi
theorem zvw {l m : List Nat} (h : zwd l m = true) : ∀ i ∈ l,i ∉ m := by
 intro i hi e
 have := List.all_eq_true.1 (zw5 l m ▸ h) i hi
 rw [zeo.2 e] at this
 cases this
theorem Mem.fps_dis (M : Mem P G w0 h0 F L2 w ν h φ) {l m : List Nat} (h : ∀ i ∈ l,i ∉ m) : ∀ b ∈ fps φ l,b ∉ fps φ m := by
 intro b h1 h2
 obtain ⟨i,hi,hb⟩ := mem_fps.1 h1
 obtain ⟨j,hj,hb'⟩ := mem_fps.1 h2
 exact h i hi (M.dis i j b hb hb' ▸ hj)
theorem zAL (M : Mem P G w0 h0 F L2 w ν h φ) {f : (t : Ty) → CV τ → Rs (t.den τ)}
  (hf : ∀ t c x l m v,f t c = some (x,l,m) → (∀ i ∈ l,lk L2 i = lk L i) → zbB L2 L φ H w m → nod l = true → zcC P G h ν c v → Tr P G H w t x v (fps φ l)) :
  ∀ {ts : List Ty} {cs : List (CV τ)} {q : DP τ ts} {vs : List Value} {l m : List Nat},zCn f ts cs = some (q,l,m) → (∀ i ∈ l,lk L2 i = lk L i) → zbB L2 L φ H w m → nod l = true → CVs P G h ν cs vs → TrL P G H w ts q vs (fps φ l)
 | [],[],q,vs,_,_,e,_,_,_,hv => by cases e; cases hv; exact .nil
 | t :: ts,c :: cs,q,_,_,_,e,ha,hm,hn,⟨v,us,rfl,h1,h2⟩ => by
  unfold zCn at e
  split at e
  ·rename_i x l m hx
   split at e
   ·rename_i q' l' m' hq
    cases e
    obtain ⟨n1,n2,n3⟩ := zuF hn
    rw [ze8]
    refine .cons t ts _ v us _ _ ?_ ?_ (M.fps_dis n3)
    ·rw [DP.hd_mk]; exact hf _ _ _ _ _ _ hx (fun i hi => ha i (List.mem_append_left _ hi)) hm.app.1 n1 h1
    ·rw [DP.tl_mk]; exact zAL M hf hq (fun i hi => ha i (List.mem_append_right _ hi)) hm.app.2 n2 h2
   ·cases e
  ·cases e
 | [],_ :: _,_,_,_,_,e,_,_,_,_ => by cases e
 | _ :: _,[],_,_,_,_,e,_,_,_,_ => by cases e
theorem zG1 : ∀ {ts : List Ty},noM ts = true → ∀ {vs : List Value},MvOk ts vs
 | [],_,vs,i,f,h => by simp at h
 | t :: ts,hz,vs,i,f,h => by
  simp only [noM,Bool.and_eq_true] at hz
  cases i with
  | zero =>
   simp only [List.getElem?_cons_zero,Option.some.injEq] at h
   subst h
   exact absurd hz.1 (by simp)
  | succ i =>
   have h3 := zG1 hz.2 (vs := []) i f (by simpa using h)
   obtain ⟨u,h4,_⟩ := h3
   simp at h4
theorem zG2 {i : Nat} {u : Option Addr} {q : Option ((e : Ty) × List (e.den τ))} (hν : ν i = some (.pointer u,q)) : ∀ {ts : List Ty} {cs : List (CV τ)} {vs : List Value},okM i ts cs = true → CVs P G h ν cs vs → ts.length ≤ cs.length → ∀ (k : Nat) (f : Nat),ts[k]? = some (.mv f) → vs[k]? = some (.func (.func f) #[.pointer u] #[])
 | [],_,_,_,_,_,k,f,e => by simp at e
 | _ :: _,[],_,_,_,hl,_,_,_ => by simp at hl
 | t :: ts,c :: cs,_,hz,⟨v,us,rfl,h1,h2⟩,hl,k,f,e => by
  simp only [okM,Bool.and_eq_true] at hz
  cases k with
  | succ k => simpa using zG2 hν hz.2 h2 (by simpa using hl) k f (by simpa using e)
  | zero =>
   simp only [List.getElem?_cons_zero,Option.some.injEq] at e
   subst e
   replace hz := hz.1
   dsimp only at hz
   split at hz
   ·rename_i g j
    simp only [Bool.and_eq_true,Nat.beq_eq] at hz
    obtain ⟨rfl,rfl⟩ := hz
    obtain ⟨u',q',h3,rfl⟩ := h1
    rw [hν] at h3
    cases h3
    rfl
   ·cases hz
theorem zB9 {f : (t : Ty) → CV τ → Rs (t.den τ)} : ∀ {ts : List Ty} {cs : List (CV τ)} {r : DP τ ts × List Nat × List Nat},zCn f ts cs = some r → ts.length = cs.length
 | [],[],_,_ => rfl
 | t :: ts,c :: cs,r,e => by
  unfold zCn at e
  split at e
  ·split at e
   ·rename_i hq; simp [zB9 hq]
   ·cases e
  ·cases e
 | [],_ :: _,_,e => by cases e
 | _ :: _,[],_,e => by cases e
theorem okN_ok {ts : List Ty} {cs : List (CV τ)} {vs : List Value} (h1 : okN ts cs = true) (h2 : CVs P G h ν cs vs) (hl : ts.length ≤ cs.length) : MvOk ts vs := by
 unfold okN at h1
 split at h1
 ·rename_i i cs
  obtain ⟨v,us,rfl,⟨u,q,h3,rfl,h5⟩,h4⟩ := h2
  have h6 := zG2 h3 h1 (show CVs P G h ν (.pt i 0 :: cs) _ from ⟨_,us,rfl,⟨u,q,h3,rfl,h5⟩,h4⟩) hl
  intro k f e
  refine ⟨.pointer u,?_,h6 k f e⟩
  cases u <;> rfl
 ·exact zG1 h1
theorem zD9 {i : Nat} {u : Option Addr} {q : Option ((e : Ty) × List (e.den τ))} (hν : ν i = some (.pointer u,q)) : ∀ {ts : List Ty} {cs : List (CV τ)} {vs : List Value},CVs P G h ν cs vs → (∀ (k : Nat) (f : Nat),ts[k]? = some (.mv f) → vs[k]? = some (.func (.func f) #[.pointer u] #[])) → CVs P G h ν (fixM i ts cs) vs
 | [],cs,vs,h1,_ => h1
 | _ :: _,[],vs,h1,_ => h1
 | t :: ts,c :: cs,_,⟨v,us,rfl,h1,h2⟩,hm => by
  refine ⟨v,us,rfl,?_,zD9 hν h2 fun k f e => by simpa using hm (k + 1) f (by simpa using e)⟩
  cases t
  case mv f =>
   have := hm 0 f rfl
   simp only [List.getElem?_cons_zero,Option.some.injEq] at this
   exact ⟨u,q,hν,this⟩
  all_goals exact h1
theorem zEa {ts : List Ty} {cs : List (CV τ)} {vs : List Value} (h1 : CVs P G h ν cs vs) (hm : MvOk ts vs) : CVs P G h ν (zCo ts cs) vs := by
 unfold zCo
 split
 ·rename_i i cs
  cases noM ts with
  | true => exact h1
  | false =>
   have h0 := h1
   obtain ⟨v,us,rfl,⟨u,q,h3,rfl,h5⟩,h4⟩ := h0
   refine zD9 h3 h1 fun k f e => ?_
   obtain ⟨u',h6,h7⟩ := hm k f e
   simp only [List.getElem?_cons_zero,Option.some.injEq] at h6
   rw [h7, ← h6]
   cases u <;> rfl
 ·exact h1
theorem zEb (M : Mem P G w0 h0 F L2 w ν h φ) {f : (t : Ty) → CV τ → Rs (t.den τ)}
  (hf : ∀ t c x l m v,f t c = some (x,l,m) → (∀ i ∈ l,lk L2 i = lk L i) → zbB L2 L φ H w m → nod l = true → zcC P G h ν c v → Tr P G H w t x v (fps φ l))
  {n id : Nat} {x : τ n} {l m : List Nat} {v : Value} (k : resP f G L n id = some (x,l,m)) (ha : ∀ i ∈ l,lk L2 i = lk L i) (hm : zbB L2 L φ H w m) (hn : nod l = true) (hv : zcC P G h ν (.pt id 0) v) : Tr P G H w (.po n) x v (fps φ l) := by
 unfold resP at k
 split at k
 ·rename_i t cs hlk
  cases hb : (Nat.beq t (G.ti n) && okN (G.fs n) cs) with
  | false => rw [hb] at k; cases k
  | true =>
   rw [hb] at k
   dsimp only [cond_true] at k
   simp only [Bool.and_eq_true,Nat.beq_eq] at hb
   obtain ⟨hb,hmv⟩ := hb
   split at k
   ·rename_i p l' m' hq
    cases k
    have ht : t = G.ti n := hb
    have hr := M.res id
    rw [ha id (List.mem_cons_self ..),hlk] at hr
    obtain ⟨b,q,vs,h1,h2,h3,h4⟩ := hr
    obtain ⟨u,q',h5,rfl,_⟩ := hv
    rw [h1] at h5
    cases h5
    obtain ⟨n1,n2,n3⟩ := zuF (l := [id]) hn
    have hd := M.fps_dis (l := [id]) (m := l') n3
    rw [zc2,h2]
    refine .po n _ b vs _ (ht ▸ h3) ?_ (fun hc => hd b (by rw [zc2,h2]; simp) hc) (okN_ok hmv h4 (Nat.le_of_eq (zB9 hq)))
    rw [G.dc]
    exact zAL M hf hq (fun i hi => ha i (List.mem_cons_of_mem _ hi)) hm n2 h4
   ·cases k
 ·cases k
theorem zG3 {te sz n m lo k c c' : Nat} {a a' : Option Addr} {vs : List Value} (h : zgt G w te sz (.slice a n c) m vs) (hk : lo + k ≤ m) (hd : lo = 0 ∨ G.dr te = true) (hc : c' + lo = c) (ha : a' = if c = lo then a else a.map (·.add (lo * sz))) :
  zgt G w te sz (.slice a' k c') k ((vs.take ((lo + k) * sz)).drop (lo * sz)) ∧ (Value.slice a' k c').ownBlock = (Value.slice a n c).ownBlock := by
 obtain ⟨h1,h2⟩ := h
 have hle : (lo + k) * sz ≤ m * sz := Nat.mul_le_mul_right _ hk
 have hmul : (lo + k) * sz = lo * sz + k * sz := Nat.add_mul ..
 have hlen : ((vs.take ((lo + k) * sz)).drop (lo * sz)).length = k * sz := by rw [List.length_drop,List.length_take]; omega
 rcases h2 with ⟨e,hm⟩ | ⟨g,d,cap,cur,e,h3,h4,h5,h6,h7,h8⟩
 ·cases e
  have hk0 : k = 0 := by omega
  have hc0 : c' = 0 := by omega
  subst hk0; subst hc0
  have : a' = none := by rw [ha]; split <;> rfl
  subst this
  exact ⟨⟨hlen, .inl ⟨rfl,rfl⟩⟩,rfl⟩
 ·cases e
  by_cases hcl : c = lo
  ·rw [if_pos hcl] at ha
   subst ha
   have hk0 : k = 0 := by omega
   have hc0 : c' = 0 := by omega
   subst hk0; subst hc0
   refine ⟨⟨hlen, .inr ⟨g,d,0,cur,rfl,fun hz => ?_,h4,Nat.le_refl _,Nat.zero_le _,?_,?_⟩⟩,rfl⟩
   ·rcases hd with h0 | h0
    ·obtain ⟨rfl,h9⟩ := h3 hz
     exact ⟨rfl,by rw [h9,hcl,h0]⟩
    ·rw [h0] at hz; cases hz
   ·exact Nat.le_trans (Nat.mul_le_mul_right _ (by omega)) h7
   ·rw [Nat.zero_mul,List.take_zero]
    exact (List.eq_nil_of_length_eq_zero (by rw [hlen,Nat.zero_mul])).symm
  ·rw [if_neg hcl] at ha
   have hadd : (⟨g,d * sz,none⟩ : Addr).add (lo * sz) = ⟨g,(d + lo) * sz,none⟩ := by rw [Nat.add_mul]; unfold Addr.add; split <;> simp_all
   simp only [Option.map_some,hadd] at ha
   subst ha
   refine ⟨⟨hlen, .inr ⟨g,d + lo,c',cur,rfl,fun hz => ?_,h4,by omega,by omega,?_,?_⟩⟩,rfl⟩
   ·rcases hd with h0 | h0
    ·obtain ⟨rfl,h9⟩ := h3 hz
     subst h0
     exact ⟨rfl,by rw [h9, ← hc,Nat.add_zero]⟩
    ·rw [h0] at hz; cases hz
   ·rw [show d + lo + c' = d + c by omega]; exact h7
   ·rw [← h8,List.take_take,Nat.min_eq_left hle,List.drop_take,List.drop_drop,hmul,Nat.add_sub_cancel_left,Nat.add_mul]
theorem zAM (M : Mem P G w0 h0 F L2 w ν h φ) (hH : h.le H) : ∀ (d : Nat) (t : Ty) (c : CV τ) (x : t.den τ) (l m : List Nat) (v : Value),res G L d t c = some (x,l,m) → (∀ i ∈ l,lk L2 i = lk L i) → zbB L2 L φ H w m → nod l = true → zcC P G h ν c v → Tr P G H w t x v (fps φ l)
 | 0,t,c,x,l,m,v,k,_,_,_,_ => by cases k
 | d + 1,t,c,x,l,m,v,k,ha,hm,hn,hv => by
  have ih := zAM M hH d
  have hlok : frz t = true → (match lok G L (d + 1) t c with
   | some (x,m) => some (x,[],m)
   | none => none) = some (x,l,m) → Tr P G H w t x v (fps φ l) := by
   intro hz k
   split at k
   ·rename_i x' m' hx
    cases k
    exact .fz t x v hz (zvv M hH _ _ _ _ _ _ hx hm hv)
   ·cases k
  unfold res at k
  cases t <;> dsimp only at k
  case so te e =>
   split at k
   ·cases k; cases hv
    exact .so te e [] _ [] ⟨by simp, .inl ⟨rfl,rfl⟩⟩ (.nil _)
   ·rename_i id
    split at k
    ·rename_i te' e' xs kk hlk
     cases hb : Nat.beq te te' with
     | false => rw [hb] at k; cases k
     | true =>
      rw [hb] at k
      dsimp only [cond_true] at k
      split at k
      ·rename_i hx
       obtain ⟨rfl,rfl⟩ := zgz hx
       cases k
       have ht : te = te' := by simpa using hb
       subst ht
       have hr := M.res id
       rw [ha id (List.mem_singleton.2 rfl),hlk] at hr
       obtain ⟨v',q',vs,u,h1,h2,h3,h4,_⟩ := hr
       obtain ⟨ad,n,cp,q,hν,rfl⟩ := hv
       rw [hν] at h1
       cases h1
       rw [zc2,h2,show fps φ [] = [] from rfl,List.append_nil]
       exact .so te _ _ _ vs h3 (h4.le hH)
      ·cases k
    ·rename_i i kk e0 lo xs hlk
     split at k
     ·rename_i te' e' ys k2 hlk2
      cases hb : (Nat.beq te te' && (Nat.beq kk k2 && (Nat.beq lo 0 || G.dr te))) with
      | false => rw [hb] at k; cases k
      | true =>
       rw [hb] at k
       dsimp only [cond_true] at k
       simp only [Bool.and_eq_true,Bool.or_eq_true,Nat.beq_eq] at hb
       obtain ⟨rfl,rfl,hdr⟩ := hb
       split at k
       ·rename_i hx
        obtain ⟨rfl,rfl⟩ := zgz hx
        cases k
        have hr := M.res id
        rw [ha id (List.mem_cons_self ..),hlk] at hr
        obtain ⟨a1,n1,c1,q1,q2,u1,ys1,a2,c2,g1,g2,g3,g4,g5,g6,g7,g8⟩ := hr
        have hr2 := M.res i
        rw [ha i (List.mem_cons_of_mem _ (List.mem_cons_self ..)),hlk2] at hr2
        obtain ⟨v',q',vs,u,h1,h2,h3,h4,h5⟩ := hr2
        rw [g1] at h1
        cases h1
        rw [g2] at h5
        injection h5 with h5
        injection h5 with _ h5
        injection h5 with h5
        cases h5
        obtain ⟨ad,n,cp,q,hν,rfl⟩ := hv
        rw [hν] at g5
        cases g5
        obtain ⟨_,_,g9,g10⟩ := g7
        rw [zc2,g8,zc2,h2,show fps φ [] = [] from rfl,List.append_nil,List.nil_append]
        obtain ⟨hcut,hob⟩ := zG3 (k := xs.length) h3 g3 hdr g9 g10
        have h6 := (h4.take (lo + xs.length)).drop lo
        rw [← g4] at h6
        rw [← hob]
        exact .so te _ _ _ _ hcut (h6.le hH)
       ·cases k
     ·cases k
    ·cases k
   ·cases k
  case po n =>
   cases c <;> first | (cases k; done) | skip
   rename_i id o
   cases o with
   | zero => exact zEb M ih k ha hm hn hv
   | succ o => cases k
  case pn n =>
   split at k
   ·cases k; cases hv; exact .pn0 n
   ·rename_i id
    split at k
    ·rename_i n' y hlk
     split at k
     ·rename_i hx
      obtain ⟨rfl,rfl⟩ := zyn hx
      cases k
      have hr := M.res id
      rw [ha id (List.mem_singleton.2 rfl),hlk] at hr
      obtain ⟨v',q',h1,h2⟩ := hr
      obtain ⟨u,q,hν,rfl,_⟩ := hv
      rw [hν] at h1
      cases h1
      rw [zc2,show fps φ [] = [] from rfl,List.append_nil]
      cases u <;> exact h2.of hH fun _ _ => rfl
     ·cases k
    ·rename_i hlk
     cases k
     have hr := M.res id
     rw [ha id (List.mem_singleton.2 rfl),hlk] at hr
     obtain ⟨q',h1,h2⟩ := hr
     obtain ⟨u,q,hν,rfl,_⟩ := hv
     rw [hν] at h1
     cases h1
     rw [zc2,h2]
     exact .pn0 n
    ·split at k
     ·rename_i y l' m' hy
      cases k
      exact .pn1 n y v _ (zEb M ih hy ha hm hn hv)
     ·cases k
   ·cases k
  case sn te e =>
   have h1 : lok G L (d + 1) (.sn te e) c = none := by unfold lok; rfl
   rw [h1] at k
   cases k
  all_goals exact hlok rfl k

def up1 {α : Type} (f : Nat → α) (i : Nat) (x : α) : Nat → α := fun j => if j = i then x else f j
theorem z7 {α : Type} (f : Nat → α) (i : Nat) (x : α) : up1 f i x i = x := by simp [up1]
theorem zaR {α : Type} (f : Nat → α) {i j : Nat} (x : α) (h : j ≠ i) : up1 f i x j = f j := by simp [up1,h]
theorem zbk {ν : Vn τ} {i : Nat} {x : Option (Value × Option ((e : Ty) × List (e.den τ)))} (h : ν i = none) : ν.le (up1 ν i x) := by
 intro j y e
 rw [zaR]
 ·exact e
 ·rintro rfl; rw [h] at e; cases e
def zho (w0 : World) (h : Fz) (F : List Nat) (φ : Nat → List Nat) (fp : List Nat) : Prop := ∀ b ∈ fp,(∀ i,b ∉ φ i) ∧ h b = none ∧ (b ∈ F ∨ w0.heap.size ≤ b)
theorem Mem.add (M : Mem P G w0 h0 F L w ν h φ) {nid : Nat} (hn : ν nid = none) (r : AR τ) (x : Value × Option ((e : Ty) × List (e.den τ))) {fp : List Nat} (hr : zlz P G h (up1 ν nid (some x)) w r (some x) fp) (hf : zho w0 h F φ fp) :
  Mem P G w0 h0 F ((nid,r) :: L) w (up1 ν nid (some x)) h (up1 φ nid fp) := by
 refine ⟨M.os,M.tape,M.output,M.size,M.frame,M.le,M.on,M.new,?_,?_,?_,M.gl,M.fp⟩
 ·intro i
  by_cases e : nid = i
  ·subst e
   rw [z7,z7]
   have : lk ((nid,r) :: L) nid = r := by simp [zs3,zl2]
   rw [this]; exact hr
  ·have : lk ((nid,r) :: L) i = lk L i := by simp [zs3,zl2,zbA.2 e]
   have hr2 := (M.res i).of (w' := w) (Fz.le.refl _) (zbk (x := some x) hn) fun _ _ => rfl
   rw [this,zaR φ fp (Ne.symm e)]
   exact hr2
 ·intro i j b h1 h2
  by_cases e1 : i = nid
  ·by_cases e2 : j = nid
   ·rw [e1,e2]
   ·subst e1
    rw [z7] at h1
    rw [zaR _ _ e2] at h2
    exact ((hf b h1).1 j h2).elim
  ·rw [zaR _ _ e1] at h1
   by_cases e2 : j = nid
   ·subst e2
    rw [z7] at h2
    exact ((hf b h2).1 i h1).elim
   ·rw [zaR _ _ e2] at h2
    exact M.dis i j b h1 h2
 ·intro i b hb
  by_cases e : i = nid
  ·subst e
   rw [z7] at hb
   exact (hf b hb).2
  ·rw [zaR _ _ e] at hb
   exact M.out i b hb
structure Grew (P : Program) (G : Sig τ) (w0 : World) (h0 : Fz) (F : List Nat) (L : Hp τ) (w : World) (ν : Vn τ) (h : Fz) (φ : Nat → List Nat) (U : Hp τ) (nid nid' : Nat) (fp : List Nat) (ν' : Vn τ) (φ' : Nat → List Nat) : Prop where
 up : nid ≤ nid'
 mem : Mem P G w0 h0 F (U ++ L) w ν' h φ'
 le : ν.le ν'
 same : ∀ i, ¬(nid ≤ i ∧ i < nid') → ν' i = ν i ∧ φ' i = φ i
 fp : ∀ i b,nid ≤ i → i < nid' → b ∈ φ' i → b ∈ fp
theorem Grew.nil (M : Mem P G w0 h0 F L w ν h φ) (nid : Nat) (fp : List Nat) : Grew P G w0 h0 F L w ν h φ [] nid nid fp ν φ :=
 ⟨Nat.le_refl _,M,Vn.le.refl _,fun _ _ => ⟨rfl,rfl⟩,fun i b h1 h2 => by omega⟩
theorem Grew.one (M : Mem P G w0 h0 F L w ν h φ) {nid : Nat} (hn : ν nid = none) (r : AR τ) (x : Value × Option ((e : Ty) × List (e.den τ))) {fp : List Nat} (hr : zlz P G h (up1 ν nid (some x)) w r (some x) fp) (hf : zho w0 h F φ fp) :
  Grew P G w0 h0 F L w ν h φ [(nid,r)] nid (nid + 1) fp (up1 ν nid (some x)) (up1 φ nid fp) :=
 ⟨by omega,M.add hn r x hr hf,zbk hn,fun i hi => ⟨zaR _ _ (by rintro rfl; exact hi ⟨by omega,by omega⟩),zaR _ _ (by rintro rfl; exact hi ⟨by omega,by omega⟩)⟩,fun i b h1 h2 hb => by
  have : i = nid := by omega
  subst this
  rwa [z7] at hb⟩
theorem zho.grew {U : Hp τ} {nid nid' : Nat} {fp fp' : List Nat} (g : Grew P G w0 h0 F L w ν h φ U nid nid' fp ν' φ') (hf : zho w0 h F φ fp') (hd : ∀ b ∈ fp',b ∉ fp) : zho w0 h F φ' fp' := by
 intro b hb
 refine ⟨fun i hi => ?_,(hf b hb).2⟩
 by_cases e : nid ≤ i ∧ i < nid'
 ·exact hd b hb (g.fp i b e.1 e.2 hi)
 ·rw [(g.same i e).2] at hi
  exact (hf b hb).1 i hi
theorem zho.sub {fp fp' : List Nat} (hf : zho w0 h F φ fp) (hs : ∀ b ∈ fp',b ∈ fp) : zho w0 h F φ fp' := fun b hb => hf b (hs b hb)
def ExpOk (P : Program) (G : Sig τ) (w0 : World) (h0 : Fz) (F : List Nat) (w : World) (h : Fz) (f : (t : Ty) → t.den τ → Nat → CV τ × Hp τ × Nat) : Prop :=
 ∀ (t : Ty) (x : t.den τ) (nid : Nat) (c : CV τ) (U : Hp τ) (nid' : Nat) (v : Value) (fp : List Nat) (L : Hp τ) (ν : Vn τ) (φ : Nat → List Nat),f t x nid = (c,U,nid') → Tr P G h w t x v fp → Mem P G w0 h0 F L w ν h φ →
  (∀ i,nid ≤ i → i < nid' → ν i = none) → zho w0 h F φ fp → ∃ ν' φ',Grew P G w0 h0 F L w ν h φ U nid nid' fp ν' φ' ∧ zcC P G h ν' c v
theorem zjY {f : (t : Ty) → t.den τ → Nat → CV τ × Hp τ × Nat} (hf : ∀ t x nid c U nid',f t x nid = (c,U,nid') → nid ≤ nid') : ∀ {ts : List Ty} {q : DP τ ts} {nid : Nat} {cs : List (CV τ)} {U : Hp τ} {nid' : Nat},zyt f ts q nid = (cs,U,nid') → nid ≤ nid'
 | [],q,nid,cs,U,nid',e => by cases e; exact Nat.le_refl _
 | t :: ts,q,nid,cs,U,nid',e => by
  unfold zyt at e
  split at e
  rename_i c U1 n1 h1
  split at e
  rename_i cs2 U2 n2 h2
  cases e
  exact Nat.le_trans (hf _ _ _ _ _ _ h1) (zjY hf h2)
theorem zgh (G : Sig τ) : ∀ (d : Nat) (t : Ty) (x : t.den τ) (nid : Nat) (c : CV τ) (U : Hp τ) (nid' : Nat),zqw G d t x nid = (c,U,nid') → nid ≤ nid' := by
 intro d
 induction d with
 | zero => intro t x nid c U nid' e; cases t <;> simp only [zqw,Prod.mk.injEq] at e <;> omega
 | succ d ih =>
  intro t x nid c U nid' e
  cases t
  case po n =>
   unfold zqw at e
   split at e
   rename_i cs U1 n1 h1
   cases e
   exact Nat.le_trans (Nat.le_succ _) (zjY ih h1)
  all_goals (simp only [zqw,Prod.mk.injEq] at e; omega)
theorem zwO {f : (t : Ty) → t.den τ → Nat → CV τ × Hp τ × Nat} (hle : ∀ t x nid c U nid',f t x nid = (c,U,nid') → nid ≤ nid') (hf : ExpOk P G w0 h0 F w h f) :
  ∀ {ts : List Ty} {q : DP τ ts} {nid : Nat} {cs : List (CV τ)} {U : Hp τ} {nid' : Nat} {vs : List Value} {fp : List Nat} {L : Hp τ} {ν : Vn τ} {φ : Nat → List Nat},zyt f ts q nid = (cs,U,nid') → TrL P G h w ts q vs fp → Mem P G w0 h0 F L w ν h φ →
   (∀ i,nid ≤ i → i < nid' → ν i = none) → zho w0 h F φ fp → ∃ ν' φ',Grew P G w0 h0 F L w ν h φ U nid nid' fp ν' φ' ∧ CVs P G h ν' cs vs
 | [],q,nid,cs,U,nid',vs,fp,L, ν, φ,e,ht,M,hn,hfr => by
  cases e; cases ht
  exact ⟨ν, φ,Grew.nil M _ _,rfl⟩
 | t :: ts,q,nid,cs,U,nid',vs,fp,L, ν, φ,e,ht,M,hn,hfr => by
  unfold zyt at e
  split at e
  rename_i c U1 n1 h1
  split at e
  rename_i cs2 U2 n2 h2
  cases e
  cases ht with
  | cons _ _ _ v us f1 f2 t1 t2 hd =>
   have l1 := hle _ _ _ _ _ _ h1
   have l2 := zjY hle h2
   obtain ⟨ν1, φ1,g1,c1⟩ := zwO hle hf h2 t2 M (fun i a b => hn i (by omega) b) (hfr.sub fun b hb => List.mem_append_right _ hb)
   obtain ⟨ν2, φ2,g2,c2⟩ := hf _ _ _ _ _ _ _ _ _ _ _ h1 t1 g1.mem (fun i a b => by rw [(g1.same i (by omega)).1]; exact hn i a (by omega))
    (zho.grew g1 (hfr.sub fun b hb => List.mem_append_left _ hb) hd)
   refine ⟨ν2, φ2,⟨by omega,by rw [List.append_assoc]; exact g2.mem,g1.le.trans g2.le,fun i hi => ?_,fun i b a a' hb => ?_⟩,v,us,rfl,c2,c1.le (Fz.le.refl _) g2.le⟩
   ·obtain ⟨a1,a2⟩ := g1.same i (by omega)
    obtain ⟨b1,b2⟩ := g2.same i (by omega)
    exact ⟨b1.trans a1,b2.trans a2⟩
   ·by_cases hi : i < n1
    ·exact List.mem_append_left _ (g2.fp i b a hi hb)
    ·rw [(g2.same i (by omega)).2] at hb
     exact List.mem_append_right _ (g1.fp i b (by omega) a' hb)
theorem so_res {te : TypeId} {e : Ty} {xs : List (e.den τ)} {v : Value} {fp : List Nat} (ht : Tr P G h w (.so te e) xs v fp) : fp = v.ownBlock.toList ∧ (∃ a n c,v = .slice a n c) ∧ ∃ vs,zgt G w te (ets G e).length v xs.length vs ∧ RpR P G h e xs vs := by
 cases ht with
 | fz _ _ _ hz _ => cases hz
 | so _ _ _ _ vs ho hr =>
  refine ⟨rfl,?_,vs,ho,hr⟩
  obtain ⟨_,⟨rfl,_⟩ | ⟨g,d,cap,cur,rfl,_⟩⟩ := ho
  ·exact ⟨_,_,_,rfl⟩
  ·exact ⟨_,_,_,rfl⟩
theorem zG4 {n : Nat} {x : Option (τ n)} {v : Value} {fp : List Nat} (ht : Tr P G h w (.pn n) x v fp) : ∃ u,v = .pointer u := by
 cases ht with
 | fz _ _ _ hz _ => cases hz
 | pn0 _ => exact ⟨_,rfl⟩
 | pn1 _ _ _ _ hp =>
  cases hp with
  | fz _ _ _ hz _ => cases hz
  | po _ _ b vs fp hb hl hn _ => exact ⟨_,rfl⟩
theorem zAN (d : Nat) : ExpOk P G w0 h0 F w h (zqw G d) := by
 induction d with
 | zero =>
  intro t x nid c U nid' v fp L ν φ e ht M hn hfr
  exact base t x nid c U nid' v fp L ν φ (by cases t <;> exact e) ht M hn hfr
 | succ d ih =>
  intro t x nid c U nid' v fp L ν φ e ht M hn hfr
  by_cases hp : ∃ n,t = .po n
  ·obtain ⟨n,rfl⟩ := hp
   unfold zqw at e
   split at e
   rename_i cs U1 n1 h1
   cases e
   have l1 := zjY (zgh G d) h1
   cases ht with
   | fz _ _ _ hz _ => cases hz
   | po _ _ b vs fp hb hl hnb hmv =>
    obtain ⟨ν1, φ1,g1,c1⟩ := zwO (zgh G d) ih h1 hl M (fun i a b => hn i (by omega) b) (hfr.sub fun b hb => List.mem_cons_of_mem _ hb)
    have hν1 : ν1 nid = none := by rw [(g1.same nid (by omega)).1]; exact hn nid (Nat.le_refl _) (by omega)
    have hf1 := zho.grew g1 (hfr.sub (fp' := [b]) fun b' hb' => by rw [List.mem_singleton.1 hb']; exact List.mem_cons_self ..) fun b' hb' => by rw [List.mem_singleton.1 hb']; exact hnb
    have M2 := g1.mem.add hν1 (.blk (G.ti n) (zCo (G.fs n) cs)) (ptr b 0,none) (fp := [b]) ⟨b,none,vs,rfl,rfl,hb,(zEa c1 hmv).le (Fz.le.refl _) (zbk hν1)⟩ hf1
    refine ⟨_,_,⟨by omega,M2,g1.le.trans (zbk hν1),fun i hi => ?_,fun i b' a a' hb' => ?_⟩,⟨some ⟨b,0,none⟩,none,z7 _ _ _,rfl,fun e => (e rfl).elim⟩⟩
    ·have hne : i ≠ nid := by rintro rfl; exact hi ⟨Nat.le_refl _,by omega⟩
     rw [zaR _ _ hne,zaR _ _ hne]
     exact g1.same i (by omega)
    ·by_cases e : i = nid
     ·subst e
      rw [z7] at hb'
      rw [List.mem_singleton.1 hb']; exact List.mem_cons_self ..
     ·rw [zaR _ _ e] at hb'
      exact List.mem_cons_of_mem _ (g1.fp i b' (by omega) a' hb')
  ·exact base t x nid c U nid' v fp L ν φ (by cases t <;> first | exact e | exact absurd ⟨_,rfl⟩ hp) ht M hn hfr
where
 base (t : Ty) (x : t.den τ) (nid : Nat) (c : CV τ) (U : Hp τ) (nid' : Nat) (v : Value) (fp : List Nat) (L : Hp τ) (ν : Vn τ) (φ : Nat → List Nat) (e : zqw G 0 t x nid = (c,U,nid')) (ht : Tr P G h w t x v fp) (M : Mem P G w0 h0 F L w ν h φ)
  (hn : ∀ i,nid ≤ i → i < nid' → ν i = none) (hfr : zho w0 h F φ fp) : ∃ ν' φ',Grew P G w0 h0 F L w ν h φ U nid nid' fp ν' φ' ∧ zcC P G h ν' c v := by
  have flat : frz t = true → zqw G 0 t x nid = (t.av x,[],nid) → ∃ ν' φ',Grew P G w0 h0 F L w ν h φ U nid nid' fp ν' φ' ∧ zcC P G h ν' c v := by
   intro hz e2
   rw [e] at e2
   cases e2
   cases ht with
   | fz _ _ _ _ hr => exact ⟨ν, φ,Grew.nil M _ _,zD8 hr⟩
   | _ => cases hz
  cases t
  case so te e' =>
   cases e
   obtain ⟨rfl,⟨a,n,c,rfl⟩,vs,ho,hr⟩ := so_res ht
   have hn' := hn nid (Nat.le_refl _) (Nat.lt_succ_self _)
   exact ⟨_,_,Grew.one M hn' (.row te e' x nid) (.slice a n c,some ⟨e',x⟩) ⟨_,_,vs,_,rfl,rfl,ho,hr,z7 _ _ _⟩ hfr,a,n,c,_,z7 _ _ _,rfl⟩
  case po n =>
   cases e
   have hn' := hn nid (Nat.le_refl _) (Nat.lt_succ_self _)
   have ht' := Tr.pn1 n x v fp ht
   obtain ⟨u,rfl⟩ := zG4 ht'
   exact ⟨_,_,Grew.one M hn' (.tree n (some x)) (.pointer u,none) ⟨_,_,rfl,ht'⟩ hfr,u,none,z7 _ _ _,by cases u <;> rfl,fun e => (e rfl).elim⟩
  case pn n =>
   cases e
   have hn' := hn nid (Nat.le_refl _) (Nat.lt_succ_self _)
   obtain ⟨u,rfl⟩ := zG4 ht
   exact ⟨_,_,Grew.one M hn' (.tree n x) (.pointer u,none) ⟨_,_,rfl,ht⟩ hfr,u,none,z7 _ _ _,by cases u <;> rfl,fun e => (e rfl).elim⟩
  case sn te e0 => cases ht with | fz _ _ _ hz _ => cases hz
  all_goals exact flat rfl rfl
end
end Go.Rk
end
section
namespace Go.Rk
open Go.RowKit Go.Dm Go.Dk
variable {τ : Nat → Type}
section
variable {P : Program} {G : Sig τ} {w0 w w' : World} {h0 h h' H : Fz} {F : List Nat} {L L' L2 : Hp τ} {ν ν' : Vn τ} {φ φ' : Nat → List Nat}
theorem Mem.congr (M : Mem P G w0 h0 F L w ν h φ) (hL : ∀ i,lk L' i = lk L i) : Mem P G w0 h0 F L' w ν h φ :=
 ⟨M.os,M.tape,M.output,M.size,M.frame,M.le,M.on,M.new,fun i => by rw [hL]; exact M.res i,M.dis,M.out,M.gl,M.fp⟩
theorem Mem.ext (M : Mem P G w0 h0 F L w ν h φ) (hν : ν.le ν') : Mem P G w0 h0 F L w ν' h φ :=
 ⟨M.os,M.tape,M.output,M.size,M.frame,M.le,M.on,M.new,fun i => (M.res i).of (Fz.le.refl _) hν fun _ _ => rfl,M.dis,M.out,M.gl,M.fp⟩
theorem zaM (i : Nat) (r : AR τ) (L : Hp τ) : lk ((i,r) :: L) i = r := by simp [zs3,zl2]
theorem zdj {i j : Nat} (r : AR τ) (L : Hp τ) (h : j ≠ i) : lk ((i,r) :: L) j = lk L j := by simp [zs3,zl2,zbA.2 (Ne.symm h)]
theorem Mem.put (M : Mem P G w0 h0 F L w ν h φ) {i : Nat} (hg : lk L i = .gone) (r : AR τ) {fp : List Nat} (hr : zlz P G h ν w r (ν i) fp) (hf : zho w0 h F φ fp) : Mem P G w0 h0 F ((i,r) :: L) w ν h (up1 φ i fp) := by
 refine ⟨M.os,M.tape,M.output,M.size,M.frame,M.le,M.on,M.new,?_,?_,?_,M.gl,M.fp⟩
 ·intro j
  by_cases e : j = i
  ·subst e; rw [zaM,z7]; exact hr
  ·rw [zdj r L e,zaR φ fp e]; exact M.res j
 ·intro j k b h1 h2
  by_cases e1 : j = i
  ·by_cases e2 : k = i
   ·rw [e1,e2]
   ·subst e1
    rw [z7] at h1; rw [zaR φ fp e2] at h2
    exact ((hf b h1).1 k h2).elim
  ·rw [zaR φ fp e1] at h1
   by_cases e2 : k = i
   ·subst e2
    rw [z7] at h2
    exact ((hf b h2).1 j h1).elim
   ·rw [zaR φ fp e2] at h2; exact M.dis j k b h1 h2
 ·intro j b hb
  by_cases e : j = i
  ·subst e; rw [z7] at hb; exact (hf b hb).2
  ·rw [zaR φ fp e] at hb; exact M.out j b hb
theorem Mem.drop (M : Mem P G w0 h0 F L w ν h φ) (i : Nat) : Mem P G w0 h0 F ((i, .gone) :: L) w ν h (up1 φ i []) ∧ zho w0 h F (up1 φ i []) (φ i) := by
 refine ⟨⟨M.os,M.tape,M.output,M.size,M.frame,M.le,M.on,M.new,?_,?_,?_,M.gl,M.fp⟩,?_⟩
 ·intro j
  by_cases e : j = i
  ·subst e; rw [zaM,z7]; rfl
  ·rw [zdj _ L e,zaR φ [] e]; exact M.res j
 ·intro j k b h1 h2
  by_cases e1 : j = i
  ·subst e1; rw [z7] at h1; cases h1
  ·by_cases e2 : k = i
   ·subst e2; rw [z7] at h2; cases h2
   ·rw [zaR φ [] e1] at h1; rw [zaR φ [] e2] at h2; exact M.dis j k b h1 h2
 ·intro j b hb
  by_cases e : j = i
  ·subst e; rw [z7] at hb; cases hb
  ·rw [zaR φ [] e] at hb; exact M.out j b hb
 ·intro b hb
  refine ⟨fun j hj => ?_,M.out i b hb⟩
  by_cases e : j = i
  ·subst e; rw [z7] at hj; cases hj
  ·rw [zaR φ [] e] at hj; exact e (M.dis j i b hj hb)
def zc4 (ν ν' : Vn τ) (nid nid' : Nat) : Prop := ∀ i, ν i = none → ν' i ≠ none → nid ≤ i ∧ i < nid'
theorem zc4.refl (ν : Vn τ) (nid nid' : Nat) : zc4 ν ν nid nid' := fun i h1 h2 => (h2 h1).elim
theorem Grew.fresh {U : Hp τ} {nid nid' : Nat} {fp : List Nat} (g : Grew P G w0 h0 F L w ν h φ U nid nid' fp ν' φ') : zc4 ν ν' nid nid' := by
 intro i h1 h2
 by_cases e : nid ≤ i ∧ i < nid'
 ·exact e
 ·rw [(g.same i e).1] at h2; exact (h2 h1).elim
theorem ztB {f : (t : Ty) → t.den τ → Nat → CV τ × Hp τ × Nat} (hle : ∀ t x nid c U nid',f t x nid = (c,U,nid') → nid ≤ nid') (hf : ∀ t x nid c U nid',f t x nid = (c,U,nid') → ∀ i ∈ kys U,nid ≤ i ∧ i < nid') :
  ∀ {ts : List Ty} {q : DP τ ts} {nid : Nat} {cs : List (CV τ)} {U : Hp τ} {nid' : Nat},zyt f ts q nid = (cs,U,nid') → ∀ i ∈ kys U,nid ≤ i ∧ i < nid'
 | [],q,nid,cs,U,nid',e,i,hi => by cases e; cases hi
 | t :: ts,q,nid,cs,U,nid',e,i,hi => by
  unfold zyt at e
  split at e
  rename_i c U1 n1 h1
  split at e
  rename_i cs2 U2 n2 h2
  cases e
  have l1 := hle _ _ _ _ _ _ h1
  have l2 := zjY hle h2
  simp only [kys,List.map_append] at hi
  rcases List.mem_append.1 hi with hi | hi
  ·have := hf _ _ _ _ _ _ h1 i hi; omega
  ·have := ztB hle hf h2 i hi; omega
theorem zwK (G : Sig τ) : ∀ (d : Nat) (t : Ty) (x : t.den τ) (nid : Nat) (c : CV τ) (U : Hp τ) (nid' : Nat),zqw G d t x nid = (c,U,nid') → ∀ i ∈ kys U,nid ≤ i ∧ i < nid' := by
 intro d
 induction d with
 | zero => intro t x nid c U nid' e; cases t <;> simp only [zqw,Prod.mk.injEq] at e <;> obtain ⟨_,rfl,rfl⟩ := e <;> simp [kys]
 | succ d ih =>
  intro t x nid c U nid' e
  cases t
  case po n =>
   unfold zqw at e
   split at e
   rename_i cs U1 n1 h1
   cases e
   have l1 := zjY (zgh G d) h1
   intro i hi
   rcases List.mem_cons.1 hi with rfl | hi
   ·omega
   ·have := ztB (zgh G d) ih h1 i hi; omega
  all_goals (simp only [zqw,Prod.mk.injEq] at e; obtain ⟨_,rfl,rfl⟩ := e; simp [kys])
theorem zA8 (M : Mem P G w0 h0 F L w ν h φ) {i n nid nid' : Nat} {x : τ n} {U : Hp τ} {v : Value} {q : Option ((e : Ty) × List (e.den τ))} {fp : List Nat} (e : zjd G i n x nid = (U,nid')) (hg : lk L i = .gone) (hi : ν i = some (v,q)) (ht : Tr P G h w (.po n) x v fp) (hf : zho w0 h F φ fp)
  (hn : ∀ i,nid ≤ i → i < nid' → ν i = none) : nid ≤ nid' ∧ ∃ ν' φ' t cs b,Mem P G w0 h0 F (U ++ L) w ν' h φ' ∧ ν.le ν' ∧ zc4 ν ν' nid nid' ∧ v = ptr b 0 ∧ lk U i = .blk t cs ∧ (∀ j, ¬(nid ≤ j ∧ j < nid') → j ≠ i → φ' j = φ j) ∧ ∀ j b,(j = i ∨ nid ≤ j ∧ j < nid') → b ∈ φ' j → b ∈ fp := by
 unfold zjd at e
 split at e
 rename_i cs U1 n1 h1
 cases e
 have l1 := zjY (zgh G depth) h1
 cases ht with
 | fz _ _ _ hz _ => cases hz
 | po _ _ b vs fp hb hl hnb hmv =>
  obtain ⟨ν1, φ1,g1,c1⟩ := zwO (zgh G depth) (zAN depth) h1 hl M hn (hf.sub fun b hb => List.mem_cons_of_mem _ hb)
  have hni : ¬(nid ≤ i ∧ i < nid') := fun a => by rw [hn i a.1 a.2] at hi; cases hi
  have hiU : i ∉ kys U1 := fun hk => hni (ztB (zgh G depth) (zwK G depth) h1 i hk)
  have hf1 := zho.grew g1 (hf.sub (fp' := [b]) fun b' hb' => by rw [List.mem_singleton.1 hb']; exact List.mem_cons_self ..) fun b' hb' => by rw [List.mem_singleton.1 hb']; exact hnb
  have M2 := g1.mem.put (i := i) (by rw [zcD L hiU]; exact hg) (.blk (G.ti n) (zCo (G.fs n) cs)) (fp := [b]) ⟨b,q,vs,(g1.le _ _ hi),rfl,hb,zEa c1 hmv⟩ hf1
  refine ⟨l1, ν1,_,G.ti n,zCo (G.fs n) cs,b,M2,g1.le,g1.fresh,rfl,zaM ..,fun j hj hne => ?_,fun j b' hj hb' => ?_⟩
  ·rw [zaR _ _ hne]; exact (g1.same j hj).2
  ·by_cases e : j = i
   ·subst e; rw [z7] at hb'; rw [List.mem_singleton.1 hb']; exact List.mem_cons_self ..
   ·rw [zaR _ _ e] at hb'
    exact List.mem_cons_of_mem _ (g1.fp j b' (by rcases hj with hj | hj; exact absurd hj e; exact hj.1) (by rcases hj with hj | hj; exact absurd hj e; exact hj.2) hb')
theorem zA9 {i n nid nid' : Nat} {x : τ n} {U : Hp τ} (e : zjd G i n x nid = (U,nid')) : ∀ j ∈ kys U,j = i ∨ nid ≤ j ∧ j < nid' := by
 unfold zjd at e
 split at e
 rename_i cs U1 n1 h1
 cases e
 intro j hj
 rcases List.mem_cons.1 hj with rfl | hj
 ·exact .inl rfl
 ·exact .inr (ztB (zgh G depth) (zwK G depth) h1 j hj)
theorem Tr.pn_some {n : Nat} {x : τ n} {v : Value} {fp : List Nat} (h : Tr P G H w (.pn n) (some x) v fp) : Tr P G H w (.po n) x v fp := by
 cases h with
 | fz _ _ _ hz _ => cases hz
 | pn1 _ _ _ _ hp => exact hp
theorem Tr.pn_none {n : Nat} {v : Value} {fp : List Nat} (h : Tr P G H w (.pn n) none v fp) : v = .pointer none ∧ fp = [] := by
 cases h with
 | fz _ _ _ hz _ => cases hz
 | pn0 _ => exact ⟨rfl,rfl⟩
theorem zDG (M : Mem P G w0 h0 F L2 w ν h φ) {i n nid nid' : Nat} {x : τ n} {U : Hp τ} (e : zjd G i n x nid = (U,nid')) (hl : lk L2 i = .tree n (some x)) (hn : ∀ i,nid ≤ i → i < nid' → ν i = none) :
  nid ≤ nid' ∧ ∃ ν' φ' b q,Mem P G w0 h0 F (U ++ L2) w ν' h φ' ∧ ν.le ν' ∧ zc4 ν ν' nid nid' ∧ ν i = some (ptr b 0,q) := by
 have hr := M.res i
 rw [hl] at hr
 obtain ⟨v,q,hv,ht⟩ := hr
 obtain ⟨M1,hf⟩ := M.drop i
 obtain ⟨h1, ν', φ',t,cs,b,M2,h2,h3,rfl,h5,_⟩ := zA8 M1 e (zaM ..) hv (Tr.pn_some ht) hf hn
 refine ⟨h1, ν', φ',b,q,M2.congr fun j => ?_,h2,h3,hv⟩
 by_cases hj : j ∈ kys U
 ·rw [zgE _ hj,zgE _ hj]
 ·rw [zcD _ hj,zcD _ hj,zdj]
  rintro rfl
  apply hj
  unfold zjd at e
  split at e
  cases e
  exact List.mem_cons_self ..
end

section
variable {ρ : Type} (X : Cx τ) (w0 : World) (h0 : Fz) (F : List Nat)
def Ok1 (o : Oper) (E : zF τ) (L : Hp τ) (nid : Nat) (v : XV τ) (U : Hp τ) (tch : List Nat) (nid' : Nat) : Prop :=
 ∀ (L2 : Hp τ) (ν : Vn τ) (h : Fz) (φ : Nat → List Nat) (a : Act) (w : World) (next : Act → World → Prop) (Q : Exit → Act → World → Prop),a.defers = [] → Mem X.P X.G w0 h0 F L2 w ν h φ → zdU X h ν a (rdO o.op) E →
  (∀ i ∈ tch,lk L2 i = lk L i) → (∀ i,nid ≤ i → i < nid' → ν i = none) →
  (∀ ν' h' φ' w' u,Mem X.P X.G w0 h0 F (U ++ L2) w' ν' h' φ' → ν.le ν' → h.le h' → zc4 ν ν' nid nid' → XOk X.P X.G h' ν' v u → next (a.put o.dst u) w') → o.wp X.P a w next Q
def zcR (o : Oper) (E : zF τ) (L : Hp τ) (nid : Nat) (K : Nx τ ρ) (r : ρ) : Prop :=
 ∃ v g U tch nid',K v g U tch nid' = some r ∧ nid ≤ nid' ∧ (∀ x ∈ g,zi5 x = true) ∧ Ok1 X w0 h0 F o E L nid v U tch nid'
def ztC (op : OpF τ ρ) : Prop := ∀ (r : ρ) (o : Oper) (E : zF τ) (L : Hp τ) (nid : Nat) (K : Nx τ ρ),op E L nid K o.op = some r → zcR X w0 h0 F o E L nid K r
end
section
variable {ρ : Type} {X : Cx τ} {w0 w w' : World} {h0 : Fz} {F : List Nat} {o : Oper} {E : zF τ} {L : Hp τ} {nid nid' : Nat} {K : Nx τ ρ} {r : ρ} {v : XV τ} {U : Hp τ} {tch : List Nat} {g : List (XV τ)}
theorem zfo {a : Act} {u : Value} {next : Act → World → Prop} {Q : Exit → Act → World → Prop} (hx : (execOp a.eval o).run X.P w = .ok (.value u) w') (k : next (a.put o.dst u) w') : o.wp X.P a w next Q := by
 unfold Oper.wp; rw [hx]; exact k
theorem zCv {a : Act} {next : Act → World → Prop} {Q : Exit → Act → World → Prop} (hx : (execOp a.eval o).run X.P w = .ok .skip w') (k : next (a.put o.dst undef) w') : o.wp X.P a w next Q := by
 unfold Oper.wp; rw [hx]; exact k
theorem zaH (e : K v [] [] tch nid = some r) (hx : ∀ (L2 : Hp τ) ν h φ (a : Act) (w : World),a.defers = [] → Mem X.P X.G w0 h0 F L2 w ν h φ → zdU X h ν a (rdO o.op) E → (∀ i ∈ tch,lk L2 i = lk L i) → ∃ u,(execOp a.eval o).run X.P w = .ok (.value u) w ∧ XOk X.P X.G h ν v u) :
  zcR X w0 h0 F o E L nid K r :=
 ⟨v,[],[],tch,nid,e,Nat.le_refl _,(fun _ h => by cases h),fun L2 ν h φ a w next Q hd M hE ha hn k => by
  obtain ⟨u,h1,h2⟩ := hx L2 ν h φ a w hd M hE ha
  exact zfo h1 (k ν h φ w u M (Vn.le.refl _) (Fz.le.refl _) (zc4.refl _ _ _) h2)⟩
theorem zCw {b : BinOp} {t' ty t : Nat} {x y : Operand} {A B : XV τ} (hA : evX E x = some A) (hB : evX E y = some B) {dst : Option Nat} {p : String} {af : Array Edge} {gd : Option (Nat × Bool)}
    (e : opI nid K b A B = some r) : zcR X w0 h0 F ⟨dst, .binOp b t' x y ty,t,p,af,gd⟩ E L nid K r := by
  unfold opI hi at e
  split at e
  all_goals first
  | (cases e; done)
  | (obtain ⟨z,hz,e⟩ := ob e
     refine zaH e fun L2 ν h φ a w hd M hE ha => ?_
     obtain ⟨Ea,hf,hl⟩ := zdt a hd
     obtain ⟨u,h1,h2⟩ := zmc hl (hE.op (by simp [Op.operands])) hA rfl
     obtain ⟨u',h3,h4⟩ := zmc hl (hE.op (by simp [Op.operands])) hB rfl
     obtain rfl : u = _ := h2
     obtain rfl : u' = _ := h4
     first
     | exact ⟨_,ex_add hf h1 h3 hz,rfl⟩
     | exact ⟨_,ex_sub hf h1 h3 hz,rfl⟩
     | exact ⟨_,ex_mul hf h1 h3 hz,rfl⟩
     | exact ⟨_,ex_quo hf h1 h3 hz,rfl⟩
     | exact ⟨_,ex_rem hf h1 h3 hz,rfl⟩
     | exact ⟨_,ex_cat hf h1 h3 hz,rfl⟩)
end
end Go.Rk
end
section
namespace Go.Rk
open Go.RowKit Go.Dm Go.Dk
variable {τ : Nat → Type}
section
variable {ρ : Type} {X : Cx τ} {w0 w w' : World} {h0 h H : Fz} {F : List Nat} {o : Oper} {E : zF τ} {L L2 : Hp τ} {ν ν' : Vn τ} {φ φ' : Nat → List Nat} {nid nid' : Nat} {K : Nx τ ρ} {r : ρ} {v : XV τ} {U : Hp τ} {tch : List Nat} {g : List (XV τ)}
theorem zGW {i : Nat} {k : Bool → Hp τ → List Nat → Nat → Option ρ} (e : nlK X L nid i k = some r) : ∃ b U nid',k b U [i] nid' = some r ∧ nid ≤ nid' ∧
  ∀ (L2 : Hp τ) ν h φ (w : World),Mem X.P X.G w0 h0 F L2 w ν h φ → lk L2 i = lk L i → (∀ i,nid ≤ i → i < nid' → ν i = none) →
   ∃ ν' φ' u q,Mem X.P X.G w0 h0 F (U ++ L2) w ν' h φ' ∧ ν.le ν' ∧ zc4 ν ν' nid nid' ∧ ν i = some (.pointer u,q) ∧ (b = true → u = none) ∧ (b = false → ∃ bb,u = some ⟨bb,0,none⟩) := by
 unfold nlK at e
 split at e
 ·rename_i t cs hl
  refine ⟨false,[],nid,e,Nat.le_refl _,fun L2 ν h φ w M ha _ => ?_⟩
  have hr := M.res i
  rw [ha,hl] at hr
  obtain ⟨b,q,vs,h1,_⟩ := hr
  exact ⟨ν, φ,_,q,M,Vn.le.refl _,zc4.refl _ _ _,h1,(by simp),fun _ => ⟨b,rfl⟩⟩
 ·rename_i n y hl
  cases y with
  | none =>
   refine ⟨true,_,nid,e,Nat.le_refl _,fun L2 ν h φ w M ha _ => ?_⟩
   have hr := M.res i
   rw [ha,hl] at hr
   obtain ⟨v,q,h1,h2⟩ := hr
   obtain ⟨rfl,h3⟩ := Tr.pn_none h2
   obtain ⟨M1,hf⟩ := M.drop i
   have M2 := M1.put (i := i) (zaM ..) .nilp (fp := []) ⟨q,h1,rfl⟩ (fun b hb => by cases hb)
   refine ⟨ν,_,none,q,M2.congr fun j => ?_,Vn.le.refl _,zc4.refl _ _ _,h1,fun _ => rfl,by simp⟩
   by_cases hj : j = i
   ·subst hj; exact (zaM ..).trans (zaM ..).symm
   ·show lk ((i, .nilp) :: L2) j = _
    rw [zdj _ _ hj,zdj _ _ hj,zdj _ _ hj]
  | some y =>
   obtain ⟨U,n1,h1⟩ : ∃ U n1,zjd X.G i n y nid = (U,n1) := ⟨_,_,rfl⟩
   simp only [optK,h1] at e
   refine ⟨false,U,n1,e,?_,fun L2 ν h φ w M ha hn => ?_⟩
   ·unfold zjd at h1
    split at h1
    rename_i h2
    cases h1
    exact zjY (zgh X.G depth) h2
   ·obtain ⟨_, ν', φ',b,q,h2,h3,h4,h5⟩ := zDG M h1 (ha.trans hl) hn
    exact ⟨ν', φ',_,q,h2,h3,h4,h5,by simp,fun _ => ⟨b,rfl⟩⟩
 ·rename_i hl
  refine ⟨true,[],nid,e,Nat.le_refl _,fun L2 ν h φ w M ha _ => ?_⟩
  have hr := M.res i
  rw [ha,hl] at hr
  obtain ⟨q,h1,_⟩ := hr
  exact ⟨ν, φ,none,q,M,Vn.le.refl _,zc4.refl _ _ _,h1,fun _ => rfl,by simp⟩
 ·cases e
theorem zGX {i : Nat} {k : Hp τ → List Nat → Nat → Option ρ} (e : ptK X L nid i k = some r) : ∃ U nid',k U [i] nid' = some r ∧ nid ≤ nid' ∧
  ∀ (L2 : Hp τ) ν h φ (w : World),Mem X.P X.G w0 h0 F L2 w ν h φ → lk L2 i = lk L i → (∀ i,nid ≤ i → i < nid' → ν i = none) →
   ∃ ν' φ' b q,Mem X.P X.G w0 h0 F (U ++ L2) w ν' h φ' ∧ ν.le ν' ∧ zc4 ν ν' nid nid' ∧ ν i = some (ptr b 0,q) := by
 unfold ptK at e
 split at e
 ·rename_i t cs hl
  refine ⟨[],nid,e,Nat.le_refl _,fun L2 ν h φ w M ha _ => ?_⟩
  have hr := M.res i
  rw [ha,hl] at hr
  obtain ⟨b,q,vs,h1,_⟩ := hr
  exact ⟨ν, φ,b,q,M,Vn.le.refl _,zc4.refl _ _ _,h1⟩
 ·rename_i n y hl
  cases y with
  | none => cases e
  | some y =>
   obtain ⟨U,n1,h1⟩ : ∃ U n1,zjd X.G i n y nid = (U,n1) := ⟨_,_,rfl⟩
   simp only [Option.bind_some,h1] at e
   refine ⟨U,n1,e,?_,fun L2 ν h φ w M ha hn => ?_⟩
   ·unfold zjd at h1
    split at h1
    rename_i h2
    cases h1
    exact zjY (zgh X.G depth) h2
   ·obtain ⟨_, ν', φ',b,q,h2,h3,h4,h5⟩ := zDG M h1 (ha.trans hl) hn
    exact ⟨ν', φ',b,q,h2,h3,h4,h5⟩
 ·cases e

theorem zx8 {α : Type} : ∀ {n o : Nat} {cs l : List α},zsS cs o n = some l → l.length = n
 | 0,o,cs,l,e => by cases e; rfl
 | n + 1,o,cs,l,e => by
  unfold zsS at e
  split at e
  ·split at e
   ·rename_i h
    cases e
    simp [zx8 h]
   ·cases e
  ·cases e
theorem zD6 {a : Act} {Ea : Env} {N : Nat} {x : Operand} {t' t b ob k n : Nat} {dst : Option Nat} {p : String} {af : Array Edge} {gd : Option (Nat × Bool)} (hf : Fits N Ea a) (hx : evl Ea x = some (ptr b (ob + k))) {cs : List (CV τ)} {vs : List Value}
  (hs : zdi w (some ⟨b,ob,none⟩) vs) (hc : CVs X.P X.G h ν cs vs) (hn : szO X.P t' = some n) (e : zA0 X.P t' (zsS cs k n) = some v) : ∃ u,(execOp a.eval ⟨dst, .load t' x,t,p,af,gd⟩).run X.P w = .ok (.value u) w ∧ XOk X.P X.G h ν v u := by
 unfold zA0 at e
 split at e
 ·rename_i l hl
  obtain ⟨h1,h2⟩ := hc.cut hl
  have hlen := zx8 hl
  split at e
  ·rename_i ha
   cases e
   have h3 := h1.len
   exact ⟨_,zE6 (zuM ha) (zfn hn) hs rfl (by rw [h3,hlen]) hf hx,_,rfl,h1⟩
  ·rename_i ha
   split at e
   ·rename_i c
    cases e
    obtain ⟨u,us,h3,h4,h5⟩ := h1
    refine ⟨u,zE5 (zuM ha) hs ?_ hf hx,h4⟩
    have : ((vs.drop k).take n)[0]? = some u := by rw [h3]; rfl
    rw [List.getElem?_take] at this
    split at this
    ·simpa using this
    ·cases this
   ·cases e
  ·cases e
 ·cases e
theorem RpR.get {P : Program} {G : Sig τ} : ∀ {e : Ty} {xs : List (e.den τ)} {vs : List Value},RpR P G h e xs vs → ∀ {i : Nat} {z : e.den τ},xs[i]? = some z →
  RpL P G h (ets G e) (edt G e z) ((vs.drop (i * (ets G e).length)).take (ets G e).length) ∧ i * (ets G e).length + (ets G e).length ≤ vs.length
 | _,_,_, .nil _,_,_,hz => by simp at hz
 | _,_,_, .cons e x xs vs ws h1 h2,0,_,hz => by
  simp at hz
  subst hz
  have := h1.len
  refine ⟨?_,by simp [this]⟩
  rw [Nat.zero_mul,List.drop_zero,List.take_append_of_le_length (by omega),List.take_of_length_le (by omega)]
  exact h1
 | _,_,_, .cons e x xs vs ws h1 h2,i + 1,z,hz => by
  simp at hz
  obtain ⟨h3,h4⟩ := RpR.get h2 hz
  have := h1.len
  refine ⟨?_,by simp [Nat.add_mul,this]; omega⟩
  rw [Nat.add_mul,Nat.one_mul,List.drop_append,List.drop_eq_nil_of_le (by omega),List.nil_append,this,Nat.add_sub_cancel]
  exact h3
theorem zrb {α : Type} {xs : List α} {m : Int} {z : α} (e : lAt xs m = some z) : xs[m.toNat]? = some z ∧ 0 ≤ m := by
 unfold lAt at e
 split at e
 ·exact ⟨e, ‹_›⟩
 ·cases e
theorem zIe (M : Mem X.P X.G w0 h0 F L2 w ν h φ) {i k : Nat} {m : Int} {t e : Ty} {z : t.den τ} {o : Nat} {v : Value} {te : TypeId} {xs : List (e.den τ)} (hv : zcC X.P X.G h ν (.oe i k m t z o) v) (hl : lk L2 i = .row te e xs k) :
  ∃ b d vs,v = ptr b (d + m.toNat * (ets X.G t).length + o) ∧ zdi w (some ⟨b,d + m.toNat * (ets X.G t).length,none⟩) vs ∧ RpL X.P X.G h (ets X.G t) (edt X.G t z) vs := by
 obtain ⟨b,d,n,c,q,xs',u,h1,h2,h3,rfl⟩ := hv
 have hr := M.res i
 rw [hl] at hr
 obtain ⟨v',q',vs,u',h4,h5,h6,h7,h8⟩ := hr
 rw [h1] at h4
 cases h4
 rw [h2] at h8
 injection h8 with h8
 injection h8 with _ h8
 injection h8 with h8
 cases h8
 obtain ⟨hz,h0⟩ := zrb h3
 obtain ⟨h9,h10⟩ := h7.get hz
 refine ⟨b,d,_,rfl,?_,h9⟩
 obtain ⟨rfl,_⟩ := h6.len
 have hs := h6.sees
 obtain ⟨_,hlt,hc⟩ := hs
 refine .inr ⟨rfl,hlt,fun j u hj => ?_⟩
 rw [List.getElem?_take] at hj
 split at hj
 ·rw [List.getElem?_drop] at hj
  have := hc _ _ hj
  simpa [Nat.add_assoc] using this
 ·cases hj
theorem zAz (M : Mem X.P X.G w0 h0 F L2 w ν h φ) {i k : Nat} {t : TypeId} {cs : List (CV τ)} {v : Value} (hv : zcC X.P X.G h ν (.pt i k) v) (hl : lk L2 i = .blk t cs) :
  ∃ b q vs, ν i = some (ptr b 0,q) ∧ v = ptr b k ∧ φ i = [b] ∧ w.heap[b]? = some (.cells vs.toArray t (0,0)) ∧ CVs X.P X.G h ν cs vs ∧ zdi w (some ⟨b,0,none⟩) vs := by
 have hr := M.res i
 rw [hl] at hr
 obtain ⟨b,q,vs,h1,h2,h3,h4⟩ := hr
 obtain ⟨u,q',h5,rfl,_⟩ := hv
 rw [h1] at h5
 cases h5
 refine ⟨b,q,vs,h1,by simp [zs2],h2,h3,h4, .inr ⟨rfl,(Array.getElem?_eq_some_iff.1 h3).1,fun j v hj => by simp [World.cell?,h3,hj]⟩⟩
theorem zIf {n : Nat} {u : Value} (hu : zcC X.P X.G h ν (.ep n none) u) : zcC X.P X.G h ν .nl u := by cases hu; rfl
theorem zIg {n : Nat} {y : τ n} {u : Value} (hu : zcC X.P X.G h ν (.ep n (some y)) u) : zcC X.P X.G h ν (.ea (.st n) y 0) u := by
 cases hu with
 | pn1 _ _ _ hr => cases hr; rename_i b k vs hs hr; exact ⟨b,k,vs,rfl,hs,hr⟩
theorem zGY {x : Operand} {t' t : Nat} {dst : Option Nat} {p : String} {af : Array Edge} {gd : Option (Nat × Bool)} {c : CV τ} (hx : evC E x = some c) (e : zFt X L nid K t' c = some r) : zcR X w0 h0 F ⟨dst, .load t' x,t,p,af,gd⟩ E L nid K r := by
 unfold zFt at e
 split at e
 ·rename_i id o
  split at e
  ·rename_i bt cs hl
   split at e
   ·rename_i n hn
    split at e
    ·rename_i j hv
     cases hb : Nat.beq j id with
     | true => rw [hb] at e; cases e
     | false =>
      rw [hb] at e
      obtain ⟨b,U,nid',h1,h2,h3⟩ := zGW (w0 := w0) (h0 := h0) (F := F) e
      refine ⟨if b = true then .c .nl else .c (.pt j 0),[],U,[id,j],nid',?_,h2,fun _ h => by (cases h),fun L2 ν h φ a w next Q hd M hE ha hfr k => ?_⟩
      ·cases b <;> exact h1
      ·obtain ⟨Ea,hf,hl'⟩ := zdt a hd
       obtain ⟨u,h4,h5⟩ := zo hl' (hE.op (by simp [Op.operands])) hx
       obtain ⟨bb,q,vs,hν,rfl,_,hh,hc,hs⟩ := zAz M h5 ((ha id (by simp)).trans hl)
       obtain ⟨u,h6,h7⟩ := zD6 (ob := 0) (dst := dst) (t := t) (p := p) (af := af) (gd := gd) hf (by rw [Nat.zero_add]; exact h4) hs hc hn hv
       obtain ⟨ν', φ',uj,q',M',hle,hfre,hνj,hb1,hb0⟩ := h3 L2 ν h φ w M (ha j (by simp)) hfr
       obtain ⟨uj',q'',h8,h9,_⟩ := h7
       rw [hνj] at h8
       cases h8
       refine zfo h6 (k ν' h φ' w u M' hle (Fz.le.refl _) hfre ?_)
       cases b with
       | true =>
        rw [hb1 rfl] at h9
        subst h9
        rfl
       | false => exact ⟨uj,q',hle _ _ hνj,h9,fun e => (e rfl).elim⟩
    ·rename_i v _ hv
     refine zaH e fun L2 ν h φ a w hd M hE ha => ?_
     obtain ⟨Ea,hf,hl'⟩ := zdt a hd
     obtain ⟨u,h4,h5⟩ := zo hl' (hE.op (by simp [Op.operands])) hx
     obtain ⟨bb,q,vs,hν,rfl,_,hh,hc,hs⟩ := zAz M h5 ((ha id (by simp)).trans hl)
     exact zD6 (ob := 0) hf (by rw [Nat.zero_add]; exact h4) hs hc hn hv
    ·cases e
   ·cases e
  ·cases e
 ·rename_i ty z o
  split at e
  ·rename_i n hn
   have key : ∀ {v},zA0 X.P t' (zsS (zvx X.G ty z) o n) = some v → ∀ (L2 : Hp τ) ν h φ (a : Act) (w : World),a.defers = [] → Mem X.P X.G w0 h0 F L2 w ν h φ → zdU X h ν a (rdO (.load t' x)) E → ∃ u,(execOp a.eval ⟨dst, .load t' x,t,p,af,gd⟩).run X.P w = .ok (.value u) w ∧ XOk X.P X.G h ν v u := by
    intro v hv L2 ν h φ a w hd M hE
    obtain ⟨Ea,hf,hl'⟩ := zdt a hd
    obtain ⟨u,h4,h5⟩ := zo hl' (hE.op (by simp [Op.operands])) hx
    obtain ⟨b,k,vs,rfl,hs,hr⟩ := h5
    exact zD6 hf h4 (hs.sees M.on) (zyi hr) hn hv
   split at e
   ·rename_i n' y hv
    have fin : ∀ {c' : CV τ},K (.c c') [] [] [] nid = some r → (∀ {ν h u},zcC X.P X.G h ν (.ep n' y) u → zcC X.P X.G h ν c' u) → zcR X w0 h0 F ⟨dst, .load t' x,t,p,af,gd⟩ E L nid K r := by
     intro c' e hcc
     refine zaH e fun L2 ν h φ a w hd M hE ha => ?_
     obtain ⟨u,h1,h2⟩ := key hv L2 ν h φ a w hd M hE
     exact ⟨u,h1,hcc h2⟩
    cases y with
    | none => exact fin e zIf
    | some y => exact fin e zIg
   ·rename_i v _ hv
    exact zaH e fun L2 ν h φ a w hd M hE ha => key hv L2 ν h φ a w hd M hE
   ·cases e
  ·cases e
 ·rename_i id k m ty z o
  split at e
  ·rename_i te e' xs k' hl
   cases hb : Nat.beq k k' with
   | false => rw [hb] at e; cases e
   | true =>
    rw [hb] at e
    have hkk : k = k' := by simpa using hb
    subst hkk
    split at e
    ·rename_i n hn
     split at e
     ·rename_i v hv
      refine zaH e fun L2 ν h φ a w hd M hE ha => ?_
      obtain ⟨Ea,hf,hl'⟩ := zdt a hd
      obtain ⟨u,h4,h5⟩ := zo hl' (hE.op (by simp [Op.operands])) hx
      obtain ⟨b,d,vs,rfl,hs,hr⟩ := zIe M h5 ((ha id (by simp)).trans hl)
      exact zD6 hf h4 hs (zyi hr) hn hv
     ·cases e
    ·cases e
  ·cases e
 ·cases e
end
end Go.Rk
end
