/-
 When the models come to something: printed by a program (wip/gen/yt.py) off the models and a table. No program in sight.
 When the models come to something: printed by a program (wip/gen/yt.py) off the models and a table. No program in sight.
-/
import Derived.Test.YtlcienkhiklpaaaGreatDoorTXV
import Derived.Test.YtlcienkhiklpaaaGreatDoorYT0
set_option linter.unusedSimpArgs false
section
set_option linter.unusedVariables false
set_option maxRecDepth 10000
set_option maxHeartbeats 2000000
namespace Go.Dm
instance (b : UInt8) : T (zb9 b) True (fun r => r = zzG b) := bt (by decide +kernel) b

instance (b : UInt8) : T (zat b) True (fun r => r = zag b) := bt (by decide +kernel) b

instance (x_b : UInt8) (x_l : Str) : T (zg6 x_b x_l) (True) (fun r => True) := ⟨fun h => by unfold zg6; exact go⟩

instance (b : UInt8) : T (zd4 b) True (fun r => r = zla b) := bt (by decide +kernel) b

instance {P : Bool → Prop} (k0 : Int → Option Bool) (f0 : (UInt8 → Option Bool)) (s6 : Str) (i10 : Int) (i15 : Int) (n : Nat) (i16 : Int) {g : UInt8 → Bool} [∀ b,T (f0 b) True (fun r => r = g b)] : K (zgn k0 f0 s6 i10 i15 n i16) P ((i15 = s6.length ∧ 0 ≤ i16 ∧ i16 ≤ i15 ∧ i15 < i16 + n ∧ s6.length ≤ 4611686018427387904 ∧ 0 ≤ i10 ∧ i10 ≤ 4611686018427387904 ∧ ((dr s6 i16).all g = false → P false)) ∧ (∀ i,i = i10 + 1 ∧ (dr s6 i16).all g = true → W (k0 i) P)) := by
 induction n generalizing i16 with
 | zero => exact ⟨fun h => goz⟩
 | succ n ih => exact ⟨fun ⟨h,hk0⟩ => by have hk0 := fun a0 => K.mk (hk0 a0); unfold zgn; exact goN⟩

instance (f0 : (UInt8 → Option Bool)) (l8 : List Str) (i9 : Int) (n : Nat) (i10 : Int) {g : UInt8 → Bool} [∀ b,T (f0 b) True (fun r => r = g b)] : T (zeL f0 l8 i9 n i10) (i9 = l8.length ∧ 0 ≤ i10 ∧ i10 ≤ i9 ∧ i9 < i10 + n ∧ Sm l8) (fun r => r = (dr l8 i10).all fun s => s.all g) := by
 induction n generalizing i10 with
 | zero => exact ⟨fun h => goz⟩
 | succ n ih => exact ⟨fun h => by unfold zeL; exact goN⟩

instance (x_is : (UInt8 → Option Bool)) (x_l : List Str) {g : UInt8 → Bool} [∀ b,T (x_is b) True (fun r => r = g b)] : T (za6 x_is x_l) (Sm x_l) (fun r => r = x_l.all fun s => s.all g) := ⟨fun h => by unfold za6; exact goN⟩

instance (x_s : Str) : T (zca x_s) (x_s.length < 1000000000) (fun r => r = zbc x_s) := ⟨fun h => by unfold zca; exact goN⟩

instance {P : (List Str × Int) → Prop} (k0 : List Str → Int → Option (List Str × Int)) (l4 : List Str) (l7 : List Str) (i13 : Int) (i26 : Int) (n : Nat) (i27 : Int) : K (zdk k0 l4 l7 i13 i26 n i27) P ((Sm l7 ∧ i26 = l7.length ∧ 0 ≤ i27 ∧ i27 ≤ i26 ∧ i26 < i27 + n ∧ l4.length + l7.length ≤ 4000000000000 ∧ 0 ≤ i13 ∧ i13 ≤ 10000 ∧ ((dr l7 i27).all zbc = false → P ([],2))) ∧ (∀ l i,l = l4 ++ l7 ∧ i = i13 + 1 ∧ (dr l7 i27).all zbc = true → W (k0 l i) P)) := by
 induction n generalizing i27 with
 | zero => exact ⟨fun h => goz⟩
 | succ n ih => exact ⟨fun ⟨h,hk0⟩ => by have hk0 := fun a0 a1 => K.mk (hk0 a0 a1); unfold zdk; exact goN⟩

instance (l11 : List Str) (i12 : Int) (n : Nat) (l4 : List Str) (i13 : Int) : T (zcg l11 i12 n l4 i13) (Ss l11 ∧ i12 = l11.length ∧ 0 ≤ i13 ∧ i13 ≤ i12 ∧ i12 < i13 + n ∧ l4.length ≤ i13 * 20000001 ∧ ∀ s ∈ l4,s.length ≤ 20000000) (fun r => r.1.length ≤ i12 * 20000001 ∧ (∀ s ∈ r.1,s.length ≤ 20000000) ∧ r = ans (tkR l4 (dr l11 i13))) := by
 induction n generalizing l4 i13 with
 | zero => exact ⟨fun h => goz⟩
 | succ n ih => exact ⟨fun h => by unfold zcg; exact goN⟩

instance (x_l : List Str) : T (zfd x_l) (Ss x_l) (fun r => r.1.length ≤ x_l.length * 20000001 ∧ (∀ s ∈ r.1,s.length ≤ 20000000) ∧ r = ans (tks x_l)) := ⟨fun h => by unfold zfd; exact goN⟩

instance (l0 : List Str) (s1 : Str) (i7 : Int) (n : Nat) (i8 : Int) : T (zB l0 s1 i7 n i8) (i7 = l0.length ∧ 0 ≤ i8 ∧ i8 ≤ i7 ∧ i7 < i8 + n ∧ l0.length < 1000000000000) (fun r => -1 ≤ r ∧ r < l0.length ∧ (0 ≤ r ↔ s1 ∈ dr l0 i8)) := by
 induction n generalizing i8 with
 | zero => exact ⟨fun h => goz⟩
 | succ n ih => exact ⟨fun h => by unfold zB; exact goN⟩

instance (x_s : List Str) (x_v : Str) : T (zR x_s x_v) (x_s.length < 1000000000000) (fun r => -1 ≤ r ∧ r < x_s.length ∧ (0 ≤ r ↔ x_v ∈ x_s)) := ⟨fun h => by unfold zR; exact goN⟩

instance (x_s : List Str) (x_v : Str) : T (zt x_s x_v) (x_s.length < 1000000000000) (fun r => r = decide (x_v ∈ x_s)) := ⟨fun h => by unfold zt; exact goN⟩

instance {P : (List Str) → Prop} (k0 : List Str → Int → Option (List Str)) (i14 : Int) (l24 : List Str) (i25 : Int) (n : Nat) (l3 : List Str) (i26 : Int) : K (zbl k0 i14 l24 i25 n l3 i26) P ((l24.length ≤ 20000001 ∧ (∀ s ∈ l24,s.length ≤ 20000000) ∧ i25 = l24.length ∧ 0 ≤ i26 ∧ i26 ≤ i25 ∧ i25 < i26 + n ∧ l3.length ≤ i14 * 20000001 + i26 ∧ (∀ s ∈ l3,s.length ≤ 20000000) ∧ 0 ≤ i14 ∧ i14 ≤ 10000) ∧ (∀ l i,(l.length : Int) ≤ i * 20000001 ∧ i = i14 + 1 ∧ (∀ s ∈ l,s.length ≤ 20000000) ∧ l = nmA l3 (dr l24 i26) → W (k0 l i) P)) := by
 induction n generalizing l3 i26 with
 | zero => exact ⟨fun h => goz⟩
 | succ n ih => exact ⟨fun ⟨h,hk0⟩ => by have hk0 := fun a0 a1 => K.mk (hk0 a0 a1); unfold zbl zeM; exact goN⟩

instance (l12 : List Str) (i13 : Int) (n : Nat) (l3 : List Str) (i14 : Int) : T (zbm l12 i13 n l3 i14) (Ss l12 ∧ i13 = l12.length ∧ 0 ≤ i14 ∧ i14 ≤ i13 ∧ i13 < i14 + n ∧ l3.length ≤ i14 * 20000001 ∧ ∀ s ∈ l3,s.length ≤ 20000000) (fun r => r.length ≤ i13 * 20000001 ∧ (∀ s ∈ r,s.length ≤ 20000000) ∧ r = nmB l3 (dr l12 i14)) := by
 induction n generalizing l3 i14 with
 | zero => exact ⟨fun h => goz⟩
 | succ n ih => exact ⟨fun h => by unfold zbm; exact goN⟩

instance (x_l : List api_Field) : T (zhm x_l) (Fm x_l) (fun r => r.length ≤ 200000010000 ∧ (∀ s ∈ r,s.length ≤ 20000000) ∧ r = nom x_l) := ⟨fun h => by unfold zhm; exact goN⟩

instance : T zkc True (fun r => r = zjM ∧ r.length = 8 ∧ ∀ s ∈ r,s.length ≤ 20) := ⟨fun _ => ⟨_,rfl,rfl,by decide +kernel⟩⟩

instance (x_s : Str) (x_a1 : Str) : T (zfV x_s x_a1) (x_s.length < 1000000000 ∧ x_a1.length < 1000000000) (fun r => r = (low x_s == low x_a1)) := ⟨fun h => by unfold zfV; exact go⟩

instance (l0 : List Str) (u1 : Str) (i7 : Int) (n : Nat) (i8 : Int) : T (zp l0 u1 i7 n i8) (Sm l0 ∧ u1.length < 1000000000 ∧ i7 = l0.length ∧ 0 ≤ i8 ∧ i8 ≤ i7 ∧ i7 < i8 + n) (fun r => -1 ≤ r ∧ r < l0.length ∧ inN u1 (dr l0 i8) = decide (0 ≤ r)) := by
 induction n generalizing i8 with
 | zero => exact ⟨fun h => goz⟩
 | succ n ih => exact ⟨fun h => by unfold zp; exact goN⟩

instance (x_s : List Str) (x_f : Str) : T (zG x_s x_f) (Sm x_s ∧ x_f.length < 1000000000) (fun r => -1 ≤ r ∧ r < x_s.length ∧ inN x_f x_s = decide (0 ≤ r)) := ⟨fun h => by unfold zG; exact goN⟩

instance (x_s : List Str) (x_f : Str) : T (zA x_s x_f) (Sm x_s ∧ x_f.length < 1000000000) (fun r => r = inN x_f x_s) := ⟨fun h => by unfold zA; exact goN⟩

instance (x_name : Str) (x_names : List Str) : T (zkP x_name x_names) (Sm x_names ∧ x_name.length < 1000000000) (fun r => r = inN x_name x_names) := ⟨fun h => by unfold zkP; exact goN⟩

instance (x_f : api_Field) (x_a1 : List Str) : T (zav x_f x_a1) (Sm x_a1 ∧ x_f.Name.length < 1000000000) (fun r => r = inN x_f.Name x_a1) := ⟨fun h => by unfold zav; exact goN⟩

instance (l0 : List api_Field) (u1 : List Str) (i7 : Int) (n : Nat) (i8 : Int) : T (zm l0 u1 i7 n i8) (Fm l0 ∧ Sm u1 ∧ i7 = l0.length ∧ 0 ≤ i8 ∧ i8 ≤ i7 ∧ i7 < i8 + n) (fun r => -1 ≤ r ∧ r < l0.length ∧ (r = -1 → zbt u1 (dr l0 i8) = dr l0 i8) ∧ (0 ≤ r → i8 ≤ r ∧ zbt u1 (dr l0 i8) = sb l0 i8 r ++ zbt u1 (dr l0 (r + 1)))) := by
 induction n generalizing i8 with
 | zero => exact ⟨fun h => goz⟩
 | succ n ih => exact ⟨fun h => by unfold zm; exact goN⟩

instance (x_s : List api_Field) (x_f : List Str) : T (zy x_s x_f) (Fm x_s ∧ Sm x_f) (fun r => -1 ≤ r ∧ r < x_s.length ∧ (r = -1 → zbt x_f x_s = x_s) ∧ (0 ≤ r → zbt x_f x_s = tk x_s r ++ zbt x_f (dr x_s (r + 1)))) := ⟨fun h => by unfold zy; exact goN⟩

instance (u1 : List Str) (n : Nat) (l0 : List api_Field) (i5 : Int) (i6 : Int) : T (zl u1 n l0 i5 i6) (Fm l0 ∧ Sm u1 ∧ 0 ≤ i5 ∧ i5 ≤ i6 ∧ i6 ≤ l0.length ∧ l0.length < i6 + n) (fun r => Fm r ∧ r.length ≤ l0.length ∧ i5 ≤ r.length ∧ r = tk l0 i5 ++ zbt u1 (dr l0 i6)) := by
 induction n generalizing l0 i5 i6 with
 | zero => exact ⟨fun h => goz⟩
 | succ n ih => exact ⟨fun h => by unfold zl; exact goN⟩

instance (x_s : List api_Field) (x_del : List Str) : T (zr x_s x_del) (Fm x_s ∧ Sm x_del) (fun r => Fm r ∧ r.length ≤ x_s.length ∧ r = zbt x_del x_s) := ⟨fun h => by unfold zr; exact goN⟩

instance (x_b : bag_Bag) (x_names : List Str) : T (zaw x_b x_names) (Fm x_b.f_l ∧ Sm x_names) (fun r => Fm r.2.f_l ∧ 0 ≤ r.1 ∧ r.2.f_l.length ≤ x_b.f_l.length ∧ r.2.f_l = zbt x_names x_b.f_l) := ⟨fun h => by unfold zaw; exact goN⟩

instance (x_l : List api_Field) : T (zg7 x_l) (Fm x_l) (fun r => Fm r ∧ r.length ≤ x_l.length ∧ r = zbt (nom x_l ++ zjM) x_l) := ⟨fun h => by unfold zg7; exact goN⟩

end Go.Dm
end
section
set_option linter.unusedVariables false
set_option maxRecDepth 10000
set_option maxHeartbeats 2000000
namespace Go.Dm
instance (x_b : UInt8) : T (zhn x_b) True (fun r => 0 ≤ r ∧ r ≤ 265 ∧ (zag x_b = true → r = (x_b.toNat : Int) - 48)) := ⟨fun _ => by
 have := zeG (p := fun b => match zhn b with | some r => decide (0 ≤ r ∧ r ≤ 265 ∧ (zag b = true → r = (b.toNat : Int) - 48)) | none => false) (by decide +kernel) x_b
 split at this
 ·rename_i r e; exact ⟨r,e,of_decide_eq_true this⟩
 ·cases this⟩

instance (s0 : Str) (i1 : Int) (i2 : Int) (i23 : Int) (n : Nat) (i10 : Int) (i24 : Int) : T (zdW s0 i1 i2 i23 n i10 i24) (i23 = s0.length ∧ 0 ≤ i24 ∧ i24 ≤ i23 ∧ i23 < i24 + n ∧ i23 < 1000000000 ∧ 1 ≤ i1 ∧ 0 ≤ i2 ∧ i2 ≤ 9223372036854775807 ∧ 0 ≤ i10 ∧ i10 ≤ i2) (fun r => 0 ≤ r.1 ∧ r.1 ≤ i2 ∧ (i1 = 10 → dgs (dr s0 i24) = true → dvI i10 (dr s0 i24) ≤ i2 → r = (dvI i10 (dr s0 i24),0))) := by
 induction n generalizing i10 i24 with
 | zero => exact ⟨fun h => goz⟩
 | succ n ih => exact ⟨fun h => by rcases Decidable.em (i1 = 10) with he|he <;> (try subst he) <;> (unfold zdW; exact goD)⟩

instance (x_s : Str) (x_base : Int) (x_most : Int) (x_is : (UInt8 → Option Bool)) {g : UInt8 → Bool} [∀ b,T (x_is b) True (fun r => r = g b)] : T (zin x_s x_base x_most x_is) (x_s.length < 1000000000 ∧ 1 ≤ x_base ∧ 0 ≤ x_most ∧ x_most ≤ 9223372036854775807) (fun r => 0 ≤ r.1 ∧ r.1 ≤ x_most ∧ (x_base = 10 → g = zag → dgs x_s = true → x_s ≠ [] → dvI 0 x_s ≤ x_most → r = (dvI 0 x_s,0))) := ⟨fun h => by unfold zin; exact goD⟩

instance (x_s : Str) (x_most : Int) : T (zbS x_s x_most) (x_s.length < 1000000000 ∧ 0 ≤ x_most ∧ x_most ≤ 9223372036854775807) (fun r => 0 ≤ r.1 ∧ r.1 ≤ x_most ∧ (dgs x_s = true → x_s ≠ [] → dvI 0 x_s ≤ x_most → r = (dvI 0 x_s,0))) := ⟨fun h => by unfold zbS; exact goA⟩

instance (x_n : Int) (x_base : Int) : T (zio x_n x_base) (x_base = 10 ∧ x_n ≤ 9223372036854775807) (fun r => r.length ≤ 21 ∧ if 0 ≤ x_n then r = Go.Lib.decDigits x_n.toNat else r = []) := ⟨fun h => by unfold zio; exact goA⟩

instance (x_n : Int) : T (zaL x_n) (x_n ≤ 9223372036854775807) (fun r => r.length ≤ 21 ∧ if 0 ≤ x_n then r = Go.Lib.decDigits x_n.toNat else r = []) := ⟨fun h => by unfold zaL; exact goA⟩

instance (x_s : Str) (x_most : Int) : T (zaF x_s x_most) (x_s.length < 1000000000 ∧ 0 ≤ x_most ∧ x_most ≤ 9223372036854775807) (fun r => r = true ↔ zfP x_s x_most) := ⟨fun h => by unfold zaF; exact goA⟩

instance (s : Str) : T (zaG s) (s.length < 1000000000) (fun r => r = true ↔ zj0 s) := ⟨fun h => by
 have hm : ∀ x ∈ zk 46 s, ∃ b,zaF x 255 = some b ∧ (b = true ↔ zfP x 255) := fun x hx =>
  (inferInstance : T (zaF x 255) _ _).ok (by have := (zo4 46 s).2 x hx; omega)
 have key : ∀ l : List Str,(∀ x ∈ l, ∃ b,zaF x 255 = some b ∧ (b = true ↔ zfP x 255)) → ∃ bs,l.mapM (fun x => zaF x 255) = some bs ∧ bs.length = l.length ∧ (bs.all id = true ↔ ∀ x ∈ l,zfP x 255) := by
  intro l hl
  induction l with
  | nil => exact ⟨[],rfl,rfl,by simp⟩
  | cons x l ih =>
   obtain ⟨bs,e,h1,h2⟩ := ih fun x hx => hl x (List.mem_cons_of_mem _ hx)
   obtain ⟨b,eb,hb⟩ := hl x List.mem_cons_self
   exact ⟨b :: bs,by simp [List.mapM_cons,e,eb],by simp [h1],by simp [hb, ← h2]⟩
 obtain ⟨bs,e,h1,h2⟩ := key _ hm
 refine ⟨_,by rw [zaG,if_pos h,e]; rfl,?_⟩
 show _ = true ↔ _
 rw [Bool.and_eq_true,h2,decide_eq_true_eq,h1]
 unfold zj0
 constructor
 ·rintro ⟨a,b⟩; exact ⟨by omega,a⟩
 ·rintro ⟨a,b⟩; exact ⟨b,by omega⟩⟩

end Go.Dm
end
