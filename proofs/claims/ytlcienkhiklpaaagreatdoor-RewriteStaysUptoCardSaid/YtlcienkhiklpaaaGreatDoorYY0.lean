/-
 When the models come to something: printed by a program (wip/gen/yt.py) off the models and a table. No program in sight.
 When the models come to something: printed by a program (wip/gen/yt.py) off the models and a table. No program in sight.
 When the models come to something: printed by a program (wip/gen/yt.py) off the models and a table. No program in sight.
 When the models come to something: printed by a program (wip/gen/yt.py) off the models and a table. No program in sight.
 When the models come to something: printed by a program (wip/gen/yt.py) off the models and a table. No program 
-/
import Derived.Test.YtlcienkhiklpaaaGreatDoorTXV
import Derived.Test.YtlcienkhiklpaaaGreatDoorYT2
import Derived.Test.YtlcienkhiklpaaaGreatDoorYT0
import Derived.Test.YtlcienkhiklpaaaGreatDoorYR6
import Derived.Test.YtlcienkhiklpaaaGreatDoorTXH
import Derived.Test.YtlcienkhiklpaaaGreatDoorTXL
set_option linter.unusedSimpArgs false
section
set_option linter.unusedVariables false
set_option maxRecDepth 10000
set_option maxHeartbeats 2000000
namespace Go.Dm
instance (b : UInt8) : T (zdt b) True (fun r => r = ziF b) := bt (by decide +kernel) b

instance (t1 : Bool) (l5 : List Str) (i14 : Int) (n : Nat) (i6 : Int) (i15 : Int) : T (zaa t1 l5 i14 n i6 i15) (Sm l5 ∧ i14 = l5.length ∧ 0 ≤ i15 ∧ i15 ≤ i14 ∧ i14 < i15 + n ∧ 0 ≤ i6 ∧ i6 ≤ 2 * i15) (fun r => -1 ≤ r ∧ r ≤ 2 * l5.length ∧ ∀ k,Grp t1 (dr l5 i15) k → r = i6 + k) := by
 induction n generalizing i6 i15 with
 | zero => exact ⟨fun h => goz⟩
 | succ n ih => exact ⟨fun h => by unfold zaa zcn zcm; exact goA⟩

instance (x_s : Str) (x_last : Bool) : T (zcL x_s x_last) (x_s.length < 1000000000) (fun r => -1 ≤ r ∧ r ≤ 4000000000000 ∧ ∀ k,Grp x_last (spt x_s) k → r = k) := ⟨fun h => by unfold zcL; exact goA⟩

instance (x_s : Str) : T (zeN x_s) (x_s.length < 1000000000) (fun r => zvc x_s → r = true) := ⟨fun h => by unfold zeN; exact goA⟩

instance (x_s : Str) : T (zeO x_s) (True) (fun r => r = pct x_s ∧ (r = true → 3 ≤ x_s.length)) := ⟨fun h => by unfold zeO; exact goQ⟩

instance (b : UInt8) : T (zbn b) True (fun r => r = zmp b) := bt (by decide +kernel) b

instance (b : UInt8) : T (zfW b) True (fun r => r = zyn b) := bt (by decide +kernel) b

instance  (n : Nat) (s0 : Str) : T (zbo n s0) (s0.length < n ∧ s0.length < 1000000000) (fun r => r = zhO s0) := by
 induction n generalizing s0 with
 | zero => exact ⟨fun h => goz⟩
 | succ n ih => exact ⟨fun h => by unfold zbo; exact goQ⟩

instance (x_s : Str) : T (zd5 x_s) (x_s.length < 1000000000) (fun r => r = true ↔ x_s ≠ [] ∧ zhO x_s = true) := ⟨fun h => by unfold zd5; exact goQ⟩

instance (x_s : Str) : T (zhQ x_s) (x_s.length < 1000000000) (fun r => r.1.Name.length ≤ x_s.length ∧ r.1.Port = -1 ∧ (zic x_s → r.2 = true) ∧ (r.2 = true → 58 ∈ x_s → ∃ m,x_s = m ++ [93])) := ⟨fun h => by unfold zhQ zdl; exact goA⟩

theorem lib_w (s : Str) (b : UInt8) : ∀ (n : Nat) (i : Int), -1 ≤ i → i < s.length → i + 1 < n → i < 1000000000 →
  ∃ r,zY s b n i = some r ∧ ((r = -1 ∧ b ∉ tk s (i + 1)) ∨ (0 ≤ r ∧ r ≤ i ∧ dr s r = b :: dr s (r + 1) ∧ b ∉ sb s (r + 1) (i + 1)))
 | 0,i,h1,h2,h3,_ => by omega
 | n + 1,i,h1,h2,h3,h4 => by
  unfold zY
  by_cases h0 : 0 ≤ i
  ·obtain ⟨x,e,hx⟩ := (inferInstance : T (sAt s i) _ _).ok ⟨h0,h2⟩
   have hx := hx.2.2
   rw [if_pos (by simpa using h0),e]
   by_cases hb : x = b
   ·subst hb
    exact ⟨i,by simp, .inr ⟨h0,Int.le_refl _,hx,by rw [zpO]; simp⟩⟩
   ·obtain ⟨r,er,hr⟩ := lib_w s b n (i - 1) (by omega) (by omega) (by omega) (by omega)
    have e1 : zcH i 1 = some (i - 1) := by simp [zcH,inI]; omega
    refine ⟨r,by simp [hb,e1,er],?_⟩
    rw [Int.sub_add_cancel] at hr
    rcases hr with ⟨a,c⟩ | ⟨a,a2,c,d⟩
    ·left; refine ⟨a,?_⟩; rw [zqD h0 hx]; simp; exact ⟨c,fun e => hb e.symm⟩
    ·right; refine ⟨a,by omega,c,?_⟩
     rw [zyq (by omega) (by omega : r + 1 ≤ i) (by omega : i ≤ i + 1) (by omega),hx]
     simp; exact ⟨d,fun e => hb e.symm⟩
  ·have hi : i = -1 := by omega
   subst hi
   exact ⟨-1,by simp, .inl ⟨rfl,by rw [show (-1 : Int) + 1 = 0 from rfl,zsv]; simp⟩⟩

instance (x_s : Str) (x_c : UInt8) : T (zaj x_s x_c) (x_s.length < 1000000000) (fun r => -1 ≤ r ∧ r < x_s.length ∧ (r = -1 → x_c ∉ x_s) ∧ (0 ≤ r → dr x_s r = x_c :: dr x_s (r + 1) ∧ x_c ∉ dr x_s (r + 1))) := ⟨fun h => by
 obtain ⟨r,e,hr⟩ := lib_w x_s x_c fuel ((x_s.length : Int) - 1) (by omega) (by omega) (by unfold fuel; omega) (by omega)
 have e1 : zcH (x_s.length : Int) 1 = some ((x_s.length : Int) - 1) := by simp [zcH,inI]; omega
 rw [Int.sub_add_cancel,zzH (Int.le_refl _),sb_e (Int.le_refl _)] at hr
 rcases hr with ⟨a,c⟩ | ⟨a,b,c,d⟩
 ·exact ⟨r,by rw [zaj,e1]; exact e,by omega,by omega,fun _ => c,fun h => by omega⟩
 ·exact ⟨r,by rw [zaj,e1]; exact e,by omega,by omega,fun h => by omega,fun _ => ⟨c,d⟩⟩⟩

instance (x_s : Str) (x_c : UInt8) : T (zbg x_s x_c) (x_s.length < 1000000000) (fun r => -1 ≤ r ∧ r < x_s.length ∧ (r = -1 → x_c ∉ x_s) ∧ (0 ≤ r → dr x_s r = x_c :: dr x_s (r + 1) ∧ x_c ∉ dr x_s (r + 1))) := ⟨fun h => by unfold zbg; exact goA⟩

instance (x_s : Str) : T (zbE x_s) (x_s.length < 1000000000) (fun r => r.1.Name.length ≤ x_s.length ∧ -1 ≤ r.1.Port ∧ r.1.Port ≤ 65535 ∧ (zic x_s ∨ zjb x_s → r.2 = 0) ∧ (zjb x_s → 0 ≤ r.1.Port)) := ⟨fun h => by unfold zbE; exact goA⟩

instance (x_s : Str) (x_prefix : Str) : T (stringslite_HasPrefix x_s x_prefix) (True) (fun r => r = x_prefix.isPrefixOf x_s ∧ (r = true → x_prefix.length ≤ x_s.length)) := ⟨fun h => by unfold stringslite_HasPrefix; exact goP⟩

instance (x_s : Str) (x_prefix : Str) : T (strings_HasPrefix x_s x_prefix) (True) (fun r => r = x_prefix.isPrefixOf x_s ∧ (r = true → x_prefix.length ≤ x_s.length)) := ⟨fun h => by unfold strings_HasPrefix; exact goP⟩

end Go.Dm
end
section
set_option linter.unusedVariables false
set_option maxRecDepth 10000
set_option maxHeartbeats 2000000
namespace Go.Dm
instance (b : UInt8) : T (zeP b) True (fun r => r = zsu b) := bt (by decide +kernel) b

instance (s0 : Str) (s1 : Str) (n : Nat) (i5 : Int) : T (zcb s0 s1 n i5) (0 ≤ i5 ∧ i5 ≤ s0.length ∧ s0.length < i5 + n ∧ s0.length < 1000000000 ∧ 37 ∉ s1) (fun r => r = pqM s1 (dr s0 i5)) := by
 induction n generalizing i5 with
 | zero => exact ⟨fun h => goz⟩
 | succ n ih => exact ⟨fun h => by unfold zcb zhR; exact goM⟩

instance (x_s : Str) (x_more : Str) : T (zml x_s x_more) (x_s.length < 1000000000 ∧ 37 ∉ x_more) (fun r => r = pqM x_more x_s) := ⟨fun h => by unfold zml; exact goM⟩

instance (x_s : Str) : T (zkQ x_s) (x_s.length < 1000000000) (fun r => zrI x_s → r = true) := ⟨fun h => by unfold zkQ; exact goT⟩

instance (x_s : Str) : T (zjd x_s) (x_s.length < 1000000000) (fun r => zgl x_s → r = true) := ⟨fun h => by unfold zjd; exact goT⟩

instance (x_s : Str) : T (zkd x_s) (x_s.length < 1000000000) (fun r => r.1.length ≤ x_s.length ∧ r.2.1.length ≤ x_s.length ∧ (zj2 x_s → r.2.2.2 = 0)) := ⟨fun h => by unfold zkd; exact goT⟩

instance (x_t : api_Target) (x_s : Str) : T (zhS x_t x_s) (Tm x_t ∧ x_s.length ≤ 10000000) (fun r => Tm r.1 ∧ ((x_s = [] ∨ (∃ q,x_s = 63 :: q ∧ zgl q) ∨ zj2 x_s) → r.2 = true) ∧ r.1.Path.length ≤ x_t.Path.length + x_s.length + 1 ∧ r.1.Query.length ≤ x_t.Query.length + x_s.length + 1) := ⟨fun h => by unfold zhS zgp zgo; exact goT⟩

instance (x_s : Str) : T (zfs x_s) (x_s.length ≤ 10000000) (fun r => Tm r.1 ∧ (zyV x_s → r.2 = true) ∧ r.1.Path.length ≤ x_s.length + 1 ∧ r.1.Query.length ≤ x_s.length + 1) := ⟨fun h => by unfold zfs zco zdC; exact goT⟩

instance (x_method : Str) (x_s : Str) : T (zmE x_method x_s) (x_s.length ≤ 10000000) (fun r => Tm r.1 ∧ (x_s = [42] → x_method = [79,80,84,73,79,78,83] → r.2 = true) ∧ (zj2 x_s ∨ zyV x_s → r.2 = true) ∧ r.1.Path.length ≤ x_s.length + 1 ∧ r.1.Query.length ≤ x_s.length + 1) := ⟨fun h => by unfold zmE; exact goT⟩

instance (x_method : Str) (x_s : Str) : T (zgq x_method x_s) (x_s.length ≤ 10000000) (fun r => Tm r.1 ∧ (zoB x_method x_s → r.2 = 0) ∧ r.1.Path.length ≤ x_s.length + 1 ∧ r.1.Query.length ≤ x_s.length + 1) := ⟨fun h => by unfold zgq zft; exact goT⟩

end Go.Dm
end
section
set_option linter.unusedVariables false
set_option maxRecDepth 10000
set_option maxHeartbeats 2000000
namespace Go.Dm
instance (x_sep : Str) (x_l : List Str) : T (zbT x_sep x_l) (x_sep.length ≤ 10 ∧ sl x_l + 10 * x_l.length ≤ 100000000000000) (fun r => r.length ≤ sl x_l + 10 * x_l.length ∧ r = Go.Lib.join x_l x_sep) := ⟨fun h => by unfold zbT; exact go⟩

instance (f1 : (UInt8 → Option Bool)) (i5 : Int) (n : Nat) (vp0 : scan_Scanner) {g : UInt8 → Bool} [∀ b,T (f1 b) True (fun r => r = g b)] : T (zaV f1 i5 n vp0) (Cw vp0 ∧ 0 ≤ i5 ∧ i5 ≤ vp0.f_at ∧ vp0.f_s.length < vp0.f_at + n) (fun r => Cw r.2 ∧ r.2.f_s = vp0.f_s ∧ vp0.f_at ≤ r.2.f_at ∧ r.1.length ≤ vp0.f_s.length ∧ (r.1.length : Int) = r.2.f_at - i5 ∧ r.1 = sb vp0.f_s i5 vp0.f_at ++ (dr vp0.f_s vp0.f_at).takeWhile g ∧ dr r.2.f_s r.2.f_at = (dr vp0.f_s vp0.f_at).dropWhile g) := by
 induction n generalizing vp0 with
 | zero => exact ⟨fun h => goz⟩
 | succ n ih => exact ⟨fun h => by unfold zaV; exact goW⟩

instance (x_c : scan_Scanner) (x_is : (UInt8 → Option Bool)) {g : UInt8 → Bool} [∀ b,T (x_is b) True (fun r => r = g b)] : T (zL x_c x_is) (Cw x_c) (fun r => Cw r.2 ∧ r.2.f_s = x_c.f_s ∧ x_c.f_at ≤ r.2.f_at ∧ r.1.length ≤ x_c.f_s.length ∧ (r.1.length : Int) = r.2.f_at - x_c.f_at ∧ r.1 = (dr x_c.f_s x_c.f_at).takeWhile g ∧ dr r.2.f_s r.2.f_at = (dr x_c.f_s x_c.f_at).dropWhile g) := ⟨fun h => by unfold zL; exact goW⟩

instance (x_c : scan_Scanner) : T (z7 x_c) (Cw x_c) (fun r => Cw r.2.2 ∧ r.2.2.f_s = x_c.f_s ∧ x_c.f_at ≤ r.2.2.f_at ∧ r.1.length ≤ x_c.f_s.length ∧ (r.1.length : Int) = r.2.2.f_at - x_c.f_at ∧ r.2.1 = !(r.1 == []) ∧ r.1 = (dr x_c.f_s x_c.f_at).takeWhile zla ∧ dr r.2.2.f_s r.2.2.f_at = (dr x_c.f_s x_c.f_at).dropWhile zla) := ⟨fun h => by unfold z7; exact goW⟩

instance (x_f : api_Field) : T (zdY x_f) (x_f.Name.length < 1000000000 ∧ x_f.Value.length < 1000000000) (fun r => zx1 x_f → r = 0) := ⟨fun h => by unfold zdY; exact goW⟩

instance (x_c : scan_Scanner) (x_t : Str) : T (za8 x_c x_t) (Cw x_c ∧ x_t.length ≤ 1000) (fun r => Cw r.2 ∧ r.2.f_s = x_c.f_s ∧ (if r.1 = true then r.2.f_at = x_c.f_at + x_t.length else r.2 = x_c) ∧ ∀ t,dr x_c.f_s x_c.f_at = x_t ++ t → r.1 = true ∧ dr x_c.f_s r.2.f_at = t) := ⟨fun h => by unfold za8; exact goW⟩

instance (x_s : Str) (x_chars : Str) : T (strings_ContainsAny x_s x_chars) (x_s.length < 4294967281 ∧ x_chars.length < 4294967281 ∧ x_chars.all (fun c => c.toNat < 128) = true) (fun r => (∀ x ∈ x_s,x ∉ x_chars) → r = false) := ⟨fun h => by unfold strings_ContainsAny; exact goW⟩

end Go.Dm
end
section
set_option linter.unusedVariables false
set_option maxRecDepth 10000
set_option maxHeartbeats 2000000
namespace Go.Dm
instance (x_p : startline_line) : T (zbH x_p) (Cw x_p.Scanner) (fun r => 0 ≤ r.1 ∧ r.1 ≤ 255 ∧ Cw r.2.2 ∧ r.2.2.f_s = x_p.Scanner.f_s ∧ x_p.Scanner.f_at ≤ r.2.2.f_at ∧ ∀ c t,dr x_p.Scanner.f_s x_p.Scanner.f_at = c :: t → zag c = true → r.1 = (c.toNat : Int) - 48 ∧ r.2.1 = true ∧ dr x_p.Scanner.f_s r.2.2.f_at = t) := ⟨fun h => by unfold zbH; exact goW⟩

instance (x_p : startline_line) : T (za1 x_p) (Cw x_p.Scanner) (fun r => Cw r.2.2.2 ∧ r.2.2.2.f_s = x_p.Scanner.f_s ∧ x_p.Scanner.f_at ≤ r.2.2.2.f_at ∧ (∀ d,dr x_p.Scanner.f_s x_p.Scanner.f_at = ver d → d = 48 ∨ d = 49 → r.1 = 1 ∧ r.2.1 = (d.toNat : Int) - 48 ∧ r.2.2.1 = true ∧ dr x_p.Scanner.f_s r.2.2.2.f_at = []) ∧ ∀ d t,dr x_p.Scanner.f_s x_p.Scanner.f_at = ver d ++ t → d = 48 ∨ d = 49 → r.1 = 1 ∧ r.2.1 = (d.toNat : Int) - 48 ∧ r.2.2.1 = true ∧ dr x_p.Scanner.f_s r.2.2.2.f_at = t) := ⟨fun h => by unfold za1; exact goW⟩

instance (x_s : Str) : T (zbU x_s) (x_s.length < 1000000000) (fun r => ∀ d,d = 48 ∨ d = 49 → x_s = ver d → r = false) := ⟨fun h => by
 have : W (zbU x_s) (fun _ => True) := by unfold zbU; exact goW
 obtain ⟨r,e,_⟩ := this
 exact ⟨r,e,fun d hd hx => by subst hx; rw [ver_o d hd] at e; cases e; rfl⟩⟩

instance (b : UInt8) : T (zaf b) True (fun r => r = (gd zaf) b) := bt (by decide +kernel) b

instance (x_p : startline_line) : T (zbI x_p) (Cw x_p.Scanner) (fun r => Cw r.2.2 ∧ r.2.2.f_s = x_p.Scanner.f_s ∧ x_p.Scanner.f_at ≤ r.2.2.f_at ∧ (∀ d,dr x_p.Scanner.f_s x_p.Scanner.f_at = ver d → d = 48 ∨ d = 49 → r.1 = (d.toNat : Int) - 48 ∧ r.2.1 = true ∧ dr x_p.Scanner.f_s r.2.2.f_at = []) ∧ ∀ d t,dr x_p.Scanner.f_s x_p.Scanner.f_at = ver d ++ t → d = 48 ∨ d = 49 → r.1 = (d.toNat : Int) - 48 ∧ r.2.1 = true ∧ dr x_p.Scanner.f_s r.2.2.f_at = t) := ⟨fun h => by unfold zbI; exact goW⟩

end Go.Dm
end
section
set_option linter.unusedVariables false
set_option maxRecDepth 10000
set_option maxHeartbeats 2000000
namespace Go.Dm
instance (x_a0 : Str) : T (zei x_a0) (x_a0.length ≤ 10000000) (fun r => ∀ m t d,x_a0 = zoX m t d → zbc m = true → 32 ∉ t → d = 48 ∨ d = 49 → zoB m t → r = (⟨1,m,t,0,[],(d.toNat : Int) - 48,[]⟩,0)) := ⟨fun h => by unfold zei; exact goX⟩

instance (x_a0 : Str) : T (zeW x_a0) (x_a0.length ≤ 10000000) (fun r => ∀ d n w,x_a0 = zyi d (Go.Lib.decDigits (Int.toNat n)) w → d = 48 ∨ d = 49 → 100 ≤ n → n ≤ 599 → vls w = true → r = (⟨2,[],[],n,w,(d.toNat : Int) - 48,[]⟩,0)) := ⟨fun h => by unfold zeW; exact goX⟩

end Go.Dm
end
section
set_option linter.unusedVariables false
set_option maxRecDepth 10000
set_option maxHeartbeats 2000000
namespace Go.Dm
instance (x_kind : Int) (x_s : Str) : T (zfE x_kind x_s) (x_s.length ≤ 10000000) (fun r => (∀ m t d,x_kind = 1 → x_s = zoX m t d → zbc m = true → 32 ∉ t → 10 ∉ t → 13 ∉ t → d = 48 ∨ d = 49 → zoB m t → r = (⟨1,m,t,0,[],(d.toNat : Int) - 48,[]⟩,0)) ∧ ∀ d n w,x_kind = 2 → x_s = zyi d (Go.Lib.decDigits (Int.toNat n)) w → d = 48 ∨ d = 49 → 100 ≤ n → n ≤ 599 → vls w = true → r = (⟨2,[],[],n,w,(d.toNat : Int) - 48,[]⟩,0)) := ⟨fun h => by unfold zfE zdL; exact goY⟩

instance (x_a0 : api_Head) : T (zgB x_a0) (x_a0.Method.length ≤ 100000 ∧ x_a0.Target.length ≤ 100000 ∧ x_a0.Reason.length ≤ 100000 ∧ x_a0.Code ≤ 9223372036854775807 ∧ x_a0.Minor ≤ 9223372036854775807) (fun r => slP x_a0 → r.2 = 0) := ⟨fun h => by unfold zgB zej za2; exact goY⟩

instance (l25 : List Str) (i26 : Int) (n : Nat) (i27 : Int) : T (zc8 l25 i26 n i27) (Ss l25 ∧ i26 = l25.length ∧ 0 ≤ i27 ∧ i27 ≤ i26 ∧ i26 < i27 + n) (fun r => (∀ v ∈ dr l25 i27,v = [] ∨ zic v ∨ zjb v) → r = true) := by
 induction n generalizing i27 with
 | zero => exact ⟨fun h => goz⟩
 | succ n ih => exact ⟨fun h => by unfold zc8 zhA; exact goZ⟩

instance (x_h : api_Head) : T (zkZ x_h) (Fm x_h.Fields) (fun r => whP x_h → (x_h.Minor = 0 ∨ x_h.Minor = 1) → r = true) := ⟨fun h => by unfold zkZ; exact goZ⟩

instance (x_h : api_Head) : T (zk0 x_h) (Fm x_h.Fields) (fun r => whP x_h → (x_h.Minor = 0 ∨ x_h.Minor = 1) → r = 0) := ⟨fun h => by unfold zk0; exact goZ⟩

instance (v1 : api_Head) (l17 : List api_Field) (i18 : Int) (n : Nat) (i19 : Int) : T (zfj v1 l17 i18 n i19) (Fm l17 ∧ Fm v1.Fields ∧ i18 = l17.length ∧ 0 ≤ i19 ∧ i19 ≤ i18 ∧ i18 < i19 + n) (fun r => (∀ f ∈ dr l17 i19,zx1 f) → whP v1 → (v1.Minor = 0 ∨ v1.Minor = 1) → r = 0) := by
 induction n generalizing i19 with
 | zero => exact ⟨fun h => goz⟩
 | succ n ih => exact ⟨fun h => by unfold zfj; exact goZ⟩

instance (x_h : api_Head) : T (zk1 x_h) (Fm x_h.Fields ∧ x_h.Method.length ≤ 100000 ∧ x_h.Target.length ≤ 100000 ∧ x_h.Reason.length ≤ 100000 ∧ x_h.Code ≤ 9223372036854775807 ∧ x_h.Minor ≤ 9223372036854775807) (fun r => hokP x_h → r = 0) := ⟨fun h => by unfold zk1; exact goZ⟩

end Go.Dm
end
section
set_option linter.unusedVariables false
set_option maxRecDepth 10000
set_option maxHeartbeats 2000000
namespace Go.Dm
instance (x_path : Str) (x_query : Str) (x_has : Bool) : T (zkR x_path x_query x_has) (x_path.length ≤ 1000000000 ∧ x_query.length ≤ 1000000000) (fun r => r.length ≤ x_path.length + x_query.length + 1) := ⟨fun h => by unfold zkR; exact go⟩

instance (x_t : api_Target) : T (zho x_t) (Tm x_t) (fun r => r.length ≤ x_t.Path.length + x_t.Query.length + 3) := ⟨fun h => by unfold zho zeQ; exact go⟩

instance (x_h : api_Host) : T (zhp x_h) (x_h.Name.length ≤ 20000000 ∧ x_h.Port ≤ 65535) (fun r => r.1.length ≤ x_h.Name.length + 100) := ⟨fun h => by unfold zhp zeS zeR; exact go⟩

instance (x_x : api_Field) (x_a1 : Str) : T (zcc x_x x_a1) (x_x.Name.length < 1000000000 ∧ x_a1.length < 1000000000) (fun r => True) := ⟨fun h => by unfold zcc; exact go1⟩

instance (l0 : List api_Field) (u1 : Str) (i7 : Int) (n : Nat) (i8 : Int) : T (zw l0 u1 i7 n i8) (Fm l0 ∧ u1.length < 1000000000 ∧ i7 = l0.length ∧ 0 ≤ i8 ∧ i8 ≤ i7 ∧ i7 < i8 + n) (fun r => -1 ≤ r ∧ r < l0.length) := by
 induction n generalizing i8 with
 | zero => exact ⟨fun h => goz⟩
 | succ n ih => exact ⟨fun h => by unfold zw; exact go1⟩

instance (x_s : List api_Field) (x_f : Str) : T (zI x_s x_f) (Fm x_s ∧ x_f.length < 1000000000) (fun r => -1 ≤ r ∧ r < x_s.length) := ⟨fun h => by unfold zI; exact go1⟩

instance (x_b : bag_Bag) (x_name : Str) : T (zfX x_b x_name) (Fm x_b.f_l ∧ x_name.length < 1000000000) (fun r => r.1.length ≤ 20000000) := ⟨fun h => by unfold zfX; exact go1⟩

instance (x_b : bag_Bag) (x_l : List api_Field) : T (zbx x_b x_l) (x_b.f_l.length + x_l.length ≤ 1000000000000) (fun r => r.f_l = x_b.f_l ++ x_l) := ⟨fun h => by unfold zbx; exact go1⟩

theorem zBA (a b : Str) : zar a b = zar b a := by
 unfold zar
 cases zX a <;> cases zX b <;> simp [BEq.comm]
theorem rem1 (f : api_Field) (u : Str) : zav f [u] = zcc f u := by
 unfold zav zcc zkP zA zG
 obtain ⟨n,hn⟩ : ∃ n,fuel = n + 1 + 1 := ⟨999999999999999998,rfl⟩
 rw [hn]
 have c := zBA u f.Name
 cases h : zar f.Name u with
 | none =>
  rw [h] at c
  simp [zp,zfV,lAt,c]
 | some b =>
  rw [h] at c
  cases b <;> simp [zp,zfV,lAt,c,zn,inI]
theorem idxR (l : List api_Field) (u : Str) (k : Int) : ∀ (n : Nat) (i : Int),zm l [u] k n i = zw l u k n i
 | 0,_ => rfl
 | n + 1,i => by
  unfold zm zw
  simp only [rem1,idxR l u k n]
instance (x_b : bag_Bag) (x_name x_value : Str) : T (zc5 x_b x_name x_value) (Fm x_b.f_l ∧ x_name.length ≤ 20000000 ∧ x_value.length ≤ 20000000) (fun r => Fv r.f_l ∧ r.f_l.length ≤ x_b.f_l.length + 1 ∧ ∀ k,Vb k x_b.f_l → x_value.length ≤ k → Vb k r.f_l) := ⟨fun ⟨h,hn,hv⟩ => by
 obtain ⟨j,e,h1,h2⟩ := (inferInstance : T (zI x_b.f_l x_name) _ _).ok ⟨h,by omega⟩
 unfold zc5
 rw [e]
 show W (if _ then _ else _) _
 refine Wi (fun hj => ?_) fun hj => ?_
 ·with_reducible refine Wc ?_ ?_
  ·have := h.1
   simp only [List.length_cons,List.length_nil]; omega
  ·intro r hr
   refine Ws ?_
   rw [hr]
   unfold Fm Fv at *
   refine ⟨fun f hf => ?_,by simp,fun k hk hx => zDK hk hx⟩
   simp only [List.mem_append,List.mem_singleton] at hf
   rcases hf with hf | rfl
   ·exact h.2 f hf
   ·exact ⟨hn,hv⟩
 ·have hj0 : 0 ≤ j := by simpa using hj
  have e2 : zy x_b.f_l [x_name] = some j := by
   rw [← e]; exact idxR _ _ _ _ _
  have hs : Sm [x_name] := by unfold Sm; simp; omega
  have hl := h.1
  obtain ⟨d,ed,hd1,hd2,hd3,hd5⟩ := (inferInstance : T (zl [x_name] fuel x_b.f_l j (j + 1)) _ _).ok ⟨h,hs,hj0,by omega,by omega,by unfold fuel; omega⟩
  have e3 : zr x_b.f_l [x_name] = some d := by
   unfold zr
   rw [e2]
   show (if _ then _ else _) = _
   rw [if_neg (by simp; omega),show zn j 1 = some (j + 1) by simp [zn,inI]; omega]
   exact ed
  unfold zaw
  rw [e3]
  show W (((zcH _ _).bind fun r2 => some (r2,(⟨d⟩ : bag_Bag))).bind _) _
  rw [show zcH (x_b.f_l.length : Int) (d.length : Int) = some ((x_b.f_l.length : Int) - d.length) by simp [zcH,inI]; omega]
  show W ((zam d j [⟨x_name,x_value⟩]).bind _) _
  have hd4 := hd1.1
  with_reducible refine Wc ⟨rfl,hj0,hd3,by omega⟩ ?_
  intro r hr
  refine Ws ?_
  refine ⟨fun f hf => ?_,by show r.length ≤ _; omega,fun k hk hx f hf => ?_⟩
  rotate_left
  ·rcases hr.2 f hf with hf | hf
   ·rw [hd5] at hf
    rcases List.mem_append.1 hf with hf | hf
    ·exact hk f (List.mem_of_mem_take hf)
    ·exact hk f (List.mem_of_mem_drop (zv8 hf))
   ·simp only [List.mem_singleton] at hf
    subst hf; exact hx
  rcases hr.2 f hf with hf | hf
  ·exact hd1.2 f hf
  ·simp only [List.mem_singleton] at hf
   subst hf
   exact ⟨hn,hv⟩⟩

instance (x_w : stage_worker) (x_env : api_Env) (x_t : api_Target) : T (za7 x_w x_env x_t) (Fm x_w.Bag.f_l ∧ x_w.Bag.f_l.length ≤ 9000 ∧ x_env.Host.length ≤ 20000000 ∧ x_t.Host.Name.length ≤ 10000000 ∧ x_t.Host.Port ≤ 65535) (fun r => (r.f_h = x_w.f_h ∧ Fv r.Bag.f_l ∧ r.Bag.f_l.length ≤ x_w.Bag.f_l.length + 2) ∧ (Vb 11000000 x_w.Bag.f_l → x_env.Host.length ≤ 11000000 → Vb 11000000 r.Bag.f_l)) := ⟨fun h => by unfold za7 za0; exact zsl⟩

instance (x_w : stage_worker) : T (zad x_w) (Fm x_w.Bag.f_l) (fun r => r.1.Kind = x_w.f_h.Kind ∧ r.1.Method = x_w.f_h.Method ∧ r.1.Target = x_w.f_h.Target ∧ r.1.Code = x_w.f_h.Code ∧ r.1.Reason = x_w.f_h.Reason ∧ r.1.Minor = x_w.f_h.Minor ∧ r.1.Fields = x_w.Bag.f_l ∧ r.2 = 0) := ⟨fun h => by unfold zad; exact go1⟩

instance (x_s : Str) (x_prefix : Str) : T (stringslite_CutPrefix x_s x_prefix) (True) (fun r => r.1.length ≤ x_s.length) := ⟨fun h => by unfold stringslite_CutPrefix; exact go1⟩

instance (x_s : Str) (x_prefix : Str) : T (strings_CutPrefix x_s x_prefix) (True) (fun r => r.1.length ≤ x_s.length) := ⟨fun h => by unfold strings_CutPrefix; exact go1⟩

instance (x_s : Str) (x_suffix : Str) : T (stringslite_HasSuffix x_s x_suffix) (x_s.length < 1000000000) (fun r => r = true → x_suffix.length ≤ x_s.length) := ⟨fun h => by unfold stringslite_HasSuffix; exact go1⟩

instance (x_s : Str) (x_suffix : Str) : T (strings_HasSuffix x_s x_suffix) (x_s.length < 1000000000) (fun r => r = true → x_suffix.length ≤ x_s.length) := ⟨fun h => by unfold strings_HasSuffix; exact go1⟩

instance (s0 : Str) (l10 : List api_Swap) (i11 : Int) (n : Nat) (i12 : Int) : T (zcp s0 l10 i11 n i12) (s0.length < 1000000000 ∧ Swm l10 ∧ i11 = l10.length ∧ 0 ≤ i12 ∧ i12 ≤ i11 ∧ i11 < i12 + n) (fun r => r.1.length ≤ s0.length + 1000) := by
 induction n generalizing i12 with
 | zero => exact ⟨fun h => goz⟩
 | succ n ih => exact ⟨fun h => by unfold zcp; exact go1⟩

instance (x_s : Str) (x_l : List api_Swap) : T (zje x_s x_l) (x_s.length < 1000000000 ∧ Swm x_l) (fun r => r.1.length ≤ x_s.length + 1000) := ⟨fun h => by unfold zje; exact go1⟩

instance (b : UInt8) : T (zcM b) True (fun r => r = (gd zcM) b) := bt (by decide +kernel) b

instance (x_s : Str) : T (zhq x_s) (x_s.length < 1000000000) (fun r => True) := ⟨fun h => by unfold zhq; exact go1⟩

instance (x_s : Str) (x_l : Str) : T (zer x_s x_l) (x_s.length < 1000001001 ∧ x_l.length < 1000 ∧ x_l.all (fun c => c.toNat < 128) = true) (fun r => r.1.length ≤ x_s.length ∧ r.2.length ≤ x_s.length) := ⟨fun h => by unfold zer; exact go1⟩

instance (x_s : Str) : T (ziq x_s) (x_s.length < 1000000000) (fun r => Um r) := ⟨fun h => by unfold ziq zfy zfx zfw zfv zfu; exact go1⟩

instance (s0 : Str) (s1 : Str) (n : Nat) (i5 : Int) : T (zba s0 s1 n i5) (0 ≤ i5 ∧ i5 ≤ s0.length ∧ s0.length < i5 + n ∧ s0.length < 1000000000) (fun r => True) := by
 induction n generalizing i5 with
 | zero => exact ⟨fun h => goz⟩
 | succ n ih => exact ⟨fun h => by unfold zba zfz; exact go1⟩

instance (x_s : Str) (x_more : Str) : T (zdD x_s x_more) (x_s.length < 1000000000) (fun r => True) := ⟨fun h => by unfold zdD; exact go1⟩

instance (x_r : api_Ref) : T (zjf x_r) (Um x_r) (fun r => True) := ⟨fun h => by unfold zjf; exact go1⟩

instance (x_s : Str) : T (zir x_s) (x_s.length < 1000000000) (fun r => Um r.1) := ⟨fun h => by unfold zir; exact go1⟩

instance (x_s : Str) : T (zhT x_s) (x_s.length < 1000000000) (fun r => True) := ⟨fun h => by unfold zhT; exact go1⟩

instance (x_s : Str) (x_l : List api_Swap) : T (zeT x_s x_l) (x_s.length ≤ 900000000 ∧ Swm x_l) (fun r => r.length ≤ x_s.length + 1000) := ⟨fun h => by unfold zeT; exact go1⟩

instance (b : UInt8) : T (zd6 b) True (fun r => r = (gd zd6) b) := bt (by decide +kernel) b

instance (x_s : Str) : T (zhU x_s) (x_s.length < 1000000000) (fun r => r.1.Name.length + r.1.Value.length ≤ x_s.length) := ⟨fun h => by unfold zhU zgr; exact go1⟩

instance (x_s : Str) (x_suffix : Str) : T (stringslite_CutSuffix x_s x_suffix) (x_s.length < 1000000000) (fun r => r.1.length ≤ x_s.length) := ⟨fun h => by unfold stringslite_CutSuffix; exact go1⟩

instance (x_s : Str) (x_suffix : Str) : T (strings_CutSuffix x_s x_suffix) (x_s.length < 1000000000) (fun r => r.1.length ≤ x_s.length) := ⟨fun h => by unfold strings_CutSuffix; exact go1⟩

instance (b : UInt8) : T (zeU b) True (fun r => r = (gd zeU) b) := bt (by decide +kernel) b

instance (x_s : Str) : T (zis x_s) (x_s.length < 1000000000) (fun r => True) := ⟨fun h => by unfold zis; exact go1⟩

end Go.Dm
end
section
set_option linter.unusedVariables false
set_option maxRecDepth 10000
set_option maxHeartbeats 2000000
namespace Go.Dm
instance (l41 : List Str) (i42 : Int) (n : Nat) (v7 : api_Cookie) (i43 : Int) : T (zdX l41 i42 n v7 i43) (Sm l41 ∧ i42 = l41.length ∧ 0 ≤ i43 ∧ i43 ≤ i42 ∧ i42 < i43 + n ∧ v7.Attrs.length ≤ i43) (fun r => r.1.Name.length ≤ v7.Name.length ∧ r.1.Value.length ≤ v7.Value.length ∧ r.1.Attrs.length ≤ l41.length ∧ ∀ a ∈ r.1.Attrs,a ∈ v7.Attrs ∨ ∃ s ∈ l41,a.Name.length + a.Value.length ≤ s.length) := by
 induction n generalizing v7 i43 with
 | zero => exact ⟨fun h => goz⟩
 | succ n ih => exact ⟨fun h => by unfold zdX; exact go1⟩

instance (x_s : Str) : T (zgs x_s) (x_s.length < 1000000000) (fun r => r.1.Name.length ≤ x_s.length ∧ r.1.Value.length ≤ x_s.length ∧ r.1.Attrs.length ≤ x_s.length + 1 ∧ ∀ a ∈ r.1.Attrs,a.Name.length + a.Value.length ≤ x_s.length) := ⟨fun h => by unfold zgs; exact go1⟩

instance (s1 : Str) (v2 : api_Cookie) (n : Nat) (i5 : Int) : T (zes s1 v2 n i5) (-1 ≤ i5 ∧ i5 < v2.Attrs.length ∧ i5 + 1 < n ∧ s1.length < 1000000000 ∧ Ac v2) (fun r => -1 ≤ r ∧ r < v2.Attrs.length) := by
 induction n generalizing i5 with
 | zero => exact ⟨fun h => goz⟩
 | succ n ih => exact ⟨fun h => by unfold zes; exact go1⟩

instance (x_c : api_Cookie) (x_name : Str) : T (zhV x_c x_name) (x_name.length < 1000000000 ∧ Ac x_c) (fun r => -1 ≤ r ∧ r < x_c.Attrs.length) := ⟨fun h => by unfold zhV; exact go1⟩

instance (x_c : api_Cookie) (x_name : Str) : T (zkS x_c x_name) (x_name.length < 1000000000 ∧ Ac x_c) (fun r => r.1.length = 0 ∨ ∃ a ∈ x_c.Attrs,r.1 = a.Value) := ⟨fun h => by unfold zkS; exact go1⟩

instance (x_s : Str) (x_prefix : Str) : T (stringslite_TrimPrefix x_s x_prefix) (True) (fun r => r.length ≤ x_s.length) := ⟨fun h => by unfold stringslite_TrimPrefix; exact go1⟩

instance (x_s : Str) (x_prefix : Str) : T (strings_TrimPrefix x_s x_prefix) (True) (fun r => r.length ≤ x_s.length) := ⟨fun h => by unfold strings_TrimPrefix; exact go1⟩

instance (x_name : Str) (x_domain : Str) : T (zgt x_name x_domain) (x_name.length < 1000000000 ∧ x_domain.length < 900000000) (fun r => r = true → x_domain.length ≤ x_name.length) := ⟨fun h => by unfold zgt; exact go1⟩

instance (s0 : Str) (s6 : Str) (l11 : List api_Swap) (i12 : Int) (n : Nat) (i13 : Int) : T (zet s0 s6 l11 i12 n i13) (s6.length < 1000000000 ∧ Swm l11 ∧ i12 = l11.length ∧ 0 ≤ i13 ∧ i13 ≤ i12 ∧ i12 < i13 + n) (fun r => r.1.length ≤ s0.length + s6.length + 1000) := by
 induction n generalizing i13 with
 | zero => exact ⟨fun h => goz⟩
 | succ n ih => exact ⟨fun h => by unfold zet; exact go1⟩

instance (x_name : Str) (x_l : List api_Swap) : T (zjg x_name x_l) (x_name.length < 1000000000 ∧ Swm x_l) (fun r => r.1.length ≤ 2 * x_name.length + 1000) := ⟨fun h => by unfold zjg; exact go1⟩

instance (s1 : Str) (s2 : Str) (i7 : Int) (l20 : List api_Attr) (i21 : Int) (n : Nat) (v8 : api_Cookie) (i22 : Int) : T (zby s1 s2 i7 l20 i21 n v8 i22) (s1.length ≤ 5000 ∧ s2.length ≤ 5000 ∧ i21 = l20.length ∧ 0 ≤ i22 ∧ i22 ≤ i21 ∧ i21 < i22 + n ∧ l20.length ≤ 1001 ∧ v8.Attrs.length ≤ i22 ∧ (∀ a ∈ l20,a.Name.length ≤ 5000 ∧ a.Value.length ≤ 5000) ∧ Km v8) (fun r => Km r) := by
 induction n generalizing v8 i22 with
 | zero => exact ⟨fun h => goz⟩
 | succ n ih => exact ⟨fun h => by unfold zby zhs zhr zht; exact go1⟩

instance (x_c : api_Cookie) (x_name : Str) (x_value : Str) : T (zkT x_c x_name x_value) (x_name.length ≤ 5000 ∧ x_value.length ≤ 5000 ∧ Km x_c ∧ x_c.Attrs.length ≤ 1001) (fun r => Km r) := ⟨fun h => by unfold zkT; exact go1⟩

instance (l0 : List api_Attr) (l1 : List api_Attr) (i12 : Int) (n : Nat) (i13 : Int) : T (zM l0 l1 i12 n i13) (i12 = l0.length ∧ i12 = l1.length ∧ 0 ≤ i13 ∧ i13 ≤ i12 ∧ i12 < i13 + n ∧ l0.length < 1000000000000) (fun r => True) := by
 induction n generalizing i13 with
 | zero => exact ⟨fun h => goz⟩
 | succ n ih => exact ⟨fun h => by unfold zM; exact go1⟩

instance (x_s1 : List api_Attr) (x_s2 : List api_Attr) : T (zak x_s1 x_s2) (x_s1.length < 1000000000000) (fun r => True) := ⟨fun h => by unfold zak; exact go1⟩

instance (x_a : api_Cookie) (x_b : api_Cookie) : T (zjh x_a x_b) (x_a.Attrs.length < 1000000000000) (fun r => True) := ⟨fun h => by unfold zjh; exact go1⟩

instance (v1 : api_Cookie) (l18 : List api_Attr) (i19 : Int) (n : Nat) (l4 : List Str) (i20 : Int) : T (zdm v1 l18 i19 n l4 i20) (Km v1 ∧ i19 = l18.length ∧ 0 ≤ i20 ∧ i20 ≤ i19 ∧ i19 < i20 + n ∧ l18.length ≤ 1002 ∧ l4.length ≤ i20 + 1 ∧ sl l4 ≤ (i20 + 1) * 10001 ∧ ∀ a ∈ l18,a.Name.length ≤ 5000 ∧ a.Value.length ≤ 5000) (fun r => r.1.length ≤ 11000000) := by
 induction n generalizing l4 i20 with
 | zero => exact ⟨fun h => goz⟩
 | succ n ih => exact ⟨fun h => by unfold zdm; exact go1⟩

instance (x_c : api_Cookie) : T (zji x_c) (Km x_c) (fun r => r.1.length ≤ 11000000) := ⟨fun h => by unfold zji; exact go1⟩

instance (x_s : Str) (x_l : List api_Swap) : T (zfA x_s x_l) (x_s.length ≤ 1000 ∧ Swm x_l) (fun r => r.length ≤ 11000000) := ⟨fun h => by unfold zfA; exact go1⟩

instance (i12 : Int) (n : Nat) (v2 : api_Env) (l5 : List api_Field) (i13 : Int) : T (zT i12 n v2 l5 i13) (i12 = l5.length ∧ l5.length ≤ 10000 ∧ 0 ≤ i13 ∧ i13 ≤ i12 ∧ i12 < i13 + n ∧ Swm v2.Domains ∧ Swm v2.Locations ∧ Fv l5 ∧ Vb 11000000 l5 ∧ ∀ k f,i13 ≤ k → lAt l5 k = some f → f.Value.length ≤ 1000) (fun r => (r.length = l5.length ∧ Fv r) ∧ Vb 11000000 r) := by
 induction n generalizing v2 l5 i13 with
 | zero => exact ⟨fun h => goz⟩
 | succ n ih => exact ⟨fun h => by unfold zT zcq; exact zsl⟩

instance (x_env : api_Env) (x_l : List api_Field) : T (zcN x_env x_l) (Fm x_l ∧ Swm x_env.Domains ∧ Swm x_env.Locations ∧ ∀ f ∈ x_l,f.Value.length ≤ 1000) (fun r => (r.length = x_l.length ∧ Fv r) ∧ Vb 11000000 r) := ⟨fun h => by unfold zcN; exact zsl⟩

instance (x_a0 : api_Env) (x_a1 : api_Head) : T (zfY x_a0 x_a1) (Fm x_a1.Fields ∧ x_a1.Fields.length ≤ 8000 ∧ (∀ f ∈ x_a1.Fields,f.Value.length ≤ 1000) ∧ x_a1.Target.length ≤ 9000000 ∧ x_a0.Host.length ≤ 11000000 ∧ Swm x_a0.Domains ∧ Swm x_a0.Locations) (fun r => (Fv r.1.Fields ∧ r.1.Fields.length ≤ x_a1.Fields.length + 2) ∧ Vb 11000000 r.1.Fields ∧ r.1.Target.length ≤ 20000000 ∧ r.1.Method.length ≤ x_a1.Method.length ∧ (r.1.Code = x_a1.Code ∨ r.1.Code = 0)) := ⟨fun h => by unfold zfY; exact zsl⟩

instance (x_name : Str) (x_value : Str) : T (zbz x_name x_value) (True) (fun r => r = ⟨x_name,x_value⟩) := ⟨fun h => by unfold zbz; exact go1⟩

instance (x_env : api_Env) (x_h : api_Head) : T (zjj x_env x_h) (x_env.Client.length ≤ 20000000 ∧ x_env.Host.length ≤ 20000000 ∧ x_env.Scheme.length ≤ 20000000 ∧ x_h.Target.length ≤ 20000000 ∧ x_h.Method.length ≤ 20000000 ∧ x_h.Code ≤ 9223372036854775807) (fun r => Pm r) := ⟨fun h => by unfold zjj; exact go1⟩

instance {α : Type} (l : List α) : T (Go.Rk.nnl l) (1 ≤ l.length) (fun _ => True) := ⟨fun h => by
 cases l with
 | nil => simp at h
 | cons x l => exact ⟨_,rfl,trivial⟩⟩
theorem zAx (old new : Str) : ∀ (k : Nat) (s : Str),(Go.Lib.replaceK old new k s).length ≤ s.length + k * new.length
 | 0,s => by simp [Go.Lib.replaceK]
 | k + 1,s => by
  unfold Go.Lib.replaceK
  split
  ·omega
  ·have := zAx old new k (s.drop ((Go.Lib.index s old).toNat + old.length))
   simp only [List.length_append,List.length_take,List.length_drop,Nat.add_mul] at this ⊢
   omega
instance (s old new : Str) : T (strings_ReplaceAll s old new) (s.length ≤ 1000000000 ∧ 1 ≤ old.length ∧ new.length ≤ 10) (fun r => r.length ≤ 11 * s.length + 10) := ⟨fun ⟨h1,h2,h3⟩ => by
 have c : Go.Lib.countB ⟨s.toArray⟩ ⟨old.toArray⟩ ≤ s.length + 1 := by
  have := Go.Lib.count_le s old
  unfold Go.Lib.countB
  simpa using this
 have c2 : Go.Lib.countB ⟨s.toArray⟩ ⟨old.toArray⟩ * new.length ≤ (s.length + 1) * 10 := Nat.mul_le_mul c h3
 refine ⟨_,by rw [strings_ReplaceAll,if_pos ⟨by omega,h2,by omega⟩],?_⟩
 unfold Go.Lib.replaceAll Go.Lib.replace
 split
 ·omega
 ·have a := zAx old new (Go.Lib.replaceNum s old (-1)) s
  have b : Go.Lib.replaceNum s old (-1) ≤ s.length + 1 := by
   unfold Go.Lib.replaceNum
   rw [if_pos (.inl (by omega))]
   exact Go.Lib.count_le s old
  have c : Go.Lib.replaceNum s old (-1) * new.length ≤ (s.length + 1) * 10 := Nat.mul_le_mul b h3
  omega⟩
instance (x_side : Int) : T (ziV x_side) True (fun r => ∀ l,r = some l → 1 ≤ l.length ∧ l.length ≤ 10) := ⟨fun _ => by
 unfold ziV
 refine Wi (fun _ => Ws ?_) fun _ => Wi (fun _ => Ws ?_) fun _ => Ws ?_
 ·rintro l ⟨⟩; simp
 ·rintro l ⟨⟩; simp
 ·rintro l ⟨⟩⟩

instance (x_g : api_Guard) : T (zkU x_g) (Gm x_g) (fun r => True) := ⟨fun h => by unfold zkU zhu; exact go1⟩

instance (x_name : Str) : T (ziH x_name) (x_name.length < 1000000000) (fun r => True) := ⟨fun h => by unfold ziH; exact go1⟩

instance (x_name : Str) : T (ziI x_name) (x_name.length < 1000000000) (fun r => True) := ⟨fun h => by unfold ziI; exact go1⟩

instance (x_name : Str) : T (zg8 x_name) (x_name.length < 1000000000) (fun r => True) := ⟨fun h => by unfold zg8; exact go1⟩

end Go.Dm
end
section
set_option linter.unusedVariables false
set_option maxRecDepth 10000
set_option maxHeartbeats 2000000
namespace Go.Dm
instance (l6 : List api_Part) (i7 : Int) (n : Nat) (l3 : List Str) (i8 : Int) : T (zc6 l6 i7 n l3 i8) (i7 = l6.length ∧ 0 ≤ i8 ∧ i8 ≤ i7 ∧ i7 < i8 + n ∧ l6.length ≤ 10000 ∧ l3.length ≤ i8) (fun r => r.length ≤ l6.length) := by
 induction n generalizing l3 i8 with
 | zero => exact ⟨fun h => goz⟩
 | succ n ih => exact ⟨fun h => by unfold zc6 zhv; exact go1⟩

instance (x_l : List api_Part) : T (zkV x_l) (x_l.length ≤ 10000) (fun r => r.length ≤ x_l.length) := ⟨fun h => by unfold zkV; exact go1⟩

instance (b : UInt8) : T (zg9 b) True (fun r => r = (gd zg9) b) := bt (by decide +kernel) b

instance (b : UInt8) : T (zha b) True (fun r => r = (gd zha) b) := bt (by decide +kernel) b

instance (x_r : tmpl_reader) (x_s : Str) : T (zcr x_r x_s) (x_r.f_out.length < 1000000000 ∧ x_s.length < 1000000000 ∧ (∀ p ∈ x_r.f_out,p.Text.length < 1000000000)) (fun r => r.Scanner = x_r.Scanner ∧ r.f_out.length ≤ x_r.f_out.length + 1 ∧ ∀ p ∈ r.f_out,p.Text.length ≤ x_s.length ∨ p ∈ x_r.f_out ∨ ∃ q ∈ x_r.f_out,p.Text.length = q.Text.length + x_s.length) := ⟨fun h => by unfold zcr zcB; exact go1⟩

instance (x_r : tmpl_reader) : T (zdf x_r) (Cw x_r.Scanner ∧ x_r.f_out.length ≤ x_r.Scanner.f_at ∧ (∀ p ∈ x_r.f_out,p.Text.length ≤ x_r.Scanner.f_at)) (fun r => Cw r.2.Scanner ∧ r.2.Scanner.f_s = x_r.Scanner.f_s ∧ x_r.Scanner.f_at ≤ r.2.Scanner.f_at ∧ r.2.f_out.length ≤ x_r.f_out.length + 1 ∧ ∀ p ∈ r.2.f_out,p.Text.length ≤ r.2.Scanner.f_at) := ⟨fun h => by unfold zdf zb5 zb4; exact go1⟩

instance (x_r : tmpl_reader) : T (zdE x_r) (Rt x_r ∧ x_r.Scanner.f_at < x_r.Scanner.f_s.length) (fun r => r.1 = true → Rt r.2 ∧ r.2.Scanner.f_s = x_r.Scanner.f_s ∧ x_r.Scanner.f_at < r.2.Scanner.f_at) := ⟨fun h => by unfold zdE; exact go1⟩

instance  (n : Nat) (v4 : tmpl_reader) : T (zfe n v4) (Rt v4 ∧ v4.Scanner.f_s.length < v4.Scanner.f_at + n) (fun r => r.1.length ≤ 32) := by
 induction n generalizing v4 with
 | zero => exact ⟨fun h => goz⟩
 | succ n ih => exact ⟨fun h => by unfold zfe; exact go1⟩

instance (x_s : Str) : T (zkW x_s) (x_s.length < 1000000000) (fun r => r.1.length ≤ 32) := ⟨fun h => by unfold zkW; exact go1⟩

instance (l0 : List api_Part) (l1 : List api_Part) (i12 : Int) (n : Nat) (i13 : Int) : T (zN l0 l1 i12 n i13) (i12 = l0.length ∧ i12 = l1.length ∧ 0 ≤ i13 ∧ i13 ≤ i12 ∧ i12 < i13 + n ∧ l0.length < 1000000000000) (fun r => True) := by
 induction n generalizing i13 with
 | zero => exact ⟨fun h => goz⟩
 | succ n ih => exact ⟨fun h => by unfold zN; exact go1⟩

instance (x_s1 : List api_Part) (x_s2 : List api_Part) : T (zal x_s1 x_s2) (x_s1.length < 1000000000000) (fun r => True) := ⟨fun h => by unfold zal; exact go1⟩

instance (l0 : List api_Part) (l10 : List api_Part) (i11 : Int) (n : Nat) (l4 : List Str) (i12 : Int) : T (zb6 l0 l10 i11 n l4 i12) (Tp l10 ∧ l0.length < 1000000000000 ∧ i11 = l10.length ∧ 0 ≤ i12 ∧ i12 ≤ i11 ∧ i11 < i12 + n ∧ l4.length ≤ 3 * i12 ∧ sl l4 ≤ i12 * 120000) (fun r => True) := by
 induction n generalizing l4 i12 with
 | zero => exact ⟨fun h => goz⟩
 | succ n ih => exact ⟨fun h => by unfold zb6 zeV; exact go1⟩

instance (x_l : List api_Part) : T (zmF x_l) (Tp x_l) (fun r => True) := ⟨fun h => by unfold zmF; exact go1⟩

instance (l1 : List api_Part) (l5 : List Str) (l13 : List Str) (i14 : Int) (n : Nat) (i15 : Int) : T (zff l1 l5 l13 i14 n i15) (Tp l1 ∧ l5.length < 1000000000000 ∧ i14 = l13.length ∧ 0 ≤ i15 ∧ i15 ≤ i14 ∧ i14 < i15 + n ∧ l13.length < 1000000000000) (fun r => True) := by
 induction n generalizing i15 with
 | zero => exact ⟨fun h => goz⟩
 | succ n ih => exact ⟨fun h => by unfold zff; exact go1⟩

instance (x_side : Int) (x_l : List api_Part) : T (zkX x_side x_l) (Tp x_l) (fun r => True) := ⟨fun h => by unfold zkX zhw; exact go1⟩

instance (x_r : api_Rule) : T (zke x_r) (Rm x_r) (fun r => True) := ⟨fun h => by unfold zke zhW; exact go1⟩

instance (x_r : api_Rule) : T (zhb x_r) (Rm x_r) (fun r => True) := ⟨fun h => by unfold zhb; exact go1⟩

instance (l0 : List api_Rule) (l7 : List api_Rule) (i8 : Int) (n : Nat) (i9 : Int) : T (zbF l0 l7 i8 n i9) (Rl l7 ∧ i8 = l7.length ∧ 0 ≤ i9 ∧ i9 ≤ i8 ∧ i8 < i9 + n ∧ l0.length < 1000000000000) (fun r => True) := by
 induction n generalizing i9 with
 | zero => exact ⟨fun h => goz⟩
 | succ n ih => exact ⟨fun h => by unfold zbF; exact go1⟩

instance (x_l : List api_Rule) : T (zfZ x_l) (Rl x_l) (fun r => True) := ⟨fun h => by unfold zfZ; exact go1⟩

instance (x_r : api_Rule) : T (zjk x_r) (Rm x_r) (fun r => r.length ≤ 2) := ⟨fun h => by unfold zjk; exact go1⟩

instance (l0 : List api_Rule) (v3 : api_Guard) (n : Nat) (i4 : Int) : T (zbG l0 v3 n i4) (Rl l0 ∧ Gm v3 ∧ 1 ≤ i4 ∧ i4 ≤ l0.length ∧ l0.length < i4 + n) (fun r => 1 ≤ r ∧ r ≤ l0.length) := by
 induction n generalizing i4 with
 | zero => exact ⟨fun h => goz⟩
 | succ n ih => exact ⟨fun h => by unfold zbG zeu; exact go1⟩

instance (x_l : List api_Rule) : T (zjl x_l) (Rl x_l ∧ 1 ≤ x_l.length) (fun r => 1 ≤ r ∧ r ≤ x_l.length) := ⟨fun h => by unfold zjl; exact go1⟩

instance (x_g : api_Guard) (x_n : Int) : T (zd7 x_g x_n) (True) (fun r => r.N = x_n ∧ r.Name = x_g.Name ∧ r.Text.length ≤ x_g.Value.length ∧ r.Parts = []) := ⟨fun h => by unfold zd7; exact go1⟩

instance (l : List api_Part) : T (zdZ l) (l.length ≤ 1000000) (fun r => r = l) := ⟨fun h => by unfold zdZ; exact go1⟩

instance (x_r : api_Rule) : T (zf0 x_r) (Rm x_r) (fun r => Om r) := ⟨fun h => by unfold zf0; exact go1⟩

instance (l6 : List api_Rule) (i7 : Int) (n : Nat) (vp0 : compile_compiler) (i8 : Int) : T (zK l6 i7 n vp0 i8) (Rl l6 ∧ i7 = l6.length ∧ 0 ≤ i8 ∧ i8 ≤ i7 ∧ i7 < i8 + n ∧ Ol vp0.f_out ∧ vp0.f_out.length ≤ 1000000 + i8) (fun r => Ol r.f_out ∧ r.f_out.length ≤ vp0.f_out.length + i7 - i8) := by
 induction n generalizing vp0 i8 with
 | zero => exact ⟨fun h => goz⟩
 | succ n ih => exact ⟨fun h => by unfold zK; exact go1⟩

instance (x_c : compile_compiler) (x_l : List api_Rule) : T (zax x_c x_l) (Rl x_l ∧ Ol x_c.f_out ∧ x_c.f_out.length ≤ 1000000) (fun r => Ol r.f_out ∧ r.f_out.length ≤ x_c.f_out.length + x_l.length) := ⟨fun h => by unfold zax; exact go1⟩

instance  (n : Nat) (vp0 : compile_compiler) (l1 : List api_Rule) : T (zD n vp0 l1) (Rl l1 ∧ l1.length < n ∧ Ol vp0.f_out ∧ vp0.f_out.length + 2 * l1.length ≤ 100000) (fun r => Ol r.f_out ∧ r.f_out.length ≤ vp0.f_out.length + 2 * l1.length) := by
 induction n generalizing vp0 l1 with
 | zero => exact ⟨fun h => goz⟩
 | succ n ih => exact ⟨fun h => by unfold zD zaA; exact go1⟩

instance (x_c : compile_compiler) (x_l : List api_Rule) : T (zay x_c x_l) (Rl x_l ∧ x_c.f_out = []) (fun r => Ol r.f_out ∧ r.f_out.length ≤ 2 * x_l.length) := ⟨fun h => by unfold zay; exact go1⟩

instance (i0 : Int) (l26 : List api_Rule) (i27 : Int) (n : Nat) (l8 : List api_Rule) (i28 : Int) : T (zab i0 l26 i27 n l8 i28) (Rl l26 ∧ i27 = l26.length ∧ 0 ≤ i28 ∧ i28 ≤ i27 ∧ i27 < i28 + n ∧ l8.length ≤ i28 ∧ ∀ r ∈ l8,Rm r) (fun r => Ol r.1 ∧ r.1.length ≤ 2 * l26.length) := by
 induction n generalizing l8 i28 with
 | zero => exact ⟨fun h => goz⟩
 | succ n ih => exact ⟨fun h => by unfold zab; exact go1⟩

instance (x_side : Int) (x_l : List api_Rule) : T (zcO x_side x_l) (Rl x_l) (fun r => Ol r.1 ∧ r.1.length ≤ 2 * x_l.length) := ⟨fun h => by unfold zcO zcs; exact go1⟩

end Go.Dm
end
section
set_option linter.unusedVariables false
set_option maxRecDepth 10000
set_option maxHeartbeats 2000000
namespace Go.Dm
instance (x_m : machine_machine) (x_op : api_Op) : T (zcC x_m x_op) (Fm x_m.Bag.f_l ∧ x_op.Name.length < 1000000000) (fun r => True) := ⟨fun h => by unfold zcC; exact go1⟩

instance (s1 : Str) (l7 : List api_Param) (i8 : Int) (n : Nat) (i9 : Int) : T (zgu s1 l7 i8 n i9) (Pm l7 ∧ i8 = l7.length ∧ 0 ≤ i9 ∧ i9 ≤ i8 ∧ i8 < i9 + n) (fun r => r.length ≤ 20000000) := by
 induction n generalizing i9 with
 | zero => exact ⟨fun h => goz⟩
 | succ n ih => exact ⟨fun h => by unfold zgu; exact go1⟩

instance (x_known : List api_Param) (x_name : Str) : T (zmG x_known x_name) (Pm x_known) (fun r => r.length ≤ 20000000) := ⟨fun h => by unfold zmG; exact go1⟩

instance (s0 : Str) (n : Nat) (l3 : List UInt8) (i4 : Int) : T (zc7 s0 n l3 i4) (s0.length < 100000000000 ∧ 0 ≤ i4 ∧ i4 ≤ s0.length ∧ s0.length < i4 + n ∧ l3.length ≤ 65536) (fun r => r.length ≤ 65536) := by
 induction n generalizing l3 i4 with
 | zero => exact ⟨fun h => goz⟩
 | succ n ih => exact ⟨fun h => by unfold zc7 zhx; exact go1⟩

instance (x_s : Str) : T (zkY x_s) (x_s.length < 100000000000) (fun r => r.length ≤ 65536) := ⟨fun h => by unfold zkY; exact go1⟩

instance (l0 : List api_Param) (v7 : bag_Bag) (l15 : List api_Part) (i16 : Int) (n : Nat) (l8 : List Str) (i17 : Int) : T (zcY l0 v7 l15 i16 n l8 i17) (Pm l0 ∧ Fm v7.f_l ∧ Tp l15 ∧ i16 = l15.length ∧ 0 ≤ i17 ∧ i17 ≤ i16 ∧ i16 < i17 + n ∧ l8.length ≤ i17 ∧ sl l8 ≤ i17 * 20000000) (fun r => r.length ≤ 65536) := by
 induction n generalizing l8 i17 with
 | zero => exact ⟨fun h => goz⟩
 | succ n ih => exact ⟨fun h => by unfold zcY; exact go1⟩

instance (x_known : List api_Param) (x_fields : List api_Field) (x_l : List api_Part) : T (zmH x_known x_fields x_l) (Pm x_known ∧ Fm x_fields ∧ Tp x_l) (fun r => r.length ≤ 65536) := ⟨fun h => by unfold zmH; exact go1⟩

instance (x_m : machine_machine) (x_l : List api_Part) : T (zbh x_m x_l) (Pm x_m.f_known ∧ Fm x_m.Bag.f_l ∧ Tp x_l) (fun r => r.length ≤ 65536) := ⟨fun h => by unfold zbh; exact go1⟩

instance (s1 : Str) (s2 : Str) (i15 : Int) (n : Nat) (vp0 : bag_Bag) (i7 : Int) (i16 : Int) : T (zW s1 s2 i15 n vp0 i7 i16) (Fm vp0.f_l ∧ i15 = vp0.f_l.length ∧ 0 ≤ i16 ∧ i16 ≤ i15 ∧ i15 < i16 + n ∧ 0 ≤ i7 ∧ i7 ≤ i16 ∧ s1.length ≤ 20000000 ∧ s2.length ≤ 20000000) (fun r => (Fm r.2.f_l ∧ r.2.f_l.length = vp0.f_l.length) ∧ (∀ k,Vb k vp0.f_l → Vb k r.2.f_l)) := by
 induction n generalizing vp0 i7 i16 with
 | zero => exact ⟨fun h => goz⟩
 | succ n ih => exact ⟨fun h => by unfold zW; exact zsl⟩

instance (x_b : bag_Bag) (x_from : Str) (x_to : Str) : T (zch x_b x_from x_to) (Fm x_b.f_l ∧ x_from.length ≤ 20000000 ∧ x_to.length ≤ 20000000) (fun r => (Fm r.2.f_l ∧ r.2.f_l.length = x_b.f_l.length) ∧ (∀ k,Vb k x_b.f_l → Vb k r.2.f_l)) := ⟨fun h => by unfold zch; exact zsl⟩

instance (x_m : machine_machine) (x_op : api_Op) : T (zaW x_m x_op) (Pm x_m.f_known ∧ Fm x_m.Bag.f_l ∧ Om x_op) (fun r => (r.f_known = x_m.f_known ∧ r.f_steps = x_m.f_steps ∧ Fv r.Bag.f_l ∧ r.Bag.f_l.length ≤ x_m.Bag.f_l.length + 1) ∧ (Vb 19000000 x_m.Bag.f_l → Vb 19000000 r.Bag.f_l)) := ⟨fun h => by unfold zaW; exact zsl⟩

instance (l1 : List api_Op) (n : Nat) (vp0 : machine_machine) (i4 : Int) : T (zF l1 n vp0 i4) (Ol l1 ∧ l1.length ≤ 1000 ∧ 0 ≤ i4 ∧ i4 ≤ 2 * l1.length + 1 ∧ 1 ≤ n ∧ l1.length < i4 + n ∧ Pm vp0.f_known ∧ Fm vp0.Bag.f_l ∧ vp0.Bag.f_l.length + l1.length ≤ 10000 + i4 ∧ 0 ≤ vp0.f_steps ∧ vp0.f_steps ≤ i4) (fun r => (Fm r.Bag.f_l ∧ (r.Bag.f_l.length + i4 ≤ vp0.Bag.f_l.length + l1.length ∨ r.Bag.f_l.length ≤ vp0.Bag.f_l.length)) ∧ (Vb 19000000 vp0.Bag.f_l → Vb 19000000 r.Bag.f_l)) := by
 induction n generalizing vp0 i4 with
 | zero => exact ⟨fun h => goz⟩
 | succ n ih => exact ⟨fun h => by unfold zF zaH; exact zsl⟩

instance (x_m : machine_machine) (x_l : List api_Op) : T (zaC x_m x_l) (Ol x_l ∧ x_l.length ≤ 1000 ∧ Pm x_m.f_known ∧ Fm x_m.Bag.f_l ∧ x_m.Bag.f_l.length ≤ 9000 ∧ x_m.f_steps = 0) (fun r => (Fm r.Bag.f_l ∧ r.Bag.f_l.length ≤ x_m.Bag.f_l.length + x_l.length) ∧ (Vb 19000000 x_m.Bag.f_l → Vb 19000000 r.Bag.f_l)) := ⟨fun h => by unfold zaC; exact zsl⟩

instance (x_known : List api_Param) (x_fields : List api_Field) (x_l : List api_Op) : T (zf1 x_known x_fields x_l) (Pm x_known ∧ Fm x_fields ∧ x_fields.length ≤ 9000 ∧ Ol x_l ∧ x_l.length ≤ 1000) (fun r => (Fm r ∧ r.length ≤ x_fields.length + x_l.length) ∧ (Vb 19000000 x_fields → Vb 19000000 r)) := ⟨fun h => by unfold zf1; exact zsl⟩

instance (x_known : List api_Param) (x_fields : List api_Field) (x_side : Int) (x_l : List api_Rule) : T (zd8 x_known x_fields x_side x_l) (Pm x_known ∧ Fm x_fields ∧ x_fields.length ≤ 9000 ∧ Rl x_l ∧ x_l.length ≤ 500) (fun r => (Fv r.1 ∧ r.1.length ≤ x_fields.length + 2 * x_l.length) ∧ (Vb 19000000 x_fields → Vb 19000000 r.1)) := ⟨fun h => by unfold zd8; exact zsl⟩

instance (x_r : via_reader) (x_v : api_Via) : T (zcD x_r x_v) (Cw x_r.Scanner) (fun r => Cw r.2.2 ∧ r.2.2.f_s = x_r.Scanner.f_s ∧ r.2.1.By = x_v.By ∧ r.2.1.Comment = x_v.Comment) := ⟨fun h => by unfold zcD zbB zbA; exact go1⟩

instance (b : UInt8) : T (zcP b) True (fun r => r = (gd zcP) b) := bt (by decide +kernel) b

instance (x_r : via_reader) (x_v : api_Via) : T (zfB x_r x_v) (Cw x_r.Scanner) (fun r => Cw r.2.2 ∧ r.2.2.f_s = x_r.Scanner.f_s) := ⟨fun h => by unfold zfB zct; exact go1⟩

instance (s0 : Str) (n : Nat) (i3 : Int) (i4 : Int) : T (zaM s0 n i3 i4) (0 ≤ i4 ∧ i4 ≤ s0.length ∧ s0.length < i4 + n ∧ s0.length < 1000000000 ∧ 0 ≤ i3 ∧ i3 ≤ i4) (fun r => True) := by
 induction n generalizing i3 i4 with
 | zero => exact ⟨fun h => goz⟩
 | succ n ih => exact ⟨fun h => by unfold zaM zcQ; exact go1⟩

instance (x_s : Str) : T (zit x_s) (x_s.length < 1000000000) (fun r => True) := ⟨fun h => by unfold zit; exact go1⟩

instance (x_r : via_reader) (x_v : api_Via) : T (zcZ x_r x_v) (Cw x_r.Scanner) (fun r => True) := ⟨fun h => by unfold zcZ zaq; exact go1⟩

instance (x_s : Str) : T (zmI x_s) (x_s.length < 1000000000) (fun r => True) := ⟨fun h => by unfold zmI; exact go1⟩

instance (x_v : api_Via) : T (zoU x_v) (x_v.Proto.length ≤ 1000 ∧ x_v.Version.length ≤ 1000 ∧ x_v.By.length ≤ 1000 ∧ x_v.Comment.length ≤ 1000) (fun r => r.1.length ≤ 5000) := ⟨fun h => by unfold zoU zjn zjm; exact go1⟩

instance (x_l : List Str) : T (zhX x_l) (sl x_l + 10 * x_l.length ≤ 100000000000000) (fun r => r.length ≤ sl x_l + 10 * x_l.length) := ⟨fun h => by unfold zhX; exact go1⟩

instance (x_s : Str) (x_l : List Str) : T (zhy x_s x_l) (x_s.length < 1000000000 ∧ x_l.length ≤ 1000 ∧ sl x_l ≤ 1000000000) (fun r => r.length ≤ x_s.length + sl x_l + 10 * x_l.length + 10) := ⟨fun h => by unfold zhy; exact go1⟩

instance (vp0 : bag_Bag) (s1 : Str) (s2 : Str) (n : Nat) (i6 : Int) : T (zae vp0 s1 s2 n i6) (Fm vp0.f_l ∧ -1 ≤ i6 ∧ i6 < vp0.f_l.length ∧ i6 + 1 < n ∧ s1.length ≤ 20000000 ∧ s2.length ≤ 1000000) (fun r => r.f_l.length ≤ vp0.f_l.length + 1 ∧ ∀ f ∈ r.f_l,f ∈ vp0.f_l ∨ (f.Name = s1 ∧ f.Value = s2) ∨ ∃ g ∈ vp0.f_l,f.Name = g.Name ∧ f.Value.length ≤ g.Value.length + s2.length + 20) := by
 induction n generalizing i6 with
 | zero => exact ⟨fun h => goz⟩
 | succ n ih => exact ⟨fun h => by unfold zae; exact go1⟩

instance (x_b : bag_Bag) (x_name : Str) (x_element : Str) : T (zaX x_b x_name x_element) (Fm x_b.f_l ∧ x_name.length ≤ 20000000 ∧ x_element.length ≤ 1000000) (fun r => r.f_l.length ≤ x_b.f_l.length + 1 ∧ ∀ f ∈ r.f_l,f ∈ x_b.f_l ∨ (f.Name = x_name ∧ f.Value = x_element) ∨ ∃ g ∈ x_b.f_l,f.Name = g.Name ∧ f.Value.length ≤ g.Value.length + x_element.length + 20) := ⟨fun h => by unfold zaX; exact go1⟩

instance (x_v : api_Via) (x_l : List api_Field) : T (zhc x_v x_l) (Fm x_l ∧ x_l.length ≤ 9000 ∧ (∀ f ∈ x_l,f.Value.length ≤ 19000000) ∧ x_v.Proto.length ≤ 1000 ∧ x_v.Version.length ≤ 1000 ∧ x_v.By.length ≤ 1000 ∧ x_v.Comment.length ≤ 1000) (fun r => r.1.length ≤ x_l.length + 1 ∧ ∀ f ∈ r.1,f ∈ x_l ∨ (f.Name.length ≤ 10 ∧ f.Value.length ≤ 5000) ∨ ∃ g ∈ x_l,f.Name = g.Name ∧ f.Value.length ≤ g.Value.length + 5020) := ⟨fun h => by unfold zhc; exact go1⟩

end Go.Dm
end
section
set_option linter.unusedVariables false
set_option maxRecDepth 10000
set_option maxHeartbeats 2000000
namespace Go.Dm
instance (x_client : Str) : T (zgv x_client) (x_client.length ≤ 1000) (fun r => r.length ≤ 1100) := ⟨fun h => by unfold zgv; exact go2⟩

instance (x_env : api_Env) : T (zgw x_env) (x_env.Client.length ≤ 1000 ∧ x_env.Host.length ≤ 1000 ∧ x_env.Scheme.length ≤ 1000) (fun r => r.length ≤ 3 ∧ ∀ p ∈ r,p.Name.length ≤ 10 ∧ p.Value.length ≤ 1100) := ⟨fun h => by unfold zgw zeh zeg; exact go2⟩

instance (s0 : Str) (i12 : Int) (n : Nat) (l4 : List UInt8) (i13 : Int) : T (zbb s0 i12 n l4 i13) (i12 = s0.length ∧ 0 ≤ i13 ∧ i13 ≤ i12 ∧ i12 < i13 + n ∧ s0.length < 1000000000 ∧ l4.length ≤ 2 * i13 + 1) (fun r => r.1.length ≤ 2 * s0.length + 2) := by
 induction n generalizing l4 i13 with
 | zero => exact ⟨fun h => goz⟩
 | succ n ih => exact ⟨fun h => by unfold zbb zfD zfC; exact go2⟩

instance (x_s : Str) : T (ziu x_s) (x_s.length < 1000000000) (fun r => r.1.length ≤ 2 * x_s.length + 2) := ⟨fun h => by unfold ziu; exact go2⟩

instance (x_s : Str) : T (zhz x_s) (x_s.length < 1000000000) (fun r => r.1.length ≤ 2 * x_s.length + 2) := ⟨fun h => by unfold zhz; exact go2⟩

instance (l9 : List api_Param) (i10 : Int) (n : Nat) (l4 : List Str) (i11 : Int) : T (zev l9 i10 n l4 i11) (i10 = l9.length ∧ 0 ≤ i11 ∧ i11 ≤ i10 ∧ i10 < i11 + n ∧ l9.length ≤ 3 ∧ (∀ p ∈ l9,p.Name.length ≤ 10 ∧ p.Value.length ≤ 1100) ∧ l4.length ≤ i11 ∧ sl l4 ≤ i11 * 2300) (fun r => r.1.length ≤ 7000) := by
 induction n generalizing l4 i11 with
 | zero => exact ⟨fun h => goz⟩
 | succ n ih => exact ⟨fun h => by unfold zev; exact go2⟩

instance (x_l : List api_Param) : T (zjo x_l) (x_l.length ≤ 3 ∧ (∀ p ∈ x_l,p.Name.length ≤ 10 ∧ p.Value.length ≤ 1100)) (fun r => r.1.length ≤ 7000) := ⟨fun h => by unfold zjo; exact go2⟩

instance (x_env : api_Env) (x_l : List api_Field) : T (zci x_env x_l) (Fm x_l ∧ x_l.length ≤ 9100 ∧ (∀ f ∈ x_l,f.Value.length ≤ 19500000) ∧ x_env.Client.length ≤ 1000 ∧ x_env.Host.length ≤ 1000 ∧ x_env.Scheme.length ≤ 1000) (fun r => r.1.length ≤ x_l.length + 1 ∧ ∀ f ∈ r.1,f ∈ x_l ∨ (f.Name.length ≤ 10 ∧ f.Value.length ≤ 7000) ∨ ∃ g ∈ x_l,f.Name = g.Name ∧ f.Value.length ≤ g.Value.length + 7020) := ⟨fun h => by unfold zci; exact go2⟩

instance (x_s : Str) : T (zoV x_s) (x_s.length < 1000000000) (fun r => True) := ⟨fun h => by unfold zoV; exact go2⟩

instance (x_client : Str) (x_l : List api_Field) : T (zhd x_client x_l) (Fm x_l ∧ x_l.length ≤ 9200 ∧ (∀ f ∈ x_l,f.Value.length ≤ 19900000) ∧ x_client.length ≤ 1000) (fun r => r.length ≤ x_l.length + 1 ∧ Fv r) := ⟨fun h => by unfold zhd zfg; exact go2⟩

instance (x_a0 : api_Env) (x_a1 : Int) (x_a2 : api_Head) : T (zhe x_a0 x_a1 x_a2) (Fm x_a2.Fields ∧ x_a2.Fields.length ≤ 9000 ∧ (∀ f ∈ x_a2.Fields,f.Value.length ≤ 19000000) ∧ x_a0.Client.length ≤ 1000 ∧ x_a0.Host.length ≤ 1000 ∧ x_a0.Scheme.length ≤ 1000 ∧ x_a0.By.length ≤ 1000 ∧ x_a1 ≤ 9223372036854775807) (fun r => Fv r.1.Fields ∧ r.1.Fields.length ≤ x_a2.Fields.length + 3) := ⟨fun h => by unfold zhe zcd zfi zfh; exact go2⟩

instance (x_f : api_Frame) : T (zaI x_f) (x_f.N ≤ 9223372036854775807) (fun r => r.length ≤ 1 ∧ Fv r) := ⟨fun h => by unfold zaI; exact go2⟩

end Go.Dm
end
section
set_option linter.unusedVariables false
set_option maxRecDepth 10000
set_option maxHeartbeats 2000000
namespace Go.Dm
instance (x_x : api_Swap) : T (ziW x_x) (True) (fun r => r.From.length ≤ 60 ∧ r.To.length ≤ 60) := ⟨fun h => by unfold ziW; exact go2⟩

instance (v1 : api_Env) (n : Nat) (v5 : api_Env) (i7 : Int) : T (zdF v1 n v5 i7) (0 ≤ i7 ∧ i7 ≤ 6 ∧ i7 ≤ v1.Locations.length ∧ 7 < i7 + n ∧ v5.Locations.length ≤ i7) (fun r => r.Client = v5.Client ∧ r.Host = v5.Host ∧ r.Scheme = v5.Scheme ∧ r.By = v5.By) := by
 induction n generalizing v5 i7 with
 | zero => exact ⟨fun h => goz⟩
 | succ n ih => exact ⟨fun h => by unfold zdF ziv; exact zup⟩

instance (v1 : api_Env) (n : Nat) (v5 : api_Env) (i6 : Int) : T (zb8 v1 n v5 i6) (0 ≤ i6 ∧ i6 ≤ 6 ∧ i6 ≤ v1.Domains.length ∧ 7 < i6 + n ∧ v5.Domains.length ≤ i6 ∧ v5.Locations.length = 0) (fun r => r.Client = v5.Client ∧ r.Host = v5.Host ∧ r.Scheme = v5.Scheme ∧ r.By = v5.By) := by
 induction n generalizing v5 i6 with
 | zero => exact ⟨fun h => goz⟩
 | succ n ih => exact ⟨fun h => by unfold zb8 ziw; exact zup⟩

theorem s60 (l : Str) : sTo l (min (l.length : Int) 60) = some (l.take 60) := by
 unfold sTo
 rw [if_pos (by omega),show (min (l.length : Int) (60 : Int)).toNat = min 60 l.length by omega, ← List.take_take,List.take_length]
theorem zp5 (x : api_Env) (n : Nat) (a b c d : Str) : ze x (n + 1) (a,b,c,d) 0 = ze x n (a.take 60,b,c,d) 1 := by
 show ((sTo a (min (a.length : Int) 60)).bind fun r => (zn 0 1).bind fun r1 => ze x n (r,b,c,d) r1) = _
 rw [s60]; rfl
theorem zp6 (x : api_Env) (n : Nat) (a b c d : Str) : ze x (n + 1) (a,b,c,d) 1 = ze x n (a,b.take 60,c,d) 2 := by
 show ((sTo b (min (b.length : Int) 60)).bind fun r => (zn 1 1).bind fun r1 => ze x n (a,r,c,d) r1) = _
 rw [s60]; rfl
theorem zp7 (x : api_Env) (n : Nat) (a b c d : Str) : ze x (n + 1) (a,b,c,d) 2 = ze x n (a,b,c.take 60,d) 3 := by
 show ((sTo c (min (c.length : Int) 60)).bind fun r => (zn 2 1).bind fun r1 => ze x n (a,b,r,d) r1) = _
 rw [s60]; rfl
theorem zp8 (x : api_Env) (n : Nat) (a b c d : Str) : ze x (n + 1) (a,b,c,d) 3 = ze x n (a,b,c,d.take 60) 4 := by
 show ((sTo d (min (d.length : Int) 60)).bind fun r => (zn 3 1).bind fun r1 => ze x n (a,b,c,r) r1) = _
 rw [s60]; rfl
theorem zwu (x : api_Env) (n : Nat) (a b c d : Str) : ze x (n + 1) (a,b,c,d) 4 = zb8 x fuel ⟨a,b,c,d,[],[]⟩ 0 := rfl
instance (x_a0 : api_Env) : T (zmJ x_a0) True (fun r => r.Client.length ≤ 60 ∧ r.Host.length ≤ 60 ∧ r.Scheme.length ≤ 60 ∧ r.By.length ≤ 60) := ⟨fun _ => by
 unfold zmJ
 obtain ⟨n,hn⟩ : ∃ n,fuel = n + 1 + 1 + 1 + 1 + 1 := ⟨999999999999999995,rfl⟩
 have e := zwu x_a0 n (x_a0.Client.take 60) (x_a0.Host.take 60) (x_a0.Scheme.take 60) (x_a0.By.take 60)
 obtain ⟨r,er,h1,h2,h3,h4⟩ := (inferInstance : T (zb8 x_a0 fuel ⟨x_a0.Client.take 60,x_a0.Host.take 60,x_a0.Scheme.take 60,x_a0.By.take 60,[],[]⟩ 0) _ _).ok ⟨by omega,by omega,by omega,by unfold fuel; omega,by simp,by simp⟩
 rw [er] at e
 rw [show ze x_a0 fuel (x_a0.Client,x_a0.Host,x_a0.Scheme,x_a0.By) 0 = some r by rw [hn,zp5,zp6,zp7,zp8,e]]
 exact ⟨r,rfl,by rw [h1]; simp; omega,by rw [h2]; simp; omega,by rw [h3]; simp; omega,by rw [h4]; simp; omega⟩⟩

instance (l0 : List api_Swap) (n : Nat) (l3 : List api_Swap) (i4 : Int) : T (zdG l0 n l3 i4) (0 ≤ i4 ∧ i4 ≤ 70 ∧ i4 ≤ l0.length ∧ 71 < i4 + n ∧ l3.length ≤ i4 ∧ (∀ x ∈ l3,x.From.length ≤ 60 ∧ x.To.length ≤ 60)) (fun r => r.length ≤ 70 ∧ ∀ x ∈ r,x.From.length ≤ 60 ∧ x.To.length ≤ 60) := by
 induction n generalizing l3 i4 with
 | zero => exact ⟨fun h => goz⟩
 | succ n ih => exact ⟨fun h => by unfold zdG zix; exact go2⟩

instance (x_l : List api_Swap) : T (zkf x_l) (True) (fun r => r.length ≤ 70 ∧ ∀ x ∈ r,x.From.length ≤ 60 ∧ x.To.length ≤ 60) := ⟨fun h => by unfold zkf; exact go2⟩

instance (x_env : api_Env) : T (zmK x_env) (True) (fun r => r.Client.length ≤ 60 ∧ r.Host.length ≤ 60 ∧ r.Scheme.length ≤ 60 ∧ r.By.length ≤ 60 ∧ Swm r.Domains ∧ Swm r.Locations) := ⟨fun h => by unfold zmK; exact zup⟩

instance (x_s : Str) : T (zf2 x_s) (True) (fun r => r.length ≤ 400) := ⟨fun h => by unfold zf2; exact go2⟩

instance (v1 : api_Head) (n : Nat) (l3 : List api_Field) (i4 : Int) : T (zdH v1 n l3 i4) (0 ≤ i4 ∧ i4 ≤ 120 ∧ i4 ≤ v1.Fields.length ∧ 121 < i4 + n ∧ l3.length ≤ i4 ∧ (∀ f ∈ l3,f.Name.length ≤ 400 ∧ f.Value.length ≤ 400)) (fun r => r.Kind = v1.Kind ∧ r.Method = v1.Method ∧ r.Target = v1.Target ∧ r.Code = v1.Code ∧ r.Reason = v1.Reason ∧ r.Minor = v1.Minor ∧ r.Fields.length ≤ 120 ∧ ∀ f ∈ r.Fields,f.Name.length ≤ 400 ∧ f.Value.length ≤ 400) := by
 induction n generalizing l3 i4 with
 | zero => exact ⟨fun h => goz⟩
 | succ n ih => exact ⟨fun h => by unfold zdH ziy; exact go2⟩

instance (x_h : api_Head) : T (zmL x_h) (True) (fun r => r.Kind = x_h.Kind ∧ r.Code = x_h.Code ∧ r.Minor = x_h.Minor ∧ r.Method.length ≤ 400 ∧ r.Target.length ≤ 400 ∧ r.Reason.length ≤ 400 ∧ r.Fields.length ≤ 120 ∧ ∀ f ∈ r.Fields,f.Name.length ≤ 400 ∧ f.Value.length ≤ 400) := ⟨fun h => by unfold zmL; exact go2⟩

instance (l0 : List api_Part) (n : Nat) (l3 : List api_Part) (i4 : Int) : T (zdI l0 n l3 i4) (0 ≤ i4 ∧ i4 ≤ 40 ∧ i4 ≤ l0.length ∧ 41 < i4 + n ∧ l3.length ≤ i4 ∧ ∀ p ∈ l3,p.Text.length ≤ 60) (fun r => r.length ≤ 40 ∧ ∀ p ∈ r,p.Text.length ≤ 60) := by
 induction n generalizing l3 i4 with
 | zero => exact ⟨fun h => goz⟩
 | succ n ih => exact ⟨fun h => by unfold zdI ziz; exact zup⟩

instance (x_l : List api_Part) : T (zkg x_l) (True) (fun r => r.length ≤ 40 ∧ ∀ p ∈ r,p.Text.length ≤ 60) := ⟨fun h => by unfold zkg; exact zup⟩

theorem zp9 (x : api_Rule) (n : Nat) (a b c d : Str) : zf x (n + 1) (a,b,c,d) 0 = zf x n (a.take 60,b,c,d) 1 := by
 show ((sTo a (min (a.length : Int) 60)).bind fun r => (zn 0 1).bind fun r1 => zf x n (r,b,c,d) r1) = _
 rw [s60]; rfl
theorem zqa (x : api_Rule) (n : Nat) (a b c d : Str) : zf x (n + 1) (a,b,c,d) 1 = zf x n (a,b.take 60,c,d) 2 := by
 show ((sTo b (min (b.length : Int) 60)).bind fun r => (zn 1 1).bind fun r1 => zf x n (a,r,c,d) r1) = _
 rw [s60]; rfl
theorem zqb (x : api_Rule) (n : Nat) (a b c d : Str) : zf x (n + 1) (a,b,c,d) 2 = zf x n (a,b,c.take 60,d) 3 := by
 show ((sTo c (min (c.length : Int) 60)).bind fun r => (zn 2 1).bind fun r1 => zf x n (a,b,r,d) r1) = _
 rw [s60]; rfl
theorem zqc (x : api_Rule) (n : Nat) (a b c d : Str) : zf x (n + 1) (a,b,c,d) 3 = zf x n (a,b,c,d.take 60) 4 := by
 show ((sTo d (min (d.length : Int) 60)).bind fun r => (zn 3 1).bind fun r1 => zf x n (a,b,c,r) r1) = _
 rw [s60]; rfl
theorem zwv (x : api_Rule) (n : Nat) (a b c d : Str) : zf x (n + 1) (a,b,c,d) 4 = zdJ ⟨x.Side,⟨x.Guard.Kind,c,d⟩,x.Kind,a,b,x.Parts⟩ := rfl
instance (x_r : api_Rule) : T (zmM x_r) True Rm := ⟨fun _ => by
 unfold zmM
 obtain ⟨n,hn⟩ : ∃ n,fuel = n + 1 + 1 + 1 + 1 + 1 := ⟨999999999999999995,rfl⟩
 obtain ⟨r,er,h1,h2⟩ := (inferInstance : T (zkg x_r.Parts) _ _).ok trivial
 rw [hn,zp9,zqa,zqb,zqc,zwv]
 unfold zdJ
 rw [er]
 refine ⟨_,rfl,?_⟩
 unfold Rm Tp
 simp only [List.length_take]
 exact ⟨by omega,by omega,by omega,by omega,by omega,fun p hp => by have := h2 p hp; omega⟩⟩

instance (l0 : List api_Rule) (n : Nat) (l3 : List api_Rule) (i4 : Int) : T (zdK l0 n l3 i4) (0 ≤ i4 ∧ i4 ≤ 70 ∧ i4 ≤ l0.length ∧ 71 < i4 + n ∧ l3.length ≤ i4 ∧ ∀ x ∈ l3,Rm x) (fun r => r.length ≤ 70 ∧ ∀ x ∈ r,Rm x) := by
 induction n generalizing l3 i4 with
 | zero => exact ⟨fun h => goz⟩
 | succ n ih => exact ⟨fun h => by unfold zdK ziA; exact zup⟩

instance (x_l : List api_Rule) : T (zmN x_l) (True) (fun r => r.length ≤ 70 ∧ ∀ x ∈ r,Rm x) := ⟨fun h => by unfold zmN; exact zup⟩

instance  (n : Nat) (l3 : List api_Rule) (i4 : Int) : T (zgA n l3 i4) (0 ≤ i4 ∧ i4 ≤ l3.length ∧ l3.length < i4 + n ∧ l3.length ≤ 70 ∧ ∀ x ∈ l3,Rm x) (fun r => r.length ≤ 70 ∧ ∀ x ∈ r,Rm x) := by
 induction n generalizing l3 i4 with
 | zero => exact ⟨fun h => goz⟩
 | succ n ih => exact ⟨fun h => by unfold zgA; exact zup⟩

instance (x_l : List api_Rule) : T (zmO x_l) (True) (fun r => r.length ≤ 70 ∧ ∀ x ∈ r,Rm x) := ⟨fun h => by unfold zmO; exact zup⟩

end Go.Dm
end
section
set_option linter.unusedVariables false
set_option maxRecDepth 10000
set_option maxHeartbeats 2000000
namespace Go.Dm
instance (x_env : api_Env) (x_f : api_Frame) (x_h : api_Head) (x_l : List api_Rule) : T (zb7 x_env x_f x_h x_l) (Fm x_h.Fields ∧ x_h.Fields.length ≤ 8000 ∧ (∀ f ∈ x_h.Fields,f.Value.length ≤ 1000) ∧ x_h.Method.length ≤ 10000 ∧ x_h.Target.length ≤ 10000 ∧ x_h.Code ≤ 9223372036854775807 ∧ x_h.Minor ≤ 9223372036854775807 ∧ x_f.N ≤ 9223372036854775807 ∧ x_env.Client.length ≤ 1000 ∧ x_env.Host.length ≤ 1000 ∧ x_env.Scheme.length ≤ 1000 ∧ x_env.By.length ≤ 1000 ∧ Swm x_env.Domains ∧ Swm x_env.Locations ∧ Rl x_l ∧ x_l.length ≤ 400) (fun r => Fm r.1.Fields) := ⟨fun h => by unfold zb7; exact goRW⟩

end Go.Dm
end
section
set_option linter.unusedVariables false
set_option maxRecDepth 10000
set_option maxHeartbeats 2000000
namespace Go.Dm
instance (l : List api_Field) : S (zbQ l) (fun r => r = l) := ⟨by unfold zbQ; exact sg⟩

instance (x_l : List api_Field) : S (zcX x_l) (fun r => r.f_l = x_l) := ⟨by unfold zcX; exact sg⟩

instance (x_b : bag_Bag) : S (zai x_b) (fun r => r = x_b.f_l) := ⟨by unfold zai; exact sg⟩

instance (s : Str) : S (zX s) (fun r => r = low s) := ⟨fun r h => by
 by_cases hl : s.length < 4294967281
 ·obtain ⟨y,e,hy⟩ := (inferInstance : T (zX s) _ _).ok hl
  rw [e] at h; cases h; exact hy.1
 ·rw [zX,if_neg hl] at h; cases h⟩

instance (x_a : Str) (x_b : Str) : S (zar x_a x_b) (fun r => r = (low x_a == low x_b)) := ⟨by unfold zar; exact sg⟩

instance (l0 : List Str) (s1 : Str) (i7 : Int) (n : Nat) (i8 : Int) : S (zB l0 s1 i7 n i8) (fun r => 0 ≤ i8 → i7 = l0.length → (0 ≤ r ↔ s1 ∈ dr l0 i8)) := by
 induction n generalizing i8 with
 | zero => exact ⟨by unfold zB; exact Vn⟩
 | succ n ih => exact ⟨by unfold zB; exact sgN⟩

instance (x_s : List Str) (x_v : Str) : S (zR x_s x_v) (fun r => 0 ≤ r ↔ x_v ∈ x_s) := ⟨by unfold zR; exact sg⟩

instance (x_s : List Str) (x_v : Str) : S (zt x_s x_v) (fun r => r = decide (x_v ∈ x_s)) := ⟨by unfold zt; exact sg⟩

instance : S zkc (fun r => r = zjM) := ⟨fun r h => by cases h; rfl⟩

instance (x_s : Str) (x_a1 : Str) : S (zfV x_s x_a1) (fun r => r = (low x_s == low x_a1)) := ⟨by unfold zfV; exact sg⟩

instance (l0 : List Str) (u1 : Str) (i7 : Int) (n : Nat) (i8 : Int) : S (zp l0 u1 i7 n i8) (fun r => 0 ≤ i8 → i7 = l0.length → inN u1 (dr l0 i8) = decide (0 ≤ r)) := by
 induction n generalizing i8 with
 | zero => exact ⟨by unfold zp; exact Vn⟩
 | succ n ih => exact ⟨by unfold zp; exact sgN⟩

instance (x_s : List Str) (x_f : Str) : S (zG x_s x_f) (fun r => inN x_f x_s = decide (0 ≤ r)) := ⟨by unfold zG; exact sg⟩

instance (x_s : List Str) (x_f : Str) : S (zA x_s x_f) (fun r => r = inN x_f x_s) := ⟨by unfold zA; exact sg⟩

instance (x_name : Str) (x_names : List Str) : S (zkP x_name x_names) (fun r => r = inN x_name x_names) := ⟨by unfold zkP; exact sg⟩

instance (x_f : api_Field) (x_a1 : List Str) : S (zav x_f x_a1) (fun r => r = inN x_f.Name x_a1) := ⟨by unfold zav; exact sg⟩

instance (l0 : List api_Field) (u1 : List Str) (i7 : Int) (n : Nat) (i8 : Int) : S (zm l0 u1 i7 n i8) (fun r => 0 ≤ i8 → i7 = l0.length → -1 ≤ r ∧ (r = -1 → zbt u1 (dr l0 i8) = dr l0 i8) ∧ (0 ≤ r → i8 ≤ r ∧ r < l0.length ∧ zbt u1 (dr l0 i8) = sb l0 i8 r ++ zbt u1 (dr l0 (r + 1)))) := by
 induction n generalizing i8 with
 | zero => exact ⟨by unfold zm; exact Vn⟩
 | succ n ih => exact ⟨by unfold zm; exact sgN⟩

instance (x_s : List api_Field) (x_f : List Str) : S (zy x_s x_f) (fun r => -1 ≤ r ∧ (r = -1 → zbt x_f x_s = x_s) ∧ (0 ≤ r → r < x_s.length ∧ zbt x_f x_s = tk x_s r ++ zbt x_f (dr x_s (r + 1)))) := ⟨by unfold zy; exact sgN⟩

instance (u1 : List Str) (n : Nat) (l0 : List api_Field) (i5 : Int) (i6 : Int) : S (zl u1 n l0 i5 i6) (fun r => 0 ≤ i5 → i5 ≤ i6 → i5 ≤ l0.length → r = tk l0 i5 ++ zbt u1 (dr l0 i6)) := by
 induction n generalizing l0 i5 i6 with
 | zero => exact ⟨by unfold zl; exact Vn⟩
 | succ n ih => exact ⟨by unfold zl; exact sgN⟩

instance (x_s : List api_Field) (x_del : List Str) : S (zr x_s x_del) (fun r => r = zbt x_del x_s) := ⟨by unfold zr; exact sgN⟩

instance (x_b : bag_Bag) (x_names : List Str) : S (zaw x_b x_names) (fun r => r.2.f_l = zbt x_names x_b.f_l) := ⟨by unfold zaw; exact sg⟩

end Go.Dm
end
section
set_option linter.unusedVariables false
set_option maxRecDepth 10000
set_option maxHeartbeats 2000000
namespace Go.Dm
instance (x_x : api_Field) (x_a1 : Str) : S (zcc x_x x_a1) (fun r => r = (low x_x.Name == low x_a1)) := ⟨by unfold zcc; exact sg⟩

instance (x_b : bag_Bag) (x_l : List api_Field) : S (zbx x_b x_l) (fun r => r.f_l = x_b.f_l ++ x_l) := ⟨by unfold zbx; exact sg⟩

instance (x_b : bag_Bag) (x_name : Str) (x_value : Str) : S (zc5 x_b x_name x_value) (fun r => Wr (nmS x_name) x_b.f_l r.f_l) := ⟨by unfold zc5; exact sgW⟩

instance (x_w : stage_worker) (x_env : api_Env) (x_t : api_Target) : S (za7 x_w x_env x_t) (fun r => r.f_h = x_w.f_h ∧ Wr (zjL 1) x_w.Bag.f_l r.Bag.f_l) := ⟨by unfold za7 za0; exact sgP⟩

instance (x_w : stage_worker) : S (zad x_w) (fun r => r.1.Kind = x_w.f_h.Kind ∧ r.1.Minor = x_w.f_h.Minor ∧ r.1.Fields = x_w.Bag.f_l ∧ r.2 = 0) := ⟨by unfold zad; exact sg⟩

instance (i12 : Int) (n : Nat) (v2 : api_Env) (l5 : List api_Field) (i13 : Int) : S (zT i12 n v2 l5 i13) (fun r => Wr zzI l5 r) := by
 induction n generalizing v2 l5 i13 with
 | zero => exact ⟨by unfold zT; exact Vn⟩
 | succ n ih => exact ⟨by unfold zT zcq; exact sgP⟩

instance (x_env : api_Env) (x_l : List api_Field) : S (zcN x_env x_l) (fun r => Wr zzI x_l r) := ⟨by unfold zcN; exact sgP⟩

instance (x_a0 : api_Env) (x_a1 : api_Head) : S (zfY x_a0 x_a1) (fun r => (r.2 = 0 → r.1.Kind = x_a1.Kind ∧ (x_a1.Kind = 1 ∨ x_a1.Kind = 2) ∧ r.1.Minor = 1 ∧ ∃ y,zg7 x_a1.Fields = some y ∧ Wr (zjL x_a1.Kind) y r.1.Fields) ∧ (r.2 ≠ 0 → r.1 = hd0)) := ⟨by unfold zfY; exact sgP⟩

end Go.Dm
end
section
set_option linter.unusedVariables false
set_option maxRecDepth 10000
set_option maxHeartbeats 2000000
namespace Go.Dm
instance (x_name : Str) : S (ziH x_name) (fun r => r = decide (low x_name ∈ zjM)) := ⟨by unfold ziH; exact sgN⟩

instance (x_name : Str) : S (ziI x_name) (fun r => r = false → ¬ inF x_name) := ⟨by unfold ziI; exact sgN⟩

instance (x_name : Str) : S (zg8 x_name) (fun r => r = true → ¬ inF x_name) := ⟨by unfold zg8; exact sgN⟩

instance (x_r : api_Rule) : S (zke x_r) (fun r => r = true → x_r.Kind = 4 → ¬ inF x_r.To) := ⟨by unfold zke zhW; exact sgN⟩

instance (x_r : api_Rule) : S (zhb x_r) (fun r => r = 0 → okR x_r) := ⟨by unfold zhb; exact sgN⟩

instance (l0 : List api_Rule) (l7 : List api_Rule) (i8 : Int) (n : Nat) (i9 : Int) : S (zbF l0 l7 i8 n i9) (fun r => 0 ≤ i9 → i8 = l7.length → r.2 = 0 → ∀ ρ ∈ dr l7 i9,okR ρ) := by
 induction n generalizing i9 with
 | zero => exact ⟨by unfold zbF; exact Vn⟩
 | succ n ih => exact ⟨by unfold zbF; exact sgN⟩

instance (x_l : List api_Rule) : S (zfZ x_l) (fun r => r.2 = 0 → ∀ ρ ∈ x_l,okR ρ) := ⟨by unfold zfZ; exact sgN⟩

end Go.Dm
end
section
set_option linter.unusedVariables false
set_option maxRecDepth 10000
set_option maxHeartbeats 2000000
namespace Go.Dm
instance (x_g : api_Guard) (x_n : Int) : S (zd7 x_g x_n) (fun r => ∀ Z,zkj Z r) := ⟨by unfold zd7; exact sgR⟩

instance (x_r : api_Rule) : S (zf0 x_r) (fun r => ∀ Z,rok Z x_r → zkj Z r) := ⟨by unfold zf0; exact sgR⟩

instance (l6 : List api_Rule) (i7 : Int) (n : Nat) (vp0 : compile_compiler) (i8 : Int) : S (zK l6 i7 n vp0 i8) (fun r => ∀ Z,(∀ o ∈ vp0.f_out,zkj Z o) → (∀ ρ ∈ l6,rok Z ρ) → ∀ o ∈ r.f_out,zkj Z o) := by
 induction n generalizing vp0 i8 with
 | zero => exact ⟨by unfold zK; exact Vn⟩
 | succ n ih => exact ⟨by unfold zK; exact sgR⟩

instance (x_c : compile_compiler) (x_l : List api_Rule) : S (zax x_c x_l) (fun r => ∀ Z,(∀ o ∈ x_c.f_out,zkj Z o) → (∀ ρ ∈ x_l,rok Z ρ) → ∀ o ∈ r.f_out,zkj Z o) := ⟨by unfold zax; exact sgR⟩

instance  (n : Nat) (vp0 : compile_compiler) (l1 : List api_Rule) : S (zD n vp0 l1) (fun r => ∀ Z,(∀ o ∈ vp0.f_out,zkj Z o) → (∀ ρ ∈ l1,rok Z ρ) → ∀ o ∈ r.f_out,zkj Z o) := by
 induction n generalizing vp0 l1 with
 | zero => exact ⟨by unfold zD; exact Vn⟩
 | succ n ih => exact ⟨by unfold zD zaA; exact sgR⟩

instance (x_c : compile_compiler) (x_l : List api_Rule) : S (zay x_c x_l) (fun r => ∀ Z,(∀ o ∈ x_c.f_out,zkj Z o) → (∀ ρ ∈ x_l,rok Z ρ) → ∀ o ∈ r.f_out,zkj Z o) := ⟨by unfold zay; exact sgR⟩

instance (i0 : Int) (l26 : List api_Rule) (i27 : Int) (n : Nat) (l8 : List api_Rule) (i28 : Int) : S (zab i0 l26 i27 n l8 i28) (fun r => ∀ Z,(∀ ρ ∈ l8,rok Z ρ) → (∀ ρ ∈ l26, ρ.Side = i0 → rok Z ρ) → ∀ o ∈ r.1,zkj Z o) := by
 induction n generalizing l8 i28 with
 | zero => exact ⟨by unfold zab; exact Vn⟩
 | succ n ih => exact ⟨by unfold zab; exact sgR⟩

instance (x_side : Int) (x_l : List api_Rule) : S (zcO x_side x_l) (fun r => r.2 = 0 → (∀ ρ ∈ x_l,okR ρ) ∧ ∀ Z,(∀ ρ ∈ x_l, ρ.Side = x_side → rok Z ρ) → ∀ o ∈ r.1,zkj Z o) := ⟨by unfold zcO zcs; exact sgR⟩

instance (s1 : Str) (s2 : Str) (i15 : Int) (n : Nat) (vp0 : bag_Bag) (i7 : Int) (i16 : Int) : S (zW s1 s2 i15 n vp0 i7 i16) (fun r => Wr (renS s1 s2) vp0.f_l r.2.f_l) := by
 induction n generalizing vp0 i7 i16 with
 | zero => exact ⟨by unfold zW; exact Vn⟩
 | succ n ih => exact ⟨by unfold zW; exact sgW⟩

instance (x_b : bag_Bag) (x_from : Str) (x_to : Str) : S (zch x_b x_from x_to) (fun r => Wr (renS x_from x_to) x_b.f_l r.2.f_l) := ⟨by unfold zch; exact sgW⟩

instance (x_m : machine_machine) (x_op : api_Op) : S (zaW x_m x_op) (fun r => ∀ Z,zkj Z x_op → Wr Z x_m.Bag.f_l r.Bag.f_l) := ⟨by unfold zaW; exact sgM⟩

instance (l1 : List api_Op) (n : Nat) (vp0 : machine_machine) (i4 : Int) : S (zF l1 n vp0 i4) (fun r => ∀ Z,zyr Z l1 → Wr Z vp0.Bag.f_l r.Bag.f_l) := by
 induction n generalizing vp0 i4 with
 | zero => exact ⟨by unfold zF; exact Vn⟩
 | succ n ih => exact ⟨by unfold zF zaH; exact sgM⟩

instance (x_m : machine_machine) (x_l : List api_Op) : S (zaC x_m x_l) (fun r => ∀ Z,zyr Z x_l → Wr Z x_m.Bag.f_l r.Bag.f_l) := ⟨by unfold zaC; exact sgM⟩

instance (x_known : List api_Param) (x_fields : List api_Field) (x_l : List api_Op) : S (zf1 x_known x_fields x_l) (fun r => ∀ Z,zyr Z x_l → Wr Z x_fields r) := ⟨by unfold zf1; exact sgM⟩

instance (x_known : List api_Param) (x_fields : List api_Field) (x_side : Int) (x_l : List api_Rule) : S (zd8 x_known x_fields x_side x_l) (fun r => r.2 = 0 → (∀ ρ ∈ x_l,okR ρ) ∧ Wr (zqE x_side x_l) x_fields r.1) := ⟨by unfold zd8; exact sgR⟩

end Go.Dm
end
section
set_option linter.unusedVariables false
set_option maxRecDepth 10000
set_option maxHeartbeats 2000000
namespace Go.Dm
instance (vp0 : bag_Bag) (s1 : Str) (s2 : Str) (n : Nat) (i6 : Int) : S (zae vp0 s1 s2 n i6) (fun r => Wr (nmS s1) vp0.f_l r.f_l) := by
 induction n generalizing i6 with
 | zero => exact ⟨by unfold zae; exact Vn⟩
 | succ n ih => exact ⟨by unfold zae; exact sgW⟩

instance (x_b : bag_Bag) (x_name : Str) (x_element : Str) : S (zaX x_b x_name x_element) (fun r => Wr (nmS x_name) x_b.f_l r.f_l) := ⟨by unfold zaX; exact sgW⟩

instance (x_v : api_Via) (x_l : List api_Field) : S (zhc x_v x_l) (fun r => r.2 = 0 → Wr (nmS [86,105,97]) x_l r.1) := ⟨by unfold zhc; exact sgW⟩

instance (x_env : api_Env) (x_l : List api_Field) : S (zci x_env x_l) (fun r => r.2 = 0 → Wr (nmS [70,111,114,119,97,114,100,101,100]) x_l r.1) := ⟨by unfold zci; exact sgW⟩

instance (x_client : Str) (x_l : List api_Field) : S (zhd x_client x_l) (fun r => Wr (nmS [88,45,70,111,114,119,97,114,100,101,100,45,70,111,114]) x_l r) := ⟨by unfold zhd zfg; exact sgW⟩

instance (x_a0 : api_Env) (x_a1 : Int) (x_a2 : api_Head) : S (zhe x_a0 x_a1 x_a2) (fun r => (r.2 = 0 → r.1.Kind = x_a2.Kind ∧ r.1.Minor = x_a2.Minor ∧ Wr (zjL x_a2.Kind) x_a2.Fields r.1.Fields) ∧ (r.2 ≠ 0 → r.1 = hd0)) := ⟨by unfold zhe zcd zfi zfh; exact sgP⟩

instance (x_env : api_Env) (x_f : api_Frame) (x_h : api_Head) (x_l : List api_Rule) : S (zb7 x_env x_f x_h x_l) (fun r => (r.2 ≠ 0 → r.1 = hd0) ∧ (r.2 = 0 → r.1.Kind = x_h.Kind ∧ r.1.Minor = 1 ∧ (∀ ρ ∈ x_l,okR ρ) ∧ ∃ y w z,zg7 x_h.Fields = some y ∧ zaI x_f = some z ∧ r.1.Fields = w ++ z ∧ Wr (fulS x_h.Kind x_l) y w)) := ⟨by unfold zb7; exact sgF⟩

end Go.Dm
end
section
set_option linter.unusedVariables false
set_option maxRecDepth 10000
set_option maxHeartbeats 2000000
namespace Go.Dm
instance (x_a : api_Head) (x_b : api_Head) : T (zk7 x_a x_b) (True) (fun r => x_a = x_b → r = true) := ⟨fun h => by unfold zk7; exact go2⟩

instance (l0 : List api_Field) (l1 : List api_Field) (n : Nat) (i5 : Int) : T (zfn l0 l1 n i5) (l0.length = l1.length ∧ l0.length < 1000000000 ∧ 0 ≤ i5 ∧ i5 ≤ l0.length ∧ l0.length < i5 + n) (fun r => l0 = l1 → r = true) := by
 induction n generalizing i5 with
 | zero => exact ⟨fun h => goz⟩
 | succ n ih => exact ⟨fun h => by unfold zfn; exact go2⟩

instance (x_a : List api_Field) (x_b : List api_Field) : T (zi1 x_a x_b) (x_a.length < 1000000000) (fun r => x_a = x_b → r = true) := ⟨fun h => by unfold zi1; exact go2⟩

instance (x_a : api_Head) (x_b : api_Head) : T (zk8 x_a x_b) (x_a.Fields.length < 1000000000) (fun r => x_a = x_b → r = true) := ⟨fun h => by unfold zk8; exact go2⟩

instance (x_name : Str) : T (zh2 x_name) (x_name.length < 1000000000) (fun r => r = true ↔ low x_name ∈ zjM) := ⟨fun h => by unfold zh2; exact goG⟩

instance (x_name : Str) (x_side : Int) : T (zh3 x_name x_side) (x_name.length < 1000000000) (fun r => r = true ↔ zjL x_side (low x_name)) := ⟨fun h => by unfold zh3; exact goG⟩

instance (i1 : Int) (l2 : List api_Rule) (s7 : Str) (n : Nat) (i8 : Int) : T (zaz i1 l2 s7 n i8) (Rl l2 ∧ 0 ≤ i8 ∧ i8 ≤ l2.length ∧ l2.length < i8 + n) (fun r => r = true ↔ zqE i1 (dr l2 i8) s7) := by
 induction n generalizing i8 with
 | zero => exact ⟨fun h => goz⟩
 | succ n ih => exact ⟨fun h => by unfold zaz zdp; exact goG⟩

instance (x_name : Str) (x_side : Int) (x_l : List api_Rule) : T (zfo x_name x_side x_l) (Rl x_l ∧ x_name.length < 1000000000) (fun r => r = true ↔ zqE x_side x_l (low x_name)) := ⟨fun h => by unfold zfo; exact goG⟩

end Go.Dm
end
section
set_option linter.unusedVariables false
set_option maxRecDepth 10000
set_option maxHeartbeats 2000000
namespace Go.Dm
instance (s0 : Str) (n : Nat) (s4 : Str) (i5 : Int) : T (zcw s0 n s4 i5) (0 ≤ i5 ∧ i5 ≤ s0.length ∧ s0.length < i5 + n ∧ s0.length < 1000000000 ∧ s4.length ≤ i5) (fun r => r.2 = inn s0 (qtd (dr s0 i5))) := by
 induction n generalizing s4 i5 with
 | zero => exact ⟨fun h => goz⟩
 | succ n ih => exact ⟨fun h => by unfold zcw zgM; exact goH⟩

instance (x_s : Str) : T (zjw x_s) (x_s.length < 1000000000) (fun r => dr x_s 0 = 34 :: dr x_s (0 + 1) → r.2 = inn x_s (qtd (dr x_s 1))) := ⟨fun h => by unfold zjw; exact goH⟩

instance (s0 : Str) (n : Nat) (i5 : Int) (i6 : Int) : T (za3 s0 n i5 i6) (0 ≤ i6 ∧ i6 ≤ s0.length + 1 ∧ s0.length + 1 < i6 + n ∧ s0.length < 1000000000 ∧ 0 ≤ i5 ∧ i5 ≤ i6 ∧ (1 ≤ i5 ∨ ∃ t,dr s0 i6 = 40 :: t)) (fun r => r = inn s0 (cmt i5 (dr s0 i6))) := by
 induction n generalizing i5 i6 with
 | zero => exact ⟨fun h => goz⟩
 | succ n ih => exact ⟨fun h => by unfold za3 zdq; exact goH⟩

instance (x_s : Str) : T (zjx x_s) (x_s.length < 1000000000 ∧ (∃ c,dr x_s 0 = c :: dr x_s (0 + 1) ∧ (c = 34 ∨ c = 40))) (fun r => (dr x_s 0 = 34 :: dr x_s (0 + 1) → r = inn x_s (qtd (dr x_s 1))) ∧ (dr x_s 0 = 40 :: dr x_s (0 + 1) → r = inn x_s (cmt 1 (dr x_s 1)))) := ⟨fun h => by unfold zjx; exact goH⟩

end Go.Dm
end
section
set_option linter.unusedVariables false
set_option maxRecDepth 10000
set_option maxHeartbeats 2000000
namespace Go.Dm
instance (l4 : List Str) (n : Nat) (l8 : List Str) (i9 : Int) : T (zdr l4 n l8 i9) (0 ≤ i9 ∧ i9 ≤ l4.length ∧ l4.length < i9 + n ∧ l4.length < 1000000001 ∧ l8.length ≤ i9) (fun r => r = (l8 ++ flt (dr l4 i9),0)) := by
 induction n generalizing l8 i9 with
 | zero => exact ⟨fun h => goz⟩
 | succ n ih => exact ⟨fun h => by unfold zdr; exact goI⟩

instance (s0 : Str) (n : Nat) (l4 : List Str) (i5 : Int) (i6 : Int) : T (zcx s0 n l4 i5 i6) (0 ≤ i5 ∧ i5 ≤ i6 ∧ i6 ≤ s0.length ∧ s0.length < i6 + n ∧ s0.length < 1000000000 ∧ l4.length ≤ i6) (fun r => r = ans (spR s0 (flt l4) i5 i6)) := by
 induction n generalizing l4 i5 i6 with
 | zero => exact ⟨fun h => goz⟩
 | succ n ih => exact ⟨fun h => by unfold zcx zgN; exact goI⟩

instance (x_a0 : Str) : T (zjy x_a0) (x_a0.length < 1000000000) (fun r => r = ans (spl [] x_a0)) := ⟨fun h => by unfold zjy; exact goI⟩

end Go.Dm
end
section
set_option linter.unusedVariables false
set_option maxRecDepth 10000
set_option maxHeartbeats 2000000
namespace Go.Dm
instance {P : (List Str × Int) → Prop} (k0 : List Str → Int → Option (List Str × Int)) (i5 : Int) (l6 : List Str) (n : Nat) (l4 : List Str) (i8 : Int) : K (zd1 k0 i5 l6 n l4 i8) P ((Sm l6 ∧ 0 ≤ i8 ∧ i8 ≤ l6.length ∧ l6.length < i8 + n ∧ l4.length + l6.length ≤ 4000000000000 + i8 ∧ 0 ≤ i5 ∧ i5 ≤ 10000 ∧ ((dr l6 i8).all zbc = false → P ([],2))) ∧ (∀ l i,l = l4 ++ dr l6 i8 ∧ i = i5 + 1 ∧ (dr l6 i8).all zbc = true → W (k0 l i) P)) := by
 induction n generalizing l4 i8 with
 | zero => exact ⟨fun h => goz⟩
 | succ n ih => exact ⟨fun ⟨h,hk0⟩ => by have hk0 := fun a0 a1 => K.mk (hk0 a0 a1); unfold zd1; exact goJ2⟩

instance (l0 : List Str) (n : Nat) (l4 : List Str) (i5 : Int) : T (zcS l0 n l4 i5) (Ss l0 ∧ 0 ≤ i5 ∧ i5 ≤ l0.length ∧ l0.length < i5 + n ∧ l4.length ≤ i5 * 20000001 ∧ ∀ s ∈ l4,s.length ≤ 20000000) (fun r => r.1.length ≤ l0.length * 20000001 ∧ (∀ s ∈ r.1,s.length ≤ 20000000) ∧ r = ans (tkR l4 (dr l0 i5))) := by
 induction n generalizing l4 i5 with
 | zero => exact ⟨fun h => goz⟩
 | succ n ih => exact ⟨fun h => by unfold zcS; exact goJ2⟩

instance (x_l : List Str) : T (zgO x_l) (Ss x_l) (fun r => r.1.length ≤ x_l.length * 20000001 ∧ (∀ s ∈ r.1,s.length ≤ 20000000) ∧ r = ans (tks x_l)) := ⟨fun h => by unfold zgO; exact goJ2⟩

instance {P : (List Str) → Prop} (k1 : List Str → Int → Option (List Str)) (l3 : List Str) (i8 : Int) (s9 : Str) (n : Nat) (t10 : Bool) (i11 : Int) : K (zbp k1 l3 i8 s9 n t10 i11) P ((0 ≤ i11 ∧ i11 ≤ l3.length ∧ l3.length < i11 + n ∧ l3.length ≤ 300000000000 ∧ 0 ≤ i8 ∧ i8 ≤ 30000000) ∧ (∀ l i,i = i8 + 1 ∧ l = (if t10 = true ∨ s9 ∈ dr l3 i11 then l3 else l3 ++ [s9]) → W (k1 l i) P)) := by
 induction n generalizing t10 i11 with
 | zero => exact ⟨fun h => goz⟩
 | succ n ih => exact ⟨fun ⟨h,hk0⟩ => by have hk0 := fun a0 a1 => K.mk (hk0 a0 a1); unfold zbp; exact goJ2⟩

instance {P : (List Str) → Prop} (k0 : List Str → Int → Option (List Str)) (i5 : Int) (l6 : List Str) (n : Nat) (l3 : List Str) (i8 : Int) : K (zbq k0 i5 l6 n l3 i8) P ((l6.length ≤ 20000001 ∧ (∀ s ∈ l6,s.length ≤ 20000000) ∧ 0 ≤ i8 ∧ i8 ≤ l6.length ∧ l6.length < i8 + n ∧ l3.length ≤ i5 * 20000001 + i8 ∧ (∀ s ∈ l3,s.length ≤ 20000000) ∧ 0 ≤ i5 ∧ i5 ≤ 10000) ∧ (∀ l i,(l.length : Int) ≤ i * 20000001 ∧ i = i5 + 1 ∧ (∀ s ∈ l,s.length ≤ 20000000) ∧ l = nmA l3 (dr l6 i8) → W (k0 l i) P)) := by
 induction n generalizing l3 i8 with
 | zero => exact ⟨fun h => goz⟩
 | succ n ih => exact ⟨fun ⟨h,hk0⟩ => by have hk0 := fun a0 a1 => K.mk (hk0 a0 a1); unfold zbq; exact goJ2⟩

instance (l4 : List Str) (n : Nat) (l3 : List Str) (i5 : Int) : T (zaR l4 n l3 i5) (Ss l4 ∧ 0 ≤ i5 ∧ i5 ≤ l4.length ∧ l4.length < i5 + n ∧ l3.length ≤ i5 * 20000001 ∧ ∀ s ∈ l3,s.length ≤ 20000000) (fun r => (∀ s ∈ r,s.length ≤ 20000000) ∧ r.length ≤ l4.length * 20000001 ∧ r = nmB l3 (dr l4 i5)) := by
 induction n generalizing l3 i5 with
 | zero => exact ⟨fun h => goz⟩
 | succ n ih => exact ⟨fun h => by unfold zaR; exact goJ3⟩

instance (x_l : List api_Field) : T (zd2 x_l) (Fm x_l) (fun r => (∀ s ∈ r,s.length ≤ 20000000) ∧ r.length ≤ 200000010000 ∧ r = nom x_l) := ⟨fun h => by unfold zd2; exact goJ3⟩

end Go.Dm
end
section
set_option linter.unusedVariables false
set_option maxRecDepth 10000
set_option maxHeartbeats 2000000
namespace Go.Dm
instance (s0 : Str) (l7 : List Str) (n : Nat) (i8 : Int) : T (zfp s0 l7 n i8) (s0.length < 1000000000 ∧ 0 ≤ i8 ∧ i8 ≤ l7.length ∧ l7.length < i8 + n ∧ l7.length ≤ 200000010000) (fun r => r = true ↔ low s0 ∉ dr l7 i8) := by
 induction n generalizing i8 with
 | zero => exact ⟨fun h => goz⟩
 | succ n ih => exact ⟨fun h => by unfold zfp; exact zzE⟩

instance (x_name : Str) (x_h : api_Head) (x_l : List api_Rule) : T (zk9 x_name x_h x_l) (x_name.length < 1000000000 ∧ Fm x_h.Fields ∧ Rl x_l) (fun r => r = true ↔ freP x_name x_h x_l) := ⟨fun h => by unfold zk9; exact zzE⟩

instance (l1 : List api_Field) (l2 : List api_Rule) (v3 : api_Head) (n : Nat) (l7 : List api_Field) (i8 : Int) : T (zea l1 l2 v3 n l7 i8) (Fm l1 ∧ Rl l2 ∧ Fm v3.Fields ∧ 0 ≤ i8 ∧ i8 ≤ l1.length ∧ l1.length < i8 + n ∧ l7.length ≤ i8) (fun r => r = l7 ++ Fi (frB v3 l2) (dr l1 i8) ∧ r.length ≤ l1.length) := by
 induction n generalizing l7 i8 with
 | zero => exact ⟨fun h => goz⟩
 | succ n ih => exact ⟨fun h => by unfold zea; exact zzE⟩

instance (x_h : api_Head) (x_fields : List api_Field) (x_l : List api_Rule) : T (zi2 x_h x_fields x_l) (Fm x_fields ∧ Rl x_l ∧ Fm x_h.Fields) (fun r => r = Fi (frB x_h x_l) x_fields ∧ r.length ≤ x_fields.length) := ⟨fun h => by unfold zi2; exact zzE⟩

instance {P : Bool → Prop} (k0 : Int → Option Bool) (s0 : Str) (i5 : Int) (l6 : List Str) (n : Nat) (i8 : Int) : K (zgP k0 s0 i5 l6 n i8) P ((s0.length < 1000000000 ∧ Sm l6 ∧ 0 ≤ i8 ∧ i8 ≤ l6.length ∧ l6.length < i8 + n ∧ 0 ≤ i5 ∧ i5 ≤ 300000000000 ∧ (zwa s0 (dr l6 i8) → P true)) ∧ (∀ i,i = i5 + 1 → W (k0 i) P)) := by
 induction n generalizing i8 with
 | zero => exact ⟨fun h => goz⟩
 | succ n ih => exact ⟨fun ⟨h,hk0⟩ => by have hk0 := fun a0 => K.mk (hk0 a0); unfold zgP; exact zzE⟩

instance (s0 : Str) (l1 : List Str) (n : Nat) (i5 : Int) : T (ze0 s0 l1 n i5) (s0.length < 1000000000 ∧ l1.length ≤ 200000010000 ∧ (∀ s ∈ l1,s.length ≤ 20000000) ∧ (∀ s ∈ l1,zbc s = true) ∧ 0 ≤ i5 ∧ i5 ≤ l1.length ∧ l1.length < i5 + n) (fun r => r = true → zwa s0 (dr l1 i5)) := by
 induction n generalizing i5 with
 | zero => exact ⟨fun h => goz⟩
 | succ n ih => exact ⟨fun h => by unfold ze0; exact zzE⟩

instance (x_token : Str) (x_l : List Str) : T (zmQ x_token x_l) (x_token.length < 1000000000 ∧ x_l.length ≤ 200000010000 ∧ (∀ s ∈ x_l,s.length ≤ 20000000) ∧ (∀ s ∈ x_l,zbc s = true)) (fun r => r = true → zwa x_token x_l) := ⟨fun h => by unfold zmQ; exact zzE⟩

end Go.Dm
end
section
set_option linter.unusedVariables false
set_option maxRecDepth 10000
set_option maxHeartbeats 2000000
namespace Go.Dm
instance (x_r : length_reader) (x_l : List Str) : T (zc1 x_r x_l) (Ss x_l) (fun r => x_l = [chk] → x_r.f_minor ≠ 0 → r.1 = ⟨3,0⟩ ∧ r.2.1 = 0) := ⟨fun h => by unfold zc1; exact goLg⟩

instance {P : (api_Frame × Int × bag_Bag) → Prop} (k0 : Int → Int → Option (api_Frame × Int × bag_Bag)) (vp32 : bag_Bag) (i17 : Int) (l29 : List Str) (i30 : Int) (n : Nat) (i6 : Int) (i31 : Int) : K (zO k0 vp32 i17 l29 i30 n i6 i31) P ((Sm l29 ∧ i30 = l29.length ∧ 0 ≤ i31 ∧ i31 ≤ i30 ∧ i30 < i31 + n ∧ 0 ≤ i17 ∧ i17 ≤ 10000 ∧ -1 ≤ i6 ∧ i6 ≤ 1099511627776 ∧ (lgA i6 (dr l29 i31) = none → P (⟨0,0⟩,28,vp32))) ∧ (∀ a b,b = i17 + 1 ∧ -1 ≤ a ∧ a ≤ 1099511627776 ∧ (∀ v,lgA i6 (dr l29 i31) = some v → a = v) → W (k0 a b) P)) := by
 induction n generalizing i6 i31 with
 | zero => exact ⟨fun h => goz⟩
 | succ n ih => exact ⟨fun ⟨h,hk0⟩ => by have hk0 := fun a0 a1 => K.mk (hk0 a0 a1); unfold zO zaJ; exact goLg⟩

instance (vp32 : bag_Bag) (l15 : List Str) (i16 : Int) (n : Nat) (i6 : Int) (i17 : Int) : T (zU vp32 l15 i16 n i6 i17) (Ss l15 ∧ i16 = l15.length ∧ 0 ≤ i17 ∧ i17 ≤ i16 ∧ i16 < i17 + n ∧ -1 ≤ i6 ∧ i6 ≤ 1099511627776) (fun r => ∀ v,lgB i6 (dr l15 i17) = some v → 0 ≤ v → r = (⟨2,v⟩,0,vp32)) := by
 induction n generalizing i6 i17 with
 | zero => exact ⟨fun h => goz⟩
 | succ n ih => exact ⟨fun h => by unfold zU; exact goLg⟩

instance (x_r : length_reader) (x_l : List Str) : T (zcE x_r x_l) (Ss x_l) (fun r => ∀ v,lgB (-1) x_l = some v → 0 ≤ v → r.1 = ⟨2,v⟩ ∧ r.2.1 = 0) := ⟨fun h => by unfold zcE; exact goLg⟩

instance (x_h : api_Head) (x_none : Int) : T (zmR x_h x_none) (Fm x_h.Fields) (fun r => (vals [84,114,97,110,115,102,101,114,45,69,110,99,111,100,105,110,103] x_h.Fields = [] → vals [67,111,110,116,101,110,116,45,76,101,110,103,116,104] x_h.Fields = [] → r = (⟨x_none,0⟩,0)) ∧ (vals [84,114,97,110,115,102,101,114,45,69,110,99,111,100,105,110,103] x_h.Fields = [chk] → vals [67,111,110,116,101,110,116,45,76,101,110,103,116,104] x_h.Fields = [] → x_h.Minor ≠ 0 → r = (⟨3,0⟩,0)) ∧ ∀ v,vals [84,114,97,110,115,102,101,114,45,69,110,99,111,100,105,110,103] x_h.Fields = [] → vals [67,111,110,116,101,110,116,45,76,101,110,103,116,104] x_h.Fields ≠ [] → lgB (-1) (vals [67,111,110,116,101,110,116,45,76,101,110,103,116,104] x_h.Fields) = some v → 0 ≤ v → r = (⟨2,v⟩,0)) := ⟨fun h => by unfold zmR ziE; exact goLg⟩

instance (x_h : api_Head) : T (zgQ x_h) (Fm x_h.Fields) (fun r => (vals [84,114,97,110,115,102,101,114,45,69,110,99,111,100,105,110,103] x_h.Fields = [] → vals [67,111,110,116,101,110,116,45,76,101,110,103,116,104] x_h.Fields = [] → r = (⟨1,0⟩,0)) ∧ (vals [84,114,97,110,115,102,101,114,45,69,110,99,111,100,105,110,103] x_h.Fields = [chk] → vals [67,111,110,116,101,110,116,45,76,101,110,103,116,104] x_h.Fields = [] → x_h.Minor ≠ 0 → r = (⟨3,0⟩,0)) ∧ ∀ v,vals [84,114,97,110,115,102,101,114,45,69,110,99,111,100,105,110,103] x_h.Fields = [] → vals [67,111,110,116,101,110,116,45,76,101,110,103,116,104] x_h.Fields ≠ [] → lgB (-1) (vals [67,111,110,116,101,110,116,45,76,101,110,103,116,104] x_h.Fields) = some v → 0 ≤ v → r = (⟨2,v⟩,0)) := ⟨fun h => by unfold zgQ; exact goLg⟩

end Go.Dm
end
