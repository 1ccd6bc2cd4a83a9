/-
 What the library's models come to, as instances of T. No program in sight.
-/
import Derived.Test.YtlcienkhiklpaaaGreatDoorTSplit
import Derived.Test.YtlcienkhiklpaaaGreatDoorTW
import Derived.Test.YtlcienkhiklpaaaGreatDoorP1
import Derived.Lib.ItoaLen
set_option linter.unusedSimpArgs false
set_option linter.unusedVariables false
namespace Go.Dm
theorem zo3 (c : UInt8) : ∀ (s : Str) (k : Nat), -1 ≤ zek s c k ∧ zek s c k < k + s.length ∧ (0 ≤ zek s c k → k ≤ zek s c k)
 | [],k => by simp only [zek]; simp; omega
 | x :: s,k => by
  have := zo3 c s (k + 1)
  simp only [zek,List.length_cons]
  split <;> omega
theorem zwp (c : Str) : ∀ (s : Str) (k : Nat), -1 ≤ zdO s c k ∧ zdO s c k < k + s.length ∧ (0 ≤ zdO s c k → k ≤ zdO s c k)
 | [],k => by simp only [zdO]; simp; omega
 | x :: s,k => by
  have := zwp c s (k + 1)
  simp only [zdO,List.length_cons]
  split <;> omega
theorem zqT : ∀ (s t : Str),zjK s t = true → t.length ≤ s.length
 | s,[],_ => by simp
 | [],_ :: _,h => by simp [zjK] at h
 | x :: s,y :: t,h => by
  simp only [zjK,Bool.and_eq_true] at h
  have := zqT s t h.2
  simp; omega
theorem zwq : ∀ (s t : Str) (k : Nat), -1 ≤ zdN s t k ∧ (0 ≤ zdN s t k → k ≤ zdN s t k ∧ zdN s t k + t.length ≤ k + s.length)
 | [],t,k => by
  unfold zdN
  split
  ·have := zqT [] t ‹_›
   simp at this ⊢; subst this; simp
  ·simp
 | x :: s,t,k => by
  unfold zdN
  have := zwq s t (k + 1)
  split
  ·have := zqT _ t ‹_›
   simp at this ⊢; omega
  ·simp; omega
instance (s : Str) (c : UInt8) : T (strings_IndexByte s c) True (fun r => -1 ≤ r ∧ r < s.length ∧ decide (0 ≤ r) = s.contains c) := ⟨fun _ => ⟨_,rfl,by have := zo3 c s 0; omega,by have := zo3 c s 0; omega,idxB c s 0⟩⟩
instance (s t : Str) : T (strings_Index s t) (s.length < 4294967281) (fun r => -1 ≤ r ∧ (0 ≤ r → r + t.length ≤ s.length)) := ⟨fun h => ⟨zdN s t 0,by rw [strings_Index,if_pos h],by have := zwq s t 0; omega⟩⟩
instance (s t : Str) : T (strings_Contains s t) (s.length < 4294967281) (fun _ => True) := ⟨fun h => ⟨_,by rw [strings_Contains,if_pos h],trivial⟩⟩
instance (s c : Str) : T (strings_IndexAny s c) (s.length < 4294967281 ∧ c.length < 4294967281 ∧ c.all (fun c => c.toNat < 128) = true) (fun r => r = zdO s c 0 ∧ -1 ≤ r ∧ r < s.length) :=
 ⟨fun h => ⟨zdO s c 0,by rw [strings_IndexAny,if_pos (by simpa using h)],rfl,by have := zwp c s 0; omega⟩⟩
theorem zEs (s c : Str) : (Go.Lib.trimLeftS s c).length ≤ s.length := (List.dropWhile_suffix _).length_le
theorem zzR (s c : Str) : (Go.Lib.trimRightS s c).length ≤ s.length := by
 unfold Go.Lib.trimRightS
 have := (List.dropWhile_suffix (c.contains ·) (l := s.reverse)).length_le
 simpa using this
instance (s t : Str) : T (strings_Cut s t) (s.length < 4294967281) (fun r => r = Go.Lib.cut s t ∧ r.1.length ≤ s.length ∧ r.2.1.length ≤ s.length) := ⟨fun h => ⟨Go.Lib.cut s t,by rw [strings_Cut,if_pos h],rfl,by
 unfold Go.Lib.cut
 split <;> simp <;> omega⟩⟩
instance (s c : Str) : T (za4 s c) (s.length < 4294967281 ∧ c.length < 4294967281 ∧ c.all (fun c => c.toNat < 128) = true) (fun r => r.length ≤ s.length ∧ (c = [32,9] → r = zqC s)) :=
 ⟨fun h => ⟨Go.Lib.trimS s c,by rw [za4,if_pos (by simpa using h)],Nat.le_trans (zEs _ _) (zzR _ _),fun e => by
  subst e
  have : ∀ b,([32,9] : Str).contains b = zhh b := fun b => by simp only [zhh,List.contains_cons,List.contains_nil,Bool.or_false]
  simp only [Go.Lib.trimS,Go.Lib.trimLeftS,Go.Lib.trimRightS,zqC]
  rw [show (fun b => ([32,9] : Str).contains b) = zhh from funext this]⟩⟩
instance (s c : Str) : T (zbO s c) (s.length < 4294967281 ∧ c.length < 4294967281 ∧ c.all (fun c => c.toNat < 128) = true) (fun r => r.length ≤ s.length) :=
 ⟨fun h => ⟨Go.Lib.trimRightS s c,by rw [zbO,if_pos (by simpa using h)],zzR _ _⟩⟩
instance (n b : Int) : T (zbN n b) (-9223372036854775808 ≤ n ∧ n ≤ 9223372036854775807 ∧ b = 10) (fun r => r.length ≤ 21 ∧ (0 ≤ n → r = Go.Lib.decDigits n.toNat)) :=
 ⟨fun h => ⟨Go.Lib.itoa n,by rw [zbN,if_pos (by simp [inI]; omega)],Go.Lib.itoa_length_le n h.1 h.2.1,fun h0 => by rw [Go.Lib.itoa,if_neg (by omega)]⟩⟩
theorem zn2 (sep : Str) (h : 1 ≤ sep.length) : ∀ (k : Nat) (s : Str),1 ≤ (Go.Lib.splitK sep 0 k s).length ∧ (Go.Lib.splitK sep 0 k s).length ≤ s.length + 1 ∧ ∀ x ∈ Go.Lib.splitK sep 0 k s,x.length ≤ s.length
 | 0,s => by simp [Go.Lib.splitK]
 | k + 1,s => by
  unfold Go.Lib.splitK
  split
  ·simp
  ·rename_i hi
   have := zn2 sep h k (s.drop ((Go.Lib.index s sep).toNat + sep.length))
   have hs : 1 ≤ s.length := by
    cases s with
    | nil => cases sep with
     | nil => simp at h
     | cons a b => simp [Go.Lib.index] at hi
    | cons a b => simp
   simp only [List.length_drop,List.length_cons,List.mem_cons] at this ⊢
   refine ⟨by omega,by omega,?_⟩
   rintro x (rfl | hx)
   ·simp; omega
   ·have := this.2.2 x hx; omega
instance (s sep : Str) : T (strings_Split s sep) (s.length < 4294967281 ∧ 1 ≤ sep.length) (fun r => 1 ≤ r.length ∧ r.length ≤ s.length + 1 ∧ (∀ x ∈ r,x.length ≤ s.length) ∧ ∀ c,sep = [c] → s.length < 1000000000 → r = zk c s) :=
 ⟨fun h => ⟨_,by rw [strings_Split,if_pos h],(zn2 sep h.2 _ _).1,(zn2 sep h.2 _ _).2.1,(zn2 sep h.2 _ _).2.2,fun c e hs => by
  have := zpP s c hs
  subst e
  rw [strings_Split,if_pos h] at this
  exact Option.some.inj this⟩⟩
def sl : List Str → Nat
 | [] => 0
 | x :: l => x.length + sl l
theorem zan : sl [] = 0 := rfl
theorem zP (x : Str) (l : List Str) : sl (x :: l) = x.length + sl l := rfl
theorem zao (l m : List Str) : sl (l ++ m) = sl l + sl m := by
 induction l with
 | nil => simp [sl]
 | cons x l ih => simp only [List.cons_append,sl,ih]; omega
theorem join_w (sep : Str) : ∀ (l : List Str),(Go.Lib.join l sep).length ≤ sl l + sep.length * l.length
 | [] => by simp [Go.Lib.join_nil]
 | x :: l => by
  have e : ∀ l : List Str,Go.Lib.lens l = sl l := by
   intro l
   induction l with
   | nil => rfl
   | cons x l ih => rw [zP, ← ih]; simp [Go.Lib.lens]
  rw [Go.Lib.join_length,e]
  simp only [List.length_cons,Nat.mul_add]; omega
instance (l : List Str) (sep : Str) : T (strings_Join l sep) (sep.length ≤ 10 ∧ sl l + 10 * l.length ≤ 100000000000000) (fun r => r.length ≤ sl l + 10 * l.length ∧ r = Go.Lib.join l sep) := ⟨fun h => by
 have a := join_w sep l
 have b : sep.length * l.length ≤ 10 * l.length := Nat.mul_le_mul_right _ h.1
 exact ⟨_,by rw [strings_Join,if_pos (by omega)],by omega,rfl⟩⟩
theorem zo4 (c : UInt8) : ∀ (s : Str),(zk c s).length ≤ s.length + 1 ∧ ∀ x ∈ zk c s,x.length ≤ s.length
 | [] => by simp [zk]
 | x :: s => by
  have := zo4 c s
  unfold zk
  split
  ·simp; exact ⟨by omega,fun x hx => by have := this.2 x hx; omega⟩
  ·split
   ·simp
   ·rename_i e
    rw [e] at this
    simp at this ⊢
    exact ⟨by omega,by omega,fun x hx => by have := this.2.2 x hx; omega⟩
instance (s : List api_Field) (i : Int) (v : List api_Field) : T (zam s i v) (v.length = 1 ∧ 0 ≤ i ∧ i ≤ s.length ∧ s.length ≤ 1000000000000) (fun r => r.length = s.length + 1 ∧ ∀ f ∈ r,f ∈ s ∨ f ∈ v) :=
 ⟨fun ⟨h1,h2,h3,h4⟩ => ⟨_,by rw [zam,if_pos ⟨h1,h2,h3,zEm (by omega) (by omega)⟩],by simp; omega,fun f hf => by
  simp only [List.mem_append] at hf
  rcases hf with (hf | hf) | hf
  ·exact .inl (List.mem_of_mem_take hf)
  ·exact .inr hf
  ·exact .inl (List.mem_of_mem_drop hf)⟩⟩
end Go.Dm
