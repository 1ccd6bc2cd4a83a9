/-
 Hosts, paths, targets, first lines, heads: which ones may be, as plain functions. No program in sight.
-/
import Derived.Test.YtlcienkhiklpaaaGreatDoorP0
import Derived.Test.YtlcienkhiklpaaaGreatDoorTSplit
import Derived.Lib.ItoaNum
import Derived.Lib.IndexMore
set_option linter.unusedSimpArgs false
set_option linter.unusedVariables false
namespace Go.Dm
def zfP (s : Str) (most : Int) : Prop := ∃ n : Nat,(n : Int) ≤ most ∧ s = Go.Lib.decDigits n
def zj0 (s : Str) : Prop := (zk 46 s).length = 4 ∧ ∀ x ∈ zk 46 s,zfP x 255
def zvb (s : Str) : Bool := s.all ziF && decide (1 ≤ s.length) && decide (s.length ≤ 4)
inductive Grp : Bool → List Str → Nat → Prop
 | nil (b : Bool) : Grp b [] 0
 | four (s : Str) (h : zj0 s) : Grp true [s] 2
 | hex (b : Bool) (s : Str) (l : List Str) (n : Nat) (h : zvb s = true) (g : Grp b l n) : Grp b (s :: l) (n + 1)
def spt (s : Str) : List Str := if s = [] then [] else zk 58 s
def zj1 : Str → Option (Str × Str)
 | 58 :: 58 :: t => some ([],t)
 | c :: t => (zj1 t).map fun p => (c :: p.1,p.2)
 | [] => none
def zvc (s : Str) : Prop := match zj1 s with
 | none => Grp true (spt s) 8
 | some (a,b) => ∃ n m,Grp false (spt a) n ∧ Grp true (spt b) m ∧ n + m ≤ 7
def zhO : Str → Bool
 | [] => true
 | c :: s => if c = 37 then (match s with
  | a :: b :: r => ziF a && ziF b && zhO r
  | _ => false) else (zmp c || zyn c) && zhO s
def zic (s : Str) : Prop := (∃ m,m ≠ [] ∧ s = 91 :: m ++ [93] ∧ zvc m) ∨ zj0 s ∨ (s ≠ [] ∧ zhO s = true)
def zjb (s : Str) : Prop := ∃ a p,s = a ++ 58 :: p ∧ 58 ∉ p ∧ zic a ∧ zfP p 65535
def zl2 (m : UInt8 → Bool) : Str → Bool
 | [] => true
 | c :: s => if c = 37 then (match s with
  | a :: b :: r => ziF a && ziF b && zl2 m r
  | _ => false) else (zsu c || m c) && zl2 m s
def zrI (s : Str) : Prop := ∃ t,s = 47 :: t ∧ zl2 (· == 47) s = true
def zgl (s : Str) : Prop := zl2 (fun c => c == 47 || c == 63) s = true
def zj2 (s : Str) : Prop := ∃ p t,s = p ++ t ∧ 63 ∉ p ∧ zrI p ∧ (t = [] ∨ ∃ q,t = 63 :: q ∧ zgl q)
def zyV (s : Str) : Prop := ∃ a h t,s = a ++ [58,47,47] ++ h ++ t ∧ (low a = [104,116,116,112] ∨ low a = [104,116,116,112,115]) ∧
 47 ∉ h ∧ 63 ∉ h ∧ (zic h ∨ zjb h) ∧ (t = [] ∨ (∃ q,t = 63 :: q ∧ zgl q) ∨ zj2 t)
def zoB (m s : Str) : Prop := if m = [67,79,78,78,69,67,84] then zjb s
 else (s = [42] ∧ m = [79,80,84,73,79,78,83]) ∨ zj2 s ∨ zyV s
theorem Grp.app {b : Bool} {y : List Str} {m : Nat} (hy : Grp b y m) : ∀ {x : List Str} {n : Nat},Grp false x n → Grp b (x ++ y) (n + m) := by
 intro x n h
 induction x generalizing n with
 | nil => cases h; simpa using hy
 | cons s x ih => cases h with
  | hex _ _ _ k h g => have := Grp.hex b s _ _ h (ih g); rw [Nat.add_right_comm]; exact this
theorem Grp.split {b : Bool} {y : List Str} (hy : y ≠ []) : ∀ {x : List Str} {k : Nat},Grp b (x ++ y) k → ∃ n m,Grp false x n ∧ Grp b y m ∧ n + m = k
 | [],k,h => ⟨0,k, .nil _,h,by simp⟩
 | s :: x,k,h => by
  rw [List.cons_append] at h
  generalize e : x ++ y = z at h
  cases h with
  | four => simp at e; exact absurd e.2 hy
  | hex _ _ _ n h g =>
   subst e
   obtain ⟨i,j,h1,h2,h3⟩ := g.split hy
   exact ⟨i + 1,j, .hex _ _ _ _ h h1,h2,by omega⟩
theorem spt_ne {s : Str} (h : s ≠ []) : spt s ≠ [] := by
 unfold spt
 rw [if_neg h]
 exact zbs _ _
theorem zoC (c : UInt8) : ∀ (a b : Str),zk c (a ++ c :: b) = zk c a ++ zk c b
 | [],b => by simp [zk]
 | x :: a,b => by
  rw [List.cons_append,zk,zoC c a b,zk]
  split
  ·simp
  ·cases h : zk c a with
   | nil => exact absurd h (zbs _ _)
   | cons => simp
theorem zxj {t x : Str} (hx : x ≠ []) : spt ((if t = [] then t else t ++ [58]) ++ x) = spt t ++ spt x := by
 unfold spt
 by_cases h : t = []
 ·subst h; simp
 ·rw [if_neg h,if_neg h,if_neg hx,List.append_assoc,if_neg (by simp [h])]
  exact zoC 58 t x
theorem Grp.pos {b : Bool} {l : List Str} {k : Nat} (h : Grp b l k) (hl : l ≠ []) : 1 ≤ k := by
 cases h with
 | nil => exact absurd rfl hl
 | four => omega
 | hex => omega
theorem zAk {a b : Str} {n : Nat} (hn : 1 ≤ n) (h : Grp true (spt a ++ List.replicate n [48] ++ spt b) 8) :
  ∃ i j,Grp false (spt a) i ∧ Grp true (spt b) j ∧ i + j ≤ 7 := by
 have hz : List.replicate n [(48 : UInt8)] ≠ [] := by cases n with
  | zero => omega
  | succ n => simp [List.replicate_succ]
 by_cases hb : b = []
 ·subst hb
  have e : spt [] = [] := rfl
  rw [e,List.append_nil] at h
  obtain ⟨i,k,h1,h2,h3⟩ := h.split hz
  have := h2.pos hz
  exact ⟨i,0,h1,by rw [e]; exact .nil _,by omega⟩
 ·obtain ⟨i,k,h1,h2,h3⟩ := h.split (spt_ne hb)
  obtain ⟨i,l,h4,h5,h6⟩ := h1.split hz
  have := h5.pos hz
  exact ⟨i,k,h4,h2,by omega⟩
theorem zAl (c : UInt8) (u b : Str) : ∀ a : Str,c ∉ a → Go.Lib.index (a ++ c :: (u ++ b)) (c :: u) = a.length
 | [],_ => by
  have : List.isPrefixOf (c :: u) (c :: (u ++ b)) = true := by rw [List.isPrefixOf_iff_prefix]; exact ⟨b,by simp⟩
  simp [Go.Lib.index,this]
 | x :: a,h => by
  have ih := zAl c u b a (fun e => h (by simp [e]))
  have hx : (c == x) = false := by simp; exact fun e => h (by simp [e])
  simp only [List.cons_append,Go.Lib.index,List.isPrefixOf,hx,Bool.false_and,ih]
  simp
theorem zvd (c : UInt8) (u a b : Str) (h : c ∉ a) : Go.Lib.cut (a ++ c :: (u ++ b)) (c :: u) = (a,b,true) := by
 unfold Go.Lib.cut
 rw [zAl c u b a h,if_pos (by omega)]
 have e : (a.length : Int).toNat + (c :: u).length = (a ++ c :: u).length := by simp
 rw [e,show a ++ c :: (u ++ b) = (a ++ c :: u) ++ b by simp,List.drop_left]
 simp
theorem zAm (c : UInt8) (u : Str) : ∀ s : Str,c ∉ s → Go.Lib.index s (c :: u) = -1
 | [],_ => by simp [Go.Lib.index]
 | x :: s,h => by
  have ih := zAm c u s (fun e => h (by simp [e]))
  have hx : (c == x) = false := by simp; exact fun e => h (by simp [e])
  simp [Go.Lib.index,List.isPrefixOf,hx,ih]
theorem cut_no (c : UInt8) (u s : Str) (h : c ∉ s) : Go.Lib.cut s (c :: u) = (s,[],false) := by
 unfold Go.Lib.cut
 rw [zAm c u s h]; simp
theorem zAn : ∀ s : Str,Go.Lib.cut s [58,58] = match zj1 s with | none => (s,[],false) | some (a,b) => (a,b,true)
 | [] => by simp [Go.Lib.cut,Go.Lib.index,zj1]
 | c :: t => by
  have ih := zAn t
  unfold Go.Lib.cut at *
  by_cases hp : List.isPrefixOf [58,58] (c :: t) = true
  ·rw [List.isPrefixOf_iff_prefix] at hp
   obtain ⟨r,hr⟩ := hp
   simp at hr
   obtain ⟨rfl,rfl⟩ := hr
   simp [Go.Lib.index,zj1]
  ·have e : zj1 (c :: t) = (zj1 t).map fun p => (c :: p.1,p.2) := zj1.eq_2 c t (by rintro r rfl rfl; simp at hp)
   rw [e]
   have hg := Go.Lib.index_ge t [58,58]
   simp only [Go.Lib.index,hp]
   by_cases hm : Go.Lib.index t [58,58] = -1
   ·rw [hm] at ih ⊢
    cases h : zj1 t with
    | none => simp
    | some p => rw [h] at ih; simp at ih
   ·obtain ⟨k,hk⟩ : ∃ k : Nat,Go.Lib.index t [58,58] = k := ⟨(Go.Lib.index t [58,58]).toNat,by omega⟩
    rw [hk] at ih ⊢
    cases h : zj1 t with
    | none => rw [h] at ih; simp at ih
    | some p =>
     rw [h] at ih
     simp at ih
     have : ¬ ((k : Int) = -1) := by omega
     have e1 : (0 : Int) ≤ (k : Int) + 1 := by omega
     have e2 : ((k : Int) + 1).toNat = k + 1 := by omega
     simp [this,e1,e2, ← ih]
def dv : Nat → Str → Nat
 | a,[] => a
 | a,c :: t => dv (a * 10 + (c.toNat - 48)) t
theorem zCJ : ∀ (s t : Str) (a : Nat),dv a (s ++ t) = dv (dv a s) t
 | [],t,a => rfl
 | c :: s,t,a => zCJ s t _
theorem zAo {k : Nat} (h : k < 10) : zag (UInt8.ofNat (48 + k)) = true ∧ (UInt8.ofNat (48 + k)).toNat = 48 + k := by
 have : ∀ k : Fin 10,zag (UInt8.ofNat (48 + k.val)) = true ∧ (UInt8.ofNat (48 + k.val)).toNat = 48 + k.val := by decide
 exact this ⟨k,h⟩
theorem zmA (n : Nat) : (Go.Lib.decDigits n).all zag = true := by
 induction n using Nat.strongRecOn with
 | _ n ih =>
  rw [Go.Lib.decDigits]
  split
  ·rename_i h; simp only [List.all_cons,List.all_nil,(zAo h).1,Bool.and_self]
  ·rw [List.all_append,ih _ (by omega)]; simp only [List.all_cons,List.all_nil,(zAo (show n % 10 < 10 by omega)).1,Bool.and_self]
theorem dv_dec (n : Nat) : dv 0 (Go.Lib.decDigits n) = n := by
 induction n using Nat.strongRecOn with
 | _ n ih =>
  rw [Go.Lib.decDigits]
  split
  ·rename_i h
   show 0 * 10 + ((UInt8.ofNat (48 + n)).toNat - 48) = n
   rw [(zAo h).2]; omega
  ·rw [zCJ,ih _ (by omega)]
   show n / 10 * 10 + ((UInt8.ofNat (48 + n % 10)).toNat - 48) = n
   rw [(zAo (show n % 10 < 10 by omega)).2]; omega
theorem zrJ (n : Nat) : Go.Lib.decDigits n ≠ [] := by
 rw [Go.Lib.decDigits]
 split <;> simp
def dvI : Int → Str → Int
 | a,[] => a
 | a,c :: t => dvI (a * 10 + ((c.toNat : Int) - 48)) t
theorem zCK (b : UInt8) (h : zag b = true) : 48 ≤ b.toNat ∧ b.toNat ≤ 57 := by
 have := zeG (p := fun b => !zag b || (decide (48 ≤ b.toNat) && decide (b.toNat ≤ 57))) (by decide +kernel) b
 simpa [h] using this
theorem zCL : ∀ (s : Str) (a : Nat),s.all zag = true → dvI a s = dv a s
 | [],a,_ => rfl
 | c :: s,a,h => by
  rw [List.all_cons,Bool.and_eq_true] at h
  have hc := zCK c h.1
  have := zCL s (a * 10 + (c.toNat - 48)) h.2
  show dvI ((a : Int) * 10 + ((c.toNat : Int) - 48)) s = (dv (a * 10 + (c.toNat - 48)) s : Int)
  rw [← this]
  congr 1
  omega
theorem zCM : ∀ (s : Str) (a : Int),0 ≤ a → s.all zag = true → a ≤ dvI a s
 | [],a,_,_ => Int.le_refl _
 | c :: s,a,h0,h => by
  rw [List.all_cons,Bool.and_eq_true] at h
  have hc := zCK c h.1
  have := zCM s (a * 10 + ((c.toNat : Int) - 48)) (by omega) h.2
  show a ≤ dvI (a * 10 + ((c.toNat : Int) - 48)) s
  omega
theorem zve (n : Nat) : dvI 0 (Go.Lib.decDigits n) = n := by
 have := zCL (Go.Lib.decDigits n) 0 (zmA n)
 rw [dv_dec] at this; exact this
theorem zpp {c x : UInt8} : ∀ {s : Str},x ∈ s → x = c ∨ ∃ p ∈ zk c s,x ∈ p
 | y :: s,h => by
  rw [zk]
  by_cases hy : y = c
  ·rw [if_pos hy]
   rcases List.mem_cons.1 h with rfl | h
   ·exact .inl hy
   ·rcases zpp (c := c) h with e | ⟨p,hp,e⟩
    ·exact .inl e
    ·exact .inr ⟨p,by simp [hp],e⟩
  ·rw [if_neg hy]
   have ne := zbs c s
   cases e : zk c s with
   | nil => exact absurd e ne
   | cons a l =>
    rcases List.mem_cons.1 h with rfl | h
    ·exact .inr ⟨x :: a,by simp,by simp⟩
    ·rcases zpp (c := c) h with e2 | ⟨p,hp,e2⟩
     ·exact .inl e2
     ·rw [e] at hp
      rcases List.mem_cons.1 hp with rfl | hp
      ·exact .inr ⟨y :: p,by simp,by simp [e2]⟩
      ·exact .inr ⟨p,by simp [hp],e2⟩
theorem zvf {s : Str} {m : Int} (h : zfP s m) : s.all zag = true ∧ s ≠ [] := by
 obtain ⟨n,_,rfl⟩ := h
 exact ⟨zmA n,zrJ n⟩
theorem zE1 {s : Str} (h : zj0 s) : ∀ x ∈ s,x = 46 ∨ zag x = true := by
 intro x hx
 rcases zpp (c := 46) hx with e | ⟨p,hp,e⟩
 ·exact .inl e
 ·exact .inr (List.all_eq_true.1 (zvf (h.2 p hp)).1 x e)
theorem zCN {s : Str} (h : zvb s = true) (h2 : zj0 s) : False := by
 unfold zvb at h
 simp only [Bool.and_eq_true,List.all_eq_true] at h
 have hn : (46 : UInt8) ∉ s := fun e => by have := h.1.1 46 e; revert this; decide
 have := h2.1
 rw [zo1 hn] at this
 simp at this
theorem Grp_n (b : Bool) (k : Nat) : Grp b [] k ↔ k = 0 := ⟨fun h => by cases h; rfl,fun h => h ▸ .nil b⟩
theorem Grp_c (b : Bool) (s : Str) (l : List Str) (k : Nat) : Grp b (s :: l) k ↔ (b = true ∧ l = [] ∧ k = 2 ∧ zj0 s) ∨ (zvb s = true ∧ 1 ≤ k ∧ Grp b l (k - 1)) := by
 constructor
 ·intro h
  cases h with
  | four _ h => exact .inl ⟨rfl,rfl,rfl,h⟩
  | hex _ _ _ n h g => exact .inr ⟨h,by omega,g⟩
 ·rintro (⟨rfl,rfl,rfl,h⟩ | ⟨h,h1,g⟩)
  ·exact .four s h
  ·have := Grp.hex b s l _ h g
   rwa [show k - 1 + 1 = k by omega] at this
theorem nm_p (a b : UInt8) (r : Str) : zhO (37 :: a :: b :: r) = (ziF a && ziF b && zhO r) := by rw [zhO.eq_def]; simp
theorem nm_o (c : UInt8) (s : Str) (h : c ≠ 37) : zhO (c :: s) = ((zmp c || zyn c) && zhO s) := by rw [zhO.eq_def]; simp [h]
theorem nm_1 (a : UInt8) : zhO [37,a] = false ∧ zhO [37] = false := by constructor <;> (rw [zhO.eq_def]; simp)
theorem znn : zmp 37 = false ∧ zyn 37 = false ∧ zmp 58 = false ∧ zyn 58 = false ∧ ziF 58 = false ∧ zag 58 = false ∧ zsu 37 = false ∧ zag 93 = false := by decide +kernel
theorem zAp : ∀ (s : Str),zhO s = true → 58 ∉ s
 | [],_ => by simp
 | [c],h => by
  have := znn
  by_cases hc : c = 37
  ·subst hc; rw [(nm_1 0).2] at h; cases h
  ·rw [nm_o _ _ hc] at h; simp; rintro rfl; simp [this] at h
 | [c,a],h => by
  have := znn
  by_cases hc : c = 37
  ·subst hc; rw [(nm_1 a).1] at h; cases h
  ·rw [nm_o _ _ hc,Bool.and_eq_true] at h
   have := zAp [a] h.2
   simp at this ⊢; refine ⟨?_,this⟩; rintro rfl; simp_all
 | c :: a :: b :: s,h => by
  have := znn
  by_cases hc : c = 37
  ·subst hc
   rw [nm_p,Bool.and_eq_true,Bool.and_eq_true] at h
   have i := zAp s h.2
   simp at i ⊢
   refine ⟨?_,?_,i⟩ <;> (rintro rfl; simp_all)
  ·rw [nm_o _ _ hc,Bool.and_eq_true] at h
   have i := zAp (a :: b :: s) h.2
   simp at i ⊢
   refine ⟨?_,i⟩; rintro rfl; simp_all
theorem zyW {c : UInt8} : ∀ {a b p q : Str},a ++ c :: p = b ++ c :: q → c ∉ p → c ∉ q → a = b ∧ p = q
 | [],[],p,q,h,_,_ => by simpa using h
 | [],y :: b,p,q,h,hp,_ => by simp at h; obtain ⟨rfl,rfl⟩ := h; simp at hp
 | x :: a,[],p,q,h,_,hq => by simp at h; obtain ⟨rfl,rfl⟩ := h; simp at hq
 | x :: a,y :: b,p,q,h,hp,hq => by
  simp at h
  obtain ⟨rfl,h⟩ := h
  obtain ⟨rfl,rfl⟩ := zyW h hp hq
  exact ⟨rfl,rfl⟩
theorem pq_p (m : UInt8 → Bool) (a b : UInt8) (r : Str) : zl2 m (37 :: a :: b :: r) = (ziF a && ziF b && zl2 m r) := by rw [zl2.eq_def]; simp
theorem pq_o (m : UInt8 → Bool) (c : UInt8) (s : Str) (h : c ≠ 37) : zl2 m (c :: s) = ((zsu c || m c) && zl2 m s) := by rw [zl2.eq_def]; simp [h]
theorem pq_1 (m : UInt8 → Bool) (a : UInt8) : zl2 m [37,a] = false ∧ zl2 m [37] = false := by constructor <;> (rw [zl2.eq_def]; simp)
theorem idxB (c : UInt8) : ∀ (s : Str) (k : Nat),decide (0 ≤ zek s c k) = s.contains c
 | [],k => by simp [zek]
 | x :: s,k => by
  have ih := idxB c s (k + 1)
  simp only [zek,List.contains_cons]
  by_cases h : x = c
  ·simp [h]
  ·have h' : (c == x) = false := by simp; exact fun e => h e.symm
   simp only [h',Bool.false_or, ← ih]; simp [h]
theorem idxA (c : Str) : ∀ (h t : Str) (k : Nat),(∀ x ∈ h,x ∉ c) → (∀ y,t.head? = some y → y ∈ c) → zdO (h ++ t) c k = if t = [] then -1 else ((k + h.length : Nat) : Int)
 | [],[],k,_,_ => by simp [zdO]
 | [],y :: t,k,_,h => by have := h y rfl; simp [zdO,this]
 | x :: s,t,k,h,h2 => by
  have ih := idxA c s t (k + 1) (fun x hx => h x (List.mem_cons_of_mem _ hx)) h2
  have hx : c.contains x = false := by simpa using h x List.mem_cons_self
  simp only [List.cons_append,zdO,hx,Bool.false_eq_true,if_false,ih,List.length_cons]
  split
  ·rfl
  ·omega
theorem zCO {q : Str} (h : zgl q) : zj2 (47 :: 63 :: q) := ⟨[47],63 :: q,rfl,by decide,⟨[],rfl,by decide⟩, .inr ⟨q,rfl,h⟩⟩
end Go.Dm
