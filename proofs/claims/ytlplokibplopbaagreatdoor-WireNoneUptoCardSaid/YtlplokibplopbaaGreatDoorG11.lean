/-
 What is known of the models' data, and how totality by conditions is shown: by splitting and grind. No program in sight.
 When the models come to something: printed by a program (wip/gen/yt.py) off the models and a table. No program in sight.
 When the models come to something: printed by a program (wip/gen/yt.py) off the models and a table. No program in sight.
 When the models come to something: printed by a program (wip/gen/yt.py) off the models and a table. No program in sight.
 When the models come to something: printed by a program (wip/gen/yt.py) off the models and a table. No program 
-/
import Derived.Test.YtlplokibplopbaaGreatDoorYM
import Derived.Test.YtlplokibplopbaaGreatDoorYMem
set_option linter.unusedVariables false
set_option linter.unusedSimpArgs false
section
set_option linter.unusedVariables false
namespace Go.Dm
def Sm (l : List Str) : Prop := l.length < 1000000000000 ∧ ∀ s ∈ l,s.length < 1000000000
def Ss (l : List Str) : Prop := l.length ≤ 10000 ∧ ∀ s ∈ l,s.length ≤ 70000000
def Fv (l : List zLo) : Prop := ∀ f ∈ l,f.Name.length ≤ 70000000 ∧ f.Value.length ≤ 70000000
def Fm (l : List zLo) : Prop := l.length ≤ 10000 ∧ Fv l
def Cw (c : zLs) : Prop := 0 ≤ c.zL8 ∧ c.zL8 ≤ c.zMz.length ∧ c.zMz.length < 1000000000
def Pw (p : zLG) : Prop := Cw p.Scanner ∧ 0 ≤ p.zMk ∧ p.zMk ≤ p.Scanner.zL8 ∧ p.zMz = p.Scanner.zMz ∧ p.zLI.length ≤ p.Scanner.zL8 ∧ ∀ s ∈ p.zLI,s.length ≤ p.zMz.length
def Tm (t : zLZ) : Prop := t.Scheme.length ≤ 70000000 ∧ t.Host.Name.length ≤ 10000000 ∧ -1 ≤ t.Host.Port ∧ t.Host.Port ≤ 65535 ∧ t.Path.length ≤ 70000001 ∧ t.Query.length ≤ 70000001
def Swm (l : List zLK) : Prop := l.length ≤ 10000 ∧ ∀ x ∈ l,x.From.length ≤ 1000 ∧ x.To.length ≤ 1000
def Um (r : zMr) : Prop := r.Scheme.length < 1000000000 ∧ r.Auth.length < 1000000000 ∧ r.Path.length < 1000000000 ∧ r.Query.length < 1000000000 ∧ r.Frag.length < 1000000000
def Ac (c : zLH) : Prop := c.Name.length < 1000000000 ∧ c.Value.length < 1000000000 ∧ c.Attrs.length < 10000000000 ∧ ∀ a ∈ c.Attrs,a.Name.length < 1000000000 ∧ a.Value.length < 1000000000
def Km (c : zLH) : Prop := c.Name.length ≤ 7500 ∧ c.Value.length ≤ 7500 ∧ c.Attrs.length ≤ 3002 ∧ ∀ a ∈ c.Attrs,a.Name.length ≤ 7500 ∧ a.Value.length ≤ 7500
def Gm (g : zMc) : Prop := g.Name.length < 1000000000 ∧ g.Value.length < 1000000000
def Pm (l : List zLV) : Prop := l.length ≤ 10000 ∧ ∀ p ∈ l,p.Value.length ≤ 70000000
def Rt (r : zL0) : Prop := Cw r.Scanner ∧ r.zLI.length ≤ r.Scanner.zL8 ∧ ∀ p ∈ r.zLI,p.Text.length ≤ r.Scanner.zL8
def Tp (l : List zLD) : Prop := l.length ≤ 1000 ∧ ∀ p ∈ l,p.Text.length ≤ 10000
def Rm (r : zLr) : Prop := r.Name.length ≤ 10000 ∧ r.To.length ≤ 10000 ∧ r.Guard.Name.length ≤ 10000 ∧ r.Guard.Value.length ≤ 10000 ∧ Tp r.Parts
def Rl (l : List zLr) : Prop := l.length ≤ 10000 ∧ ∀ r ∈ l,Rm r
def Om (o : zMo) : Prop := o.Name.length ≤ 10000 ∧ o.Text.length ≤ 10000 ∧ Tp o.Parts ∧ 0 ≤ o.N ∧ o.N ≤ 10000
def Ol (l : List zMo) : Prop := ∀ o ∈ l,Om o
theorem Wo {α β : Type} {o : Option α} {a : Option β} {f : α → Option β} {P : β → Prop} (h : o = none → W a P) (h2 : ∀ x,o = some x → W (f x) P) : W (Go.Rk.optK o a f) P := by
 cases o with
 | none => exact h rfl
 | some x => exact h2 x rfl
theorem goz {G : Prop} (h : G := by grind [Sm,Ss,Fv,Fm,Cw,Pw,Tm,Swm,Um,Ac,Km,Gm,Pm,Rt,Tp,Rm,Rl,Om,Ol]) : G := h
theorem go {G : Prop} (h : G := by
 (with_reducible repeat' first | intro _ | refine And.intro ?_ ?_ | refine Wf ?_ ?_ | refine Wi ?_ ?_ | refine Ws ?_ | refine Wc ?_ ?_ | refine Wo ?_ ?_ | refine Wk ?_ | refine We ?_ ?_)
 all_goals (try simp only [List.length_cons,List.length_nil])
 all_goals grind [fuel,zzg,zxc,zmb,zhp,zuL,Sm,Ss,Fv,Fm,Cw,Pw,Tm,Swm,Um,Ac,Km,Gm,Pm,Rt,Tp,Rm,Rl,Om,Ol,UInt8.toNat_lt]) : G := h
theorem go1 {G : Prop} (h : G := by
 (with_reducible repeat' first | intro _ | refine And.intro ?_ ?_ | refine Wf ?_ ?_ | refine Wi ?_ ?_ | refine Ws ?_ | refine Wc ?_ ?_ | refine Wo ?_ ?_ | refine Wk ?_ | refine We ?_ ?_)
 all_goals (try simp only [List.length_cons,List.length_nil])
 all_goals grind (gen := 12) (ematch := 12) [fuel,zzg,zxc,zmb,zhp,zuL,Sm,Ss,Fv,Fm,Cw,Pw,Tm,Swm,Um,Ac,Km,Gm,Pm,Rt,Tp,Rm,Rl,Om,Ol,UInt8.toNat_lt]) : G := h
theorem go2 {G : Prop} (h : G := by
 (with_reducible repeat' first | intro _ | refine And.intro ?_ ?_ | refine Wf ?_ ?_ | refine Wi ?_ ?_ | refine Ws ?_ | refine Wc ?_ ?_ | refine Wo ?_ ?_ | refine Wk ?_ | refine We ?_ ?_)
 all_goals (try simp only [List.length_cons,List.length_nil])
 all_goals grind (gen := 20) (ematch := 20) (instances := 5000) [fuel,zzg,zxc,zmb,zhp,zuL,Sm,Ss,Fv,Fm,Cw,Pw,Tm,Swm,Um,Ac,Km,Gm,Pm,Rt,Tp,Rm,Rl,Om,Ol,UInt8.toNat_lt]) : G := h
def Vb (k : Nat) (l : List zLo) : Prop := ∀ f ∈ l,f.Value.length ≤ k
theorem Vb_n (k : Nat) : Vb k [] := fun f hf => by cases hf
theorem zFL {k : Nat} {l : List zLo} {a v : Str} (h : Vb k l) (hv : v.length ≤ k) : Vb k (l ++ [⟨a,v⟩]) := fun f hf => by
 simp only [List.mem_append,List.mem_singleton] at hf
 rcases hf with hf | rfl
 ·exact h f hf
 ·exact hv
theorem Vb_set {k : Nat} {l : List zLo} {i : Int} {f : zLo} (h : Vb k l) (hv : f.Value.length ≤ k) : Vb k (l.set i.toNat f) := fun g hg => by
 rcases List.mem_or_eq_of_mem_set hg with e | e
 ·exact h g e
 ·exact e ▸ hv
theorem Vb_m {k : Nat} {l : List zLo} {f : zLo} (h : Vb k l) (hf : f ∈ l) : f.Value.length ≤ k := h f hf
theorem Vb_le {k m : Nat} {l : List zLo} (h : Vb k l) (hm : k ≤ m) : Vb m l := fun f hf => Nat.le_trans (h f hf) hm
theorem Vb_i {k : Nat} {l : List zLo} (h : ∀ f ∈ l,f.Value.length ≤ k) : Vb k l := h
theorem Vb_sub {k : Nat} {l m : List zLo} (h : ∀ f ∈ m,f ∈ l ∨ f = ⟨[],[]⟩) (hl : Vb k l) : Vb k m := fun f hf => by
 rcases h f hf with h1 | rfl
 ·exact hl f h1
 ·exact Nat.zero_le _
theorem isN_0 (m : Int) : Go.Rk.isN m 0 = decide (m = 0) := rfl
theorem isN_1 (m : Int) : Go.Rk.isN m 1 = decide (m = 1) := rfl
theorem isN_2 (m : Int) : Go.Rk.isN m 2 = decide (m = 2) := rfl
theorem isN_3 (m : Int) : Go.Rk.isN m 3 = decide (m = 3) := rfl
theorem zwe {G : Prop} (h : G := by
 (with_reducible repeat' first | intro _ | refine And.intro ?_ ?_ | refine Wf ?_ ?_ | refine Wi ?_ ?_ | refine Ws ?_ | refine Wc ?_ ?_ | refine Wo ?_ ?_ | refine Wk ?_ | refine We ?_ ?_)
 all_goals (try simp only [List.length_cons,List.length_nil])
 all_goals grind (gen := 12) (ematch := 12) [Vb_n,zFL,Vb_set, → Vb_m,Vb_i,Vb_sub, → Vb_le,fuel,zzg,zxc,zmb,zhp,zuL,Sm,Ss,Fv,Fm,Cw,Pw,Tm,Swm,Um,Ac,Km,Gm,Pm,Rt,Tp,Rm,Rl,Om,Ol,UInt8.toNat_lt]) : G := h
theorem zyw {G : Prop} (h : G := by
 (with_reducible repeat' first | intro _ | refine And.intro ?_ ?_ | refine Wf ?_ ?_ | refine Wi ?_ ?_ | refine Ws ?_ | refine Wc ?_ ?_ | refine Wo ?_ ?_ | refine Wk ?_ | refine We ?_ ?_)
 all_goals (try simp only [List.length_cons,List.length_nil])
 all_goals grind (gen := 12) (ematch := 12) [isN_0,isN_1,isN_2,isN_3,fuel,zzg,zxc,zmb,zhp,zuL,Sm,Ss,Fv,Fm,Cw,Pw,Tm,Swm,Um,Ac,Km,Gm,Pm,Rt,Tp,Rm,Rl,Om,Ol,UInt8.toNat_lt]) : G := h
end Go.Dm
end
section
set_option linter.unusedVariables false
set_option maxRecDepth 10000
set_option maxHeartbeats 2000000
namespace Go.Dm
instance (x_x : zLK) : T (zmh x_x) (True) (fun r => r.From.length ≤ 60 ∧ r.To.length ≤ 60) := ⟨fun h => by unfold zmh; exact go1⟩

instance (v1 : zLm) (n : Nat) (v5 : zLm) (i7 : Int) : T (zfK v1 n v5 i7) (0 ≤ i7 ∧ i7 ≤ 6 ∧ i7 ≤ v1.Locations.length ∧ 7 < i7 + n ∧ v5.Locations.length ≤ i7) (fun r => r.Client = v5.Client ∧ r.Host = v5.Host ∧ r.Scheme = v5.Scheme ∧ r.By = v5.By) := by
 induction n generalizing v5 i7 with
 | zero => exact ⟨fun h => goz⟩
 | succ n ih => exact ⟨fun h => by unfold zfK zlR; exact zyw⟩

instance (v1 : zLm) (n : Nat) (v5 : zLm) (i6 : Int) : T (zdu v1 n v5 i6) (0 ≤ i6 ∧ i6 ≤ 6 ∧ i6 ≤ v1.Domains.length ∧ 7 < i6 + n ∧ v5.Domains.length ≤ i6 ∧ v5.Locations.length = 0) (fun r => r.Client = v5.Client ∧ r.Host = v5.Host ∧ r.Scheme = v5.Scheme ∧ r.By = v5.By) := by
 induction n generalizing v5 i6 with
 | zero => exact ⟨fun h => goz⟩
 | succ n ih => exact ⟨fun h => by unfold zdu zlS; exact zyw⟩

theorem s60 (l : Str) : sTo l (min (l.length : Int) 60) = some (l.take 60) := by
 unfold sTo
 rw [if_pos (by omega),show (min (l.length : Int) (60 : Int)).toNat = min 60 l.length by omega, ← List.take_take,List.take_length]
theorem zv4 (x : zLm) (n : Nat) (a b c d : Str) : ze x (n + 1) (a,b,c,d) 0 = ze x n (a.take 60,b,c,d) 1 := by
 show ((sTo a (min (a.length : Int) 60)).bind fun r => (zj 0 1).bind fun r1 => ze x n (r,b,c,d) r1) = _
 rw [s60]; rfl
theorem zv5 (x : zLm) (n : Nat) (a b c d : Str) : ze x (n + 1) (a,b,c,d) 1 = ze x n (a,b.take 60,c,d) 2 := by
 show ((sTo b (min (b.length : Int) 60)).bind fun r => (zj 1 1).bind fun r1 => ze x n (a,r,c,d) r1) = _
 rw [s60]; rfl
theorem zv6 (x : zLm) (n : Nat) (a b c d : Str) : ze x (n + 1) (a,b,c,d) 2 = ze x n (a,b,c.take 60,d) 3 := by
 show ((sTo c (min (c.length : Int) 60)).bind fun r => (zj 2 1).bind fun r1 => ze x n (a,b,r,d) r1) = _
 rw [s60]; rfl
theorem zv7 (x : zLm) (n : Nat) (a b c d : Str) : ze x (n + 1) (a,b,c,d) 3 = ze x n (a,b,c,d.take 60) 4 := by
 show ((sTo d (min (d.length : Int) 60)).bind fun r => (zj 3 1).bind fun r1 => ze x n (a,b,c,r) r1) = _
 rw [s60]; rfl
theorem zAX (x : zLm) (n : Nat) (a b c d : Str) : ze x (n + 1) (a,b,c,d) 4 = zdu x fuel ⟨a,b,c,d,[],[]⟩ 0 := rfl
instance (x_a0 : zLm) : T (zrA x_a0) True (fun r => r.Client.length ≤ 60 ∧ r.Host.length ≤ 60 ∧ r.Scheme.length ≤ 60 ∧ r.By.length ≤ 60) := ⟨fun _ => by
 unfold zrA
 obtain ⟨n,hn⟩ : ∃ n,fuel = n + 1 + 1 + 1 + 1 + 1 := ⟨999999999999999995,rfl⟩
 have e := zAX x_a0 n (x_a0.Client.take 60) (x_a0.Host.take 60) (x_a0.Scheme.take 60) (x_a0.By.take 60)
 obtain ⟨r,er,h1,h2,h3,h4⟩ := (inferInstance : T (zdu x_a0 fuel ⟨x_a0.Client.take 60,x_a0.Host.take 60,x_a0.Scheme.take 60,x_a0.By.take 60,[],[]⟩ 0) _ _).ok ⟨by omega,by omega,by omega,by unfold fuel; omega,by simp,by simp⟩
 rw [er] at e
 rw [show ze x_a0 fuel (x_a0.Client,x_a0.Host,x_a0.Scheme,x_a0.By) 0 = some r by rw [hn,zv4,zv5,zv6,zv7,e]]
 exact ⟨r,rfl,by rw [h1]; simp; omega,by rw [h2]; simp; omega,by rw [h3]; simp; omega,by rw [h4]; simp; omega⟩⟩

instance (l0 : List zLK) (n : Nat) (l3 : List zLK) (i4 : Int) : T (zfL l0 n l3 i4) (0 ≤ i4 ∧ i4 ≤ 70 ∧ i4 ≤ l0.length ∧ 71 < i4 + n ∧ l3.length ≤ i4 ∧ (∀ x ∈ l3,x.From.length ≤ 60 ∧ x.To.length ≤ 60)) (fun r => r.length ≤ 70 ∧ ∀ x ∈ r,x.From.length ≤ 60 ∧ x.To.length ≤ 60) := by
 induction n generalizing l3 i4 with
 | zero => exact ⟨fun h => goz⟩
 | succ n ih => exact ⟨fun h => by unfold zfL zlT; exact go1⟩

instance (x_l : List zLK) : T (znR x_l) (True) (fun r => r.length ≤ 70 ∧ ∀ x ∈ r,x.From.length ≤ 60 ∧ x.To.length ≤ 60) := ⟨fun h => by unfold znR; exact go1⟩

instance (x_env : zLm) : T (zrB x_env) (True) (fun r => r.Client.length ≤ 60 ∧ r.Host.length ≤ 60 ∧ r.Scheme.length ≤ 60 ∧ r.By.length ≤ 60 ∧ Swm r.Domains ∧ Swm r.Locations) := ⟨fun h => by unfold zrB; exact zyw⟩

instance (l0 : List zLD) (n : Nat) (l3 : List zLD) (i4 : Int) : T (zfM l0 n l3 i4) (0 ≤ i4 ∧ i4 ≤ 40 ∧ i4 ≤ l0.length ∧ 41 < i4 + n ∧ l3.length ≤ i4 ∧ ∀ p ∈ l3,p.Text.length ≤ 60) (fun r => r.length ≤ 40 ∧ ∀ p ∈ r,p.Text.length ≤ 60) := by
 induction n generalizing l3 i4 with
 | zero => exact ⟨fun h => goz⟩
 | succ n ih => exact ⟨fun h => by unfold zfM zlU; exact zyw⟩

instance (x_l : List zLD) : T (znS x_l) (True) (fun r => r.length ≤ 40 ∧ ∀ p ∈ r,p.Text.length ≤ 60) := ⟨fun h => by unfold znS; exact zyw⟩

theorem zv8 (x : zLr) (n : Nat) (a b c d : Str) : zf x (n + 1) (a,b,c,d) 0 = zf x n (a.take 60,b,c,d) 1 := by
 show ((sTo a (min (a.length : Int) 60)).bind fun r => (zj 0 1).bind fun r1 => zf x n (r,b,c,d) r1) = _
 rw [s60]; rfl
theorem zv9 (x : zLr) (n : Nat) (a b c d : Str) : zf x (n + 1) (a,b,c,d) 1 = zf x n (a,b.take 60,c,d) 2 := by
 show ((sTo b (min (b.length : Int) 60)).bind fun r => (zj 1 1).bind fun r1 => zf x n (a,r,c,d) r1) = _
 rw [s60]; rfl
theorem zwa (x : zLr) (n : Nat) (a b c d : Str) : zf x (n + 1) (a,b,c,d) 2 = zf x n (a,b,c.take 60,d) 3 := by
 show ((sTo c (min (c.length : Int) 60)).bind fun r => (zj 2 1).bind fun r1 => zf x n (a,b,r,d) r1) = _
 rw [s60]; rfl
theorem zwb (x : zLr) (n : Nat) (a b c d : Str) : zf x (n + 1) (a,b,c,d) 3 = zf x n (a,b,c,d.take 60) 4 := by
 show ((sTo d (min (d.length : Int) 60)).bind fun r => (zj 3 1).bind fun r1 => zf x n (a,b,c,r) r1) = _
 rw [s60]; rfl
theorem zAY (x : zLr) (n : Nat) (a b c d : Str) : zf x (n + 1) (a,b,c,d) 4 = zfN ⟨x.Side,⟨x.Guard.Kind,c,d⟩,x.Kind,a,b,x.Parts⟩ := rfl
instance (x_r : zLr) : T (zrC x_r) True Rm := ⟨fun _ => by
 unfold zrC
 obtain ⟨n,hn⟩ : ∃ n,fuel = n + 1 + 1 + 1 + 1 + 1 := ⟨999999999999999995,rfl⟩
 obtain ⟨r,er,h1,h2⟩ := (inferInstance : T (znS x_r.Parts) _ _).ok trivial
 rw [hn,zv8,zv9,zwa,zwb,zAY]
 unfold zfN
 rw [er]
 refine ⟨_,rfl,?_⟩
 unfold Rm Tp
 simp only [List.length_take]
 exact ⟨by omega,by omega,by omega,by omega,by omega,fun p hp => by have := h2 p hp; omega⟩⟩

instance (l0 : List zLr) (n : Nat) (l3 : List zLr) (i4 : Int) : T (zfO l0 n l3 i4) (0 ≤ i4 ∧ i4 ≤ 70 ∧ i4 ≤ l0.length ∧ 71 < i4 + n ∧ l3.length ≤ i4 ∧ ∀ x ∈ l3,Rm x) (fun r => r.length ≤ 70 ∧ ∀ x ∈ r,Rm x) := by
 induction n generalizing l3 i4 with
 | zero => exact ⟨fun h => goz⟩
 | succ n ih => exact ⟨fun h => by unfold zfO zlV; exact zyw⟩

instance (x_l : List zLr) : T (zrD x_l) (True) (fun r => r.length ≤ 70 ∧ ∀ x ∈ r,Rm x) := ⟨fun h => by unfold zrD; exact zyw⟩

instance  (n : Nat) (l3 : List zLr) (i4 : Int) : T (zjk n l3 i4) (0 ≤ i4 ∧ i4 ≤ l3.length ∧ l3.length < i4 + n ∧ l3.length ≤ 70 ∧ ∀ x ∈ l3,Rm x) (fun r => r.length ≤ 70 ∧ ∀ x ∈ r,Rm x) := by
 induction n generalizing l3 i4 with
 | zero => exact ⟨fun h => goz⟩
 | succ n ih => exact ⟨fun h => by unfold zjk; exact zyw⟩

instance (x_l : List zLr) : T (zrE x_l) (True) (fun r => r.length ≤ 70 ∧ ∀ x ∈ r,Rm x) := ⟨fun h => by unfold zrE; exact zyw⟩

instance (x_s : zMn) : T (znT x_s) (True) (fun r => r.Env.Client.length ≤ 60 ∧ r.Env.Host.length ≤ 60 ∧ r.Env.Scheme.length ≤ 60 ∧ r.Env.By.length ≤ 60 ∧ Swm r.Env.Domains ∧ Swm r.Env.Locations ∧ r.Rules.length ≤ 70 ∧ (∀ x ∈ r.Rules,Rm x) ∧ r.Client.length ≤ 3000 ∧ r.Upstream.length ≤ 3000) := ⟨fun h => by unfold znT; exact zyw⟩

end Go.Dm
end
section
set_option linter.unusedVariables false
set_option maxRecDepth 10000
set_option maxHeartbeats 2000000
namespace Go.Dm
instance (x_sep : Str) (x_l : List Str) : T (zbf x_sep x_l) (x_sep.length ≤ 10 ∧ sl x_l + 10 * x_l.length ≤ 100000000000000) (fun r => r.length ≤ sl x_l + 10 * x_l.length) := ⟨fun h => by unfold zbf; exact go⟩

instance (x_s : Str) : T (zgm x_s) (True) (fun r => r.zMz = x_s ∧ r.zL8 = 0) := ⟨fun h => by unfold zgm; exact go⟩

instance (x_b : UInt8) : T (zbD x_b) (True) (fun r => True) := ⟨fun h => by unfold zbD; exact go⟩

instance (x_b : UInt8) : T (zcF x_b) (True) (fun r => True) := ⟨fun h => by unfold zcF; exact go⟩

instance (x_b : UInt8) : T (zaI x_b) (True) (fun r => True) := ⟨fun h => by unfold zaI; exact go⟩

instance (x_b : UInt8) (x_l : Str) : T (zki x_b x_l) (True) (fun r => True) := ⟨fun h => by unfold zki; exact go⟩

instance (x_b : UInt8) : T (zeW x_b) (True) (fun r => True) := ⟨fun h => by unfold zeW; exact go⟩

instance (x_c : zLs) : T (zca x_c) (True) (fun r => r = x_c.zL8) := ⟨fun h => by unfold zca; exact go⟩

instance (x_c : zLs) : T (zal x_c) (Cw x_c) (fun r => (r.length : Int) = x_c.zMz.length - x_c.zL8 ∧ (r = [] ↔ x_c.zL8 = x_c.zMz.length)) := ⟨fun h => by unfold zal; exact go⟩

instance (x_c : zLs) : T (zai x_c) (Cw x_c) (fun r => r = decide (x_c.zL8 = x_c.zMz.length)) := ⟨fun h => by unfold zai; exact go⟩

instance (x_c : zLs) : T (zam x_c) (Cw x_c) (fun r => r.2 = decide (x_c.zL8 < x_c.zMz.length) ∧ (r.2 = true → sAt x_c.zMz x_c.zL8 = some r.1)) := ⟨fun h => by unfold zam; exact go⟩

instance (f1 : (UInt8 → Option Bool)) (i5 : Int) (n : Nat) (vp0 : zLs) [∀ b,T (f1 b) True (fun _ => True)] : T (zbE f1 i5 n vp0) (Cw vp0 ∧ 0 ≤ i5 ∧ i5 ≤ vp0.zL8 ∧ vp0.zMz.length < vp0.zL8 + n) (fun r => Cw r.2 ∧ r.2.zMz = vp0.zMz ∧ vp0.zL8 ≤ r.2.zL8 ∧ (r.1.length : Int) = r.2.zL8 - i5) := by
 induction n generalizing vp0 with
 | zero => exact ⟨fun h => goz⟩
 | succ n ih => exact ⟨fun h => by unfold zbE; exact go⟩

instance (x_c : zLs) (x_is : (UInt8 → Option Bool)) [∀ b,T (x_is b) True (fun _ => True)] : T (zH x_c x_is) (Cw x_c) (fun r => Cw r.2 ∧ r.2.zMz = x_c.zMz ∧ x_c.zL8 ≤ r.2.zL8 ∧ (r.1.length : Int) = r.2.zL8 - x_c.zL8) := ⟨fun h => by unfold zH; exact go⟩

instance (x_c : zLs) : T (zM x_c) (Cw x_c) (fun r => Cw r.2.2 ∧ r.2.2.zMz = x_c.zMz ∧ x_c.zL8 ≤ r.2.2.zL8 ∧ (r.1.length : Int) = r.2.2.zL8 - x_c.zL8) := ⟨fun h => by unfold zM; exact go⟩

instance (x_c : zLs) (x_b : UInt8) : T (zk x_c x_b) (Cw x_c) (fun r => Cw r.2 ∧ r.2.zMz = x_c.zMz ∧ (if r.1 = true then r.2.zL8 = x_c.zL8 + 1 else r.2 = x_c) ∧ (sAt x_c.zMz x_c.zL8 = some x_b → x_c.zL8 < x_c.zMz.length → r.1 = true)) := ⟨fun h => by unfold zk; exact go⟩

instance (x_r : zMt) (x_v : zL5) : T (zed x_r x_v) (Cw x_r.Scanner) (fun r => Cw r.2.2 ∧ r.2.2.zMz = x_r.Scanner.zMz ∧ r.2.1.By = x_v.By ∧ r.2.1.Comment = x_v.Comment) := ⟨fun h => by unfold zed zcH zcG; exact go1⟩

instance (x_b : UInt8) : T (zes x_b) (True) (fun r => True) := ⟨fun h => by unfold zes; exact go1⟩

instance {P : Bool → Prop} (k0 : Int → Option Bool) (f0 : (UInt8 → Option Bool)) (s6 : Str) (i10 : Int) (i15 : Int) (n : Nat) (i16 : Int) [∀ b,T (f0 b) True (fun _ => True)] : K (zjl k0 f0 s6 i10 i15 n i16) P ((i15 = s6.length ∧ 0 ≤ i16 ∧ i16 ≤ i15 ∧ i15 < i16 + n ∧ s6.length ≤ 4611686018427387904 ∧ 0 ≤ i10 ∧ i10 ≤ 4611686018427387904 ∧ P false) ∧ (∀ i,i = i10 + 1 → W (k0 i) P)) := by
 induction n generalizing i16 with
 | zero => exact ⟨fun h => goz⟩
 | succ n ih => exact ⟨fun ⟨h,hk0⟩ => by have hk0 := fun a0 => K.mk (hk0 a0); unfold zjl; exact go⟩

instance (f0 : (UInt8 → Option Bool)) (l8 : List Str) (i9 : Int) (n : Nat) (i10 : Int) [∀ b,T (f0 b) True (fun _ => True)] : T (zhq f0 l8 i9 n i10) (i9 = l8.length ∧ 0 ≤ i10 ∧ i10 ≤ i9 ∧ i9 < i10 + n ∧ Sm l8) (fun r => True) := by
 induction n generalizing i10 with
 | zero => exact ⟨fun h => goz⟩
 | succ n ih => exact ⟨fun h => by unfold zhq; exact go⟩

instance (x_is : (UInt8 → Option Bool)) (x_l : List Str) [∀ b,T (x_is b) True (fun _ => True)] : T (zbF x_is x_l) (Sm x_l) (fun r => True) := ⟨fun h => by unfold zbF; exact go⟩

instance (x_b : UInt8) : T (zku x_b) (True) (fun r => 0 ≤ r ∧ r ≤ 265) := ⟨fun h => by unfold zku; exact go⟩

instance (s0 : Str) (i1 : Int) (i2 : Int) (i23 : Int) (n : Nat) (i10 : Int) (i24 : Int) : T (zgn s0 i1 i2 i23 n i10 i24) (i23 = s0.length ∧ 0 ≤ i24 ∧ i24 ≤ i23 ∧ i23 < i24 + n ∧ i23 < 1000000000 ∧ 1 ≤ i1 ∧ 0 ≤ i2 ∧ i2 ≤ 9223372036854775807 ∧ 0 ≤ i10 ∧ i10 ≤ i2) (fun r => 0 ≤ r.1 ∧ r.1 ≤ i2) := by
 induction n generalizing i10 i24 with
 | zero => exact ⟨fun h => goz⟩
 | succ n ih => exact ⟨fun h => by unfold zgn; exact go⟩

instance (x_s : Str) (x_base : Int) (x_most : Int) (x_is : (UInt8 → Option Bool)) [∀ b,T (x_is b) True (fun _ => True)] : T (zjm x_s x_base x_most x_is) (x_s.length < 1000000000 ∧ 1 ≤ x_base ∧ 0 ≤ x_most ∧ x_most ≤ 9223372036854775807) (fun r => 0 ≤ r.1 ∧ r.1 ≤ x_most) := ⟨fun h => by unfold zjm; exact go⟩

instance (x_s : Str) (x_most : Int) : T (zdl x_s x_most) (x_s.length < 1000000000 ∧ 0 ≤ x_most ∧ x_most ≤ 9223372036854775807) (fun r => 0 ≤ r.1 ∧ r.1 ≤ x_most) := ⟨fun h => by unfold zdl; exact go⟩

instance (x_n : Int) (x_base : Int) : T (zjn x_n x_base) (x_n ≤ 9223372036854775807 ∧ (x_base = 10 ∨ x_base = 16 ∧ x_n < 1048576)) (fun r => r.length ≤ 21) := ⟨fun h => by unfold zjn; exact go⟩

instance (x_n : Int) : T (zcI x_n) (x_n ≤ 9223372036854775807) (fun r => r.length ≤ 21) := ⟨fun h => by unfold zcI; exact go⟩

instance (x_s : Str) (x_most : Int) : T (zcS x_s x_most) (x_s.length < 1000000000 ∧ 0 ≤ x_most ∧ x_most ≤ 9223372036854775807) (fun r => True) := ⟨fun h => by unfold zcS; exact go⟩

instance (s : Str) : T (za9 s) (s.length < 1000000000) (fun _ => True) := ⟨fun h => by
 obtain ⟨r,e,hr⟩ := zFj (f := fun x => zcS x 255) (q := fun _ _ => True) (zS 46 s) fun x hx =>
  (inferInstance : T (zcS x 255) _ _).ok (by have := (zy6 46 s).2 x hx; omega)
 exact ⟨_,by rw [za9,if_pos h,e]; rfl,trivial⟩⟩

end Go.Dm
end
section
set_option linter.unusedVariables false
set_option maxRecDepth 10000
set_option maxHeartbeats 2000000
namespace Go.Dm
instance (x_b : UInt8) : T (zcT x_b) (True) (fun r => True) := ⟨fun h => by unfold zcT; exact go⟩

instance (t1 : Bool) (l5 : List Str) (i14 : Int) (n : Nat) (i6 : Int) (i15 : Int) : T (zav t1 l5 i14 n i6 i15) (Sm l5 ∧ i14 = l5.length ∧ 0 ≤ i15 ∧ i15 ≤ i14 ∧ i14 < i15 + n ∧ 0 ≤ i6 ∧ i6 ≤ 2 * i15) (fun r => -1 ≤ r ∧ r ≤ 2 * l5.length) := by
 induction n generalizing i6 i15 with
 | zero => exact ⟨fun h => goz⟩
 | succ n ih => exact ⟨fun h => by unfold zav zdX zdW; exact go⟩

instance (x_s : Str) (x_last : Bool) : T (zet x_s x_last) (x_s.length < 1000000000) (fun r => -1 ≤ r ∧ r ≤ 4000000000000) := ⟨fun h => by unfold zet; exact go⟩

instance (x_s : Str) : T (zhr x_s) (x_s.length < 1000000000) (fun r => True) := ⟨fun h => by unfold zhr; exact go⟩

instance (x_s : Str) : T (zhs x_s) (True) (fun r => r = true → 3 ≤ x_s.length) := ⟨fun h => by unfold zhs; exact go⟩

instance (x_b : UInt8) : T (zbv x_b) (True) (fun r => True) := ⟨fun h => by unfold zbv; exact go⟩

instance (x_b : UInt8) : T (zgZ x_b) (True) (fun r => True) := ⟨fun h => by unfold zgZ; exact go⟩

instance  (n : Nat) (s0 : Str) : T (zcu n s0) (s0.length < n ∧ s0.length < 1000000000) (fun r => True) := by
 induction n generalizing s0 with
 | zero => exact ⟨fun h => goz⟩
 | succ n ih => exact ⟨fun h => by unfold zcu; exact go⟩

instance (x_s : Str) : T (zeX x_s) (x_s.length < 1000000000) (fun r => True) := ⟨fun h => by unfold zeX; exact go⟩

instance (x_s : Str) : T (zk0 x_s) (x_s.length < 1000000000) (fun r => r.1.Name.length ≤ x_s.length ∧ r.1.Port = -1) := ⟨fun h => by unfold zk0 zfp; exact go⟩

instance (s0 : Str) (b1 : UInt8) (n : Nat) (i5 : Int) : T (zaj s0 b1 n i5) (-1 ≤ i5 ∧ i5 < s0.length ∧ i5 + 1 < n ∧ s0.length < 1000000000) (fun r => -1 ≤ r ∧ r < s0.length) := by
 induction n generalizing i5 with
 | zero => exact ⟨fun h => goz⟩
 | succ n ih => exact ⟨fun h => by unfold zaj; exact go⟩

instance (x_s : Str) (x_c : UInt8) : T (zbI x_s x_c) (x_s.length < 1000000000) (fun r => -1 ≤ r ∧ r < x_s.length) := ⟨fun h => by unfold zbI; exact go⟩

instance (x_s : Str) (x_c : UInt8) : T (zcm x_s x_c) (x_s.length < 1000000000) (fun r => -1 ≤ r ∧ r < x_s.length) := ⟨fun h => by unfold zcm; exact go⟩

instance (x_s : Str) : T (zbN x_s) (x_s.length < 1000000000) (fun r => r.1.Name.length ≤ x_s.length ∧ -1 ≤ r.1.Port ∧ r.1.Port ≤ 65535) := ⟨fun h => by unfold zbN; exact go⟩

instance (x_s : Str) : T (zdK x_s) (x_s.length < 1000000000) (fun r => True) := ⟨fun h => by unfold zdK; exact go⟩

instance (x_s : Str) (x_chars : Str) : T (strings_ContainsAny x_s x_chars) (x_s.length < 4294967281 ∧ x_chars.length < 4294967281 ∧ x_chars.all (fun c => c.toNat < 128) = true) (fun r => True) := ⟨fun h => by unfold strings_ContainsAny; exact go⟩

instance (x_r : zMt) (x_v : zL5) : T (zii x_r x_v) (Cw x_r.Scanner) (fun r => Cw r.2.2 ∧ r.2.2.zMz = x_r.Scanner.zMz) := ⟨fun h => by unfold zii zdY; exact go1⟩

instance (x_s : Str) (x_prefix : Str) : T (stringslite_HasPrefix x_s x_prefix) (True) (fun r => r = true → x_prefix.length ≤ x_s.length) := ⟨fun h => by unfold stringslite_HasPrefix; exact go⟩

instance (x_s : Str) (x_prefix : Str) : T (stringslite_CutPrefix x_s x_prefix) (True) (fun r => r.1.length ≤ x_s.length) := ⟨fun h => by unfold stringslite_CutPrefix; exact go⟩

instance (x_s : Str) (x_prefix : Str) : T (strings_CutPrefix x_s x_prefix) (True) (fun r => r.1.length ≤ x_s.length) := ⟨fun h => by unfold strings_CutPrefix; exact go⟩

instance (x_s : Str) (x_suffix : Str) : T (stringslite_HasSuffix x_s x_suffix) (x_s.length < 1000000000) (fun r => r = true → x_suffix.length ≤ x_s.length) := ⟨fun h => by unfold stringslite_HasSuffix; exact go⟩

instance (x_s : Str) (x_suffix : Str) : T (stringslite_CutSuffix x_s x_suffix) (x_s.length < 1000000000) (fun r => r.1.length ≤ x_s.length) := ⟨fun h => by unfold stringslite_CutSuffix; exact go⟩

instance (x_s : Str) (x_suffix : Str) : T (strings_CutSuffix x_s x_suffix) (x_s.length < 1000000000) (fun r => r.1.length ≤ x_s.length) := ⟨fun h => by unfold strings_CutSuffix; exact go⟩

instance (x_b : UInt8) : T (zdm x_b) (True) (fun r => True) := ⟨fun h => by unfold zdm; exact go⟩

instance (x_b : UInt8) : T (zeY x_b) (True) (fun r => True) := ⟨fun h => by unfold zeY; exact go⟩

instance (x_b : UInt8) : T (zan x_b) (True) (fun r => True) := ⟨fun h => by unfold zan; exact go⟩

instance (s0 : Str) (n : Nat) (i3 : Int) (i4 : Int) : T (zbq s0 n i3 i4) (0 ≤ i4 ∧ i4 ≤ s0.length ∧ s0.length < i4 + n ∧ s0.length < 1000000000 ∧ 0 ≤ i3 ∧ i3 ≤ i4) (fun r => True) := by
 induction n generalizing i3 i4 with
 | zero => exact ⟨fun h => goz⟩
 | succ n ih => exact ⟨fun h => by unfold zbq zeu; exact go1⟩

instance (x_s : Str) : T (zlW x_s) (x_s.length < 1000000000) (fun r => True) := ⟨fun h => by unfold zlW; exact go1⟩

instance (x_r : zMt) (x_v : zL5) : T (zez x_r x_v) (Cw x_r.Scanner) (fun r => True) := ⟨fun h => by unfold zez zaS; exact go1⟩

end Go.Dm
end
section
set_option linter.unusedVariables false
set_option maxRecDepth 10000
set_option maxHeartbeats 2000000
namespace Go.Dm
instance (x_s : Str) : T (zrF x_s) (x_s.length < 1000000000) (fun r => True) := ⟨fun h => by unfold zrF; exact go1⟩

instance (x_v : zL5) : T (zqD x_v) (x_v.Proto.length ≤ 1000 ∧ x_v.Version.length ≤ 1000 ∧ x_v.By.length ≤ 1000 ∧ x_v.Comment.length ≤ 1000) (fun r => r.1.length ≤ 5000) := ⟨fun h => by unfold zqD zmW zmV; exact go1⟩

instance (x_s : Str) : T (zjo x_s) (x_s.length < 1000000000) (fun r => True) := ⟨fun h => by unfold zjo; exact go1⟩

instance (l0 : List zLK) (l5 : List zLK) (i6 : Int) (n : Nat) (i7 : Int) : T (zfq l0 l5 i6 n i7) (Swm l0 ∧ Swm l5 ∧ i6 = l5.length ∧ 0 ≤ i7 ∧ i7 ≤ i6 ∧ i6 < i7 + n) (fun r => True) := by
 induction n generalizing i7 with
 | zero => exact ⟨fun h => goz⟩
 | succ n ih => exact ⟨fun h => by unfold zfq; exact go1⟩

instance (x_l : List zLK) : T (zkv x_l) (Swm x_l) (fun r => True) := ⟨fun h => by unfold zkv; exact go1⟩

instance (x_b : UInt8) : T (zev x_b) (True) (fun r => True) := ⟨fun h => by unfold zev; exact go1⟩

instance (x_s : Str) : T (zkw x_s) (x_s.length < 1000000000) (fun r => True) := ⟨fun h => by unfold zkw; exact go1⟩

instance (x_s : Str) (x_prefix : Str) : T (strings_HasPrefix x_s x_prefix) (True) (fun r => r = true → x_prefix.length ≤ x_s.length) := ⟨fun h => by unfold strings_HasPrefix; exact go⟩

instance (x_s : Str) (x_l : Str) : T (zg0 x_s x_l) (x_s.length < 1000001001 ∧ x_l.length < 1000 ∧ x_l.all (fun c => c.toNat < 128) = true) (fun r => r.1.length ≤ x_s.length ∧ r.2.length ≤ x_s.length) := ⟨fun h => by unfold zg0; exact go1⟩

instance (x_s : Str) : T (zlX x_s) (x_s.length < 1000000000) (fun r => Um r) := ⟨fun h => by unfold zlX zin zim zil zik zij; exact go1⟩

instance (x_b : UInt8) : T (zfP x_b) (True) (fun r => True) := ⟨fun h => by unfold zfP; exact go⟩

instance (s0 : Str) (s1 : Str) (n : Nat) (i5 : Int) : T (zcb s0 s1 n i5) (0 ≤ i5 ∧ i5 ≤ s0.length ∧ s0.length < i5 + n ∧ s0.length < 1000000000) (fun r => True) := by
 induction n generalizing i5 with
 | zero => exact ⟨fun h => goz⟩
 | succ n ih => exact ⟨fun h => by unfold zcb zio; exact go1⟩

instance (x_s : Str) (x_more : Str) : T (zfQ x_s x_more) (x_s.length < 1000000000) (fun r => True) := ⟨fun h => by unfold zfQ; exact go1⟩

instance (x_r : zMr) : T (zmX x_r) (Um x_r) (fun r => True) := ⟨fun h => by unfold zmX; exact go1⟩

instance (x_s : Str) : T (zlY x_s) (x_s.length < 1000000000) (fun r => Um r.1) := ⟨fun h => by unfold zlY; exact go1⟩

instance (x_s : Str) : T (zg1 x_s) (x_s.length < 1000000000) (fun r => True) := ⟨fun h => by unfold zg1; exact go1⟩

instance (l0 : List zLK) (l5 : List zLK) (i6 : Int) (n : Nat) (i7 : Int) : T (zeA l0 l5 i6 n i7) (Swm l0 ∧ Swm l5 ∧ i6 = l5.length ∧ 0 ≤ i7 ∧ i7 ≤ i6 ∧ i6 < i7 + n) (fun r => True) := by
 induction n generalizing i7 with
 | zero => exact ⟨fun h => goz⟩
 | succ n ih => exact ⟨fun h => by unfold zeA; exact go1⟩

instance (x_l : List zLK) : T (zjp x_l) (Swm x_l) (fun r => True) := ⟨fun h => by unfold zjp; exact go1⟩

instance (x_env : zLm) : T (zmY x_env) (x_env.Host.length ≤ 1000 ∧ x_env.By.length ≤ 1000 ∧ Swm x_env.Domains ∧ Swm x_env.Locations) (fun r => True) := ⟨fun h => by unfold zmY zjq zg2; exact go1⟩

end Go.Dm
end
section
set_option linter.unusedVariables false
set_option maxRecDepth 10000
set_option maxHeartbeats 2000000
namespace Go.Dm
instance {α : Type} (l : List α) : T (Go.Rk.nnl l) (1 ≤ l.length) (fun _ => True) := ⟨fun h => by
 cases l with
 | nil => simp at h
 | cons x l => exact ⟨_,rfl,trivial⟩⟩
theorem zDu (old new : Str) : ∀ (k : Nat) (s : Str),(Go.Lib.replaceK old new k s).length ≤ s.length + k * new.length
 | 0,s => by simp [Go.Lib.replaceK]
 | k + 1,s => by
  unfold Go.Lib.replaceK
  split
  ·omega
  ·have := zDu old new k (s.drop ((Go.Lib.index s old).toNat + old.length))
   simp only [List.length_append,List.length_take,List.length_drop,Nat.add_mul] at this ⊢
   omega
instance (s old new : Str) : T (strings_ReplaceAll s old new) (s.length ≤ 1000000000 ∧ 1 ≤ old.length ∧ new.length ≤ 10) (fun r => r.length ≤ 11 * s.length + 10) := ⟨fun ⟨h1,h2,h3⟩ => by
 have c : Go.Lib.countB ⟨s.toArray⟩ ⟨old.toArray⟩ ≤ s.length + 1 := by
  have := Go.Lib.count_le s old
  unfold Go.Lib.countB
  simpa using this
 have c2 : Go.Lib.countB ⟨s.toArray⟩ ⟨old.toArray⟩ * new.length ≤ (s.length + 1) * 10 := Nat.mul_le_mul c h3
 refine ⟨_,by rw [strings_ReplaceAll,if_pos ⟨by omega,h2,by omega⟩],?_⟩
 unfold Go.Lib.replaceAll Go.Lib.replace
 split
 ·omega
 ·have a := zDu old new (Go.Lib.replaceNum s old (-1)) s
  have b : Go.Lib.replaceNum s old (-1) ≤ s.length + 1 := by
   unfold Go.Lib.replaceNum
   rw [if_pos (.inl (by omega))]
   exact Go.Lib.count_le s old
  have c : Go.Lib.replaceNum s old (-1) * new.length ≤ (s.length + 1) * 10 := Nat.mul_le_mul b h3
  omega⟩
instance (x_side : Int) : T (zmj x_side) True (fun r => ∀ l,r = some l → 1 ≤ l.length ∧ l.length ≤ 10) := ⟨fun _ => by
 unfold zmj
 refine Wi (fun _ => Ws ?_) fun _ => Wi (fun _ => Ws ?_) fun _ => Ws ?_
 ·rintro l ⟨⟩; simp
 ·rintro l ⟨⟩; simp
 ·rintro l ⟨⟩⟩

instance (x_f : zLo) : T (zew x_f) (x_f.Name.length < 1000000000 ∧ x_f.Value.length < 1000000000) (fun r => True) := ⟨fun h => by unfold zew; exact go⟩

instance (x_g : zMc) : T (zoD x_g) (Gm x_g) (fun r => True) := ⟨fun h => by unfold zoD zkx; exact go1⟩

instance : T zrG True (fun r => r.length = 8 ∧ ∀ s ∈ r,s.length ≤ 20) := ⟨fun _ => ⟨_,rfl,by decide +kernel⟩⟩

instance (s : Str) : T (zaU s) (s.length < 4294967281) (fun r => r.length = s.length) := ⟨fun h => by
 have : ∀ s : Str, ∃ r,s.mapM zbD = some r ∧ r.length = s.length := by
  intro s
  induction s with
  | nil => exact ⟨[],rfl,rfl⟩
  | cons b s ih =>
   obtain ⟨r,e,h⟩ := ih
   obtain ⟨c,e2,_⟩ := (inferInstance : T (zbD b) True (fun _ => True)).ok trivial
   exact ⟨c :: r,by simp [List.mapM_cons,e,e2],by simp [h]⟩
 unfold zaU
 rw [if_pos h]
 exact this s⟩

instance (l0 : List Str) (s1 : Str) (i7 : Int) (n : Nat) (i8 : Int) : T (zah l0 s1 i7 n i8) (i7 = l0.length ∧ 0 ≤ i8 ∧ i8 ≤ i7 ∧ i7 < i8 + n ∧ l0.length < 1000000000000) (fun r => -1 ≤ r ∧ r < l0.length) := by
 induction n generalizing i8 with
 | zero => exact ⟨fun h => goz⟩
 | succ n ih => exact ⟨fun h => by unfold zah; exact go⟩

instance (x_s : List Str) (x_v : Str) : T (zbr x_s x_v) (x_s.length < 1000000000000) (fun r => -1 ≤ r ∧ r < x_s.length) := ⟨fun h => by unfold zbr; exact go⟩

instance (x_s : List Str) (x_v : Str) : T (zB x_s x_v) (x_s.length < 1000000000000) (fun r => True) := ⟨fun h => by unfold zB; exact go⟩

instance (x_name : Str) : T (zrH x_name) (x_name.length < 1000000000) (fun r => True) := ⟨fun h => by unfold zrH; exact go⟩

instance (x_name : Str) : T (zrI x_name) (x_name.length < 1000000000) (fun r => True) := ⟨fun h => by unfold zrI; exact go1⟩

instance (x_name : Str) : T (znU x_name) (x_name.length < 1000000000) (fun r => True) := ⟨fun h => by unfold znU; exact go1⟩

instance (l6 : List zLD) (i7 : Int) (n : Nat) (l3 : List Str) (i8 : Int) : T (zeZ l6 i7 n l3 i8) (i7 = l6.length ∧ 0 ≤ i8 ∧ i8 ≤ i7 ∧ i7 < i8 + n ∧ l6.length ≤ 10000 ∧ l3.length ≤ i8) (fun r => r.length ≤ l6.length) := by
 induction n generalizing l3 i8 with
 | zero => exact ⟨fun h => goz⟩
 | succ n ih => exact ⟨fun h => by unfold zeZ zky; exact go1⟩

instance (x_l : List zLD) : T (zoE x_l) (x_l.length ≤ 10000) (fun r => r.length ≤ x_l.length) := ⟨fun h => by unfold zoE; exact go1⟩

instance (x_b : UInt8) : T (zkj x_b) (True) (fun r => True) := ⟨fun h => by unfold zkj; exact go1⟩

instance (x_b : UInt8) : T (zkk x_b) (True) (fun r => True) := ⟨fun h => by unfold zkk; exact go1⟩

instance (x_c : zLs) (x_t : Str) : T (zb3 x_c x_t) (Cw x_c ∧ x_t.length ≤ 1000) (fun r => Cw r.2 ∧ r.2.zMz = x_c.zMz ∧ (if r.1 = true then r.2.zL8 = x_c.zL8 + x_t.length else r.2 = x_c)) := ⟨fun h => by unfold zb3; exact go⟩

instance (x_r : zL0) (x_s : Str) : T (zdZ x_r x_s) (x_r.zLI.length < 1000000000 ∧ x_s.length < 1000000000 ∧ (∀ p ∈ x_r.zLI,p.Text.length < 1000000000)) (fun r => r.Scanner = x_r.Scanner ∧ r.zLI.length ≤ x_r.zLI.length + 1 ∧ ∀ p ∈ r.zLI,p.Text.length ≤ x_s.length ∨ p ∈ x_r.zLI ∨ ∃ q ∈ x_r.zLI,p.Text.length = q.Text.length + x_s.length) := ⟨fun h => by unfold zdZ zee; exact go1⟩

instance (x_r : zL0) : T (ze9 x_r) (Cw x_r.Scanner ∧ x_r.zLI.length ≤ x_r.Scanner.zL8 ∧ (∀ p ∈ x_r.zLI,p.Text.length ≤ x_r.Scanner.zL8)) (fun r => Cw r.2.Scanner ∧ r.2.Scanner.zMz = x_r.Scanner.zMz ∧ x_r.Scanner.zL8 ≤ r.2.Scanner.zL8 ∧ r.2.zLI.length ≤ x_r.zLI.length + 1 ∧ ∀ p ∈ r.2.zLI,p.Text.length ≤ r.2.Scanner.zL8) := ⟨fun h => by unfold ze9 zdw zdv; exact go1⟩

instance (x_r : zL0) : T (zfR x_r) (Rt x_r ∧ x_r.Scanner.zL8 < x_r.Scanner.zMz.length) (fun r => r.1 = true → Rt r.2 ∧ r.2.Scanner.zMz = x_r.Scanner.zMz ∧ x_r.Scanner.zL8 < r.2.Scanner.zL8) := ⟨fun h => by unfold zfR; exact go1⟩

instance  (n : Nat) (v4 : zL0) : T (zh1 n v4) (Rt v4 ∧ v4.Scanner.zMz.length < v4.Scanner.zL8 + n) (fun r => r.1.length ≤ 32) := by
 induction n generalizing v4 with
 | zero => exact ⟨fun h => goz⟩
 | succ n ih => exact ⟨fun h => by unfold zh1; exact go1⟩

instance (x_s : Str) : T (zoF x_s) (x_s.length < 1000000000) (fun r => r.1.length ≤ 32) := ⟨fun h => by unfold zoF; exact go1⟩

instance (l0 : List zLD) (l1 : List zLD) (i12 : Int) (n : Nat) (i13 : Int) : T (zT l0 l1 i12 n i13) (i12 = l0.length ∧ i12 = l1.length ∧ 0 ≤ i13 ∧ i13 ≤ i12 ∧ i12 < i13 + n ∧ l0.length < 1000000000000) (fun r => True) := by
 induction n generalizing i13 with
 | zero => exact ⟨fun h => goz⟩
 | succ n ih => exact ⟨fun h => by unfold zT; exact go⟩

instance (x_s1 : List zLD) (x_s2 : List zLD) : T (zaN x_s1 x_s2) (x_s1.length < 1000000000000) (fun r => True) := ⟨fun h => by unfold zaN; exact go⟩

instance (l0 : List zLD) (l10 : List zLD) (i11 : Int) (n : Nat) (l4 : List Str) (i12 : Int) : T (zdx l0 l10 i11 n l4 i12) (Tp l10 ∧ l0.length < 1000000000000 ∧ i11 = l10.length ∧ 0 ≤ i12 ∧ i12 ≤ i11 ∧ i11 < i12 + n ∧ l4.length ≤ 3 * i12 ∧ sl l4 ≤ i12 * 120000) (fun r => True) := by
 induction n generalizing l4 i12 with
 | zero => exact ⟨fun h => goz⟩
 | succ n ih => exact ⟨fun h => by unfold zdx zht; exact go1⟩

instance (x_l : List zLD) : T (zrJ x_l) (Tp x_l) (fun r => True) := ⟨fun h => by unfold zrJ; exact go1⟩

instance (l1 : List zLD) (l5 : List Str) (l13 : List Str) (i14 : Int) (n : Nat) (i15 : Int) : T (zh2 l1 l5 l13 i14 n i15) (Tp l1 ∧ l5.length < 1000000000000 ∧ i14 = l13.length ∧ 0 ≤ i15 ∧ i15 ≤ i14 ∧ i14 < i15 + n ∧ l13.length < 1000000000000) (fun r => True) := by
 induction n generalizing i15 with
 | zero => exact ⟨fun h => goz⟩
 | succ n ih => exact ⟨fun h => by unfold zh2; exact go1⟩

instance (x_side : Int) (x_l : List zLD) : T (zoG x_side x_l) (Tp x_l) (fun r => True) := ⟨fun h => by unfold zoG zkz; exact go1⟩

instance (x_r : zLr) : T (ztI x_r) (Rm x_r) (fun r => True) := ⟨fun h => by unfold ztI zm0; exact go1⟩

instance (x_r : zLr) : T (zoH x_r) (Rm x_r) (fun r => True) := ⟨fun h => by unfold zoH; exact go1⟩

instance (l0 : List zLr) (l7 : List zLr) (i8 : Int) (n : Nat) (i9 : Int) : T (zg3 l0 l7 i8 n i9) (Rl l7 ∧ i8 = l7.length ∧ 0 ≤ i9 ∧ i9 ≤ i8 ∧ i8 < i9 + n ∧ l0.length < 1000000000000) (fun r => True) := by
 induction n generalizing i9 with
 | zero => exact ⟨fun h => goz⟩
 | succ n ih => exact ⟨fun h => by unfold zg3; exact go1⟩

instance (x_l : List zLr) : T (zk1 x_l) (Rl x_l) (fun r => True) := ⟨fun h => by unfold zk1; exact go1⟩

end Go.Dm
end
section
set_option linter.unusedVariables false
set_option maxRecDepth 10000
set_option maxHeartbeats 2000000
namespace Go.Dm
instance (l : List zLK) : T (zg4 l) (l.length ≤ 1000000) (fun r => r = l) := ⟨fun h => by unfold zg4; exact go⟩

instance (l : List zLD) : T (zfr l) (l.length ≤ 1000000) (fun r => r = l) := ⟨fun h => by unfold zfr; exact go⟩

end Go.Dm
end
section
set_option linter.unusedVariables false
set_option maxRecDepth 10000
set_option maxHeartbeats 2000000
namespace Go.Dm
instance (l : List zLo) : T (zgo l) (l.length ≤ 1000000) (fun r => r = l) := ⟨fun h => by unfold zgo; exact go⟩

instance (x_l : List zLo) : T (zfb x_l) (Fm x_l) (fun r => r.zMv = x_l) := ⟨fun h => by unfold zfb; exact go⟩

instance (x_b : zLY) : T (zbs x_b) (Fm x_b.zMv) (fun r => r = x_b.zMv) := ⟨fun h => by unfold zbs; exact go⟩

instance (x_a : Str) (x_b : Str) : T (zbg x_a x_b) (x_a.length < 4294967281 ∧ x_b.length < 4294967281) (fun r => True) := ⟨fun h => by unfold zbg; exact go⟩

instance (s1 : Str) (l9 : List zLo) (i10 : Int) (n : Nat) (l5 : List Str) (i11 : Int) : T (zc5 s1 l9 i10 n l5 i11) (s1.length < 1000000000 ∧ Fm l9 ∧ i10 = l9.length ∧ 0 ≤ i11 ∧ i11 ≤ i10 ∧ i10 < i11 + n ∧ l5.length ≤ i11 ∧ ∀ s ∈ l5,s.length ≤ 70000000) (fun r => Ss r) := by
 induction n generalizing l5 i11 with
 | zero => exact ⟨fun h => goz⟩
 | succ n ih => exact ⟨fun h => by unfold zc5; exact go⟩

instance (x_b : zLY) (x_name : Str) : T (zbO x_b x_name) (x_name.length < 1000000000 ∧ Fm x_b.zMv) (fun r => Ss r) := ⟨fun h => by unfold zbO; exact go⟩

instance (x_c : zLs) (x_at : Int) : T (zfc x_c x_at) (Cw x_c) (fun r => Cw r.2 ∧ r.2.zMz = x_c.zMz ∧ r.2.zL8 ≤ x_c.zL8 ∧ (0 ≤ x_at → x_at ≤ x_c.zL8 → r.2.zL8 = x_at)) := ⟨fun h => by unfold zfc; exact go⟩

instance (x_p : zLG) (x_at : Int) : T (zcn x_p x_at) (Cw x_p.Scanner ∧ x_p.zMz = x_p.Scanner.zMz ∧ 0 ≤ x_p.zMk ∧ x_p.zMk ≤ x_at ∧ x_at ≤ x_p.zMz.length ∧ x_p.zLI.length < 1000000000) (fun r => r.Scanner = x_p.Scanner ∧ r.zMz = x_p.zMz ∧ r.zMk = x_p.Scanner.zL8 ∧ r.zLI.length ≤ x_p.zLI.length + 1 ∧ ∀ s ∈ r.zLI,s ∈ x_p.zLI ∨ s.length ≤ x_p.zMz.length) := ⟨fun h => by unfold zcn zcJ; exact go⟩

instance  (n : Nat) (vp0 : zLG) (i3 : Int) : T (zE n vp0 i3) (Cw vp0.Scanner ∧ vp0.Scanner.zMz.length < vp0.Scanner.zL8 + n ∧ 0 ≤ i3 ∧ i3 ≤ vp0.Scanner.zL8 + 1) (fun r => Cw r.2.Scanner ∧ r.2.Scanner.zMz = vp0.Scanner.zMz ∧ vp0.Scanner.zL8 ≤ r.2.Scanner.zL8 ∧ r.2.zLI = vp0.zLI ∧ r.2.zMk = vp0.zMk ∧ r.2.zMz = vp0.zMz) := by
 induction n generalizing vp0 i3 with
 | zero => exact ⟨fun h => goz⟩
 | succ n ih => exact ⟨fun h => by unfold zE; exact go⟩

instance (x_p : zLG) : T (zcd x_p) (Cw x_p.Scanner) (fun r => Cw r.2.Scanner ∧ r.2.Scanner.zMz = x_p.Scanner.zMz ∧ x_p.Scanner.zL8 ≤ r.2.Scanner.zL8 ∧ r.2.zLI = x_p.zLI ∧ r.2.zMk = x_p.zMk ∧ r.2.zMz = x_p.zMz) := ⟨fun h => by unfold zcd; exact go⟩

instance (i4 : Int) (n : Nat) (v5 : zMp) (t6 : Bool) : T (zcv i4 n v5 t6) (Cw v5.Scanner ∧ 0 ≤ i4 ∧ i4 ≤ v5.Scanner.zL8 ∧ v5.zLI.length ≤ v5.Scanner.zL8 ∧ v5.Scanner.zMz.length < v5.Scanner.zL8 + n ∧ (t6 = true → v5.Scanner.zMz.length + 1 < v5.Scanner.zL8 + n)) (fun r => Cw r.2.2 ∧ r.2.2.zMz = v5.Scanner.zMz ∧ i4 ≤ r.2.2.zL8 ∧ (r.2.1 = true → t6 = true ∧ v5.Scanner.zL8 ≤ r.2.2.zL8) ∧ r.1.length ≤ v5.Scanner.zMz.length) := by
 induction n generalizing v5 t6 with
 | zero => exact ⟨fun h => goz⟩
 | succ n ih => exact ⟨fun h => by unfold zcv zhv; exact go⟩

instance (x_c : zLs) : T (zh3 x_c) (Cw x_c) (fun r => Cw r.2.2 ∧ r.2.2.zMz = x_c.zMz ∧ x_c.zL8 ≤ r.2.2.zL8 ∧ (r.2.1 = true → x_c.zL8 < r.2.2.zL8) ∧ r.1.length ≤ x_c.zMz.length) := ⟨fun h => by unfold zh3; exact go⟩

instance (x_p : zLG) : T (zdy x_p) (Pw x_p ∧ x_p.Scanner.zL8 < x_p.Scanner.zMz.length) (fun r => r.1 = true → Pw r.2 ∧ r.2.Scanner.zMz = x_p.Scanner.zMz ∧ x_p.Scanner.zL8 < r.2.Scanner.zL8) := ⟨fun h => by unfold zdy; exact go⟩

instance (s0 : Str) (n : Nat) (v4 : zLG) : T (zgp s0 n v4) (Pw v4 ∧ v4.Scanner.zMz = s0 ∧ s0.length < v4.Scanner.zL8 + n) (fun r => r.1.length ≤ s0.length + 1 ∧ ∀ s ∈ r.1,s.length ≤ s0.length) := by
 induction n generalizing v4 with
 | zero => exact ⟨fun h => goz⟩
 | succ n ih => exact ⟨fun h => by unfold zgp; exact go⟩

instance (x_s : Str) : T (zjt x_s) (x_s.length < 1000000000) (fun r => r.1.length ≤ x_s.length + 1 ∧ ∀ s ∈ r.1,s.length ≤ x_s.length) := ⟨fun h => by unfold zjt; exact go⟩

instance {P : (List Str × Int) → Prop} (k0 : List Str → Int → Option (List Str × Int)) (l4 : List Str) (l7 : List Str) (i13 : Int) (i26 : Int) (n : Nat) (i27 : Int) : K (zft k0 l4 l7 i13 i26 n i27) P ((Sm l7 ∧ i26 = l7.length ∧ 0 ≤ i27 ∧ i27 ≤ i26 ∧ i26 < i27 + n ∧ l4.length + l7.length ≤ 4000000000000 ∧ 0 ≤ i13 ∧ i13 ≤ 10000 ∧ P ([],2)) ∧ (∀ l i,l = l4 ++ l7 ∧ i = i13 + 1 → W (k0 l i) P)) := by
 induction n generalizing i27 with
 | zero => exact ⟨fun h => goz⟩
 | succ n ih => exact ⟨fun ⟨h,hk0⟩ => by have hk0 := fun a0 a1 => K.mk (hk0 a0 a1); unfold zft; exact go⟩

instance (l11 : List Str) (i12 : Int) (n : Nat) (l4 : List Str) (i13 : Int) : T (zdP l11 i12 n l4 i13) (Ss l11 ∧ i12 = l11.length ∧ 0 ≤ i13 ∧ i13 ≤ i12 ∧ i12 < i13 + n ∧ l4.length ≤ i13 * 70000001 ∧ ∀ s ∈ l4,s.length ≤ 70000000) (fun r => r.1.length ≤ i12 * 70000001 ∧ ∀ s ∈ r.1,s.length ≤ 70000000) := by
 induction n generalizing l4 i13 with
 | zero => exact ⟨fun h => goz⟩
 | succ n ih => exact ⟨fun h => by unfold zdP; exact go⟩

instance (x_l : List Str) : T (zgA x_l) (Ss x_l) (fun r => r.1.length ≤ x_l.length * 70000001 ∧ ∀ s ∈ r.1,s.length ≤ 70000000) := ⟨fun h => by unfold zgA; exact go⟩

instance (x_r : zMw) (x_l : List Str) : T (zeC x_r x_l) (Ss x_l) (fun r => r.1.N = 0) := ⟨fun h => by unfold zeC; exact go2⟩

instance {P : (zLy × Int × zLY) → Prop} (k0 : Int → Int → Option (zLy × Int × zLY)) (vp32 : zLY) (i17 : Int) (l29 : List Str) (i30 : Int) (n : Nat) (i6 : Int) (i31 : Int) : K (zU k0 vp32 i17 l29 i30 n i6 i31) P ((Sm l29 ∧ i30 = l29.length ∧ 0 ≤ i31 ∧ i31 ≤ i30 ∧ i30 < i31 + n ∧ 0 ≤ i17 ∧ i17 ≤ 10000 ∧ -1 ≤ i6 ∧ i6 ≤ 1099511627776 ∧ P (⟨0,0⟩,28,vp32)) ∧ (∀ a b,b = i17 + 1 ∧ -1 ≤ a ∧ a ≤ 1099511627776 → W (k0 a b) P)) := by
 induction n generalizing i6 i31 with
 | zero => exact ⟨fun h => goz⟩
 | succ n ih => exact ⟨fun ⟨h,hk0⟩ => by have hk0 := fun a0 a1 => K.mk (hk0 a0 a1); unfold zU zbm; exact go2⟩

instance (vp32 : zLY) (l15 : List Str) (i16 : Int) (n : Nat) (i6 : Int) (i17 : Int) : T (zae vp32 l15 i16 n i6 i17) (Ss l15 ∧ i16 = l15.length ∧ 0 ≤ i17 ∧ i17 ≤ i16 ∧ i16 < i17 + n ∧ -1 ≤ i6 ∧ i6 ≤ 1099511627776) (fun r => 0 ≤ r.1.N ∧ r.1.N ≤ 1099511627776) := by
 induction n generalizing i6 i17 with
 | zero => exact ⟨fun h => goz⟩
 | succ n ih => exact ⟨fun h => by unfold zae; exact go2⟩

instance (x_r : zMw) (x_l : List Str) : T (zeg x_r x_l) (Ss x_l) (fun r => 0 ≤ r.1.N ∧ r.1.N ≤ 1099511627776) := ⟨fun h => by unfold zeg; exact go2⟩

instance (x_h : zLq) (x_none : Int) : T (znW x_h x_none) (Fm x_h.Fields) (fun r => 0 ≤ r.1.N ∧ r.1.N ≤ 1099511627776) := ⟨fun h => by unfold znW zlZ; exact go2⟩

instance (x_h : zLq) : T (zg6 x_h) (Fm x_h.Fields) (fun r => 0 ≤ r.1.N ∧ r.1.N ≤ 1099511627776) := ⟨fun h => by unfold zg6; exact go2⟩

instance {P : (List Str) → Prop} (k0 : List Str → Int → Option (List Str)) (i14 : Int) (l24 : List Str) (i25 : Int) (n : Nat) (l3 : List Str) (i26 : Int) : K (zcw k0 i14 l24 i25 n l3 i26) P ((l24.length ≤ 70000001 ∧ (∀ s ∈ l24,s.length ≤ 70000000) ∧ i25 = l24.length ∧ 0 ≤ i26 ∧ i26 ≤ i25 ∧ i25 < i26 + n ∧ l3.length ≤ i14 * 70000001 + i26 ∧ (∀ s ∈ l3,s.length ≤ 70000000) ∧ 0 ≤ i14 ∧ i14 ≤ 10000) ∧ (∀ l i,(l.length : Int) ≤ i * 70000001 ∧ i = i14 + 1 ∧ (∀ s ∈ l,s.length ≤ 70000000) → W (k0 l i) P)) := by
 induction n generalizing l3 i26 with
 | zero => exact ⟨fun h => goz⟩
 | succ n ih => exact ⟨fun ⟨h,hk0⟩ => by have hk0 := fun a0 a1 => K.mk (hk0 a0 a1); unfold zcw zhw; exact go⟩

instance (l12 : List Str) (i13 : Int) (n : Nat) (l3 : List Str) (i14 : Int) : T (zcx l12 i13 n l3 i14) (Ss l12 ∧ i13 = l12.length ∧ 0 ≤ i14 ∧ i14 ≤ i13 ∧ i13 < i14 + n ∧ l3.length ≤ i14 * 70000001 ∧ ∀ s ∈ l3,s.length ≤ 70000000) (fun r => r.length ≤ i13 * 70000001 ∧ ∀ s ∈ r,s.length ≤ 70000000) := by
 induction n generalizing l3 i14 with
 | zero => exact ⟨fun h => goz⟩
 | succ n ih => exact ⟨fun h => by unfold zcx; exact go⟩

instance (x_l : List zLo) : T (zkA x_l) (Fm x_l) (fun r => r.length ≤ 700000010000 ∧ ∀ s ∈ r,s.length ≤ 70000000) := ⟨fun h => by unfold zkA; exact go⟩

instance (x_s : Str) (x_a1 : Str) : T (zl9 x_s x_a1) (x_s.length < 1000000000 ∧ x_a1.length < 1000000000) (fun r => True) := ⟨fun h => by unfold zl9; exact go⟩

instance (l0 : List Str) (u1 : Str) (i7 : Int) (n : Nat) (i8 : Int) : T (zD l0 u1 i7 n i8) (Sm l0 ∧ u1.length < 1000000000 ∧ i7 = l0.length ∧ 0 ≤ i8 ∧ i8 ≤ i7 ∧ i7 < i8 + n) (fun r => -1 ≤ r ∧ r < l0.length) := by
 induction n generalizing i8 with
 | zero => exact ⟨fun h => goz⟩
 | succ n ih => exact ⟨fun h => by unfold zD; exact go⟩

instance (x_s : List Str) (x_f : Str) : T (zaa x_s x_f) (Sm x_s ∧ x_f.length < 1000000000) (fun r => -1 ≤ r ∧ r < x_s.length) := ⟨fun h => by unfold zaa; exact go⟩

instance (x_s : List Str) (x_f : Str) : T (zV x_s x_f) (Sm x_s ∧ x_f.length < 1000000000) (fun r => True) := ⟨fun h => by unfold zV; exact go⟩

instance (x_name : Str) (x_names : List Str) : T (ztJ x_name x_names) (Sm x_names ∧ x_name.length < 1000000000) (fun r => True) := ⟨fun h => by unfold ztJ; exact go⟩

instance (x_f : zLo) (x_a1 : List Str) : T (zcy x_f x_a1) (Sm x_a1 ∧ x_f.Name.length < 1000000000) (fun r => True) := ⟨fun h => by unfold zcy; exact go⟩

instance (l0 : List zLo) (u1 : List Str) (i7 : Int) (n : Nat) (i8 : Int) : T (zw l0 u1 i7 n i8) (Fm l0 ∧ Sm u1 ∧ i7 = l0.length ∧ 0 ≤ i8 ∧ i8 ≤ i7 ∧ i7 < i8 + n) (fun r => -1 ≤ r ∧ r < l0.length) := by
 induction n generalizing i8 with
 | zero => exact ⟨fun h => goz⟩
 | succ n ih => exact ⟨fun h => by unfold zw; exact go⟩

instance (x_s : List zLo) (x_f : List Str) : T (zN x_s x_f) (Fm x_s ∧ Sm x_f) (fun r => -1 ≤ r ∧ r < x_s.length) := ⟨fun h => by unfold zN; exact go⟩

instance (u1 : List Str) (n : Nat) (l0 : List zLo) (i5 : Int) (i6 : Int) : T (zq u1 n l0 i5 i6) (Fm l0 ∧ Sm u1 ∧ 0 ≤ i5 ∧ i5 ≤ i6 ∧ i6 ≤ l0.length ∧ l0.length < i6 + n) (fun r => Fm r ∧ r.length ≤ l0.length ∧ i5 ≤ r.length ∧ ∀ f ∈ r,f ∈ l0 ∨ f = ⟨[],[]⟩) := by
 induction n generalizing l0 i5 i6 with
 | zero => exact ⟨fun h => goz⟩
 | succ n ih => exact ⟨fun h => by unfold zq; exact go⟩

instance (x_s : List zLo) (x_del : List Str) : T (zC x_s x_del) (Fm x_s ∧ Sm x_del) (fun r => Fm r ∧ r.length ≤ x_s.length ∧ ∀ f ∈ r,f ∈ x_s ∨ f = ⟨[],[]⟩) := ⟨fun h => by unfold zC; exact go⟩

instance (x_b : zLY) (x_names : List Str) : T (zcz x_b x_names) (Fm x_b.zMv ∧ Sm x_names) (fun r => Fm r.2.zMv ∧ 0 ≤ r.1 ∧ r.2.zMv.length ≤ x_b.zMv.length ∧ ∀ f ∈ r.2.zMv,f ∈ x_b.zMv ∨ f = ⟨[],[]⟩) := ⟨fun h => by unfold zcz; exact go⟩

end Go.Dm
end
section
set_option linter.unusedVariables false
set_option maxRecDepth 10000
set_option maxHeartbeats 2000000
namespace Go.Dm
instance (x_l : List zLo) : T (zrL x_l) (Fm x_l) (fun r => Fm r ∧ r.length ≤ x_l.length ∧ ∀ f ∈ r,f ∈ x_l ∨ f = ⟨[],[]⟩) := ⟨fun h => by unfold zrL; exact go⟩

instance (s0 : Str) (s1 : Str) (n : Nat) (i5 : Int) : T (zdM s0 s1 n i5) (0 ≤ i5 ∧ i5 ≤ s0.length ∧ s0.length < i5 + n ∧ s0.length < 1000000000) (fun r => True) := by
 induction n generalizing i5 with
 | zero => exact ⟨fun h => goz⟩
 | succ n ih => exact ⟨fun h => by unfold zdM zk3; exact go⟩

instance (x_s : Str) (x_more : Str) : T (zqE x_s x_more) (x_s.length < 1000000000) (fun r => True) := ⟨fun h => by unfold zqE; exact go⟩

instance (x_s : Str) : T (zoJ x_s) (x_s.length < 1000000000) (fun r => True) := ⟨fun h => by unfold zoJ; exact go⟩

instance (x_s : Str) : T (zm1 x_s) (x_s.length < 1000000000) (fun r => True) := ⟨fun h => by unfold zm1; exact go⟩

instance (x_s : Str) : T (znX x_s) (x_s.length < 1000000000) (fun r => r.1.length ≤ x_s.length ∧ r.2.1.length ≤ x_s.length) := ⟨fun h => by unfold znX; exact go⟩

instance (x_t : zLZ) (x_s : Str) : T (zk4 x_t x_s) (Tm x_t ∧ x_s.length ≤ 10000000) (fun r => Tm r.1 ∧ r.1.Path.length ≤ x_t.Path.length + x_s.length + 1 ∧ r.1.Query.length ≤ x_t.Query.length + x_s.length + 1) := ⟨fun h => by unfold zk4 zjv zju; exact go⟩

instance (x_s : Str) : T (ziq x_s) (x_s.length ≤ 10000000) (fun r => Tm r.1 ∧ r.1.Path.length ≤ x_s.length + 1 ∧ r.1.Query.length ≤ x_s.length + 1) := ⟨fun h => by unfold ziq zd0 zfU; exact go⟩

instance (x_method : Str) (x_s : Str) : T (zrM x_method x_s) (x_s.length ≤ 10000000) (fun r => Tm r.1 ∧ r.1.Path.length ≤ x_s.length + 1 ∧ r.1.Query.length ≤ x_s.length + 1) := ⟨fun h => by unfold zrM; exact go⟩

instance (x_method : Str) (x_s : Str) : T (zjw x_method x_s) (x_s.length ≤ 10000000) (fun r => Tm r.1 ∧ r.1.Path.length ≤ x_s.length + 1 ∧ r.1.Query.length ≤ x_s.length + 1) := ⟨fun h => by unfold zjw zir; exact go⟩

instance (x_path : Str) (x_query : Str) (x_has : Bool) : T (zoK x_path x_query x_has) (x_path.length ≤ 1000000000 ∧ x_query.length ≤ 1000000000) (fun r => r.length ≤ x_path.length + x_query.length + 1) := ⟨fun h => by unfold zoK; exact go⟩

instance (x_t : zLZ) : T (zkB x_t) (Tm x_t) (fun r => r.length ≤ x_t.Path.length + x_t.Query.length + 10) := ⟨fun h => by unfold zkB zhx; exact go⟩

instance (x_h : zL9) : T (zkC x_h) (x_h.Name.length ≤ 70000000 ∧ x_h.Port ≤ 65535) (fun r => r.1.length ≤ x_h.Name.length + 100) := ⟨fun h => by unfold zkC zhz zhy; exact go⟩

instance (x_x : zLo) (x_a1 : Str) : T (zgB x_x x_a1) (x_x.Name.length < 1000000000 ∧ x_a1.length < 1000000000) (fun r => True) := ⟨fun h => by unfold zgB; exact go⟩

instance (l0 : List zLo) (u1 : Str) (i7 : Int) (n : Nat) (i8 : Int) : T (zu l0 u1 i7 n i8) (Fm l0 ∧ u1.length < 1000000000 ∧ i7 = l0.length ∧ 0 ≤ i8 ∧ i8 ≤ i7 ∧ i7 < i8 + n) (fun r => -1 ≤ r ∧ r < l0.length) := by
 induction n generalizing i8 with
 | zero => exact ⟨fun h => goz⟩
 | succ n ih => exact ⟨fun h => by unfold zu; exact go⟩

instance (x_s : List zLo) (x_f : Str) : T (zJ x_s x_f) (Fm x_s ∧ x_f.length < 1000000000) (fun r => -1 ≤ r ∧ r < x_s.length) := ⟨fun h => by unfold zJ; exact go⟩

instance (x_b : zLY) (x_name : Str) : T (ziS x_b x_name) (Fm x_b.zMv ∧ x_name.length < 1000000000) (fun r => r.1.length ≤ 70000000) := ⟨fun h => by unfold ziS; exact go⟩

instance (x_b : zLY) (x_l : List zLo) : T (ze0 x_b x_l) (x_b.zMv.length + x_l.length ≤ 1000000000000) (fun r => r.zMv = x_b.zMv ++ x_l) := ⟨fun h => by unfold ze0; exact go⟩

theorem zEe (a b : Str) : zbg a b = zbg b a := by
 unfold zbg
 cases zaU a <;> cases zaU b <;> simp [BEq.comm]
theorem rem1 (f : zLo) (u : Str) : zcy f [u] = zgB f u := by
 unfold zcy zgB ztJ zV zaa
 obtain ⟨n,hn⟩ : ∃ n,fuel = n + 1 + 1 := ⟨999999999999999998,rfl⟩
 rw [hn]
 have c := zEe u f.Name
 cases h : zbg f.Name u with
 | none =>
  rw [h] at c
  simp [zD,zl9,lAt,c]
 | some b =>
  rw [h] at c
  cases b <;> simp [zD,zl9,lAt,c,zj,inI]
theorem idxR (l : List zLo) (u : Str) (k : Int) : ∀ (n : Nat) (i : Int),zw l [u] k n i = zu l u k n i
 | 0,_ => rfl
 | n + 1,i => by
  unfold zw zu
  simp only [rem1,idxR l u k n]
instance (x_b : zLY) (x_name x_value : Str) : T (zh4 x_b x_name x_value) (Fm x_b.zMv ∧ x_name.length ≤ 70000000 ∧ x_value.length ≤ 70000000) (fun r => Fv r.zMv ∧ r.zMv.length ≤ x_b.zMv.length + 1 ∧ ∀ k,Vb k x_b.zMv → x_value.length ≤ k → Vb k r.zMv) := ⟨fun ⟨h,hn,hv⟩ => by
 obtain ⟨j,e,h1,h2⟩ := (inferInstance : T (zJ x_b.zMv x_name) _ _).ok ⟨h,by omega⟩
 unfold zh4
 rw [e]
 show W (if _ then _ else _) _
 refine Wi (fun hj => ?_) fun hj => ?_
 ·with_reducible refine Wc ?_ ?_
  ·have := h.1
   simp only [List.length_cons,List.length_nil]; omega
  ·intro r hr
   refine Ws ?_
   rw [hr]
   unfold Fm Fv at *
   refine ⟨fun f hf => ?_,by simp,fun k hk hx => zFL hk hx⟩
   simp only [List.mem_append,List.mem_singleton] at hf
   rcases hf with hf | rfl
   ·exact h.2 f hf
   ·exact ⟨hn,hv⟩
 ·have hj0 : 0 ≤ j := by simpa using hj
  have e2 : zN x_b.zMv [x_name] = some j := by
   rw [← e]; exact idxR _ _ _ _ _
  have hs : Sm [x_name] := by unfold Sm; simp; omega
  have hl := h.1
  obtain ⟨d,ed,hd1,hd2,hd3,hd5⟩ := (inferInstance : T (zq [x_name] fuel x_b.zMv j (j + 1)) _ _).ok ⟨h,hs,hj0,by omega,by omega,by unfold fuel; omega⟩
  have e3 : zC x_b.zMv [x_name] = some d := by
   unfold zC
   rw [e2]
   show (if _ then _ else _) = _
   rw [if_neg (by simp; omega),show zj j 1 = some (j + 1) by simp [zj,inI]; omega]
   exact ed
  unfold zcz
  rw [e3]
  show W (((zey _ _).bind fun r2 => some (r2,(⟨d⟩ : zLY))).bind _) _
  rw [show zey (x_b.zMv.length : Int) (d.length : Int) = some ((x_b.zMv.length : Int) - d.length) by simp [zey,inI]; omega]
  show W ((zb1 d j [⟨x_name,x_value⟩]).bind _) _
  have hd4 := hd1.1
  with_reducible refine Wc ⟨rfl,hj0,hd3,by omega⟩ ?_
  intro r hr
  refine Ws ?_
  refine ⟨fun f hf => ?_,by show r.length ≤ _; omega,fun k hk hx f hf => ?_⟩
  rotate_left
  ·rcases hr.2 f hf with hf | hf
   ·rcases hd5 f hf with hf | rfl
    ·exact hk f hf
    ·exact Nat.zero_le _
   ·simp only [List.mem_singleton] at hf
    subst hf; exact hx
  rcases hr.2 f hf with hf | hf
  ·exact hd1.2 f hf
  ·simp only [List.mem_singleton] at hf
   subst hf
   exact ⟨hn,hv⟩⟩

instance (x_w : zMi) (x_env : zLm) (x_t : zLZ) : T (zfd x_w x_env x_t) (Fm x_w.Bag.zMv ∧ x_w.Bag.zMv.length ≤ 9000 ∧ x_env.Host.length ≤ 70000000 ∧ x_t.Host.Name.length ≤ 10000000 ∧ x_t.Host.Port ≤ 65535) (fun r => (r.zMQ = x_w.zMQ ∧ Fv r.Bag.zMv ∧ r.Bag.zMv.length ≤ x_w.Bag.zMv.length + 2) ∧ (Vb 46000000 x_w.Bag.zMv → x_env.Host.length ≤ 46000000 → Vb 46000000 r.Bag.zMv)) := ⟨fun h => by unfold zfd zdz; exact zwe⟩

instance (x_w : zMi) : T (zb4 x_w) (Fm x_w.Bag.zMv) (fun r => r.1.Kind = x_w.zMQ.Kind ∧ r.1.Method = x_w.zMQ.Method ∧ r.1.Target = x_w.zMQ.Target ∧ r.1.Code = x_w.zMQ.Code ∧ r.1.Reason = x_w.zMQ.Reason ∧ r.1.Minor = x_w.zMQ.Minor ∧ r.1.Fields = x_w.Bag.zMv ∧ r.2 = 0) := ⟨fun h => by unfold zb4; exact go1⟩

end Go.Dm
end
section
set_option linter.unusedVariables false
set_option maxRecDepth 10000
set_option maxHeartbeats 2000000
namespace Go.Dm
instance (x_s : Str) (x_suffix : Str) : T (strings_HasSuffix x_s x_suffix) (x_s.length < 1000000000) (fun r => r = true → x_suffix.length ≤ x_s.length) := ⟨fun h => by unfold strings_HasSuffix; exact go⟩

instance (s0 : Str) (l10 : List zLK) (i11 : Int) (n : Nat) (i12 : Int) : T (zd1 s0 l10 i11 n i12) (s0.length < 1000000000 ∧ Swm l10 ∧ i11 = l10.length ∧ 0 ≤ i12 ∧ i12 ≤ i11 ∧ i11 < i12 + n) (fun r => r.1.length ≤ s0.length + 1000) := by
 induction n generalizing i12 with
 | zero => exact ⟨fun h => goz⟩
 | succ n ih => exact ⟨fun h => by unfold zd1; exact go1⟩

instance (x_s : Str) (x_l : List zLK) : T (zm2 x_s x_l) (x_s.length < 1000000000 ∧ Swm x_l) (fun r => r.1.length ≤ x_s.length + 1000) := ⟨fun h => by unfold zm2; exact go1⟩

instance (x_s : Str) (x_l : List zLK) : T (zhA x_s x_l) (x_s.length ≤ 900000000 ∧ Swm x_l) (fun r => r.length ≤ x_s.length + 1000) := ⟨fun h => by unfold zhA; exact go1⟩

instance (x_a0 : UInt8) : T (zgC x_a0) (True) (fun r => True) := ⟨fun h => by unfold zgC; exact go1⟩

instance (x_s : Str) : T (zk5 x_s) (x_s.length < 1000000000) (fun r => r.1.Name.length + r.1.Value.length ≤ x_s.length) := ⟨fun h => by unfold zk5 zjx; exact go1⟩

instance (x_b : UInt8) : T (zhB x_b) (True) (fun r => True) := ⟨fun h => by unfold zhB; exact go1⟩

instance (x_s : Str) : T (zl0 x_s) (x_s.length < 1000000000) (fun r => True) := ⟨fun h => by unfold zl0; exact go1⟩

instance (l41 : List Str) (i42 : Int) (n : Nat) (v7 : zLH) (i43 : Int) : T (zgq l41 i42 n v7 i43) (Sm l41 ∧ i42 = l41.length ∧ 0 ≤ i43 ∧ i43 ≤ i42 ∧ i42 < i43 + n ∧ v7.Attrs.length ≤ i43) (fun r => r.1.Name.length ≤ v7.Name.length ∧ r.1.Value.length ≤ v7.Value.length ∧ r.1.Attrs.length ≤ l41.length ∧ ∀ a ∈ r.1.Attrs,a ∈ v7.Attrs ∨ ∃ s ∈ l41,a.Name.length + a.Value.length ≤ s.length) := by
 induction n generalizing v7 i43 with
 | zero => exact ⟨fun h => goz⟩
 | succ n ih => exact ⟨fun h => by unfold zgq; exact go1⟩

instance (x_s : Str) : T (zjy x_s) (x_s.length < 1000000000) (fun r => r.1.Name.length ≤ x_s.length ∧ r.1.Value.length ≤ x_s.length ∧ r.1.Attrs.length ≤ x_s.length + 1 ∧ ∀ a ∈ r.1.Attrs,a.Name.length + a.Value.length ≤ x_s.length) := ⟨fun h => by unfold zjy; exact go1⟩

instance (s1 : Str) (v2 : zLH) (n : Nat) (i5 : Int) : T (zg7 s1 v2 n i5) (-1 ≤ i5 ∧ i5 < v2.Attrs.length ∧ i5 + 1 < n ∧ s1.length < 1000000000 ∧ Ac v2) (fun r => -1 ≤ r ∧ r < v2.Attrs.length) := by
 induction n generalizing i5 with
 | zero => exact ⟨fun h => goz⟩
 | succ n ih => exact ⟨fun h => by unfold zg7; exact go1⟩

instance (x_c : zLH) (x_name : Str) : T (zk6 x_c x_name) (x_name.length < 1000000000 ∧ Ac x_c) (fun r => -1 ≤ r ∧ r < x_c.Attrs.length) := ⟨fun h => by unfold zk6; exact go1⟩

instance (x_c : zLH) (x_name : Str) : T (zoL x_c x_name) (x_name.length < 1000000000 ∧ Ac x_c) (fun r => r.1.length = 0 ∨ ∃ a ∈ x_c.Attrs,r.1 = a.Value) := ⟨fun h => by unfold zoL; exact go1⟩

instance (x_s : Str) (x_prefix : Str) : T (stringslite_TrimPrefix x_s x_prefix) (True) (fun r => r.length ≤ x_s.length) := ⟨fun h => by unfold stringslite_TrimPrefix; exact go⟩

instance (x_s : Str) (x_prefix : Str) : T (strings_TrimPrefix x_s x_prefix) (True) (fun r => r.length ≤ x_s.length) := ⟨fun h => by unfold strings_TrimPrefix; exact go⟩

instance (x_name : Str) (x_domain : Str) : T (zjz x_name x_domain) (x_name.length < 1000000000 ∧ x_domain.length < 900000000) (fun r => r = true → x_domain.length ≤ x_name.length) := ⟨fun h => by unfold zjz; exact go⟩

instance (s0 : Str) (s6 : Str) (l11 : List zLK) (i12 : Int) (n : Nat) (i13 : Int) : T (zg8 s0 s6 l11 i12 n i13) (s6.length < 1000000000 ∧ Swm l11 ∧ i12 = l11.length ∧ 0 ≤ i13 ∧ i13 ≤ i12 ∧ i12 < i13 + n) (fun r => r.1.length ≤ s0.length + s6.length + 1000) := by
 induction n generalizing i13 with
 | zero => exact ⟨fun h => goz⟩
 | succ n ih => exact ⟨fun h => by unfold zg8; exact go1⟩

instance (x_name : Str) (x_l : List zLK) : T (zm3 x_name x_l) (x_name.length < 1000000000 ∧ Swm x_l) (fun r => r.1.length ≤ 2 * x_name.length + 1000) := ⟨fun h => by unfold zm3; exact go1⟩

instance (s1 : Str) (s2 : Str) (i7 : Int) (l20 : List zL4) (i21 : Int) (n : Nat) (v8 : zLH) (i22 : Int) : T (zcK s1 s2 i7 l20 i21 n v8 i22) (s1.length ≤ 7500 ∧ s2.length ≤ 7500 ∧ i21 = l20.length ∧ 0 ≤ i22 ∧ i22 ≤ i21 ∧ i21 < i22 + n ∧ l20.length ≤ 3001 ∧ v8.Attrs.length ≤ i22 ∧ (∀ a ∈ l20,a.Name.length ≤ 7500 ∧ a.Value.length ≤ 7500) ∧ Km v8) (fun r => Km r) := by
 induction n generalizing v8 i22 with
 | zero => exact ⟨fun h => goz⟩
 | succ n ih => exact ⟨fun h => by unfold zcK zkE zkD zkF; exact go1⟩

instance (x_c : zLH) (x_name : Str) (x_value : Str) : T (zoM x_c x_name x_value) (x_name.length ≤ 7500 ∧ x_value.length ≤ 7500 ∧ Km x_c ∧ x_c.Attrs.length ≤ 3001) (fun r => Km r) := ⟨fun h => by unfold zoM; exact go1⟩

instance (l0 : List zL4) (l1 : List zL4) (i12 : Int) (n : Nat) (i13 : Int) : T (zW l0 l1 i12 n i13) (i12 = l0.length ∧ i12 = l1.length ∧ 0 ≤ i13 ∧ i13 ≤ i12 ∧ i12 < i13 + n ∧ l0.length < 1000000000000) (fun r => True) := by
 induction n generalizing i13 with
 | zero => exact ⟨fun h => goz⟩
 | succ n ih => exact ⟨fun h => by unfold zW; exact go⟩

instance (x_s1 : List zL4) (x_s2 : List zL4) : T (zaO x_s1 x_s2) (x_s1.length < 1000000000000) (fun r => True) := ⟨fun h => by unfold zaO; exact go⟩

instance (x_a : zLH) (x_b : zLH) : T (zm4 x_a x_b) (x_a.Attrs.length < 1000000000000) (fun r => True) := ⟨fun h => by unfold zm4; exact go1⟩

instance (v1 : zLH) (l18 : List zL4) (i19 : Int) (n : Nat) (l4 : List Str) (i20 : Int) : T (zfu v1 l18 i19 n l4 i20) (Km v1 ∧ i19 = l18.length ∧ 0 ≤ i20 ∧ i20 ≤ i19 ∧ i19 < i20 + n ∧ l18.length ≤ 3002 ∧ l4.length ≤ i20 + 1 ∧ sl l4 ≤ (i20 + 1) * 15001 ∧ ∀ a ∈ l18,a.Name.length ≤ 7500 ∧ a.Value.length ≤ 7500) (fun r => r.1.length ≤ 46000000) := by
 induction n generalizing l4 i20 with
 | zero => exact ⟨fun h => goz⟩
 | succ n ih => exact ⟨fun h => by unfold zfu; exact go1⟩

instance (x_c : zLH) : T (zm5 x_c) (Km x_c) (fun r => r.1.length ≤ 46000000) := ⟨fun h => by unfold zm5; exact go1⟩

instance (x_s : Str) (x_l : List zLK) : T (zis x_s x_l) (x_s.length ≤ 3000 ∧ Swm x_l) (fun r => r.length ≤ 46000000) := ⟨fun h => by unfold zis; exact go1⟩

instance (i12 : Int) (n : Nat) (v2 : zLm) (l5 : List zLo) (i13 : Int) : T (zbw i12 n v2 l5 i13) (i12 = l5.length ∧ l5.length ≤ 10000 ∧ 0 ≤ i13 ∧ i13 ≤ i12 ∧ i12 < i13 + n ∧ Swm v2.Domains ∧ Swm v2.Locations ∧ Fv l5 ∧ Vb 46000000 l5 ∧ ∀ k f,i13 ≤ k → lAt l5 k = some f → f.Value.length ≤ 3000) (fun r => (r.length = l5.length ∧ Fv r) ∧ Vb 46000000 r) := by
 induction n generalizing v2 l5 i13 with
 | zero => exact ⟨fun h => goz⟩
 | succ n ih => exact ⟨fun h => by unfold zbw zfV; exact zwe⟩

instance (x_env : zLm) (x_l : List zLo) : T (zit x_env x_l) (Fm x_l ∧ Swm x_env.Domains ∧ Swm x_env.Locations ∧ ∀ f ∈ x_l,f.Value.length ≤ 3000) (fun r => (r.length = x_l.length ∧ Fv r) ∧ Vb 46000000 r) := ⟨fun h => by unfold zit; exact zwe⟩

instance (x_a0 : zLm) (x_a1 : zLq) : T (zm6 x_a0 x_a1) (Fm x_a1.Fields ∧ x_a1.Fields.length ≤ 8000 ∧ (∀ f ∈ x_a1.Fields,f.Value.length ≤ 3000) ∧ x_a1.Target.length ≤ 9000000 ∧ x_a0.Host.length ≤ 46000000 ∧ Swm x_a0.Domains ∧ Swm x_a0.Locations) (fun r => (Fv r.1.Fields ∧ r.1.Fields.length ≤ x_a1.Fields.length + 2) ∧ Vb 46000000 r.1.Fields ∧ r.1.Target.length ≤ 2 * x_a1.Target.length + 20 ∧ r.1.Method.length ≤ x_a1.Method.length ∧ r.1.Reason.length ≤ x_a1.Reason.length ∧ (r.1.Code = x_a1.Code ∨ r.1.Code = 0) ∧ r.1.Minor ≤ 1) := ⟨fun h => by unfold zm6; exact zwe⟩

instance (x_name : Str) (x_value : Str) : T (zcL x_name x_value) (True) (fun r => r = ⟨x_name,x_value⟩) := ⟨fun h => by unfold zcL; exact go1⟩

instance (x_env : zLm) (x_h : zLq) : T (zm7 x_env x_h) (x_env.Client.length ≤ 70000000 ∧ x_env.Host.length ≤ 70000000 ∧ x_env.Scheme.length ≤ 70000000 ∧ x_h.Target.length ≤ 70000000 ∧ x_h.Method.length ≤ 70000000 ∧ x_h.Code ≤ 9223372036854775807) (fun r => Pm r) := ⟨fun h => by unfold zm7; exact go1⟩

end Go.Dm
end
section
set_option linter.unusedVariables false
set_option maxRecDepth 10000
set_option maxHeartbeats 2000000
namespace Go.Dm
instance (x_r : zLr) : T (zm8 x_r) (Rm x_r) (fun r => r.length ≤ 2) := ⟨fun h => by unfold zm8; exact go1⟩

instance (l0 : List zLr) (v3 : zMc) (n : Nat) (i4 : Int) : T (zcU l0 v3 n i4) (Rl l0 ∧ Gm v3 ∧ 1 ≤ i4 ∧ i4 ≤ l0.length ∧ l0.length < i4 + n) (fun r => 1 ≤ r ∧ r ≤ l0.length) := by
 induction n generalizing i4 with
 | zero => exact ⟨fun h => goz⟩
 | succ n ih => exact ⟨fun h => by unfold zcU zg9; exact go1⟩

instance (x_l : List zLr) : T (zm9 x_l) (Rl x_l ∧ 1 ≤ x_l.length) (fun r => 1 ≤ r ∧ r ≤ x_l.length) := ⟨fun h => by unfold zm9; exact go1⟩

instance (x_g : zMc) (x_n : Int) : T (zkG x_g x_n) (True) (fun r => r.N = x_n ∧ r.Name = x_g.Name ∧ r.Text.length ≤ x_g.Value.length ∧ r.Parts = []) := ⟨fun h => by unfold zkG; exact go1⟩

instance (x_r : zLr) : T (zna x_r) (Rm x_r) (fun r => Om r) := ⟨fun h => by unfold zna; exact go1⟩

instance (l6 : List zLr) (i7 : Int) (n : Nat) (vp0 : zLT) (i8 : Int) : T (zbc l6 i7 n vp0 i8) (Rl l6 ∧ i7 = l6.length ∧ 0 ≤ i8 ∧ i8 ≤ i7 ∧ i7 < i8 + n ∧ Ol vp0.zLI ∧ vp0.zLI.length ≤ 1000000 + i8) (fun r => Ol r.zLI ∧ r.zLI.length ≤ vp0.zLI.length + i7 - i8) := by
 induction n generalizing vp0 i8 with
 | zero => exact ⟨fun h => goz⟩
 | succ n ih => exact ⟨fun h => by unfold zbc; exact go1⟩

instance (x_c : zLT) (x_l : List zLr) : T (zdA x_c x_l) (Rl x_l ∧ Ol x_c.zLI ∧ x_c.zLI.length ≤ 1000000) (fun r => Ol r.zLI ∧ r.zLI.length ≤ x_c.zLI.length + x_l.length) := ⟨fun h => by unfold zdA; exact go1⟩

instance  (n : Nat) (vp0 : zLT) (l1 : List zLr) : T (z6 n vp0 l1) (Rl l1 ∧ l1.length < n ∧ Ol vp0.zLI ∧ vp0.zLI.length + 2 * l1.length ≤ 100000) (fun r => Ol r.zLI ∧ r.zLI.length ≤ vp0.zLI.length + 2 * l1.length) := by
 induction n generalizing vp0 l1 with
 | zero => exact ⟨fun h => goz⟩
 | succ n ih => exact ⟨fun h => by unfold z6 zce; exact go1⟩

instance (x_c : zLT) (x_l : List zLr) : T (zdB x_c x_l) (Rl x_l ∧ x_c.zLI = []) (fun r => Ol r.zLI ∧ r.zLI.length ≤ 2 * x_l.length) := ⟨fun h => by unfold zdB; exact go1⟩

instance (i0 : Int) (l26 : List zLr) (i27 : Int) (n : Nat) (l8 : List zLr) (i28 : Int) : T (zcA i0 l26 i27 n l8 i28) (Rl l26 ∧ i27 = l26.length ∧ 0 ≤ i28 ∧ i28 ≤ i27 ∧ i27 < i28 + n ∧ l8.length ≤ i28 ∧ ∀ r ∈ l8,Rm r) (fun r => Ol r.1 ∧ r.1.length ≤ 2 * l26.length) := by
 induction n generalizing l8 i28 with
 | zero => exact ⟨fun h => goz⟩
 | succ n ih => exact ⟨fun h => by unfold zcA; exact go1⟩

instance (x_side : Int) (x_l : List zLr) : T (ziu x_side x_l) (Rl x_l) (fun r => Ol r.1 ∧ r.1.length ≤ 2 * x_l.length) := ⟨fun h => by unfold ziu zfW; exact go1⟩

instance (x_m : zLM) (x_op : zMo) : T (zeh x_m x_op) (Fm x_m.Bag.zMv ∧ x_op.Name.length < 1000000000) (fun r => True) := ⟨fun h => by unfold zeh; exact go1⟩

instance (s1 : Str) (l7 : List zLV) (i8 : Int) (n : Nat) (i9 : Int) : T (zjA s1 l7 i8 n i9) (Pm l7 ∧ i8 = l7.length ∧ 0 ≤ i9 ∧ i9 ≤ i8 ∧ i8 < i9 + n) (fun r => r.length ≤ 70000000) := by
 induction n generalizing i9 with
 | zero => exact ⟨fun h => goz⟩
 | succ n ih => exact ⟨fun h => by unfold zjA; exact go1⟩

instance (x_known : List zLV) (x_name : Str) : T (zrN x_known x_name) (Pm x_known) (fun r => r.length ≤ 70000000) := ⟨fun h => by unfold zrN; exact go1⟩

instance (s0 : Str) (n : Nat) (l3 : List UInt8) (i4 : Int) : T (ze1 s0 n l3 i4) (s0.length < 100000000000 ∧ 0 ≤ i4 ∧ i4 ≤ s0.length ∧ s0.length < i4 + n ∧ l3.length ≤ 65536) (fun r => r.length ≤ 65536) := by
 induction n generalizing l3 i4 with
 | zero => exact ⟨fun h => goz⟩
 | succ n ih => exact ⟨fun h => by unfold ze1 zkH; exact go1⟩

instance (x_s : Str) : T (zoN x_s) (x_s.length < 100000000000) (fun r => r.length ≤ 65536) := ⟨fun h => by unfold zoN; exact go1⟩

instance (l0 : List zLV) (v7 : zLY) (l15 : List zLD) (i16 : Int) (n : Nat) (l8 : List Str) (i17 : Int) : T (zeD l0 v7 l15 i16 n l8 i17) (Pm l0 ∧ Fm v7.zMv ∧ Tp l15 ∧ i16 = l15.length ∧ 0 ≤ i17 ∧ i17 ≤ i16 ∧ i16 < i17 + n ∧ l8.length ≤ i17 ∧ sl l8 ≤ i17 * 70000000) (fun r => r.length ≤ 65536) := by
 induction n generalizing l8 i17 with
 | zero => exact ⟨fun h => goz⟩
 | succ n ih => exact ⟨fun h => by unfold zeD; exact go1⟩

instance (x_known : List zLV) (x_fields : List zLo) (x_l : List zLD) : T (zrO x_known x_fields x_l) (Pm x_known ∧ Fm x_fields ∧ Tp x_l) (fun r => r.length ≤ 65536) := ⟨fun h => by unfold zrO; exact go1⟩

instance (x_m : zLM) (x_l : List zLD) : T (zco x_m x_l) (Pm x_m.zMF ∧ Fm x_m.Bag.zMv ∧ Tp x_l) (fun r => r.length ≤ 65536) := ⟨fun h => by unfold zco; exact go1⟩

instance (s1 : Str) (s2 : Str) (i15 : Int) (n : Nat) (vp0 : zLY) (i7 : Int) (i16 : Int) : T (zb5 s1 s2 i15 n vp0 i7 i16) (Fm vp0.zMv ∧ i15 = vp0.zMv.length ∧ 0 ≤ i16 ∧ i16 ≤ i15 ∧ i15 < i16 + n ∧ 0 ≤ i7 ∧ i7 ≤ i16 ∧ s1.length ≤ 70000000 ∧ s2.length ≤ 70000000) (fun r => (Fm r.2.zMv ∧ r.2.zMv.length = vp0.zMv.length) ∧ (∀ k,Vb k vp0.zMv → Vb k r.2.zMv)) := by
 induction n generalizing vp0 i7 i16 with
 | zero => exact ⟨fun h => goz⟩
 | succ n ih => exact ⟨fun h => by unfold zb5; exact zwe⟩

instance (x_b : zLY) (x_from : Str) (x_to : Str) : T (zhC x_b x_from x_to) (Fm x_b.zMv ∧ x_from.length ≤ 70000000 ∧ x_to.length ≤ 70000000) (fun r => (Fm r.2.zMv ∧ r.2.zMv.length = x_b.zMv.length) ∧ (∀ k,Vb k x_b.zMv → Vb k r.2.zMv)) := ⟨fun h => by unfold zhC; exact zwe⟩

instance (x_m : zLM) (x_op : zMo) : T (zeE x_m x_op) (Pm x_m.zMF ∧ Fm x_m.Bag.zMv ∧ Om x_op) (fun r => (r.zMF = x_m.zMF ∧ r.zMM = x_m.zMM ∧ Fv r.Bag.zMv ∧ r.Bag.zMv.length ≤ x_m.Bag.zMv.length + 1) ∧ (Vb 66000000 x_m.Bag.zMv → Vb 66000000 r.Bag.zMv)) := ⟨fun h => by unfold zeE; exact zwe⟩

instance (l1 : List zMo) (n : Nat) (vp0 : zLM) (i4 : Int) : T (zaf l1 n vp0 i4) (Ol l1 ∧ l1.length ≤ 1000 ∧ 0 ≤ i4 ∧ i4 ≤ 2 * l1.length + 1 ∧ 1 ≤ n ∧ l1.length < i4 + n ∧ Pm vp0.zMF ∧ Fm vp0.Bag.zMv ∧ vp0.Bag.zMv.length + l1.length ≤ 10000 + i4 ∧ 0 ≤ vp0.zMM ∧ vp0.zMM ≤ i4) (fun r => (Fm r.Bag.zMv ∧ (r.Bag.zMv.length + i4 ≤ vp0.Bag.zMv.length + l1.length ∨ r.Bag.zMv.length ≤ vp0.Bag.zMv.length)) ∧ (Vb 66000000 vp0.Bag.zMv → Vb 66000000 r.Bag.zMv)) := by
 induction n generalizing vp0 i4 with
 | zero => exact ⟨fun h => goz⟩
 | succ n ih => exact ⟨fun h => by unfold zaf zcM; exact zwe⟩

instance (x_m : zLM) (x_l : List zMo) : T (zei x_m x_l) (Ol x_l ∧ x_l.length ≤ 1000 ∧ Pm x_m.zMF ∧ Fm x_m.Bag.zMv ∧ x_m.Bag.zMv.length ≤ 9000 ∧ x_m.zMM = 0) (fun r => (Fm r.Bag.zMv ∧ r.Bag.zMv.length ≤ x_m.Bag.zMv.length + x_l.length) ∧ (Vb 66000000 x_m.Bag.zMv → Vb 66000000 r.Bag.zMv)) := ⟨fun h => by unfold zei; exact zwe⟩

instance (x_known : List zLV) (x_fields : List zLo) (x_l : List zMo) : T (znb x_known x_fields x_l) (Pm x_known ∧ Fm x_fields ∧ x_fields.length ≤ 9000 ∧ Ol x_l ∧ x_l.length ≤ 1000) (fun r => (Fm r ∧ r.length ≤ x_fields.length + x_l.length) ∧ (Vb 66000000 x_fields → Vb 66000000 r)) := ⟨fun h => by unfold znb; exact zwe⟩

instance (x_known : List zLV) (x_fields : List zLo) (x_side : Int) (x_l : List zLr) : T (zkI x_known x_fields x_side x_l) (Pm x_known ∧ Fm x_fields ∧ x_fields.length ≤ 9000 ∧ Rl x_l ∧ x_l.length ≤ 500) (fun r => (Fv r.1 ∧ r.1.length ≤ x_fields.length + 2 * x_l.length) ∧ (Vb 66000000 x_fields → Vb 66000000 r.1)) := ⟨fun h => by unfold zkI; exact zwe⟩

instance (x_l : List Str) : T (zk7 x_l) (sl x_l + 10 * x_l.length ≤ 100000000000000) (fun r => r.length ≤ sl x_l + 10 * x_l.length) := ⟨fun h => by unfold zk7; exact go⟩

instance (x_s : Str) (x_l : List Str) : T (zkJ x_s x_l) (x_s.length < 1000000000 ∧ x_l.length ≤ 1000 ∧ sl x_l ≤ 1000000000) (fun r => r.length ≤ x_s.length + sl x_l + 10 * x_l.length + 10) := ⟨fun h => by unfold zkJ; exact go⟩

instance (vp0 : zLY) (s1 : Str) (s2 : Str) (n : Nat) (i6 : Int) : T (zdr vp0 s1 s2 n i6) (Fm vp0.zMv ∧ -1 ≤ i6 ∧ i6 < vp0.zMv.length ∧ i6 + 1 < n ∧ s1.length ≤ 70000000 ∧ s2.length ≤ 1000000) (fun r => r.zMv.length ≤ vp0.zMv.length + 1 ∧ ∀ f ∈ r.zMv,f ∈ vp0.zMv ∨ (f.Name = s1 ∧ f.Value = s2) ∨ ∃ g ∈ vp0.zMv,f.Name = g.Name ∧ f.Value.length ≤ g.Value.length + s2.length + 20) := by
 induction n generalizing i6 with
 | zero => exact ⟨fun h => goz⟩
 | succ n ih => exact ⟨fun h => by unfold zdr; exact go⟩

instance (x_b : zLY) (x_name : Str) (x_element : Str) : T (zdQ x_b x_name x_element) (Fm x_b.zMv ∧ x_name.length ≤ 70000000 ∧ x_element.length ≤ 1000000) (fun r => r.zMv.length ≤ x_b.zMv.length + 1 ∧ ∀ f ∈ r.zMv,f ∈ x_b.zMv ∨ (f.Name = x_name ∧ f.Value = x_element) ∨ ∃ g ∈ x_b.zMv,f.Name = g.Name ∧ f.Value.length ≤ g.Value.length + x_element.length + 20) := ⟨fun h => by unfold zdQ; exact go⟩

end Go.Dm
end
section
set_option linter.unusedVariables false
set_option maxRecDepth 10000
set_option maxHeartbeats 2000000
namespace Go.Dm
instance (x_v : zL5) (x_l : List zLo) : T (zoO x_v x_l) (Fm x_l ∧ x_l.length ≤ 9000 ∧ (∀ f ∈ x_l,f.Value.length ≤ 66000000) ∧ x_v.Proto.length ≤ 1000 ∧ x_v.Version.length ≤ 1000 ∧ x_v.By.length ≤ 1000 ∧ x_v.Comment.length ≤ 1000) (fun r => r.1.length ≤ x_l.length + 1 ∧ ∀ f ∈ r.1,f ∈ x_l ∨ (f.Name.length ≤ 10 ∧ f.Value.length ≤ 5000) ∨ ∃ g ∈ x_l,f.Name = g.Name ∧ f.Value.length ≤ g.Value.length + 5020) := ⟨fun h => by unfold zoO; exact go1⟩

instance (x_client : Str) : T (zjB x_client) (x_client.length ≤ 1000) (fun r => r.length ≤ 1100) := ⟨fun h => by unfold zjB; exact go2⟩

instance (x_env : zLm) : T (zjC x_env) (x_env.Client.length ≤ 1000 ∧ x_env.Host.length ≤ 1000 ∧ x_env.Scheme.length ≤ 1000) (fun r => r.length ≤ 3 ∧ ∀ p ∈ r,p.Name.length ≤ 10 ∧ p.Value.length ≤ 1100) := ⟨fun h => by unfold zjC zgL zgK; exact go2⟩

instance (s0 : Str) (i12 : Int) (n : Nat) (l4 : List UInt8) (i13 : Int) : T (zcc s0 i12 n l4 i13) (i12 = s0.length ∧ 0 ≤ i13 ∧ i13 ≤ i12 ∧ i12 < i13 + n ∧ s0.length < 1000000000 ∧ l4.length ≤ 2 * i13 + 1) (fun r => r.1.length ≤ 2 * s0.length + 2) := by
 induction n generalizing l4 i13 with
 | zero => exact ⟨fun h => goz⟩
 | succ n ih => exact ⟨fun h => by unfold zcc ziw ziv; exact go⟩

instance (x_s : Str) : T (zl1 x_s) (x_s.length < 1000000000) (fun r => r.1.length ≤ 2 * x_s.length + 2) := ⟨fun h => by unfold zl1; exact go⟩

instance (x_s : Str) : T (zkK x_s) (x_s.length < 1000000000) (fun r => r.1.length ≤ 2 * x_s.length + 2) := ⟨fun h => by unfold zkK; exact go⟩

instance (l9 : List zLV) (i10 : Int) (n : Nat) (l4 : List Str) (i11 : Int) : T (zha l9 i10 n l4 i11) (i10 = l9.length ∧ 0 ≤ i11 ∧ i11 ≤ i10 ∧ i10 < i11 + n ∧ l9.length ≤ 3 ∧ (∀ p ∈ l9,p.Name.length ≤ 10 ∧ p.Value.length ≤ 1100) ∧ l4.length ≤ i11 ∧ sl l4 ≤ i11 * 2300) (fun r => r.1.length ≤ 7000) := by
 induction n generalizing l4 i11 with
 | zero => exact ⟨fun h => goz⟩
 | succ n ih => exact ⟨fun h => by unfold zha; exact go⟩

instance (x_l : List zLV) : T (znc x_l) (x_l.length ≤ 3 ∧ (∀ p ∈ x_l,p.Name.length ≤ 10 ∧ p.Value.length ≤ 1100)) (fun r => r.1.length ≤ 7000) := ⟨fun h => by unfold znc; exact go⟩

instance (x_env : zLm) (x_l : List zLo) : T (zhD x_env x_l) (Fm x_l ∧ x_l.length ≤ 9100 ∧ (∀ f ∈ x_l,f.Value.length ≤ 67000000) ∧ x_env.Client.length ≤ 1000 ∧ x_env.Host.length ≤ 1000 ∧ x_env.Scheme.length ≤ 1000) (fun r => r.1.length ≤ x_l.length + 1 ∧ ∀ f ∈ r.1,f ∈ x_l ∨ (f.Name.length ≤ 10 ∧ f.Value.length ≤ 7000) ∨ ∃ g ∈ x_l,f.Name = g.Name ∧ f.Value.length ≤ g.Value.length + 7020) := ⟨fun h => by unfold zhD; exact go2⟩

instance (x_s : Str) : T (ztK x_s) (x_s.length < 1000000000) (fun r => True) := ⟨fun h => by unfold ztK; exact go2⟩

instance (x_client : Str) (x_l : List zLo) : T (zoP x_client x_l) (Fm x_l ∧ x_l.length ≤ 9200 ∧ (∀ f ∈ x_l,f.Value.length ≤ 68000000) ∧ x_client.length ≤ 1000) (fun r => r.length ≤ x_l.length + 1 ∧ Fv r) := ⟨fun h => by unfold zoP zkL; exact go2⟩

instance (x_a0 : zLm) (x_a1 : Int) (x_a2 : zLq) : T (zoQ x_a0 x_a1 x_a2) (Fm x_a2.Fields ∧ x_a2.Fields.length ≤ 9000 ∧ (∀ f ∈ x_a2.Fields,f.Value.length ≤ 66000000) ∧ x_a0.Client.length ≤ 1000 ∧ x_a0.Host.length ≤ 1000 ∧ x_a0.Scheme.length ≤ 1000 ∧ x_a0.By.length ≤ 1000 ∧ x_a1 ≤ 9223372036854775807) (fun r => (Fv r.1.Fields ∧ r.1.Fields.length ≤ x_a2.Fields.length + 3) ∧ r.1.Target.length ≤ x_a2.Target.length ∧ r.1.Method.length ≤ x_a2.Method.length ∧ r.1.Reason.length ≤ x_a2.Reason.length ∧ (r.1.Code = x_a2.Code ∨ r.1.Code = 0) ∧ (r.1.Minor = x_a2.Minor ∨ r.1.Minor = 0)) := ⟨fun h => by unfold zoQ ze2 zkN zkM; exact go2⟩

instance (x_f : zLy) : T (zkO x_f) (x_f.N ≤ 9223372036854775807) (fun r => r.length ≤ 1 ∧ Fv r) := ⟨fun h => by unfold zkO; exact go2⟩

instance (x_env : zLm) (x_f : zLy) (x_h : zLq) (x_l : List zLr) : T (zhE x_env x_f x_h x_l) (Fm x_h.Fields ∧ x_h.Fields.length ≤ 8000 ∧ (∀ f ∈ x_h.Fields,f.Value.length ≤ 3000) ∧ x_h.Method.length ≤ 10000 ∧ x_h.Target.length ≤ 10000 ∧ x_h.Reason.length ≤ 10000 ∧ x_h.Code ≤ 1000 ∧ x_h.Minor ≤ 1000 ∧ 0 ≤ x_f.N ∧ x_f.N ≤ 1099511627776 ∧ x_env.Client.length ≤ 1000 ∧ x_env.Host.length ≤ 1000 ∧ x_env.Scheme.length ≤ 1000 ∧ x_env.By.length ≤ 1000 ∧ Swm x_env.Domains ∧ Swm x_env.Locations ∧ Rl x_l ∧ x_l.length ≤ 400) (fun r => Fm r.1.Fields ∧ r.1.Fields.length ≤ 9500 ∧ r.1.Method.length ≤ 10000 ∧ r.1.Target.length ≤ 30000 ∧ r.1.Reason.length ≤ 10000 ∧ r.1.Code ≤ 1000 ∧ r.1.Minor ≤ 1000) := ⟨fun h => by unfold zhE; exact zwe⟩

end Go.Dm
end
section
set_option linter.unusedVariables false
set_option maxRecDepth 10000
set_option maxHeartbeats 2000000
namespace Go.Dm
instance (x_p : zMf) : T (zcV x_p) (Cw x_p.Scanner) (fun r => 0 ≤ r.1 ∧ r.1 ≤ 255 ∧ Cw r.2.2 ∧ r.2.2.zMz = x_p.Scanner.zMz ∧ x_p.Scanner.zL8 ≤ r.2.2.zL8) := ⟨fun h => by unfold zcV; exact go1⟩

instance (x_p : zMf) : T (zbP x_p) (Cw x_p.Scanner) (fun r => 0 ≤ r.2.1 ∧ r.2.1 ≤ 255 ∧ Cw r.2.2.2 ∧ r.2.2.2.zMz = x_p.Scanner.zMz ∧ x_p.Scanner.zL8 ≤ r.2.2.2.zL8) := ⟨fun h => by unfold zbP; exact go1⟩

instance (x_s : Str) : T (zgr x_s) (x_s.length < 1000000000) (fun r => True) := ⟨fun h => by unfold zgr; exact go1⟩

instance (x_b : UInt8) : T (zb6 x_b) (True) (fun r => True) := ⟨fun h => by unfold zb6; exact go1⟩

instance (x_p : zMf) : T (zcW x_p) (Cw x_p.Scanner) (fun r => 0 ≤ r.1 ∧ r.1 ≤ 255 ∧ Cw r.2.2 ∧ r.2.2.zMz = x_p.Scanner.zMz ∧ x_p.Scanner.zL8 ≤ r.2.2.zL8) := ⟨fun h => by unfold zcW; exact go1⟩

instance (x_a0 : Str) : T (zgM x_a0) (x_a0.length ≤ 10000000) (fun r => r.1.Fields = [] ∧ r.1.Method.length ≤ x_a0.length ∧ r.1.Target.length ≤ x_a0.length ∧ r.1.Reason.length ≤ x_a0.length ∧ 0 ≤ r.1.Code ∧ r.1.Code ≤ 599 ∧ 0 ≤ r.1.Minor ∧ r.1.Minor ≤ 255) := ⟨fun h => by unfold zgM; exact go1⟩

instance (x_a0 : Str) : T (zhF x_a0) (x_a0.length ≤ 10000000) (fun r => r.1.Fields = [] ∧ r.1.Method.length ≤ x_a0.length ∧ r.1.Target.length ≤ x_a0.length ∧ r.1.Reason.length ≤ x_a0.length ∧ 0 ≤ r.1.Code ∧ r.1.Code ≤ 599 ∧ 0 ≤ r.1.Minor ∧ r.1.Minor ≤ 255) := ⟨fun h => by unfold zhF; exact go1⟩

instance (x_kind : Int) (x_s : Str) : T (zdn x_kind x_s) (x_s.length ≤ 10000000) (fun r => r.1.Fields = [] ∧ r.1.Method.length ≤ x_s.length ∧ r.1.Target.length ≤ x_s.length ∧ r.1.Reason.length ≤ x_s.length ∧ 0 ≤ r.1.Code ∧ r.1.Code ≤ 599 ∧ 0 ≤ r.1.Minor ∧ r.1.Minor ≤ 255) := ⟨fun h => by unfold zdn zfX; exact go1⟩

instance (x_a0 : zLq) : T (zhb x_a0) (x_a0.Method.length ≤ 10000 ∧ x_a0.Target.length ≤ 30000 ∧ x_a0.Reason.length ≤ 10000 ∧ x_a0.Code ≤ 1000 ∧ x_a0.Minor ≤ 1000) (fun r => r.1.length ≤ 60000) := ⟨fun h => by unfold zhb zgN zbQ; exact go1⟩

instance (l25 : List Str) (i26 : Int) (n : Nat) (i27 : Int) : T (ze3 l25 i26 n i27) (Ss l25 ∧ i26 = l25.length ∧ 0 ≤ i27 ∧ i27 ≤ i26 ∧ i26 < i27 + n) (fun r => True) := by
 induction n generalizing i27 with
 | zero => exact ⟨fun h => goz⟩
 | succ n ih => exact ⟨fun h => by unfold ze3 zkP; exact go1⟩

instance (x_h : zLq) : T (zoR x_h) (Fm x_h.Fields) (fun r => True) := ⟨fun h => by unfold zoR; exact go1⟩

instance (x_h : zLq) : T (zmk x_h) (Fm x_h.Fields) (fun r => r = 0 → x_h.Fields.length ≤ 100) := ⟨fun h => by unfold zmk; exact go1⟩

instance (v1 : zLq) (l17 : List zLo) (i18 : Int) (n : Nat) (i19 : Int) : T (zh5 v1 l17 i18 n i19) (Fm l17 ∧ Fm v1.Fields ∧ i18 = l17.length ∧ 0 ≤ i19 ∧ i19 ≤ i18 ∧ i18 < i19 + n) (fun r => r = 0 → v1.Fields.length ≤ 100) := by
 induction n generalizing i19 with
 | zero => exact ⟨fun h => goz⟩
 | succ n ih => exact ⟨fun h => by unfold zh5; exact go1⟩

instance (x_h : zLq) : T (zml x_h) (Fm x_h.Fields ∧ x_h.Method.length ≤ 10000 ∧ x_h.Target.length ≤ 30000 ∧ x_h.Reason.length ≤ 10000 ∧ x_h.Code ≤ 1000 ∧ x_h.Minor ≤ 1000) (fun r => r = 0 → x_h.Fields.length ≤ 100) := ⟨fun h => by unfold zml; exact go1⟩

end Go.Dm
end
section
set_option linter.unusedVariables false
namespace Go.Dm
theorem lAt_a {α : Type} {l m : List α} {i : Int} (h : i < l.length) : lAt (l ++ m) i = lAt l i := by
 unfold lAt
 split
 ·rw [List.getElem?_append_left (by omega)]
 ·rfl
theorem lAt_e {α : Type} {l : List α} {x : α} {i : Int} (h : i = l.length) : lAt (l ++ [x]) i = some x := by
 unfold lAt
 rw [if_pos (by omega),List.getElem?_append_right (by omega)]
 simp [h]
def dq (l : List Str) (i : Int) : List Str := l.drop i.toNat
theorem dq_0 (l : List Str) : dq l 0 = l := rfl
theorem dq_c {l : List Str} {i : Int} {x : Str} (h0 : 0 ≤ i) (h : lAt l i = some x) : dq l i = x :: dq l (i + 1) := by
 unfold lAt at h
 rw [if_pos h0] at h
 obtain ⟨h1,h2⟩ := List.getElem?_eq_some_iff.1 h
 unfold dq
 rw [List.drop_eq_getElem_cons h1,h2]
 congr 2
 omega
theorem dq_e {l : List Str} {i : Int} (h : i = l.length) : dq l i = [] := by
 unfold dq; exact List.drop_eq_nil_of_le (by omega)
theorem dq_s {l : List Str} {i : Int} {x : Str} (h : lAt l i = some x) (h0 : 0 ≤ i) : sl (dq l i) = x.length + sl (dq l (i + 1)) := by rw [dq_c h0 h,zhp]
def Hd (h : zLq) : Prop := h.Fields.length ≤ 100 ∧ (∀ f ∈ h.Fields,f.Name.length ≤ 3000 ∧ f.Value.length ≤ 3000) ∧ h.Method.length ≤ 3000 ∧ h.Target.length ≤ 3000 ∧ h.Reason.length ≤ 3000 ∧ 0 ≤ h.Code ∧ h.Code ≤ 599 ∧ 0 ≤ h.Minor ∧ h.Minor ≤ 255
def Fr (a : zLC) : Prop := 0 ≤ a.zMk ∧ a.zMk ≤ a.zMb.length ∧ (a.zMk = 0 ∨ lAt a.zMb (a.zMk - 1) = some 10)
def Am (a : zLC) : Prop := a.zMb.length ≤ 3000 ∧ Hd a.zMD ∧ (a.zMK = 0 → a.f_whole = false → Fr a)
def oA : Option zLC → Prop
 | none => True
 | some a => Am a
def kb : Option zLC → Int
 | none => 0
 | some a => a.zMb.length
def Dn (d : zLp) : Prop := d.zMG.length ≤ 4098 ∧ 0 ≤ d.zMO ∧ d.zMO ≤ 1099511627776 ∧ 0 ≤ d.zMA ∧ d.zMA ≤ 70000 ∧ d.zMh ≤ 65536 ∧ d.zMj.length ≤ 100 ∧ ∀ f ∈ d.zMj,f.Name.length ≤ 4098 ∧ f.Value.length ≤ 4098
def Dg (d : zLp) : Prop := d.zMA ≤ d.zMh ∧ d.zL8 ≠ 4 ∧ (d.zL8 = 1 ∨ d.zL8 = 2 → 1 ≤ d.zMd ∧ d.zMd ≤ 1099511627776)
def Dm (d : zLp) : Prop := Dn d ∧ (d.zL8 = 4 ∨ Dg d)
def oD : Option zLp → Prop
 | none => True
 | some d => Dm d
def Bm (b : zL1) : Prop := oD b.Decoder ∧ 0 ≤ b.zMd ∧ b.zMd ≤ 1099511627776 ∧ (b.zMq.Kind = 2 → b.zMB = false → 1 ≤ b.zMd)
def oB : Option zL1 → Prop
 | none => True
 | some b => Bm b
def Em (c : zLA) : Prop := 1 ≤ c.zMJ ∧ c.zMJ ≤ 65536 ∧ c.zMb.length ≤ 65536
def oE : Option zLA → Prop
 | none => True
 | some c => Em c
def Ww (w : zLE) : Prop := oE w.Encoder ∧ w.zMd ≤ 1099511627776
def oW : Option zLE → Prop
 | none => True
 | some w => Ww w
def Tl (l : List zLo) : Prop := l.length ≤ 100 ∧ ∀ f ∈ l,f.Name.length ≤ 4098 ∧ f.Value.length ≤ 4098
def Sd (s : zLu) : Prop := oA s.Accum ∧ oB s.zMI ∧ oW s.zLI
def Qm (q : zLX) : Prop := q.zML.zMv.length ≤ 64 ∧ 1 ≤ q.zML.zLN ∧ q.zML.zLN ≤ 64
def oQ : Option zLX → Prop
 | none => True
 | some q => Qm q
def En (e : zLm) : Prop := e.Client.length ≤ 1000 ∧ e.Host.length ≤ 1000 ∧ e.Scheme.length ≤ 1000 ∧ e.By.length ≤ 1000 ∧ Swm e.Domains ∧ Swm e.Locations
def Ca (c : zMC) : Prop := c.Head ≤ 65536
def Rg (l : List zLr) : Prop := Rl l ∧ l.length ≤ 400
def Cd (c : Int) : Prop := c = 0 ∨ c = 400 ∨ c = 431
def Gw (g : zLk) : Prop := oQ g.Queue ∧ En g.zL2 ∧ Ca g.zLO ∧ Rg g.zLF ∧ Sd g.zLn ∧ Sd g.zLl ∧ Cd g.zLR
def kc (g : zLk) : Int := kb g.zLn.Accum
def ku (g : zLk) : Int := kb g.zLl.Accum
def tc (g : zLk) : Int := g.zLw.length
def tu (g : zLk) : Int := g.zLU.length
def kn : Option zLC → Nat
 | none => 0
 | some a => a.zMb.length
theorem kb_e (a : Option zLC) : kb a = (kn a : Int) := by cases a <;> rfl
def Rs1 (g r : zLk) : Prop := r.Queue = g.Queue ∧ r.zL2 = g.zL2 ∧ r.zLO = g.zLO ∧ r.zLF = g.zLF ∧ r.zLn = g.zLn ∧ r.zLl = g.zLl ∧ r.zLR = g.zLR ∧ r.zLt = g.zLt ∧ r.zLS = g.zLS ∧ r.zL3 = g.zL3 ∧ r.zLJ = g.zLJ ∧ r.zLQ = g.zLQ ∧ r.zLB = g.zLB ∧ r.zLv = g.zLv
def st (b : Bool) : Int := if b = true then 0 else 1
theorem goG {G : Prop} (h : G := by
 (with_reducible repeat' first | intro _ | refine And.intro ?_ ?_ | refine Wf ?_ ?_ | refine Wi ?_ ?_ | refine Ws ?_ | refine Wc ?_ ?_ | refine Wo ?_ ?_ | refine Wk ?_ | refine We ?_ ?_)
 all_goals (try simp only [List.length_cons,List.length_nil])
 all_goals grind (gen := 12) (ematch := 12) [lAt_a,lAt_e,dq_0, → dq_s,dq_e,Hd,Fr,Am,oA,kb, = kb_e,Dn,Dg,Dm,oD,Bm,oB,Em,oE,Ww,oW,Tl,fuel,zzg,zxc,zmb,zhp,zuL,Sm,Ss,Fv,Fm,Cw]) : G := h
theorem goH {G : Prop} (h : G := by
 (with_reducible repeat' first | intro _ | refine And.intro ?_ ?_ | refine Wf ?_ ?_ | refine Wi ?_ ?_ | refine Ws ?_ | refine Wc ?_ ?_ | refine Wo ?_ ?_ | refine Wk ?_ | refine We ?_ ?_)
 all_goals (try simp only [List.length_cons,List.length_nil])
 all_goals grind (gen := 8) (ematch := 8) [oA,kb, = kb_e,oB,oW,Sd,Qm,oQ,Gw,Cd,Ca,kc,ku,tc,tu,Rs1,st,fuel,zmb,zhp]) : G := h
def Gf (g : zLk) : Prop := Gw g ∧ kc g = 0 ∧ ku g = 0 ∧ tc g = 0 ∧ tu g = 0 ∧ g.zLv = false
def Nw : Option zLk × Int → Prop
 | (none,e) => e ≠ 0
 | (some g,_) => Gf g
theorem rtx {x : Option Str} (h : (match x with | some s => decide (s.length ≤ 1000) | none => false) = true) : W x (fun r => r.length ≤ 1000) := by
 cases x with
 | none => cases h
 | some s => exact ⟨s,rfl,by simpa using h⟩
theorem goF2 {G : Prop} (h : G := by
 (with_reducible repeat' first | intro _ | refine And.intro ?_ ?_ | refine Wf ?_ ?_ | refine Wi ?_ ?_ | refine Ws ?_ | refine Wc ?_ ?_ | refine Wo ?_ ?_ | refine Wk ?_ | refine We ?_ ?_)
 all_goals (try simp only [List.length_cons,List.length_nil])
 all_goals grind (gen := 8) (ematch := 8) [dq_0, → dq_s,dq_e,tc,tu,Rs1,fuel,zmb,zhp]) : G := h
theorem goJ {G : Prop} (h : G := by
 (with_reducible repeat' first | intro _ | refine And.intro ?_ ?_ | refine Wf ?_ ?_ | refine Wi ?_ ?_ | refine Ws ?_ | refine Wc ?_ ?_ | refine Wo ?_ ?_ | refine Wk ?_ | refine We ?_ ?_)
 all_goals (try simp only [List.length_cons,List.length_nil])
 all_goals grind (gen := 8) (ematch := 8) [oA,kb, = kb_e,oB,oW,Sd,oQ,Gw,Cd,kc,ku,tc,tu,Rs1,st,fuel,zmb,zhp]) : G := h
theorem goO {G : Prop} (h : G := by
 (with_reducible repeat' first | intro _ | refine And.intro ?_ ?_ | refine Wf ?_ ?_ | refine Wi ?_ ?_ | refine Ws ?_ | refine Wc ?_ ?_ | refine Wo ?_ ?_ | refine Wk ?_ | refine We ?_ ?_)
 all_goals (try simp only [List.length_cons,List.length_nil])
 all_goals grind (gen := 8) (ematch := 8) [Hd,En,Ca,Rg,Fm,Fv,oA,kb, = kb_e,oB,oW,Sd,oQ,Gw,Cd,kc,ku,tc,tu,Rs1,st,fuel,zmb,zhp]) : G := h
theorem goN2 {G : Prop} (h : G := by
 (with_reducible repeat' first | intro _ | refine And.intro ?_ ?_ | refine Wf ?_ ?_ | refine Wi ?_ ?_ | refine Ws ?_ | refine Wc ?_ ?_ | refine Wo ?_ ?_ | refine Wk ?_ | refine We ?_ ?_)
 all_goals (try simp only [List.length_cons,List.length_nil])
 all_goals grind (gen := 8) (ematch := 8) [Nw,Gf,Rm,Rl,Tp,Swm,Hd,En,Ca,Rg,Qm,oA,kb, = kb_e,oB,oW,Sd,oQ,Gw,Cd,kc,ku,tc,tu,Rs1,st,fuel,zmb,zhp,zxc]) : G := h
end Go.Dm
end
section
set_option linter.unusedVariables false
set_option maxRecDepth 10000
set_option maxHeartbeats 2000000
namespace Go.Dm
instance (x_size : Int) : T (ziR x_size) (True) (fun r => oE r.1) := ⟨fun h => by unfold ziR; exact goG⟩

instance (x_most : Int) : T (zmZ x_most) (True) (fun r => oQ r.1) := ⟨fun h => by unfold zmZ; exact goH⟩

end Go.Dm
end
section
set_option linter.unusedVariables false
set_option maxRecDepth 10000
set_option maxHeartbeats 2000000
namespace Go.Dm
instance (x_kind : Int) (x_limit : Int) : T (zrK x_kind x_limit) (True) (fun r => oA r.1 ∧ kb r.1 = 0) := ⟨fun h => by unfold zrK zfS; exact goG⟩

instance (x_kind : Int) (x_limit : Int) : T (zdL x_kind x_limit) (True) (fun r => Sd r ∧ kb r.Accum = 0) := ⟨fun h => by unfold zdL; exact goH⟩

instance (v4 : zMC) (l72 : List zLr) (i73 : Int) (n : Nat) (v15 : zLk) (i74 : Int) : T (zg5 v4 l72 i73 n v15 i74) (l72.length ≤ 400 ∧ (∀ r ∈ l72,Rm r) ∧ i73 = l72.length ∧ 0 ≤ i74 ∧ i74 ≤ i73 ∧ i73 < i74 + n ∧ v15.zLF.length ≤ i74 ∧ (∀ r ∈ v15.zLF,Rm r) ∧ oQ v15.Queue ∧ En v15.zL2 ∧ Ca v15.zLO ∧ v15.zLR = 0 ∧ tc v15 = 0 ∧ tu v15 = 0 ∧ v15.zLv = false) (fun r => Nw r) := by
 induction n generalizing v15 i74 with
 | zero => exact ⟨fun h => goz⟩
 | succ n ih => exact ⟨fun h => by unfold zg5; exact goN2⟩

instance (x_a0 : zLm) (x_a1 : zMC) (x_a2 : List zLr) : T (zk2 x_a0 x_a1 x_a2) (En x_a0 ∧ x_a2.length ≤ 400 ∧ ∀ r ∈ x_a2,Rm r) (fun r => Nw r) := ⟨fun h => by unfold zk2 zjs zjr; exact goN2⟩

end Go.Dm
end
section
set_option linter.unusedVariables false
set_option maxRecDepth 10000
set_option maxHeartbeats 2000000
namespace Go.Dm
instance (x_g : zLk) : T (zp x_g) (True) (fun r => r = x_g.zLv) := ⟨fun h => by unfold zp; exact go⟩

instance  : T (zgI) (True) (fun r => True) := ⟨fun h => by unfold zgI; exact go⟩

instance (x_a : zLC) : T (zfa x_a) (True) (fun r => True) := ⟨fun h => by unfold zfa; exact go⟩

instance (x_s : zLu) : T (zgJ x_s) (True) (fun r => True) := ⟨fun h => by unfold zgJ; exact go⟩

instance  : T (zfT) (True) (fun r => True) := ⟨fun h => by unfold zfT; exact go⟩

instance (x_r : zMl) : T (zhu x_r) (x_r.zLN ≤ 64 ∧ x_r.zMv.length ≤ 64 ∧ 0 ≤ x_r.zLN) (fun r => True) := ⟨fun h => by unfold zhu; exact go⟩

instance (x_q : zLX) : T (zeB x_q) (Qm x_q) (fun r => True) := ⟨fun h => by unfold zeB; exact goH⟩

instance (x_g : zLk) : T (zef x_g) (Gw x_g) (fun r => r = true → x_g.zLv = false ∧ x_g.zLt = false) := ⟨fun h => by unfold zef; exact goH⟩

instance (x_a1 : Str) : T (zfs x_a1) (True) (fun r => r.1 = 0 ∧ r.2.1 = false ∧ r.2.2 = 5) := ⟨fun h => by unfold zfs; exact go⟩

instance (x_e : Int) : T (zoI x_e) (True) (fun r => Cd r) := ⟨fun h => by unfold zoI; exact goH⟩

instance  : T (zdO) (True) (fun r => Hd r.1) := ⟨fun h => by unfold zdO; exact goG⟩

end Go.Dm
end
section
set_option linter.unusedVariables false
set_option maxRecDepth 10000
set_option maxHeartbeats 2000000
namespace Go.Dm
instance (x_most : Int) : T (zrP x_most) (True) (fun r => r.zMR = [] ∧ r.zLN = max x_most 0) := ⟨fun h => by unfold zrP; exact go⟩

instance (x_q : zMa) : T (zhG x_q) (0 ≤ x_q.zLN ∧ x_q.zLN ≤ 65536 ∧ x_q.zMR.length ≤ x_q.zLN) (fun r => r = x_q.zLN - x_q.zMR.length) := ⟨fun h => by unfold zhG; exact go⟩

instance (l29 : List Str) (i30 : Int) (n : Nat) (vp0 : zMa) (i31 : Int) : T (zcX l29 i30 n vp0 i31) (i30 = l29.length ∧ 0 ≤ i31 ∧ i31 ≤ i30 ∧ i30 < i31 + n ∧ l29.length ≤ 1000 ∧ vp0.zMR.length + sl (dq l29 i31) ≤ 65536) (fun r => r.2.zLN = vp0.zLN ∧ r.2.zMR.length = vp0.zMR.length + sl (dq l29 i31)) := by
 induction n generalizing vp0 i31 with
 | zero => exact ⟨fun h => goz⟩
 | succ n ih => exact ⟨fun h => by unfold zcX; exact goG⟩

instance (vp0 : zMa) (l1 : List Str) (l14 : List Str) (i15 : Int) (n : Nat) (i5 : Int) (i16 : Int) : T (zcY vp0 l1 l14 i15 n i5 i16) (l14 = l1 ∧ i15 = l14.length ∧ 0 ≤ i16 ∧ i16 ≤ i15 ∧ i15 < i16 + n ∧ l1.length ≤ 1000 ∧ vp0.zLN ≤ 65536 ∧ 0 ≤ i5 ∧ i5 ≤ 65536 ∧ vp0.zMR.length + sl l1 = vp0.zLN - i5 + sl (dq l14 i16) ∧ vp0.zMR.length ≤ vp0.zLN) (fun r => r.2.zLN = vp0.zLN ∧ r.2.zMR.length ≤ vp0.zLN) := by
 induction n generalizing i5 i16 with
 | zero => exact ⟨fun h => goz⟩
 | succ n ih => exact ⟨fun h => by unfold zcY; exact goG⟩

instance (x_q : zMa) (x_l : List Str) : T (zgO x_q x_l) (0 ≤ x_q.zLN ∧ x_q.zLN ≤ 65536 ∧ x_q.zMR.length ≤ x_q.zLN ∧ x_l.length ≤ 1000) (fun r => r.2.zLN = x_q.zLN ∧ r.2.zMR.length ≤ x_q.zLN) := ⟨fun h => by unfold zgO; exact goG⟩

instance (x_q : zMa) (x_l : List Str) : T (zfY x_q x_l) (0 ≤ x_q.zLN ∧ x_q.zLN ≤ 65536 ∧ x_q.zMR.length ≤ x_q.zLN ∧ x_l.length ≤ 100) (fun r => r.2.zLN = x_q.zLN ∧ r.2.zMR.length ≤ x_q.zLN) := ⟨fun h => by unfold zfY; exact goG⟩

instance (x_p : zMx) (x_s : Str) : T (zb7 x_p x_s) (0 ≤ x_p.Quill.zLN ∧ x_p.Quill.zLN ≤ 65536 ∧ x_p.Quill.zMR.length ≤ x_p.Quill.zLN) (fun r => r.Quill.zLN = x_p.Quill.zLN ∧ r.Quill.zMR.length ≤ x_p.Quill.zLN) := ⟨fun h => by unfold zb7; exact goG⟩

instance (x_f : zLo) : T (zhc x_f) (x_f.Name.length ≤ 100000000 ∧ x_f.Value.length ≤ 100000000) (fun r => r.1.length ≤ x_f.Name.length + x_f.Value.length + 2) := ⟨fun h => by unfold zhc; exact go⟩

instance (x_q : zMa) : T (zhH x_q) (True) (fun r => r = x_q.zMR) := ⟨fun h => by unfold zhH; exact go⟩

instance (l32 : List zLo) (i33 : Int) (n : Nat) (v7 : zMx) (i34 : Int) : T (zh6 l32 i33 n v7 i34) (Fm l32 ∧ i33 = l32.length ∧ 0 ≤ i34 ∧ i34 ≤ i33 ∧ i33 < i34 + n ∧ 0 ≤ v7.Quill.zLN ∧ v7.Quill.zLN ≤ 65536 ∧ v7.Quill.zMR.length ≤ v7.Quill.zLN) (fun r => r.1.length ≤ 65536) := by
 induction n generalizing v7 i34 with
 | zero => exact ⟨fun h => goz⟩
 | succ n ih => exact ⟨fun h => by unfold zh6; exact goG⟩

instance (x_h : zLq) (x_limit : Int) : T (ziK x_h x_limit) (Fm x_h.Fields ∧ x_h.Method.length ≤ 10000 ∧ x_h.Target.length ≤ 30000 ∧ x_h.Reason.length ≤ 10000 ∧ x_h.Code ≤ 1000 ∧ x_h.Minor ≤ 1000 ∧ x_limit ≤ 65536) (fun r => r.1.length ≤ 65536) := ⟨fun h => by unfold ziK; exact goG⟩

end Go.Dm
end
section
set_option linter.unusedVariables false
set_option maxRecDepth 10000
set_option maxHeartbeats 2000000
namespace Go.Dm
instance (x_g : zLk) (x_h : zLq) : T (zdC x_g x_h) (Gw x_g ∧ Hd x_h) (fun r => r.1.length ≤ 65536 ∧ 0 ≤ r.2.1.N ∧ r.2.1.N ≤ 1099511627776) := ⟨fun h => by unfold zdC; exact goO⟩

instance (x_limit : Int) : T (znd x_limit) (True) (fun r => oD r.1) := ⟨fun h => by unfold znd; exact goG⟩

instance (x_a0 : zLy) (x_a1 : Int) : T (zqF x_a0 x_a1) (True) (fun r => oB r.1) := ⟨fun h => by unfold zqF znf zne zk8; exact goG⟩

instance (x_a : zLC) : T (zcB x_a) (Am x_a) (fun r => Hd r.1) := ⟨fun h => by unfold zcB; exact goG⟩

instance (x_a1 : Str) : T (zhd x_a1) (True) (fun r => r.1 = 0 ∧ r.2.1.length = 0 ∧ r.2.2.1 = false ∧ r.2.2.2 = 5) := ⟨fun h => by unfold zhd; exact go⟩

instance  : T (zcZ) (True) (fun r => r = 5) := ⟨fun h => by unfold zcZ; exact go⟩

instance (x_s : Str) : T (zd2 x_s) (True) (fun r => r.1.length = 0) := ⟨fun h => by unfold zd2; exact go⟩

instance  : T (zbx) (True) (fun r => Tl r) := ⟨fun h => by unfold zbx; exact goG⟩

instance (x_trailers : List zLo) : T (zby x_trailers) (True) (fun r => r.1.length = 0) := ⟨fun h => by unfold zby; exact go⟩

end Go.Dm
end
section
set_option linter.unusedVariables false
set_option maxRecDepth 10000
set_option maxHeartbeats 2000000
namespace Go.Dm
instance {P : Bool → Prop} (k0 : Int → Option Bool) (s0 : Str) (i13 : Int) (l23 : List Str) (i24 : Int) (n : Nat) (i25 : Int) : K (zh7 k0 s0 i13 l23 i24 n i25) P ((Sm l23 ∧ i24 = l23.length ∧ 0 ≤ i25 ∧ i25 ≤ i24 ∧ i24 < i25 + n ∧ s0.length < 1000000 ∧ l23.length ≤ 4000000000000 ∧ 0 ≤ i13 ∧ i13 ≤ 10000 ∧ P true) ∧ (∀ i,i = i13 + 1 → W (k0 i) P)) := by
 induction n generalizing i25 with
 | zero => exact ⟨fun h => goz⟩
 | succ n ih => exact ⟨fun ⟨h,hk0⟩ => by have hk0 := fun a0 => K.mk (hk0 a0); unfold zh7; exact go⟩

instance (s0 : Str) (l11 : List Str) (i12 : Int) (n : Nat) (i13 : Int) : T (zgD s0 l11 i12 n i13) (Ss l11 ∧ i12 = l11.length ∧ 0 ≤ i13 ∧ i13 ≤ i12 ∧ i12 < i13 + n ∧ s0.length < 1000000) (fun r => True) := by
 induction n generalizing i13 with
 | zero => exact ⟨fun h => goz⟩
 | succ n ih => exact ⟨fun h => by unfold zgD; exact go⟩

instance (x_token : Str) (x_l : List Str) : T (zmm x_token x_l) (Ss x_l ∧ x_token.length < 1000000) (fun r => True) := ⟨fun h => by unfold zmm; exact go⟩

instance (x_h : zLq) : T (znY x_h) (Fm x_h.Fields) (fun r => True) := ⟨fun h => by unfold znY; exact go⟩

instance (x_h : zLq) : T (zoS x_h) (Fm x_h.Fields) (fun r => True) := ⟨fun h => by unfold zoS; exact go⟩

instance (x_l : List zLz) : T (zfZ x_l) (True) (fun r => True) := ⟨fun h => by unfold zfZ; exact go⟩

instance (x_t : zLz) : T (zix x_t) (True) (fun r => True) := ⟨fun h => by unfold zix; exact go⟩

instance (l0 : List zLz) (i7 : Int) (n : Nat) (i8 : Int) : T (zA l0 i7 n i8) (i7 = l0.length ∧ 0 ≤ i8 ∧ i8 ≤ i7 ∧ i7 < i8 + n ∧ l0.length ≤ 1000) (fun r => -1 ≤ r ∧ r < l0.length) := by
 induction n generalizing i8 with
 | zero => exact ⟨fun h => goz⟩
 | succ n ih => exact ⟨fun h => by unfold zA; exact go⟩

instance (x_s : List zLz) : T (zI x_s) (x_s.length ≤ 1000) (fun r => -1 ≤ r ∧ r < x_s.length) := ⟨fun h => by unfold zI; exact go⟩

instance (x_l : List zLz) : T (zkQ x_l) (x_l.length ≤ 1000) (fun r => True) := ⟨fun h => by unfold zkQ; exact go⟩

instance  : T (zcN) (True) (fun r => Tl r) := ⟨fun h => by unfold zcN; exact goG⟩

instance (x_d : zLp) : T (zbR x_d) (Dm x_d) (fun r => Tl r) := ⟨fun h => by unfold zbR; exact goG⟩

instance (x_b : zL1) : T (zaV x_b) (Bm x_b) (fun r => Tl r) := ⟨fun h => by unfold zaV; exact goG⟩

instance (x_w : zLE) : T (zbS x_w) (True) (fun r => r = 0 ∨ r = 8) := ⟨fun h => by unfold zbS; exact go⟩

instance  : T (zcp) (True) (fun r => r = 5) := ⟨fun h => by unfold zcp; exact go⟩

instance (l0 : List zLo) (l10 : List zLo) (i11 : Int) (n : Nat) (l4 : List Str) (i12 : Int) : T (zeF l0 l10 i11 n l4 i12) (Tl l0 ∧ Tl l10 ∧ i11 = l10.length ∧ 0 ≤ i12 ∧ i12 ≤ i11 ∧ i11 < i12 + n ∧ l4.length ≤ i12 + 1 ∧ sl l4 ≤ 10000 * i12 + 1) (fun r => r.1.length ≤ 1100000) := by
 induction n generalizing l4 i12 with
 | zero => exact ⟨fun h => goz⟩
 | succ n ih => exact ⟨fun h => by unfold zeF; exact goG⟩

instance (x_trailers : List zLo) : T (zd3 x_trailers) (Tl x_trailers) (fun r => r.1.length ≤ 1100000) := ⟨fun h => by unfold zd3; exact goG⟩

instance (x_trailers : List zLo) : T (zfe x_trailers) (Tl x_trailers) (fun r => r.1.length = 0) := ⟨fun h => by unfold zfe; exact goG⟩

instance (x_c : zLA) : T (zbG x_c) (True) (fun r => r = 0 ∨ r = 8) := ⟨fun h => by unfold zbG; exact go⟩

instance (x_n : Int) : T (ziy x_n) (x_n < 1048576) (fun r => r.length ≤ 21) := ⟨fun h => by unfold ziy; exact go⟩

instance (x_n : Int) : T (zjD x_n) (x_n < 1048576) (fun r => r.length ≤ 21) := ⟨fun h => by unfold zjD; exact go⟩

instance (x_data : Str) : T (zdo x_data) (x_data.length < 1000000) (fun r => r.length ≤ x_data.length + 60) := ⟨fun h => by unfold zdo; exact go⟩

instance (x_s : Str) : T (zff x_s) (True) (fun r => r.1.length = 0) := ⟨fun h => by unfold zff; exact go⟩

instance (x_s : Str) : T (zeG x_s) (True) (fun r => r.1 = 0 ∧ r.2.1.length = 0 ∧ r.2.2.1 = false ∧ r.2.2.2 = 5) := ⟨fun h => by unfold zeG; exact go⟩

instance  : T (zeH) (True) (fun r => r = 0) := ⟨fun h => by unfold zeH; exact go⟩

instance (x_code : Int) : T (zoT x_code) (True) (fun r => True) := ⟨fun h => by unfold zoT; exact go⟩

instance (x_method : Str) (x_code : Int) : T (ziz x_method x_code) (True) (fun r => True) := ⟨fun h => by unfold ziz; exact go2⟩

instance (x_method : Str) (x_h : zLq) : T (zgs x_method x_h) (Fm x_h.Fields) (fun r => 0 ≤ r.1.N ∧ r.1.N ≤ 1099511627776) := ⟨fun h => by unfold zgs; exact go2⟩

end Go.Dm
end
section
set_option linter.unusedVariables false
set_option maxRecDepth 10000
set_option maxHeartbeats 2000000
namespace Go.Dm
set_option maxRecDepth 100000 in
instance (x_code : Int) : T (zs1 x_code) (x_code = 400 ∨ x_code = 431 ∨ x_code = 502) (fun r => r.length ≤ 1000) := ⟨fun h => by
 rcases h with rfl | rfl | rfl
 ·exact rtx (by decide +kernel)
 ·exact rtx (by decide +kernel)
 ·exact rtx (by decide +kernel)⟩

instance (x_q : zLX) : T (zds x_q) (True) (fun r => r = x_q.zML.zMv.length) := ⟨fun h => by unfold zds; exact go⟩

instance (x_g : zLk) (x_e : Int) : T (zaJ x_g x_e) (Gw x_g) (fun r => Gw r ∧ kc r = 0 ∧ ku r = ku x_g ∧ tc r = tc x_g ∧ tu r = tu x_g ∧ r.zLt = true) := ⟨fun h => by unfold zaJ; exact goH⟩

instance (l6 : List Str) (i7 : Int) (n : Nat) (vp0 : zLk) (i8 : Int) : T (zay l6 i7 n vp0 i8) (i7 = l6.length ∧ l6.length ≤ 1000 ∧ 0 ≤ i8 ∧ i8 ≤ i7 ∧ i7 < i8 + n ∧ tu vp0 + sl (dq l6 i8) ≤ 100000000000000) (fun r => Rs1 vp0 r ∧ tc r = tc vp0 ∧ tu r = tu vp0 + sl (dq l6 i8)) := by
 induction n generalizing vp0 i8 with
 | zero => exact ⟨fun h => goz⟩
 | succ n ih => exact ⟨fun h => by unfold zay; exact goF2⟩

end Go.Dm
end
section
set_option linter.unusedVariables false
set_option maxRecDepth 10000
set_option maxHeartbeats 2000000
namespace Go.Dm
instance (x_g : zLk) (x_l : List Str) : T (zau x_g x_l) (x_l.length ≤ 1000 ∧ tu x_g + sl x_l ≤ 100000000000000) (fun r => Rs1 x_g r ∧ tc r = tc x_g ∧ tu r = tu x_g + sl x_l) := ⟨fun h => by unfold zau; exact goF2⟩

instance (x_f : zLy) (x_size : Int) : T (zk9 x_f x_size) (x_f.N ≤ 1099511627776) (fun r => oW r.1) := ⟨fun h => by unfold zk9 zjE; exact goG⟩

instance  : T (zhe) (True) (fun r => True) := ⟨fun h => by unfold zhe; exact go⟩

instance (x_q : zLX) (x_l : List zLz) : T (zeI x_q x_l) (Qm x_q ∧ x_l.length ≤ 1) (fun r => Qm r.2) := ⟨fun h => by unfold zeI zc6; exact goH⟩

instance (x_c : zLA) (x_trailers : List zLo) : T (zej x_c x_trailers) (Em x_c ∧ Tl x_trailers) (fun r => r.1.length ≤ 1200000 ∧ Em r.2.2) := ⟨fun h => by unfold zej; exact goG⟩

instance (x_w : zLE) (x_trailers : List zLo) : T (zaW x_w x_trailers) (Ww x_w ∧ Tl x_trailers) (fun r => r.1.length ≤ 1200000 ∧ Ww r.2.2) := ⟨fun h => by unfold zaW zaT; exact goG⟩

instance (vp0 : zLk) (v6 : zLz) : T (zaX vp0 v6) (Gw vp0) (fun r => Gw r ∧ kc r = 0 ∧ ku r = ku vp0 ∧ tc r = tc vp0 ∧ tu r = tu vp0) := ⟨fun h => by unfold zaX; exact goH⟩

instance (vp0 : zLk) (v4 : zLq) : T (zaY vp0 v4) (Gw vp0 ∧ Hd v4) (fun r => Gw r ∧ kc r = 0 ∧ ku r = ku vp0 ∧ tc r = tc vp0 ∧ tu r = tu vp0) := ⟨fun h => by unfold zaY; exact goO⟩

instance (vp0 : zLk) (s2 : Str) : T (zX vp0 s2) (Gw vp0 ∧ s2.length ≤ 1200000 ∧ tu vp0 ≤ 50000000000000) (fun r => Gw r ∧ kc r = 0 ∧ ku r = ku vp0 ∧ tc r = tc vp0 ∧ tu r ≤ tu vp0 + 1200000) := ⟨fun h => by unfold zX; exact goJ⟩

instance (x_g : zLk) : T (zbH x_g) (Gw x_g ∧ tu x_g ≤ 50000000000000) (fun r => Gw r ∧ kc r = 0 ∧ ku r = ku x_g ∧ tc r = tc x_g ∧ tu r ≤ tu x_g + 1200000) := ⟨fun h => by unfold zbH; exact goJ⟩

instance (x_b : zL1) : T (zfw x_b) (True) (fun r => True) := ⟨fun h => by unfold zfw; exact go⟩

instance (vp0 : zLk) (t65 : Bool) : T (zaZ vp0 t65) (Gw vp0 ∧ tu vp0 ≤ 50000000000000) (fun r => Gw r ∧ kc r ≤ kc vp0 ∧ ku r = ku vp0 ∧ tc r = tc vp0 ∧ tu r ≤ tu vp0 + 1200000) := ⟨fun h => by unfold zaZ; exact goJ⟩

instance (vp0 : zLk) : T (za0 vp0) (Gw vp0 ∧ tu vp0 ≤ 50000000000000) (fun r => Gw r ∧ kc r ≤ kc vp0 ∧ ku r = ku vp0 ∧ tc r = tc vp0 ∧ tu r ≤ tu vp0 + 1200000) := ⟨fun h => by unfold za0; exact goJ⟩

instance (vp0 : zLk) (v5 : zLy) : T (za1 vp0 v5) (Gw vp0 ∧ v5.N ≤ 1099511627776 ∧ tu vp0 ≤ 50000000000000) (fun r => Gw r ∧ kc r ≤ kc vp0 ∧ ku r = ku vp0 ∧ tc r = tc vp0 ∧ tu r ≤ tu vp0 + 1200000) := ⟨fun h => by unfold za1; exact goJ⟩

instance (vp0 : zLk) (v2 : zLq) : T (za2 vp0 v2) (Gw vp0 ∧ Hd v2 ∧ tu vp0 ≤ 40000000000000) (fun r => Gw r ∧ kc r ≤ kc vp0 ∧ ku r = ku vp0 ∧ tc r = tc vp0 ∧ tu r ≤ tu vp0 + 1300000) := ⟨fun h => by unfold za2; exact goJ⟩

instance (x_a0 : zLk) : T (zc7 x_a0) (Gw x_a0 ∧ tu x_a0 ≤ 40000000000000) (fun r => Gw r ∧ kc r ≤ kc x_a0 ∧ ku r = ku x_a0 ∧ tc r = tc x_a0 ∧ tu r ≤ tu x_a0 + 1300000) := ⟨fun h => by unfold zc7; exact goJ⟩

end Go.Dm
end
section
set_option linter.unusedVariables false
set_option maxRecDepth 10000
set_option maxHeartbeats 2000000
namespace Go.Dm
instance (x_a : zLC) : T (zhI x_a) (1 ≤ x_a.zMb.length ∧ x_a.zMb.length ≤ 1000000) (fun r => r = false → lAt x_a.zMb (x_a.zMb.length - 1) = some 10 → 1 < x_a.zMb.length ∧ lAt x_a.zMb (x_a.zMb.length - 2) = some 13) := ⟨fun h => by unfold zhI zfg; exact goG⟩

instance (x_c : zLs) : T (zcq x_c) (Cw x_c) (fun r => Cw r.2 ∧ r.2.zMz = x_c.zMz ∧ x_c.zL8 ≤ r.2.zL8 ∧ r.1.length ≤ x_c.zMz.length) := ⟨fun h => by unfold zcq; exact go⟩

instance (x_s : Str) : T (zex x_s) (x_s.length ≤ 10000) (fun r => r.1.Name.length ≤ x_s.length ∧ r.1.Value.length ≤ x_s.length) := ⟨fun h => by unfold zex; exact go⟩

instance (l64 : List Str) (i65 : Int) (n : Nat) (v12 : zLq) (i66 : Int) : T (zh8 l64 i65 n v12 i66) (l64.length ≤ 9000 ∧ (∀ s ∈ l64,s.length ≤ 3000) ∧ i65 = l64.length ∧ 0 ≤ i66 ∧ i66 ≤ i65 ∧ i65 < i66 + n ∧ v12.Fields.length ≤ i66 ∧ (∀ f ∈ v12.Fields,f.Name.length ≤ 3000 ∧ f.Value.length ≤ 3000) ∧ v12.Method.length ≤ 3000 ∧ v12.Target.length ≤ 3000 ∧ v12.Reason.length ≤ 3000 ∧ 0 ≤ v12.Code ∧ v12.Code ≤ 599 ∧ 0 ≤ v12.Minor ∧ v12.Minor ≤ 255) (fun r => Hd r.1) := by
 induction n generalizing v12 i66 with
 | zero => exact ⟨fun h => goz⟩
 | succ n ih => exact ⟨fun h => by unfold zh8; exact goG⟩

instance (x_a0 : Int) (x_a1 : Str) (x_a2 : Int) : T (zoU x_a0 x_a1 x_a2) (x_a1.length ≤ 3000) (fun r => Hd r.1) := ⟨fun h => by unfold zoU; exact goG⟩

instance (x_a : zLC) (x_s : Str) : T (zf0 x_a x_s) (x_a.zMb.length ≤ 3000 ∧ x_s.length ≤ 3000 ∧ Hd x_a.zMD) (fun r => r.2.2.zMb = x_a.zMb ∧ Hd r.2.2.zMD ∧ (r.1 = false → r.2.1 = 0 → r.2.2.zMk = x_a.zMb.length)) := ⟨fun h => by unfold zf0 zek; exact goG⟩

instance (x_a : zLC) (x_b : UInt8) : T (zf1 x_a x_b) (x_a.zMb.length < 3000 ∧ Hd x_a.zMD ∧ Fr x_a) (fun r => r.2.2.zMb.length ≤ x_a.zMb.length + 1 ∧ Hd r.2.2.zMD ∧ (r.1 = false → r.2.1 = 0 → Fr r.2.2)) := ⟨fun h => by unfold zf1; exact goG⟩

instance (s1 : Str) (i24 : Int) (n : Nat) (vp0 : zLC) (i25 : Int) : T (zaK s1 i24 n vp0 i25) (i24 = s1.length ∧ s1.length ≤ 3000 ∧ 0 ≤ i25 ∧ i25 ≤ i24 ∧ i24 < i25 + n ∧ vp0.zMb.length + (i24 - i25) ≤ 3000 ∧ Hd vp0.zMD ∧ Fr vp0 ∧ vp0.zMK = 0 ∧ vp0.f_whole = false) (fun r => Am r.2.2.2 ∧ i25 ≤ r.1 ∧ r.1 ≤ i24 ∧ (i25 < i24 → i25 < r.1) ∧ r.2.2.2.zMb.length ≤ vp0.zMb.length + (r.1 - i25)) := by
 induction n generalizing vp0 i25 with
 | zero => exact ⟨fun h => goz⟩
 | succ n ih => exact ⟨fun h => by unfold zaK zel; exact goG⟩

instance (x_a0 : zLC) (x_a1 : Str) : T (zd4 x_a0 x_a1) (Am x_a0 ∧ x_a0.zMb.length + x_a1.length ≤ 3000) (fun r => Am r.2.2.2 ∧ 0 ≤ r.1 ∧ r.1 ≤ x_a1.length ∧ (r.1 = 0 → x_a1.length = 0 ∨ r.2.2.1 ≠ 0) ∧ r.2.2.2.zMb.length ≤ x_a0.zMb.length + r.1) := ⟨fun h => by unfold zd4; exact goG⟩

instance  (n : Nat) (vp0 : zLA) (l7 : List Str) : T (zbn n vp0 l7) (1 ≤ vp0.zMJ ∧ vp0.zMJ ≤ 65536 ∧ vp0.zMb.length ≤ 70000 ∧ vp0.zMb.length < n ∧ l7.length + vp0.zMb.length ≤ 70000 ∧ sl l7 + 70 * vp0.zMb.length ≤ 4900000) (fun r => r.1.length ≤ 7000000 ∧ Em r.2.2) := by
 induction n generalizing vp0 l7 with
 | zero => exact ⟨fun h => goz⟩
 | succ n ih => exact ⟨fun h => by unfold zbn; exact goG⟩

instance (x_c : zLA) (x_s : Str) : T (zem x_c x_s) (Em x_c ∧ x_s.length ≤ 3000) (fun r => r.1.length ≤ 7000000 ∧ Em r.2.2) := ⟨fun h => by unfold zem; exact goG⟩

instance (x_w : zLE) (x_s : Str) : T (zc0 x_w x_s) (Ww x_w ∧ x_s.length ≤ 3000) (fun r => r.1.length ≤ 7000000 ∧ Ww r.2.2) := ⟨fun h => by unfold zc0 zc8 zda zc9; exact goG⟩

end Go.Dm
end
section
set_option linter.unusedVariables false
set_option maxRecDepth 10000
set_option maxHeartbeats 2000000
namespace Go.Dm
instance (x_d : zLp) (x_s : Str) : T (zdD x_d x_s) (Dn x_d ∧ Dg x_d ∧ x_d.zL8 = 1 ∧ 1 ≤ x_s.length ∧ x_s.length ≤ 3000) (fun r => Dn r.2 ∧ Dg r.2 ∧ 1 ≤ r.1.length ∧ r.1.length ≤ x_s.length) := ⟨fun h => by unfold zdD zcf; exact goG⟩

instance (x_d : zLp) (x_b : UInt8) : T (zdb x_d x_b) (Dn x_d ∧ Dg x_d ∧ x_d.zL8 = 2) (fun r => Dn r.2 ∧ (r.1 = 0 → Dg r.2)) := ⟨fun h => by unfold zdb zbU zbT; exact goG⟩

instance (x_s : Str) (x_most : Int) : T (zng x_s x_most) (x_s.length < 1000000000 ∧ 0 ≤ x_most ∧ x_most ≤ 9223372036854775807) (fun r => 0 ≤ r.1 ∧ r.1 ≤ x_most) := ⟨fun h => by unfold zng; exact go⟩

instance (x_c : zLs) : T (zkR x_c) (Cw x_c) (fun r => Cw r.2.2 ∧ r.2.2.zMz = x_c.zMz ∧ x_c.zL8 ≤ r.2.2.zL8) := ⟨fun h => by unfold zkR; exact go⟩

instance (x_r : zMm) : T (zeJ x_r) (Cw x_r.Scanner) (fun r => Cw r.2.2 ∧ r.2.2.zMz = x_r.Scanner.zMz ∧ x_r.Scanner.zL8 ≤ r.2.2.zL8) := ⟨fun h => by unfold zeJ; exact go⟩

instance (i7 : Int) (i8 : Int) (n : Nat) (v5 : zMm) (l9 : List zL4) : T (zd5 i7 i8 n v5 l9) (Cw v5.Scanner ∧ v5.Scanner.zMz.length < v5.Scanner.zL8 + n ∧ l9.length ≤ v5.Scanner.zL8 ∧ 0 ≤ i7 ∧ i7 ≤ 1099511627776 ∧ v5.Scanner.zMz.length ≤ 1000000) (fun r => 0 ≤ r.1 ∧ r.1 ≤ 1099511627776) := by
 induction n generalizing v5 l9 with
 | zero => exact ⟨fun h => goz⟩
 | succ n ih => exact ⟨fun h => by unfold zd5; exact go⟩

instance (x_s : Str) : T (ziA x_s) (x_s.length ≤ 1000000) (fun r => 0 ≤ r.1 ∧ r.1 ≤ 1099511627776) := ⟨fun h => by unfold ziA; exact go⟩

instance (x_d : zLp) (x_s : Str) : T (zdE x_d x_s) (Dn x_d ∧ Dg x_d ∧ x_s.length ≤ 5000 ∧ x_d.zL8 = 0) (fun r => Dn r.2 ∧ (r.1 = 0 → Dg r.2)) := ⟨fun h => by unfold zdE; exact goG⟩

instance (x_d : zLp) (x_s : Str) : T (zcg x_d x_s) (Dn x_d ∧ x_s.length ≤ 4098) (fun r => Dn r.2.2 ∧ r.2.2.zL8 = x_d.zL8 ∧ r.2.2.zMA = x_d.zMA ∧ r.2.2.zMh = x_d.zMh ∧ r.2.2.zMd = x_d.zMd) := ⟨fun h => by unfold zcg; exact goG⟩

instance (x_a0 : zLp) (x_a1 : UInt8) : T (zdc x_a0 x_a1) (Dn x_a0 ∧ Dg x_a0 ∧ x_a0.zL8 ≠ 1 ∧ x_a0.zL8 ≠ 2) (fun r => Dn r.2.2 ∧ (r.1 = false → r.2.1 = 0 → Dg r.2.2)) := ⟨fun h => by unfold zdc zbX zbW zbV; exact goG⟩

instance (x_d : zLp) (x_s : Str) : T (zdF x_d x_s) (Dn x_d ∧ Dg x_d ∧ 1 ≤ x_s.length ∧ x_s.length ≤ 3000) (fun r => 1 ≤ r.1 ∧ r.1 ≤ x_s.length ∧ r.2.1.length ≤ r.1 ∧ Dn r.2.2.2.2 ∧ (r.2.2.1 = false → r.2.2.2.1 = 0 → Dg r.2.2.2.2)) := ⟨fun h => by unfold zdF; exact goG⟩

instance (s1 : Str) (n : Nat) (vp0 : zLp) (i4 : Int) (t6 : Bool) (i7 : Int) (l8 : List UInt8) : T (zQ s1 n vp0 i4 t6 i7 l8) (0 ≤ i4 ∧ i4 ≤ s1.length ∧ s1.length < i4 + n ∧ s1.length ≤ 3000 ∧ l8.length ≤ i4 ∧ Dn vp0 ∧ (t6 = false → i7 = 0 → Dg vp0)) (fun r => i4 ≤ r.1 ∧ r.1 ≤ s1.length ∧ r.2.1.length ≤ r.1 ∧ Dm r.2.2.2.2 ∧ (t6 = false → i7 = 0 → i4 < s1.length → i4 < r.1)) := by
 induction n generalizing vp0 i4 t6 i7 l8 with
 | zero => exact ⟨fun h => goz⟩
 | succ n ih => exact ⟨fun h => by unfold zQ zbd zci zch; exact goG⟩

instance (x_d : zLp) (x_s : Str) : T (zdG x_d x_s) (Dm x_d ∧ x_s.length ≤ 3000) (fun r => 0 ≤ r.1 ∧ r.1 ≤ x_s.length ∧ r.2.1.length ≤ r.1 ∧ Dm r.2.2.2.2 ∧ (r.1 = 0 → x_s.length = 0 ∨ r.2.2.2.1 ≠ 0)) := ⟨fun h => by unfold zdG; exact goG⟩

instance (x_a0 : zL1) (x_a1 : Str) : T (zfx x_a0 x_a1) (Bm x_a0 ∧ x_a1.length ≤ 3000) (fun r => 0 ≤ r.1 ∧ r.1 ≤ x_a1.length ∧ r.2.1.length ≤ 3000 ∧ Bm r.2.2.2.2 ∧ (r.1 = 0 → x_a1.length = 0 ∨ r.2.2.2.1 ≠ 0)) := ⟨fun h => by unfold zfx zfh zfi; exact goG⟩

end Go.Dm
end
section
set_option linter.unusedVariables false
set_option maxRecDepth 10000
set_option maxHeartbeats 2000000
namespace Go.Dm
instance (vp0 : zLk) (i5 : Int) (t6 : Bool) (i7 : Int) : T (zaz vp0 i5 t6 i7) (Gw vp0 ∧ tu vp0 ≤ 40000000000000) (fun r => r.1 = i5 ∧ Gw r.2 ∧ kc r.2 ≤ kc vp0 ∧ ku r.2 = ku vp0 ∧ tc r.2 = tc vp0 ∧ tu r.2 ≤ tu vp0 + 1300000 ∧ (i7 ≠ 0 → r.2.zLt = true)) := ⟨fun h => by unfold zaz; exact goJ⟩

instance (vp0 : zLk) (i8 : Int) (t10 : Bool) (i11 : Int) (s12 : Str) : T (zaA vp0 i8 t10 i11 s12) (Gw vp0 ∧ s12.length ≤ 7000000 ∧ tu vp0 ≤ 30000000000000) (fun r => r.1 = i8 ∧ Gw r.2 ∧ kc r.2 ≤ kc vp0 ∧ ku r.2 = ku vp0 ∧ tc r.2 = tc vp0 ∧ tu r.2 ≤ tu vp0 + 8200000 ∧ (i11 ≠ 0 → r.2.zLt = true)) := ⟨fun h => by unfold zaA; exact goJ⟩

instance (vp0 : zLk) (i8 : Int) (s9 : Str) (t10 : Bool) (i11 : Int) : T (zaB vp0 i8 s9 t10 i11) (Gw vp0 ∧ s9.length ≤ 3000 ∧ tu vp0 ≤ 30000000000000) (fun r => r.1 = i8 ∧ Gw r.2 ∧ kc r.2 ≤ kc vp0 ∧ ku r.2 = ku vp0 ∧ tc r.2 = tc vp0 ∧ tu r.2 ≤ tu vp0 + 8200000 ∧ (i11 ≠ 0 → r.2.zLt = true)) := ⟨fun h => by unfold zaB; exact goJ⟩

instance (vp0 : zLk) (s1 : Str) (t19 : Bool) : T (zaC vp0 s1 t19) (Gw vp0 ∧ kc vp0 + s1.length ≤ 3000 ∧ tu vp0 ≤ 30000000000000) (fun r => 0 ≤ r.1 ∧ r.1 ≤ s1.length ∧ Gw r.2 ∧ kc r.2 ≤ kc vp0 + r.1 ∧ ku r.2 = ku vp0 ∧ tc r.2 = tc vp0 ∧ tu r.2 ≤ tu vp0 + 8200000 ∧ (r.1 = 0 → s1.length = 0 ∨ r.2.zLt = true)) := ⟨fun h => by unfold zaC; exact goJ⟩

instance (x_a0 : zLk) (x_a1 : Str) : T (zcj x_a0 x_a1) (Gw x_a0 ∧ kc x_a0 + x_a1.length ≤ 3000 ∧ tu x_a0 ≤ 30000000000000) (fun r => 0 ≤ r.1 ∧ r.1 ≤ x_a1.length ∧ Gw r.2 ∧ kc r.2 ≤ kc x_a0 + r.1 ∧ ku r.2 = ku x_a0 ∧ tc r.2 = tc x_a0 ∧ tu r.2 ≤ tu x_a0 + 8200000 ∧ (r.1 = 0 → x_a1.length = 0 ∨ r.2.zLt = true)) := ⟨fun h => by unfold zcj; exact goJ⟩

end Go.Dm
end
section
set_option linter.unusedVariables false
set_option maxRecDepth 10000
set_option maxHeartbeats 2000000
namespace Go.Dm
instance (l6 : List Str) (i7 : Int) (n : Nat) (vp0 : zLk) (i8 : Int) : T (zbe l6 i7 n vp0 i8) (i7 = l6.length ∧ l6.length ≤ 1000 ∧ 0 ≤ i8 ∧ i8 ≤ i7 ∧ i7 < i8 + n ∧ tc vp0 + sl (dq l6 i8) ≤ 100000000000000) (fun r => Rs1 vp0 r ∧ tu r = tu vp0 ∧ tc r = tc vp0 + sl (dq l6 i8)) := by
 induction n generalizing vp0 i8 with
 | zero => exact ⟨fun h => goz⟩
 | succ n ih => exact ⟨fun h => by unfold zbe; exact goF2⟩

instance (x_g : zLk) (x_l : List Str) : T (zab x_g x_l) (x_l.length ≤ 1000 ∧ tc x_g + sl x_l ≤ 100000000000000) (fun r => Rs1 x_g r ∧ tu r = tu x_g ∧ tc r = tc x_g + sl x_l) := ⟨fun h => by unfold zab; exact goF2⟩

instance (x_g : zLk) : T (zZ x_g) (Gw x_g) (fun r => Gw r ∧ kc r = 0 ∧ ku r = 0 ∧ tc r = tc x_g ∧ tu r = tu x_g ∧ r.zLv = true ∧ r.zLt = x_g.zLt ∧ r.zL3 = x_g.zL3) := ⟨fun h => by unfold zZ; exact goH⟩

instance (x_g : zLk) (x_code : Int) : T (zaw x_g x_code) (Gw x_g ∧ (x_code = 400 ∨ x_code = 431 ∨ x_code = 502) ∧ tc x_g ≤ 50000000000000) (fun r => Gw r ∧ kc r = 0 ∧ ku r = 0 ∧ tc r ≤ tc x_g + 1000 ∧ tu r = tu x_g ∧ r.zLv = true ∧ r.zLt = x_g.zLt ∧ r.zL3 = x_g.zL3) := ⟨fun h => by unfold zaw; exact goJ⟩

instance (vp0 : zLk) (i2 : Int) (t13 : Bool) : T (zag vp0 i2 t13) (Gw vp0 ∧ tc vp0 ≤ 50000000000000) (fun r => Gw r ∧ kc r ≤ kc vp0 ∧ ku r ≤ ku vp0 ∧ tc r ≤ tc vp0 + 1000 ∧ tu r = tu vp0 ∧ (vp0.zLt = true → r.zLt = true) ∧ (vp0.zLv = true → r.zLv = true) ∧ (vp0.zL3 = true → r.zL3 = true)) := ⟨fun h => by unfold zag; exact goJ⟩

instance (vp0 : zLk) (i2 : Int) : T (zaP vp0 i2) (Gw vp0 ∧ tc vp0 ≤ 50000000000000) (fun r => Gw r ∧ kc r ≤ kc vp0 ∧ ku r ≤ ku vp0 ∧ tc r ≤ tc vp0 + 1000 ∧ tu r = tu vp0 ∧ (vp0.zLt = true → r.zLt = true) ∧ (vp0.zLv = true → r.zLv = true) ∧ (vp0.zL3 = true → r.zL3 = true)) := ⟨fun h => by unfold zaP; exact goJ⟩

instance (x_g : zLk) : T (zK x_g) (Gw x_g ∧ tc x_g ≤ 50000000000000) (fun r => Gw r ∧ kc r ≤ kc x_g ∧ ku r ≤ ku x_g ∧ tc r ≤ tc x_g + 1000 ∧ tu r = tu x_g ∧ (x_g.zLt = true → r.zLt = true) ∧ (x_g.zLv = true → r.zLv = true) ∧ (x_g.zL3 = true → r.zL3 = true)) := ⟨fun h => by unfold zK; exact goJ⟩

instance (s1 : Str) (n : Nat) (vp0 : zLk) (i6 : Int) : T (zR s1 n vp0 i6) (Gw vp0 ∧ 0 ≤ i6 ∧ i6 ≤ s1.length ∧ s1.length ≤ 3000 ∧ kc vp0 + (s1.length - i6) ≤ 3000 ∧ (s1.length - i6) + 2 * st vp0.zLt + 1 ≤ n ∧ tu vp0 + 10000000 * (s1.length - i6) + 10000000 * st vp0.zLt ≤ 30000000000000 ∧ tc vp0 + 10000 * (s1.length - i6) + 10000 * st vp0.zLt ≤ 30000000000000) (fun r => Gw r.2.2 ∧ i6 ≤ r.1 ∧ r.1 ≤ s1.length ∧ kc r.2.2 ≤ kc vp0 + (r.1 - i6) ∧ ku r.2.2 ≤ ku vp0 ∧ tu r.2.2 ≤ tu vp0 + 10000000 * (r.1 - i6) + 10000000 * st vp0.zLt ∧ tc r.2.2 ≤ tc vp0 + 10000 * (r.1 - i6) + 10000 * st vp0.zLt) := by
 induction n generalizing vp0 i6 with
 | zero => exact ⟨fun h => goJ⟩
 | succ n ih => exact ⟨fun h => by unfold zR zbJ; exact goJ⟩

instance (x_g : zLk) (x_s : Str) : T (zbo x_g x_s) (Gw x_g ∧ x_s.length ≤ 3000 ∧ kc x_g + x_s.length ≤ 3000 ∧ tc x_g = 0 ∧ tu x_g = 0) (fun r => Gw r.2.2 ∧ 0 ≤ r.1 ∧ r.1 ≤ x_s.length ∧ kc r.2.2 ≤ kc x_g + r.1 ∧ ku r.2.2 ≤ ku x_g ∧ tu r.2.2 ≤ 10000000 * r.1 + 10000000 ∧ tc r.2.2 ≤ 10000000 * r.1 + 10000000) := ⟨fun h => by unfold zbo; exact goJ⟩

instance (x_g : zLk) : T (zbY x_g) (True) (fun r => r.1 = x_g.zLw ∧ Rs1 x_g r.2 ∧ tc r.2 = 0 ∧ tu r.2 = tu x_g) := ⟨fun h => by unfold zbY; exact goH⟩

instance (x_g : zLk) : T (zbt x_g) (True) (fun r => r.1 = x_g.zLU ∧ Rs1 x_g r.2 ∧ tu r.2 = 0 ∧ tc r.2 = tc x_g) := ⟨fun h => by unfold zbt; exact goH⟩

instance  : T (zhJ) (True) (fun r => r = 0) := ⟨fun h => by unfold zhJ; exact go⟩

instance  : T (zhf) (True) (fun r => r = 0) := ⟨fun h => by unfold zhf; exact go⟩

instance  : T (zbh) (True) (fun r => r = 0) := ⟨fun h => by unfold zbh; exact go⟩

instance  : T (zeK) (True) (fun r => r = 0) := ⟨fun h => by unfold zeK; exact go⟩

instance (x_c : zLA) : T (zdH x_c) (Em x_c) (fun r => 0 ≤ r ∧ r ≤ 65536) := ⟨fun h => by unfold zdH; exact goG⟩

instance (x_w : zLE) : T (zaL x_w) (Ww x_w) (fun r => 0 ≤ r ∧ r ≤ 65536) := ⟨fun h => by unfold zaL; exact goG⟩

instance  : T (zeL) (True) (fun r => r = 0) := ⟨fun h => by unfold zeL; exact go⟩

instance (x_d : zLp) : T (zdI x_d) (Dm x_d) (fun r => 0 ≤ r ∧ r ≤ 5000) := ⟨fun h => by unfold zdI; exact goG⟩

instance (x_b : zL1) : T (zfy x_b) (Bm x_b) (fun r => 0 ≤ r ∧ r ≤ 5000) := ⟨fun h => by unfold zfy; exact goG⟩

instance (x_a : zLC) : T (zf2 x_a) (Am x_a) (fun r => 0 ≤ r ∧ r ≤ 3000) := ⟨fun h => by unfold zf2; exact goG⟩

instance (x_s : zLu) : T (zeM x_s) (Sd x_s) (fun r => True) := ⟨fun h => by unfold zeM; exact goH⟩

instance (x_g : zLk) : T (zfj x_g) (Gw x_g) (fun r => True) := ⟨fun h => by unfold zfj; exact goH⟩

instance (x_w : zLx) : T (zm x_w) (Gw x_w.Gateway ∧ 0 ≤ tc x_w.Gateway ∧ x_w.zLn.zL7.length + tc x_w.Gateway ≤ 100000000000000 ∧ x_w.zLl.zL7.length + tu x_w.Gateway ≤ 100000000000000) (fun r => Gw r.Gateway ∧ kc r.Gateway = kc x_w.Gateway ∧ ku r.Gateway = ku x_w.Gateway ∧ tc r.Gateway = 0 ∧ tu r.Gateway = 0 ∧ r.zLn.zLW = x_w.zLn.zLW ∧ r.zLn.zLL = x_w.zLn.zLL ∧ r.zLn.zL6 = x_w.zLn.zL6 ∧ r.zLn.zMe = x_w.zLn.zMe ∧ r.zLn.zL7.length = x_w.zLn.zL7.length + tc x_w.Gateway ∧ r.zLl.zLW = x_w.zLl.zLW ∧ r.zLl.zLL = x_w.zLl.zLL ∧ r.zLl.zL6 = x_w.zLl.zL6 ∧ r.zLl.zMe = x_w.zLl.zMe ∧ r.zLl.zL7.length = x_w.zLl.zL7.length + tu x_w.Gateway) := ⟨fun h => by unfold zm; exact goJ⟩

end Go.Dm
end
