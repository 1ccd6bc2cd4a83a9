/-
 What is known of the models' data, and how totality by conditions is shown: by splitting and grind. No program in sight.
 Splitting and grind with what names and lists are. No program in sight.
 What a function says of what it returns, whatever it was given: split without bounds. No program in sight.
 Hosts, paths and targets: what splitting and grind take to show that the program takes what may be. No program in sight.
 Targets: what splitting and grind take to show that the program takes what may be. No program in sight.
 Splitting and grind where fields are kept. No program in sight.
 Spli
-/
import Derived.Test.YtlcienkhiklpaaaGreatDoorYM
import Derived.Test.YtlcienkhiklpaaaGreatDoorTWL
import Derived.Test.YtlcienkhiklpaaaGreatDoorP1
set_option linter.unusedSimpArgs false
section
set_option linter.unusedVariables false
namespace Go.Dm
def Sm (l : List Str) : Prop := l.length < 1000000000000 ∧ ∀ s ∈ l,s.length < 1000000000
def Ss (l : List Str) : Prop := l.length ≤ 10000 ∧ ∀ s ∈ l,s.length ≤ 20000000
def Fv (l : List api_Field) : Prop := ∀ f ∈ l,f.Name.length ≤ 20000000 ∧ f.Value.length ≤ 20000000
def Fm (l : List api_Field) : Prop := l.length ≤ 10000 ∧ Fv l
def Cw (c : scan_Scanner) : Prop := 0 ≤ c.f_at ∧ c.f_at ≤ c.f_s.length ∧ c.f_s.length < 1000000000
def Pw (p : commas_splitter) : Prop := Cw p.Scanner ∧ 0 ≤ p.f_from ∧ p.f_from ≤ p.Scanner.f_at ∧ p.f_s = p.Scanner.f_s ∧ p.f_out.length ≤ p.Scanner.f_at ∧ ∀ s ∈ p.f_out,s.length ≤ p.f_s.length
def Tm (t : api_Target) : Prop := t.Scheme.length ≤ 20000000 ∧ t.Host.Name.length ≤ 10000000 ∧ -1 ≤ t.Host.Port ∧ t.Host.Port ≤ 65535 ∧ t.Path.length ≤ 20000001 ∧ t.Query.length ≤ 20000001
def Swm (l : List api_Swap) : Prop := l.length ≤ 10000 ∧ ∀ x ∈ l,x.From.length ≤ 1000 ∧ x.To.length ≤ 1000
def Um (r : api_Ref) : Prop := r.Scheme.length < 1000000000 ∧ r.Auth.length < 1000000000 ∧ r.Path.length < 1000000000 ∧ r.Query.length < 1000000000 ∧ r.Frag.length < 1000000000
def Ac (c : api_Cookie) : Prop := c.Name.length < 1000000000 ∧ c.Value.length < 1000000000 ∧ c.Attrs.length < 10000000000 ∧ ∀ a ∈ c.Attrs,a.Name.length < 1000000000 ∧ a.Value.length < 1000000000
def Km (c : api_Cookie) : Prop := c.Name.length ≤ 5000 ∧ c.Value.length ≤ 5000 ∧ c.Attrs.length ≤ 1002 ∧ ∀ a ∈ c.Attrs,a.Name.length ≤ 5000 ∧ a.Value.length ≤ 5000
def Gm (g : api_Guard) : Prop := g.Name.length < 1000000000 ∧ g.Value.length < 1000000000
def Pm (l : List api_Param) : Prop := l.length ≤ 10000 ∧ ∀ p ∈ l,p.Value.length ≤ 20000000
def Rt (r : tmpl_reader) : Prop := Cw r.Scanner ∧ r.f_out.length ≤ r.Scanner.f_at ∧ ∀ p ∈ r.f_out,p.Text.length ≤ r.Scanner.f_at
def Tp (l : List api_Part) : Prop := l.length ≤ 1000 ∧ ∀ p ∈ l,p.Text.length ≤ 10000
def Rm (r : api_Rule) : Prop := r.Name.length ≤ 10000 ∧ r.To.length ≤ 10000 ∧ r.Guard.Name.length ≤ 10000 ∧ r.Guard.Value.length ≤ 10000 ∧ Tp r.Parts
def Rl (l : List api_Rule) : Prop := l.length ≤ 10000 ∧ ∀ r ∈ l,Rm r
def Om (o : api_Op) : Prop := o.Name.length ≤ 10000 ∧ o.Text.length ≤ 10000 ∧ Tp o.Parts ∧ 0 ≤ o.N ∧ o.N ≤ 10000
def Ol (l : List api_Op) : Prop := ∀ o ∈ l,Om o
def vals (n : Str) : List api_Field → List Str
 | [] => []
 | f :: l => if low f.Name = low n then f.Value :: vals n l else vals n l
theorem zzY {n m : Str} (h : low n = low m) (l : List api_Field) : vals n l = vals m l := by
 induction l with
 | nil => rfl
 | cons f l ih => simp only [vals,h,ih]
def conn : Str := [99,111,110,110,101,99,116,105,111,110]
theorem zAY (l : List api_Field) : vals [67,111,110,110,101,99,116,105,111,110] l = vals conn l := zzY (by decide) l
def nom (l : List api_Field) : List Str := nmB [] (vals conn l)
def zjM : List Str := [conn,[99,111,110,116,101,110,116,45,108,101,110,103,116,104],[107,101,101,112,45,97,108,105,118,101],[112,114,111,120,121,45,99,111,110,110,101,99,116,105,111,110],[116,101],[116,114,97,105,108,101,114],[116,114,97,110,115,102,101,114,45,101,110,99,111,100,105,110,103],[117,112,103,114,97,100,101]]
def inN (n : Str) (l : List Str) : Bool := l.any fun s => low s == low n
def zbt (u : List Str) (l : List api_Field) : List api_Field := l.filter fun f => !inN f.Name u
theorem zzZ (u : List Str) : zbt u [] = [] := rfl
theorem zz0 (u : List Str) (f : api_Field) (l : List api_Field) : zbt u (f :: l) = if inN f.Name u = true then zbt u l else f :: zbt u l := by
 unfold zbt; rw [List.filter_cons]; cases inN f.Name u <;> rfl
theorem zz1 (u : List Str) (l m : List api_Field) : zbt u (l ++ m) = zbt u l ++ zbt u m := List.filter_append ..
theorem Wo {α β : Type} {o : Option α} {a : Option β} {f : α → Option β} {P : β → Prop} (h : o = none → W a P) (h2 : ∀ x,o = some x → W (f x) P) : W (Go.Rk.optK o a f) P := by
 cases o with
 | none => exact h rfl
 | some x => exact h2 x rfl
theorem goz {G : Prop} (h : G := by grind [Sm,Ss,Fv,Fm,Cw,Pw,Tm,Swm,Um,Ac,Km,Gm,Pm,Rt,Tp,Rm,Rl,Om,Ol]) : G := h
theorem go {G : Prop} (h : G := by
 (with_reducible repeat' first | intro _ | refine And.intro ?_ ?_ | refine Wf ?_ ?_ | refine Wi ?_ ?_ | refine Ws ?_ | refine Wc ?_ ?_ | refine Wo ?_ ?_ | refine Wk ?_ | refine We ?_ ?_)
 all_goals (try simp only [List.length_cons,List.length_nil])
 all_goals grind [fuel,zbu,zbv,zcG,zV,zZ,List.append_assoc,vals,zan,zP,zao,Sm,Ss,Fv,Fm,Cw,Pw,Tm,Swm,Um,Ac,Km,Gm,Pm,Rt,Tp,Rm,Rl,Om,Ol,UInt8.toNat_lt]) : G := h
theorem go1 {G : Prop} (h : G := by
 (with_reducible repeat' first | intro _ | refine And.intro ?_ ?_ | refine Wf ?_ ?_ | refine Wi ?_ ?_ | refine Ws ?_ | refine Wc ?_ ?_ | refine Wo ?_ ?_ | refine Wk ?_ | refine We ?_ ?_)
 all_goals (try simp only [List.length_cons,List.length_nil])
 all_goals grind (gen := 12) (ematch := 12) [fuel,zbu,zbv,zcG,zV,zZ,List.append_assoc,vals,zan,zP,zao,Sm,Ss,Fv,Fm,Cw,Pw,Tm,Swm,Um,Ac,Km,Gm,Pm,Rt,Tp,Rm,Rl,Om,Ol,UInt8.toNat_lt]) : G := h
theorem go2 {G : Prop} (h : G := by
 (with_reducible repeat' first | intro _ | refine And.intro ?_ ?_ | refine Wf ?_ ?_ | refine Wi ?_ ?_ | refine Ws ?_ | refine Wc ?_ ?_ | refine Wo ?_ ?_ | refine Wk ?_ | refine We ?_ ?_)
 all_goals (try simp only [List.length_cons,List.length_nil])
 all_goals grind (gen := 20) (ematch := 20) (instances := 5000) [fuel,zbu,zbv,zcG,zV,zZ,List.append_assoc,vals,zan,zP,zao,Sm,Ss,Fv,Fm,Cw,Pw,Tm,Swm,Um,Ac,Km,Gm,Pm,Rt,Tp,Rm,Rl,Om,Ol,UInt8.toNat_lt]) : G := h
theorem goB {G : Prop} (h : G := by
 (with_reducible repeat' first | intro _ | refine And.intro ?_ ?_ | refine Wf ?_ ?_ | refine Wi ?_ ?_ | refine Ws ?_ | refine Wc ?_ ?_ | refine Wo ?_ ?_ | refine Wk ?_ | refine We ?_ ?_)
 all_goals (try simp only [List.length_cons,List.length_nil])
 all_goals grind [ans,put,spR_e,spR_c,spR_b,zD1,zD2,spR_0,cmt_n,cmt_u,cmt_d,cmt_e,cmt_x,cmt_o,qtd_n,qtd_d,qtd_e,qtd_x,qtd_o,zg0,fuel,zbu,zbv,zcG,zV,zZ,List.append_assoc,vals,zan,zP,zao,Sm,Ss,Fv,Fm,Cw,Pw,Tm,Swm,Um,Ac,Km,Gm,Pm,Rt,Tp,Rm,Rl,Om,Ol,UInt8.toNat_lt]) : G := h
end Go.Dm
end
section
set_option linter.unusedVariables false
namespace Go.Dm
theorem zxg (o : Option (List Str)) : (ans o).1 = o.getD [] := by cases o <;> rfl
theorem tk_tk {α : Type} {l m : List α} {i : Int} (h0 : 0 ≤ i) (h : i ≤ l.length) : tk (l.take i.toNat ++ m) i = tk l i := by
 unfold tk
 rw [List.take_append_of_le_length (by simp; omega),List.take_take,Nat.min_self]
theorem goN {G : Prop} (h : G := by
 (with_reducible repeat' first | intro _ | refine And.intro ?_ ?_ | refine Wf ?_ ?_ | refine Wi ?_ ?_ | refine Ws ?_ | refine Wc ?_ ?_ | refine Wo ?_ ?_ | refine Wk ?_ | refine We ?_ ?_)
 all_goals (try simp only [List.length_cons,List.length_nil])
 all_goals grind [zxg,tk_tk,ans,zwi,zsw,zD3,nmA,nmB,inN,zzZ,zz0,zz1,zbc,nom,zAY,zDZ,zD0,zqD,zp3,zsv,sb_0,sb_s,zpO,zDY,fuel,zbu,zbv,zcG,zV,zZ,List.append_assoc,vals,zan,zP,zao,Sm,Ss,Fv,Fm,Cw,Pw,Tm,Swm,Um,Ac,Km,Gm,Pm,Rt,Tp,Rm,Rl,Om,Ol,UInt8.toNat_lt]) : G := h
end Go.Dm
end
section
set_option linter.unusedVariables false
namespace Go.Dm
def V {α : Type} (x : Option α) (P : α → Prop) : Prop := ∀ r,x = some r → P r
class S {α : Type} (x : Option α) (q : outParam (α → Prop)) : Prop where
 ok : V x q
class KS {α : Type} (x : Option α) (P : α → Prop) (p : outParam Prop) : Prop where
 ok : p → V x P
section
variable {α β : Type}
theorem Vc {x : Option α} {q : α → Prop} [s : S x q] {f : α → Option β} {P : β → Prop} (h : ∀ r,q r → V (f r) P) : V (x.bind f) P := fun r e => by
 cases hx : x with
 | none => rw [hx] at e; cases e
 | some y => rw [hx] at e; exact h y (s.ok y hx) r e
theorem Vd {x : Option α} {f : α → Option β} {P : β → Prop} (h : ∀ r,x = some r → V (f r) P) : V (x.bind f) P := fun r e => by
 cases hx : x with
 | none => rw [hx] at e; cases e
 | some y => rw [hx] at e; exact h y hx r e
theorem Ve {x : Option α} {q : α → Prop} [s : S x q] {P : α → Prop} (h : ∀ r,q r → P r) : V x P := fun r e => h r (s.ok r e)
theorem Vk {x : Option α} {P : α → Prop} {p : Prop} [t : KS x P p] (h : p) : V x P := t.ok h
theorem Vs {y : α} {P : α → Prop} (h : P y) : V (some y) P := fun r e => by cases e; exact h
theorem Vn {P : α → Prop} : V (none : Option α) P := fun r e => by cases e
theorem Vi {c : Prop} [Decidable c] {a b : Option α} {P : α → Prop} (h : c → V a P) (h2 : ¬ c → V b P) : V (if c then a else b) P := by
 split
 ·exact h ‹_›
 ·exact h2 ‹_›
theorem Vo {o : Option α} {a : Option β} {f : α → Option β} {P : β → Prop} (h : o = none → V a P) (h2 : ∀ x,o = some x → V (f x) P) : V (Go.Rk.optK o a f) P := by
 cases o with
 | none => exact h rfl
 | some x => exact h2 x rfl
end
section
variable {α : Type}
instance (l : List α) (i : Int) : S (lAt l i) (fun r => r ∈ l ∧ lAt l i = some r ∧ l[i.toNat]? = some r ∧ (0 ≤ i → dr l i = r :: dr l (i + 1))) := ⟨fun r h => by
 have h' := h
 unfold lAt at h
 split at h
 ·exact ⟨List.mem_of_getElem? h,h',h,fun h0 => zDX h0 h⟩
 ·cases h⟩
instance (l : List α) (i : Int) (x : α) : S (zoZ l i x) (fun r => r = l.set i.toNat x ∧ 0 ≤ i ∧ i < l.length) := ⟨fun r h => by
 unfold zoZ at h
 split at h
 ·cases h; exact ⟨rfl,by omega,by omega⟩
 ·cases h⟩
instance (l : List α) (h : Int) : S (lTo l h) (fun r => r = tk l h ∧ ∀ x ∈ r,x ∈ l) := ⟨fun r e => by
 unfold lTo at e
 split at e
 ·cases e; exact ⟨rfl,fun x hx => List.mem_of_mem_take hx⟩
 ·cases e⟩
instance (l : List α) (h : Int) : S (zkk l h) (fun r => r = dr l h ∧ ∀ x ∈ r,x ∈ l) := ⟨fun r e => by
 unfold zkk at e
 split at e
 ·cases e; exact ⟨rfl,fun x hx => List.mem_of_mem_drop hx⟩
 ·cases e⟩
end
instance (m n : Int) : S (zn m n) (fun r => r = m + n) := ⟨fun r h => by unfold zn at h; split at h <;> cases h; rfl⟩
instance (m n : Int) : S (zcH m n) (fun r => r = m - n) := ⟨fun r h => by unfold zcH at h; split at h <;> cases h; rfl⟩
instance (s i v) : S (zam s i v) (fun r => r = s.take i.toNat ++ v ++ s.drop i.toNat) := ⟨fun r h => by unfold zam at h; split at h <;> cases h; rfl⟩
def Fi (p : Str → Bool) (l : List api_Field) : List api_Field := l.filter fun f => p f.Name
def Wr (S : Str → Prop) (l m : List api_Field) : Prop := (∀ p : Str → Bool,(∀ n,S (low n) → p n = false) → Fi p m = Fi p l) ∧ ∀ f ∈ m,S (low f.Name) ∨ ∃ g ∈ l,g.Name = f.Name
theorem Wr.refl (S : Str → Prop) (l : List api_Field) : Wr S l l := ⟨fun _ _ => rfl,fun f hf => .inr ⟨f,hf,rfl⟩⟩
theorem Wr.trans {S : Str → Prop} {l m k : List api_Field} (h : Wr S l m) (h2 : Wr S m k) : Wr S l k :=
 ⟨fun p hp => (h2.1 p hp).trans (h.1 p hp),fun f hf => by
  rcases h2.2 f hf with e | ⟨g,hg,e⟩
  ·exact .inl e
  ·rw [← e]; exact h.2 g hg⟩
theorem Wr.mono {S U : Str → Prop} {l m : List api_Field} (h : Wr S l m) (hs : ∀ n,S n → U n) : Wr U l m :=
 ⟨fun p hp => h.1 p fun n hn => hp n (hs _ hn),fun f hf => (h.2 f hf).imp (hs _) id⟩
theorem Wr.rem {S : Str → Prop} {l : List api_Field} {q : api_Field → Bool} (h : ∀ f ∈ l,q f = false → S (low f.Name)) : Wr S l (l.filter q) :=
 ⟨fun p hp => by
  unfold Fi
  rw [List.filter_filter]
  refine List.filter_congr fun f hf => ?_
  cases hq : q f with
  | true => simp
  | false => simp [hp _ (h f hf hq)],fun f hf => .inr ⟨f,(List.mem_filter.1 hf).1,rfl⟩⟩
theorem Wr.ins {S : Str → Prop} (a b : List api_Field) (f : api_Field) (h : S (low f.Name)) : Wr S (a ++ b) (a ++ f :: b) :=
 ⟨fun p hp => by unfold Fi; simp [List.filter_append,List.filter_cons,hp _ h],fun g hg => by
  simp only [List.mem_append,List.mem_cons] at hg
  rcases hg with hg | rfl | hg
  ·exact .inr ⟨g,by simp [hg],rfl⟩
  ·exact .inl h
  ·exact .inr ⟨g,by simp [hg],rfl⟩⟩
theorem Wr.add {S : Str → Prop} (a : List api_Field) (f : api_Field) (h : S (low f.Name)) : Wr S a (a ++ [f]) := by
 have := Wr.ins a [] f h
 simpa using this
theorem Wr.put {S : Str → Prop} (l : List api_Field) (i : Nat) (f : api_Field) (h : S (low f.Name)) : Wr S l (l.take i ++ [f] ++ l.drop i) := by
 have := Wr.ins (l.take i) (l.drop i) f h
 simpa [List.take_append_drop] using this
theorem Wr.set {S : Str → Prop} {l : List api_Field} {i : Nat} {f g : api_Field} (hg : l[i]? = some g) (h : S (low g.Name)) (h2 : S (low f.Name)) : Wr S l (l.set i f) := by
 have hi : i < l.length := by
  rcases Nat.lt_or_ge i l.length with h | h
  ·exact h
  ·rw [List.getElem?_eq_none h] at hg; cases hg
 have e : l = l.take i ++ g :: l.drop (i + 1) := by
  have h1 : l[i] = g := by rw [List.getElem?_eq_getElem hi] at hg; simpa using hg
  rw [← h1, ← List.drop_eq_getElem_cons hi,List.take_append_drop]
 refine ⟨fun p hp => ?_,fun k hk => ?_⟩
 ·rw [List.set_eq_take_append_cons_drop,if_pos hi]
  conv => rhs; rw [e]
  unfold Fi
  simp [List.filter_append,List.filter_cons,hp _ h,hp _ h2]
 ·rcases List.mem_or_eq_of_mem_set hk with e | e
  ·exact .inr ⟨k,e,rfl⟩
  ·exact .inl (e ▸ h2)
theorem Wr.set2 {S : Str → Prop} {l : List api_Field} {i : Int} {f g : api_Field} (hg : l[i.toNat]? = some g) (h : S (low g.Name)) (h2 : S (low f.Name)) : Wr S l (l.set i.toNat f) := Wr.set hg h h2
theorem Wr.set_t {Z : Str → Prop} {l m : List api_Field} {i : Int} {f g : api_Field} (ht : Wr Z (l.set i.toNat f) m) (hg : l[i.toNat]? = some g) (h : Z (low g.Name)) (h2 : Z (low f.Name)) : Wr Z l m := (Wr.set hg h h2).trans ht
theorem Wr.keep {S : Str → Prop} {l : List api_Field} {u : List Str} (h : ∀ s ∈ u,S (low s)) : Wr S l (zbt u l) := by
 refine Wr.rem fun f hf hq => ?_
 simp only [Bool.not_eq_false',inN,List.any_eq_true,beq_iff_eq] at hq
 obtain ⟨s,hs,e⟩ := hq
 rw [← e]; exact h s hs
def inF (n : Str) : Prop := low n ∈ zjM
def nmS (a : Str) (n : Str) : Prop := n = low a
def zkj (S : Str → Prop) (o : api_Op) : Prop := (o.Kind = 4 ∨ o.Kind = 5 ∨ o.Kind = 6 ∨ o.Kind = 7 → S (low o.Name)) ∧ (o.Kind = 7 → S (low o.Text))
def rok (S : Str → Prop) (r : api_Rule) : Prop := S (low r.Name) ∧ (r.Kind = 4 → S (low r.To))
def zqE (side : Int) (l : List api_Rule) (n : Str) : Prop := ∃ r ∈ l,r.Side = side ∧ (low r.Name = n ∨ r.Kind = 4 ∧ low r.To = n)
theorem touS_r {side : Int} {l : List api_Rule} {r : api_Rule} (h : r ∈ l) (hs : r.Side = side) : rok (zqE side l) r := ⟨⟨r,h,hs, .inl rfl⟩,fun hk => ⟨r,h,hs, .inr ⟨hk,rfl⟩⟩⟩
def zzI (n : Str) : Prop := n = [108,111,99,97,116,105,111,110] ∨ n = [99,111,110,116,101,110,116,45,108,111,99,97,116,105,111,110] ∨ n = [115,101,116,45,99,111,111,107,105,101]
theorem zAL : low [72,111,115,116] = [104,111,115,116] ∧ low [86,105,97] = [118,105,97] ∧ low [70,111,114,119,97,114,100,101,100] = [102,111,114,119,97,114,100,101,100] ∧
 low [88,45,70,111,114,119,97,114,100,101,100,45,70,111,114] = [120,45,102,111,114,119,97,114,100,101,100,45,102,111,114] := by decide +kernel
def zjL (side : Int) (n : Str) : Prop := if side = 1 then n = [102,111,114,119,97,114,100,101,100] ∨ n = [104,111,115,116] ∨ n = [118,105,97] ∨ n = [120,45,102,111,114,119,97,114,100,101,100,45,102,111,114]
 else side = 2 ∧ (zzI n ∨ n = [118,105,97])
def hd0 : api_Head := ⟨0,[],[],0,[],0,[]⟩
def renS (a b : Str) (n : Str) : Prop := n = low a ∨ n = low b
def fulS (k : Int) (l : List api_Rule) (n : Str) : Prop := zjL k n ∨ zqE k l n
def okR (r : api_Rule) : Prop := ¬ inF r.Name ∧ (r.Kind = 4 → ¬ inF r.To)
theorem Wr.host {l m : List api_Field} (h : Wr (nmS [72,111,115,116]) l m) : Wr (zjL 1) l m := h.mono fun n e => by unfold nmS at e; rw [zAL.1] at e; exact .inr (.inl e)
theorem Wr.hosta (l : List api_Field) (v : Str) : Wr (zjL 1) l (l ++ [⟨[72,111,115,116],v⟩]) := Wr.host (Wr.add l _ rfl)
theorem Wr.via {k : Int} {l m : List api_Field} (hk : k = 1 ∨ k = 2) (h : Wr (nmS [86,105,97]) l m) : Wr (zjL k) l m := h.mono fun n e => by
 unfold nmS at e; rw [zAL.2.1] at e
 unfold zjL
 rcases hk with rfl | rfl
 ·exact .inr (.inr (.inl e))
 ·exact ⟨rfl, .inr e⟩
theorem Wr.via1 {l m : List api_Field} (h : Wr (nmS [86,105,97]) l m) : Wr (zjL 1) l m := Wr.via (.inl rfl) h
theorem Wr.via2 {l m : List api_Field} (h : Wr (nmS [86,105,97]) l m) : Wr (zjL 2) l m := Wr.via (.inr rfl) h
theorem Wr.fwd {l m : List api_Field} (h : Wr (nmS [70,111,114,119,97,114,100,101,100]) l m) : Wr (zjL 1) l m := h.mono fun n e => by unfold nmS at e; rw [zAL.2.2.1] at e; exact .inl e
theorem Wr.xff {l m : List api_Field} (h : Wr (nmS [88,45,70,111,114,119,97,114,100,101,100,45,70,111,114]) l m) : Wr (zjL 1) l m := h.mono fun n e => by unfold nmS at e; rw [zAL.2.2.2] at e; exact .inr (.inr (.inr e))
theorem Wr.loc {l m : List api_Field} (h : Wr zzI l m) : Wr (zjL 2) l m := h.mono fun n e => ⟨rfl, .inl e⟩
theorem Wr.nm1 {Z : Str → Prop} {a : Str} {l m : List api_Field} (h : Wr (nmS a) l m) (hz : Z (low a)) : Wr Z l m := h.mono fun n e => e ▸ hz
theorem Wr.ren {Z : Str → Prop} {a b : Str} {l m : List api_Field} (h : Wr (renS a b) l m) (hz : Z (low a)) (hz2 : Z (low b)) : Wr Z l m := h.mono fun n e => by rcases e with e | e <;> (subst e; assumption)
theorem Wr.keep1 {Z : Str → Prop} {a : Str} {l : List api_Field} (hz : Z (low a)) : Wr Z l (zbt [a] l) := Wr.keep (by simpa using hz)
theorem Wr.put1 {a : Str} {l : List api_Field} {v : Str} {i : Int} : Wr (nmS a) l ((zbt [a] l).take i.toNat ++ [⟨a,v⟩] ++ (zbt [a] l).drop i.toNat) := (Wr.keep1 (show nmS a (low a) from rfl)).trans (Wr.put _ _ _ rfl)
theorem Wr.add1 {Z : Str → Prop} {a v : Str} {l : List api_Field} (hz : Z (low a)) : Wr Z l (l ++ [⟨a,v⟩]) := Wr.add l _ hz
theorem Wr.full {k : Int} {l : List api_Rule} {a b c d : List api_Field} (h1 : Wr (zjL k) a b) (h2 : Wr (zqE k l) b c) (h3 : Wr (zjL k) c d) : Wr (fulS k l) a d :=
 ((h1.mono fun _ => .inl).trans (h2.mono fun _ => .inr)).trans (h3.mono fun _ => .inl)
theorem Wr.op6 {Z : Str → Prop} {o : api_Op} {l m : List api_Field} (h : Wr (nmS o.Name) l m) (ho : zkj Z o) (hk : o.Kind = 6) : Wr Z l m := h.nm1 (ho.1 (by omega))
theorem Wr.op7 {Z : Str → Prop} {o : api_Op} {l m : List api_Field} (h : Wr (renS o.Name o.Text) l m) (ho : zkj Z o) (hk : o.Kind = 7) : Wr Z l m := h.ren (ho.1 (by omega)) (ho.2 hk)
theorem Wr.op4 {Z : Str → Prop} {o : api_Op} {l : List api_Field} (ho : zkj Z o) (hk : o.Kind = 4) : Wr Z l (zbt [o.Name] l) := Wr.keep1 (ho.1 (by omega))
theorem Wr.op5 {Z : Str → Prop} {o : api_Op} {l : List api_Field} {v : Str} (ho : zkj Z o) (hk : o.Kind = 5) : Wr Z l (l ++ [⟨o.Name,v⟩]) := Wr.add1 (ho.1 (by omega))
def zyr (Z : Str → Prop) (l : List api_Op) : Prop := ∀ o ∈ l,zkj Z o
theorem zFB {Z : Str → Prop} {l : List api_Op} {o : api_Op} (h : zyr Z l) (ho : o ∈ l) : zkj Z o := h o ho
theorem nmS_s (a : Str) : nmS a (low a) := rfl
theorem renS_s (a b : Str) : renS a b (low a) ∧ renS a b (low b) := ⟨.inl rfl, .inr rfl⟩
theorem sg {G : Prop} (h : G := by
 (with_reducible repeat' first | intro _ | refine And.intro ?_ ?_ | exact Vn | refine Vi ?_ ?_ | refine Vs ?_ | refine Vc ?_ | refine Vo ?_ ?_ | refine Vk ?_ | refine Ve ?_ | refine Vd ?_)
 all_goals grind [zcG,List.append_assoc]) : G := h
theorem sgN {G : Prop} (h : G := by
 (with_reducible repeat' first | intro _ | refine And.intro ?_ ?_ | exact Vn | refine Vi ?_ ?_ | refine Vs ?_ | refine Vc ?_ | refine Vo ?_ ?_ | refine Vk ?_ | refine Ve ?_ | refine Vd ?_)
 all_goals grind [inN,zzZ,zz0,zz1,zDZ,zD0,zqD,zp3,zsv,sb_0,sb_s,zpO,tk_tk,zV,inF,okR,zcG,List.append_assoc]) : G := h
theorem sgW {G : Prop} (h : G := by
 (with_reducible repeat' first | intro _ | refine And.intro ?_ ?_ | exact Vn | refine Vi ?_ ?_ | refine Vs ?_ | refine Vc ?_ | refine Vo ?_ ?_ | refine Vk ?_ | refine Ve ?_ | refine Vd ?_)
 all_goals grind [Wr.refl, → Wr.trans, → Wr.set_t,Wr.set2,Wr.put1,Wr.add1,Wr.keep1,nmS_s,renS_s,zcG,List.append_assoc]) : G := h
theorem sgR {G : Prop} (h : G := by
 (with_reducible repeat' first | intro _ | refine And.intro ?_ ?_ | exact Vn | refine Vi ?_ ?_ | refine Vs ?_ | refine Vc ?_ | refine Vo ?_ ?_ | refine Vk ?_ | refine Ve ?_ | refine Vd ?_)
 all_goals grind [zyr,zkj,rok,touS_r,okR, → Wr.trans,Wr.refl, → Wr.op6, → Wr.op7,Wr.op4,Wr.op5,zcG,List.append_assoc]) : G := h
theorem sgP {G : Prop} (h : G := by
 (with_reducible repeat' first | intro _ | refine And.intro ?_ ?_ | exact Vn | refine Vi ?_ ?_ | refine Vs ?_ | refine Vc ?_ | refine Vo ?_ ?_ | refine Vk ?_ | refine Ve ?_ | refine Vd ?_)
 all_goals grind [→ Wr.host,Wr.hosta, → Wr.via1, → Wr.via2, → Wr.fwd, → Wr.xff, → Wr.loc, → Wr.trans,Wr.refl,hd0,zzI, → Wr.set_t,Wr.set2,zcG,List.append_assoc]) : G := h
theorem sgF {G : Prop} (h : G := by
 (with_reducible repeat' first | intro _ | refine And.intro ?_ ?_ | exact Vn | refine Vi ?_ ?_ | refine Vs ?_ | refine Vc ?_ | refine Vo ?_ ?_ | refine Vk ?_ | refine Ve ?_ | refine Vd ?_)
 all_goals grind [hd0, → Wr.full,zcG,List.append_assoc]) : G := h
theorem sgM {G : Prop} (h : G := by
 (with_reducible repeat' first | intro _ | refine And.intro ?_ ?_ | exact Vn | refine Vi ?_ ?_ | refine Vs ?_ | refine Vc ?_ | refine Vo ?_ ?_ | refine Vk ?_ | refine Ve ?_ | refine Vd ?_)
 all_goals grind [→ zFB, → Wr.trans, → Wr.op6, → Wr.op7,Wr.op4,Wr.op5,Wr.refl,zcG,List.append_assoc]) : G := h
end Go.Dm
end
section
set_option linter.unusedVariables false
namespace Go.Dm
theorem zAj {n m : Int} (h0 : 0 ≤ n) (h : n ≤ m) : zfP (Go.Lib.decDigits n.toNat) m := ⟨n.toNat,by omega,rfl⟩
def dgs (s : Str) : Bool := s.all zag
theorem zCE : dgs [] = true := rfl
theorem dgs_c (c : UInt8) (s : Str) : dgs (c :: s) = (zag c && dgs s) := List.all_cons
theorem dgs_a (s t : Str) : dgs (s ++ t) = (dgs s && dgs t) := List.all_append
theorem dgs_g {g : UInt8 → Bool} (s : Str) (h : g = zag) : s.all g = dgs s := by subst h; rfl
theorem zCF (n : Nat) : dgs (Go.Lib.decDigits n) = true := zmA n
theorem zCG (s : Str) (a : Int) (h0 : 0 ≤ a) (h : dgs s = true) : dvI a s = a + ((dvI a s - a).toNat : Int) := by have := zCM s a h0 h; omega
theorem zEY {s : Str} {m : Int} (h : zfP s m) : dgs s = true ∧ s ≠ [] ∧ 0 ≤ dvI 0 s ∧ dvI 0 s ≤ m ∧ Go.Lib.decDigits (dvI 0 s).toNat = s := by
 obtain ⟨n,hn,rfl⟩ := h
 rw [zve]
 exact ⟨zmA n,zrJ n,by omega,hn,rfl⟩
theorem six_c {s : Str} (h : zvc s) : ((Go.Lib.cut s [58,58]).2.2 = false ∧ Grp true (spt s) 8) ∨
  ((Go.Lib.cut s [58,58]).2.2 = true ∧ ∃ n m,Grp false (spt (Go.Lib.cut s [58,58]).1) n ∧ Grp true (spt (Go.Lib.cut s [58,58]).2.1) m ∧ n + m ≤ 7) := by
 unfold zvc at h
 rw [zAn]
 cases e : zj1 s with
 | none => rw [e] at h; exact .inl ⟨rfl,h⟩
 | some p => rw [e] at h; exact .inr ⟨rfl,h⟩
def pct : Str → Bool
 | 37 :: a :: b :: _ => ziF a && ziF b
 | _ => false
theorem nm_pct {s : Str} (h : pct s = true) : 3 ≤ s.length ∧ zhO s = zhO (dr s 3) := by
 unfold pct at h
 split at h
 ·rename_i a b t
  rw [nm_p,h]; simp [dr]
 ·cases h
theorem nm_no {s : Str} {c : UInt8} (h : pct s = false) (hc : dr s 0 = c :: dr s (0 + 1)) : zhO s = ((zmp c || zyn c) && zhO (dr s 1)) := by
 have e : s = c :: dr s 1 := hc
 have k := znn
 by_cases h37 : c = 37
 ·subst h37
  rw [k.1,k.2.1,Bool.or_self,Bool.false_and]
  obtain ⟨t,rfl⟩ : ∃ t,s = 37 :: t := ⟨_,e⟩
  clear e hc
  match t,h with
  | [],_ => exact (nm_1 0).2
  | [a],_ => exact (nm_1 a).1
  | a :: b :: t,h => rw [nm_p]; simp only [pct] at h; rw [h,Bool.false_and]
 ·conv => lhs; rw [e]
  exact nm_o _ _ h37
theorem host_6 {s m : Str} (h : s = 91 :: m ++ [93]) (hm : m ≠ []) : 2 < (s.length : Int) ∧ sAt s 0 = some 91 ∧ sAt s ((s.length : Int) - 1) = some 93 ∧ sb s 1 ((s.length : Int) - 1) = m := by
 have hl : 1 ≤ m.length := by cases m with
  | nil => exact absurd rfl hm
  | cons a b => simp
 have e : s.length = m.length + 2 := by rw [h]; simp
 have e2 : ((s.length : Int) - 1).toNat = m.length + 1 := by omega
 refine ⟨by omega,by rw [h]; rfl,?_,?_⟩
 ·unfold sAt
  rw [if_pos (by omega),e2,h]; simp
 ·unfold sb
  rw [e2,h]; simp
theorem zu9 {s : Str} {c : UInt8} (h : sAt s ((s.length : Int) - 1) = some c) : ∃ m,s = m ++ [c] := by
 unfold sAt at h
 split at h
 ·rename_i h0
  have e : ((s.length : Int) - 1).toNat = s.length - 1 := by omega
  have hl : s.length - 1 < s.length := by omega
  rw [e,List.getElem?_eq_getElem hl] at h
  have hne : s ≠ [] := by rintro rfl; simp at hl
  refine ⟨s.dropLast,?_⟩
  rw [← Option.some.inj h, ← List.getLast_eq_getElem hne]
  exact (List.dropLast_concat_getLast hne).symm
 ·cases h
theorem zEZ {s : Str} (h : zj0 s) : (58 : UInt8) ∉ s := fun e => by
 rcases zE1 h 58 e with e | e
 ·revert e; decide
 ·rw [znn.2.2.2.2.2.1] at e; cases e
theorem host_c {s : Str} (h : zic s) : (2 < (s.length : Int) ∧ sAt s 0 = some 91 ∧ sAt s ((s.length : Int) - 1) = some 93 ∧ zvc (sb s 1 ((s.length : Int) - 1))) ∨ zj0 s ∨ (s ≠ [] ∧ zhO s = true) := by
 rcases h with ⟨m,hm,e,h6⟩ | h
 ·have := host_6 e hm
  exact .inl ⟨this.1,this.2.1,this.2.2.1,this.2.2.2.symm ▸ h6⟩
 ·exact .inr h
theorem pct_s {s : Str} {c : UInt8} (h : 3 ≤ (s.length : Int)) (hc : dr s 0 = c :: dr s (0 + 1)) : pct s = (c == 37 && (sb s 1 3).all ziF) := by
 match s,h with
 | [],h => simp at h
 | [_],h => simp at h
 | [_,_],h => simp at h
 | x :: a :: b :: t,_ =>
  have : x = c := by simpa [dr] using hc
  subst this
  have e : sb (x :: a :: b :: t) 1 3 = [a,b] := rfl
  rw [e]
  by_cases h : x = 37
  ·subst h; simp [pct]
  ·have : (x == 37) = false := by simpa using h
   rw [this,Bool.false_and]; unfold pct; split
   ·rename_i h2; exact absurd (List.cons.inj h2).1 h
   ·rfl
theorem pct_l {s : Str} (h : (s.length : Int) < 3) : pct s = false := by
 unfold pct; split
 ·simp at h; omega
 ·rfl
theorem nm_e : zhO [] = true := rfl
theorem zva {s : Str} {c : UInt8} {i : Int} (h0 : 0 ≤ i) (h : dr s i = c :: dr s (i + 1)) : c ∈ s ∧ s = tk s i ++ c :: dr s (i + 1) := by
 have := zp3 s i
 rw [h] at this
 exact ⟨by rw [← this]; simp,this.symm⟩
theorem zCH {s : Str} {i : Int} (hp : zjb s) (h0 : 0 ≤ i) (h : dr s i = 58 :: dr s (i + 1)) (hn : (58 : UInt8) ∉ dr s (i + 1)) : zic (tk s i) ∧ zfP (dr s (i + 1)) 65535 := by
 obtain ⟨a,p,e,h1,h2,h3⟩ := hp
 obtain ⟨rfl,rfl⟩ := zyW ((zva h0 h).2.symm.trans e) hn h1
 exact ⟨h2,h3⟩
theorem port_m {s : Str} (hp : zjb s) : (58 : UInt8) ∈ s ∧ ∀ m,s ≠ m ++ [93] := by
 obtain ⟨a,p,rfl,h1,h2,h3⟩ := hp
 refine ⟨by simp,fun m e => ?_⟩
 have hd := (zvf h3).1
 obtain ⟨q,x,rfl⟩ : ∃ q x,p = q ++ [x] := by
  have := (zvf h3).2
  exact ⟨p.dropLast,p.getLast this,(List.dropLast_concat_getLast this).symm⟩
 have e2 : (a ++ 58 :: q) ++ [x] = m ++ [93] := by simpa using e
 have := (List.append_inj' e2 rfl).2
 simp at this; subst this
 simp only [List.all_append,List.all_cons,List.all_nil,Bool.and_true,Bool.and_eq_true] at hd
 rw [znn.2.2.2.2.2.2.2] at hd
 exact absurd hd.2 (by decide)
theorem pre_tk {s p : Str} : (p.length ≤ s.length → (tk s (p.length : Int) == p) = p.isPrefixOf s) ∧ (s.length < p.length → p.isPrefixOf s = false) := by
 constructor
 ·intro h
  rw [Bool.eq_iff_iff,beq_iff_eq,List.isPrefixOf_iff_prefix,List.prefix_iff_eq_take]
  unfold tk
  simp only [Int.toNat_natCast]
  exact eq_comm
 ·intro h
  rw [Bool.eq_false_iff]
  intro e
  have := (List.isPrefixOf_iff_prefix.1 e).length_le
  omega
theorem zE0 {s : Str} {i : Int} (m : UInt8 → Bool) (h0 : 0 ≤ i) (h : dr s i = 37 :: dr s (i + 1)) (hm : m 37 = false) :
  (i + 2 < s.length → zl2 m (dr s i) = ((sb s (i + 1) (i + 3)).all ziF && zl2 m (dr s (i + 3)))) ∧ ((s.length : Int) ≤ i + 2 → zl2 m (dr s i) = false) := by
 obtain ⟨k,rfl⟩ : ∃ k : Nat,i = k := ⟨i.toNat,by omega⟩
 have e1 : ((k : Int) + 1).toNat = k + 1 := by omega
 have e3 : ((k : Int) + 3).toNat = k + 3 := by omega
 constructor
 ·intro h2
  have ea : dr s ((k : Int) + 1) = s[k + 1] :: s[k + 2] :: dr s ((k : Int) + 3) := by
   unfold dr
   rw [e1,e3,List.drop_eq_getElem_cons (by omega),List.drop_eq_getElem_cons (by omega)]
  have eb : sb s ((k : Int) + 1) ((k : Int) + 3) = [s[k + 1],s[k + 2]] := by
   unfold sb
   rw [e1,e3,List.drop_take,List.drop_eq_getElem_cons (by omega),List.drop_eq_getElem_cons (by omega),show k + 3 - (k + 1) = 2 by omega]
   rfl
  rw [h,ea,pq_p,eb]; simp [Bool.and_assoc]
 ·intro h2
  rw [h]
  have hl : (dr s ((k : Int) + 1)).length ≤ 1 := by simp [dr]; omega
  match dr s ((k : Int) + 1),hl with
  | [],_ => exact (pq_1 m 0).2
  | [a],_ => exact (pq_1 m a).1
def pqM (m s : Str) : Bool := zl2 (fun c => m.contains c) s
theorem zCI (m : Str) : pqM m [] = true := rfl
theorem pqM_o (m : Str) (c : UInt8) (s : Str) (h : c ≠ 37) : pqM m (c :: s) = ((zsu c || m.contains c) && pqM m s) := pq_o _ c s h
theorem pqM_s {s : Str} {i : Int} (m : Str) (h0 : 0 ≤ i) (h : dr s i = 37 :: dr s (i + 1)) (hm : 37 ∉ m) :
  (i + 2 < s.length → pqM m (dr s i) = ((sb s (i + 1) (i + 3)).all ziF && pqM m (dr s (i + 3)))) ∧ ((s.length : Int) ≤ i + 2 → pqM m (dr s i) = false) :=
 zE0 _ h0 h (by simpa using hm)
theorem goA {G : Prop} (h : G := by
 (with_reducible repeat' first | intro _ | refine And.intro ?_ ?_ | refine Wf ?_ ?_ | refine Wi ?_ ?_ | refine Ws ?_ | refine Wc ?_ ?_ | refine Wo ?_ ?_ | refine Wk ?_ | refine We ?_ ?_)
 all_goals (try simp only [List.length_cons,List.length_nil])
 all_goals grind [zAj, → zEY,Grp_n,Grp_c,zCN,zvb, → six_c, → host_c, → zu9, → zEZ, → zAp, → zva, → zCH, → port_m,zCI,pqM_o,pqM_s,znn,zCO,spt,zqD,zp3,zsv,sb_0,sb_s,zpO,zDY,fuel,zbu,zbv,zcG,zV,zZ,List.append_assoc,zan,zP,zao,Sm,Ss,Fv,Fm,Cw,Pw,Tm,Swm,Um,Ac,Km,Gm,Pm,Rt,Tp,Rm,Rl,Om,Ol,UInt8.toNat_lt]) : G := h
theorem goD {G : Prop} (h : G := by
 (with_reducible repeat' first | intro _ | refine And.intro ?_ ?_ | refine Wf ?_ ?_ | refine Wi ?_ ?_ | refine Ws ?_ | refine Wc ?_ ?_ | refine Wo ?_ ?_ | refine Wk ?_ | refine We ?_ ?_)
 all_goals (try simp only [List.length_cons,List.length_nil])
 all_goals grind [dvI,zCG,zCE,dgs_c,dgs_g,fuel,zbu,zbv,zcG,zV,zZ,List.append_assoc,zan,zP,zao,Sm,Ss,Fv,Fm,Cw,Pw,Tm,Swm,Um,Ac,Km,Gm,Pm,Rt,Tp,Rm,Rl,Om,Ol,UInt8.toNat_lt]) : G := h
theorem goQ {G : Prop} (h : G := by
 (with_reducible repeat' first | intro _ | refine And.intro ?_ ?_ | refine Wf ?_ ?_ | refine Wi ?_ ?_ | refine Ws ?_ | refine Wc ?_ ?_ | refine Wo ?_ ?_ | refine Wk ?_ | refine We ?_ ?_)
 all_goals (try simp only [List.length_cons,List.length_nil])
 all_goals grind [nm_e,nm_pct,nm_no,znn,pct_s,pct_l,fuel,zbu,zbv,zcG,zV,zZ,List.append_assoc,zan,zP,zao,Sm,Ss,Fv,Fm,Cw,Pw,Tm,Swm,Um,Ac,Km,Gm,Pm,Rt,Tp,Rm,Rl,Om,Ol,UInt8.toNat_lt]) : G := h
theorem goP {G : Prop} (h : G := by
 (with_reducible repeat' first | intro _ | refine And.intro ?_ ?_ | refine Wf ?_ ?_ | refine Wi ?_ ?_ | refine Ws ?_ | refine Wc ?_ ?_ | refine Wo ?_ ?_ | refine Wk ?_ | refine We ?_ ?_)
 all_goals (try simp only [List.length_cons,List.length_nil])
 all_goals grind [pre_tk,fuel,zbu,zbv,zcG,zV,zZ,List.append_assoc,zan,zP,zao,Sm,Ss,Fv,Fm,Cw,Pw,Tm,Swm,Um,Ac,Km,Gm,Pm,Rt,Tp,Rm,Rl,Om,Ol,UInt8.toNat_lt]) : G := h
end Go.Dm
end
section
set_option linter.unusedVariables false
namespace Go.Dm
def zqZ (t : Str) : Prop := t = [] ∨ (∃ q,t = 63 :: q ∧ zgl q) ∨ zj2 t
theorem path_c {s : Str} (h : zrI s) : [47].isPrefixOf s = true ∧ pqM [47] s = true := by
 obtain ⟨t,rfl,h⟩ := h
 refine ⟨rfl,?_⟩
 rw [← h]; unfold pqM; congr 1; funext c
 simp only [List.contains_cons,List.contains_nil,Bool.or_false]
theorem quer_c {s : Str} (h : zgl s) : pqM [47,63] s = true := by
 unfold zgl at h
 rw [← h]; unfold pqM; congr 1; funext c
 simp only [List.contains_cons,List.contains_nil,Bool.or_false]
theorem orig_c {s : Str} (h : zj2 s) : zrI (Go.Lib.cut s [63]).1 ∧ zgl (Go.Lib.cut s [63]).2.1 := by
 obtain ⟨p,t,rfl,h1,h2,h3⟩ := h
 rcases h3 with rfl | ⟨q,rfl,hq⟩
 ·rw [List.append_nil,cut_no 63 [] p h1]; exact ⟨h2,rfl⟩
 ·have := zvd 63 [] p q h1
  simp only [List.nil_append] at this
  rw [this]; exact ⟨h2,hq⟩
theorem zB3 {s : Str} (h : zj2 s) : ∃ t,s = 47 :: t := by
 obtain ⟨p,t,rfl,_,⟨u,rfl,_⟩,_⟩ := h
 exact ⟨u ++ t,rfl⟩
theorem pre_1 (c : UInt8) (s : Str) : ([c].isPrefixOf s = true ↔ ∃ t,s = c :: t) := by
 cases s with
 | nil => simp
 | cons x s => simp [List.isPrefixOf]; exact eq_comm
theorem low_58 {a : Str} (h : low a = [104,116,116,112] ∨ low a = [104,116,116,112,115]) : (58 : UInt8) ∉ a := by
 intro e
 have : zbr 58 ∈ low a := List.mem_map_of_mem e
 rcases h with h | h <;> (rw [h] at this; revert this; decide)
theorem zz3 {α : Type} (a t : List α) : tk (a ++ t) (a.length : Int) = a ∧ dr (a ++ t) (a.length : Int) = t := by
 unfold tk dr; simp
theorem abs_c {s : Str} (h : zyV s) : ∃ a t,(Go.Lib.cut s [58,47,47]).2 = (a ++ t,true) ∧ (zic a ∨ zjb a) ∧ zqZ t ∧ tk (a ++ t) (a.length : Int) = a ∧ dr (a ++ t) (a.length : Int) = t ∧ zdO (a ++ t) [47,63] 0 = (if t = [] then -1 else (a.length : Int)) ∧
  (low (Go.Lib.cut s [58,47,47]).1 = [104,116,116,112] ∨ low (Go.Lib.cut s [58,47,47]).1 = [104,116,116,112,115]) := by
 obtain ⟨a,h,t,rfl,ha,h1,h2,h3,h4⟩ := h
 have e := zvd 58 [47,47] a (h ++ t) (low_58 ha)
 have e2 : a ++ [58,47,47] ++ h ++ t = a ++ 58 :: ([47,47] ++ (h ++ t)) := by simp
 rw [e2,e]
 refine ⟨h,t,rfl,h3,h4,(zz3 h t).1,(zz3 h t).2,?_,ha⟩
 have := idxA [47,63] h t 0 (by intro x hx; simp; exact ⟨fun e => h1 (e ▸ hx),fun e => h2 (e ▸ hx)⟩) (by
  intro y hy
  rcases h4 with rfl | ⟨q,rfl,_⟩ | h4
  ·cases hy
  ·simp at hy; subst hy; decide
  ·obtain ⟨u,rfl⟩ := zB3 h4
   simp at hy; subst hy; decide)
 rw [this]; simp
theorem abs_h {s : Str} (h : zyV s) : s ≠ [42] ∧ ∀ t,s ≠ 47 :: t := by
 obtain ⟨a,h,t,rfl,ha,h1,h2,h3,h4⟩ := h
 have key : ∀ c,(c = 42 ∨ c = 47) → ∀ t',a ++ [58,47,47] ++ h ++ t ≠ c :: t' := by
  rintro c hc t' e
  cases a with
  | nil => rcases ha with ha | ha <;> cases ha
  | cons x a =>
   simp at e
   obtain ⟨rfl,_⟩ := e
   simp only [low,List.map_cons] at ha
   have hx : zbr x = 104 := by rcases ha with ha | ha <;> exact (List.cons.inj ha).1
   rcases hc with rfl | rfl <;> (revert hx; decide)
 exact ⟨key 42 (.inl rfl) [],key 47 (.inr rfl)⟩
theorem goT {G : Prop} (h : G := by
 (with_reducible repeat' first | intro _ | refine And.intro ?_ ?_ | refine Wf ?_ ?_ | refine Wi ?_ ?_ | refine Ws ?_ | refine Wc ?_ ?_ | refine Wo ?_ ?_ | refine Wk ?_ | refine We ?_ ?_)
 all_goals (try simp only [List.length_cons,List.length_nil])
 all_goals grind [path_c,quer_c,orig_c,zB3,zCO,abs_c,abs_h,zqZ,zCH,pre_1,zoB,fuel,zbu,zbv,zcG,zV,zZ,List.append_assoc,zan,zP,zao,Sm,Ss,Fv,Fm,Cw,Pw,Tm,Swm,Um,Ac,Km,Gm,Pm,Rt,Tp,Rm,Rl,Om,Ol,UInt8.toNat_lt]) : G := h
theorem goM {G : Prop} (h : G := by
 (with_reducible repeat' first | intro _ | refine And.intro ?_ ?_ | refine Wf ?_ ?_ | refine Wi ?_ ?_ | refine Ws ?_ | refine Wc ?_ ?_ | refine Wo ?_ ?_ | refine Wk ?_ | refine We ?_ ?_)
 all_goals (try subst_vars)
 all_goals (try simp only [List.length_cons,List.length_nil])
 all_goals grind [zCI,pqM_o,pqM_s,znn,fuel,zbu,zbv,zcG,zV,zZ,List.append_assoc,zan,zP,zao,Sm,Ss,Fv,Fm,Cw,Pw,Tm,Swm,Um,Ac,Km,Gm,Pm,Rt,Tp,Rm,Rl,Om,Ol,UInt8.toNat_lt]) : G := h
end Go.Dm
end
section
set_option linter.unusedVariables false
namespace Go.Dm
theorem zv8 {u : List Str} {l : List api_Field} {f : api_Field} (h : f ∈ zbt u l) : f ∈ l := (List.mem_filter.1 h).1
def Vb (k : Nat) (l : List api_Field) : Prop := ∀ f ∈ l,f.Value.length ≤ k
theorem Vb_n (k : Nat) : Vb k [] := fun f hf => by cases hf
theorem zDK {k : Nat} {l : List api_Field} {a v : Str} (h : Vb k l) (hv : v.length ≤ k) : Vb k (l ++ [⟨a,v⟩]) := fun f hf => by
 simp only [List.mem_append,List.mem_singleton] at hf
 rcases hf with hf | rfl
 ·exact h f hf
 ·exact hv
theorem zFn {k : Nat} {u : List Str} {l : List api_Field} (h : Vb k l) : Vb k (zbt u l) := fun f hf => h f (zv8 hf)
theorem Vb_set {k : Nat} {l : List api_Field} {i : Int} {f : api_Field} (h : Vb k l) (hv : f.Value.length ≤ k) : Vb k (l.set i.toNat f) := fun g hg => by
 rcases List.mem_or_eq_of_mem_set hg with e | e
 ·exact h g e
 ·exact e ▸ hv
theorem Vb_m {k : Nat} {l : List api_Field} {f : api_Field} (h : Vb k l) (hf : f ∈ l) : f.Value.length ≤ k := h f hf
theorem Vb_le {k m : Nat} {l : List api_Field} (h : Vb k l) (hm : k ≤ m) : Vb m l := fun f hf => Nat.le_trans (h f hf) hm
theorem Vb_i {k : Nat} {l : List api_Field} (h : ∀ f ∈ l,f.Value.length ≤ k) : Vb k l := h
theorem zsl {G : Prop} (h : G := by
 (with_reducible repeat' first | intro _ | refine And.intro ?_ ?_ | refine Wf ?_ ?_ | refine Wi ?_ ?_ | refine Ws ?_ | refine Wc ?_ ?_ | refine Wo ?_ ?_ | refine Wk ?_ | refine We ?_ ?_)
 all_goals (try simp only [List.length_cons,List.length_nil])
 all_goals grind (gen := 12) (ematch := 12) [→ zv8,Vb_n,zDK,zFn,Vb_set, → Vb_m,Vb_i,fuel,zbu,zbv,zcG,zV,zZ,List.append_assoc,vals,zan,zP,zao,Sm,Ss,Fv,Fm,Cw,Pw,Tm,Swm,Um,Ac,Km,Gm,Pm,Rt,Tp,Rm,Rl,Om,Ol,UInt8.toNat_lt]) : G := h
end Go.Dm
end
section
set_option linter.unusedVariables false
namespace Go.Dm
theorem isN_0 (m : Int) : Go.Rk.isN m 0 = decide (m = 0) := rfl
theorem isN_1 (m : Int) : Go.Rk.isN m 1 = decide (m = 1) := rfl
theorem isN_2 (m : Int) : Go.Rk.isN m 2 = decide (m = 2) := rfl
theorem isN_3 (m : Int) : Go.Rk.isN m 3 = decide (m = 3) := rfl
theorem zup {G : Prop} (h : G := by
 (with_reducible repeat' first | intro _ | refine And.intro ?_ ?_ | refine Wf ?_ ?_ | refine Wi ?_ ?_ | refine Ws ?_ | refine Wc ?_ ?_ | refine Wo ?_ ?_ | refine Wk ?_ | refine We ?_ ?_)
 all_goals (try simp only [List.length_cons,List.length_nil])
 all_goals grind (gen := 12) (ematch := 12) [isN_0,isN_1,isN_2,isN_3,fuel,zbu,zbv,zcG,zV,zZ,List.append_assoc,vals,zan,zP,zao,Sm,Ss,Fv,Fm,Cw,Pw,Tm,Swm,Um,Ac,Km,Gm,Pm,Rt,Tp,Rm,Rl,Om,Ol,UInt8.toNat_lt]) : G := h
theorem goRW {G : Prop} (h : G := by
 (with_reducible repeat' first | intro _ | refine And.intro ?_ ?_ | refine Wf ?_ ?_ | refine Wi ?_ ?_ | refine Ws ?_ | refine Wc ?_ ?_ | refine Wo ?_ ?_ | refine Wk ?_ | refine We ?_ ?_)
 all_goals (try simp only [List.length_cons,List.length_nil])
 all_goals grind (gen := 12) (ematch := 12) [→ Vb_m,Vb_i, → Vb_le,fuel,zbu,zbv,zcG,zV,zZ,List.append_assoc,vals,zan,zP,zao,Sm,Ss,Fv,Fm,Cw,Pw,Tm,Swm,Um,Ac,Km,Gm,Pm,Rt,Tp,Rm,Rl,Om,Ol,UInt8.toNat_lt]) : G := h
end Go.Dm
end
section
set_option linter.unusedVariables false
namespace Go.Dm
def zid (s : Str) : Str := s.dropWhile zhh
def ziR (s : Str) : Str := (s.reverse.dropWhile zhh).reverse
theorem zky (s : Str) (c : UInt8) : ziR (s ++ [c]) = if zhh c then ziR s else s ++ [c] := by
 unfold ziR
 rw [List.reverse_append]
 simp only [List.reverse_cons,List.reverse_nil,List.nil_append,List.singleton_append,List.dropWhile_cons]
 split <;> simp
theorem zxk (s : Str) : (s.all zhh = true ∧ ziR s = []) ∨ ∃ a c b,s = a ++ c :: b ∧ zhh c = false ∧ b.all zhh = true ∧ ziR s = a ++ [c] := by
 rw [← List.reverse_reverse s]
 generalize s.reverse = r
 induction r with
 | nil => left; exact ⟨rfl,rfl⟩
 | cons x r ih =>
  rw [List.reverse_cons,zky]
  rcases (by cases zhh x <;> simp : zhh x = true ∨ zhh x = false) with h | h
  ·rw [h]
   rcases ih with ⟨h1,h2⟩ | ⟨a,c,b,h1,h2,h3,h4⟩
   ·left; refine ⟨?_,by simpa using h2⟩
    rw [List.all_append,h1]; simp [h]
   ·right; refine ⟨a,c,b ++ [x],by rw [h1]; simp,h2,by rw [List.all_append,h3]; simp [h],by simpa using h4⟩
  ·right; exact ⟨r.reverse,x,[],rfl,h,rfl,by simp [h]⟩
theorem zBc {s : Str} (h : s.all zhh = true) : zid s = [] := by
 unfold zid
 induction s with
 | nil => rfl
 | cons x s ih =>
  simp only [List.all_cons,Bool.and_eq_true] at h
  rw [List.dropWhile_cons,h.1]
  exact ih h.2
theorem zBd {a : Str} {c : UInt8} {b : Str} (hc : zhh c = false) : zid (a ++ c :: b) = zid (a ++ [c]) ++ b := by
 unfold zid
 induction a with
 | nil => simp [List.dropWhile_cons,hc]
 | cons x a ih =>
  simp only [List.cons_append,List.dropWhile_cons]
  split
  ·exact ih
  ·simp
theorem zCP {a : Str} {c : UInt8} (hc : zhh c = false) : ∃ d,zid (a ++ [c]) = d ++ [c] := by
 unfold zid
 induction a with
 | nil => exact ⟨[],by simp [List.dropWhile_cons,hc]⟩
 | cons x a ih =>
  simp only [List.cons_append,List.dropWhile_cons]
  split
  ·exact ih
  ·exact ⟨x :: a,rfl⟩
theorem zBe {d : Str} {c : UInt8} {b : Str} (hc : zhh c = false) (hb : b.all zhh = true) : ziR (d ++ c :: b) = d ++ [c] := by
 rw [← List.reverse_reverse b] at *
 generalize b.reverse = r at *
 induction r with
 | nil => rw [List.reverse_nil,zky,hc]; rfl
 | cons x r ih =>
  rw [List.reverse_cons,List.all_append] at hb
  simp only [Bool.and_eq_true,List.all_cons,List.all_nil,Bool.and_true] at hb
  rw [List.reverse_cons, ← List.cons_append, ← List.append_assoc,zky,hb.2]
  exact ih hb.1
theorem zBf (s : Str) : ziR (zid s) = zqC s := by
 show ziR (zid s) = zid (ziR s)
 rcases zxk s with ⟨h1,h2⟩ | ⟨a,c,b,h1,h2,h3,h4⟩
 ·rw [h2,zBc h1]; rfl
 ·rw [h4,h1,zBd h2]
  obtain ⟨d,hd⟩ := zCP (a := a) h2
  rw [hd,List.append_assoc]
  exact zBe h2 h3
theorem zE5 (s : Str) : zqC s = ziR (zid s) := (zBf s).symm
theorem trl_n : zid [] = [] ∧ ziR [] = [] := ⟨rfl,rfl⟩
theorem trl_c {s : Str} {c : UInt8} (h : dr s 0 = c :: dr s (0 + 1)) : zid s = if zhh c = true then zid (dr s 1) else s := by
 have e : s = c :: dr s 1 := h
 unfold zid
 conv => lhs; rw [e,List.dropWhile_cons]
 split
 ·rfl
 ·exact e.symm
theorem trr_c {s : Str} {c : UInt8} (h : sAt s ((s.length : Int) - 1) = some c) : ziR s = if zhh c = true then ziR (tk s ((s.length : Int) - 1)) else s := by
 obtain ⟨m,rfl⟩ := zu9 h
 rw [zky]
 have e : (((m ++ [c] : Str).length : Int) - 1).toNat = m.length := by simp
 unfold tk
 rw [e,List.take_left]
theorem dig_s {d e : Int} (h : e = d + 1) (h1 : 0 ≤ d) (h2 : d < 10) : sb ([48,49,50,51,52,53,54,55,56,57,97,98,99,100,101,102] : Str) d e = [UInt8.ofNat (48 + d.toNat)] := by
 have : ∀ k : Fin 10,sb ([48,49,50,51,52,53,54,55,56,57,97,98,99,100,101,102] : Str) (k.val : Int) ((k.val : Int) + 1) = [UInt8.ofNat (48 + k.val)] := by decide
 have := this ⟨d.toNat,by omega⟩
 subst h
 rwa [show ((d.toNat : Nat) : Int) = d by omega] at this
theorem dec_b {x : Int} (h0 : 0 ≤ x) : (x < 10 → Go.Lib.decDigits x.toNat = [UInt8.ofNat (48 + x.toNat)]) ∧ (10 ≤ x → Go.Lib.decDigits x.toNat = Go.Lib.decDigits (x / 10).toNat ++ [UInt8.ofNat (48 + (x % 10).toNat)]) := by
 constructor
 ·intro h; rw [Go.Lib.decDigits,dif_pos (by omega)]
 ·intro h; rw [Go.Lib.decDigits,dif_neg (by omega),show x.toNat / 10 = (x / 10).toNat by omega,show x.toNat % 10 = (x % 10).toNat by omega]
instance (m : Int) : T (zsy m 10) (0 ≤ m ∧ m ≤ 9223372036854775807) (fun r => r = m % 10) := ⟨fun ⟨h1,h2⟩ => ⟨m % 10,by rw [zsy,if_pos ⟨h1,by decide,by simp [inI]; omega⟩],rfl⟩⟩
theorem zCQ : ∀ (k n : Nat) (x : Int),k ≤ n → 1 ≤ k → 0 ≤ x → x < (10 ^ k : Nat) → x ≤ 9223372036854775807 → k ≤ 20 → W (zcu n x 10) (fun r => r = Go.Lib.decDigits x.toNat ∧ r.length ≤ k)
 | 0,n,x,_,h,_,_,_,_ => absurd h (by decide)
 | k + 1,0,x,h,_,_,_,_,_ => absurd h (by omega)
 | k + 1,n + 1,x,hn,_,h0,h,hm,h20 => by
  have hb := dec_b h0
  unfold zcu
  by_cases hx : x < 10
  ·have hs := dig_s (d := x) rfl h0 hx
   have hb := hb.1 hx
   rw [if_pos (by simpa using hx)]
   (with_reducible repeat' first | intro _ | refine And.intro ?_ ?_ | refine Wi ?_ ?_ | refine Ws ?_ | refine Wc ?_ ?_)
   all_goals (try simp only [List.length_cons,List.length_nil])
   all_goals grind
  ·have hk1 : 1 ≤ k := by
    cases k with
    | zero => simp at h; omega
    | succ k => omega
   have h' : x < (10 ^ k : Nat) * 10 := by rw [Nat.pow_succ] at h; omega
   have ih := zCQ k n (x / 10) (by omega) hk1 (Int.ediv_nonneg h0 (by decide)) (Int.ediv_lt_of_lt_mul (by decide) h') (by omega) (by omega)
   have hb := hb.2 (by omega)
   have hd : zwm x 10 = some (x / 10) := by rw [zwm,if_pos ⟨h0,by decide,by simp [inI]; omega⟩]
   have hs := dig_s (d := x % 10) rfl (by omega) (by omega)
   obtain ⟨r,e,hr,hl⟩ := ih
   rw [if_neg (by simpa using hx),hd]
   show W ((zcu n (x / 10) 10).bind _) _
   rw [e]
   show W ((zsy x 10).bind _) _
   (with_reducible repeat' first | intro _ | refine And.intro ?_ ?_ | refine Wi ?_ ?_ | refine Ws ?_ | refine Wc ?_ ?_)
   all_goals (try simp only [List.length_cons,List.length_nil])
   all_goals grind
def ptR (s : Str) (b : UInt8) (o : List Str) (fr i : Int) : List Str := o ++ zhi (sb s fr i) (zk b (dr s i))
theorem pt_e {s : Str} {b : UInt8} {o : List Str} {fr i : Int} (h : (s.length : Int) ≤ i) : ptR s b o fr i = o ++ [dr s fr] := by
 unfold ptR; rw [zV h,sb_e h,zk,zhi,List.append_nil]
theorem pt_c {s : Str} {b : UInt8} {o : List Str} {fr i : Int} (h : dr s i = b :: dr s (i + 1)) : ptR s b o fr i = ptR s b (o ++ [sb s fr i]) (i + 1) (i + 1) := by
 unfold ptR
 rw [h,ze1,if_pos rfl,zpO,znW _ (zbs _ _),zhi]
 simp
theorem pt_o {s : Str} {b x : UInt8} {o : List Str} {fr i : Int} (h0 : 0 ≤ fr) (h1 : fr ≤ i) (h : dr s i = x :: dr s (i + 1)) (hx : x ≠ b) : ptR s b o fr i = ptR s b o fr (i + 1) := by
 have hl := zg0 (by omega) h
 unfold ptR
 rw [h,ze1,if_neg hx,znq _ _ _ (zbs _ _),zyq h0 h1 (by omega : i ≤ i + 1) (by omega),h]
 simp
theorem pt_0 (s : Str) (b : UInt8) : ptR s b [] 0 0 = zk b s := by
 unfold ptR; rw [zpO,zcG,znW _ (zbs _ _)]; rfl
theorem less_v {p : Str} {m : Int} (hm : m = 255 ∨ m = 599 ∨ m = 65535) (h : p.all zag = true) :
  (Go.Lib.decDigits m.toNat).length ≤ 5 ∧ (¬ (Go.Lib.decDigits m.toNat).length < p.length → ((Go.Lib.decDigits m.toNat).length = p.length → zg1 (Go.Lib.decDigits m.toNat) p = false) → p.length ≤ 5 ∧ dvI 0 p ≤ m) := by
 have e1 : Go.Lib.decDigits 255 = [50,53,53] := by simp [Go.Lib.decDigits]
 have e2 : Go.Lib.decDigits 599 = [53,57,57] := by simp [Go.Lib.decDigits]
 have e3 : Go.Lib.decDigits 65535 = [54,53,53,51,53] := by simp [Go.Lib.decDigits]
 have dr : ∀ b ∈ p,48 ≤ b.toNat ∧ b.toNat ≤ 57 := fun b hb => zCK b (List.all_eq_true.1 h b hb)
 have lt : ∀ a b : UInt8,(a < b) ↔ a.toNat < b.toNat := fun a b => Iff.rfl
 have eq : ∀ a b : UInt8,(a == b) = true ↔ a.toNat = b.toNat := fun a b => by rw [beq_iff_eq]; exact ⟨fun e => e ▸ rfl,UInt8.toNat_inj.1⟩
 match p with
 | [] => rcases hm with rfl | rfl | rfl <;> simp [e1,e2,e3,dvI]
 | [a] => have := dr a (by simp); rcases hm with rfl | rfl | rfl <;> simp [e1,e2,e3,dvI] <;> omega
 | [a,b] => have := dr a (by simp); have := dr b (by simp); rcases hm with rfl | rfl | rfl <;> simp [e1,e2,e3,dvI] <;> omega
 | [a,b,c] =>
  have := dr a (by simp); have := dr b (by simp); have := dr c (by simp)
  rcases hm with rfl | rfl | rfl
  ·simp only [show (255 : Int).toNat = 255 from rfl,e1,List.length_cons,List.length_nil]
   refine ⟨by omega,fun _ hs => ⟨by omega,?_⟩⟩
   have hs := hs trivial
   simp only [zg1,Bool.or_eq_false_iff,Bool.and_eq_false_iff,decide_eq_false_iff_not,lt,beq_eq_false_iff_ne,ne_eq, ← UInt8.toNat_inj] at hs
   simp only [dvI]; simp at hs ⊢; omega
  ·simp only [show (599 : Int).toNat = 599 from rfl,e2,List.length_cons,List.length_nil]
   refine ⟨by omega,fun _ hs => ⟨by omega,?_⟩⟩
   have hs := hs trivial
   simp only [zg1,Bool.or_eq_false_iff,Bool.and_eq_false_iff,decide_eq_false_iff_not,lt,beq_eq_false_iff_ne,ne_eq, ← UInt8.toNat_inj] at hs
   simp only [dvI]; simp at hs ⊢; omega
  ·simp only [show (65535 : Int).toNat = 65535 from rfl,e3,List.length_cons,List.length_nil]
   refine ⟨by omega,fun _ hs => ⟨by omega,?_⟩⟩
   simp only [dvI]; omega
 | [a,b,c,d] =>
  have := dr a (by simp); have := dr b (by simp); have := dr c (by simp); have := dr d (by simp)
  rcases hm with rfl | rfl | rfl
  ·simp [e1]
  ·simp [e2]
  ·simp [e3,dvI]; omega
 | [a,b,c,d,e] =>
  have := dr a (by simp); have := dr b (by simp); have := dr c (by simp); have := dr d (by simp); have := dr e (by simp)
  rcases hm with rfl | rfl | rfl
  ·simp [e1]
  ·simp [e2]
  ·simp only [show (65535 : Int).toNat = 65535 from rfl,e3,List.length_cons,List.length_nil]
   refine ⟨by omega,fun _ hs => ⟨by omega,?_⟩⟩
   have hs := hs trivial
   simp only [zg1,Bool.or_eq_false_iff,Bool.and_eq_false_iff,decide_eq_false_iff_not,lt,beq_eq_false_iff_ne,ne_eq, ← UInt8.toNat_inj] at hs
   simp only [dvI]; simp at hs ⊢; omega
 | a :: b :: c :: d :: e :: f :: t => rcases hm with rfl | rfl | rfl <;> simp [e1,e2,e3]
def zvg (a b : Str) : Prop := ∃ i j,Grp false (spt a) i ∧ Grp true (spt b) j ∧ i + j ≤ 7
def ztm (s : Str) (i : Int) : Prop := match zj1 (dr s i) with
 | none => Grp true (zk 58 s) 8
 | some (a,b) => zvg (tk s i ++ a) b
theorem sixA_n {s : Str} {i : Int} (h : (dr s i).length ≤ 1) (hg : Grp true (zk 58 s) 8) : ztm s i := by
 have : zj1 (dr s i) = none := by
  match dr s i,h with
  | [],_ => rfl
  | [c],_ => simp [zj1]
 unfold ztm; rw [this]; exact hg
theorem sixA_s {s : Str} {i : Int} {c : UInt8} (h0 : 0 ≤ i) (h : dr s i = c :: dr s (i + 1)) (hc : c ≠ 58 ∨ ∀ t,dr s (i + 1) ≠ 58 :: t) (hs : ztm s (i + 1)) : ztm s i := by
 have e : zj1 (dr s i) = (zj1 (dr s (i + 1))).map fun p => (c :: p.1,p.2) := by
  rw [h]; exact zj1.eq_2 _ _ (fun t a b => by rcases hc with hc | hc; exact hc a; exact hc t b)
 unfold ztm at hs ⊢
 rw [e]
 cases e2 : zj1 (dr s (i + 1)) with
 | none => rw [e2] at hs; exact hs
 | some p =>
  rw [e2] at hs
  simp only [Option.map_some]
  have := zqD h0 h
  replace hs : zvg (tk s (i + 1) ++ p.1) p.2 := hs
  rw [this,List.append_assoc] at hs
  exact hs
theorem sixA_w {s : Str} {i : Int} (h0 : 0 ≤ i) (h : dr s i = 58 :: dr s (i + 1)) (h2 : dr s (i + 1) = 58 :: dr s (i + 1 + 1)) (hs : zvg (tk s i) (dr s (i + 2))) : ztm s i := by
 unfold ztm
 rw [h,h2,show i + 1 + 1 = i + 2 by omega]
 simp only [zj1,List.append_nil]; exact hs
theorem sixA_0 {s : Str} (h : ztm s 0) : zvc s := by
 unfold ztm at h
 unfold zvc
 rw [zcG] at h
 cases e : zj1 s with
 | none =>
  rw [e] at h
  unfold spt
  by_cases hs : s = []
  ·subst hs
   simp only [zk] at h
   rw [Grp_c] at h
   rcases h with ⟨_,_,h,_⟩ | ⟨h,_⟩
   ·cases h
   ·exact absurd h (by decide)
  ·rw [if_neg hs]; exact h
 | some p => rw [e] at h; exact h
theorem spt_z {t u : Str} {a : List Str} {n : Int} (h0 : 0 ≤ n) (ht : spt t = a ++ List.replicate n.toNat [48]) :
  (t = [] → u = t → spt (u ++ [48]) = a ++ List.replicate (n + 1).toNat [48]) ∧ (t ≠ [] → u = t ++ [58] → spt (u ++ [48]) = a ++ List.replicate (n + 1).toNat [48]) := by
 have e : (n + 1).toNat = n.toNat + 1 := by omega
 have z : spt [48] = [[48]] := by decide
 have := zxj (t := t) (x := [48]) (by simp)
 rw [ht,z] at this
 constructor
 ·rintro rfl rfl
  rw [if_pos rfl] at this
  rw [this,e,List.replicate_succ',List.append_assoc]
 ·rintro h rfl
  rw [if_neg h] at this
  rw [this,e,List.replicate_succ',List.append_assoc]
theorem six_e {t a b : Str} {n : Int} (hn : 1 ≤ n) (ht : spt t = spt a ++ List.replicate n.toNat [48]) :
  (b = [] → Grp true (zk 58 t) 8 → zvg a b) ∧ (b ≠ [] → Grp true (zk 58 (t ++ [58] ++ b)) 8 → zvg a b) := by
 have hne : t ≠ [] := by
  rintro rfl
  have : (spt []).length = 0 := rfl
  rw [ht] at this; simp at this; omega
 constructor
 ·rintro rfl h
  refine zAk (n := n.toNat) (by omega) ?_
  rw [← ht]; unfold spt; rw [if_neg hne,if_pos rfl,List.append_nil]; exact h
 ·intro hb h
  refine zAk (n := n.toNat) (by omega) ?_
  rw [← ht]
  have := zxj (t := t) (x := b) hb
  rw [if_neg hne] at this
  rw [← this]
  unfold spt
  rw [if_neg (by simp)]; exact h
def GT (l : List Str) (a : Int) : Prop := ∃ k : Nat,Grp true l k ∧ a + k = 8
theorem GT_e {a : Int} (h : a = 8) : GT [] a := ⟨0, .nil _,by omega⟩
theorem GT_4 {a : Int} {s : Str} (h : GT [] (a + 2)) (h4 : zj0 s) : GT [s] a := ⟨2, .four s h4,by obtain ⟨k,h1,h2⟩ := h; cases h1; omega⟩
theorem GT_h {a : Int} {s : Str} {l : List Str} (h : zvb s = true) (g : GT l (a + 1)) : GT (s :: l) a := by
 obtain ⟨k,h1,h2⟩ := g
 exact ⟨k + 1, .hex _ s l k h h1,by omega⟩
theorem GT_0 {l : List Str} (h : GT l 0) : Grp true l 8 := by
 obtain ⟨k,h1,h2⟩ := h
 have : k = 8 := by omega
 exact this ▸ h1
def hxs (s : Str) : Bool := s.all ziF
theorem hxs_a (s t : Str) : hxs (s ++ t) = (hxs s && hxs t) := List.all_append
theorem hxs_1 (c : UInt8) : hxs [c] = ziF c := by simp [hxs]
theorem hxs_0 (s : Str) : hxs (tk s 0) = true := rfl
def elt (l : List Str) (i : Int) : Str := (lAt l i).getD []
theorem zxl {l : List Str} {i : Int} {r : Str} (h : lAt l i = some r) : elt l i = r := by unfold elt; rw [h]; rfl
theorem elt_m {l : List Str} {i : Int} (h0 : 0 ≤ i) (h : i < l.length) : elt l i ∈ l := by
 have h3 : i.toNat < l.length := by omega
 have : lAt l i = some l[i.toNat] := by simp [lAt,h0,h3]
 rw [zxl this]; exact List.getElem_mem h3
theorem hex_i {x : Str} {i : Int} (h : hxs (tk x i) = true) (h0 : (x.length : Int) ≤ i) (h1 : 1 ≤ x.length) (h2 : x.length ≤ 4) : zvb x = true := by
 rw [zzH h0] at h
 unfold hxs at h
 unfold zvb; rw [h]; simp [h1,h2]
def SZ (s : Str) (i n : Int) (t : Str) : Prop := spt t = spt (tk s i) ++ List.replicate n.toNat [48]
theorem SZ_0 {s : Str} {i : Int} : SZ s i 0 (tk s i) := by unfold SZ; simp
theorem SZ_a {s : Str} {i n : Int} {t : Str} (h : SZ s i n t) (h0 : 0 ≤ n) (ht : t ≠ []) : SZ s i (n + 1) ((t ++ [58]) ++ [48]) := (spt_z h0 h).2 ht rfl
theorem SZ_b {s : Str} {i n : Int} {t : Str} (h : SZ s i n t) (h0 : 0 ≤ n) (ht : t = []) : SZ s i (n + 1) (t ++ [48]) := (spt_z h0 h).1 ht rfl
theorem SZ_e {s : Str} {i n : Int} {t : Str} (h : SZ s i n t) (h1 : 1 ≤ n) : (dr s (i + 2) = [] → Grp true (zk 58 t) 8 → zvg (tk s i) (dr s (i + 2))) ∧
  (dr s (i + 2) ≠ [] → Grp true (zk 58 ((t ++ [58]) ++ dr s (i + 2))) 8 → zvg (tk s i) (dr s (i + 2))) := six_e h1 h
theorem four_i {s : Str} (h : (zk 46 s).length = 4) (h2 : ∀ x ∈ zk 46 s,zfP x 255) : zj0 s := ⟨h,h2⟩
theorem zAq {n m : Int} {s : Str} (h0 : 0 ≤ n) (h : n ≤ m) (e : Go.Lib.decDigits n.toNat = s) : zfP s m := e ▸ zAj h0 h
theorem nm_3 {s : Str} {i : Int} {a b : UInt8} (h : dr s i = 37 :: dr s (i + 1)) (ha : dr s (i + 1) = a :: dr s (i + 1 + 1)) (hb : dr s (i + 2) = b :: dr s (i + 2 + 1)) : zhO (dr s i) = (ziF a && ziF b && zhO (dr s (i + 3))) := by
 rw [h,ha,show i + 1 + 1 = i + 2 by omega,hb,nm_p,show i + 2 + 1 = i + 3 by omega]
theorem zCR {s : Str} {m : Str} (h0 : sAt s 0 = some 91) (h1 : sAt s ((s.length : Int) - 1) = some 93) (h2 : 2 < (s.length : Int)) (hm : m = sb s 1 ((s.length : Int) - 1)) (h6 : zvc m) : zic s := by
 obtain ⟨q,rfl⟩ := zu9 h1
 cases q with
 | nil => simp at h2
 | cons x q =>
  have hx : x = 91 := by simpa [sAt] using h0
  subst hx
  have e : sb (91 :: q ++ [93]) 1 (((91 :: q ++ [93] : Str).length : Int) - 1) = q := by
   have e2 : (((91 :: q ++ [93] : Str).length : Int) - 1).toNat = q.length + 1 := by simp
   unfold sb
   rw [e2]; simp
  rw [e] at hm
  subst hm
  exact .inl ⟨m,by rintro rfl; simp at h2,rfl,h6⟩
theorem zCS {s : Str} (h : zj0 s ∨ zhO s = true ∧ s ≠ []) : zic s := h.elim (fun h => .inr (.inl h)) fun h => .inr (.inr ⟨h.2,h.1⟩)
theorem zCT {s : Str} {i : Int} (h0 : 0 ≤ i) (h : dr s i = 58 :: dr s (i + 1)) (hn : (58 : UInt8) ∉ dr s (i + 1)) (ha : zic (tk s i)) (hp : zfP (dr s (i + 1)) 65535) : zjb s :=
 ⟨_,_,(zva h0 h).2,hn,ha,hp⟩
theorem no_58 {s : Str} {i : Int} {c x : UInt8} (h : dr s i = x :: dr s (i + 1)) (hx : x ≠ c) (hn : c ∉ dr s (i + 1)) : c ∉ dr s i := by
 rw [h]; simp; exact ⟨fun e => hx e.symm,hn⟩
theorem less_d {p : Str} {m : Int} (hm : m = 255 ∨ m = 599 ∨ m = 65535) (h : dgs p = true) :
  (Go.Lib.decDigits m.toNat).length ≤ 5 ∧ (¬ (Go.Lib.decDigits m.toNat).length < p.length → ((Go.Lib.decDigits m.toNat).length = p.length → zg1 (Go.Lib.decDigits m.toNat) p = false) → p.length ≤ 5 ∧ dvI 0 p ≤ m) := less_v hm h
theorem zoD (c : UInt8) {s : Str} (h : s.length < 900000000) : Sm (zk c s) ∧ (zk c s).length ≤ 900000001 ∧ ∀ x ∈ zk c s,x.length ≤ s.length := by
 have a := zo4 c s
 exact ⟨⟨by omega,fun x hx => by have := a.2 x hx; omega⟩,by omega,a.2⟩
theorem cd48 : zag 48 = true := by decide
theorem goR {G : Prop} (h : G := by
 (with_reducible repeat' first | intro _ | refine And.intro ?_ ?_ | refine Wf ?_ ?_ | refine Wi ?_ ?_ | refine Ws ?_ | refine Wc ?_ ?_ | refine Wo ?_ ?_ | refine Wk ?_ | refine We ?_ ?_)
 all_goals (try simp only [List.length_cons,List.length_nil])
 all_goals grind [zoD,GT_e,GT_4,GT_h,GT_0,hex_i,hxs_a,hxs_1,hxs_0,elt_m, → zxl,four_i,zAq,sixA_n,sixA_s,sixA_w,sixA_0,SZ_0, → SZ_a, → SZ_b, → SZ_e,nm_3,nm_o,zCR,zCS,zCT,no_58, → zqD,zsv,zg0,fuel,zbu,zbv,zcG,zV,zZ,List.append_assoc,vals,zan,zP,zao,Sm,Ss,Fv,Fm,Cw,Pw,Tm,Swm,Um,Ac,Km,Gm,Pm,Rt,Tp,Rm,Rl,Om,Ol,UInt8.toNat_lt]) : G := h
theorem zyX {G : Prop} (h : G := by
 (with_reducible repeat' first | intro _ | refine And.intro ?_ ?_ | refine Wf ?_ ?_ | refine Wi ?_ ?_ | refine Ws ?_ | refine Wc ?_ ?_ | refine Wo ?_ ?_ | refine Wk ?_ | refine We ?_ ?_)
 all_goals (try simp only [List.length_cons,List.length_nil])
 all_goals grind [cd48,zCF,zCE,dgs_c,dgs_a,less_d,dvI,zCG,zAq,fuel,zbu,zbv,zcG,zV,zZ,List.append_assoc,vals,zan,zP,zao,Sm,Ss,Fv,Fm,Cw,Pw,Tm,Swm,Um,Ac,Km,Gm,Pm,Rt,Tp,Rm,Rl,Om,Ol,UInt8.toNat_lt]) : G := h
theorem zxm {G : Prop} (h : G := by
 (with_reducible repeat' first | intro _ | refine And.intro ?_ ?_ | refine Wf ?_ ?_ | refine Wi ?_ ?_ | refine Ws ?_ | refine Wc ?_ ?_ | refine Wo ?_ ?_ | refine Wk ?_ | refine We ?_ ?_)
 all_goals (try simp only [List.length_cons,List.length_nil])
 all_goals grind [zbc,pt_e,pt_c,pt_o,pt_0,zg0,fuel,zbu,zbv,zcG,zV,zZ,List.append_assoc,vals,zan,zP,zao,Sm,Ss,Fv,Fm,Cw,Pw,Tm,Swm,Um,Ac,Km,Gm,Pm,Rt,Tp,Rm,Rl,Om,Ol,UInt8.toNat_lt]) : G := h
end Go.Dm
end
section
set_option linter.unusedVariables false
namespace Go.Dm
theorem goS {G : Prop} (h : G := by
 (with_reducible repeat' first | intro _ | refine And.intro ?_ ?_ | refine Wf ?_ ?_ | refine Wi ?_ ?_ | refine Ws ?_ | refine Wc ?_ ?_ | refine Wo ?_ ?_ | refine Wk ?_ | refine We ?_ ?_)
 all_goals (try subst_vars)
 all_goals (try simp only [List.length_cons,List.length_nil])
 all_goals grind [nm_e,nm_3,nm_o,zCR,zCS,zCT,no_58, → zqD,zsv,zg0,zpO,fuel,zbu,zbv,zcG,zV,zZ,List.append_assoc,vals,zan,zP,zao,Sm,Ss,Fv,Fm,Cw,Pw,Tm,Swm,Um,Ac,Km,Gm,Pm,Rt,Tp,Rm,Rl,Om,Ol,UInt8.toNat_lt]) : G := h
end Go.Dm
end
section
set_option linter.unusedVariables false
namespace Go.Dm
theorem pqM_3 {s m : Str} {a b : UInt8} (h : dr s 0 = 37 :: dr s (0 + 1)) (ha : dr s 1 = a :: dr s (1 + 1)) (hb : dr s 2 = b :: dr s (2 + 1)) : pqM m s = (ziF a && ziF b && pqM m (dr s 3)) := by
 have e : s = 37 :: a :: b :: dr s 3 := by
  have h1 : s = 37 :: dr s 1 := h
  have h2 : dr s 1 = a :: dr s 2 := ha
  have h3 : dr s 2 = b :: dr s 3 := hb
  rw [← h3, ← h2]; exact h1
 conv => lhs; rw [e]
 exact pq_p _ a b _
theorem pqM_2 {s m : Str} {a : UInt8} (h : dr s 0 = 37 :: dr s (0 + 1)) (ha : dr s 1 = a :: dr s (1 + 1)) (hl : 2 < (s.length : Int)) (hx : ziF a = false) : pqM m s = false := by
 obtain ⟨b,e,hb⟩ := (inferInstance : T (sAt s 2) _ _).ok ⟨by decide,hl⟩
 rw [pqM_3 h ha hb.2.2,hx]; rfl
theorem tail_0 {t : Str} (h : t = []) : zqZ t := .inl h
theorem tail_q {q : Str} (h : zgl q) : zqZ (63 :: q) := .inr (.inl ⟨q,rfl,h⟩)
theorem tail_o {t : Str} (h : zj2 t) : zqZ t := .inr (.inr h)
theorem pqM_l {s m : Str} (h : dr s 0 = 37 :: dr s (0 + 1)) (hl : (s.length : Int) ≤ 2) : pqM m s = false := by
 have e : s = 37 :: dr s 1 := h
 generalize dr s 1 = t at e
 subst e
 match t,hl with
 | [],_ => exact (pq_1 _ 0).2
 | [a],_ => exact (pq_1 _ a).1
 | _ :: _ :: _,hl => simp at hl; omega
theorem pqM_c {s m : Str} {c : UInt8} (h : dr s 0 = c :: dr s (0 + 1)) (hc : c ≠ 37) : pqM m s = ((zsu c || m.contains c) && pqM m (dr s 1)) := by
 have e : s = c :: dr s 1 := h
 conv => lhs; rw [e]
 exact pq_o _ c _ hc
theorem zCY {s : Str} (h : dr s 0 = 47 :: dr s (0 + 1)) (h2 : pqM [47] s = true) : zrI s := by
 refine ⟨dr s 1,h,?_⟩
 rw [← h2]; unfold pqM; congr 1; funext c
 simp only [List.contains_cons,List.contains_nil,Bool.or_false]
theorem zCZ {s : Str} (h2 : pqM [47,63] s = true) : zgl s := by
 unfold zgl
 rw [← h2]; unfold pqM; congr 1; funext c
 simp only [List.contains_cons,List.contains_nil,Bool.or_false]
theorem orig_i {s : Str} {r : Int} (h : 63 ∉ tk s r) (hp : zrI (tk s r)) : ((s.length : Int) ≤ r → zj2 s) ∧ (dr s r = 63 :: dr s (r + 1) → zgl (dr s (r + 1)) → zj2 s) := by
 refine ⟨fun h0 => ⟨tk s r,dr s r,(zp3 s r).symm,h,hp, .inl (zV h0)⟩,fun e hq => ⟨tk s r,dr s r,(zp3 s r).symm,h,hp, .inr ⟨_,e,hq⟩⟩⟩
def absT (s : Str) : Prop := ∃ h t,s = h ++ t ∧ 47 ∉ h ∧ 63 ∉ h ∧ (zic h ∨ zjb h) ∧ zqZ t
theorem absT_i {s : Str} {i : Int} (h1 : 47 ∉ tk s i) (h2 : 63 ∉ tk s i) (h3 : zic (tk s i) ∨ zjb (tk s i)) (h4 : zqZ (dr s i)) : absT s :=
 ⟨_,_,(zp3 s i).symm,h1,h2,h3,h4⟩
theorem zE6 {s u : Str} {c : Str} (hc : c.all (fun b => (List.range 256).all fun n => zbr (UInt8.ofNat n) != b || UInt8.ofNat n == b) = true) (h : low s = u ++ c) : ∃ a,s = a ++ c ∧ low a = u := by
 obtain ⟨a,b,rfl,ha,hb⟩ := List.map_eq_append_iff.1 h
 have : ∀ (b c : Str),c.all (fun b => (List.range 256).all fun n => zbr (UInt8.ofNat n) != b || UInt8.ofNat n == b) = true → b.map zbr = c → b = c := by
  intro b
  induction b with
  | nil => intro c _ h; exact h
  | cons x b ih =>
   intro c hc h
   cases c with
   | nil => cases h
   | cons y c =>
    rw [List.all_cons,Bool.and_eq_true] at hc
    simp only [List.map_cons,List.cons.injEq] at h
    have := zeG (p := fun x => zbr x != y || x == y) hc.1 x
    simp [h.1] at this
    rw [this,ih c hc.2 h.2]
 exact ⟨a,by rw [this b c hc hb],ha⟩
theorem abs_i {s x : Str} {n : Int} (hx : x = [104,116,116,112] ∨ x = [104,116,116,112,115]) (h : low (tk s n) = x ++ [58,47,47]) (ht : absT (dr s n)) : zyV s := by
 obtain ⟨a,e,ha⟩ := zE6 (by decide +kernel) h
 obtain ⟨u,t,e2,h1,h2,h3,h4⟩ := ht
 refine ⟨a,u,t,?_,ha ▸ hx,h1,h2,h3,h4⟩
 rw [← zp3 s n,e,e2]; simp
def fl : Nat → UInt8 → Str → Int → Option Str
 | 0,_,_,_ => none
 | n + 1,c,s5,i6 => if (decide (i6 < 26)) then (sAt [65,66,67,68,69,70,71,72,73,74,75,76,77,78,79,80,81,82,83,84,85,86,87,88,89,90] i6).bind fun r1 => if (r1 == c) then (zn i6 1).bind fun r3 => (zi3 [97,98,99,100,101,102,103,104,105,106,107,108,109,110,111,112,113,114,115,116,117,118,119,120,121,122] i6 r3).bind fun r4 => (zn i6 1).bind fun r5 => fl n c r4 r5 else (zn i6 1).bind fun r6 => fl n c s5 r6 else some s5
theorem bnd {α β γ : Type} (o : Option α) (f : α → Option β) (g : β → Option γ) : (o.bind f).bind g = o.bind fun x => (f x).bind g := by cases o <;> rfl
theorem zC0 (k0 : Str → Int → Option Str) (s0 s3 : Str) (i4 : Int) (c : UInt8) (h : sAt s0 i4 = some c) : ∀ (n : Nat) (s5 : Str) (i6 : Int),
  zda k0 s0 s3 i4 n s5 i6 = (fl n c s5 i6).bind fun s => (zcI s3 s).bind fun r7 => (zn i4 1).bind fun r8 => k0 r7 r8
 | 0,s5,i6 => rfl
 | n + 1,s5,i6 => by
  unfold zda fl
  have h2 : ∀ (f : UInt8 → Option Str),(sAt s0 i4).bind f = f c := fun f => by rw [h]; rfl
  split
  ·rw [bnd]
   congr 1; funext r1
   rw [h2]
   split
   ·rw [bnd]; congr 1; funext r3
    rw [bnd]; congr 1; funext r4
    rw [bnd]; congr 1; funext r5
    exact zC0 k0 s0 s3 i4 c h n r4 r5
   ·rw [bnd]; congr 1; funext r3
    exact zC0 k0 s0 s3 i4 c h n s5 r3
  ·rfl
theorem fl_v (c : UInt8) : fl fuel c [c] 0 = some [zbr c] := by
 have := zeG (p := fun c => fl fuel c [c] 0 == some [zbr c]) (by decide +kernel) c
 simpa using this
theorem low_n : low [] = [] := rfl
theorem low_c (c : UInt8) (s : Str) : low (c :: s) = zbr c :: low s := rfl
def vls (s : Str) : Bool := s.all zyo
theorem vls_n : vls [] = true := rfl
theorem vls_c (c : UInt8) (s : Str) : vls (c :: s) = (zyo c && vls s) := List.all_cons
def zx1 (f : api_Field) : Prop := zbc f.Name = true ∧ vls f.Value = true ∧ zqC f.Value = f.Value
def slP (h : api_Head) : Prop := (h.Kind = 1 ∧ zbc h.Method = true ∧ zoB h.Method h.Target ∧ (h.Minor = 0 ∨ h.Minor = 1) ∧ h.Code = 0 ∧ h.Reason = [] ∧ 32 ∉ h.Target ∧ 10 ∉ h.Target ∧ 13 ∉ h.Target) ∨
 (h.Kind = 2 ∧ h.Method = [] ∧ h.Target = [] ∧ (h.Minor = 0 ∨ h.Minor = 1) ∧ 100 ≤ h.Code ∧ h.Code ≤ 599 ∧ vls h.Reason = true)
def zx2 : Str := [104,111,115,116]
def whP (h : api_Head) : Prop := h.Fields.length ≤ 100 ∧ (h.Kind ≠ 2 → (vals zx2 h.Fields).length ≤ 1 ∧ (h.Minor = 1 → 1 ≤ (vals zx2 h.Fields).length) ∧ ∀ v ∈ vals zx2 h.Fields,v = [] ∨ zic v ∨ zjb v)
def hokP (h : api_Head) : Prop := slP h ∧ (∀ f ∈ h.Fields,zx1 f) ∧ whP h
theorem one_m {l : List Str} {x : Str} (h : l.length ≤ 1) (hx : lAt l 0 = some x) : ∀ v ∈ l,v = x := by
 match l,h with
 | [],_ => simp
 | [a],_ => simp [lAt] at hx; simp [hx]
theorem sp_len {c : UInt8} {s : Str} : ∀ {l : List Str},l = zk c s → 3 ≤ l.length → ∀ a b,lAt l 0 = some a → lAt l 1 = some b → a.length + b.length + 2 ≤ s.length := by
 have key : ∀ s : Str, ∀ (a b : Str) (t : List Str),zk c s = a :: b :: t → a.length + 1 + b.length ≤ s.length ∧ (t ≠ [] → a.length + 1 + b.length + 1 ≤ s.length) := by
  have one : ∀ s : Str, ∀ (a : Str) (t : List Str),zk c s = a :: t → a.length ≤ s.length ∧ (t ≠ [] → a.length + 1 ≤ s.length) := by
   intro s
   induction s with
   | nil => intro a t h; simp [zk] at h; obtain ⟨rfl,rfl⟩ := h; simp
   | cons x s ih =>
    intro a t h
    rw [zk] at h
    split at h
    ·obtain ⟨rfl,rfl⟩ := List.cons.inj h; simp
    ·have ne := zbs c s
     cases e : zk c s with
     | nil => exact absurd e ne
     | cons p l =>
      rw [e] at h
      obtain ⟨rfl,rfl⟩ := List.cons.inj h
      have := ih p l e
      simp
      exact ⟨this.1,fun h => by have := this.2 h; omega⟩
  intro s
  induction s with
  | nil => intro a b t h; simp [zk] at h
  | cons x s ih =>
   intro a b t h
   rw [zk] at h
   split at h
   ·obtain ⟨rfl,h'⟩ := List.cons.inj h
    have := one s b t h'
    simp
    exact ⟨by omega,fun h => by have := this.2 h; omega⟩
   ·have ne := zbs c s
    cases e : zk c s with
    | nil => exact absurd e ne
    | cons p l =>
     rw [e] at h
     obtain ⟨rfl,rfl⟩ := List.cons.inj h
     have := ih p b t e
     simp
     exact ⟨by omega,fun h => by have := this.2 h; omega⟩
 rintro l rfl h3 a b ha hb
 match e : zk c s,h3 with
 | p :: q :: u :: t,_ =>
  rw [e] at ha hb
  simp [lAt] at ha hb
  subst ha hb
  have := (key s p q (u :: t) e).2 (by simp)
  omega
theorem zE8 {c : UInt8} {s a b : Str} (h3 : 3 ≤ (zk c s).length) (ha : lAt (zk c s) 0 = some a) (hb : lAt (zk c s) 1 = some b) : a.length + b.length + 2 ≤ s.length := sp_len rfl h3 a b ha hb
theorem zE9 (c : UInt8) (s : Str) (h3 : 3 ≤ (zk c s).length) : ∃ k : Nat,(elt (zk c s) 0).length + (elt (zk c s) 1).length + 2 + k = s.length := by
 have a := elt_m (l := zk c s) (i := 0) (by decide) (by omega)
 obtain ⟨x,e,_⟩ := (inferInstance : T (lAt (zk c s) 0) _ _).ok ⟨by decide,by omega⟩
 obtain ⟨y,e2,_⟩ := (inferInstance : T (lAt (zk c s) 1) _ _).ok ⟨by decide,by omega⟩
 have := zE8 h3 e e2
 rw [zxl e,zxl e2]
 exact ⟨s.length - (x.length + y.length + 2),by omega⟩
theorem zC1 {c : UInt8} {s p : Str} (h : p ∈ zk c s) : c ∉ p ∧ p.length ≤ s.length ∧ ∀ x ∈ p,x ∈ s := zjA h
theorem goU {G : Prop} (h : G := by
 (with_reducible repeat' first | intro _ | refine And.intro ?_ ?_ | refine Wf ?_ ?_ | refine Wi ?_ ?_ | refine Ws ?_ | refine Wc ?_ ?_ | refine Wo ?_ ?_ | refine Wk ?_ | refine We ?_ ?_)
 all_goals (try subst_vars)
 all_goals (try simp only [List.length_cons,List.length_nil])
 all_goals grind [zCI,pqM_2,pqM_3,pqM_l,pqM_c,znn, → zqD,zsv,zCY,zCZ,zg0,fuel,zbu,zbv,zcG,zV,zZ,List.append_assoc,vals,zan,zP,zao,Sm,Ss,Fv,Fm,Cw,Pw,Tm,Swm,Um,Ac,Km,Gm,Pm,Rt,Tp,Rm,Rl,Om,Ol,UInt8.toNat_lt]) : G := h
theorem goU2 {G : Prop} (h : G := by
 (with_reducible repeat' first | intro _ | refine And.intro ?_ ?_ | refine Wf ?_ ?_ | refine Wi ?_ ?_ | refine Ws ?_ | refine Wc ?_ ?_ | refine Wo ?_ ?_ | refine Wk ?_ | refine We ?_ ?_)
 all_goals (try subst_vars)
 all_goals (try simp only [List.length_cons,List.length_nil])
 all_goals grind [→ zqD,zsv,zCY,zCZ,orig_i,absT_i,tail_0,tail_q,tail_o,abs_i,zoB,zg0,fuel,zbu,zbv,zcG,zV,zZ,List.append_assoc,vals,zan,zP,zao,Sm,Ss,Fv,Fm,Cw,Pw,Tm,Swm,Um,Ac,Km,Gm,Pm,Rt,Tp,Rm,Rl,Om,Ol,UInt8.toNat_lt]) : G := h
theorem sb_x {s : Str} {i : Int} (h0 : 0 ≤ i) (h : i < s.length) : ∃ c,sb s i (i + 1) = [c] ∧ dr s i = c :: dr s (i + 1) := by
 obtain ⟨c,e,hc⟩ := (inferInstance : T (sAt s i) _ _).ok ⟨h0,h⟩
 refine ⟨c,?_,hc.2.2⟩
 rw [zyq h0 (Int.le_refl _) (by omega : i ≤ i + 1) (by omega),zpO,hc.2.2]; simp
theorem goF {G : Prop} (h : G := by
 (with_reducible repeat' first | intro _ | refine And.intro ?_ ?_ | refine Wf ?_ ?_ | refine Wi ?_ ?_ | refine Ws ?_ | refine Wc ?_ ?_ | refine Wo ?_ ?_ | refine Wk ?_ | refine We ?_ ?_)
 all_goals (try subst_vars)
 all_goals (try simp only [List.length_cons,List.length_nil])
 all_goals grind [sb_x,low_n,low_c,zg0,fuel,zbu,zbv,zcG,zV,zZ,List.append_assoc,vals,zan,zP,zao,Sm,Ss,Fv,Fm,Cw,Pw,Tm,Swm,Um,Ac,Km,Gm,Pm,Rt,Tp,Rm,Rl,Om,Ol,UInt8.toNat_lt]) : G := h
theorem vls_0 (s : Str) : vls (dr s 0) = vls s := rfl
theorem goV {G : Prop} (h : G := by
 (with_reducible repeat' first | intro _ | refine And.intro ?_ ?_ | refine Wf ?_ ?_ | refine Wi ?_ ?_ | refine Ws ?_ | refine Wc ?_ ?_ | refine Wo ?_ ?_ | refine Wk ?_ | refine We ?_ ?_)
 all_goals (try subst_vars)
 all_goals (try simp only [List.length_cons,List.length_nil])
 all_goals grind [vls_n,vls_c, → zC1,slP,zx1,whP,hokP,zx2,one_m,zbc,zoD,trl_n,trl_c,trr_c,zE5, → zqD,zsv,zg0,fuel,zbu,zbv,zcG,zV,zZ,List.append_assoc,vals,zan,zP,zao,Sm,Ss,Fv,Fm,Cw,Pw,Tm,Swm,Um,Ac,Km,Gm,Pm,Rt,Tp,Rm,Rl,Om,Ol,UInt8.toNat_lt]) : G := h
theorem goK {G : Prop} (h : G := by
 (with_reducible repeat' first | intro _ | refine And.intro ?_ ?_ | refine Wf ?_ ?_ | refine Wi ?_ ?_ | refine Ws ?_ | refine Wc ?_ ?_ | refine Wo ?_ ?_ | refine Wk ?_ | refine We ?_ ?_)
 all_goals (try subst_vars)
 all_goals (try simp only [List.length_cons,List.length_nil])
 all_goals grind [zzH, → zxl,zE9,zbs, → zC1,slP,zoD, → zqD,zsv,zg0,vls_0,fuel,zbu,zbv,zcG,zV,zZ,List.append_assoc,vals,zan,zP,zao,Sm,Ss,Fv,Fm,Cw,Pw,Tm,Swm,Um,Ac,Km,Gm,Pm,Rt,Tp,Rm,Rl,Om,Ol,UInt8.toNat_lt]) : G := h
theorem goK2 {G : Prop} (h : G := by
 (with_reducible repeat' first | intro _ | refine And.intro ?_ ?_ | refine Wf ?_ ?_ | refine Wi ?_ ?_ | refine Ws ?_ | refine Wc ?_ ?_ | refine Wo ?_ ?_ | refine Wk ?_ | refine We ?_ ?_)
 all_goals (try subst_vars)
 all_goals (try simp only [List.length_append,List.length_cons,List.length_nil])
 all_goals grind [→ zC1,slP,zoD, → zqD,zsv,zg0,vls_0,fuel,zbu,zbv,zcG,zV,zZ,vals,zan,zP,zao,Sm,Ss,Fv,Fm,Cw,Pw,Tm,Swm,Um,Ac,Km,Gm,Pm,Rt,Tp,Rm,Rl,Om,Ol,UInt8.toNat_lt]) : G := h
end Go.Dm
end
section
set_option linter.unusedVariables false
namespace Go.Dm
theorem touS_n (k : Int) (n : Str) : ¬ zqE k [] n := by rintro ⟨r,h,_⟩; cases h
theorem touS_c (k : Int) (r : api_Rule) (l : List api_Rule) (n : Str) : zqE k (r :: l) n ↔ (r.Side = k ∧ (low r.Name = n ∨ r.Kind = 4 ∧ low r.To = n)) ∨ zqE k l n := by
 unfold zqE
 constructor
 ·rintro ⟨x,hx,h⟩
  rcases List.mem_cons.1 hx with rfl | hx
  ·exact .inl h
  ·exact .inr ⟨x,hx,h⟩
 ·rintro (h | ⟨x,hx,h⟩)
  ·exact ⟨r,by simp,h⟩
  ·exact ⟨x,by simp [hx],h⟩
theorem hopN_m (n : Str) : n ∈ zjM ↔ n = [99,111,110,110,101,99,116,105,111,110] ∨ n = [99,111,110,116,101,110,116,45,108,101,110,103,116,104] ∨ n = [107,101,101,112,45,97,108,105,118,101] ∨
 n = [112,114,111,120,121,45,99,111,110,110,101,99,116,105,111,110] ∨ n = [116,101] ∨ n = [116,114,97,105,108,101,114] ∨ n = [116,114,97,110,115,102,101,114,45,101,110,99,111,100,105,110,103] ∨ n = [117,112,103,114,97,100,101] := by
 simp [zjM,conn]
theorem cmt_92 {s : Str} {i d : Int} (h0 : 0 ≤ i) (h : dr s i = 92 :: dr s (i + 1)) : cmt d (dr s i) = if i + 1 < s.length then cmt d (dr s (i + 2)) else none := by
 have hl := zg0 h0 h
 split
 ·rename_i h1
  obtain ⟨x,_,hx⟩ := (inferInstance : T (sAt s (i + 1)) _ _).ok ⟨by omega,h1⟩
  rw [h,hx.2.2,cmt_x,show i + 1 + 1 = i + 2 by omega]
 ·rw [h,zV (by omega : (s.length : Int) ≤ i + 1),cmt_e]
theorem zDP {s u : Str} {i : Int} (h0 : 0 ≤ i) (h1 : i ≤ s.length) (h : u <:+ dr s i) : dr s (i + (((dr s i).length : Int) - u.length)) = u ∧ (u.length : Int) ≤ (dr s i).length := by
 obtain ⟨p,hp⟩ := h
 have hl := congrArg List.length hp
 have hd := zZ h0 h1
 simp only [List.length_append] at hl
 refine ⟨?_,by omega⟩
 have e : i + (((dr s i).length : Int) - u.length) = i + (p.length : Int) := by omega
 have e2 : (i + (p.length : Int)).toNat = i.toNat + p.length := by omega
 rw [e]
 unfold dr at *
 rw [e2, ← List.drop_drop, ← hp,List.drop_left]
theorem spI_m {s : Str} {o : List Str} {fr i r : Int} {u : Str} (h0 : 0 ≤ fr) (h1 : fr ≤ i) (h : dr s i = 40 :: dr s (i + 1)) (hu : cmt 1 (dr s (i + 1)) = some u) (hr : r = ((dr s i).length : Int) - u.length) : spR s o fr i = spR s o fr (i + r) ∧ 1 ≤ r ∧ i + r ≤ s.length := by
 have hl := zg0 (by omega) h
 have hs := zwf _ _ _ hu
 have ht := zpM _ _ _ hu
 have hd := zZ (by omega : 0 ≤ i) (by omega : i ≤ s.length)
 have hd2 := zZ (l := s) (by omega : 0 ≤ i + 1) (by omega)
 obtain ⟨e,he⟩ := zDP (by omega) (by omega : i + 1 ≤ s.length) hs
 have e3 : i + 1 + (((dr s (i + 1)).length : Int) - u.length) = i + r := by omega
 rw [e3] at e
 exact ⟨(zD1 h0 h1 h).2 _ (by omega) (by omega) (by rw [hu,e]),by omega,by omega⟩
theorem spI_q {s : Str} {o : List Str} {fr i r : Int} {u : Str} (h0 : 0 ≤ fr) (h1 : fr ≤ i) (h : dr s i = 34 :: dr s (i + 1)) (hu : qtd (dr s (i + 1)) = some u) (hr : r = ((dr s i).length : Int) - u.length) : spR s o fr i = spR s o fr (i + r) ∧ 1 ≤ r ∧ i + r ≤ s.length := by
 have hl := zg0 (by omega) h
 have hs := zwg _ _ hu
 have ht := zpN _ _ hu
 have hd := zZ (by omega : 0 ≤ i) (by omega : i ≤ s.length)
 have hd2 := zZ (l := s) (by omega : 0 ≤ i + 1) (by omega)
 obtain ⟨e,he⟩ := zDP (by omega) (by omega : i + 1 ≤ s.length) hs
 have e3 : i + 1 + (((dr s (i + 1)).length : Int) - u.length) = i + r := by omega
 rw [e3] at e
 exact ⟨(zD2 h0 h1 h).2 _ (by omega) (by omega) (by rw [hu,e]),by omega,by omega⟩
def inn (s : Str) : Option Str → Int
 | none => 0
 | some u => (s.length : Int) - u.length
theorem dr_le (s : Str) (i : Int) : (dr s i).length ≤ s.length := by simp [dr]
theorem inn_q (s : Str) : inn s (qtd (dr s 1)) = ((min s.length (inn s (qtd (dr s 1))).toNat : Nat) : Int) := by
 cases e : qtd (dr s 1) with
 | none => simp [inn]
 | some u =>
  have := zpN _ _ e
  have := dr_le s 1
  simp only [inn]; omega
theorem inn_c (s : Str) : inn s (cmt 1 (dr s 1)) = ((min s.length (inn s (cmt 1 (dr s 1))).toNat : Nat) : Int) := by
 cases e : cmt 1 (dr s 1) with
 | none => simp [inn]
 | some u =>
  have := zpM _ _ _ e
  have := dr_le s 1
  simp only [inn]; omega
theorem spI {s : Str} {o : List Str} {fr i : Int} {c : UInt8} (hc : c = 34 ∨ c = 40) (h0 : 0 ≤ fr) (h1 : fr ≤ i) (h : dr s i = c :: dr s (i + 1)) :
  let r := inn (dr s i) (if c = 34 then qtd (dr s (i + 1)) else cmt 1 (dr s (i + 1)))
  (r = 0 → spR s o fr i = none) ∧ (r ≠ 0 → spR s o fr i = spR s o fr (i + r) ∧ 1 ≤ r ∧ i + r ≤ s.length) := by
 rcases hc with rfl | rfl
 ·simp only [if_true]
  cases e : qtd (dr s (i + 1)) with
  | none => exact ⟨fun _ => (zD2 h0 h1 h).1 e,fun h => absurd rfl h⟩
  | some u =>
   have := spI_q (o := o) h0 h1 h e rfl
   exact ⟨fun hr => by simp only [inn] at hr; omega,fun _ => this⟩
 ·rw [if_neg (by decide)]
  cases e : cmt 1 (dr s (i + 1)) with
  | none => exact ⟨fun _ => (zD1 h0 h1 h).1 e,fun h => absurd rfl h⟩
  | some u =>
   have := spI_m (o := o) h0 h1 h e rfl
   exact ⟨fun hr => by simp only [inn] at hr; omega,fun _ => this⟩
theorem spI1 {s : Str} {o : List Str} {fr i : Int} (h0 : 0 ≤ fr) (h1 : fr ≤ i) (h : dr s i = 34 :: dr s (i + 1)) :
  (inn (dr s i) (qtd (dr s (i + 1))) = 0 → spR s o fr i = none) ∧ (inn (dr s i) (qtd (dr s (i + 1))) ≠ 0 → spR s o fr i = spR s o fr (i + inn (dr s i) (qtd (dr s (i + 1)))) ∧ 1 ≤ inn (dr s i) (qtd (dr s (i + 1))) ∧ i + inn (dr s i) (qtd (dr s (i + 1))) ≤ s.length) :=
 spI (.inl rfl) h0 h1 h
theorem spI2 {s : Str} {o : List Str} {fr i : Int} (h0 : 0 ≤ fr) (h1 : fr ≤ i) (h : dr s i = 40 :: dr s (i + 1)) :
  (inn (dr s i) (cmt 1 (dr s (i + 1))) = 0 → spR s o fr i = none) ∧ (inn (dr s i) (cmt 1 (dr s (i + 1))) ≠ 0 → spR s o fr i = spR s o fr (i + inn (dr s i) (cmt 1 (dr s (i + 1)))) ∧ 1 ≤ inn (dr s i) (cmt 1 (dr s (i + 1))) ∧ i + inn (dr s i) (cmt 1 (dr s (i + 1))) ≤ s.length) :=
 spI (.inr rfl) h0 h1 h
theorem dr_dr {s : Str} {i : Int} (h0 : 0 ≤ i) : dr (dr s i) 1 = dr s (i + 1) := by
 have e : (i + 1).toNat = i.toNat + 1 := by omega
 unfold dr; rw [e, ← List.drop_drop]; rfl
def flt : List Str → List Str
 | [] => []
 | x :: l => if x = [] then flt l else x :: flt l
theorem zAA (l m : List Str) : flt (l ++ m) = flt l ++ flt m := by
 induction l with
 | nil => rfl
 | cons x l ih => simp only [List.cons_append,flt,ih]; split <;> simp
theorem zFr (l : List Str) (a : Str) : flt (l ++ [zqC a]) = flt l ++ put a [] := by
 rw [zAA]; unfold put; simp only [flt]
theorem zDQ {l : List Str} {i : Int} (h0 : 0 ≤ i) (h : i < l.length) : ∃ x,sb l i (i + 1) = [x] ∧ dr l i = x :: dr l (i + 1) ∧ x ∈ l := by
 obtain ⟨c,e,hc⟩ := (inferInstance : T (lAt l i) _ _).ok ⟨h0,h⟩
 refine ⟨c,?_,hc.2.2,hc.1⟩
 rw [zyq h0 (Int.le_refl _) (by omega : i ≤ i + 1) (by omega),zpO,hc.2.2]; simp
def freP (n : Str) (h : api_Head) (l : List api_Rule) : Prop := low n ∉ zjM ∧ ¬ zjL h.Kind (low n) ∧ ¬ zqE h.Kind l (low n) ∧ low n ∉ nom h.Fields
open Classical in
noncomputable def frB (h : api_Head) (l : List api_Rule) (n : Str) : Bool := decide (freP n h l)
theorem zDR (h : api_Head) (l : List api_Rule) (n : Str) : frB h l n = true ↔ freP n h l := by unfold frB; simp
theorem Fi_n (p : Str → Bool) : Fi p [] = [] := rfl
theorem Fi_c (p : Str → Bool) (f : api_Field) (l : List api_Field) : Fi p (f :: l) = if p f.Name = true then f :: Fi p l else Fi p l := by unfold Fi; rw [List.filter_cons]
def zwa (n : Str) (l : List Str) : Prop := ∃ t ∈ l,low t = low n
theorem hasN_n (n : Str) : ¬ zwa n [] := by rintro ⟨t,h,_⟩; cases h
theorem hasN_c (n x : Str) (l : List Str) : zwa n (x :: l) ↔ low x = low n ∨ zwa n l := by
 unfold zwa
 constructor
 ·rintro ⟨t,ht,e⟩
  rcases List.mem_cons.1 ht with rfl | ht
  ·exact .inl e
  ·exact .inr ⟨t,ht,e⟩
 ·rintro (e | ⟨t,ht,e⟩)
  ·exact ⟨x,by simp,e⟩
  ·exact ⟨t,by simp [ht],e⟩
theorem goG {G : Prop} (h : G := by
 (with_reducible repeat' first | intro _ | refine And.intro ?_ ?_ | refine Wf ?_ ?_ | refine Wi ?_ ?_ | refine Ws ?_ | refine Wc ?_ ?_ | refine Wo ?_ ?_ | refine Wk ?_ | refine We ?_ ?_)
 all_goals (try simp only [List.length_cons,List.length_nil])
 all_goals grind [touS_n,touS_c,hopN_m,zjL,zzI,fuel,zbu,zbv,zcG,zV,zZ,List.append_assoc,vals,zan,zP,zao,Sm,Ss,Fv,Fm,Cw,Pw,Tm,Swm,Um,Ac,Km,Gm,Pm,Rt,Tp,Rm,Rl,Om,Ol,UInt8.toNat_lt]) : G := h
theorem goH {G : Prop} (h : G := by
 (with_reducible repeat' first | intro _ | refine And.intro ?_ ?_ | refine Wf ?_ ?_ | refine Wi ?_ ?_ | refine Ws ?_ | refine Wc ?_ ?_ | refine Wo ?_ ?_ | refine Wk ?_ | refine We ?_ ?_)
 all_goals (try simp only [List.length_cons,List.length_nil])
 all_goals grind [cmt_n,cmt_u,cmt_d,cmt_o,cmt_92,qtd_n,qtd_d,qtd_e,qtd_x,qtd_o,inn,zg0,fuel,zbu,zbv,zcG,zV,zZ,List.append_assoc,vals,zan,zP,zao,Sm,Ss,Fv,Fm,Cw,Pw,Tm,Swm,Um,Ac,Km,Gm,Pm,Rt,Tp,Rm,Rl,Om,Ol,UInt8.toNat_lt]) : G := h
theorem goI {G : Prop} (h : G := by
 (with_reducible repeat' first | intro _ | refine And.intro ?_ ?_ | refine Wf ?_ ?_ | refine Wi ?_ ?_ | refine Ws ?_ | refine Wc ?_ ?_ | refine Wo ?_ ?_ | refine Wk ?_ | refine We ?_ ?_)
 all_goals (try simp only [List.length_cons,List.length_nil])
 all_goals grind [inn_q,inn_c,spI1,spI2,dr_dr,spR_e,spR_c,spR_b,spR_0,flt,zFr,zAA,ans,sb_e,zg0,fuel,zbu,zbv,zcG,zV,zZ,List.append_assoc,vals,zan,zP,zao,Sm,Ss,Fv,Fm,Cw,Pw,Tm,Swm,Um,Ac,Km,Gm,Pm,Rt,Tp,Rm,Rl,Om,Ol,UInt8.toNat_lt]) : G := h
theorem zzE {G : Prop} (h : G := by
 (with_reducible repeat' first | intro _ | refine And.intro ?_ ?_ | refine Wf ?_ ?_ | refine Wi ?_ ?_ | refine Ws ?_ | refine Wc ?_ ?_ | refine Wo ?_ ?_ | refine Wk ?_ | refine We ?_ ?_)
 all_goals (try simp only [List.length_cons,List.length_nil])
 all_goals grind [freP,zDR,Fi_n,Fi_c,hasN_n,hasN_c,zDQ,zAH,zxg,ans,fuel,zbu,zbv,zcG,zV,zZ,List.append_assoc,vals,zan,zP,zao,Sm,Ss,Fv,Fm,Cw,Pw,Tm,Swm,Um,Ac,Km,Gm,Pm,Rt,Tp,Rm,Rl,Om,Ol,UInt8.toNat_lt]) : G := h
end Go.Dm
end
section
set_option linter.unusedVariables false
namespace Go.Dm
theorem tw_n (g : UInt8 → Bool) : ([] : Str).takeWhile g = [] := rfl
theorem dw_n (g : UInt8 → Bool) : ([] : Str).dropWhile g = [] := rfl
theorem dw_c (g : UInt8 → Bool) (c : UInt8) (s : Str) : (c :: s).dropWhile g = (if g c = true then s.dropWhile g else c :: s) := by
 rw [List.dropWhile_cons]
theorem tw_c (g : UInt8 → Bool) (c : UInt8) (s : Str) : (c :: s).takeWhile g = (if g c = true then c :: s.takeWhile g else []) ∧ (c :: s).dropWhile g = (if g c = true then s.dropWhile g else c :: s) := by
 rw [List.takeWhile_cons,List.dropWhile_cons]; cases g c <;> simp
theorem sb_2 {s : Str} {i j : Int} (h0 : 0 ≤ i) (h1 : i ≤ j) (h : j < s.length) : sb s i (j + 1) = sb s i j ++ (dr s j).take 1 := by
 have e : (dr s j).length - (dr s (j + 1)).length = 1 := by simp [dr]; omega
 rw [zyq h0 h1 (by omega : j ≤ j + 1) (by omega),e]
theorem take1 (c : UInt8) (t : Str) : (c :: t).take 1 = [c] := rfl
theorem tw_a {g : UInt8 → Bool} {a : Str} (h : a.all g = true) (c : UInt8) (hc : g c = false) (b : Str) : (a ++ c :: b).takeWhile g = a ∧ (a ++ c :: b).dropWhile g = c :: b := by
 induction a with
 | nil => simp [List.takeWhile_cons,List.dropWhile_cons,hc]
 | cons x a ih =>
  rw [List.all_cons,Bool.and_eq_true] at h
  simp [List.takeWhile_cons,List.dropWhile_cons,h.1,ih h.2]
theorem tw_tok {m : Str} (h : zbc m = true) (b : Str) : (m ++ 32 :: b).takeWhile zla = m ∧ (m ++ 32 :: b).dropWhile zla = 32 :: b := by
 unfold zbc at h
 rw [Bool.and_eq_true] at h
 exact tw_a h.1 32 (by decide) b
theorem tw_sp {t : Str} (h : 32 ∉ t) (b : Str) : (t ++ 32 :: b).takeWhile (gd zaf) = t ∧ (t ++ 32 :: b).dropWhile (gd zaf) = 32 :: b := by
 refine tw_a ?_ 32 rfl b
 rw [List.all_eq_true]
 intro x hx
 show (!(x == 32)) = true
 simp; rintro rfl; exact h hx
theorem tw_dig {t : Str} (h : dgs t = true) (b : Str) : (t ++ 32 :: b).takeWhile zag = t ∧ (t ++ 32 :: b).dropWhile zag = 32 :: b := tw_a h 32 (by decide) b
def ver (d : UInt8) : Str := [72,84,84,80,47,49,46,d]
theorem zyh (d : UInt8) (hd : d = 48 ∨ d = 49) : (32 : UInt8) ∉ ver d ∧ 10 ∉ ver d ∧ 13 ∉ ver d := by rcases hd with rfl | rfl <;> decide
theorem ver_o (d : UInt8) (hd : d = 48 ∨ d = 49) : zbU (ver d) = some false := by rcases hd with rfl | rfl <;> decide +kernel
def zoX (m t : Str) (d : UInt8) : Str := m ++ 32 :: (t ++ 32 :: ver d)
def zyi (d : UInt8) (c r : Str) : Str := ver d ++ 32 :: (c ++ 32 :: r)
theorem zDM {m t : Str} {d : UInt8} {i : Int} (hd : d = 48 ∨ d = 49) (h0 : 0 ≤ i) (h : dr (zoX m t d) i = 32 :: dr (zoX m t d) (i + 1)) (hn : 32 ∉ dr (zoX m t d) (i + 1)) : dr (zoX m t d) (i + 1) = ver d := by
 have e : zoX m t d = (m ++ 32 :: t) ++ 32 :: ver d := by unfold zoX; simp
 exact (zyW ((zva h0 h).2.symm.trans e) hn (zyh d hd).1).2
theorem req_in (m t : Str) (d : UInt8) : (32 : UInt8) ∈ zoX m t d := by unfold zoX; simp
theorem zFp (d : UInt8) (hd : d = 48 ∨ d = 49) (c r : Str) : (Go.Lib.cut (zyi d c r) [32]).1 = ver d := by
 have := zvd 32 [] (ver d) (c ++ 32 :: r) (zyh d hd).1
 simp only [List.nil_append] at this
 unfold zyi; rw [this]
theorem join3 (a b c : Str) : Go.Lib.join [a,b,c] [32] = a ++ 32 :: (b ++ 32 :: c) := by
 simp [Go.Lib.join]
theorem dec_1 {n : Int} (h : n = 0 ∨ n = 1) : ∃ d,(d = 48 ∨ d = 49) ∧ Go.Lib.decDigits n.toNat = [d] ∧ n = (d.toNat : Int) - 48 := by
 rcases h with rfl | rfl
 ·exact ⟨48, .inl rfl,by simp [Go.Lib.decDigits],rfl⟩
 ·exact ⟨49, .inr rfl,by simp [Go.Lib.decDigits],rfl⟩
theorem dec_3 {n : Int} (h : 100 ≤ n) (h2 : n ≤ 599) : (Go.Lib.decDigits n.toNat).length = 3 ∧ dgs (Go.Lib.decDigits n.toNat) = true ∧ dvI 0 (Go.Lib.decDigits n.toNat) = n ∧ Go.Lib.decDigits n.toNat ≠ [] := by
 refine ⟨?_,zmA _,by rw [zve]; omega,zrJ _⟩
 rw [Go.Lib.decDigits_length]
 exact Go.Lib.nDigits_unique 2 n.toNat (by omega) (by omega)
theorem d48 (c : UInt8) (h : zag c = true) : ((c - 48).toNat : Int) = (c.toNat : Int) - 48 := by
 have := zeG (p := fun c => !zag c || decide (((c - 48).toNat : Int) = (c.toNat : Int) - 48)) (by decide +kernel) c
 simpa [h] using this
theorem cd4 : zag 48 = true ∧ zag 49 = true ∧ (48 : UInt8).toNat = 48 ∧ (49 : UInt8).toNat = 49 := by decide
theorem dn (d : UInt8) : (d = 48 → d.toNat = 48) ∧ (d = 49 → d.toNat = 49) := ⟨fun h => by subst h; rfl,fun h => by subst h; rfl⟩
theorem zFq (x t : Str) : x.isPrefixOf (x ++ t) = true := by rw [List.isPrefixOf_iff_prefix]; exact List.prefix_append x t
theorem dr_add {s x t : Str} {i : Int} (h0 : 0 ≤ i) (h : dr s i = x ++ t) : dr s (i + (x.length : Int)) = t := by
 have e : (i + (x.length : Int)).toNat = i.toNat + x.length := by omega
 unfold dr at *
 rw [e, ← List.drop_drop,h,List.drop_left]
theorem idxA_n {c s : Str} (h : ∀ x ∈ s,x ∉ c) : zdO s c 0 = -1 := by
 have := idxA c s [] 0 h (by simp)
 simpa using this
def vs (d : UInt8) : Str := [49,46,d]
theorem vs_e (d : UInt8) : vs d = 49 :: 46 :: d :: [] := rfl
theorem ver_b (d : UInt8) : ver d = [72,84,84,80,47] ++ vs d := rfl
theorem ver_a (d : UInt8) (t : Str) : ver d ++ t = [72,84,84,80,47] ++ (49 :: 46 :: d :: t) := rfl
theorem goW {G : Prop} (h : G := by
 (with_reducible repeat' first | intro _ | refine And.intro ?_ ?_ | refine Wf ?_ ?_ | refine Wi ?_ ?_ | refine Ws ?_ | refine Wc ?_ ?_ | refine Wo ?_ ?_ | refine Wk ?_ | refine We ?_ ?_)
 all_goals (try subst_vars)
 all_goals (try simp only [List.length_cons,List.length_nil])
 all_goals grind [tw_n,dw_n,tw_c,dw_c,sb_2,take1,zFq,dr_add,vls,zx1,zbc,d48,dn,cd4,ver_b,vs_e,ver_a,ver_o,idxA_n,zpO,fuel,zbu,zbv,zcG,zV,zZ,List.append_assoc,vals,zan,zP,zao,Sm,Ss,Fv,Fm,Cw,Pw,Tm,Swm,Um,Ac,Km,Gm,Pm,Rt,Tp,Rm,Rl,Om,Ol,UInt8.toNat_lt]) : G := h
theorem goX {G : Prop} (h : G := by
 (with_reducible repeat' first | intro _ | refine And.intro ?_ ?_ | refine Wf ?_ ?_ | refine Wi ?_ ?_ | refine Ws ?_ | refine Wc ?_ ?_ | refine Wo ?_ ?_ | refine Wk ?_ | refine We ?_ ?_)
 all_goals (try subst_vars)
 all_goals (try simp only [List.length_cons,List.length_nil])
 all_goals grind [zoX,zyi,tw_tok,tw_sp,tw_dig,cd4,zDM,req_in,zFp,dec_3,dvI,zCE,zyh,vls,zbc,zpO,fuel,zbu,zbv,zcG,zV,zZ,List.append_assoc,vals,zan,zP,zao,Sm,Ss,Fv,Fm,Cw,Pw,Tm,Swm,Um,Ac,Km,Gm,Pm,Rt,Tp,Rm,Rl,Om,Ol,UInt8.toNat_lt]) : G := h
theorem req_nl {m t : Str} {d : UInt8} (h : zbc m = true) (h1 : 10 ∉ t) (h2 : 13 ∉ t) (hd : d = 48 ∨ d = 49) : ∀ x ∈ zoX m t d,x ∉ ([13,10] : Str) := by
 have hv := zyh d hd
 unfold zbc at h
 rw [Bool.and_eq_true,List.all_eq_true] at h
 intro x hx
 unfold zoX at hx
 simp only [List.mem_append,List.mem_cons] at hx
 rcases hx with hx | rfl | hx | rfl | hx
 ·have := zAF x (h.1 x hx); simp [this]
 ·decide
 ·simp; exact ⟨fun e => h2 (e ▸ hx),fun e => h1 (e ▸ hx)⟩
 ·decide
 ·simp; exact ⟨fun e => hv.2.2 (e ▸ hx),fun e => hv.2.1 (e ▸ hx)⟩
theorem sta_nl {w : Str} {d : UInt8} (n : Int) (h : vls w = true) (hd : d = 48 ∨ d = 49) : ∀ x ∈ zyi d (Go.Lib.decDigits (Int.toNat n)) w,x ∉ ([13,10] : Str) := by
 have hv := zyh d hd
 unfold vls at h
 rw [List.all_eq_true] at h
 intro x hx
 unfold zyi at hx
 simp only [List.mem_append,List.mem_cons] at hx
 rcases hx with hx | rfl | hx | rfl | hx
 ·simp; exact ⟨fun e => hv.2.2 (e ▸ hx),fun e => hv.2.1 (e ▸ hx)⟩
 ·decide
 ·have := List.all_eq_true.1 (zmA n.toNat) x hx
  simp; constructor <;> (rintro rfl; revert this; decide)
 ·decide
 ·have := h x hx
  simp; constructor <;> (rintro rfl; revert this; decide)
theorem zBw (l : List api_Field) : vals [72,111,115,116] l = vals zx2 l := zzY (by decide) l
theorem tx_1 {h : api_Head} (h0 : slP h) : ∃ d : UInt8,(d = 48 ∨ d = 49) ∧ h.Minor = (d.toNat : Int) - 48 ∧ 0 ≤ h.Minor ∧ [72,84,84,80,47,49,46] ++ Go.Lib.decDigits h.Minor.toNat = ver d ∧
  Go.Lib.join [h.Method,h.Target,ver d] [32] = zoX h.Method h.Target d ∧ Go.Lib.join [ver d,Go.Lib.decDigits h.Code.toNat,h.Reason] [32] = zyi d (Go.Lib.decDigits h.Code.toNat) h.Reason := by
 have hm : h.Minor = 0 ∨ h.Minor = 1 := by rcases h0 with h0 | h0; exact h0.2.2.2.1; exact h0.2.2.2.1
 obtain ⟨d,hd,e,em⟩ := dec_1 hm
 exact ⟨d,hd,em,by omega,by rw [e]; rfl,join3 _ _ _,join3 _ _ _⟩
theorem goY {G : Prop} (h : G := by
 (with_reducible repeat' first | intro _ | refine And.intro ?_ ?_ | refine Wf ?_ ?_ | refine Wi ?_ ?_ | refine Ws ?_ | refine Wc ?_ ?_ | refine Wo ?_ ?_ | refine Wk ?_ | refine We ?_ ?_)
 all_goals (try subst_vars)
 all_goals (try simp only [List.length_cons,List.length_nil])
 all_goals grind [→ tx_1,req_nl,sta_nl,slP,fuel,zbu,zbv,zcG,zV,zZ,List.append_assoc,vals,zan,zP,zao,Sm,Ss,Fv,Fm,Cw,Pw,Tm,Swm,Um,Ac,Km,Gm,Pm,Rt,Tp,Rm,Rl,Om,Ol,UInt8.toNat_lt]) : G := h
theorem goZ {G : Prop} (h : G := by
 (with_reducible repeat' first | intro _ | refine And.intro ?_ ?_ | refine Wf ?_ ?_ | refine Wi ?_ ?_ | refine Ws ?_ | refine Wc ?_ ?_ | refine Wo ?_ ?_ | refine Wk ?_ | refine We ?_ ?_)
 all_goals (try subst_vars)
 all_goals (try simp only [List.length_cons,List.length_nil])
 all_goals grind [zx1,whP,hokP,slP,zBw,fuel,zbu,zbv,zcG,zV,zZ,List.append_assoc,vals,zan,zP,zao,Sm,Ss,Fv,Fm,Cw,Pw,Tm,Swm,Um,Ac,Km,Gm,Pm,Rt,Tp,Rm,Rl,Om,Ol,UInt8.toNat_lt]) : G := h
end Go.Dm
end
