/-
 How a body ends: what splitting and grind take. No program in sight.
-/
import Derived.Test.YtlcienkhiklpaaaGreatDoorTXH
import Derived.Test.YtlcienkhiklpaaaGreatDoorYT2
set_option linter.unusedSimpArgs false
set_option linter.unusedVariables false
namespace Go.Dm
def lgA : Int → List Str → Option Int
 | a,[] => some a
 | a,t :: l => if dgs t = true ∧ t ≠ [] ∧ dvI 0 t ≤ 1099511627776 then (if 0 ≤ a ∧ dvI 0 t ≠ a then none else lgA (dvI 0 t) l) else none
def lgB : Int → List Str → Option Int
 | a,[] => some a
 | a,s :: l => match spl [] s with
  | none => none
  | some x => match lgA a x with
   | none => none
   | some v => lgB v l
theorem lgA_n (a : Int) : lgA a [] = some a := rfl
theorem lgA_c (a : Int) (t : Str) (l : List Str) : lgA a (t :: l) = if dgs t = true ∧ t ≠ [] ∧ dvI 0 t ≤ 1099511627776 then (if 0 ≤ a ∧ dvI 0 t ≠ a then none else lgA (dvI 0 t) l) else none := rfl
theorem lgB_n (a : Int) : lgB a [] = some a := rfl
theorem lgB_c (a : Int) (s : Str) (l : List Str) : lgB a (s :: l) = match spl [] s with
  | none => none
  | some x => match lgA a x with
   | none => none
   | some v => lgB v l := rfl
def chk : Str := [99,104,117,110,107,101,100]
theorem tk_ch : tks [chk] = some [chk] := zAH (by decide)
theorem zFM {s : Str} (h : dgs s = true) : s.all zla = true := by
 have : ∀ b,zag b = true → zla b = true := fun b hb => by
  have := zeG (p := fun b => !zag b || zla b) (by decide +kernel) b
  simpa [hb] using this
 unfold dgs at h
 rw [List.all_eq_true] at *
 exact fun x hx => this x (h x hx)
theorem lg_dec (n : Nat) (h : n ≤ 1000000) : lgB (-1) [Go.Lib.decDigits n] = some (n : Int) := by
 have ht := zFM (zCF n)
 have e : spl [] (Go.Lib.decDigits n) = some [Go.Lib.decDigits n] := by
  rw [zwh _ _ ht,List.nil_append]
  unfold put
  rw [zyp ht,if_neg (zrJ n)]
 simp only [lgB,e,lgA,zCF n,zve]
 have h0 := zrJ n
 have : (n : Int) ≤ 1099511627776 := by omega
 simp [h0,this]
theorem goLg {G : Prop} (h : G := by
 (with_reducible repeat' first | intro _ | refine And.intro ?_ ?_ | refine Wf ?_ ?_ | refine Wi ?_ ?_ | refine Ws ?_ | refine Wc ?_ ?_ | refine Wo ?_ ?_ | refine Wk ?_ | refine We ?_ ?_)
 all_goals (try simp only [List.length_cons,List.length_nil])
 all_goals grind [lgA_n,lgA_c,lgB_n,lgB_c,zD7,ans,zxg,chk,tk_ch,fuel,zbu,zbv,zcG,zV,zZ,List.append_assoc,vals,zan,zP,zao,Sm,Ss,Fv,Fm,Cw,Pw,Tm,Swm,Um,Ac,Km,Gm,Pm,Rt,Tp,Rm,Rl,Om,Ol,UInt8.toNat_lt]) : G := h
end Go.Dm
