/-
 Lists' elements are short. No program in sight.
-/
import Derived.Test.YtlcienkhiklpaaaGreatDoorTXV
import Derived.Test.YtlcienkhiklpaaaGreatDoorYT0
set_option linter.unusedSimpArgs false
set_option linter.unusedVariables false
namespace Go.Dm
theorem zD7 {x : Str} (h : x.length < 1000000000) : (ans (spl [] x)).1.length ≤ x.length + 1 ∧ ∀ s ∈ (ans (spl [] x)).1,s.length ≤ x.length := by
 obtain ⟨r,_,h1,h2,h3⟩ := (inferInstance : T (zeK x) _ _).ok h
 rw [← h3]; exact ⟨h1,h2⟩
theorem zAP (s : Str) : (low s).length = s.length := by simp [low]
theorem goJ2 {G : Prop} (h : G := by
 (with_reducible repeat' first | intro _ | refine And.intro ?_ ?_ | refine Wf ?_ ?_ | refine Wi ?_ ?_ | refine Ws ?_ | refine Wc ?_ ?_ | refine Wo ?_ ?_ | refine Wk ?_ | refine We ?_ ?_)
 all_goals (try simp only [List.length_cons,List.length_nil])
 all_goals grind [zD7,zAP,zxg,ans,zwi,zsw,zD3,nmA,nmB,nom,conn,fuel,zbu,zbv,zcG,zV,zZ,List.append_assoc,vals,zan,zP,zao,Sm,Ss,Fv,Fm,Cw,Pw,Tm,Swm,Um,Ac,Km,Gm,Pm,Rt,Tp,Rm,Rl,Om,Ol,UInt8.toNat_lt]) : G := h
theorem goJ3 {G : Prop} (h : G := by
 (with_reducible repeat' first | intro _ | refine And.intro ?_ ?_ | refine Wf ?_ ?_ | refine Wi ?_ ?_ | refine Ws ?_ | refine Wc ?_ ?_ | refine Wo ?_ ?_ | refine Wk ?_ | refine We ?_ ?_)
 all_goals (try simp only [List.length_cons,List.length_nil])
 all_goals grind [zD7,zAP,zxg,ans,zwi,zsw,zD3,nmA,nmB,nom,conn,zDQ,fuel,zbu,zbv,zcG,zV,zZ,List.append_assoc,vals,zan,zP,zao,Sm,Ss,Fv,Fm,Cw,Pw,Tm,Swm,Um,Ac,Km,Gm,Pm,Rt,Tp,Rm,Rl,Om,Ol,UInt8.toNat_lt]) : G := h
end Go.Dm
