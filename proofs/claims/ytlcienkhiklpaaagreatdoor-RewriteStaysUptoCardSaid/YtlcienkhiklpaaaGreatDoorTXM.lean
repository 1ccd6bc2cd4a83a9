/-
 The law: what is asked of a head's way. No program in sight.
-/
import Derived.Test.YtlcienkhiklpaaaGreatDoorYY0
set_option linter.unusedSimpArgs false
set_option linter.unusedVariables false
namespace Go.Dm
def teN : Str := [84,114,97,110,115,102,101,114,45,69,110,99,111,100,105,110,103]
def clN : Str := [67,111,110,116,101,110,116,45,76,101,110,103,116,104]
def okX (h : api_Head) (l : List api_Rule) (g : List Str) (f : api_Field) : Prop := low f.Name ∉ zjM ∧ (zwa f.Name g → zqE h.Kind l (low f.Name) ∨ zjL h.Kind (low f.Name))
def reqX (x : api_Head) (f : api_Frame) : Prop := (vals teN x.Fields = [] ∧ vals clN x.Fields = [] ∧ f.Kind = 1) ∨ (vals teN x.Fields = [chk] ∧ vals clN x.Fields = [] ∧ x.Minor ≠ 0 ∧ f.Kind = 3) ∨
 (vals teN x.Fields = [] ∧ vals clN x.Fields ≠ [] ∧ lgB (-1) (vals clN x.Fields) = some f.N ∧ 0 ≤ f.N ∧ f.Kind = 2)
theorem tk_m {l : List api_Field} {i j : Int} {x : api_Field} (h0 : 0 ≤ i) (h : i < j) (hx : lAt l i = some x) : x ∈ tk l j := by
 unfold lAt at hx
 rw [if_pos h0] at hx
 unfold tk
 refine List.mem_of_getElem? (i := i.toNat) ?_
 rw [List.getElem?_take_of_lt (by omega)]; exact hx
def okA (h : api_Head) (l : List api_Rule) (g : List Str) (fs : List api_Field) (j : Int) : Prop := ∀ f ∈ tk fs j,okX h l g f
theorem okA_m {h : api_Head} {l : List api_Rule} {g : List Str} {fs : List api_Field} {i j : Int} {x : api_Field} (ho : okA h l g fs j) (hx : lAt fs i = some x) (h0 : 0 ≤ i) (hj : i < j) : okX h l g x := ho x (tk_m h0 hj hx)
theorem goLw {G : Prop} (h : G := by
 (with_reducible repeat' first | intro _ | refine And.intro ?_ ?_ | refine Wf ?_ ?_ | refine Wi ?_ ?_ | refine Ws ?_ | refine Wc ?_ ?_ | refine Wo ?_ ?_ | refine Wk ?_ | refine We ?_ ?_)
 all_goals (try simp only [List.length_cons,List.length_nil])
 all_goals grind [→ okA_m,okX,reqX,teN,clN,fuel,zbu,zbv,zcG,zV,zZ,List.append_assoc,vals,zan,zP,zao,Sm,Ss,Fv,Fm,Cw,Pw,Tm,Swm,Um,Ac,Km,Gm,Pm,Rt,Tp,Rm,Rl,Om,Ol,UInt8.toNat_lt]) : G := h
end Go.Dm
