/-
  Targets written, and read again: both laws.
-/
import Derived.Test.YtnfkbhocbdheaaaGreatDoorT10R
namespace Go.Dm
theorem join_flat (l : List Str) : Go.Lib.join l [] = l.flatten := by
  cases l with
  | nil => rfl
  | cons x r => rw [Go.Lib.join_cons]; simp [Go.Lib.joinTail]
theorem quill_Join_nil (l : List Str) (h : l.length < 1000000) (h2 : l.flatten.length < 4000000000) : quill_Join [] l = some l.flatten := by
  unfold quill_Join strings_Join
  rw [join_flat, if_pos ⟨by omega, by omega⟩]
  rfl
theorem textN_len (n : Int) (hn : inI n = true) : (textN 10 n).length ≤ 71 := by
  unfold textN
  split
  · simp
  · rw [chars_len]
    have := inI_iff.1 hn
    exact digs_len (by decide) _ (by omega)
def hostBase (h : api_Host) : Str := if h.Kind == 3 then 91 :: (h.Name ++ [93]) else h.Name
/-- The text of a host, before it is read again. -/
def rawH (h : api_Host) : Str := hostBase h ++ if h.Port == -1 then [] else 58 :: textN 10 h.Port
def textH (h : api_Host) : Str × Int := if (hostP (rawH h)).2 == 0 && (hostP (rawH h)).1 == h then (rawH h, 0) else ([], 27)
theorem rawH_len (h : api_Host) (hp : inI h.Port = true) : (rawH h).length ≤ h.Name.length + 80 := by
  have := textN_len h.Port hp
  unfold rawH hostBase
  split <;> split <;> simp <;> omega
theorem hostport_Text_eq (h : api_Host) (hp : inI h.Port = true) (hl : h.Name.length < 100000000) : hostport_Text h = some (textH h) := by
  have ht := textN_len h.Port hp
  have hr := rawH_len h hp
  have j3 : ∀ s : Str, s = rawH h → ((hostport_Parse s).bind fun r23 => if (!(r23.2 == 0)) then (hostport_Text_j3 s true) else (hostport_Text_j3 s (!(r23.1 == h)))) = some (textH h) := by
    intro s hs
    subst hs
    rw [hostport_Parse_eq _ (by omega), Option.bind_some]
    unfold hostport_Text_j3 textH
    cases (hostP (rawH h)).2 == 0 <;> cases (hostP (rawH h)).1 == h <;> rfl
  have j2 : ∀ l : List Str, l.length < 10 → l.flatten = rawH h → hostport_Text_j2 h l = some (textH h) := by
    intro l h1 h2
    unfold hostport_Text_j2
    rw [quill_Join_nil l (by omega) (by rw [h2]; omega), Option.bind_some]
    exact j3 _ h2
  have j1 : ∀ l : List Str, l.length < 5 → l.flatten = hostBase h → hostport_Text_j1 h l = some (textH h) := by
    intro l h1 h2
    unfold hostport_Text_j1
    cases hm : h.Port == -1 with
    | true =>
      rw [Bool.not_true, if_neg (by decide)]
      exact j2 l (by omega) (by unfold rawH; rw [hm, h2]; simp)
    | false =>
      rw [Bool.not_false, if_pos rfl, numeral_Text_eq _ hp, Option.bind_some, if_pos (fits_ok (by omega) (by omega))]
      exact j2 _ (by simp; omega) (by unfold rawH; rw [hm]; simp [h2])
  unfold hostport_Text
  cases h3 : h.Kind == 3 with
  | true => rw [if_pos rfl]; exact j1 _ (by simp) (by unfold hostBase; rw [h3]; simp)
  | false => rw [if_neg (by decide)]; exact j1 _ (by simp) (by unfold hostBase; rw [h3]; simp)
theorem ref08_Text_eq (h : api_Host) (hp : inI h.Port = true) (hl : h.Name.length < 100000000) : ref08_Text h = some (textH h) := by
  have ht := textN_len h.Port hp
  have hr := rawH_len h hp
  have hb : (hostBase h).length ≤ h.Name.length + 2 := by unfold hostBase; split <;> simp
  have j2 : ref08_Text_j2 h (rawH h) = some (textH h) := by
    unfold ref08_Text_j2
    rw [ref08_Parse_eq _ (by omega), Option.bind_some]
    unfold ref08_Text_j3 textH
    cases (hostP (rawH h)).2 == 0 <;> cases (hostP (rawH h)).1 == h <;> rfl
  have j1 : ref08_Text_j1 h (hostBase h) = some (textH h) := by
    unfold ref08_Text_j1
    cases hm : h.Port == -1 with
    | true =>
      rw [Bool.not_true, if_neg (by decide)]
      have : hostBase h = rawH h := by unfold rawH; rw [hm]; simp
      rw [this]; exact j2
    | false =>
      have e : hostBase h ++ [58] ++ textN 10 h.Port = rawH h := by unfold rawH; rw [hm]; simp
      have := ref03_Text_eq (b := 10) (.inl rfl) h.Port hp
      rw [show ((10 : Nat) : Int) = 10 from rfl] at this
      rw [Bool.not_false, if_pos rfl, sCat_ok (by simp; omega), Option.bind_some, this, Option.bind_some, sCat_ok (by simp; omega), Option.bind_some, e]
      exact j2
  unfold ref08_Text
  cases h3 : h.Kind == 3 with
  | true =>
    have e : ([91] : Str) ++ h.Name ++ [93] = hostBase h := by unfold hostBase; rw [h3]; simp
    rw [if_pos rfl, sCat_ok (by simp; omega), Option.bind_some, sCat_ok (by simp; omega), Option.bind_some, e]
    exact j1
  | false =>
    have e : h.Name = hostBase h := by unfold hostBase; rw [h3]; simp
    rw [if_neg (by decide)]
    rw [← e] at j1
    exact j1
theorem textH_len (h : api_Host) (hp : inI h.Port = true) : (textH h).1.length ≤ h.Name.length + 80 := by
  unfold textH
  split
  · exact rawH_len h hp
  · simp
def joinPQ (t : api_Target) : Str := t.Path ++ if t.HasQuery then 63 :: t.Query else []
/-- The text of a target, before it is read again, and the method to read it by. -/
def rawT (t : api_Target) : Str × Str :=
  if t.Kind == 2 then (optionsS, t.Scheme ++ [58, 47, 47] ++ (textH t.Host).1 ++ joinPQ t) else if t.Kind == 3 then (connectS, (textH t.Host).1) else if t.Kind == 4 then (optionsS, [42]) else (optionsS, joinPQ t)
def textT (t : api_Target) : Str × Int := if (parseT (rawT t).1 (rawT t).2).2 == 0 && (parseT (rawT t).1 (rawT t).2).1 == t then ((rawT t).2, 0) else ([], 20)
structure smallT10 (t : api_Target) : Prop where
  port : inI t.Host.Port = true
  name : t.Host.Name.length < 10000000
  scheme : t.Scheme.length < 10000000
  path : t.Path.length < 10000000
  query : t.Query.length < 10000000
theorem joinPQ_len {t : api_Target} (h : smallT10 t) : (joinPQ t).length ≤ t.Path.length + t.Query.length + 1 := by
  unfold joinPQ; split <;> simp <;> omega
theorem rawT_len {t : api_Target} (h : smallT10 t) : (rawT t).2.length < 100000000 := by
  obtain ⟨hp, h1, h2, h3, h4⟩ := h
  have := joinPQ_len ⟨hp, h1, h2, h3, h4⟩
  have := textH_len t.Host hp
  unfold rawT
  split
  · simp; omega
  · split
    · dsimp only; omega
    · split
      · simp
      · dsimp only; omega
theorem target_Text_eq (t : api_Target) (h : smallT10 t) : target_Text t = some (textT t) := by
  have hl := rawT_len h
  obtain ⟨hp, h1, h2, h3, h4⟩ := h
  have hj := joinPQ_len ⟨hp, h1, h2, h3, h4⟩
  have hh := textH_len t.Host hp
  have eJ : pathq_Join t.Path t.Query t.HasQuery = some (joinPQ t) := by
    unfold pathq_Join joinPQ
    cases t.HasQuery with
    | false => simp
    | true =>
      rw [Bool.not_true, if_neg (by decide), sCat_ok (by simp; omega), Option.bind_some, sCat_ok (by simp; omega), Option.bind_some, if_pos rfl, List.append_assoc]
      rfl
  have j1 : target_Text_j1 t (rawT t).1 (rawT t).2 = some (textT t) := by
    unfold target_Text_j1 target_Text_j2
    rw [target_Parse_eq _ _ (by omega), Option.bind_some]
    unfold textT
    cases (parseT (rawT t).1 (rawT t).2).2 == 0 <;> cases (parseT (rawT t).1 (rawT t).2).1 == t <;> rfl
  unfold target_Text
  rw [hostport_Text_eq _ hp (by omega), Option.bind_some, eJ, Option.bind_some, quill_Join_nil _ (by simp) (by simp; omega), Option.bind_some]
  unfold rawT at j1
  cases k2 : t.Kind == 2 with
  | true =>
    rw [if_pos rfl]
    rw [k2, if_pos rfl] at j1
    have e : [t.Scheme, [58, 47, 47], (textH t.Host).1, joinPQ t].flatten = t.Scheme ++ [58, 47, 47] ++ (textH t.Host).1 ++ joinPQ t := by simp
    rw [e]; exact j1
  | false =>
    rw [if_neg (by decide)]
    rw [k2] at j1
    cases k3 : t.Kind == 3 with
    | true => rw [k3] at j1; exact j1
    | false =>
      rw [k3] at j1
      cases k4 : t.Kind == 4 with
      | true => rw [k4] at j1; exact j1
      | false => rw [k4] at j1; exact j1
theorem ref10_Text_eq (t : api_Target) (h : smallT10 t) : ref10_Text t = some (textT t) := by
  have hl := rawT_len h
  obtain ⟨hp, h1, h2, h3, h4⟩ := h
  have hj := joinPQ_len ⟨hp, h1, h2, h3, h4⟩
  have hh := textH_len t.Host hp
  have j4 : ref10_Text_j4 t (rawT t).2 (rawT t).1 = some (textT t) := by
    unfold ref10_Text_j4 ref10_Text_j5
    rw [ref10_Parse_eq _ _ (by omega), Option.bind_some]
    unfold textT
    cases (parseT (rawT t).1 (rawT t).2).2 == 0 <;> cases (parseT (rawT t).1 (rawT t).2).1 == t <;> rfl
  have j1 : ref10_Text_j1 t (textH t.Host) (joinPQ t) = some (textT t) := by
    unfold ref10_Text_j1 ref10_Text_j2 ref10_Text_j3
    rw [sCat_ok (by simp; omega), Option.bind_some, sCat_ok (by simp; omega), Option.bind_some, sCat_ok (by simp; omega), Option.bind_some]
    unfold rawT at j4
    cases k2 : t.Kind == 2 with
    | true =>
      have k : t.Kind = 2 := by simpa using k2
      rw [k2] at j4
      rw [k]
      exact j4
    | false =>
      rw [k2] at j4
      cases k3 : t.Kind == 3 with
      | true =>
        have k : t.Kind = 3 := by simpa using k3
        rw [k3] at j4
        rw [k]
        exact j4
      | false =>
        rw [k3] at j4
        cases k4 : t.Kind == 4 with
        | true => rw [k4] at j4; exact j4
        | false => rw [k4] at j4; exact j4
  unfold ref10_Text
  rw [ref08_Text_eq _ hp (by omega), Option.bind_some]
  unfold joinPQ at j1
  cases hq : t.HasQuery with
  | false => rw [hq] at j1; simp at j1; rw [if_neg (by decide)]; exact j1
  | true =>
    rw [hq] at j1
    rw [if_pos rfl, sCat_ok (by simp; omega), Option.bind_some, sCat_ok (by simp; omega), Option.bind_some, List.append_assoc]
    exact j1
theorem TargetWrites_true (t : api_Target) (hk : inI t.Kind = true) (hk2 : inI t.Host.Kind = true) (hp : inI t.Host.Port = true) : law10_TargetWrites t = some true := by
  unfold law10_TargetWrites
  rw [law10_awake_eq, Option.bind_some, Bool.not_true, if_neg (by decide), law10_few_eq, Option.bind_some, law10_few_eq, Option.bind_some, law10_few_eq, Option.bind_some, law10_few_eq, Option.bind_some]
  have hs : smallT10 ⟨t.Kind, t.Scheme.take 150, ⟨t.Host.Kind, t.Host.Name.take 150, t.Host.Port⟩, t.Path.take 150, t.Query.take 150, t.HasQuery⟩ := ⟨hp, by simp; omega, by simp; omega, by simp; omega, by simp; omega⟩
  generalize (⟨t.Kind, t.Scheme.take 150, ⟨t.Host.Kind, t.Host.Name.take 150, t.Host.Port⟩, t.Path.take 150, t.Query.take 150, t.HasQuery⟩ : api_Target) = u at hs
  have h3 := hs.path
  have h4 := hs.query
  rw [target_Text_eq u hs, Option.bind_some, ref10_Text_eq u hs, Option.bind_some, beq_self_eq_true, if_pos rfl, beq_self_eq_true, if_pos rfl, target_Origin_eq u (by omega) (by omega), Option.bind_some, ref10_Origin_eq u (by omega) (by omega), Option.bind_some, beq_self_eq_true]
  rfl
end Go.Dm
