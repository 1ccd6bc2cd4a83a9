/-
  Via: elements read and written.
-/
import Derived.Test.YtmdocoobecckdaaGreatDoorT14R
import Derived.Test.YtmdocoobecckdaaGreatDoorT05
import Derived.Test.YtmdocoobecckdaaGreatDoorTFold
import Derived.Test.YtmdocoobecckdaaGreatDoorLibEq
import Derived.Test.YtmdocoobecckdaaGreatDoorTAt
import Derived.Test.YtmdocoobecckdaaGreatDoorT08P
namespace Go.Dm
def balR : Nat → Str → Bool
  | d, [] => d == 0
  | d, c :: r => if c == 92 then (match r with | [] => false | _ :: t => balR d t) else if c == 40 then balR (d + 1) r else if c == 41 then (match d with | 0 => false | d + 1 => balR d r) else balR d r
theorem balR_nil (d : Nat) : balR d [] = (d == 0) := rfl
theorem balR_esc0 (d : Nat) : balR d [92] = false := by rw [balR.eq_def]; rfl
theorem balR_esc (d : Nat) (c : UInt8) (t : Str) : balR d (92 :: c :: t) = balR d t := by rw [balR.eq_def]; rfl
theorem balR_open (d : Nat) (r : Str) : balR d (40 :: r) = balR (d + 1) r := by rw [balR.eq_def]; rfl
theorem balR_close0 (r : Str) : balR 0 (41 :: r) = false := by rw [balR.eq_def]; rfl
theorem balR_close (d : Nat) (r : Str) : balR (d + 1) (41 :: r) = balR d r := by rw [balR.eq_def]; rfl
theorem balR_oth (d : Nat) {c : UInt8} (r : Str) (h1 : (c == 40) = false) (h2 : (c == 41) = false) (h3 : (c == 92) = false) : balR d (c :: r) = balR d r := by
  rw [balR.eq_def]; simp only [h1, h2, h3, Bool.false_eq_true, if_false]
def comOk (s : Str) : Bool := balR 0 s && s.all cVal
theorem balanced_L1_eq (s : Str) (hs : s.length < 900000000) : ∀ (n i d : Nat), i ≤ s.length → s.length - i < n → d ≤ i → via_balanced_L1 s n (d : Int) (i : Int) = some (balR d (s.drop i) && s.all cVal)
  | 0, _, _, _, h, _ => by omega
  | n + 1, i, d, hi, h, hd => by
    rw [via_balanced_L1]
    cases hdr : s.drop i with
    | nil =>
      have : i = s.length := by have := congrArg List.length hdr; simp at this; omega
      subst this
      unfold via_balanced_j4
      rw [decide_eq_false (by omega), if_neg (by decide), octet_All_one octet_IsValue_eq s (by omega), Option.bind_some, balR_nil]
      have : ((d : Int) == 0) = (d == 0) := by rw [Bool.eq_iff_iff]; simp
      rw [this]
      cases d == 0 <;> rfl
    | cons c r =>
      obtain ⟨hlt, hr⟩ := drop_cons_lt hdr
      have hx : s[i]? = some c := by have := congrArg (·[0]?) hdr; simpa using this
      have ih := fun i' d' h1 h2 h3 => balanced_L1_eq s hs n i' d' h1 h2 h3
      have j2 : ∀ d' i' : Nat, i' < s.length → via_balanced_j2 (via_balanced_L1 s n) s (d' : Int) (i' : Int) = via_balanced_L1 s n (d' : Int) ((i' + 1 : Nat) : Int) := fun d' i' h' => by
        unfold via_balanced_j2 via_balanced_j3
        rw [decide_eq_false (show ¬ (d' : Int) < 0 by omega), if_neg (by decide), decide_eq_false (show ¬ (s.length : Int) ≤ (i' : Int) by omega), if_neg (by decide), iAdd_one (by omega), Option.bind_some]
      rw [decide_eq_true (show (i : Int) < (s.length : Int) by omega), if_pos rfl, sAt_nat, hx, Option.bind_some, iAdd_one (by omega), Option.bind_some]
      cases c40 : c == 40 with
      | true =>
        have : c = 40 := by simpa using c40
        subst this
        have := j2 (d + 1) i hlt
        rw [if_pos rfl, this, ih (i + 1) (d + 1) (by omega) (by omega) (by omega), hr, balR_open]
      | false =>
        rw [if_neg (by decide)]
        cases c41 : c == 41 with
        | true =>
          have : c = 41 := by simpa using c41
          subst this
          rw [if_pos rfl, iSub_ok (by omega) (by omega), Option.bind_some]
          cases d with
          | zero =>
            unfold via_balanced_j2 via_balanced_j3
            rw [balR_close0]
            rfl
          | succ d =>
            have e : ((d + 1 : Nat) : Int) - 1 = (d : Int) := by omega
            rw [e, j2 d i hlt, ih (i + 1) d (by omega) (by omega) (by omega), hr, balR_close]
        | false =>
          rw [if_neg (by decide)]
          cases c92 : c == 92 with
          | true =>
            have : c = 92 := by simpa using c92
            subst this
            rw [if_pos rfl, iAdd_one (by omega), Option.bind_some]
            cases r with
            | nil =>
              have hl : s.length = i + 1 := by have := congrArg List.length hr; simp at this; omega
              unfold via_balanced_j2 via_balanced_j3
              rw [decide_eq_false (show ¬ (d : Int) < 0 by omega), if_neg (by decide), decide_eq_true (show (s.length : Int) ≤ ((i + 1 : Nat) : Int) by omega), if_pos rfl, balR_esc0]
              rfl
            | cons x t =>
              obtain ⟨hlt2, hr2⟩ := drop_cons_lt hr
              rw [j2 d (i + 1) hlt2, ih (i + 1 + 1) d (by omega) (by omega) (by omega), hr2, balR_esc]
          | false => rw [if_neg (by decide), j2 d i hlt, ih (i + 1) d (by omega) (by omega) (by omega), hr, balR_oth d r c40 c41 c92]
theorem via_balanced_eq (s : Str) (hs : s.length < 900000000) : via_balanced s = some (comOk s) := by
  unfold via_balanced comOk
  have := balanced_L1_eq s hs fuel 0 0 (Nat.zero_le _) (by unfold fuel; omega) (Nat.le_refl _)
  rw [List.drop_zero] at this
  exact this
theorem Comment_L1_eq (s : Str) (hs : s.length < 900000000) : ∀ (n i d : Nat), i ≤ s.length → s.length - i < n → d ≤ i → ref25_Comment_L1 s n (d : Int) (i : Int) = some (balR d (s.drop i) && (s.drop i).all cVal)
  | 0, _, _, _, h, _ => by omega
  | n + 1, i, d, hi, h, hd => by
    rw [ref25_Comment_L1]
    cases hdr : s.drop i with
    | nil =>
      have : i = s.length := by have := congrArg List.length hdr; simp at this; omega
      subst this
      rw [decide_eq_false (by omega), if_neg (by decide), balR_nil]
      have : ((d : Int) == 0) = (d == 0) := by rw [Bool.eq_iff_iff]; simp
      rw [this, List.all_nil, Bool.and_true]
    | cons c r =>
      obtain ⟨hlt, hr⟩ := drop_cons_lt hdr
      have hx : s[i]? = some c := by have := congrArg (·[0]?) hdr; simpa using this
      have ih := fun i' d' h1 h2 h3 => Comment_L1_eq s hs n i' d' h1 h2 h3
      have j5 : ∀ d' i' : Nat, i' < s.length → ref25_Comment_j5 (ref25_Comment_L1 s n) (d' : Int) (i' : Int) = ref25_Comment_L1 s n (d' : Int) ((i' + 1 : Nat) : Int) := fun d' i' h' => by
        unfold ref25_Comment_j5
        rw [iAdd_one (by omega), Option.bind_some]
      have j4 : ∀ d' : Nat, ref25_Comment_j4 (ref25_Comment_L1 s n) (i : Int) (d' : Int) = ref25_Comment_L1 s n (d' : Int) ((i + 1 : Nat) : Int) := fun d' => by
        unfold ref25_Comment_j4
        rw [decide_eq_false (show ¬ (d' : Int) < 0 by omega), if_neg (by decide), j5 d' i hlt]
      rw [decide_eq_true (show (i : Int) < (s.length : Int) by omega), if_pos rfl, sAt_nat, hx, Option.bind_some, ref01_Value_eq, Option.bind_some, Option.bind_some, iAdd_one (by omega), Option.bind_some, Option.bind_some, iAdd_one (by omega), Option.bind_some, List.all_cons]
      cases hv : cVal c with
      | false => rw [Bool.false_and, Bool.and_false]; rfl
      | true =>
        rw [Bool.not_true, if_neg (by decide), Bool.true_and]
        cases c92 : c == 92 with
        | true =>
          have : c = 92 := by simpa using c92
          subst this
          rw [if_pos rfl]
          unfold ref25_Comment_j2
          cases r with
          | nil =>
            have hl : s.length = i + 1 := by have := congrArg List.length hr; simp at this; omega
            have : (((i + 1 : Nat) : Int) == (s.length : Int)) = true := by rw [hl]; simp
            rw [this, if_pos rfl, if_pos rfl, balR_esc0]
            rfl
          | cons x t =>
            obtain ⟨hlt2, hr2⟩ := drop_cons_lt hr
            have hx2 : s[i + 1]? = some x := by have := congrArg (·[0]?) hr; simpa using this
            have : (((i + 1 : Nat) : Int) == (s.length : Int)) = false := beq_eq_false_iff_ne.2 (by omega)
            rw [this, if_neg (by decide), sAt_nat, hx2, Option.bind_some, ref01_Value_eq, Option.bind_some, j5 d (i + 1) hlt2, ih (i + 1 + 1) d (by omega) (by omega) (by omega), hr2, balR_esc, List.all_cons]
            cases cVal x with
            | false => rw [Bool.false_and, Bool.and_false]; rfl
            | true => rw [Bool.true_and]; rfl
        | false =>
          rw [if_neg (by decide)]
          unfold ref25_Comment_j3
          rw [sAt_nat, hx, Option.bind_some, Option.bind_some, iSub_ok (by omega) (by omega), Option.bind_some, iSub_ok (by omega) (by omega), Option.bind_some]
          cases c40 : c == 40 with
          | true =>
            have : c = 40 := by simpa using c40
            subst this
            have hj := j4 (d + 1)
            rw [if_pos rfl, if_neg (by decide), hj, ih (i + 1) (d + 1) (by omega) (by omega) (by omega), hr, balR_open]
          | false =>
            rw [if_neg (by decide)]
            cases c41 : c == 41 with
            | true =>
              have : c = 41 := by simpa using c41
              subst this
              rw [if_pos rfl]
              cases d with
              | zero =>
                unfold ref25_Comment_j4
                rw [balR_close0]
                rfl
              | succ d =>
                have e : ((d + 1 : Nat) : Int) - 1 = (d : Int) := by omega
                rw [e, j4 d, ih (i + 1) d (by omega) (by omega) (by omega), hr, balR_close]
            | false => rw [if_neg (by decide), j4 d, ih (i + 1) d (by omega) (by omega) (by omega), hr, balR_oth d r c40 c41 c92]
theorem ref25_Comment_eq (s : Str) (hs : s.length < 900000000) : ref25_Comment s = some (comOk s) := by
  unfold ref25_Comment comOk
  have := Comment_L1_eq s hs fuel 0 0 (Nat.zero_le _) (by unfold fuel; omega) (Nat.le_refl _)
  rw [List.drop_zero] at this
  exact this
def verP (w : Str) : Option (Str × Str) := match splitOn 47 w with
  | [v] => if isTok v then some ([], v) else none
  | [p, v] => if isTok p && isTok v then some (p, v) else none
  | _ => none
def byOk (b : Str) : Bool := isTok b || ((hostP b).2 == 0 && !(b.any ([44, 40, 41] : Str).contains))
def cut41 (s : Str) : Str × Bool := if ([41] : Str).isSuffixOf s then (s.take (s.length - 1), true) else (s, false)
def comP (r : Str) : Option Str := if r == [] then some [] else if ([32, 40] : Str).isPrefixOf r && (cut41 (r.drop 2)).2 && !((cut41 (r.drop 2)).1 == []) && comOk (cut41 (r.drop 2)).1 then some (cut41 (r.drop 2)).1 else none
def zeroV : api_Via := ⟨[], [], [], []⟩
def viaS (s : Str) : api_Via × Int := match verP (cutOn 32 s).1 with
  | none => (zeroV, 2)
  | some pv => if (cutOn 32 s).2.2 && byOk (upto [32] (cutOn 32 s).2.1) then (match comP (from_ [32] (cutOn 32 s).2.1) with
    | none => (zeroV, 2)
    | some c => (⟨pv.1, pv.2, upto [32] (cutOn 32 s).2.1, c⟩, 0)) else (zeroV, 2)
/-- A protocol and a version, as the scanner sees them: both, whether they are there, what is left. -/
def protoR (s : Str) : Str × Str × Bool × Str :=
  if !(s.takeWhile cTok == []) && byteB 47 (s.dropWhile cTok) then (s.takeWhile cTok, (byteR 47 (s.dropWhile cTok)).takeWhile cTok, !((byteR 47 (s.dropWhile cTok)).takeWhile cTok == []), (byteR 47 (s.dropWhile cTok)).dropWhile cTok)
  else ([], s.takeWhile cTok, !(s.takeWhile cTok == []), s.dropWhile cTok)
section
variable {s r : Str} {k : Nat}
theorem at_proto (hs : s.length < 1000000000) (h : At s k r) : ∃ k', At s k' (protoR r).2.2.2 ∧ via_reader_protocol ⟨scn s k⟩ zeroV = some ((protoR r).2.2.1, scn s k', ⟨(protoR r).1, (protoR r).2.1, [], []⟩) := by
  unfold via_reader_protocol protoR
  obtain ⟨k1, h1, e1⟩ := at_token hs h
  obtain ⟨k2, h2, e2⟩ := at_byte hs 47 h1
  obtain ⟨k3, h3, e3⟩ := at_token hs h2
  dsimp only
  rw [e1, Option.bind_some]
  dsimp only
  rw [e2, Option.bind_some]
  unfold via_reader_protocol_j1 via_reader_protocol_j2
  cases ht : r.takeWhile cTok == [] with
  | true => exact ⟨k1, h1, rfl⟩
  | false =>
    rw [Bool.not_false, if_pos rfl, Bool.true_and]
    cases hb : byteB 47 (r.dropWhile cTok) with
    | false =>
      rw [byteR_else hb] at h2
      exact ⟨k2, h2, rfl⟩
    | true =>
      refine ⟨k3, h3, ?_⟩
      rw [if_pos rfl]
      dsimp only [scn] at e3 ⊢
      rw [e3, Option.bind_some]
      rfl
theorem CutSuffix_41 (u : Str) (hs : u.length < 1000000000) : strings_CutSuffix u [41] = some (cut41 u) := by
  unfold strings_CutSuffix stringslite_CutSuffix
  rw [HasSuffix_eq u [41] hs (by decide), Option.bind_some]
  unfold cut41
  cases hp : ([41] : Str).isSuffixOf u with
  | false => rfl
  | true =>
    have hl := (List.isSuffixOf_iff_suffix.1 hp).length_le
    simp only [List.length_singleton] at hl
    have e : iSub (u.length : Int) (([41] : Str).length : Int) = some ((u.length - 1 : Nat) : Int) := by
      rw [iSub_ok (by simp; omega) (by simp; omega)]; congr 1; simp; omega
    rw [Bool.not_true, if_neg (by decide), e, Option.bind_some, sTo_nat (by omega)]
    rfl
theorem cut41_len (u : Str) : (cut41 u).1.length ≤ u.length := by unfold cut41; split <;> simp
theorem via_comment_eq (hs : s.length < 800000000) (h : At s k r) (p v b : Str) : ∃ w, via_reader_comment ⟨scn s k⟩ ⟨p, v, b, []⟩ = some ((comP r).isSome, scn s k, w) ∧ ∀ c, comP r = some c → w = ⟨p, v, b, c⟩ := by
  unfold via_reader_comment comP
  have hl := h.le_len
  dsimp only
  rw [at_end h, Option.bind_some]
  cases hr : r == [] with
  | true => exact ⟨_, rfl, fun c hc => by cases hc; rfl⟩
  | false =>
    rw [if_neg (by decide), if_neg (by decide), at_rest h, Option.bind_some, strings_CutPrefix_eq r [32, 40] (by omega), Option.bind_some]
    unfold via_reader_comment_j1
    cases hp : ([32, 40] : Str).isPrefixOf r with
    | false =>
      rw [if_neg (by decide)]
      dsimp only
      rw [CutSuffix_41 r (by omega), Option.bind_some]
      exact ⟨_, rfl, fun c hc => by cases hc⟩
    | true =>
      rw [if_pos rfl]
      have hcl := cut41_len (r.drop 2)
      have hdl : (r.drop 2).length ≤ r.length := by simp
      show ∃ w, ((strings_CutSuffix (r.drop 2) [41]).bind _) = _ ∧ _
      rw [CutSuffix_41 _ (by omega), Option.bind_some, via_balanced_eq _ (by omega), Option.bind_some]
      cases (cut41 (r.drop 2)).2 with
      | false => exact ⟨_, rfl, fun c hc => by cases hc⟩
      | true =>
        cases hn : (cut41 (r.drop 2)).1 == [] with
        | true => exact ⟨_, rfl, fun c hc => by simp at hc⟩
        | false =>
          cases hc : comOk (cut41 (r.drop 2)).1 with
          | false => exact ⟨_, rfl, fun c hc => by simp at hc⟩
          | true => exact ⟨_, rfl, fun c hc => by simp at hc; rw [← hc]⟩
end
def viaQ (s : Str) : api_Via × Int :=
  if (protoR s).2.2.1 && byteB 32 (protoR s).2.2.2 && byOk ((byteR 32 (protoR s).2.2.2).takeWhile (fun b => !(b == 32))) then (match comP ((byteR 32 (protoR s).2.2.2).dropWhile (fun b => !(b == 32))) with
    | none => (zeroV, 2)
    | some c => (⟨(protoR s).1, (protoR s).2.1, (byteR 32 (protoR s).2.2.2).takeWhile (fun b => !(b == 32)), c⟩, 0)) else (zeroV, 2)
theorem via_Parse_eqQ (s : Str) (hs : s.length < 300000000) : via_Parse s = some (viaQ s) := by
  unfold via_Parse viaQ
  have hs' : s.length < 1000000000 := by omega
  rw [scan_New_eq, Option.bind_some]
  obtain ⟨k1, h1, e1⟩ := at_proto hs' (At.zero s)
  obtain ⟨k2, h2, e2⟩ := at_byte hs' 32 h1
  obtain ⟨k3, h3, e3⟩ := at_while (f := via_reader_by_1) (p := fun b => !(b == 32)) (fun b => rfl) hs' h2
  obtain ⟨w, e4, h4⟩ := via_comment_eq (by omega) h3 (protoR s).1 (protoR s).2.1 ((byteR 32 (protoR s).2.2.2).takeWhile (fun b => !(b == 32)))
  have hl2 := h2.le_len
  have htl := takeWhile_le (fun b => !(b == 32)) (byteR 32 (protoR s).2.2.2)
  show (via_reader_protocol ⟨scn s 0⟩ zeroV).bind _ = _
  rw [e1, Option.bind_some]
  unfold via_Parse_j1
  dsimp only
  rw [e2, Option.bind_some]
  cases (protoR s).2.2.1 with
  | false => rfl
  | true =>
    rw [Bool.not_true, if_neg (by decide), Bool.true_and]
    cases byteB 32 (protoR s).2.2.2 with
    | false => rfl
    | true =>
      rw [Bool.true_and]
      dsimp only
      rw [Bool.not_true, if_neg (by decide)]
      unfold via_reader_by
      dsimp only
      rw [e3, Option.bind_some]
      dsimp only
      rw [hostport_Parse_eq _ (by omega), Option.bind_some, octet_Token_eq _ (by omega), Option.bind_some, strings_ContainsAny_eq _ [44, 40, 41] (by omega) (by decide) (by decide), Option.bind_some]
      unfold via_reader_by_j1 byOk
      generalize hb : (byteR 32 (protoR s).2.2.2).takeWhile (fun b => !(b == 32)) = b at e4 h4
      have fin : ((via_reader_comment ⟨scn s k3⟩ ⟨(protoR s).1, (protoR s).2.1, b, []⟩).bind fun r18 => if (!r18.1) = true then some (zeroV, (2 : Int)) else some (⟨r18.2.2.Proto, r18.2.2.Version, r18.2.2.By, r18.2.2.Comment⟩, 0)) = some (match comP ((byteR 32 (protoR s).2.2.2).dropWhile (fun b => !(b == 32))) with | none => (zeroV, 2) | some c => (⟨(protoR s).1, (protoR s).2.1, b, c⟩, 0)) := by
        rw [e4, Option.bind_some]
        cases hc : comP ((byteR 32 (protoR s).2.2.2).dropWhile (fun b => !(b == 32))) with
        | none => rfl
        | some c =>
          have := h4 c hc
          subst this
          rfl
      cases isTok b with
      | true => exact fin
      | false =>
        rw [if_neg (by decide), Bool.false_or]
        cases (hostP b).2 == 0 with
        | false => rfl
        | true =>
          rw [if_pos rfl, Bool.true_and]
          cases b.any ([44, 40, 41] : Str).contains with
          | true => rfl
          | false => exact fin
theorem upto32 (u : Str) : upto [32] u = u.takeWhile (fun b => !(b == 32)) ∧ from_ [32] u = u.dropWhile (fun b => !(b == 32)) := by
  have : (fun c : UInt8 => !([32] : Str).contains c) = fun b => !(b == 32) := by
    funext c
    simp only [List.contains_cons, List.contains_nil, Bool.or_false]
  unfold upto from_
  rw [this]
  exact ⟨rfl, rfl⟩
theorem tok_no47 {m : Str} (h : m.all cTok = true) : (47 : UInt8) ∉ m ∧ (32 : UInt8) ∉ m := ⟨fun hx => by
  have := List.all_eq_true.1 h 47 hx
  revert this; decide, fun hx => by
  have := List.all_eq_true.1 h 32 hx
  revert this; decide⟩
theorem cutOn_at {w : Str} (u : Str) (h : (32 : UInt8) ∉ w) : cutOn 32 (w ++ 32 :: u) = (w, u, true) := by
  have h1 := tw_app (p := fun b => !(b == 32)) (c := 32) (by decide) u (no32_all h)
  obtain ⟨e1, e2⟩ := upto32 (w ++ 32 :: u)
  unfold cutOn
  rw [e1, e2, h1.1, h1.2]
  rfl
theorem verP_one {v : Str} (h : isTok v = true) : verP v = some ([], v) := by
  have := tok_no47 ((isTok_iff v).1 h).2
  unfold verP
  rw [splitOn_none this.1]
  dsimp only
  rw [if_pos h]
theorem verP_two {p v : Str} (h1 : isTok p = true) (h2 : isTok v = true) : verP (p ++ 47 :: v) = some (p, v) := by
  have t1 := tok_no47 ((isTok_iff p).1 h1).2
  have t2 := tok_no47 ((isTok_iff v).1 h2).2
  unfold verP
  rw [splitOn_at _ t1.1, splitOn_none t2.1]
  dsimp only
  rw [h1, h2]; rfl
theorem splitOn_join47 : ∀ {w p v : Str}, splitOn 47 w = [p, v] → w = p ++ 47 :: v
  | [], p, v, h => by rw [splitOn] at h; cases h
  | y :: w, p, v, h => by
    rw [splitOn_cons] at h
    split at h
    · rename_i e
      subst e
      injection h with h1 h2
      rw [← h1, splitOn_single h2]; rfl
    · cases h3 : splitOn 47 w with
      | nil => exact absurd h3 (splitOn_ne 47 w)
      | cons a l =>
        rw [h3] at h
        injection h with h1 h2
        subst h2
        have := splitOn_join47 h3
        rw [← h1, this]; rfl
theorem verP_some {w : Str} {pv : Str × Str} (h : verP w = some pv) : (isTok w = true ∧ pv = ([], w)) ∨ (isTok pv.1 = true ∧ isTok pv.2 = true ∧ w = pv.1 ++ 47 :: pv.2) := by
  unfold verP at h
  split at h
  · rename_i v hsp
    split at h
    · rename_i ht
      cases h
      have := splitOn_single hsp
      subst this
      exact .inl ⟨ht, rfl⟩
    · cases h
  · rename_i p v hsp
    split at h
    · rename_i ht
      cases h
      simp only [Bool.and_eq_true] at ht
      have e : w = p ++ 47 :: v := by
        have hj := splitOn_join47 hsp
        exact hj
      exact .inr ⟨ht.1, ht.2, e⟩
    · cases h
  · cases h
theorem tw_tok {m : Str} (c : UInt8) (r : Str) (hc : cTok c = false) (h : m.all cTok = true) : (m ++ c :: r).takeWhile cTok = m ∧ (m ++ c :: r).dropWhile cTok = c :: r := tw_app hc r h
theorem proto_lit1 {v : Str} (u : Str) (h : isTok v = true) : protoR (v ++ 32 :: u) = ([], v, true, 32 :: u) := by
  obtain ⟨h1, h2⟩ := (isTok_iff v).1 h
  have ht := tw_tok 32 u (by decide) h2
  unfold protoR
  rw [ht.1, ht.2]
  have : byteB 47 (32 :: u) = false := by rw [byteB_cons]; decide
  have hn : (v == []) = false := by simpa using h1
  rw [this, Bool.and_false, if_neg Bool.false_ne_true, hn]
  rfl
theorem proto_lit2 {p v : Str} (u : Str) (h1 : isTok p = true) (h2 : isTok v = true) : protoR ((p ++ 47 :: v) ++ 32 :: u) = (p, v, true, 32 :: u) := by
  obtain ⟨p1, p2⟩ := (isTok_iff p).1 h1
  obtain ⟨v1, v2⟩ := (isTok_iff v).1 h2
  have e : (p ++ 47 :: v) ++ 32 :: u = p ++ 47 :: (v ++ 32 :: u) := by simp
  have ht := tw_tok 47 (v ++ 32 :: u) (by decide) p2
  have ht2 := tw_tok 32 u (by decide) v2
  unfold protoR
  rw [e, ht.1, ht.2, byteB_cons, byteR_cons, ht2.1, ht2.2]
  have hn : (p == []) = false := by simpa using p1
  have hn2 : (v == []) = false := by simpa using v1
  rw [hn, hn2]
  rfl
theorem viaQ_S (s : Str) : viaQ s = viaS s := by
  unfold viaS
  cases hv : verP (cutOn 32 s).1 with
  | some pv =>
    dsimp only
    rcases bcase (cutOn 32 s).2.2 with hc | hc
    · have e := cutOn_join 32 s hc
      have hp : protoR s = (pv.1, pv.2, true, 32 :: (cutOn 32 s).2.1) := by
        rcases verP_some hv with ⟨t1, t2⟩ | ⟨t1, t2, t3⟩
        · have := proto_lit1 (cutOn 32 s).2.1 t1
          rw [e] at this
          rw [this, t2]
        · have := proto_lit2 (cutOn 32 s).2.1 t1 t2
          rw [← t3, e] at this
          exact this
      obtain ⟨e1, e2⟩ := upto32 (cutOn 32 s).2.1
      unfold viaQ
      rw [hp, hc, e1, e2]
      dsimp only
      rw [byteB_cons, byteR_cons]
      rfl
    · -- no blank: nothing stands behind the version
      have hn := cutOn_none 32 s hc
      rw [hc, Bool.false_and, if_neg Bool.false_ne_true]
      have hno : (32 : UInt8) ∉ s := fun hm => by
        have h0 : upto [32] s = s := by have := congrArg Prod.fst hn; exact this
        have := upto_not (cs := [32]) (s := s) 32 (by rw [h0]; exact hm)
        simp at this
      have hb : byteB 32 (protoR s).2.2.2 = false := by
        cases h : byteB 32 (protoR s).2.2.2 with
        | false => rfl
        | true =>
          exfalso
          have hm := byteB_true h
          have hin : (32 : UInt8) ∈ (protoR s).2.2.2 := by rw [hm]; simp
          apply hno
          unfold protoR at hin
          split at hin
          · have h1 := (List.dropWhile_suffix _).mem hin
            unfold byteR at h1
            split at h1
            · exact (List.dropWhile_suffix _).mem (List.mem_of_mem_drop h1)
            · exact (List.dropWhile_suffix _).mem h1
          · exact (List.dropWhile_suffix _).mem hin
      unfold viaQ
      rw [hb, Bool.and_false, Bool.false_and, if_neg Bool.false_ne_true]
  | none =>
    dsimp only
    have hq : ((protoR s).2.2.1 && byteB 32 (protoR s).2.2.2) = false := by
      cases h : (protoR s).2.2.1 && byteB 32 (protoR s).2.2.2 with
      | false => rfl
      | true =>
        exfalso
        simp only [Bool.and_eq_true] at h
        obtain ⟨h1, h2⟩ := h
        have e2 := byteB_true h2
        have e0 : s.takeWhile cTok ++ s.dropWhile cTok = s := List.takeWhile_append_dropWhile
        have hall : ∀ t : Str, (t.takeWhile cTok).all cTok = true := fun t => List.all_eq_true.2 fun x hx => takeWhile_all hx
        unfold protoR at h1 e2
        split at h1
        · rename_i hc
          rw [if_pos hc] at e2
          simp only [Bool.and_eq_true, Bool.not_eq_true', beq_eq_false_iff_ne] at hc
          have hb := byteB_true hc.2
          have e3 : (byteR 47 (s.dropWhile cTok)).takeWhile cTok ++ (byteR 47 (s.dropWhile cTok)).dropWhile cTok = byteR 47 (s.dropWhile cTok) := List.takeWhile_append_dropWhile
          have tp : isTok (s.takeWhile cTok) = true := (isTok_iff _).2 ⟨hc.1, hall _⟩
          have tv : isTok ((byteR 47 (s.dropWhile cTok)).takeWhile cTok) = true := (isTok_iff _).2 ⟨by simpa using h1, hall _⟩
          have es : s = (s.takeWhile cTok ++ 47 :: (byteR 47 (s.dropWhile cTok)).takeWhile cTok) ++ 32 :: byteR 32 ((byteR 47 (s.dropWhile cTok)).dropWhile cTok) := by
            rw [List.append_assoc, List.cons_append, ← e2, e3, ← hb, e0]
          have hn1 := tok_no47 ((isTok_iff _).1 tp).2
          have hn2 := tok_no47 ((isTok_iff _).1 tv).2
          have hcut : (cutOn 32 s).1 = s.takeWhile cTok ++ 47 :: (byteR 47 (s.dropWhile cTok)).takeWhile cTok := by
            have := cutOn_at (w := s.takeWhile cTok ++ 47 :: (byteR 47 (s.dropWhile cTok)).takeWhile cTok) (byteR 32 ((byteR 47 (s.dropWhile cTok)).dropWhile cTok)) (fun hm => by
              rcases List.mem_append.1 hm with hm | hm
              · exact hn1.2 hm
              · rcases List.mem_cons.1 hm with hm | hm
                · exact absurd hm (by decide)
                · exact hn2.2 hm)
            rw [← es] at this
            exact congrArg Prod.fst this
          rw [hcut, verP_two tp tv] at hv
          cases hv
        · rename_i hc
          rw [if_neg hc] at e2
          have tp : isTok (s.takeWhile cTok) = true := (isTok_iff _).2 ⟨by simpa using h1, hall _⟩
          have es : s = s.takeWhile cTok ++ 32 :: byteR 32 (s.dropWhile cTok) := by rw [← e2, e0]
          have hn1 := tok_no47 ((isTok_iff _).1 tp).2
          have hcut : (cutOn 32 s).1 = s.takeWhile cTok := by
            have := cutOn_at (w := s.takeWhile cTok) (byteR 32 (s.dropWhile cTok)) hn1.2
            rw [← es] at this
            exact congrArg Prod.fst this
          rw [hcut, verP_one tp] at hv
          cases hv
    unfold viaQ
    rw [hq, Bool.false_and, if_neg Bool.false_ne_true]
theorem via_Parse_eq (s : Str) (hs : s.length < 300000000) : via_Parse s = some (viaS s) := by rw [via_Parse_eqQ s hs, viaQ_S]
end Go.Dm
