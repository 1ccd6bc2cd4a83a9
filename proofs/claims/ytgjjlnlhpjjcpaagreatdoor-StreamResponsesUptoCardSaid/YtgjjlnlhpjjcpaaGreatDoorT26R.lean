/-
 Paths and queries: the program's, and the document's.
 Targets: the program's.
 What is sent on of a target: without the document.
 Targets: the document's, as the program's.
 First lines: the program's.
 A request's line: its parts come out as they went in.
 First lines: the document's, as the program's; written, and read again.
 First lines written, and read again.
 Blanks at a text's ends. No program in sight.
 Quoted texts, and lists between commas: what they come to. No program in sight.
 Quoted texts, comments, and lists between commas: the program's.
 Quoted texts, and lists between co
-/
import Derived.Test.YtgjjlnlhpjjcpaaGreatDoorT08P
section
namespace Go.Dm
def pqL (more : Str) : Str → Bool
 | [] => true
 | c :: s => if c == 37 then (match s with
  | a :: b :: r => zcy a && zcy b && pqL more r
  | _ => false) else (zp0 c || more.contains c) && pqL more s
theorem zy9 (more s : Str) : pqL more (37 :: s) = (match s with | a :: b :: r => zcy a && zcy b && pqL more r | _ => false) := by
 rw [pqL.eq_def]
 match s with
 | [] => rfl
 | [_] => rfl
 | _ :: _ :: _ => rfl
theorem zza (more : Str) (c : UInt8) (s : Str) (h : (c == 37) = false) : pqL more (c :: s) = ((zp0 c || more.contains c) && pqL more s) := by
 rw [pqL.eq_def]; simp only [h,Bool.false_eq_true,if_false]
theorem zD8 (l : Str) (c : UInt8) : decide (0 ≤ zkk l c 0) = l.contains c := zxW l c 0
theorem zrV (rec1 : Int → Option Bool) (i : Nat) (hi : i < 4000000000) : zh5 rec1 (i : Int) = rec1 ((i + 1 : Nat) : Int) := by
 unfold zh5; rw [zf (by omega),yob]
theorem zxB (rec1 : Int → Option Bool) (i : Nat) (t : Bool) (hi : i < 3000000000) : zfd rec1 (i : Int) t = if t = true then rec1 ((i + 3 : Nat) : Int) else some false := by
 unfold zfd
 have i2 : zq (i : Int) 2 = some ((i + 2 : Nat) : Int) := by rw [zan (by omega) (by omega)]; simp
 rw [i2,yob,zrV rec1 (i + 2) (by omega)]
theorem zrW (s more : Str) (hs : s.length < 1000000000) (hm : more.contains 37 = false) : zl6 s more = some (pqL more s) := by
 unfold zl6
 have key : ∀ (n i : Nat),i ≤ s.length → s.length - i < n → zce s more n (i : Int) = some (pqL more (s.drop i)) := by
  intro n
  induction n with
  | zero => intro i _ h; omega
  | succ n ih =>
   intro i hi h;rw [zce]
   cases hd : s.drop i with
   | nil =>
    have : i = s.length := by have := congrArg List.length hd; simp at this; omega
    subst this;simp only [Int.lt_irrefl,decide_false,Bool.false_eq_true,if_false,pqL]
   | cons c t =>
    have hlt : i < s.length := by have := congrArg List.length hd; simp at this; omega
    have hx : s[i]? = some c := by have := congrArg (·[0]?) hd; simpa using this
    have ht : s.drop (i + 1) = t := by rw [← List.drop_drop,hd]; rfl
    have htl : t.length = s.length - (i + 1) := by rw [← ht]; simp
    have i2 : zq (i : Int) 2 = some ((i + 2 : Nat) : Int) := by rw [zan (by omega) (by omega)]; simp
    have i3 : zq (i : Int) 3 = some ((i + 3 : Nat) : Int) := by rw [zan (by omega) (by omega)]; simp
    have hih := ih (i + 1) (by omega) (by omega);rw [ht] at hih;have j4 := zrV (zce s more n) i (by omega);have j3 := zxB (zce s more n) i;simp only [Int.ofNat_lt,hlt,decide_true,if_true,zA,hx,yob,zr0,strings_IndexByte,zD8,zjJ,j4,hih]
    rcases zdX (c == 37) with hc | hc
    ·have : c = 37 := by simpa using hc
     subst this
     have hp : zp0 37 = false := by decide
     rw [zy9,hp,hm];simp only [Bool.false_eq_true,if_false,ybs,if_true,i2,yob,zf (show i < 4611686018427387904 by omega),i3]
     match t,ht,htl with
     | [],ht,htl =>
      have : ¬ ((i + 2 : Nat) : Int) < (s.length : Int) := by simp at htl; omega
      simp only [this,decide_false,Bool.false_eq_true,if_false,j3 false (by omega)]
     | [a],ht,htl =>
      have : ¬ ((i + 2 : Nat) : Int) < (s.length : Int) := by simp at htl; omega
      simp only [this,decide_false,Bool.false_eq_true,if_false,j3 false (by omega)]
     | a :: b :: r,ht,htl =>
      have hlt2 : ((i + 2 : Nat) : Int) < (s.length : Int) := by simp at htl; omega
      have hr : s.drop (i + 3) = r := by
       have : (s.drop (i + 1)).drop 2 = r := by rw [ht]; rfl
       rwa [List.drop_drop] at this
      have hi3 : i + 3 ≤ s.length := by simp at htl; omega
      have hih := ih (i + 3) hi3 (by omega);rw [hr] at hih
      have hsub : zd0 s ((i + 1 : Nat) : Int) ((i + 3 : Nat) : Int) = some [a,b] := by
       rw [zbx (by omega) hi3,List.drop_take,ht]
       have : i + 3 - (i + 1) = 2 := by omega
       rw [this]; rfl
      simp only [hlt2,decide_true,if_true,hsub,yob,zey zgn [a,b] (by simp),j3 _ (show i < 3000000000 by omega),hih];cases ha : zcy a <;> cases hb : zcy b <;> simp [ha,hb]
    ·rw [zza more c t hc,hc];cases zp0 c <;> cases hq : more.contains c <;> simp [zfd]
 have := key fuel 0 (yz _) (by unfold fuel; omega);simpa using this
theorem zrX (s more : Str) (hs : s.length < 1000000000) (hm : more.length < 1000000000) : zn3 s more = some (pqL more s) := by
 unfold zn3
 have key : ∀ (n : Nat) (s : Str),s.length < n → s.length < 1000000000 → zfz n s more = some (pqL more s) := by
  intro n
  induction n with
  | zero => intro s h; omega
  | succ n ih =>
   intro s h hs;rw [zfz]
   cases s with
   | nil => simp [pqL]
   | cons c s =>
    have h1 : ((c :: s == ([] : Str))) = false := rfl
    have e1 : zaG (c :: s) 1 = some s := by
     have := zB (l := c :: s) (i := 1) (by simp);simpa using this
    simp only [ylc] at h hs;simp only [h1,Bool.false_eq_true,if_false,zg7,List.getElem?_cons_zero,yob,zt4,zwF _ more hm,zib,e1,ih s (by omega) (by omega)]
    rcases zdX (c == 37) with hc | hc
    ·have : c = 37 := by simpa using hc
     subst this;rw [zy9]
     match s,h,hs with
     | [],_,_ => simp [zeo]
     | [a],_,_ => simp [zeo]
     | a :: b :: r,h,hs =>
      have h2 : (2 : Int) < ((37 :: a :: b :: r : Str).length : Int) := by simp only [ylc]; omega
      have e3 : zaG (37 :: a :: b :: r) 3 = some r := by
       have := zB (l := 37 :: a :: b :: r) (i := 3) (by simp);simpa using this
      have a1 : sAt (37 :: a :: b :: r) 1 = some a := by simp
      have a2 : sAt (37 :: a :: b :: r) 2 = some b := by simp
      simp only [ylc] at h hs;simp only [h2,decide_true,if_true,ybs,a1,a2,yob,ziv,zeo,e3,ih r (by omega) (by omega)];cases ha : zcy a <;> cases hb : zcy b <;> simp [ha,hb]
    ·rw [zza more c s hc,hc];cases zp0 c <;> cases more.contains c <;> simp
 exact key fuel s (zeN (by omega)) hs
def zf8 (s : Str) : Bool := (([47] : Str).isPrefixOf s) && pqL [47] s
def zgh (s : Str) : Bool := pqL [47,63] s
theorem zuy (s : Str) (hs : s.length < 1000000000) : zkQ s = some (zf8 s) := by
 unfold zkQ zf8;rw [zgr s [47] hs,yob,zrW s [47] hs (by decide),yob];cases ([47] : Str).isPrefixOf s <;> simp [zhz]
theorem ztT (s : Str) (hs : s.length < 1000000000) : zjK s = some (zgh s) := by
 unfold zjK zgh;rw [zrW s [47,63] hs (by decide),yob]
theorem zuz (s : Str) (hs : s.length < 1000000000) : zk0 s = some (zf8 s) := by
 unfold zk0 zf8;rw [zrX s [47] hs (by decide)]
 cases s with
 | nil => rfl
 | cons c s =>
  have h2 : (0 : Int) < ((c :: s : Str).length : Int) := by simp only [ylc]; omega
  simp only [h2,decide_true,if_true,zg7,List.getElem?_cons_zero,yob,zf1,List.isPrefixOf_cons_cons,List.isPrefixOf_nil_left,Bool.and_true]
  rcases zdX (c == 47) with h | h
  ·have : c = 47 := by simpa using h
   subst this; simp
  ·have : ((47 : UInt8) == c) = false := by rw [beq_eq_false_iff_ne] at h ⊢; exact fun e => h e.symm
   rw [h,this]; simp
theorem zop (s : Str) (hs : s.length < 1000000000) : zic s = some (zgh s) := by
 unfold zic zgh;rw [zrX s [47,63] hs (by decide),yob]
theorem zAi (c : UInt8) : ∀ s : Str,Go.Lib.index s [c] = if zap [c] s = [] then -1 else ((upto [c] s).length : Int) := by
 intro s
 induction s with
 | nil => rfl
 | cons x s ih =>
  by_cases h : x = c
  ·subst h;rw [zoT,zjF (by simp),zjE (by simp)]; simp
  ·rw [zoS h,ih]
   have hx : ([c] : Str).contains x = false := by simp [h]
   rw [zjH hx,zjG hx]
   split
   ·rfl
   ·rename_i h2
    rw [if_neg (by omega)];simp
def zQ (c : UInt8) (s : Str) : Str × Str × Bool := (upto [c] s,(zap [c] s).drop 1, !(zap [c] s == []))
theorem znf (s : Str) (c : UInt8) (hs : s.length < 1000000000) : strings_Cut s [c] = some (zQ c s) := by
 unfold strings_Cut Go.Lib.cut zQ;rw [if_pos (by omega),zAi]
 congr 1
 by_cases h2 : zap [c] s = []
 ·rw [if_pos h2,if_neg (by omega)];have e := zcn [c] s;rw [h2,yan] at e;rw [h2,e]; rfl
 ·have h3 : (zap [c] s == []) = false := beq_eq_false_iff_ne.2 h2;rw [h3,if_neg h2,if_pos (by omega)]
  have e : s.drop ((upto [c] s).length + 1) = (zap [c] s).drop 1 := by rw [← List.drop_drop,zjf]
  simp only [Int.toNat_natCast,zlY,List.length_singleton,e,ynf]
theorem ztU (c : UInt8) (s : Str) (h : (zQ c s).2.2 = true) : (zQ c s).1 ++ c :: (zQ c s).2.1 = s := by
 have e := zcn [c] s;unfold zQ at h ⊢;simp only [Bool.not_eq_true',beq_eq_false_iff_ne] at h
 cases hf : zap [c] s with
 | nil => exact absurd hf h
 | cons x r =>
  have := zoz hf
  have hx : x = c := by simpa using this
  subst hx;rw [hf] at e;simpa [hf] using e
theorem zmW (c : UInt8) (s : Str) (h : (zQ c s).2.2 = false) : zQ c s = (s,[],false) := by
 have e := zcn [c] s;unfold zQ at h ⊢;simp only [Bool.not_eq_false',beq_iff_eq] at h;rw [h,yan] at e;rw [h,e]; rfl
theorem zoG (c : UInt8) (s : Str) : (zQ c s).1.length ≤ s.length ∧ (zQ c s).2.1.length ≤ s.length := by
 have e := congrArg List.length (zcn [c] s);rw [yla] at e;unfold zQ;simp only [yld];omega
def zuA (s : Str) : Str × Str × Bool × Int :=
 if zf8 (zQ 63 s).1 && zgh (zQ 63 s).2.1 then ((zQ 63 s).1,(zQ 63 s).2.1,(zQ 63 s).2.2,0) else ([],[],false,2)
theorem zqF (s : Str) (hs : s.length < 1000000000) : zl7 s = some (zuA s) := by
 unfold zl7 zuA;have := zoG 63 s;rw [znf s 63 hs,yob,zuy _ (by omega),yob,ztT _ (by omega),yob];cases zf8 (zQ 63 s).1 <;> cases zgh (zQ 63 s).2.1 <;> simp [ziI]
end Go.Dm
end
section
namespace Go.Dm
def zu2 : api_Target := ⟨0,[],⟨0,[],0⟩,[],[],false⟩
def zm7 (t : api_Target) (s : Str) : api_Target × Bool :=
 if s = [] then (t,true) else
  (⟨t.Kind,t.Scheme,t.Host,if s.head? == some 63 then [] else (zuA s).1,(zuA (if s.head? == some 63 then 47 :: s else s)).2.1,(zuA (if s.head? == some 63 then 47 :: s else s)).2.2.1⟩,(zuA (if s.head? == some 63 then 47 :: s else s)).2.2.2 == 0)
theorem znI (t : api_Target) (s : Str) (hs : s.length < 900000000) : zh6 t s = some (zm7 t s) := by
 unfold zh6 zm7
 cases s with
 | nil => rfl
 | cons c r =>
  have h1 : ((c :: r == ([] : Str))) = false := rfl;rw [h1,if_neg (by decide),if_neg (by simp),show (0 : Int) = ((0 : Nat) : Int) from rfl,zA,List.getElem?_cons_zero,yob,List.head?_cons,Option.some_beq_some];unfold zgu zgt;simp only [ylc] at hs
  cases hc : c == 63 with
  | true =>
   rw [if_pos rfl,if_pos rfl,zhn (by simp only [ylc,yln]; omega),yob,show ([47] : Str) ++ c :: r = 47 :: c :: r from rfl,zqF _ (by simp only [ylc]; omega),yob];rfl
  | false =>
   rw [if_neg (by decide),if_neg (by decide),zqF _ (by simp only [ylc]; omega),yob,if_neg (by decide)];rfl
def zm8 : Str := [104,116,116,112]
def zj5 : Str := [104,116,116,112,115]
def zw4 (s : Str) : api_Target × Bool := match zaA [58,47,47] s with
 | none => (⟨2,low s,⟨0,[],0⟩,[],[],false⟩,false)
 | some p => if low p.1 == zm8 || low p.1 == zj5 then
   (if (zc3 (upto [47,63] p.2)).2 == 0 then zm7 ⟨2,low p.1,(zc3 (upto [47,63] p.2)).1,[],[],false⟩ (zap [47,63] p.2) else (⟨2,low p.1,⟨0,[],0⟩,[],[],false⟩,false))
  else (⟨2,low p.1,⟨0,[],0⟩,[],[],false⟩,false)
theorem ztk (a b c : Str) (q : Bool) (hb : b.length < 300000000) : zcq (a,b,q) c ((upto [47,63] b).length : Int) = some (if (zc3 (upto [47,63] b)).2 == 0 then zm7 ⟨2,c,(zc3 (upto [47,63] b)).1,[],[],false⟩ (zap [47,63] b) else (⟨2,c,⟨0,[],0⟩,[],[],false⟩,false)) := by
 unfold zcq;have hu := zmx [47,63] b
 have hf : (zap [47,63] b).length ≤ b.length := by
  have := congrArg List.length (zcn [47,63] b); rw [yla] at this; omega
 dsimp only;rw [zbR hu,yob,zlY,ziu _ (by omega),yob,zB hu,yob,zjf,znI _ _ (by omega),yob];cases (zc3 (upto [47,63] b)).2 == 0 <;> rfl
theorem zpx (s : Str) (hs : s.length < 300000000) : zfK s = some (zw4 s) := by
 unfold zfK zw4;rw [zoi s _ (by omega) (by simp),yob]
 cases hc : zaA [58,47,47] s with
 | none =>
  dsimp only;rw [zju s (by omega),yob];rfl
 | some p =>
  have e := congrArg List.length (zbF (a := p.1) (b := p.2) hc);simp only [yla,ylc,yln] at e;have hu := zmx [47,63] p.2;dsimp only;rw [zju p.1 (by omega),yob]
  have hj : zaD (p.1,p.2,true) (low p.1) false = some (if (zc3 (upto [47,63] p.2)).2 == 0 then zm7 ⟨2,low p.1,(zc3 (upto [47,63] p.2)).1,[],[],false⟩ (zap [47,63] p.2) else (⟨2,low p.1,⟨0,[],0⟩,[],[],false⟩,false)) := by
   unfold zaD;rw [if_neg (by decide)];dsimp only;rw [zkd p.2 [47,63] (by omega) (by decide) (by decide),yob];have hj2 := ztk p.1 p.2 (low p.1) true (by omega)
   by_cases h0 : zap [47,63] p.2 = []
   ·rw [if_pos h0,ydt (by omega),if_pos rfl];rw [(zec _ _).1 h0] at hj2;exact hj2
   ·rw [if_neg h0,ydf (by omega),if_neg (by decide)];exact hj2
  have hj0 : zaD (p.1,p.2,true) (low p.1) true = some (⟨2,low p.1,⟨0,[],0⟩,[],[],false⟩,false) := rfl;rw [hj,hj0,if_neg (by decide)];show (if (!(low p.1 == zm8)) = true then zaD (p.1,p.2,true) (low p.1) (!(low p.1 == zj5)) else _) = _
  cases low p.1 == zm8 with
  | true => rfl
  | false =>
   cases low p.1 == zj5 with
   | true => rw [ynf,if_pos rfl,ynt,hj]; rfl
   | false => rw [ynf,if_pos rfl,hj0]; rfl
def ztl : Str := [79,80,84,73,79,78,83]
def znJ : Str := [67,79,78,78,69,67,84]
def ofT (m s : Str) : api_Target × Bool := if s == [42] then (⟨4,[],⟨0,[],0⟩,[],[],false⟩,m == ztl) else if ([47] : Str).isPrefixOf s then zm7 ⟨1,[],⟨0,[],0⟩,[],[],false⟩ s else zw4 s
theorem zvQ (m s : Str) (hs : s.length < 300000000) : zl8 m s = some (ofT m s) := by
 unfold zl8 ofT;rw [zgr s [47] (by omega),yob,zpx s hs,yob,znI _ s (by omega),yob];cases s == [42] <;> cases ([47] : Str).isPrefixOf s <;> rfl
def zkL (m s : Str) : api_Target × Int :=
 if m == znJ then (if (zc3 s).2 == 0 && !decide ((zc3 s).1.Port < 0) then (⟨3,[],(zc3 s).1,[],[],false⟩,0) else (zu2,20))
 else if (ofT m s).2 then ((ofT m s).1,0) else (zu2,20)
theorem zr3 (m s : Str) (hs : s.length < 300000000) : ziJ m s = some (zkL m s) := by
 unfold ziJ zkL zfL;rw [ziu s (by omega),yob,zvQ m s hs,yob];show (if (m == znJ) = true then _ else _) = _;cases m == znJ <;> cases (zc3 s).2 == 0 <;> cases decide ((zc3 s).1.Port < 0) <;> cases (ofT m s).2 <;> rfl
end Go.Dm
end
section
namespace Go.Dm
theorem zxF (c : UInt8) (s : Str) : (zQ c s).1 ++ (if (zQ c s).2.2 = true then c :: (zQ c s).2.1 else []) = s := by
 rcases zdX (zQ c s).2.2 with h | h
 ·rw [if_pos h]; exact ztU c s h
 ·rw [if_neg (by rw [h]; decide),zmW c s h,yan]
theorem zvo {s : Str} (h : zf8 s = true) : ∃ r,s = 47 :: r := by
 unfold zf8 at h;simp only [Bool.and_eq_true] at h;obtain ⟨r,hr⟩ := List.isPrefixOf_iff_prefix.1 h.1;exact ⟨r,hr.symm⟩
def zAs : api_Target := ⟨1,[],⟨0,[],0⟩,[],[],false⟩
end Go.Dm
end
section
namespace Go.Dm
theorem zue (s : Str) (hs : s.length < 1000000000) : zkY s = some ((upto [63] s).length : Int) := by
 unfold zkY
 have key : ∀ (n i : Nat),i ≤ s.length → s.length - i < n → zdv s n (i : Int) = some ((i + (upto [63] (s.drop i)).length : Nat) : Int) := by
  intro n
  induction n with
  | zero => intro i _ h; omega
  | succ n ih =>
   intro i hi h;rw [zdv];unfold zhG;rw [zf (by omega),yob]
   by_cases hlt : i < s.length
   ·have g : s[i]? = some s[i] := ygg hlt;rw [ydt (show (i : Int) < (s.length : Int) by omega),if_pos rfl,zA,g,yob,ih (i + 1) (by omega) (by omega),ydg hlt]
    by_cases hc : s[i] = 63
    ·have h1 : (s[i] == 63) = true := by simp [hc]
     rw [h1,if_neg (by decide),zjE (by simp [hc])]; rfl
    ·have h1 : (s[i] == 63) = false := beq_eq_false_iff_ne.2 hc;rw [h1,ynf,if_pos rfl,zjG (by simp [hc])]
     congr 2
     simp only [ylc]; omega
   ·have : i = s.length := by omega
    subst this;rw [ydf (show ¬ ((s.length : Int) < (s.length : Int)) by omega),if_neg (by decide),ydl];rfl
 have := key fuel 0 (yz _) (by unfold fuel; omega);rw [List.drop_zero,Nat.zero_add] at this;exact this
theorem zm5 (t : api_Target) (s : Str) (hq : t.Query = []) (hs : s.length < 900000000) : zhi t s =
  some (⟨t.Kind,t.Scheme,t.Host,(zQ 63 s).1,(zQ 63 s).2.1,(zQ 63 s).2.2⟩,zf8 (zQ 63 s).1 && zgh (zQ 63 s).2.1) := by
 unfold zhi;have hu := zmx [63] s;have hl := zoG 63 s;have e1 : (zQ 63 s).1 = upto [63] s := rfl;rw [zue s (by omega),yob,zbR hu,yob,zlY]
 have hj : ∀ q : Str,q.length < 900000000 → zd5 t s ((upto [63] s).length : Int) (upto [63] s) q = some (⟨t.Kind,t.Scheme,t.Host,upto [63] s,q,decide ((upto [63] s).length < s.length)⟩,zf8 (upto [63] s) && zgh q) := by
  intro q hq;unfold zd5 zfO;rw [zuz _ (by omega),yob,zop q (by omega),yob];have : decide (((upto [63] s).length : Int) < (s.length : Int)) = decide ((upto [63] s).length < s.length) := decide_eq_decide.2 (by omega);rw [this];cases zf8 (upto [63] s) <;> rfl
 by_cases h0 : zap [63] s = []
 ·have hn := (zec _ _).1 h0
  have hc : (zQ 63 s).2.2 = false := by unfold zQ; rw [h0]; rfl
  rw [ydf (by omega),if_neg (by decide),hj _ (by rw [hq]; simp),hq,zmW 63 s hc,ydf (by omega)]
  have : upto [63] s = s := by have := zcn [63] s; rw [h0,yan] at this; exact this
  rw [this]
 ·have hn : (upto [63] s).length < s.length := by
   have : ¬ (upto [63] s).length = s.length := fun h => h0 ((zec _ _).2 h);omega
  have hc : (zQ 63 s).2.2 = true := by unfold zQ; simp [h0]
  have hd : s.drop ((upto [63] s).length + 1) = (zQ 63 s).2.1 := by rw [← List.drop_drop,zjf]; rfl
  rw [ydt (by omega),if_pos rfl,zf (by omega),yob,zB (by omega),yob,hd,hj _ (by omega),ydt hn,hc,e1]
theorem zzK (c : UInt8) : (zfo c == 58) = (c == 58) :=
 eq_of_beq (zP (fun c => (zfo c == 58) == (c == 58)) (by decide +kernel) c)
theorem zu0 (c : UInt8) : (zfo c == 47) = (c == 47) :=
 eq_of_beq (zP (fun c => (zfo c == 47) == (c == 47)) (by decide +kernel) c)
theorem zrC {c : UInt8} {t : Str} : ∀ {a b : Str},c ∉ a → zaA (c :: t) (a ++ (c :: t) ++ b) = some (a,b)
 | [],b,_ => by
  show zaA (c :: t) (c :: (t ++ b)) = _;rw [zaA,if_pos (by simp [List.isPrefixOf_iff_prefix])];simp
 | x :: a,b,h => by
  have hx : c ≠ x := fun e => h (by simp [e]);show zaA (c :: t) (x :: (a ++ (c :: t) ++ b)) = _
  have hp : (c :: t).isPrefixOf (x :: (a ++ (c :: t) ++ b)) = false := by
   rw [List.isPrefixOf_cons_cons,beq_eq_false_iff_ne.2 hx,Bool.false_and]
  rw [zaA,hp,if_neg (by decide),zrC (fun hm => h (by simp [hm]))];rfl
theorem zs9 (a b : Str) : low (a ++ b) = low a ++ low b := by simp [low]
theorem zDD {u : Str} (h : low u = [58,47,47]) : u = [58,47,47] := by
 match u,h with
 | [a,b,c],h =>
  simp only [low,List.map_cons,List.map_nil,List.cons.injEq,and_true] at h;obtain ⟨h1,h2,h3⟩ := h
  have g1 : a = 58 := by have := zzK a; rw [h1] at this; simpa using this.symm
  have g2 : b = 47 := by have := zu0 b; rw [h2] at this; simpa using this.symm
  have g3 : c = 47 := by have := zu0 c; rw [h3] at this; simpa using this.symm
  rw [g1,g2,g3]
 | [],h => simp [low] at h
 | [_],h => simp [low] at h
 | [_,_],h => simp [low] at h
 | _ :: _ :: _ :: _ :: _,h => simp [low] at h
theorem zyb (sc s : Str) (hsc : (58 : UInt8) ∉ sc) : (sc.length + 3 ≤ s.length ∧ low (s.take (sc.length + 3)) = sc ++ [58,47,47]) ↔ ∃ a,zaA [58,47,47] s = some (a,s.drop (sc.length + 3)) ∧ low a = sc := by
 constructor
 ·rintro ⟨h1,h2⟩
  have e : s = s.take sc.length ++ (s.drop sc.length).take 3 ++ s.drop (sc.length + 3) := by
   rw [yaa, ← List.drop_drop,List.take_append_drop,List.take_append_drop]
  have e2 : s.take (sc.length + 3) = s.take sc.length ++ (s.drop sc.length).take 3 := List.take_add;rw [e2,zs9] at h2;obtain ⟨g1,g2⟩ := List.append_inj h2 (by simp [low]; omega);have g3 := zDD g2
  have hn : (58 : UInt8) ∉ s.take sc.length := fun hm => by
   have : (58 : UInt8) ∈ low (s.take sc.length) := List.mem_map.2 ⟨58,hm,by decide⟩;rw [g1] at this; exact hsc this
  refine ⟨s.take sc.length,?_,g1⟩;have := zrC (t := [47,47]) (b := s.drop (sc.length + 3)) hn;rw [← g3, ← e,g3] at this;exact this
 ·rintro ⟨a,h1,h2⟩;have e := zbF h1
  have hal : a.length = sc.length := by rw [← h2]; simp [low]
  have hl : sc.length + 3 ≤ s.length := by have := congrArg List.length e; simp at this; omega
  refine ⟨hl,?_⟩
  have : s.take (sc.length + 3) = a ++ [58,47,47] := by
   rw [e,List.take_left'];simp [hal]
  rw [this,zs9,h2];rfl
def zmv (r : api_Target × Bool) : api_Target × Int := if r.2 then (r.1,0) else (zu2,20)
def zmw (sc r : Str) : api_Target × Int := if (zc3 (upto [47,63] r)).2 == 0 then zmv (zm7 ⟨2,sc,(zc3 (upto [47,63] r)).1,[],[],false⟩ (zap [47,63] r)) else (zu2,20)
theorem zDE (q : Str) : zQ 63 (47 :: 63 :: q) = ([47],q,true) := by
 unfold zQ;rw [zjG (by decide),zjH (by decide),zjE (by decide),zjF (by decide)];rfl
theorem cutQ_q (q : Str) : zuA (47 :: 63 :: q) = if zgh q then ([47],q,true,0) else ([],[],false,2) := by
 unfold zuA;rw [zDE]
 have : zf8 [47] = true := by decide
 rw [this,Bool.true_and]
theorem zrD (rec5 : Int → Option (api_Target × Int)) (sc r : Str) (hr : r.length < 300000000) : zcR rec5 sc r ((upto [47,63] r).length : Int) false = some (zmw sc r) := by
 unfold zcR zmw;have hu := zmx [47,63] r;rw [if_neg (by decide),zbR hu,yob,zlY,zkC _ (by omega),yob]
 cases (zc3 (upto [47,63] r)).2 == 0 with
 | false => rfl
 | true =>
  rw [ynt,if_neg (by decide),if_pos rfl]
  cases hf : zap [47,63] r with
  | nil =>
   have hn := (zec _ _).1 hf;rw [hn,ybs,if_pos rfl];rfl
  | cons c t =>
   have hne : zap [47,63] r ≠ [] := by rw [hf]; simp
   have hlt : (upto [47,63] r).length < r.length := by
    have : ¬ (upto [47,63] r).length = r.length := fun h => hne ((zec _ _).2 h);omega
   have hd := zjf [47,63] r;rw [hf] at hd
   have g : r[(upto [47,63] r).length]? = some c := by have := congrArg (·[0]?) hd; simpa using this
   have hd1 : r.drop ((upto [47,63] r).length + 1) = t := by rw [← List.drop_drop,hd]; rfl
   have htl : (c :: t).length ≤ r.length := by rw [← hd]; simp
   simp only [ylc] at htl;have hbe : (((upto [47,63] r).length : Int) == (r.length : Int)) = false := beq_eq_false_iff_ne.2 (by omega);rw [hbe,if_neg (by decide),zA,g,yob,zf (by omega),yob,zB (by omega),yob,hd1,zop t (by omega),yob,zB hu,yob,hd,zm5 _ _ rfl (by simp only [ylc]; omega),yob];unfold zgJ zm7 zmv
   have hne2 : c :: t ≠ [] := by simp
   rw [if_neg hne2,List.head?_cons,Option.some_beq_some]
   cases hc : c == 63 with
   | true =>
    have : c = 63 := by simpa using hc
    subst this;simp only [if_true];rw [cutQ_q];cases zgh t <;> rfl
   | false =>
    simp only [Bool.false_eq_true,if_false];unfold zuA;cases zf8 (zQ 63 (c :: t)).1 && zgh (zQ 63 (c :: t)).2.1 <;> rfl
theorem zwT (sc r : Str) (hr : r.length < 300000000) : zbq sc r fuel 0 = some (zmw sc r) := by
 have hu := zmx [47,63] r
 have key : ∀ (n i : Nat),i ≤ (upto [47,63] r).length → (upto [47,63] r).length - i < n → zbq sc r n (i : Int) = some (zmw sc r) := by
  intro n
  induction n with
  | zero => intro i _ h; omega
  | succ n ih =>
   intro i hi h;rw [zbq]
   by_cases hlt : i < (upto [47,63] r).length
   ·have g : r[i]? = some (upto [47,63] r)[i] := by
     have e := List.getElem?_append_left (l₂ := zap [47,63] r) hlt;rw [zcn] at e; rw [e]; exact ygg hlt
    have hno := ztd (upto [47,63] r)[i] (ygm hlt);generalize (upto [47,63] r)[i] = c at g hno
    have h1 : (c == 47) = false := by simp at hno; simp [hno.1]
    have h2 : (c == 63) = false := by simp at hno; simp [hno.2]
    rw [ydt (show (i : Int) < (r.length : Int) by omega),if_pos rfl,zA,g,yob,yob,h1,h2,ynf,if_pos rfl];unfold zcR;rw [if_pos rfl,zf (by omega),yob];exact ih (i + 1) (by omega) (by omega)
   ·have : i = (upto [47,63] r).length := by omega
    subst this;rw [zrD _ sc r hr]
    cases hf : zap [47,63] r with
    | nil =>
     have hn := (zec _ _).1 hf;rw [ydf (by omega),if_neg (by decide)]
    | cons c t =>
     have hd := zjf [47,63] r;rw [hf] at hd
     have g : r[(upto [47,63] r).length]? = some c := by have := congrArg (·[0]?) hd; simpa using this
     have hlt : (upto [47,63] r).length < r.length := by have := congrArg List.length hd; simp at this; omega
     have hin := zoz hf;rw [ydt (by omega),if_pos rfl,zA,g,yob,yob]
     rcases zdX (c == 47) with h1 | h1
     ·rw [h1]; rfl
     ·have h2 : (c == 63) = true := by simp at hin h1 ⊢; rcases hin with h | h; exact absurd h h1; exact h
      rw [h1,h2,ynt,zrD _ sc r hr]; rfl
 exact key fuel 0 (yz _) (by unfold fuel; omega)
def zfT (sc s : Str) : Bool := decide (sc.length + 3 ≤ s.length) && low (s.take (sc.length + 3)) == sc ++ [58,47,47]
theorem zo2 (sc s : Str) (hsc : (58 : UInt8) ∉ sc) : zfT sc s = true ↔ ∃ a,zaA [58,47,47] s = some (a,s.drop (sc.length + 3)) ∧ low a = sc := by
 rw [← zyb sc s hsc];unfold zfT;simp
theorem zyW (n i : Nat) (s x : Str) (hx : lAt [[104,116,116,112],[104,116,116,112,115]] (i : Int) = some x) (hi : i < 2) (hl : x.length < 10) (hs : s.length < 300000000) :
  zaI (n + 1) s (i : Int) = if zfT x s = true then some (zmw x (s.drop (x.length + 3))) else zaI n s ((i + 1 : Nat) : Int) := by
 rw [zaI]
 have e3 : zq (x.length : Int) 3 = some ((x.length + 3 : Nat) : Int) := by rw [zan (by omega) (by omega)]; simp
 show (if decide ((i : Int) < 2) = true then (lAt [[104,116,116,112],[104,116,116,112,115]] (i : Int)).bind _ else _) = _;rw [ydt (show (i : Int) < 2 by omega),if_pos rfl,hx,yob,e3,yob];unfold zfT zgK;rw [zf (by omega),yob]
 by_cases hlt : x.length + 3 ≤ s.length
 ·have e4 : decide ((s.length : Int) < ((x.length + 3 : Nat) : Int)) = false := ydf (by omega);rw [e4,if_neg (by decide),ydt hlt,zbR hlt,yob,zjv _ (by simp; omega),yob,zhn (by simp; omega),yob,zB hlt,yob,zwT x _ (by simp; omega),Bool.true_and];cases low (s.take (x.length + 3)) == x ++ [58,47,47] <;> rfl
 ·have e4 : decide ((s.length : Int) < ((x.length + 3 : Nat) : Int)) = true := ydt (by omega);rw [e4,if_pos rfl,if_pos rfl,ydf hlt];rfl
theorem zta (a r : Str) (sc : Str) (h : low a = sc) : zmv (if (zc3 (upto [47,63] r)).2 == 0 then zm7 ⟨2,low a,(zc3 (upto [47,63] r)).1,[],[],false⟩ (zap [47,63] r) else (⟨2,low a,⟨0,[],0⟩,[],[],false⟩,false)) = zmw sc r := by
 unfold zmw;rw [h];cases (zc3 (upto [47,63] r)).2 == 0 <;> rfl
theorem zwU (s : Str) (hs : s.length < 300000000) : zaI fuel s 0 = some (zmv (zw4 s)) := by
 have hf : fuel = 999999999999999997 + 1 + 1 + 1 := rfl;have s1 := zyW (999999999999999997 + 1 + 1) 0 s zm8 rfl (by decide) (by decide) hs;have s2 := zyW (999999999999999997 + 1) 1 s zj5 rfl (by decide) (by decide) hs
 have s3 : zaI (999999999999999997 + 1) s ((1 + 1 : Nat) : Int) = some (zu2,20) := by rw [zaI]; rfl
 have h1 := zo2 zm8 s (by decide);have h2 := zo2 zj5 s (by decide);rw [hf,show (0 : Int) = ((0 : Nat) : Int) from rfl,s1,s2,s3];unfold zw4
 cases hc : zaA [58,47,47] s with
 | none =>
  rw [hc] at h1 h2
  have g1 : ¬ zfT zm8 s = true := fun h => by obtain ⟨a,ha,_⟩ := h1.1 h; cases ha
  have g2 : ¬ zfT zj5 s = true := fun h => by obtain ⟨a,ha,_⟩ := h2.1 h; cases ha
  rw [if_neg g1,if_neg g2];rfl
 | some p =>
  rw [hc] at h1 h2;dsimp only
  have hp : ∀ sc : Str,low p.1 = sc → p.2 = s.drop (sc.length + 3) := fun sc h => by
   have e := zbF (a := p.1) (b := p.2) hc
   have hal : p.1.length = sc.length := by rw [← h]; simp [low]
   rw [e, ← hal,List.drop_left'];simp
  by_cases c1 : low p.1 = zm8
  ·have g1 : zfT zm8 s = true := h1.2 ⟨p.1,by rw [← hp _ c1],c1⟩;rw [if_pos g1,c1];have := zta p.1 p.2 zm8 c1;rw [c1] at this;rw [if_pos (by decide),this,hp _ c1]
  ·have g1 : ¬ zfT zm8 s = true := fun h => by obtain ⟨a,ha,hb⟩ := h1.1 h; cases ha; exact c1 hb
   rw [if_neg g1]
   by_cases c2 : low p.1 = zj5
   ·have g2 : zfT zj5 s = true := h2.2 ⟨p.1,by rw [← hp _ c2],c2⟩;have := zta p.1 p.2 zj5 c2;rw [c2] at this;rw [if_pos g2,c2,if_pos (by decide),this,hp _ c2]
   ·have g2 : ¬ zfT zj5 s = true := fun h => by obtain ⟨a,ha,hb⟩ := h2.1 h; cases ha; exact c2 hb
    rw [if_neg g2,if_neg (by simp [c1,c2])];rfl
theorem zzL {s : Str} (h : ([47] : Str).isPrefixOf s = true) : (zw4 s).2 = false := by
 obtain ⟨r,hr⟩ := List.isPrefixOf_iff_prefix.1 h;unfold zw4
 cases hc : zaA [58,47,47] s with
 | none => rfl
 | some p =>
  have e := zbF (a := p.1) (b := p.2) hc
  have hh : low p.1 ≠ zm8 ∧ low p.1 ≠ zj5 := by
   cases hp : p.1 with
   | nil => exact ⟨by decide,by decide⟩
   | cons c t =>
    rw [hp, ← hr] at e
    have : c = 47 := by simp at e; exact e.1.symm
    subst this;exact ⟨by simp [low,zm8,zfo],by simp [low,zj5,zfo]⟩
  dsimp only;rw [if_neg (by simp [hh.1,hh.2])]
theorem zwV (s : Str) (h : ([47] : Str).isPrefixOf s = true) : zm7 zAs s = (if zf8 (zQ 63 s).1 && zgh (zQ 63 s).2.1 then ((⟨1,[],⟨0,[],0⟩,(zQ 63 s).1,(zQ 63 s).2.1,(zQ 63 s).2.2⟩ : api_Target),true) else (⟨1,[],⟨0,[],0⟩,[],[],false⟩,false)) := by
 obtain ⟨r,hr⟩ := List.isPrefixOf_iff_prefix.1 h;subst hr;unfold zm7;rw [if_neg (by simp)];have hh : (([47] ++ r : Str).head? == some 63) = false := rfl;rw [hh];simp only [Bool.false_eq_true,if_false];unfold zuA;cases zf8 (zQ 63 ([47] ++ r)).1 && zgh (zQ 63 ([47] ++ r)).2.1 <;> rfl
theorem zyc {s : Str} (h : ([47] : Str).isPrefixOf s = false) : zf8 (zQ 63 s).1 = false := by
 rcases zdX (zf8 (zQ 63 s).1) with h1 | h1
 ·obtain ⟨r,hr⟩ := zvo h1;have ht := zxF 63 s;rw [hr] at ht;rw [← ht] at h;simp at h
 ·exact h1
theorem zvH {r : api_Target × Bool} (h : r.2 = false) : zmv r = (zu2,20) := by unfold zmv; rw [h]; rfl
theorem znF (s : Str) (hs : s.length < 300000000) : zcS s false = some (if ([47] : Str).isPrefixOf s then zmv (zm7 zAs s) else zmv (zw4 s)) := by
 unfold zcS;rw [if_neg (by decide),zm5 _ _ rfl (by omega),yob,zwU s hs];dsimp only
 cases h : ([47] : Str).isPrefixOf s with
 | true =>
  rw [if_pos rfl,zwV s h]
  cases zf8 (zQ 63 s).1 && zgh (zQ 63 s).2.1 with
  | true => rfl
  | false =>
   rw [zvH (zzL h)];rfl
 | false =>
  rw [zyc h,Bool.false_and,if_neg (by decide),if_neg (by decide)]
theorem ztb (m s : Str) (hs : s.length < 300000000) : zjS m s = some (zkL m s) := by
 unfold zjS zkL zgI;rw [zkC s (by omega),yob];show (if (m == znJ) = true then _ else _) = _
 cases hm : m == znJ with
 | true =>
  rw [if_pos rfl,if_pos rfl];cases (zc3 s).2 == 0 <;> cases decide ((zc3 s).1.Port < 0) <;> rfl
 | false =>
  show (if (s == [42]) = true then zcS s (m == ztl) else zcS s false) = some (zmv (ofT m s));rw [znF s hs];unfold ofT
  cases h : s == [42] with
  | true =>
   have : s = [42] := by simpa using h
   subst this
   cases m == ztl with
   | true => rfl
   | false => rw [if_pos rfl,znF [42] (by decide)]; rfl
  | false =>
   cases ([47] : Str).isPrefixOf s <;> rfl

end Go.Dm
end
section
namespace Go.Dm
def zle (r : Str) : Int × Bool × Str := match r with
 | [] => (0,false,[])
 | c :: t => if zR c then (((c - 48).toNat : Int),true,t) else (0,false,c :: t)
section
variable {s r : Str} {k : Nat}
theorem zxr (hs : s.length < 1000000000) (h : At s k r) : ∃ k',At s k' (zle r).2.2 ∧ zbH ⟨scn s k⟩ = some ((zle r).1,(zle r).2.1,scn s k') := by
 unfold zbH;show ∃ k',_ ∧ (zE (scn s k)).bind _ = _;rw [zqt h,yob]
 cases r with
 | nil => exact ⟨k,h,rfl⟩
 | cons c t =>
  have e : zle (c :: t) = if zR c then (((c - 48).toNat : Int),true,t) else (0,false,c :: t) := rfl;rw [e];show ∃ k',_ ∧ (zah c).bind (fun r6 => zbG ⟨scn s k⟩ (c,true) (!r6)) = _;rw [zjc,yob];obtain ⟨k',h1,h2⟩ := zfD hs c h;rw [zam] at h1
  cases zR c with
  | false => exact ⟨k,h,rfl⟩
  | true =>
   refine ⟨k',h1,?_⟩;show (zj (scn s k) c).bind (fun r11 => some (((c - 48).toNat : Int),true,r11.2)) = _;rw [h2]; rfl
def zb4 : Str := [72,84,84,80,47]
def zhW (r : Str) : Int × Int × Bool × Str :=
 if zb4.isPrefixOf r then
  ((zle (r.drop 5)).1,(zle (zaa 46 (zle (r.drop 5)).2.2)).1,(zle (r.drop 5)).2.1 && zev 46 (zle (r.drop 5)).2.2 && (zle (zaa 46 (zle (r.drop 5)).2.2)).2.1,(zle (zaa 46 (zle (r.drop 5)).2.2)).2.2)
 else (0,0,false,r)
theorem ztI (hs : s.length < 1000000000) (h : At s k r) : ∃ k',At s k' (zhW r).2.2.2 ∧ za6 ⟨scn s k⟩ = some ((zhW r).1,(zhW r).2.1,(zhW r).2.2.1,scn s k') := by
 unfold za6;obtain ⟨k1,h1,e1⟩ := zDX hs zb4 (by decide) h;show ∃ k',_ ∧ (zc4 (scn s k) zb4).bind _ = _;rw [e1,yob];unfold zhW
 cases hp : zb4.isPrefixOf r with
 | false =>
  rw [hp,if_neg (by decide)] at h1;exact ⟨k1,h1,rfl⟩
 | true =>
  rw [hp,if_pos rfl] at h1;have h1 : At s k1 (r.drop 5) := h1;obtain ⟨k2,h2,e2⟩ := zxr hs h1;obtain ⟨k3,h3,e3⟩ := zfD hs 46 h2;obtain ⟨k4,h4,e4⟩ := zxr hs h3;refine ⟨k4,h4,?_⟩;dsimp only;rw [ynt,if_neg (by decide),e2,yob];dsimp only;rw [e3,yob];dsimp only;rw [e4,yob,if_pos rfl];dsimp only;cases (zle (r.drop 5)).2.1 <;> cases zev 46 (zle (r.drop 5)).2.2 <;> rfl
def zdh (u : Str) : Int := if (zhW u).2.2.1 && (zhW u).2.2.2 == [] then (if (zhW u).1 == 1 && decide ((zhW u).2.1 ≤ 1) then (zhW u).2.1 else 2) else -1
theorem zy5 {r : Str} (h : (zle r).2.1 = true) : ∃ c t,r = c :: t ∧ zR c = true ∧ zle r = (((c - 48).toNat : Int),true,t) := by
 cases r with
 | nil => cases h
 | cons c t =>
  unfold zle at h ⊢;dsimp only at h ⊢
  cases hc : zR c with
  | false => rw [hc] at h; cases h
  | true => exact ⟨c,t,rfl,hc,by simp⟩
theorem zqr {r : Str} (h : (zhW r).2.2.1 = true) : ∃ a b t,r = zb4 ++ a :: 46 :: b :: t ∧ zR a = true ∧ zR b = true ∧ zhW r = (((a - 48).toNat : Int),((b - 48).toNat : Int),true,t) := by
 unfold zhW at h ⊢
 cases hp : zb4.isPrefixOf r with
 | false => rw [hp] at h; cases h
 | true =>
  rw [hp,if_pos rfl] at h;rw [if_pos rfl];simp only [Bool.and_eq_true] at h;obtain ⟨⟨h1,h2⟩,h3⟩ := h;obtain ⟨t0,ht0⟩ := List.isPrefixOf_iff_prefix.1 hp
  have hd : r.drop 5 = t0 := by rw [← ht0]; rfl
  rw [hd] at h1 h2 h3 ⊢;obtain ⟨a,t1,rfl,ha,ea⟩ := zy5 h1;rw [ea] at h2 h3 ⊢;have hb := zeI h2;dsimp only at h2 h3 hb ⊢;obtain ⟨b,t,e,hbd,eb⟩ := zy5 h3;rw [e] at hb;rw [eb];refine ⟨a,b,t,by rw [← ht0,hb],ha,hbd,?_⟩;simp [h2]
theorem zod {c : UInt8} (h : zR c = true) (h1 : (c - 48).toNat ≤ 1) : c = 48 ∨ c = 49 := by
 have := zP (fun c => !(zR c && decide ((c - 48).toNat ≤ 1)) || (c == 48 || c == 49)) (by decide +kernel) c;rw [h] at this;simpa [h1] using this
theorem zk6 {u : Str} (h : 0 ≤ zdh u) (h2 : (zdh u == 2) = false) : (u = zb4 ++ [49,46,48] ∧ zdh u = 0) ∨ (u = zb4 ++ [49,46,49] ∧ zdh u = 1) := by
 unfold zdh at *
 cases hc : (zhW u).2.2.1 && (zhW u).2.2.2 == [] with
 | false => rw [hc] at h; exact absurd (show (0 : Int) ≤ -1 from h) (by decide)
 | true =>
  rw [hc,if_pos rfl] at h h2;rw [if_pos rfl];simp only [Bool.and_eq_true] at hc;obtain ⟨a,b,t,e,ha,hb,ev⟩ := zqr hc.1;rw [ev] at hc h h2 ⊢
  have ht : t = [] := by simpa using hc.2
  subst ht;dsimp only at h h2 ⊢
  cases hq : (((a - 48).toNat : Int) == 1 && decide (((b - 48).toNat : Int) ≤ 1)) with
  | false => rw [hq] at h2; exact absurd (show ((2 : Int) == 2) = false from h2) (by decide)
  | true =>
   rw [if_pos rfl];simp only [Bool.and_eq_true,beq_iff_eq,decide_eq_true_eq] at hq
   have ha1 : a = 49 := by
    rcases zod ha (by omega) with h | h
    ·subst h; exact absurd hq.1 (by decide)
    ·exact h
   subst ha1
   rcases zod hb (by omega) with h | h <;> subst h
   ·left; exact ⟨e,by decide⟩
   ·right; exact ⟨e,by decide⟩
theorem zk7 (u : Str) (hu : u.length < 1000000000) : zd2 u = some (zdh u == 2) := by
 unfold zd2;rw [zh0,yob];obtain ⟨k',h,e⟩ := ztI hu (At.zero u);rw [e,yob];dsimp only;rw [zv9 h];unfold zdh zbC
 have h1 : decide ((zhW u).2.1 ≤ 1) = !decide (1 < (zhW u).2.1) := by
  rw [Bool.eq_iff_iff]; simp
 rw [h1]
 cases hv : (zhW u).2.2.1 with
 | false => rfl
 | true =>
  rw [if_pos rfl,yob,Bool.true_and]
  cases (zhW u).2.2.2 == [] with
  | false => rfl
  | true =>
   rw [if_pos rfl,if_pos rfl];obtain ⟨a,b,t,_,ha,hb,ev⟩ := zqr hv;rw [ev];dsimp only
   cases ((a - 48).toNat : Int) == 1 with
   | false => rfl
   | true =>
    rw [ynt,if_neg (by decide),Bool.true_and]
    by_cases h2 : (1 : Int) < ((b - 48).toNat : Int)
    ·rw [ydt h2]; rfl
    ·rw [ydf h2,ynf,if_pos rfl];have : (((b - 48).toNat : Int) == 2) = false := beq_eq_false_iff_ne.2 (by omega);rw [this]
def zgi (r : Str) : Int × Bool × Str := ((zhW r).2.1,(zhW r).2.2.1 && (zhW r).1 == 1 && decide ((zhW r).2.1 ≤ 1),(zhW r).2.2.2)
theorem zxs (hs : s.length < 1000000000) (h : At s k r) : ∃ k',At s k' (zgi r).2.2 ∧ zbJ ⟨scn s k⟩ = some ((zgi r).1,(zgi r).2.1,scn s k') := by
 unfold zbJ zgi;obtain ⟨k',h1,e⟩ := ztI hs h;refine ⟨k',h1,?_⟩;rw [e,yob];dsimp only;cases (zhW r).2.2.1 <;> cases (zhW r).1 == 1 <;> rfl
theorem zvb (r : Str) : ((zgi r).2.1 && (zgi r).2.2 == []) = (decide (0 ≤ zdh r) && !(zdh r == 2)) ∧ ((zgi r).2.1 = true → (zgi r).2.2 = [] → (zgi r).1 = zdh r) := by
 unfold zgi zdh;dsimp only
 cases hv : (zhW r).2.2.1 with
 | false => exact ⟨rfl,fun h => by cases h⟩
 | true =>
  obtain ⟨a,b,t,_,ha,hb,ev⟩ := zqr hv;rw [ev];dsimp only;rw [Bool.true_and,Bool.true_and]
  cases hq : (((a - 48).toNat : Int) == 1 && decide (((b - 48).toNat : Int) ≤ 1)) with
  | false =>
   refine ⟨?_,fun h => by cases h⟩;cases t == [] <;> rfl
  | true =>
   simp only [Bool.and_eq_true,decide_eq_true_eq] at hq;refine ⟨?_,fun _ h => ?_⟩
   ·cases t == [] with
    | false => rfl
    | true =>
     rw [if_pos rfl,if_pos rfl];have : (((b - 48).toNat : Int) == 2) = false := beq_eq_false_iff_ne.2 (by omega);rw [this,ydt (by omega)]; rfl
   ·subst h; rfl
end
def zx : api_Head := ⟨0,[],[],0,[],0,[]⟩
def zvc (s : Str) : Nat := match zjC s 32 s.length with
 | none => 0
 | some k => k + 1
theorem zys (s : Str) (hs : s.length < 300000000) : ∃ r,zaR s 32 = some r ∧ zq r 1 = some (zvc s : Int) ∧ zvc s ≤ s.length := by
 rw [zlU s 32 (by omega)];unfold zvc
 cases hl : zjC s 32 s.length with
 | none => exact ⟨-1,rfl,by decide,yz _⟩
 | some k =>
  have := (znB hl).1;exact ⟨k,rfl,zf (by omega),by show k + 1 ≤ s.length; omega⟩
def zoe (s : Str) : Str := s.drop (zvc s)
def zpJ (s : Str) : Str := s.takeWhile zF
def zrR (s : Str) : Str := s.dropWhile zF
def zr9 (s : Str) : Str := (zaa 32 (zrR s)).takeWhile (fun b => !(b == 32))
def zlu (s : Str) : Str := (zaa 32 (zrR s)).dropWhile (fun b => !(b == 32))
def zxt (s : Str) : Bool := !(zpJ s == []) && zev 32 (zrR s) && zev 32 (zlu s) && ((zgi (zaa 32 (zlu s))).2.1 && (zgi (zaa 32 (zlu s))).2.2 == []) && (zkL (zpJ s) (zr9 s)).2 == 0
def zrm (s : Str) : api_Head × Int := if zdh (zoe s) == 2 then (zx,26) else if zxt s then (⟨1,zpJ s,zr9 s,0,[],(zgi (zaa 32 (zlu s))).1,[]⟩,0) else (zx,20)
theorem zof (s : Str) (hs : s.length < 300000000) : zei s = some (zrm s) := by
 unfold zei zrm zoe;obtain ⟨r,e0,hi⟩ := zys s hs;rw [e0,yob];generalize zvc s = n at hi;rw [hi.1,yob,zB hi.2,yob,zk7 _ (by simp; omega),yob]
 cases zdh (s.drop n) == 2 with
 | true => rfl
 | false =>
  rw [if_neg (by decide),if_neg (by decide),zh0,yob]
  have hs' : s.length < 1000000000 := by omega
  obtain ⟨k1,h1,e1⟩ := zqu hs' (At.zero s);obtain ⟨k2,h2,e2⟩ := zfD hs' 32 h1;obtain ⟨k3,h3,e3⟩ := zmi (f := zdk) (p := fun b => !(b == 32)) (fun b => rfl) hs' h2;obtain ⟨k4,h4,e4⟩ := zfD hs' 32 h3;obtain ⟨k5,h5,e5⟩ := zxs hs' h4;rw [e1,yob];dsimp only;rw [e2,yob];dsimp only;rw [e3,yob];dsimp only;rw [e4,yob];dsimp only;have hl := h2.le_len;have hl2 := zmn (fun b => !(b == 32)) (zaa 32 (s.dropWhile zF));rw [e5,yob,zr3 _ _ (by omega),yob];dsimp only;rw [zv9 h5,yob];unfold zae zxt zr9 zpJ zlu zrR;cases s.takeWhile zF == [] <;> cases zev 32 (s.dropWhile zF) <;> cases zev 32 ((zaa 32 (s.dropWhile zF)).dropWhile (fun b => !(b == 32))) <;> cases (zgi (zaa 32 ((zaa 32 (s.dropWhile zF)).dropWhile (fun b => !(b == 32))))).2.1 <;> cases (zgi (zaa 32 ((zaa 32 (s.dropWhile zF)).dropWhile (fun b => !(b == 32))))).2.2 == [] <;> cases (zkL (s.takeWhile zF) ((zaa 32 (s.dropWhile zF)).takeWhile (fun b => !(b == 32)))).2 == 0 <;> rfl
theorem zjy {p : UInt8 → Bool} {s : Str} {x : UInt8} (h : x ∈ s.takeWhile p) : p x = true := by
 induction s with
 | nil => cases h
 | cons c s ih =>
  rw [List.takeWhile_cons] at h
  split at h
  ·rename_i hc
   rcases List.mem_cons.1 h with rfl | h
   ·exact hc
   ·exact ih h
  ·cases h
theorem zCN {x : UInt8} (h : zF x = true) : x ≠ 32 := by rintro rfl; revert h; decide
theorem zpK {s : Str} (h : zxt s = true) : ∃ v,s = zpJ s ++ 32 :: (zr9 s ++ 32 :: v) ∧ (32 : UInt8) ∉ zpJ s ∧ (32 : UInt8) ∉ zr9 s ∧ zpJ s ≠ [] ∧ (zpJ s).all zF = true ∧ 0 ≤ zdh v ∧ (zdh v == 2) = false ∧ (zgi (zaa 32 (zlu s))).1 = zdh v ∧ ((zkL (zpJ s) (zr9 s)).2 == 0) = true := by
 unfold zxt at h;simp only [Bool.and_eq_true,Bool.not_eq_true',beq_eq_false_iff_ne] at h;obtain ⟨⟨⟨⟨h1,h2⟩,h3⟩,h4,h5⟩,h6⟩ := h;have e1 : zpJ s ++ zrR s = s := List.takeWhile_append_dropWhile;have e2 := zeI h2;have e3 : zr9 s ++ zlu s = zaa 32 (zrR s) := List.takeWhile_append_dropWhile;have e4 := zeI h3;have hm := zvb (zaa 32 (zlu s))
 have hk : (decide (0 ≤ zdh (zaa 32 (zlu s))) && !(zdh (zaa 32 (zlu s)) == 2)) = true := by rw [← hm.1,h4,Bool.true_and]; exact h5
 simp only [Bool.and_eq_true,decide_eq_true_eq,Bool.not_eq_true'] at hk;refine ⟨zaa 32 (zlu s),?_,?_,?_,h1,?_,hk.1,hk.2,hm.2 h4 (by simpa using h5),h6⟩
 ·rw [← e4,e3, ← e2,e1]
 ·exact fun hx => zCN (zjy hx) rfl
 ·exact fun hx => by have := zjy hx; simp at this
 ·exact List.all_eq_true.2 fun x hx => zjy hx
def ztJ (s : Str) : Str := (zaa 32 (zgi s).2.2).takeWhile zR
def zqs (s : Str) : Str := (zaa 32 (zgi s).2.2).dropWhile zR
def zv8 (s : Str) : Bool := (zgi s).2.1 && zev 32 (zgi s).2.2 && zev 32 (zqs s) && ((ztJ s).length : Int) == 3 && (zL 10 (ztJ s) 599).2 == 0 && !decide ((zL 10 (ztJ s) 599).1 < 100) && (zaa 32 (zqs s)).all zfG
def ztK (s : Str) : api_Head × Int := if zdh (zQ 32 s).1 == 2 then (zx,26) else if zv8 s then (⟨2,[],[],(zL 10 (ztJ s) 599).1,zaa 32 (zqs s),(zgi s).1,[]⟩,0) else (zx,20)
theorem zoR (s : Str) (hs : s.length < 300000000) : zeV s = some (ztK s) := by
 unfold zeV ztK;have hcl := zoG 32 s;rw [znf s 32 (by omega),yob,zk7 _ (by omega),yob]
 cases zdh (zQ 32 s).1 == 2 with
 | true => rfl
 | false =>
  rw [if_neg (by decide),if_neg (by decide),zh0,yob]
  have hs' : s.length < 1000000000 := by omega
  obtain ⟨k1,h1,e1⟩ := zxs hs' (At.zero s);obtain ⟨k2,h2,e2⟩ := zfD hs' 32 h1;obtain ⟨k3,h3,e3⟩ := zmi zjc hs' h2;obtain ⟨k4,h4,e4⟩ := zfD hs' 32 h3;rw [e1,yob];dsimp only;rw [e2,yob];dsimp only;rw [e3,yob];dsimp only;have hl := h2.le_len;have hl2 := zmn zR (zaa 32 (zgi s).2.2);have hl4 := h4.le_len;rw [e4,yob,zfm _ _ (by omega) (by decide) (by decide),yob];dsimp only;rw [zsj h4,yob,zey zjd _ (by omega),yob];unfold zab zv8 zqs ztJ;dsimp only;rw [zsj h4,yob];cases (zgi s).2.1 <;> cases zev 32 (zgi s).2.2 <;> cases zev 32 ((zaa 32 (zgi s).2.2).dropWhile zR) <;> cases (((zaa 32 (zgi s).2.2).takeWhile zR).length : Int) == 3 <;> cases (zL 10 ((zaa 32 (zgi s).2.2).takeWhile zR) 599).2 == 0 <;> cases decide ((zL 10 ((zaa 32 (zgi s).2.2).takeWhile zR) 599).1 < 100) <;> cases (zaa 32 ((zaa 32 (zgi s).2.2).dropWhile zR)).all zfG <;> rfl
def zbB (kind : Int) (s : Str) : api_Head × Int := if !(kind == 1) && !(kind == 2) then (zx,1) else if s.any ([13,10] : Str).contains then (zx,24) else if kind == 1 then zrm s else ztK s
theorem zhX (kind : Int) (s : Str) (hs : s.length < 300000000) : zdc kind s = some (zbB kind s) := by
 unfold zdc zdF zbB;rw [ziz s [13,10] (by omega) (by decide) (by decide),yob,zof s hs,yob,zoR s hs,yob];cases kind == 1 <;> cases kind == 2 <;> cases s.any ([13,10] : Str).contains <;> rfl

end Go.Dm
end
section
namespace Go.Dm
theorem zCv {v : Str} (h : 0 ≤ zdh v) (h2 : (zdh v == 2) = false) : (32 : UInt8) ∉ v := by
 rcases zk6 h h2 with ⟨h,_⟩ | ⟨h,_⟩ <;> rw [h] <;> decide
theorem zxe {m t v : Str} (h1 : (32 : UInt8) ∉ m) (h2 : (32 : UInt8) ∉ t) (h3 : (32 : UInt8) ∉ v) : ze 32 (m ++ 32 :: (t ++ 32 :: v)) = [m,t,v] := by
 rw [zgk _ h1,zgk _ h2,zio h3]
theorem zqg (c : UInt8) : ∀ (x y : Str),ze c (x ++ c :: y) = ze c x ++ ze c y
 | [],y => by rw [yna,za4,if_pos rfl]; rfl
 | z :: x,y => by
  rw [List.cons_append,za4,za4,zqg c x y]
  split
  ·rfl
  ·cases h : ze c x with
   | nil => exact absurd h (zbT c x)
   | cons a l => rfl
theorem znO {c : UInt8} : ∀ {s x : Str},ze c s = [x] → x = s
 | [],x,h => by rw [ze] at h; cases h; rfl
 | y :: s,x,h => by
  rw [za4] at h
  split at h
  ·injection h with h1 h2
   exact absurd h2 (zbT c s)
  ·cases h3 : ze c s with
   | nil => exact absurd h3 (zbT c s)
   | cons a l =>
    rw [h3] at h
    injection h with h1 h2
    subst h2;have := znO h3;rw [← h1,this]; rfl
theorem zts (s : Str) : (zrm s = (zx,26) ∨ zrm s = (zx,20)) ∨ zxt s = true ∧ zrm s = (⟨1,zpJ s,zr9 s,0,[],(zgi (zaa 32 (zlu s))).1,[]⟩,0) := by
 unfold zrm
 split
 ·exact .inl (.inl rfl)
 ·cases h : zxt s with
  | true => exact .inr ⟨rfl,rfl⟩
  | false => exact .inl (.inr rfl)
end Go.Dm
end
section
namespace Go.Dm
theorem zyX (c : UInt8) : (!zR c || ((((c - 48).toNat : Int) == 1) == (c == 49))) = true := zP (fun c => !zR c || ((((c - 48).toNat : Int) == 1) == (c == 49))) (by decide +kernel) c
theorem dig_le (c : UInt8) : (!zR c || (decide (((c - 48).toNat : Int) ≤ 1) == (c == 48 || c == 49))) = true := zP (fun c => !zR c || (decide (((c - 48).toNat : Int) ≤ 1) == (c == 48 || c == 49))) (by decide +kernel) c
theorem zw5 (a b : UInt8) (t : Str) (ha : zR a = true) (hb : zR b = true) : zhW (zb4 ++ a :: 46 :: b :: t) = (((a - 48).toNat : Int),((b - 48).toNat : Int),true,t) := by
 unfold zhW;have hp : zb4.isPrefixOf (zb4 ++ a :: 46 :: b :: t) = true := List.isPrefixOf_iff_prefix.2 ⟨_,rfl⟩;have hd : (zb4 ++ a :: 46 :: b :: t).drop 5 = a :: 46 :: b :: t := rfl;rw [if_pos hp,hd]
 have e1 : zle (a :: 46 :: b :: t) = (((a - 48).toNat : Int),true,46 :: b :: t) := by unfold zle; dsimp only; rw [if_pos ha]
 have e2 : zle (b :: t) = (((b - 48).toNat : Int),true,t) := by unfold zle; dsimp only; rw [if_pos hb]
 rw [e1];dsimp only;rw [zam,zaS,e2];rfl
theorem zCq (a b : UInt8) (ha : zR a = true) (hb : zR b = true) : zdh (zb4 ++ [a,46,b]) = if ([a,46,b] : Str) == [49,46,48] then 0 else if ([a,46,b] : Str) == [49,46,49] then 1 else 2 := by
  unfold zdh;rw [zw5 a b [] ha hb];have h1 := zyX a;have h2 := dig_le b;rw [ha] at h1;rw [hb] at h2
  have h1 : (((a - 48).toNat : Int) == 1) = (a == 49) := by simpa using h1
  have h2 : decide (((b - 48).toNat : Int) ≤ 1) = (b == 48 || b == 49) := by simpa using h2
  dsimp only;rw [h1,h2]
  have e1 : (([a,46,b] : Str) == [49,46,48]) = (a == 49 && b == 48) := by
    simp only [List.cons_beq_cons,ybs,Bool.true_and,Bool.and_true]
  have e2 : (([a,46,b] : Str) == [49,46,49]) = (a == 49 && b == 49) := by
    simp only [List.cons_beq_cons,ybs,Bool.true_and,Bool.and_true]
  rw [e1,e2]
  cases a == 49 with
  | false => rfl
  | true =>
    cases h3 : b == 48 with
    | true => have : b = 48 := by simpa using h3
              subst this; rfl
    | false =>
      cases h4 : b == 49 with
      | true => have : b = 49 := by simpa using h4
                subst this; rfl
      | false => rfl
theorem znK {u : Str} (h : ∀ a b,u = zb4 ++ [a,46,b] → zR a = true → zR b = true → False) : zdh u = -1 := by
 unfold zdh
 cases hc : (zhW u).2.2.1 && (zhW u).2.2.2 == [] with
 | false => rfl
 | true =>
  exfalso
  simp only [Bool.and_eq_true] at hc;obtain ⟨a,b,t,e,ha,hb,ev⟩ := zqr hc.1;rw [ev] at hc
  have ht : t = [] := by simpa using hc.2
  subst ht;exact h a b e ha hb
theorem zl1 (u : Str) (hu : u.length < 1000000000) : zdt u = some (zdh u) := by
 unfold zdt zbP
 by_cases h8 : u.length = 8
 ·have e8 : ((u.length : Int) == 8) = true := by rw [h8]; rfl
  have t5 := zbR (l := u) (h := 5) (by omega);have f5 := zB (l := u) (i := 5) (by omega);have a5 : sAt u 5 = u[5]? := zA u 5;have a6 : sAt u 6 = u[6]? := zA u 6;have a7 : sAt u 7 = u[7]? := zA u 7;have t5 : sTo u 5 = some (u.take 5) := t5;have f5 : zaG u 5 = some (u.drop 5) := f5;rw [e8,ynt,if_neg (by decide),t5,yob,a5,a6,a7,f5,yob,yob]
  match u,h8 with
  | [c0,c1,c2,c3,c4,a,d,b],_ =>
   show (if (!(([c0,c1,c2,c3,c4] : Str) == zb4)) = true then _ else (some a).bind fun b5 => (zfe b5).bind fun r6 => if (!r6) = true then _ else (some d).bind fun b8 => if (!(b8 == 46)) = true then _ else (some b).bind fun b10 => (zfe b10).bind fun r11 => if (!r11) = true then some (-1) else (if (([a,d,b] : Str) == [49,46,48]) = true then some 0 else if (([a,d,b] : Str) == [49,46,49]) = true then some 1 else some 2)) = _;simp only [yob,zsM]
   cases hp : ([c0,c1,c2,c3,c4] : Str) == zb4 with
   | false =>
    rw [znK (fun x y e _ _ => by
     have := congrArg (List.take 5) e;rw [show ([c0,c1,c2,c3,c4,a,d,b] : Str).take 5 = [c0,c1,c2,c3,c4] from rfl,show (zb4 ++ [x,46,y]).take 5 = zb4 from rfl] at this;rw [this,ybs] at hp
     cases hp)]
    rfl
   | true =>
    have hp' : ([c0,c1,c2,c3,c4] : Str) = zb4 := by simpa using hp
    have hu : ([c0,c1,c2,c3,c4,a,d,b] : Str) = zb4 ++ [a,d,b] := by rw [← hp']; rfl
    rw [hu]
    have hinj : ∀ x y,zb4 ++ [a,d,b] = zb4 ++ [x,46,y] → a = x ∧ d = 46 ∧ b = y := fun x y e => by
     have := List.append_cancel_left e;simpa using this
    cases ha : zR a with
    | false => rw [znK (fun x y e h1 _ => by obtain ⟨rfl,_,_⟩ := hinj x y e; rw [ha] at h1; cases h1)]; rfl
    | true =>
     cases hd : d == 46 with
     | false => rw [znK (fun x y e _ _ => by obtain ⟨_,h,_⟩ := hinj x y e; rw [h] at hd; exact absurd hd (by decide))]; rfl
     | true =>
      have hd' : d = 46 := by simpa using hd
      subst hd'
      cases hb : zR b with
      | false => rw [znK (fun x y e _ h2 => by obtain ⟨_,_,rfl⟩ := hinj x y e; rw [hb] at h2; cases h2)]; rfl
      | true =>
       rw [zCq a b ha hb];cases ([a,46,b] : Str) == [49,46,48] <;> cases ([a,46,b] : Str) == [49,46,49] <;> rfl
 ·have e8 : ((u.length : Int) == 8) = false := beq_eq_false_iff_ne.2 (by omega);rw [e8,znK (fun a b e _ _ => h8 (by rw [e]; rfl))];rfl
theorem zw6 {s : Str} {c : UInt8} : ∀ {k : Nat},k ≤ s.length → zjC s c k = none → c ∉ s.take k
 | 0,_,_ => by simp
 | k + 1,hk,h => by
  rw [zjC] at h
  split at h
  ·cases h
  ·rename_i h2
   have ih := zw6 (by omega) h;rw [List.take_add_one];intro hm
   rcases List.mem_append.1 hm with hm | hm
   ·exact ih hm
   ·have g : s[k]? = some s[k] := ygg (by omega);rw [g] at hm h2
    have : c = s[k] := by simpa using hm
    exact h2 (by rw [this])
theorem zrH {s : Str} {c : UInt8} : ∀ {k i : Nat},k ≤ s.length → zjC s c k = some i → c ∉ (s.take k).drop (i + 1)
 | 0,_,_,h => by cases h
 | k + 1,i,hk,h => by
  rw [zjC] at h
  split at h
  ·cases h;rw [List.drop_of_length_le (by rw [ylt]; omega)];simp
  ·rename_i h2
   have ih := zrH (by omega) h;have hlt := (znB h).1;have g : s[k]? = some s[k] := ygg (by omega);rw [List.take_add_one,g,List.drop_append_of_le_length (by simp; omega)];intro hm
   rcases List.mem_append.1 hm with hm | hm
   ·exact ih hm
   ·rw [g] at h2
    have : c = s[k] := by simpa using hm
    exact h2 (by rw [this])
theorem ztm (s : Str) : ∃ l,ze 32 s = l ++ [zoe s] := by
 unfold zoe zvc
 cases h : zjC s 32 s.length with
 | none =>
  have := zw6 (Nat.le_refl _) h;rw [List.take_length] at this;exact ⟨[],by rw [zio this]; rfl⟩
 | some k =>
  have h1 := znB h;have h2 := zrH (Nat.le_refl _) h;rw [List.take_length] at h2;have g : s[k]? = some s[k] := ygg h1.1;rw [g] at h1;have hc : s[k] = 32 := yoi h1.2
  have e : s = s.take k ++ 32 :: s.drop (k + 1) := by
   have := (List.take_append_drop k s).symm;rw [ydg h1.1,hc] at this;exact this
  refine ⟨ze 32 (s.take k),?_⟩
  conv => lhs; rw [e]
  rw [zqg,zio h2]
theorem zpy : ∀ {s m : Str} {l : List Str},ze 32 s = m :: l → (l = [] ∧ s = m) ∨ ∃ r,s = m ++ 32 :: r ∧ ze 32 r = l
 | [],m,l,h => by rw [ze] at h; cases h; exact .inl ⟨rfl,rfl⟩
 | y :: s,m,l,h => by
  rw [za4] at h
  split at h
  ·rename_i e
   injection h with h1 h2
   subst h1 e;exact .inr ⟨s,rfl,h2⟩
  ·cases h3 : ze 32 s with
   | nil => exact absurd h3 (zbT 32 s)
   | cons a l' =>
    rw [h3] at h
    injection h with h1 h2
    subst h2
    rcases zpy h3 with ⟨h4,h5⟩ | ⟨r,h4,h5⟩
    ·exact .inl ⟨h4,by rw [← h1,h5]; rfl⟩
    ·exact .inr ⟨r,by rw [← h1,h4]; rfl,h5⟩
theorem zmz {p : UInt8 → Bool} {c : UInt8} (hc : p c = false) : ∀ {m : Str} (r : Str),m.all p = true → (m ++ c :: r).takeWhile p = m ∧ (m ++ c :: r).dropWhile p = c :: r
 | [],r,_ => by simp [hc]
 | x :: m,r,h => by
  simp only [List.all_cons,Bool.and_eq_true] at h;have ih := zmz hc r h.2;constructor
  ·rw [List.cons_append,List.takeWhile_cons,if_pos h.1,ih.1]
  ·rw [List.cons_append,List.dropWhile_cons,if_pos h.1,ih.2]
theorem zCr {t : Str} (h : (32 : UInt8) ∉ t) : t.all (fun b => !(b == 32)) = true :=
 List.all_eq_true.2 fun x hx => by
  have : x ≠ 32 := fun e => h (by rw [← e]; exact hx);simp [this]
theorem zCs {m t v : Str} (h1 : m.all zF = true) (h2 : (32 : UInt8) ∉ t) : zpJ (m ++ 32 :: (t ++ 32 :: v)) = m ∧ zr9 (m ++ 32 :: (t ++ 32 :: v)) = t ∧ zrR (m ++ 32 :: (t ++ 32 :: v)) = 32 :: (t ++ 32 :: v) ∧ zlu (m ++ 32 :: (t ++ 32 :: v)) = 32 :: v := by
 have a := zmz (p := zF) (c := 32) (by decide) (t ++ 32 :: v) h1;have b := zmz (p := fun b => !(b == 32)) (c := 32) (by decide) v (zCr h2);unfold zpJ zr9 zlu zrR;rw [a.1,a.2,zam,b.1,b.2];exact ⟨rfl,rfl,rfl,rfl⟩
def reqS (s : Str) : api_Head × Int :=
 if zdh (zoe s) == 2 then (zx,26) else match ze 32 s with
 | [m,t,v] => if !decide (zdh v < 0) && zeK m && (zkL m t).2 == 0 then (⟨1,m,t,0,[],zdh v,[]⟩,0) else (zx,20)
 | _ => (zx,20)
theorem zu3 (m : Str) : zeK m = true ↔ m ≠ [] ∧ m.all zF = true := by
 unfold zeK;cases m <;> simp
theorem zrI {s m t v : Str} (h : ze 32 s = [m,t,v]) : s = m ++ 32 :: (t ++ 32 :: v) ∧ (32 : UInt8) ∉ m ∧ (32 : UInt8) ∉ t ∧ (32 : UInt8) ∉ v ∧ zoe s = v := by
 have hm := fun x (hx : x ∈ ze 32 s) => (zea hx).1;rw [h] at hm;refine ⟨?_,hm m (by simp),hm t (by simp),hm v (by simp),?_⟩
 ·rcases zpy h with ⟨h1,_⟩ | ⟨r,h1,h2⟩
  ·cases h1
  ·rcases zpy h2 with ⟨h3,_⟩ | ⟨r2,h3,h4⟩
   ·cases h3
   ·rw [h1,h3,znO h4]
 ·obtain ⟨l,hl⟩ := ztm s;rw [h] at hl;have := congrArg List.getLast? hl;simp at this;exact this.symm
theorem zye (s : Str) : zrm s = reqS s := by
 unfold zrm reqS
 cases h26 : zdh (zoe s) == 2 with
 | true => rfl
 | false =>
  rw [yif,yif]
  cases hF : zxt s with
  | true =>
   obtain ⟨v,e,n1,n2,h3,h4,k1,k2,k3,k4⟩ := zpK hF;have hv := zCv k1 k2
   have hsp : ze 32 s = [zpJ s,zr9 s,v] := by
    have := zxe n1 n2 hv;rw [← e] at this;exact this
   rw [if_pos rfl,hsp,k3];dsimp only;rw [ydf (show ¬ zdh v < 0 by omega),(zu3 _).2 ⟨h3,h4⟩,k4];rfl
  | false =>
   rw [if_neg (by decide)]
   split
   ·rename_i m t v hsp
    split
    ·rename_i hc
     exfalso
     simp only [Bool.and_eq_true,Bool.not_eq_true',decide_eq_false_iff_not] at hc;obtain ⟨⟨c1,c2⟩,c3⟩ := hc;obtain ⟨e,_,n2,_,hlast⟩ := zrI hsp;obtain ⟨t1,t2⟩ := (zu3 _).1 c2;obtain ⟨r1,r2,r3,r4⟩ := zCs (v := v) t2 n2;rw [← e] at r1 r2 r3 r4;have hm := (zvb v).1;rw [hlast] at h26;rw [ydt (show 0 ≤ zdh v by omega),h26] at hm;unfold zxt at hF;rw [r1,r2,r3,r4,zaS,zam,zaS,hm,c3] at hF
     have : (m == []) = false := by simpa using t1
     rw [this] at hF
     revert hF
     decide
    ·rfl
   ·rfl
theorem zrJ (w : List Str) (v : Int) (m t u : Str) (hw : w = [m,t,u]) (hb : t.length < 300000000) (q : Bool) :
  zaY w v q = some (if q then (zx,20) else if (zkL m t).2 == 0 then (⟨1,m,t,0,[],v,[]⟩,0) else (zx,20)) := by
 subst hw;unfold zaY;have l0 : lAt [m,t,u] 0 = some m := rfl;have l1 : lAt [m,t,u] 1 = some t := rfl;rw [l0,l1,yob,yob,ztb m t hb,yob,yob,yob];cases q <;> cases (zkL m t).2 == 0 <;> rfl
theorem zvR (s : Str) (hs : s.length < 300000000) : ((zbc ((ze 32 s).length : Int) 1).bind fun i28 => (lAt (ze 32 s) i28).bind fun x29 => (zdt x29).bind fun r32 =>
  if (r32 == 2) then (some (((⟨0,[],[],0,[],0,[]⟩ : api_Head),26))) else (if (!(((ze 32 s).length : Int) == 3)) then (zaY (ze 32 s) r32 true) else (if (decide (r32 < 0)) then (zaY (ze 32 s) r32 true) else ((lAt (ze 32 s) 0).bind fun x40 => (zff x40).bind fun r43 => zaY (ze 32 s) r32 (!r43))))) = some (reqS s) := by
 have hlen := zgl 32 s;have hpos := List.length_pos_iff.2 (zbT 32 s);obtain ⟨l,hl⟩ := ztm s
 have hlw : (zoe s).length ≤ s.length := by unfold zoe; simp
 have e1 : zbc ((ze 32 s).length : Int) 1 = some (((ze 32 s).length - 1 : Nat) : Int) := by rw [z8 (by omega) (by omega)]; congr 1; omega
 have e2 : (ze 32 s)[(ze 32 s).length - 1]? = some (zoe s) := by rw [hl]; simp
 rw [e1,yob,zaF,e2,yob,zl1 _ (by omega),yob];unfold reqS
 cases zdh (zoe s) == 2 with
 | true => rfl
 | false =>
  rw [yif,yif]
  by_cases h3 : (ze 32 s).length = 3
  ·have e3 : (((ze 32 s).length : Int) == 3) = true := by rw [h3]; rfl
   obtain ⟨m,t,v,hsp⟩ : ∃ m t v,ze 32 s = [m,t,v] := by
    match ze 32 s,h3 with
    | [m,t,v],_ => exact ⟨m,t,v,rfl⟩
   have hmem := fun x (hx : x ∈ ze 32 s) => (zea hx).2.1;obtain ⟨_,_,_,_,hlast⟩ := zrI hsp;rw [e3,ynt,if_neg (by decide),hlast,hsp];rw [hsp] at hmem;have hm := hmem m (by simp);have ht := hmem t (by simp);have l0 : lAt [m,t,v] 0 = some m := rfl;rw [l0,yob,zkD m (by omega),yob,zrJ [m,t,v] (zdh v) m t v rfl (by omega),zrJ [m,t,v] (zdh v) m t v rfl (by omega)];dsimp only;cases decide (zdh v < 0) <;> cases zeK m <;> cases (zkL m t).2 == 0 <;> rfl
  ·have e3 : (((ze 32 s).length : Int) == 3) = false := beq_eq_false_iff_ne.2 (by omega);rw [e3,ynf,if_pos rfl];unfold zaY;rw [if_pos rfl]
   split
   ·rename_i m t v hsp
    rw [hsp] at h3;exact absurd rfl h3
   ·rfl
theorem zu4 (s : Str) : ze 32 s = if (zQ 32 s).2.2 then (zQ 32 s).1 :: ze 32 (zQ 32 s).2.1 else [s] := by
 have hno : (32 : UInt8) ∉ (zQ 32 s).1 := fun hm => by
  have := ztd (cs := [32]) (s := s) 32 hm;simp at this
 rcases zdX (zQ 32 s).2.2 with h | h
 ·rw [if_pos h];have := ztU 32 s h
  conv => lhs; rw [← this]
  exact zgk _ hno
 ·have hn := zmW 32 s h;rw [if_neg (by rw [h]; decide)];rw [hn] at hno;exact zio hno
theorem zw7 (b : UInt8) (t : Str) (hb : b = 48 ∨ b = 49) : zgi (zb4 ++ 49 :: 46 :: b :: t) = (((b - 48).toNat : Int),true,t) := by
 unfold zgi;rw [zw5 49 b t (by decide) (by rcases hb with h | h <;> subst h <;> decide)]
 rcases hb with h | h <;> subst h <;> rfl
theorem zmA {s : Str} {m : Int} (h : (zL 10 s m).2 = 0) : s.all zR = true ∧ s ≠ [] := by
 unfold zL at h
 split at h
 ·cases h
 ·rename_i h2
  simp only [Bool.or_eq_true,Bool.not_eq_true',not_or] at h2
  have h3 : s.all (zlg 10) = true := by simpa using h2.2
  exact ⟨List.all_eq_true.2 fun x hx => (List.all_eq_true.1 h3 x hx : zlg 10 x = true),by simpa using h2.1⟩
def ztn (s : Str) : Bool := match ze 32 s with
 | w0 :: w1 :: _ :: _ => !decide (zdh w0 < 0) && (w1.length : Int) == 3 && (zL 10 w1 599).2 == 0 && !decide ((zL 10 w1 599).1 < 100) && (s.drop 13).all zfG
 | _ => false
theorem zp9 {b : UInt8} {w r : Str} (hb : b = 48 ∨ b = 49) (hw : w.all zR = true) : (zgi (zb4 ++ 49 :: 46 :: b :: 32 :: (w ++ 32 :: r))) = (((b - 48).toNat : Int),true,32 :: (w ++ 32 :: r)) ∧ ztJ (zb4 ++ 49 :: 46 :: b :: 32 :: (w ++ 32 :: r)) = w ∧ zqs (zb4 ++ 49 :: 46 :: b :: 32 :: (w ++ 32 :: r)) = 32 :: r := by
 have h1 := zw7 b (32 :: (w ++ 32 :: r)) hb;have h2 := zmz (p := zR) (c := 32) (by decide) r hw;refine ⟨h1,?_,?_⟩
 ·unfold ztJ; rw [h1]; dsimp only; rw [zam,h2.1]
 ·unfold zqs; rw [h1]; dsimp only; rw [zam,h2.2]
theorem zu5 {w : Str} (h : w.all zR = true) : (32 : UInt8) ∉ w := fun hm => by
 have := List.all_eq_true.1 h 32 hm
 revert this; decide
theorem zmB {s : Str} (h : zv8 s = true) : ∃ b w r,(b = 48 ∨ b = 49) ∧ s = zb4 ++ 49 :: 46 :: b :: 32 :: (w ++ 32 :: r) ∧ w.all zR = true ∧ w.length = 3 := by
 unfold zv8 at h;simp only [Bool.and_eq_true] at h;obtain ⟨⟨⟨⟨⟨⟨h1,h2⟩,h3⟩,h4⟩,h5⟩,h6⟩,h7⟩ := h;unfold zgi at h1;simp only [Bool.and_eq_true,decide_eq_true_eq,beq_iff_eq] at h1;obtain ⟨⟨a1,a2⟩,a3⟩ := h1;obtain ⟨a,b,t,e,ha,hb,ev⟩ := zqr a1;rw [ev] at a2 a3
 have hm : (zgi s).2.2 = t := by unfold zgi; rw [ev]
 rw [hm] at h2
 have ha1 : a = 49 := by
  have := zyX a;rw [ha] at this
  have : (((a - 48).toNat : Int) == 1) = (a == 49) := by simpa using this
  rw [show (((a - 48).toNat : Int) == 1) = true from by simpa using a2] at this;simpa using this.symm
 have hb1 := zod hb (by dsimp only at a3; omega);have e2 := zeI h2;have e4 := zeI h3
 have e5 : ztJ s ++ zqs s = zaa 32 t := by
  unfold ztJ zqs; rw [hm]; exact List.takeWhile_append_dropWhile
 have hl3 : ((ztJ s).length : Int) = 3 := by simpa using h4
 refine ⟨b,ztJ s,zaa 32 (zqs s),hb1,?_,(zmA (by simpa using h5)).1,by omega⟩;rw [← e4,e5, ← e2, ← ha1,e]
theorem zDI (s : Str) (h26 : (zdh (zQ 32 s).1 == 2) = false) : zv8 s = ztn s := by
  rw [Bool.eq_iff_iff];constructor
  · intro h
    have h' := h;obtain ⟨b,w,r,hb,e,hw,hl⟩ := zmB h;obtain ⟨m1,m2,m3⟩ := zp9 (r := r) hb hw;rw [← e] at m1 m2 m3;unfold zv8 at h';rw [m1,m2,m3] at h';simp only [Bool.and_eq_true,zam] at h'
    have h32 : (32 : UInt8) ∉ (zb4 ++ [49,46,b]) := by rcases hb with h | h <;> subst h <;> decide
    have hsp : ze 32 s = (zb4 ++ [49,46,b]) :: w :: ze 32 r := by
      have e' : s = (zb4 ++ [49,46,b]) ++ 32 :: (w ++ 32 :: r) := by rw [e]; simp
      rw [e',zgk _ h32,zgk _ (zu5 hw)]
    have hd : s.drop 13 = r := by
      rw [e];show (w ++ 32 :: r).drop 4 = r
      match w,hl with
      | [x,y,z],_ => rfl
    have hv : zdh (zb4 ++ [49,46,b]) = ((b - 48).toNat : Int) := by rcases hb with h | h <;> subst h <;> decide
    unfold ztn;rw [hsp]
    cases hr : ze 32 r with
    | nil => exact absurd hr (zbT 32 r)
    | cons x l =>
      dsimp only;rw [hd,hv,ydf (by omega)];simp only [Bool.and_eq_true];exact ⟨⟨⟨⟨rfl,by rw [hl]; rfl⟩,h'.1.1.2⟩,h'.1.2⟩,h'.2⟩
  · intro h
    unfold ztn at h
    split at h
    · rename_i w0 w1 w2 l hsp
      simp only [Bool.and_eq_true,Bool.not_eq_true',decide_eq_false_iff_not] at h;obtain ⟨⟨⟨⟨h1,h2⟩,h3⟩,h4⟩,h5⟩ := h;have hc := zu4 s;rw [hsp] at hc
      have h0 : (zQ 32 s).1 = w0 := by
        split at hc
        · injection hc with hc _; exact hc.symm
        · cases hc
      rw [h0] at h26
      rcases zpy hsp with ⟨hx,_⟩ | ⟨r1,e1,hsp1⟩
      · cases hx
      rcases zpy hsp1 with ⟨hx,_⟩ | ⟨r,e2,hsp2⟩
      · cases hx
      have hb : ∃ b,(b = 48 ∨ b = 49) ∧ w0 = zb4 ++ [49,46,b] := by
        rcases zk6 (u := w0) (by omega) h26 with ⟨h,_⟩ | ⟨h,_⟩
        · exact ⟨48, .inl rfl,h⟩
        · exact ⟨49, .inr rfl,h⟩
      obtain ⟨b,hb,hw0⟩ := hb;have hw := (zmA (by simpa using h3)).1
      have e : s = zb4 ++ 49 :: 46 :: b :: 32 :: (w1 ++ 32 :: r) := by rw [e1,hw0,e2]; simp
      obtain ⟨m1,m2,m3⟩ := zp9 (r := r) hb hw;rw [← e] at m1 m2 m3
      have hl : w1.length = 3 := by have : (w1.length : Int) = 3 := by simpa using h2
                                    omega
      have hd : s.drop 13 = r := by
        rw [e];show (w1 ++ 32 :: r).drop 4 = r
        match w1,hl with
        | [x,y,z],_ => rfl
      rw [hd] at h5;unfold zv8;rw [m1,m2,m3];simp only [Bool.and_eq_true,zam,zaS];exact ⟨⟨⟨⟨⟨⟨by first | trivial | rfl,by first | trivial | rfl⟩,by first | trivial | rfl⟩,h2⟩,h3⟩,by rw [ydf (by omega)]; rfl⟩,h5⟩
    · cases h
theorem zw8 (v : Int) (rd : Int × Int) (u : Str) (hu : u.length < 1000000000) : zdM v rd u fuel 0 = some (if u.all zfG && rd.2 == 0 && !decide (rd.1 < 100) then (⟨2,[],[],rd.1,u,v,[]⟩,0) else (zx,20)) := by
 have key : ∀ (n i : Nat),i ≤ u.length → u.length - i < n → zdM v rd u n (i : Int) = some (if (u.drop i).all zfG && rd.2 == 0 && !decide (rd.1 < 100) then (⟨2,[],[],rd.1,u,v,[]⟩,0) else (zx,20)) := by
  intro n
  induction n with
  | zero => intro i _ h; omega
  | succ n ih =>
   intro i hi h;rw [zdM]
   by_cases hlt : i < u.length
   ·have g : u[i]? = some u[i] := ygg hlt;rw [ydt (show (i : Int) < (u.length : Int) by omega),if_pos rfl,zA,g,yob,zix,yob,zf (by omega),yob,ih (i + 1) (by omega) (by omega),ydg hlt,List.all_cons];cases zfG u[i] <;> rfl
   ·have : i = u.length := by omega
    subst this;unfold zgO;rw [ydf (by omega),if_neg (by decide),ydl];cases rd.2 == 0 <;> cases decide (rd.1 < 100) <;> rfl
 have := key fuel 0 (yz _) (by unfold fuel; omega);rw [List.drop_zero] at this;exact this
theorem zvS (s : Str) (hs : s.length < 300000000) : ((lAt (ze 32 s) 0).bind fun x69 => (zdt x69).bind fun r72 =>
    if (r72 == 2) then (some (((⟨0,[],[],0,[],0,[]⟩ : api_Head),26))) else (if (decide (((ze 32 s).length : Int) < 3)) then (zaZ s (ze 32 s) r72 true) else (if (decide (r72 < 0)) then (zaZ s (ze 32 s) r72 true) else ((lAt (ze 32 s) 1).bind fun x80 => zaZ s (ze 32 s) r72 (!((x80.length : Int) == 3)))))) = some (ztK s) := by
  have hc := zu4 s;have hcl := zoG 32 s
  have h0 : ∃ l,ze 32 s = (zQ 32 s).1 :: l := by
    rcases zdX (zQ 32 s).2.2 with h | h
    · rw [if_pos h] at hc; exact ⟨_,hc⟩
    · rw [if_neg (by rw [h]; decide)] at hc
      have := zmW 32 s h;exact ⟨[],by rw [hc,this]⟩
  obtain ⟨l,hl⟩ := h0
  have l0 : lAt (ze 32 s) 0 = some (zQ 32 s).1 := by rw [hl]; rfl
  rw [l0,yob,zl1 _ (by omega),yob];unfold ztK
  cases h26 : zdh (zQ 32 s).1 == 2 with
  | true => rfl
  | false =>
    rw [yif,yif];have hok := zDI s h26
    have j5t : ∀ w,zaZ s w (zdh (zQ 32 s).1) true = some (zx,20) := fun w => by unfold zaZ; rw [if_pos rfl]; rfl
    by_cases h3 : (ze 32 s).length < 3
    · rw [ydt (show ((ze 32 s).length : Int) < 3 by omega),if_pos rfl,j5t,hok]
      have : ztn s = false := by
        unfold ztn
        split
        · rename_i w0 w1 w2 l' hsp
          rw [hsp] at h3; simp only [ylc] at h3; omega
        · rfl
      rw [this]; rfl
    · rw [ydf (show ¬ ((ze 32 s).length : Int) < 3 by omega),if_neg (by decide),j5t]
      obtain ⟨w1,w2,l',hsp⟩ : ∃ w1 w2 l',ze 32 s = (zQ 32 s).1 :: w1 :: w2 :: l' := by
        rw [hl] at h3
        match l,h3 with
        | w1 :: w2 :: l',_ => exact ⟨w1,w2,l',hl⟩
        | [_],h => simp at h
        | [],h => simp at h
      have l1 : lAt (ze 32 s) 1 = some w1 := by rw [hsp]; rfl
      rw [l1,yob,hok]
      have hst : ztn s = (!decide (zdh (zQ 32 s).1 < 0) && (w1.length : Int) == 3 && (zL 10 w1 599).2 == 0 && !decide ((zL 10 w1 599).1 < 100) && (s.drop 13).all zfG) := by
        unfold ztn; rw [hsp]
      cases hneg : decide (zdh (zQ 32 s).1 < 0) with
      | true => rw [if_pos rfl,hst,hneg]; rfl
      | false =>
        rw [if_neg (by decide)]
        cases hl3 : (w1.length : Int) == 3 with
        | false => rw [ynf,j5t,hst,hneg,hl3]; rfl
        | true =>
          have hw3 : w1.length = 3 := by have : (w1.length : Int) = 3 := by simpa using hl3
                                         omega
          have h13 : 13 ≤ s.length := by
            have hneg' : ¬ zdh (zQ 32 s).1 < 0 := by simpa using hneg
            rcases zpy hsp with ⟨hx,_⟩ | ⟨r1,e1,hsp1⟩
            · cases hx
            rcases zpy hsp1 with ⟨hx,_⟩ | ⟨r,e2,_⟩
            · cases hx
            have h8 : (zQ 32 s).1.length = 8 := by
              rcases zk6 (u := (zQ 32 s).1) (by omega) h26 with ⟨h,_⟩ | ⟨h,_⟩ <;> rw [h] <;> rfl
            rw [e2] at e1;have := congrArg List.length e1;simp only [yla,ylc] at this;omega
          unfold zaZ;have hrd := zjt (b := 10) (.inl rfl) w1 599 (by omega) (by decide) (by decide);rw [show ((10 : Nat) : Int) = 10 from rfl] at hrd;have hfr : zaG s 13 = some (s.drop 13) := zB (i := 13) h13;rw [ynt,if_neg (by decide),l1,yob,hrd,yob,hfr,yob,zw8 _ _ _ (by simp; omega),hst,hneg,hl3]
          cases hq : (s.drop 13).all zfG && (zL 10 w1 599).2 == 0 && !decide ((zL 10 w1 599).1 < 100) with
          | false =>
            have : (!false && true && (zL 10 w1 599).2 == 0 && !decide ((zL 10 w1 599).1 < 100) && (s.drop 13).all zfG) = false := by
              revert hq
              cases (s.drop 13).all zfG <;> cases (zL 10 w1 599).2 == 0 <;> cases decide ((zL 10 w1 599).1 < 100) <;> decide
            rw [this]; rfl
          | true =>
            have ht : (!false && true && (zL 10 w1 599).2 == 0 && !decide ((zL 10 w1 599).1 < 100) && (s.drop 13).all zfG) = true := by
              revert hq
              cases (s.drop 13).all zfG <;> cases (zL 10 w1 599).2 == 0 <;> cases decide ((zL 10 w1 599).1 < 100) <;> decide
            have hF : zv8 s = true := by rw [hok,hst,hneg,hl3]; exact ht
            obtain ⟨b,w,r,hb,e,hw,hlw⟩ := zmB hF;obtain ⟨m1,m2,m3⟩ := zp9 (r := r) hb hw;rw [← e] at m1 m2 m3
            have h32 : (32 : UInt8) ∉ (zb4 ++ [49,46,b]) := by rcases hb with h | h <;> subst h <;> decide
            have hsp' : ze 32 s = (zb4 ++ [49,46,b]) :: w :: ze 32 r := by
              have e' : s = (zb4 ++ [49,46,b]) ++ 32 :: (w ++ 32 :: r) := by rw [e]; simp
              rw [e',zgk _ h32,zgk _ (zu5 hw)]
            rw [hsp] at hsp'
            injection hsp' with q1 q2
            injection q2 with q2 _
            have hd : s.drop 13 = r := by
              rw [e];show (w ++ 32 :: r).drop 4 = r
              match w,hlw with
              | [x,y,z],_ => rfl
            have hv : zdh (zb4 ++ [49,46,b]) = ((b - 48).toNat : Int) := by rcases hb with h | h <;> subst h <;> decide
            rw [ht,if_pos rfl,if_pos rfl,m1,m2,m3,zam,q1,hv,hd,q2]
theorem znL (kind : Int) (s : Str) (hs : s.length < 300000000) : zid kind s = some (zbB kind s) := by
 unfold zid zgP zbB
 have key : ∀ (n i : Nat),i ≤ s.length → s.length - i < n → (!(kind == 1) && !(kind == 2)) = false → zb0 kind s n (i : Int) = some (if (s.drop i).any ([13,10] : Str).contains then (zx,24) else if kind == 1 then zrm s else ztK s) := by
  intro n
  induction n with
  | zero => intro i _ h; omega
  | succ n ih =>
   intro i hi h hk;rw [zb0]
   by_cases hlt : i < s.length
   ·have g : s[i]? = some s[i] := ygg hlt;unfold zgN;rw [ydt (show (i : Int) < (s.length : Int) by omega),if_pos rfl,zA,g,yob,yob,zf (by omega),yob,ih (i + 1) (by omega) (by omega) hk,ydg hlt,List.any_cons]
    have : ([13,10] : Str).contains s[i] = (s[i] == 13 || s[i] == 10) := by simp only [List.contains_cons,List.contains_nil,Bool.or_false]
    rw [this];cases s[i] == 13 <;> cases s[i] == 10 <;> rfl
   ·have : i = s.length := by omega
    subst this;rw [ydf (by omega),if_neg (by decide),zky s 32 (by omega),yob,ydl,zvR s hs,zvS s hs,zye];cases kind == 1 <;> rfl
 have := key fuel 0 (yz _) (by unfold fuel; omega);rw [List.drop_zero] at this;have this : (!(kind == 1) && !(kind == 2)) = false → zb0 kind s fuel 0 = _ := this
 cases h1 : kind == 1 with
 | true => rw [h1] at this; rw [ynt,if_neg (by decide),if_neg (by decide),this rfl]; rfl
 | false =>
  cases h2 : kind == 2 with
  | true => rw [h1,h2] at this; rw [ynf,if_pos rfl,ynt,if_neg (by decide),this rfl]; rfl
  | false => rfl
end Go.Dm
end
section
namespace Go.Dm
def verT (n : Int) : Str := zb4 ++ 49 :: 46 :: zmY 10 n
def rawL (h : api_Head) : Str := if h.Kind == 2 then verT h.Minor ++ 32 :: (zmY 10 h.Code ++ 32 :: h.Reason) else h.Method ++ 32 :: (h.Target ++ 32 :: verT h.Minor)
theorem zvB : ∀ a,a < 10 → ∀ b,b < 10 → ∀ c,c < 10 → 100 ≤ a * 100 + b * 10 + c → zil 10 (a * 100 + b * 10 + c) = [a,b,c] := by decide +kernel
theorem zvC (c : UInt8) : (!zR c || (decide ((c - 48).toNat < 10) && dch (c - 48).toNat == c && wor c == (c - 48).toNat)) = true := zP (fun c => !zR c || (decide ((c - 48).toNat < 10) && dch (c - 48).toNat == c && wor c == (c - 48).toNat)) (by decide +kernel) c
theorem zx5 {w : Str} (hl : w.length = 3) (h : (zL 10 w 599).2 = 0) (h1 : ¬ (zL 10 w 599).1 < 100) : zmY 10 (zL 10 w 599).1 = w ∧ inI (zL 10 w 599).1 = true := by
 have hin := zkO h (by decide);refine ⟨?_,hin.2.2⟩;have hd := (zmA h).1
 match w,hl with
 | [x,y,z],_ =>
  simp only [List.all_cons,List.all_nil,Bool.and_true,Bool.and_eq_true] at hd;have fx := zvC x;have fy := zvC y;have fz := zvC z;rw [hd.1] at fx;rw [hd.2.1] at fy;rw [hd.2.2] at fz;simp only [ynt,Bool.false_or,Bool.and_eq_true,decide_eq_true_eq,beq_iff_eq] at fx fy fz
  have hval : (zL 10 [x,y,z] 599).1 = (((x - 48).toNat * 100 + (y - 48).toNat * 10 + (z - 48).toNat : Nat) : Int) := by
   unfold zL at h ⊢
   split at h
   ·cases h
   ·rename_i g1
    rw [if_neg g1]
    split at h
    ·cases h
    ·rename_i g2
     rw [if_neg g2]
     have : zbz 10 (vals [x,y,z]) = (x - 48).toNat * 100 + (y - 48).toNat * 10 + (z - 48).toNat := by
      unfold vals zbz;simp only [List.map_cons,List.map_nil,List.foldl_cons,List.foldl_nil,fx.2,fy.2,fz.2];omega
     rw [this]
  rw [hval] at h1 ⊢;unfold zmY;rw [if_neg (by omega),Int.toNat_natCast,zvB _ fx.1.1 _ fy.1.1 _ fz.1.1 (by omega)];unfold zw;simp only [List.map_cons,List.map_nil,fx.1.2,fy.1.2,fz.1.2]
theorem zs2 {k : Int} {s : Str} {x : api_Head} (h : zbB k s = (x,0)) : (k = 1 ∧ zrm s = (x,0)) ∨ (k = 2 ∧ ztK s = (x,0)) := by
 unfold zbB at h
 cases h1 : k == 1 with
 | true =>
  have hk : k = 1 := by simpa using h1
  rw [h1,ynt,Bool.false_and,yif] at h
  split at h
  ·exact absurd (show (24 : Int) = 0 from congrArg Prod.snd h) (by decide)
  ·rw [if_pos rfl] at h; exact .inl ⟨hk,h⟩
 | false =>
  cases h2 : k == 2 with
  | true =>
   have hk : k = 2 := by simpa using h2
   rw [h1,h2,ynt,Bool.and_false,yif] at h
   split at h
   ·exact absurd (show (24 : Int) = 0 from congrArg Prod.snd h) (by decide)
   ·rw [yif] at h; exact .inr ⟨hk,h⟩
  | false =>
   rw [h1,h2,ynf,Bool.true_and,if_pos rfl] at h;exact absurd (show (1 : Int) = 0 from congrArg Prod.snd h) (by decide)
structure LineBack (k : Int) (s : Str) (x : api_Head) : Prop where
 kind : x.Kind = k
 raw : rawL x = s
 code : inI x.Code = true
 minor : inI x.Minor = true
 method : x.Method.length ≤ s.length
 target : x.Target.length ≤ s.length
 reason : x.Reason.length ≤ s.length
theorem zx6 {v : Str} (h : 0 ≤ zdh v) (h2 : (zdh v == 2) = false) : verT (zdh v) = v ∧ inI (zdh v) = true := by
 rcases zk6 h h2 with ⟨e,e2⟩ | ⟨e,e2⟩ <;> rw [e2,e] <;> exact ⟨by decide,by decide⟩
theorem zzE {k : Int} {s : Str} {x : api_Head} (h : zbB k s = (x,0)) : LineBack k s x := by
 rcases zs2 h with ⟨hk,h⟩ | ⟨hk,h⟩
 ·rcases zts s with (h1 | h1) | ⟨h1,h2⟩
  ·rw [h1] at h; exact absurd (show (26 : Int) = 0 from congrArg Prod.snd h) (by decide)
  ·rw [h1] at h; exact absurd (show (20 : Int) = 0 from congrArg Prod.snd h) (by decide)
  ·obtain ⟨v,e,n1,n2,h3,h4,k1,k2,k3,k4⟩ := zpK h1;rw [h2] at h;have hx := congrArg Prod.fst h;dsimp only at hx;subst hx;obtain ⟨q1,q2⟩ := zx6 k1 k2;have hlen := congrArg List.length e;simp only [yla,ylc] at hlen;rw [k3];refine ⟨hk.symm,?_,rfl,q2,by dsimp only; omega,by dsimp only; omega,by simp⟩;show zpJ s ++ 32 :: (zr9 s ++ 32 :: verT (zdh v)) = s;rw [q1]; exact e.symm
 ·unfold ztK at h
  split at h
  ·exact absurd (show (26 : Int) = 0 from congrArg Prod.snd h) (by decide)
  ·split at h
   ·rename_i h26 hF
    have hF' := hF;obtain ⟨b,w,r,hb,e,hw,hl⟩ := zmB hF;obtain ⟨m1,m2,m3⟩ := zp9 (r := r) hb hw;rw [← e] at m1 m2 m3;unfold zv8 at hF';rw [m1,m2,m3] at hF';simp only [Bool.and_eq_true,Bool.not_eq_true',decide_eq_false_iff_not] at hF';have hx := congrArg Prod.fst h;dsimp only at hx;subst hx;obtain ⟨q1,q2⟩ := zx5 hl (by simpa using hF'.1.1.2) hF'.1.2;have hlen := congrArg List.length e;simp only [yla,ylc] at hlen;rw [m1,m2,m3,zam]
    have hv : verT ((b - 48).toNat : Int) = zb4 ++ [49,46,b] ∧ inI ((b - 48).toNat : Int) = true := by rcases hb with h | h <;> subst h <;> exact ⟨by decide,by decide⟩
    refine ⟨hk.symm,?_,q2,hv.2,by simp,by simp,by dsimp only; omega⟩;show verT ((b - 48).toNat : Int) ++ 32 :: (zmY 10 (zL 10 w 599).1 ++ 32 :: r) = s;rw [hv.1,q1,e]; simp
   ·exact absurd (show (20 : Int) = 0 from congrArg Prod.snd h) (by decide)
theorem ziy (k : Int) (s : Str) : (zbB k s).1.Fields = [] := by
 unfold zbB zrm ztK
 split
 ·rfl
 ·split
  ·rfl
  ·split
   ·split
    ·rfl
    ·split <;> rfl
   ·split
    ·rfl
    ·split <;> rfl
end Go.Dm
end
section
namespace Go.Dm
def za5 (b : UInt8) : Bool := b == 32 || b == 9
def zke (s : Str) : Str := s.dropWhile za5
def zi0 (s : Str) : Str := (s.reverse.dropWhile za5).reverse
def zca (s : Str) : Str := zke (zi0 s)
theorem zw1 (b : UInt8) : ([32,9] : Str).contains b = za5 b := by
 simp only [za5,List.contains_cons,List.contains_nil,Bool.or_false]
theorem zzS : zi0 [] = [] := rfl
theorem zkJ (s : Str) (c : UInt8) : zi0 (s ++ [c]) = if za5 c then zi0 s else s ++ [c] := by
 unfold zi0;rw [List.reverse_append];simp only [List.reverse_cons,List.reverse_nil,yna,List.singleton_append,List.dropWhile_cons]
 split <;> simp
theorem zCl (s : Str) : (zi0 s).length ≤ s.length := by
 unfold zi0;rw [List.length_reverse];have := (List.dropWhile_suffix (l := s.reverse) za5).length_le;simpa using this
theorem zCm (s : Str) : (zke s).length ≤ s.length := (List.dropWhile_suffix za5).length_le
theorem zsg (s : Str) : (zca s).length ≤ s.length := Nat.le_trans (zCm _) (zCl _)
theorem zrG (s : Str) : (s.all za5 = true ∧ zi0 s = []) ∨ ∃ a c b,s = a ++ c :: b ∧ za5 c = false ∧ b.all za5 = true ∧ zi0 s = a ++ [c] := by
 rw [← List.reverse_reverse s];generalize s.reverse = r
 induction r with
 | nil => left; exact ⟨rfl,rfl⟩
 | cons x r ih =>
  rw [List.reverse_cons,zkJ]
  rcases zdX (za5 x) with h | h
  ·rw [h]
   rcases ih with ⟨h1,h2⟩ | ⟨a,c,b,h1,h2,h3,h4⟩
   ·left; refine ⟨?_,by simpa using h2⟩
    rw [List.all_append,h1]; simp [h]
   ·right; refine ⟨a,c,b ++ [x],by rw [h1]; simp,h2,by rw [List.all_append,h3]; simp [h],by simpa using h4⟩
  ·right; exact ⟨r.reverse,x,[],rfl,h,rfl,by simp [h]⟩
theorem zzT {s : Str} (h : s.all za5 = true) : zke s = [] := by
 unfold zke
 induction s with
 | nil => rfl
 | cons x s ih =>
  simp only [List.all_cons,Bool.and_eq_true] at h;rw [List.dropWhile_cons,h.1];exact ih h.2
theorem zzU {a : Str} {c : UInt8} {b : Str} (hc : za5 c = false) : zke (a ++ c :: b) = zke (a ++ [c]) ++ b := by
 unfold zke
 induction a with
 | nil => simp [List.dropWhile_cons,hc]
 | cons x a ih =>
  simp only [List.cons_append,List.dropWhile_cons]
  split
  ·exact ih
  ·simp
theorem zCn {a : Str} {c : UInt8} (hc : za5 c = false) : ∃ d,zke (a ++ [c]) = d ++ [c] := by
 unfold zke
 induction a with
 | nil => exact ⟨[],by simp [List.dropWhile_cons,hc]⟩
 | cons x a ih =>
  simp only [List.cons_append,List.dropWhile_cons]
  split
  ·exact ih
  ·exact ⟨x :: a,rfl⟩
theorem zzV {d : Str} {c : UInt8} {b : Str} (hc : za5 c = false) (hb : b.all za5 = true) : zi0 (d ++ c :: b) = d ++ [c] := by
 rw [← List.reverse_reverse b] at *
 generalize b.reverse = r at *
 induction r with
 | nil => rw [List.reverse_nil,zkJ,hc]; rfl
 | cons x r ih =>
  rw [List.reverse_cons,List.all_append] at hb;simp only [Bool.and_eq_true,List.all_cons,List.all_nil,Bool.and_true] at hb;rw [List.reverse_cons, ← List.cons_append, ← yaa,zkJ,hb.2];exact ih hb.1
theorem zzW (s : Str) : zi0 (zke s) = zca s := by
 unfold zca
 rcases zrG s with ⟨h1,h2⟩ | ⟨a,c,b,h1,h2,h3,h4⟩
 ·rw [h2,zzT h1]; rfl
 ·rw [h4,h1,zzU h2];obtain ⟨d,hd⟩ := zCn (a := a) h2;rw [hd,yaa];exact zzV h2 h3
theorem zCo (s : Str) : Go.Lib.trimS s [32,9] = zca s := by
 unfold Go.Lib.trimS Go.Lib.trimLeftS Go.Lib.trimRightS zca zke zi0
 have : (fun x => ([32,9] : List UInt8).contains x) = za5 := by funext b; exact zw1 b
 rw [this]
theorem zm6 (s : Str) (hs : s.length < 1000000000) : zfq s [32,9] = some (zca s) := by
 unfold zfq;rw [if_pos ⟨by omega,by simp,by decide⟩,zCo]
theorem zkK (b : UInt8) : zgQ b = some (za5 b) :=
 of_decide_eq_true (zP (fun b => decide (zgQ b = some (za5 b))) (by decide +kernel) b)
theorem zjh : ∀ (k n : Nat) (s : Str),s.length = k → k < n → k < 1000000000 → zcF n s = some (zi0 s)
 | k,0,s,_,h,_ => by omega
 | 0,n + 1,s,hk,h,_ => by
  have : s = [] := List.length_eq_zero_iff.1 hk;subst this; rw [zcF]; simp [zf2,zzS]
 | k + 1,n + 1,s,hk,h,hb => by
  obtain ⟨a,c,rfl⟩ : ∃ a c,s = a ++ [c] := by
   rcases List.eq_nil_or_concat s with rfl | ⟨a,c,rfl⟩
   ·simp at hk
   ·exact ⟨a,c,by simp⟩
  have hl : a.length = k := by simpa using hk
  have e : ((a ++ [c]).length : Int) - 1 = (a.length : Int) := by simp
  have h0 : (0 : Int) < ((a ++ [c]).length : Int) := by simp
  have e2 : sTo (a ++ [c]) (a.length : Int) = some a := by rw [zbR (by simp)]; simp
  rw [zcF,zkJ];rw [z8 (by omega) (by omega),e];simp only [h0,decide_true,if_true,yob,zA,List.getElem?_concat_length,zkK,zf2]
  rcases zdX (za5 c) with h1 | h1
  ·rw [h1];simp only [if_true,z8 (show -9223372036854775808 ≤ ((a ++ [c]).length : Int) - 1 by omega) (show ((a ++ [c]).length : Int) - 1 ≤ 9223372036854775807 by simp; omega),e,yob,e2];exact zjh k n a hl (by omega) (by omega)
  ·rw [h1]; simp
theorem zlZ : ∀ (n : Nat) (s : Str),s.length < n → s.length < 1000000000 → zcG n s = some (zi0 (zke s))
 | 0,s,h,_ => by omega
 | n + 1,[],h,hb => by
  rw [zcG];simp only [yln,Int.natCast_zero,Int.lt_irrefl,decide_false,Bool.false_eq_true,if_false,zf3];exact zjh 0 fuel [] rfl (by decide) (by decide)
 | n + 1,x :: s,h,hb => by
  rw [zcG]
  have h0 : (0 : Int) < ((x :: s).length : Int) := by simp
  have e : zaG (x :: s) 1 = some s := by
   have := zB (l := x :: s) (i := 1) (by simp); simpa using this
  simp only [h0,decide_true,if_true,zg7,List.getElem?_cons_zero,yob,zkK,zf3]
  rcases zdX (za5 x) with h1 | h1
  ·rw [h1];simp only [if_true,e,yob];rw [zlZ n s (by simp at h; omega) (by simp at hb; omega)];unfold zke; simp [List.dropWhile_cons,h1]
  ·rw [h1];simp only [Bool.false_eq_true,if_false];rw [zjh _ fuel _ rfl (by unfold fuel; omega) hb];unfold zke; simp [List.dropWhile_cons,h1]
theorem zjw (s : Str) (hs : s.length < 1000000000) : zgR s = some (zca s) := by
 unfold zgR;rw [zlZ fuel s (by unfold fuel; omega) hs,zzW]
end Go.Dm
end
section
namespace Go.Dm
def zc1 : Str → Option (Str × Nat)
 | [] => none
 | c :: r => if c == 34 then some ([],1) else if c == 92 then (match r with
   | [] => none
   | d :: t => if zfG d then (zc1 t).map (fun p => (d :: p.1,p.2 + 2)) else none)
  else if zfG c then (zc1 r).map (fun p => (c :: p.1,p.2 + 1)) else none
theorem zqG (r : Str) : zc1 (34 :: r) = some ([],1) := by rw [zc1.eq_def]; rfl
theorem zpi : zc1 [92] = none := by rw [zc1.eq_def]; rfl
theorem zqH (d : UInt8) (t : Str) : zc1 (92 :: d :: t) = if zfG d then (zc1 t).map (fun p => (d :: p.1,p.2 + 2)) else none := by rw [zc1.eq_def]; rfl
theorem zqI {c : UInt8} (r : Str) (h1 : (c == 34) = false) (h2 : (c == 92) = false) : zc1 (c :: r) = if zfG c then (zc1 r).map (fun p => (c :: p.1,p.2 + 1)) else none := by
 rw [zc1.eq_def]; simp only [h1,h2,Bool.false_eq_true,if_false]
theorem zqJ {P : Str → Prop} (h0 : P []) (h1 : ∀ r,P (34 :: r)) (h2 : P [92]) (h3 : ∀ d t,P t → P (92 :: d :: t)) (h4 : ∀ c r,(c == 34) = false → (c == 92) = false → P r → P (c :: r)) : ∀ (n : Nat) (s : Str),s.length < n → P s
  | 0,s,h => by omega
  | n + 1,[],_ => h0
  | n + 1,c :: r,h => by
    simp only [ylc] at h
    cases h34 : c == 34 with
    | true => have : c = 34 := by simpa using h34
              subst this; exact h1 r
    | false =>
      cases h92 : c == 92 with
      | true =>
        have : c = 92 := by simpa using h92
        subst this
        cases r with
        | nil => exact h2
        | cons d t => simp only [ylc] at h; exact h3 d t (zqJ h0 h1 h2 h3 h4 n t (by omega))
      | false => exact h4 c r h34 h92 (zqJ h0 h1 h2 h3 h4 n r (by omega))
theorem zsk (s : Str) : ∀ p,zc1 s = some p → 1 ≤ p.2 ∧ p.2 ≤ s.length ∧ p.1.length + 1 ≤ p.2 := by
 refine zqJ (P := fun s => ∀ p,zc1 s = some p → 1 ≤ p.2 ∧ p.2 ≤ s.length ∧ p.1.length + 1 ≤ p.2) ?_ ?_ ?_ ?_ ?_ (s.length + 1) s (by omega)
 ·intro p h; cases h
 ·intro r p h; rw [zqG] at h; cases h; simp
 ·intro p h; rw [zpi] at h; cases h
 ·intro d t ih p h;rw [zqH] at h
  split at h
  ·obtain ⟨q,hq,rfl⟩ := Option.map_eq_some_iff.1 h;have := ih q hq;simp only [ylc]; omega
  ·cases h
 ·intro c r h1 h2 ih p h;rw [zqI r h1 h2] at h
  split at h
  ·obtain ⟨q,hq,rfl⟩ := Option.map_eq_some_iff.1 h;have := ih q hq;simp only [ylc]; omega
  ·cases h
def zgj : Nat → Str → Option Nat
 | 0,_ => some 0
 | _ + 1,[] => none
 | d + 1,c :: r => if c == 40 then (zgj (d + 2) r).map (· + 1) else if c == 41 then (zgj d r).map (· + 1) else if c == 92 then (match r with
   | [] => none
   | _ :: t => (zgj (d + 1) t).map (· + 2)) else (zgj (d + 1) r).map (· + 1)
theorem zqK (s : Str) : zgj 0 s = some 0 := by cases s <;> rfl
theorem zor (d : Nat) (r : Str) : zgj (d + 1) (40 :: r) = (zgj (d + 2) r).map (· + 1) := by rw [zgj.eq_def]; rfl
theorem zmj (d : Nat) (r : Str) : zgj (d + 1) (41 :: r) = (zgj d r).map (· + 1) := by rw [zgj.eq_def]; rfl
theorem zqL (d : Nat) : zgj (d + 1) [92] = none := by rw [zgj.eq_def]; rfl
theorem zpO (d : Nat) (c : UInt8) (t : Str) : zgj (d + 1) (92 :: c :: t) = (zgj (d + 1) t).map (· + 2) := by rw [zgj.eq_def]; rfl
theorem zpP (d : Nat) {c : UInt8} (r : Str) (h1 : (c == 40) = false) (h2 : (c == 41) = false) (h3 : (c == 92) = false) : zgj (d + 1) (c :: r) = (zgj (d + 1) r).map (· + 1) := by
 rw [zgj.eq_def]; simp only [h1,h2,h3,Bool.false_eq_true,if_false]
theorem zwg {P : Str → Prop} (h0 : P []) (h1 : ∀ r,P r → P (40 :: r)) (h2 : ∀ r,P r → P (41 :: r)) (h3 : P [92]) (h4 : ∀ d t,P t → P (92 :: d :: t)) (h5 : ∀ c r,(c == 40) = false → (c == 41) = false → (c == 92) = false → P r → P (c :: r)) : ∀ (n : Nat) (s : Str),s.length < n → P s
  | 0,s,h => by omega
  | n + 1,[],_ => h0
  | n + 1,c :: r,h => by
    simp only [ylc] at h;have ih := fun t ht => zwg h0 h1 h2 h3 h4 h5 n t ht
    cases c40 : c == 40 with
    | true => have : c = 40 := by simpa using c40
              subst this; exact h1 r (ih r (by omega))
    | false =>
      cases c41 : c == 41 with
      | true => have : c = 41 := by simpa using c41
                subst this; exact h2 r (ih r (by omega))
      | false =>
        cases c92 : c == 92 with
        | true =>
          have : c = 92 := by simpa using c92
          subst this
          cases r with
          | nil => exact h3
          | cons d t => simp only [ylc] at h; exact h4 d t (ih t (by omega))
        | false => exact h5 c r c40 c41 c92 (ih r (by omega))
theorem zCW (s : Str) : ∀ d n,zgj d s = some n → n ≤ s.length := by
 refine zwg (P := fun s => ∀ d n,zgj d s = some n → n ≤ s.length) ?_ ?_ ?_ ?_ ?_ ?_ (s.length + 1) s (by omega)
 ·intro d n h; cases d with
  | zero => cases h; simp
  | succ d => cases h
 ·intro r ih d n h; cases d with
  | zero => cases h; simp
  | succ d => rw [zor] at h; obtain ⟨m,hm,rfl⟩ := Option.map_eq_some_iff.1 h; have := ih _ _ hm; simp only [ylc]; omega
 ·intro r ih d n h; cases d with
  | zero => cases h; simp
  | succ d => rw [zmj] at h; obtain ⟨m,hm,rfl⟩ := Option.map_eq_some_iff.1 h; have := ih _ _ hm; simp only [ylc]; omega
 ·intro d n h; cases d with
  | zero => cases h; simp
  | succ d => rw [zqL] at h; cases h
 ·intro c t ih d n h; cases d with
  | zero => cases h; simp
  | succ d => rw [zpO] at h; obtain ⟨m,hm,rfl⟩ := Option.map_eq_some_iff.1 h; have := ih _ _ hm; simp only [ylc]; omega
 ·intro c r h1 h2 h3 ih d n h; cases d with
  | zero => cases h; simp
  | succ d => rw [zpP d r h1 h2 h3] at h; obtain ⟨m,hm,rfl⟩ := Option.map_eq_some_iff.1 h; have := ih _ _ hm; simp only [ylc]; omega
def zeO (c : UInt8) (r : Str) : Nat := if c == 34 then (match zc1 r with | some p => p.2 + 1 | none => 0) else (match zgj 1 r with | some n => n + 1 | none => 0)
theorem zwh (c : UInt8) (r : Str) : zeO c r ≤ r.length + 1 := by
 unfold zeO
 split
 ·cases h : zc1 r with
  | none => simp
  | some p => have := zsk r p h; dsimp only; omega
 ·cases h : zgj 1 r with
  | none => simp
  | some n => have := zCW r 1 n h; dsimp only; omega
def zij : Nat → Str → Str → Option (List Str)
 | _,cur,[] => some [cur]
 | k + 1,cur,c :: r => zij k (cur ++ [c]) r
 | 0,cur,c :: r => if c == 34 || c == 40 then (if zeO c r = 0 then none else zij (zeO c r - 1) (cur ++ [c]) r) else if c == 44 then (zij 0 [] r).map (cur :: ·) else zij 0 (cur ++ [c]) r
theorem zsl (k : Nat) (cur : Str) : zij k cur [] = some [cur] := by cases k <;> rfl
theorem zzb (k : Nat) (cur : Str) (c : UInt8) (r : Str) : zij (k + 1) cur (c :: r) = zij k (cur ++ [c]) r := rfl
theorem zvi (cur : Str) {c : UInt8} (r : Str) (h : (c == 34 || c == 40) = true) : zij 0 cur (c :: r) = if zeO c r = 0 then none else zij (zeO c r - 1) (cur ++ [c]) r := by
 rw [zij,if_pos h]
theorem zpj (cur r : Str) : zij 0 cur (44 :: r) = (zij 0 [] r).map (cur :: ·) := by rw [zij]; rfl
theorem zsm (cur : Str) {c : UInt8} (r : Str) (h : (c == 34 || c == 40) = false) (h2 : (c == 44) = false) : zij 0 cur (c :: r) = zij 0 (cur ++ [c]) r := by
 rw [zij,if_neg (by rw [h]; decide),if_neg (by rw [h2]; decide)]
theorem zqM : ∀ (k : Nat) (cur s : Str),k ≤ s.length → zij k cur s = zij 0 (cur ++ s.take k) (s.drop k)
 | 0,cur,s,_ => by simp
 | k + 1,cur,[],h => by simp at h
 | k + 1,cur,c :: r,h => by
  rw [zzb,zqM k _ r (by simpa using h)];simp
theorem zvj {a b : Str} (hb : b.all za5 = true) : zca (a ++ b) = zca a := by
 have : zi0 (a ++ b) = zi0 a := by
  rw [← List.reverse_reverse b] at *
  generalize b.reverse = r at *
  induction r with
  | nil => simp
  | cons x r ih =>
   rw [List.reverse_cons,List.all_append] at hb;simp only [Bool.and_eq_true,List.all_cons,List.all_nil,Bool.and_true] at hb;rw [List.reverse_cons, ← yaa,zkJ,hb.2,if_pos rfl];exact ih hb.1
 unfold zca; rw [this]
def elems (l : List Str) : List Str := (l.map zca).filter (fun x => !(x == []))
def zik (s : Str) : Option (List Str) := (zij 0 [] s).map elems
theorem zzc (a b : List Str) : elems (a ++ b) = elems a ++ elems b := by simp [elems]
end Go.Dm
end
section
namespace Go.Dm
section
variable {s r : Str} {k : Nat}
theorem zmQ (s : Str) (k : Nat) : (⟨s,(k : Int)⟩ : scan_Scanner) = scn s k := rfl
theorem zxu (b : UInt8) (r : Str) : (zaa b r).length ≤ r.length := by unfold zaa; split <;> simp
def zrS (r : Str) : Option (UInt8 × Str) := match zaa 92 r with
 | [] => none
 | c :: t => if zfG c then some (c,t) else none
theorem zAc {c : UInt8} {t : Str} (h : zrS r = some (c,t)) : t.length < r.length := by
 unfold zrS at h;have := zxu 92 r
 cases hb : zaa 92 r with
 | nil => rw [hb] at h; cases h
 | cons d u =>
  rw [hb] at h this;simp only at h
  split at h
  ·cases h; simp only [ylc] at this; omega
  ·cases h
theorem zDY (hs : s.length < 1000000000) (out : Str) (ho : out.length < 1000000000) (h : At s k r) :
  (∀ c t,zrS r = some (c,t) → ∃ k',At s k' t ∧ k ≤ k' ∧ zcr ⟨scn s k,out⟩ = some (true,⟨scn s k',out ++ [c]⟩)) ∧
  (zrS r = none → ∃ k',k' ≤ s.length ∧ k ≤ k' ∧ zcr ⟨scn s k,out⟩ = some (false,⟨scn s k',out⟩)) := by
 unfold zcr zrS;obtain ⟨k1,h1,e1⟩ := zfD hs 92 h
 have hk : k ≤ k1 := by have := h.len; have := h1.len; have := zxu 92 r; omega
 show (∀ c t,_ → ∃ k',_ ∧ _ ∧ (zj (scn s k) 92).bind _ = _) ∧ (_ → ∃ k',_ ∧ _ ∧ (zj (scn s k) 92).bind _ = _);rw [e1];simp only [yob];rw [zqt h1]
 cases hb : zaa 92 r with
 | nil =>
  rw [hb] at h1;refine ⟨fun c t h => (by cases h),fun _ => ⟨k1,h1.le,hk,rfl⟩⟩
 | cons d u =>
  rw [hb] at h1;simp only [zy6,yob,ynt,Bool.false_eq_true,if_false,zjd];unfold zck;obtain ⟨k2,h2,e2⟩ := zfD hs d h1
  rw [zam,zaS] at *
  cases hv : zfG d with
  | false => exact ⟨fun c t h => by simp at h,fun _ => ⟨k1,h1.le,hk,by simp⟩⟩
  | true =>
   refine ⟨fun c t h => ?_,fun h => by simp at h⟩;simp at h;obtain ⟨rfl,rfl⟩ := h;refine ⟨k2,h2,by have := h1.len; have := h2.len; simp only [ylc] at *; omega,?_⟩;rw [if_neg (by decide),if_pos (zbb (n := out.length) (m := 1) (by omega) (by omega)),e2];simp
theorem zyt (r : Str) : zc1 r = if zev 34 r then some ([],1) else match zrS r with
    | none => none
    | some (c,t) => (zc1 t).map (fun p => (c :: p.1,p.2 + (r.length - t.length))) := by
  cases r with
  | nil => rfl
  | cons c r =>
    rw [zaS]
    cases h34 : c == 34 with
    | true => have : c = 34 := by simpa using h34
              subst this; rw [zqG]; rfl
    | false =>
      rw [if_neg (by decide)];unfold zrS
      cases h92 : c == 92 with
      | true =>
        have : c = 92 := by simpa using h92
        subst this;rw [zam]
        cases r with
        | nil => exact zpi
        | cons d t =>
          rw [zqH];dsimp only
          cases zfG d with
          | false => rfl
          | true =>
            rw [if_pos rfl,if_pos rfl];dsimp only
            congr 1
            funext p
            congr 2
            simp only [ylc]; omega
      | false =>
        rw [zk8 (by rw [zaS]; exact h92),zqI r h34 h92];dsimp only
        cases zfG c with
        | false => rfl
        | true =>
          rw [if_pos rfl,if_pos rfl];dsimp only
          congr 1
          funext p
          congr 2
          simp only [ylc]; omega
theorem zwa {s : Str} {k k0 : Nat} (h : k0 ≤ k) : zek (scn s k) (k0 : Int) = some (true,scn s k0) := by
 unfold zek;rw [ydf (show ¬ ((k0 : Int) < 0) by omega),if_neg (by decide),zmm,yob];unfold zcM;rw [ydf (show ¬ ((k : Int) < (k0 : Int)) by omega),if_neg (by decide)];rfl
theorem znd (k0 n : Nat) (hk : k0 ≤ k) (out : Str) : zbp (k0 : Int) (n + 1) s (k : Int) out false = some ([],false,scn s k0) := by
 rw [zbp,if_neg (by decide)];unfold zeY zgv;rw [if_neg (by decide),ynf,if_pos rfl,zmQ,zwa hk,yob]
theorem zqv (hs : s.length < 1000000000) (k0 : Nat) : ∀ (n : Nat) (r : Str) (k : Nat) (out : Str),r.length + 1 < n → At s k r → k0 ≤ k → out.length ≤ k →
  zbp (k0 : Int) n s (k : Int) out true = some (match zc1 r with | some p => (out ++ p.1,true,scn s (k + p.2)) | none => ([],false,scn s k0))
 | 0,_,_,_,h,_,_,_ => by omega
 | n + 1,r,k,out,hn,h,hk,ho => by
  rw [zbp,if_pos rfl,zmQ];obtain ⟨k1,h1,e1⟩ := zfD hs 34 h;have hkl := h.le;rw [e1,yob];unfold zeY;rw [zyt]
  cases hb : zev 34 r with
  | true =>
   rw [ynt,if_neg (by decide),if_pos rfl];have hr := zeI hb
   have hk1 : k1 = k + 1 := by
    have := h.len; have := h1.len;have := congrArg List.length hr;simp only [ylc] at this; omega
   subst hk1;unfold zgv;rw [ynt,if_neg (by decide)];simp [scn]
  | false =>
   rw [zk8 hb] at h1
   have hk1 : k1 = k := by have := h.len; have := h1.len; omega
   subst hk1;rw [ynf,if_pos rfl,if_neg (by decide)];dsimp only [scn];rw [zmQ];have hx := zDY hs out (by omega) h
   cases hq : zrS r with
   | none =>
    obtain ⟨k2,g1,g2,e2⟩ := hx.2 hq;rw [e2,yob];obtain ⟨m,rfl⟩ : ∃ m,n = m + 1 := ⟨n - 1,by omega⟩;exact znd k0 m (by omega) out
   | some ct =>
    obtain ⟨c,t⟩ := ct;obtain ⟨k2,g1,g2,e2⟩ := hx.1 c t hq;have hl := zAc hq;have l1 := h.len;have l2 := g1.len;rw [e2,yob];have ih := zqv hs k0 n t k2 (out ++ [c]) (by omega) g1 (by omega) (by simp; omega);dsimp only [scn];rw [ih]
    cases zc1 t with
    | none => rfl
    | some p =>
     simp only [Option.map_some,yaa,List.singleton_append]
     have : k2 + p.2 = k1 + (p.2 + (r.length - t.length)) := by omega
     exact congrArg (fun k => some (out ++ c :: p.1,true,scn s k)) this
def zog (r : Str) : Option (Str × Nat) := if zev 34 r then (zc1 (zaa 34 r)).map (fun p => (p.1,p.2 + 1)) else none
theorem zk9 (hs : s.length < 1000000000) (h : At s k r) : zh7 (scn s k) = some (match zog r with | some p => (p.1,true,scn s (k + p.2)) | none => ([],false,scn s k)) := by
 unfold zh7 zog;rw [zmm,yob];obtain ⟨k1,h1,e1⟩ := zfD hs 34 h;rw [e1,yob];have l0 := h.len;have l1 := h1.len
 cases hb : zev 34 r with
 | false =>
  rw [zk8 hb] at h1
  have hk1 : k1 = k := by have := h1.len; omega
  subst hk1;exact znd k1 999999999999999999 (Nat.le_refl _) []
 | true =>
  have hr := congrArg List.length (zeI hb);simp only [ylc] at hr
  have hk1 : k1 = k + 1 := by omega
  subst hk1;have := zqv hs k fuel (zaa 34 r) (k + 1) [] (by unfold fuel; omega) h1 (by omega) (by simp);dsimp only [scn] at this ⊢;rw [this,if_pos rfl]
  cases zc1 (zaa 34 r) with
  | none => rfl
  | some p => simp only [Option.map_some,yna]; rw [show k + 1 + p.2 = k + (p.2 + 1) by omega]
theorem zeJ (hs : s.length < 1000000000) (p : commas_splitter) : ∀ (n : Nat) (r : Str) (k d : Nat),r.length + 1 < n → At s k r → d ≤ k + 1 →
  ∃ k',(∀ m,zgj d r = some m → k' = k + m) ∧ k' ≤ s.length ∧ zr p n s (k : Int) (d : Int) = some ((zgj d r).isSome,⟨scn s k',p.f_out,p.f_from,p.f_s⟩)
 | 0,_,_,_,h,_,_ => by omega
 | n + 1,r,k,0,hn,h,hd => by
  refine ⟨k,fun m hm => (by rw [zqK] at hm; cases hm; rfl),h.le,?_⟩;rw [zr,zqK];rfl
 | n + 1,r,k,d + 1,hn,h,hd => by
  have hl := h.len;rw [zr,ydt (show (0 : Int) < ((d + 1 : Nat) : Int) by omega),if_pos rfl,zmQ,zqt h,yob]
  cases r with
  | nil => exact ⟨k,fun m hm => (by cases hm),h.le,rfl⟩
  | cons c t =>
   simp only [ylc] at hn hl;obtain ⟨k1,h1,e1⟩ := zfD hs c h;rw [zam] at h1
   have hk1 : k1 = k + 1 := by have := h1.len; omega
   subst hk1;have i1 : zq ((d + 1 : Nat) : Int) 1 = some ((d + 2 : Nat) : Int) := zf (by omega)
   have i2 : zbc ((d + 1 : Nat) : Int) 1 = some (d : Int) := by rw [z8 (by omega) (by omega)]; simp
   rw [show (zy6 (c :: t)) = (c,true) from rfl];dsimp only;rw [ynt,if_neg (by decide),e1,yob,i1,yob,i2,yob];dsimp only [scn];rw [zmQ,zqt h1,yob]
   cases c40 : c == 40 with
   | true =>
    have : c = 40 := by simpa using c40
    subst this;obtain ⟨k',g1,g2,g3⟩ := zeJ hs p n t (k + 1) (d + 2) (by omega) h1 (by omega);refine ⟨k',fun m hm => ?_,g2,?_⟩
    ·rw [zor] at hm; obtain ⟨m',hm',rfl⟩ := Option.map_eq_some_iff.1 hm; rw [g1 m' hm']; omega
    ·rw [if_pos rfl,g3,zor]; simp [scn]
   | false =>
    rw [if_neg (by decide)]
    cases c41 : c == 41 with
    | true =>
     have : c = 41 := by simpa using c41
     subst this;obtain ⟨k',g1,g2,g3⟩ := zeJ hs p n t (k + 1) d (by omega) h1 (by omega);refine ⟨k',fun m hm => ?_,g2,?_⟩
     ·rw [zmj] at hm; obtain ⟨m',hm',rfl⟩ := Option.map_eq_some_iff.1 hm; rw [g1 m' hm']; omega
     ·rw [if_pos rfl,g3,zmj]; simp [scn]
    | false =>
     rw [if_neg (by decide)]
     cases c92 : c == 92 with
     | true =>
      have : c = 92 := by simpa using c92
      subst this;rw [if_pos rfl]
      cases t with
      | nil =>
       obtain ⟨k',g1,g2,g3⟩ := zeJ hs p n [] (k + 1) (d + 1) (by simp; omega) h1 (by omega);exact ⟨k',fun m hm => (by rw [zqL] at hm; cases hm),g2,by rw [if_neg (by decide),g3]; rfl⟩
      | cons x u =>
       simp only [ylc] at hn hl;obtain ⟨k2,h2,e2⟩ := zfD hs x h1;rw [zam] at h2
       have hk2 : k2 = k + 2 := by have := h2.len; omega
       subst hk2;obtain ⟨k',g1,g2,g3⟩ := zeJ hs p n u (k + 2) (d + 1) (by omega) h2 (by omega);dsimp only [scn] at e2 g3 ⊢;refine ⟨k',fun m hm => ?_,g2,?_⟩
       ·rw [zpO] at hm; obtain ⟨m',hm',rfl⟩ := Option.map_eq_some_iff.1 hm; rw [g1 m' hm']; omega
       ·rw [show (zy6 (x :: u)) = (x,true) from rfl];dsimp only;rw [if_pos rfl,e2,yob,g3,zpO]; simp
     | false =>
      obtain ⟨k',g1,g2,g3⟩ := zeJ hs p n t (k + 1) (d + 1) (by omega) h1 (by omega);refine ⟨k',fun m hm => ?_,g2,?_⟩
      ·rw [zpP d t c40 c41 c92] at hm; obtain ⟨m',hm',rfl⟩ := Option.map_eq_some_iff.1 hm; rw [g1 m' hm']; omega
      ·rw [if_neg (by decide),g3,zpP d t c40 c41 c92]; simp [scn]
def mid (s : Str) (a b : Nat) : Str := (s.take b).drop a
theorem zqw {a n : Nat} (h : At s k r) (ha : a ≤ k) (hn : n ≤ r.length) : mid s a (k + n) = mid s a k ++ r.take n := by
 unfold mid;have hl := h.len;rw [List.take_add,h.drop,List.drop_append_of_le_length (by simp; omega)]
theorem zqx (s : Str) (a : Nat) : mid s a a = [] := by unfold mid; simp
theorem zy7 (s : Str) (a b : Nat) : (mid s a b).length ≤ s.length := by unfold mid; simp; omega
def zrT (out : List Str) (x : Str) : List Str := if zca x == [] then out else out ++ [zca x]
theorem zxv (out : List Str) (x : Str) : zrT out x = out ++ elems [x] := by
 unfold zrT elems;rw [List.map_cons,List.map_nil,List.filter_cons]
 cases h : zca x == [] with
 | true => rw [if_pos rfl,ynt,if_neg (by decide),List.filter_nil,yan]
 | false => rw [if_neg (by decide),ynf,if_pos rfl,List.filter_nil]
theorem zAd (out : List Str) (x : Str) : (zrT out x).length ≤ out.length + 1 := by unfold zrT; split <;> simp
theorem zCO (hs : s.length < 1000000000) (out : List Str) (ho : out.length < 4000000000) (a b pos : Nat) (ha : a ≤ b) (hb : b ≤ s.length) : zb6 ⟨scn s pos,out,(a : Int),s⟩ (b : Int) = some ⟨scn s pos,zrT out (mid s a b),(pos : Int),s⟩ := by
 unfold zb6;have hl := zy7 s a b;rw [zbx ha hb,yob];show (zfq (mid s a b) [32,9]).bind _ = _;rw [zm6 _ (by omega),yob];unfold zbW zrT;show (if (!(zca (mid s a b) == [])) = true then _ else _) = _
 cases zca (mid s a b) == [] with
 | true => rfl
 | false => rw [ynf,if_pos rfl,if_pos (zbb (n := out.length) (m := 1) (by omega) (by omega))]; rfl
theorem zrU (t : Str) : zeO 34 t = match zc1 t with | some p => p.2 + 1 | none => 0 := rfl
theorem ztL (t : Str) : zeO 40 t = match zgj 1 t with | some n => n + 1 | none => 0 := rfl
theorem zDZ (hs : s.length < 1000000000) (out : List Str) (ho : out.length ≤ k) (a : Nat) (ha : a ≤ k) (c : UInt8) (t : Str) (h : At s k (c :: t)) :
    (c = 44 → zaz ⟨scn s k,out,(a : Int),s⟩ = some (true,⟨scn s (k + 1),zrT out (mid s a k),((k + 1 : Nat) : Int),s⟩)) ∧
    ((c == 34 || c == 40) = true → zeO c t ≠ 0 → zaz ⟨scn s k,out,(a : Int),s⟩ = some (true,⟨scn s (k + zeO c t),out,(a : Int),s⟩)) ∧
    ((c == 34 || c == 40) = true → zeO c t = 0 → ∃ p,zaz ⟨scn s k,out,(a : Int),s⟩ = some (false,p)) ∧
    ((c == 34 || c == 40) = false → (c == 44) = false → zaz ⟨scn s k,out,(a : Int),s⟩ = some (true,⟨scn s (k + 1),out,(a : Int),s⟩)) := by
  have hl := h.len;simp only [ylc] at hl;have e44 := ziq 44 h.le hs h.drop;have e40 := ziq 40 h.le hs h.drop;have ec := ziq c h.le hs h.drop;rw [ybs,if_pos rfl] at ec;unfold zaz;rw [show (⟨scn s k,out,(a : Int),s⟩ : commas_splitter).Scanner = scn s k from rfl,zmm,yob]
  have hno : (c == 34 || c == 40) = true → (c == 44) = false := fun hc => by
    cases h4 : c == 44 with
    | false => rfl
    | true => have : c = 44 := by simpa using h4
              subst this; exact absurd hc (by decide)
  have n44 : (c == 44) = false → zj (scn s k) 44 = some (false,scn s k) := fun h => by rw [e44,h]; rfl
  have n40 : (c == 40) = false → zj (scn s k) 40 = some (false,scn s k) := fun h => by rw [e40,h]; rfl
  have y40 : c = 40 → zj (scn s k) 40 = some (true,scn s (k + 1)) := fun h => by rw [e40,h]; rfl
  have pk : zE (scn s k) = some (c,true) := zqt h;refine ⟨fun hc => ?_,fun hc hp => ?_,fun hc hp => ?_,fun hc h44 => ?_⟩
  · subst hc
    have y44 : zj (scn s k) 44 = some (true,scn s (k + 1)) := e44;rw [y44,yob];dsimp only;rw [if_pos rfl,zCO hs out (by omega) a k (k + 1) ha h.le,yob];rfl
  · rw [n44 (hno hc),yob]
    dsimp only;rw [if_neg (by decide)]
    cases h40 : c == 40 with
    | true =>
      have : c = 40 := by simpa using h40
      subst this;have h1 := h.next 1 (by simp);obtain ⟨k',g1,_,g3⟩ := zeJ hs ⟨scn s (k + 1),out,(a : Int),s⟩ fuel t (k + 1) 1 (by unfold fuel; omega) h1 (by omega);rw [ztL] at hp ⊢;rw [y40 rfl,yob];dsimp only;rw [if_pos rfl];unfold zbK
      cases hm : zgj 1 t with
      | none => rw [hm] at hp; exact absurd rfl hp
      | some m =>
        rw [hm] at g3;have hk' := g1 m hm;subst hk';have g3 : zr ⟨scn s (k + 1),out,(a : Int),s⟩ fuel (scn s (k + 1)).f_s (scn s (k + 1)).f_at 1 = some (true,⟨scn s (k + 1 + m),out,(a : Int),s⟩) := g3;dsimp only;rw [g3,yob,show k + 1 + m = k + (m + 1) by omega]
    | false =>
      have h34 : c = 34 := by rw [h40,Bool.or_false] at hc; simpa using hc
      subst h34;rw [zrU] at hp ⊢;rw [n40 h40,yob];dsimp only;rw [if_neg (by decide),pk,yob];dsimp only;rw [if_pos (by decide),zk9 hs h,yob];unfold zog;rw [zaS,zam]
      cases hq : zc1 t with
      | none => rw [hq] at hp; exact absurd rfl hp
      | some p => rfl
  · rw [n44 (hno hc),yob]
    dsimp only;rw [if_neg (by decide)]
    cases h40 : c == 40 with
    | true =>
      have : c = 40 := by simpa using h40
      subst this;have h1 := h.next 1 (by simp);obtain ⟨k',g1,_,g3⟩ := zeJ hs ⟨scn s (k + 1),out,(a : Int),s⟩ fuel t (k + 1) 1 (by unfold fuel; omega) h1 (by omega);rw [ztL] at hp;rw [y40 rfl,yob];dsimp only;rw [if_pos rfl];unfold zbK
      cases hm : zgj 1 t with
      | some m => rw [hm] at hp; exact absurd hp (by simp)
      | none =>
        rw [hm] at g3;have g3 : zr ⟨scn s (k + 1),out,(a : Int),s⟩ fuel (scn s (k + 1)).f_s (scn s (k + 1)).f_at 1 = some (false,⟨scn s k',out,(a : Int),s⟩) := g3;dsimp only;exact ⟨_,by rw [g3,yob]⟩
    | false =>
      have h34 : c = 34 := by rw [h40,Bool.or_false] at hc; simpa using hc
      subst h34;rw [zrU] at hp;rw [n40 h40,yob];dsimp only;rw [if_neg (by decide),pk,yob];dsimp only;rw [if_pos (by decide),zk9 hs h,yob];unfold zog;rw [zaS,zam]
      cases hq : zc1 t with
      | some p => rw [hq] at hp; exact absurd hp (by simp)
      | none => exact ⟨_,rfl⟩
  · simp only [Bool.or_eq_false_iff] at hc
    rw [n44 h44,yob];dsimp only;rw [if_neg (by decide),n40 hc.2,yob];dsimp only;rw [if_neg (by decide),pk,yob];dsimp only;rw [hc.1,if_neg (by decide),ec,yob];rfl
def zoh (s : Str) : List Str × Int := match zik s with
 | some l => (l,0)
 | none => ([],2)
theorem zlv (hs : s.length < 1000000000) : ∀ (n : Nat) (r : Str) (k a : Nat) (out : List Str),r.length < n → At s k r → a ≤ k → out.length ≤ k →
  zdd s n out (a : Int) s s (k : Int) = some (match zij 0 (mid s a k) r with | some l => (out ++ elems l,0) | none => ([],2))
 | 0,_,_,_,_,h,_,_,_ => by omega
 | n + 1,r,k,a,out,hn,h,ha,ho => by
  have hl := h.len;rw [zdd,zmQ,zv9 h,yob]
  cases r with
  | nil =>
   have hk : k = s.length := by simpa using hl
   subst hk;unfold zhQ;rw [zmQ,zCO hs out (by omega) a s.length s.length ha (Nat.le_refl _),yob,zsl];dsimp only;rw [zxv];rfl
  | cons c t =>
   simp only [ylc] at hn hl;obtain ⟨s1,s2,s3,s4⟩ := zDZ hs out ho a ha c t h;have hne : (!((c :: t : Str) == [])) = true := rfl;have m1 := zqw (a := a) (n := 1) h ha (by simp);rw [hne,if_pos rfl]
   cases hc : (c == 34 || c == 40) with
   | true =>
    rw [zvi _ t hc]
    by_cases hp : zeO c t = 0
    ·obtain ⟨p,e⟩ := s3 hc hp;rw [if_pos hp,e,yob];rfl
    ·have hple := zwh c t;rw [if_neg hp,s2 hc hp,yob];have hat := h.next (zeO c t) (by simp; omega);have ih := zlv hs n _ (k + zeO c t) a out (by simp; omega) hat (by omega) (by omega);rw [zqw h ha (by simp; omega)] at ih;obtain ⟨q,hq⟩ : ∃ q,zeO c t = q + 1 := ⟨zeO c t - 1,by omega⟩;rw [hq] at ih hple ⊢;rw [Nat.add_sub_cancel,zqM q _ t (by omega)];dsimp only [scn];rw [ynt,if_neg (by decide),ih];simp
   | false =>
    cases h44 : c == 44 with
    | true =>
     have : c = 44 := by simpa using h44
     subst this;rw [s1 rfl,yob,zpj];have hat := h.next 1 (by simp);have hpl := zAd out (mid s a k);have ih := zlv hs n t (k + 1) (k + 1) (zrT out (mid s a k)) (by omega) hat (Nat.le_refl _) (by omega);rw [zqx] at ih;dsimp only [scn];rw [ynt,if_neg (by decide),ih]
     cases zij 0 [] t with
     | none => rfl
     | some l =>
      simp only [Option.map_some];rw [zxv,show mid s a k :: l = [mid s a k] ++ l from rfl,zzc,yaa]
    | false =>
     rw [s4 hc h44,yob,zsm _ t hc h44];have hat := h.next 1 (by simp);have ih := zlv hs n t (k + 1) a out (by omega) hat (by omega) (by omega);rw [m1] at ih;dsimp only [scn];rw [ynt,if_neg (by decide),ih];rfl
theorem zne (s : Str) (hs : s.length < 1000000000) : zhe s = some (zoh s) := by
 unfold zhe zoh zik;rw [zh0,yob];have := zlv hs fuel s 0 0 [] (by unfold fuel; omega) (At.zero s) (Nat.le_refl _) (by simp);rw [zqx] at this;show zdd s fuel [] ((0 : Nat) : Int) s s ((0 : Nat) : Int) = _;rw [this]
 cases zij 0 [] s with
 | none => rfl
 | some l => rfl
end
end Go.Dm
end
section
namespace Go.Dm
theorem zCH {s : Str} {i : Nat} {c : UInt8} (h : s[i]? = some c) : zd0 s (i : Int) ((i + 1 : Nat) : Int) = some [c] := by
 have hlt := (List.getElem?_eq_some_iff.1 h).1;rw [zbx (by omega) (by omega),List.drop_take,show i + 1 - i = 1 by omega,ydg hlt,List.take_succ_cons,List.take_zero,(List.getElem?_eq_some_iff.1 h).2]
theorem zrL (rec2 : Str → Int → Option (Str × Int)) (s out : Str) (i : Nat) (c : UInt8) (h : s[i]? = some c) (hs : s.length < 1000000000) (ho : out.length < 1000000000) (q : Bool) :
  zdQ rec2 s out (i : Int) q = if q then some ([],0) else rec2 (out ++ [c]) ((i + 1 : Nat) : Int) := by
 have hlt := (List.getElem?_eq_some_iff.1 h).1;unfold zdQ;rw [zf (by omega),yob,zCH h,yob,zhn (by simp; omega),yob,yob]
theorem znX (s : Str) (hs : s.length < 1000000000) : ∀ (n i : Nat) (out : Str),i ≤ s.length → s.length - i < n → out.length ≤ i →
  zbs s n out (i : Int) = some (match zc1 (s.drop i) with | some p => (out ++ p.1,((i + p.2 : Nat) : Int)) | none => ([],0))
 | 0,_,_,_,h,_ => by omega
 | n + 1,i,out,hi,h,ho => by
  rw [zbs]
  cases hd : s.drop i with
  | nil =>
   have : i = s.length := by have := congrArg List.length hd; simp at this; omega
   rw [ydf (by omega),if_neg (by decide)];rfl
  | cons c r =>
   obtain ⟨hlt,hr⟩ := zfn hd
   have hx : s[i]? = some c := by have := congrArg (·[0]?) hd; simpa using this
   have hrl : r.length = s.length - (i + 1) := by rw [← hr]; simp
   rw [ydt (show (i : Int) < (s.length : Int) by omega),if_pos rfl,zA,hx,yob,zf (by omega),yob,yob,yob]
   cases h34 : c == 34 with
   | true =>
    have : c = 34 := by simpa using h34
    subst this;rw [if_pos rfl,zqG]; simp
   | false =>
    rw [if_neg (by decide)];unfold zgY
    cases h92 : c == 92 with
    | true =>
     have : c = 92 := by simpa using h92
     subst this;rw [if_pos rfl]
     cases r with
     | nil =>
      simp only [yln] at hrl
      have : (((i + 1 : Nat) : Int) == (s.length : Int)) = true := by simp; omega
      rw [this,if_pos rfl,zpi];unfold zdQ;rw [if_pos rfl]
     | cons d t =>
      obtain ⟨hlt2,hr2⟩ := zfn hr
      have hx2 : s[i + 1]? = some d := by have := congrArg (·[0]?) hr; simpa using this
      have : (((i + 1 : Nat) : Int) == (s.length : Int)) = false := beq_eq_false_iff_ne.2 (by omega);have ih := znX s hs n (i + 2) (out ++ [d]) (by omega) (by omega) (by simp; omega);rw [show i + 2 = i + 1 + 1 from rfl,hr2] at ih;rw [this,if_neg (by decide),zA,hx2,yob,zix,yob,zrL _ _ _ _ d hx2 hs (by omega),zqH,ih]
      cases zfG d with
      | false => rfl
      | true =>
       rw [ynt,if_neg (by decide),if_pos rfl]
       cases zc1 t with
       | none => rfl
       | some p => simp only [Option.map_some,yaa,List.singleton_append]; rw [show i + 1 + 1 + p.2 = i + (p.2 + 2) by omega]
    | false =>
     have : ((i : Int) == (s.length : Int)) = false := beq_eq_false_iff_ne.2 (by omega);have ih := znX s hs n (i + 1) (out ++ [c]) (by omega) (by omega) (by simp; omega);rw [hr] at ih;rw [if_neg (by decide),this,if_neg (by decide),zA,hx,yob,zix,yob,zrL _ _ _ _ c hx hs (by omega),zqI r h34 h92,ih]
     cases zfG c with
     | false => rfl
     | true =>
      rw [ynt,if_neg (by decide),if_pos rfl]
      cases zc1 r with
      | none => rfl
      | some p => simp only [Option.map_some,yaa,List.singleton_append]; rw [show i + 1 + p.2 = i + (p.2 + 1) by omega]
theorem zrM (r : Str) (hs : r.length < 900000000) : zfi (34 :: r) = some (match zc1 r with | some p => (p.1,((p.2 + 1 : Nat) : Int)) | none => ([],0)) := by
 unfold zfi ze9;have h0 : (((34 :: r : Str).length : Int) == 0) = false := beq_eq_false_iff_ne.2 (by simp only [ylc]; omega);have := znX (34 :: r) (by simp; omega) fuel 1 [] (by simp) (by simp only [ylc]; unfold fuel; omega) (by simp);rw [h0,if_neg (by decide),zg7,List.getElem?_cons_zero,yob];show zbs (34 :: r) fuel [] ((1 : Nat) : Int) = _;rw [this];show some (match zc1 r with | some p => (([] : Str) ++ p.1,((1 + p.2 : Nat) : Int)) | none => ([],0)) = _
 cases zc1 r with
 | none => rfl
 | some p => simp only [yna,Nat.add_comm]
theorem zrN (s : Str) (hs : s.length < 900000000) : ∀ (n i d : Nat),i ≤ s.length + 1 → s.length + 1 - i < n → d ≤ i → zag s n ((d + 1 : Nat) : Int) (i : Int) = some (match zgj (d + 1) (s.drop i) with | some m => ((i + m : Nat) : Int) | none => 0)
 | 0,_,_,_,h,_ => by omega
 | n + 1,i,d,hi,h,hdi => by
  rw [zag]
  cases hd : s.drop i with
  | nil =>
   have : s.length ≤ i := by have := congrArg List.length hd; simp at this; omega
   rw [ydf (by omega),if_neg (by decide)];rfl
  | cons c r =>
   obtain ⟨hlt,hr⟩ := zfn hd
   have hx : s[i]? = some c := by have := congrArg (·[0]?) hd; simpa using this
   have j2 : ∀ (d' i' : Nat),i' < 4000000000 → zbt (zag s n) ((d' + 1 : Nat) : Int) (i' : Int) = zag s n ((d' + 1 : Nat) : Int) ((i' + 1 : Nat) : Int) := fun d' i' h' => by
    unfold zbt;have : (((d' + 1 : Nat) : Int) == 0) = false := beq_eq_false_iff_ne.2 (by omega);rw [this,if_neg (by decide),zf (by omega),yob]
   have i1 : zq ((d + 1 : Nat) : Int) 1 = some ((d + 1 + 1 : Nat) : Int) := zf (by omega)
   have i2 : zbc ((d + 1 : Nat) : Int) 1 = some (d : Int) := by rw [z8 (by omega) (by omega)]; simp
   rw [ydt (show (i : Int) < (s.length : Int) by omega),if_pos rfl,zA,hx,yob,i1,yob,i2,yob,zf (by omega),yob,j2 _ _ (by omega),j2 _ _ (by omega),j2 _ _ (by omega)];have ih := fun i' d' h1 h2 h3 => zrN s hs n i' d' h1 h2 h3
   cases c40 : c == 40 with
   | true =>
    have : c = 40 := by simpa using c40
    subst this;rw [if_pos rfl,ih (i + 1) (d + 1) (by omega) (by omega) (by omega),hr,zor]
    cases zgj (d + 2) r with
    | none => rfl
    | some m => simp only [Option.map_some]; rw [show i + 1 + m = i + (m + 1) by omega]
   | false =>
    rw [if_neg (by decide)]
    cases c41 : c == 41 with
    | true =>
     have : c = 41 := by simpa using c41
     subst this;rw [if_pos rfl,zmj]
     cases d with
     | zero =>
      rw [zqK];unfold zbt;rw [if_pos (by decide),zf (by omega)];rfl
     | succ d =>
      rw [j2 _ _ (by omega),ih (i + 1) d (by omega) (by omega) (by omega),hr]
      cases zgj (d + 1) r with
      | none => rfl
      | some m => simp only [Option.map_some]; rw [show i + 1 + m = i + (m + 1) by omega]
    | false =>
     rw [if_neg (by decide)]
     cases c92 : c == 92 with
     | true =>
      have : c = 92 := by simpa using c92
      subst this;rw [if_pos rfl,ih (i + 1 + 1) d (by omega) (by omega) (by omega)]
      cases r with
      | nil =>
       have : s.drop (i + 1 + 1) = [] := by rw [← List.drop_drop,hr]; rfl
       rw [this,zqL];rfl
      | cons x t =>
       have : s.drop (i + 1 + 1) = t := by rw [← List.drop_drop,hr]; rfl
       rw [this,zpO]
       cases zgj (d + 1) t with
       | none => rfl
       | some m => simp only [Option.map_some]; rw [show i + 1 + 1 + m = i + (m + 2) by omega]
     | false =>
      rw [if_neg (by decide),ih (i + 1) d (by omega) (by omega) (by omega),hr,zpP d r c40 c41 c92]
      cases zgj (d + 1) r with
      | none => rfl
      | some m => simp only [Option.map_some]; rw [show i + 1 + m = i + (m + 1) by omega]
theorem ztA (c : UInt8) (r : Str) (hs : r.length < 800000000) (hc : (c == 34 || c == 40) = true) : zjV (c :: r) = some (zeO c r : Int) := by
 unfold zjV zeO;rw [zg7,List.getElem?_cons_zero,yob]
 cases h34 : c == 34 with
 | true =>
  have : c = 34 := by simpa using h34
  subst this;rw [if_pos rfl,if_pos rfl,zrM r (by omega),yob];cases zc1 r <;> rfl
 | false =>
  have h40 : c = 40 := by rw [h34,Bool.false_or] at hc; simpa using hc
  subst h40;rw [if_neg (by decide),if_neg (by decide),show fuel = 999999999999999999 + 1 from rfl,zag];have h0 : decide ((0 : Int) < ((40 :: r : Str).length : Int)) = true := ydt (by simp only [ylc]; omega);rw [h0,if_pos rfl,zg7,List.getElem?_cons_zero,yob,if_pos (by decide),show zq 0 1 = some 1 from by decide,yob];unfold zbt;rw [if_neg (by decide),show zq 0 1 = some 1 from by decide,yob];have := zrN (40 :: r) (by simp; omega) 999999999999999999 1 0 (by simp) (by simp only [ylc]; omega) (by omega);show zag (40 :: r) 999999999999999999 ((0 + 1 : Nat) : Int) ((1 : Nat) : Int) = _;rw [this];show some (match zgj 1 r with | some m => ((1 + m : Nat) : Int) | none => 0) = _
  cases zgj 1 r with
  | none => rfl
  | some m => simp only [Nat.add_comm]
theorem zxk (l : List Str) (x : Str) (hl : l.length < 900000000) : zb1 l x fuel [] 0 = some ((l ++ [x]).filter (fun x => !(x == [])),0) := by
 have key : ∀ (n i : Nat) (out : List Str),i ≤ (l ++ [x]).length → (l ++ [x]).length - i < n → out.length ≤ i → zb1 l x n out (i : Int) = some (out ++ ((l ++ [x]).drop i).filter (fun x => !(x == [])),0) := by
  have hll : (l ++ [x]).length = l.length + 1 := by simp
  intro n
  induction n with
  | zero => intro i _ _ h; omega
  | succ n ih =>
   intro i out hi h ho;rw [zb1]
   by_cases hlt : i < (l ++ [x]).length
   ·have g : (l ++ [x])[i]? = some (l ++ [x])[i] := ygg hlt;unfold zg0;rw [ydt (show (i : Int) < ((l ++ [x]).length : Int) by omega),if_pos rfl,zaF,g,yob,yob,if_pos (zbb (by omega) (by omega)),zf (by omega),yob,yob,ih (i + 1) _ (by omega) (by omega) (by simp; omega),ih (i + 1) _ (by omega) (by omega) (by omega),ydg hlt,List.filter_cons];cases (l ++ [x])[i] == [] <;> simp
   ·have : i = (l ++ [x]).length := by omega
    subst this;rw [ydf (by omega),if_neg (by decide),ydl];simp
 have := key fuel 0 [] (yz _) (by simp; unfold fuel; omega) (by simp);rw [List.drop_zero,yna] at this;exact this
theorem zga (s : Str) (hs : s.length < 800000000) : ∀ (n k a : Nat) (out : List Str),k ≤ s.length → s.length - k < n → a ≤ k → out.length ≤ k →
  zaK s n out (a : Int) (k : Int) = some (match zij 0 (mid s a k) (s.drop k) with | some l => ((out ++ l.map zca).filter (fun x => !(x == [])),0) | none => ([],2))
 | 0,_,_,_,_,h,_,_ => by omega
 | n + 1,k,a,out,hk,hn,ha,ho => by
  have hat : At s k (s.drop k) := ⟨hk,rfl⟩;have hl := hat.len;rw [zaK]
  cases hd : s.drop k with
  | nil =>
   have : k = s.length := by have := congrArg List.length hd; simp at this; omega
   subst this
   have hm : mid s a s.length = s.drop a := by unfold mid; rw [List.take_length]
   have hdl : (s.drop a).length ≤ s.length := by simp
   rw [ydf (by omega),if_neg (by decide),zB ha,yob,zjw _ (by omega),yob,if_pos (zbb (by omega) (by omega)),zxk _ _ (by omega),zsl,hm];rfl
  | cons c t =>
   obtain ⟨hlt,hr⟩ := zfn hd
   have hx : s[k]? = some c := by have := congrArg (·[0]?) hd; simpa using this
   have htl : t.length = s.length - (k + 1) := by rw [← hr]; simp
   rw [hd] at hat
   have j2t : (c == 34 || c == 40) = true → zcU (zaK s n) s out (a : Int) (k : Int) true = some (match zij 0 (mid s a k) (c :: t) with | some l => ((out ++ l.map zca).filter (fun x => !(x == [])),0) | none => ([],2)) := fun hc => by
    unfold zcU;rw [if_pos rfl,zB hk,yob,hd,ztA c t (by omega) hc,yob,zvi _ t hc]
    by_cases hp : zeO c t = 0
    ·rw [hp,if_pos rfl]; rfl
    ·have hple := zwh c t;have h0 : ((zeO c t : Int) == 0) = false := beq_eq_false_iff_ne.2 (by omega)
     have hadd : zq (k : Int) (zeO c t : Int) = some ((k + zeO c t : Nat) : Int) := by rw [zan (by omega) (by omega)]; simp
     have ih := zga s hs n (k + zeO c t) a out (by omega) (by omega) (by omega) (by omega)
     have hdp : s.drop (k + zeO c t) = (c :: t).drop (zeO c t) := by rw [← List.drop_drop,hd]
     rw [zqw hat ha (by simp; omega),hdp] at ih;obtain ⟨q,hq⟩ : ∃ q,zeO c t = q + 1 := ⟨zeO c t - 1,by omega⟩;rw [h0,if_neg (by decide),if_neg hp,hadd,yob,ih,hq,Nat.add_sub_cancel,zqM q _ t (by omega)];simp
   have j2f : (c == 34 || c == 40) = false → zcU (zaK s n) s out (a : Int) (k : Int) false = some (match zij 0 (mid s a k) (c :: t) with | some l => ((out ++ l.map zca).filter (fun x => !(x == [])),0) | none => ([],2)) := fun hc => by
    unfold zcU zgZ;have hml := zy7 s a k;have hsub : zd0 s (a : Int) (k : Int) = some (mid s a k) := zbx ha hk;rw [if_neg (by decide),zA,hx,yob,hsub,yob,zjw _ (by omega),yob,if_pos (zbb (by omega) (by omega)),zf (by omega),yob,yob]
    cases h44 : c == 44 with
    | true =>
     have : c = 44 := by simpa using h44
     subst this;have ih := zga s hs n (k + 1) (k + 1) (out ++ [zca (mid s a k)]) (by omega) (by omega) (Nat.le_refl _) (by simp; omega);rw [zqx,hr] at ih;rw [if_pos rfl,ih,zpj]
     cases zij 0 [] t with
     | none => rfl
     | some l => simp
    | false =>
     have ih := zga s hs n (k + 1) a out (by omega) (by omega) (by omega) (by omega);have m1 := zqw (n := 1) hat ha (by simp);rw [m1,hr] at ih;rw [if_neg (by decide),yob,ih,zsm _ t hc h44];rfl
   rw [ydt (show (k : Int) < (s.length : Int) by omega),if_pos rfl,zA,hx,yob,yob]
   cases h34 : c == 34 with
   | true => rw [if_pos rfl]; exact j2t (by rw [h34]; rfl)
   | false =>
    rw [if_neg (by decide)]
    cases h40 : c == 40 with
    | true => exact j2t (by rw [h40,Bool.or_true])
    | false => exact j2f (by rw [h34,h40]; rfl)
theorem znY (s : Str) (hs : s.length < 800000000) : zig s = some (zoh s) := by
 unfold zig zoh zik;have := zga s hs fuel 0 0 [] (yz _) (by unfold fuel; omega) (Nat.le_refl _) (by simp);rw [zqx,List.drop_zero] at this;show zaK s fuel [] ((0 : Nat) : Int) ((0 : Nat) : Int) = _;rw [this]
 cases zij 0 [] s with
 | none => rfl
 | some l => rfl
end Go.Dm
end
section
namespace Go.Dm
def isN (nm : Str) (f : api_Field) : Bool := low f.Name == low nm
def zeH (m : Nat) (l : List api_Field) : Prop := ∀ f ∈ l,f.Name.length < m ∧ f.Value.length < m
theorem zxq (f : api_Field) (nm : Str) (hf : f.Name.length < 1000000000) (hn : nm.length < 1000000000) : zn4 f nm = some (isN nm f) := by
 unfold zn4 isN;rw [zjv _ hf,yob,zjv _ hn,yob]
theorem ztH (l : List api_Field) (h : l.length < 1000000000) : zK l = some l := by
 unfold zK;rw [if_pos (zbb (by omega) (by omega))]
theorem zj9 (l : List api_Field) (nm : Str) (hn : nm.length < 1000000000) (hl : l.length < 1000000000) (hs : zeH 1000000000 l) : zep l nm = some ((l.filter (isN nm)).map (·.Value)) := by
 unfold zep
 have key : ∀ (n i : Nat) (out : List Str),i ≤ l.length → l.length - i < n → out.length ≤ i → zcg l nm n out (i : Int) = some (out ++ ((l.drop i).filter (isN nm)).map (·.Value)) := by
  intro n
  induction n with
  | zero => intro i _ _ h; omega
  | succ n ih =>
   intro i out hi h ho;rw [zcg]
   by_cases hlt : i < l.length
   ·have g : l[i]? = some l[i] := ygg hlt;have hsm := hs l[i] (ygm _);rw [ydt (show (i : Int) < (l.length : Int) by omega),if_pos rfl,zaF,g,yob,zxq _ _ hsm.1 hn,yob,yob,if_pos (zbb (by omega) (by omega))];unfold zfP;rw [zf (by omega),yob,yob,ih (i + 1) _ (by omega) (by omega) (by simp; omega),ih (i + 1) _ (by omega) (by omega) (by omega),ydg hlt,List.filter_cons]
    cases isN nm l[i] with
    | true => simp
    | false => rfl
   ·have : i = l.length := by omega
    subst this;rw [ydf (by omega),if_neg (by decide),ydl];simp
 have := key fuel 0 [] (yz _) (by unfold fuel; omega) (by simp);rw [List.drop_zero,yna] at this;exact this
theorem zAa {α : Type} [BEq α] [LawfulBEq α] (a b : List α) (L : Nat → Int → Option Bool) (hl : a.length = b.length) (ha : a.length < 1000000000)
  (hE : ∀ n,L (n + 1) (a.length : Int) = some true) (hL : ∀ n (i : Nat) x y,i < a.length → a[i]? = some x → b[i]? = some y → L (n + 1) (i : Int) = if (x == y) = true then L n ((i + 1 : Nat) : Int) else some false) : L fuel 0 = some (a == b) := by
 have key : ∀ (n i : Nat),i ≤ a.length → a.length - i < n → L n (i : Int) = some (a.drop i == b.drop i) := by
  intro n
  induction n with
  | zero => intro i _ h; omega
  | succ n ih =>
   intro i hi h
   by_cases hlt : i < a.length
   ·have g1 : a[i]? = some a[i] := ygg hlt;have g2 : b[i]? = some (b[i]'(by omega)) := ygg (by omega);rw [hL n i _ _ hlt g1 g2,ih (i + 1) (by omega) (by omega),ydg hlt,ydg (show i < b.length by omega),List.cons_beq_cons];cases a[i] == b[i]'(by omega) <;> rfl
   ·have : i = a.length := by omega
    subst this;rw [hE,ydl,List.drop_of_length_le (by omega)];rfl
 have := key fuel 0 (yz _) (by unfold fuel; omega);rw [List.drop_zero,List.drop_zero] at this;exact this
theorem zpf (a b : List api_Field) (ha : a.length < 1000000000) : zjp a b = some (a == b) := by
 unfold zjp
 by_cases hl : a.length = b.length
 ·rw [hl,ybs,ynt,if_neg (by decide)];refine zAa a b (zeG a b) hl ha (fun n => ?_) (fun n i x y hi hx hy => ?_)
  ·rw [zeG,ydf (by omega),if_neg (by decide)]
  ·rw [zeG,ydt (by omega),if_pos rfl,zaF,hx,yob,zaF,hy,yob,zf (by omega),yob];cases x == y <;> rfl
 ·have : (((a.length : Int) == (b.length : Int))) = false := beq_eq_false_iff_ne.2 (by omega);have h2 : (a == b) = false := beq_eq_false_iff_ne.2 (fun e => hl (by rw [e]));rw [this,h2]; rfl
theorem zfk {m n : Nat} (h : m ≤ n) {l : List api_Field} (hs : zeH m l) : zeH n l := fun f hf => by have := hs f hf; omega
end Go.Dm
end
section
namespace Go.Dm
def zyY (a b : api_Head) : Bool := a.Kind == b.Kind && a.Method == b.Method && a.Target == b.Target && a.Minor == b.Minor && a.Code == b.Code && a.Reason == b.Reason && a.Fields == b.Fields
theorem zyf (a : api_Head) : zyY a a = true := by unfold zyY; simp
theorem zuh (a b : api_Head) (ha : a.Fields.length < 1000000000) : zk2 a b = some (zyY a b) := by
 unfold zk2 zhK zmL zcI zyY;rw [zpf _ _ ha,yob];cases a.Kind == b.Kind <;> cases a.Method == b.Method <;> cases a.Target == b.Target <;> cases a.Minor == b.Minor <;> cases a.Code == b.Code <;> cases a.Reason == b.Reason <;> rfl

end Go.Dm
end
section
namespace Go.Dm
theorem zlW (b : UInt8) : zez b = some (za5 b) :=
 of_decide_eq_true (zP (fun b => decide (zez b = some (za5 b))) (by decide +kernel) b)
def zdZ : api_Field := ⟨[],[]⟩
def zvA (s : Str) : api_Field × Int :=
 if s.any ([13,10] : Str).contains then (zdZ,24) else if !(s.takeWhile za5 == []) then (zdZ,23)
 else if s.takeWhile zF == [] || !zev 58 ((s.dropWhile zF).dropWhile za5) then (zdZ,21)
 else if !((s.dropWhile zF).takeWhile za5 == []) then (zdZ,22)
 else if !((zaa 58 ((s.dropWhile zF).dropWhile za5)).all zfG) then (zdZ,25)
 else (⟨s.takeWhile zF,zca (zaa 58 ((s.dropWhile zF).dropWhile za5))⟩,0)
theorem zoM (s : Str) (hs : s.length < 1000000000) : zcf s = some (zvA s) := by
 unfold zcf zvA;rw [ziz s _ hs (by decide) (by decide),yob]
 cases s.any ([13,10] : Str).contains with
 | true => rfl
 | false =>
  obtain ⟨k1,a1,e1⟩ := zmi zlW hs (At.zero s)
  have b1 : zaP (scn s 0) = some (s.takeWhile za5,scn s k1) := by unfold zaP; rw [e1]; rfl
  rw [yif,yif,zh0,yob,b1,yob];dsimp only
  cases hb : s.takeWhile za5 == [] with
  | false => rfl
  | true =>
   have hd : s.dropWhile za5 = s := by
    have := List.takeWhile_append_dropWhile (p := za5) (l := s)
    have h0 : s.takeWhile za5 = [] := by simpa using hb
    rwa [h0,yna] at this
   rw [hd] at a1;obtain ⟨k2,a2,e2⟩ := zqu hs a1;obtain ⟨k3,a3,e3⟩ := zmi zlW hs a2
   have b3 : zaP (scn s k2) = some ((s.dropWhile zF).takeWhile za5,scn s k3) := by unfold zaP; rw [e3]; rfl
   rw [ynt,yif,yif,e2,yob,b3,yob];dsimp only
   cases hn : s.takeWhile zF == [] with
   | true => rfl
   | false =>
    obtain ⟨k4,a4,e4⟩ := zfD hs 58 a3;rw [ynf,ynt,yif,e4,yob,Bool.false_or];have hl := a4.le_len;generalize zaa 58 ((s.dropWhile zF).dropWhile za5) = v at a4 hl;unfold zdG;show (if (!zev 58 ((s.dropWhile zF).dropWhile za5)) = true then _ else if (!((s.dropWhile zF).takeWhile za5 == [])) = true then _ else (zX (scn s k4)).bind _) = _;rw [zsj a4,yob,zey zjd v (by omega),yob]
    cases zev 58 ((s.dropWhile zF).dropWhile za5) with
    | false => rfl
    | true =>
     rw [ynt,yif,yif]
     cases (s.dropWhile zF).takeWhile za5 == [] with
     | false => rfl
     | true =>
      rw [ynt,yif,yif]
      cases v.all zfG with
      | false => rfl
      | true =>
       rw [ynt,yif,yif];rw [yob,zm6 v (by omega),yob]
def zq5 : Str → Bool
 | [] => false
 | c :: _ => za5 c
def zaQ (s : Str) : api_Field × Int :=
 if s.any ([13,10] : Str).contains then (zdZ,24) else if zq5 s then (zdZ,23)
 else if zap [58] s == [] || !zeK (zca (upto [58] s)) then (zdZ,21)
 else if decide ((zca (upto [58] s)).length < (upto [58] s).length) then (zdZ,22)
 else if !(((zap [58] s).drop 1).all zfG) then (zdZ,25)
 else (⟨zca (upto [58] s),zca ((zap [58] s).drop 1)⟩,0)
theorem zx4 (s : Str) : (!(s.takeWhile za5 == [])) = zq5 s := by
 cases s with
 | nil => rfl
 | cons c s =>
  rw [List.takeWhile_cons];show _ = za5 c;cases za5 c <;> rfl
theorem zDz (c : UInt8) : (!zF c || (!za5 c && !(c == 58))) = true := zP (fun c => !zF c || (!za5 c && !(c == 58))) (by decide +kernel) c
theorem zCd (c : UInt8) : (!za5 c || (!zF c && !(c == 58))) = true := zP (fun c => !za5 c || (!zF c && !(c == 58))) (by decide +kernel) c
theorem zuW {n : Str} (h : n.all zF = true) : (∀ x ∈ n,za5 x = false) ∧ (58 : UInt8) ∉ n := by
 have key : ∀ x ∈ n,za5 x = false ∧ (x == 58) = false := fun x hx => by
  have h1 := List.all_eq_true.1 h x hx;have h2 := zDz x;rw [h1] at h2;simpa using h2
 exact ⟨fun x hx => (key x hx).1,fun hx => by have := (key _ hx).2; cases this⟩
theorem zCe {b : Str} (h : b.all za5 = true) : (58 : UInt8) ∉ b := fun hx => by
 have := List.all_eq_true.1 h _ hx;cases this
theorem zDA (u v : Str) (h : (58 : UInt8) ∉ u) : upto [58] (u ++ 58 :: v) = u ∧ zap [58] (u ++ 58 :: v) = 58 :: v := by
 induction u with
 | nil => exact ⟨zjE (by decide),zjF (by decide)⟩
 | cons c u ih =>
  have hc : ([58] : Str).contains c = false := by
   have : c ≠ 58 := fun e => h (by rw [e]; exact List.mem_cons_self ..);simpa using this
  have ih := ih (fun hx => h (List.mem_cons_of_mem _ hx));rw [List.cons_append,zjG hc,zjH hc,ih.1,ih.2];exact ⟨rfl,rfl⟩
theorem all_takeWhile (p : UInt8 → Bool) (s : Str) : (s.takeWhile p).all p = true := List.all_eq_true.2 fun _ hx => zjy hx
theorem zzA {n b v : Str} (hn : n.all zF = true) (hb : b.all za5 = true) :
  (n ++ (b ++ 58 :: v)).takeWhile zF = n ∧ (n ++ (b ++ 58 :: v)).dropWhile zF = b ++ 58 :: v ∧ (b ++ 58 :: v).takeWhile za5 = b ∧ (b ++ 58 :: v).dropWhile za5 = 58 :: v := by
 have h1 := zmz (p := za5) (c := 58) (by decide) v hb;refine ⟨?_,?_,h1.1,h1.2⟩
 ·cases b with
  | nil => exact (zmz (p := zF) (c := 58) (by decide) v hn).1
  | cons c b =>
   have hc : zF c = false := by
    rw [List.all_cons,Bool.and_eq_true] at hb;have := zCd c;rw [hb.1] at this;simp only [ynt,Bool.false_or,Bool.and_eq_true,Bool.not_eq_true'] at this;exact this.1
   exact (zmz hc _ hn).1
 ·cases b with
  | nil => exact (zmz (p := zF) (c := 58) (by decide) v hn).2
  | cons c b =>
   have hc : zF c = false := by
    rw [List.all_cons,Bool.and_eq_true] at hb;have := zCd c;rw [hb.1] at this;simp only [ynt,Bool.false_or,Bool.and_eq_true,Bool.not_eq_true'] at this;exact this.1
   exact (zmz hc _ hn).2
theorem zCf {s : Str} (h : ∀ x ∈ s,za5 x = false) : zca s = s := by
 have hl : ∀ t : Str,(∀ x ∈ t,za5 x = false) → t.dropWhile za5 = t := by
  intro t ht
  cases t with
  | nil => rfl
  | cons y t => rw [List.dropWhile_cons,ht y (List.mem_cons_self ..)]; rfl
 have hr : zi0 s = s := by unfold zi0; rw [hl _ (fun x hx => h x (List.mem_reverse.1 hx)),List.reverse_reverse]
 unfold zca zke;rw [hr,hl s h]
theorem zzB {n b : Str} (hn : n.all zF = true) (hb : b.all za5 = true) : zca (n ++ b) = n := by
 rw [zvj hb];exact zCf (zuW hn).1
theorem zzC {u : Str} (h : zq5 u = false) (ht : zeK (zca u) = true) : ∃ b,u = zca u ++ b ∧ b.all za5 = true := by
 rcases zrG u with ⟨h1,h2⟩ | ⟨a,c,b,h1,h2,h3,h4⟩
 ·have : zca u = [] := by unfold zca; rw [h2]; rfl
  rw [this] at ht; cases ht
 ·refine ⟨b,?_,h3⟩
  have e : zca u = a ++ [c] := by
   unfold zca;rw [h4];unfold zke
   cases a with
   | nil => show [c].dropWhile za5 = _; rw [List.dropWhile_cons,h2,yif]; rfl
   | cons x a =>
    rw [h1] at h;have hx : za5 x = false := h;rw [List.cons_append,List.dropWhile_cons,hx,yif]
  rw [e,h1]; simp
theorem zCg (s : Str) : zvA s = zaQ s := by
 unfold zvA zaQ;rw [zx4]
 cases s.any ([13,10] : Str).contains with
 | true => rfl
 | false =>
  cases hb : zq5 s with
  | true => rfl
  | false =>
   rw [yif,yif,yif,yif];have e1 := List.takeWhile_append_dropWhile (p := zF) (l := s);have e2 := List.takeWhile_append_dropWhile (p := za5) (l := s.dropWhile zF);have hn := all_takeWhile zF s;have hbb := all_takeWhile za5 (s.dropWhile zF)
   cases hc : zev 58 ((s.dropWhile zF).dropWhile za5) with
   | true =>
    have e3 := zeI hc;generalize zaa 58 ((s.dropWhile zF).dropWhile za5) = v at e3;generalize s.takeWhile zF = n at e1 hn;generalize (s.dropWhile zF).takeWhile za5 = b at e2 hbb
    have es : s = (n ++ b) ++ 58 :: v := by rw [← e1, ← e2,e3,yaa]
    have hno : (58 : UInt8) ∉ n ++ b := fun hx => by
     rcases List.mem_append.1 hx with h | h
     ·exact (zuW hn).2 h
     ·exact zCe hbb h
    obtain ⟨u1,u2⟩ := zDA (n ++ b) v hno;rw [es,u1,u2,zzB hn hbb]
    have ht : zeK n = !(n == []) := by unfold zeK; rw [hn,Bool.true_and]
    rw [ht]
    have hlt : decide (n.length < (n ++ b).length) = !(b == []) := by
     cases b with
     | nil => simp
     | cons x b => simp
    rw [hlt];show (if (n == [] || false) = true then _ else _) = if (false || !(!(n == []))) = true then _ else _;rw [Bool.or_false,Bool.false_or,Bool.not_not];rfl
   | false =>
    rw [ynf,Bool.or_true,if_pos rfl]
    cases hf : zap [58] s with
    | nil => rfl
    | cons c v =>
     have hc58 : c = 58 := by simpa using zoz hf
     subst hc58
     cases ht : zeK (zca (upto [58] s)) with
     | false => rfl
     | true =>
      exfalso
      have es := zcn [58] s;rw [hf] at es
      have hub : zq5 (upto [58] s) = false := by
       cases hu : upto [58] s with
       | nil => rfl
       | cons x u => rw [hu] at es; rw [← es] at hb; exact hb
      obtain ⟨b,eb,hbl⟩ := zzC hub ht;unfold zeK at ht;rw [Bool.and_eq_true] at ht
      have es2 : s = zca (upto [58] s) ++ (b ++ 58 :: v) := by
       rw [← yaa, ← eb]; exact es.symm
      obtain ⟨_,q2,_,q4⟩ := zzA (v := v) ht.1 hbl;rw [es2,q2,q4] at hc;cases hc
theorem zhS (s : Str) (hs : s.length < 1000000000) : zcf s = some (zaQ s) := by rw [zoM s hs,zCg]
theorem zr1 (s : Str) (hs : s.length < 1000000000) : ziR s = some (s.all zfG) := by
 unfold ziR
 have key : ∀ (n i : Nat),i ≤ s.length → s.length - i < n → zd6 s n (i : Int) = some ((s.drop i).all zfG) := by
  intro n
  induction n with
  | zero => intro i _ h; omega
  | succ n ih =>
   intro i hi h;rw [zd6]
   by_cases hlt : i < s.length
   ·have g : s[i]? = some s[i] := ygg hlt;rw [ydt (show (i : Int) < (s.length : Int) by omega),if_pos rfl,zA,g,yob,zix,yob,zf (by omega),yob,ih (i + 1) (by omega) (by omega),ydg hlt,List.all_cons];cases zfG s[i] <;> rfl
   ·have : i = s.length := by omega
    subst this;rw [ydf (by omega),yif,ydl];rfl
 have := key fuel 0 (yz _) (by unfold fuel; omega);rw [List.drop_zero] at this;exact this
theorem zwO (s : Str) (hs : s.length < 1000000000) : zdO s false = some (if zap [58] s == [] || !zeK (zca (upto [58] s)) then (zdZ,21)
 else if decide ((zca (upto [58] s)).length < (upto [58] s).length) then (zdZ,22)
 else if !(((zap [58] s).drop 1).all zfG) then (zdZ,25)
 else ((⟨zca (upto [58] s),zca ((zap [58] s).drop 1)⟩,0) : api_Field × Int)) := by
 unfold zdO;rw [yif];have hu := zmx [58] s;have htu := zsg (upto [58] s)
 have fin : ∀ rec4,zdN rec4 s ((upto [58] s).length : Int) false = some (if zap [58] s == [] || !zeK (zca (upto [58] s)) then (zdZ,21)
   else if decide ((zca (upto [58] s)).length < (upto [58] s).length) then (zdZ,22)
   else if !(((zap [58] s).drop 1).all zfG) then (zdZ,25)
   else ((⟨zca (upto [58] s),zca ((zap [58] s).drop 1)⟩,0) : api_Field × Int)) := by
  intro rec4;unfold zdN;rw [yif,zbR hu,yob,zlY,zjw _ (by omega),yob,zkD _ (by omega),yob]
  cases hf : zap [58] s with
  | nil =>
   have hl : (upto [58] s).length = s.length := (zec [58] s).1 hf;rw [hl,ybs,if_pos rfl];rfl
  | cons c v =>
   have hl := congrArg List.length (zcn [58] s);rw [hf,yla,ylc] at hl;have hne : (((upto [58] s).length : Int) == (s.length : Int)) = false := beq_eq_false_iff_ne.2 (by omega)
   have hd : s.drop ((upto [58] s).length + 1) = v := by rw [← List.drop_drop,zjf,hf]; rfl
   rw [hne,yif];unfold zgT;show _ = some (if (false || !zeK (zca (upto [58] s))) = true then _ else _);rw [Bool.false_or]
   cases zeK (zca (upto [58] s)) with
   | false => rfl
   | true =>
    rw [ynt,yif,yif]
    by_cases hlt : (zca (upto [58] s)).length < (upto [58] s).length
    ·rw [ydt (show ((zca (upto [58] s)).length : Int) < ((upto [58] s).length : Int) by omega),ydt hlt]; rfl
    ·rw [ydf (show ¬ ((zca (upto [58] s)).length : Int) < ((upto [58] s).length : Int) by omega),ydf hlt,yif,yif,zf (by omega),yob,zB (by omega),yob,hd,zr1 v (by omega),yob,yob,zB (by omega),yob,hd,zjw v (by omega),yob];show _ = some (if (!v.all zfG) = true then _ else _);cases v.all zfG <;> rfl
 have key : ∀ (n i : Nat),i ≤ (upto [58] s).length → (upto [58] s).length - i < n → zbr s n (i : Int) = some (if zap [58] s == [] || !zeK (zca (upto [58] s)) then (zdZ,21)
   else if decide ((zca (upto [58] s)).length < (upto [58] s).length) then (zdZ,22)
   else if !(((zap [58] s).drop 1).all zfG) then (zdZ,25)
   else ((⟨zca (upto [58] s),zca ((zap [58] s).drop 1)⟩,0) : api_Field × Int)) := by
  intro n
  induction n with
  | zero => intro i _ h; omega
  | succ n ih =>
   intro i hi h;rw [zbr]
   by_cases hlt : i < (upto [58] s).length
   ·have g : s[i]? = some (upto [58] s)[i] := by
     have e := List.getElem?_append_left (l₂ := zap [58] s) hlt;rw [zcn] at e; rw [e]; exact ygg hlt
    have hno := ztd (upto [58] s)[i] (ygm hlt);generalize (upto [58] s)[i] = c at g hno
    have h1 : (c == 58) = false := by simpa using hno
    unfold zdN;rw [ydt (show (i : Int) < (s.length : Int) by omega),if_pos rfl,zA,g,yob,h1,ynf,if_pos rfl,zf (by omega),yob];exact ih (i + 1) (by omega) (by omega)
   ·have hie : i = (upto [58] s).length := by omega
    subst hie
    cases hf : zap [58] s with
    | nil =>
     have hl : (upto [58] s).length = s.length := (zec [58] s).1 hf;rw [ydf (by omega),yif];have := fin (zbr s n);rw [hf] at this;exact this
    | cons c v =>
     have hc : c = 58 := by simpa using zoz hf
     subst hc;have hd := zjf [58] s;rw [hf] at hd;have hlt2 := (zfn hd).1
     have g : s[(upto [58] s).length]? = some 58 := by have := congrArg (·[0]?) hd; simpa using this
     rw [ydt (by omega),if_pos rfl,zA,g,yob];have := fin (zbr s n);rw [hf] at this;exact this
 exact key fuel 0 (yz _) (by unfold fuel; omega)
theorem zkF (s : Str) (hs : s.length < 1000000000) : zgU s = some (zaQ s) := by
 unfold zgU
 have key : ∀ (n i : Nat),i ≤ s.length → s.length - i < n → zcT s n (i : Int) = some (if (s.drop i).any ([13,10] : Str).contains then (zdZ,24) else if zq5 s then (zdZ,23)
   else if zap [58] s == [] || !zeK (zca (upto [58] s)) then (zdZ,21)
   else if decide ((zca (upto [58] s)).length < (upto [58] s).length) then (zdZ,22)
   else if !(((zap [58] s).drop 1).all zfG) then (zdZ,25)
   else ((⟨zca (upto [58] s),zca ((zap [58] s).drop 1)⟩,0) : api_Field × Int)) := by
  intro n
  induction n with
  | zero => intro i _ h; omega
  | succ n ih =>
   intro i hi h;rw [zcT]
   by_cases hlt : i < s.length
   ·have g : s[i]? = some s[i] := ygg hlt
    have hcc : ([13,10] : Str).contains s[i] = (s[i] == 13 || s[i] == 10) := by simp only [List.contains_cons,List.contains_nil,Bool.or_false]
    have ihh := ih (i + 1) (by omega) (by omega);unfold zgS;rw [ydt (show (i : Int) < (s.length : Int) by omega),if_pos rfl,zA,g,yob,yob,zf (by omega),yob,ihh,ydg hlt,List.any_cons,hcc]
    cases s[i] == 13 with
    | true => rfl
    | false =>
     rw [yif,Bool.false_or];cases s[i] == 10 <;> rfl
   ·have : i = s.length := by omega
    subst this;rw [ydf (by omega),yif,ydl,List.any_nil,yif];have j3 := zwO s hs;have j3t : zdO s true = some (zdZ,23) := rfl
    cases s with
    | nil => rw [ydf (by decide),yif,j3]; rfl
    | cons c t =>
     rw [ydt (by simp only [ylc]; omega),if_pos rfl,zg7,List.getElem?_cons_zero,yob,zkK,yob];show _ = some (if za5 c = true then _ else _)
     cases za5 c with
     | true => exact j3t
     | false => rw [j3]; rfl
 have := key fuel 0 (yz _) (by unfold fuel; omega);rw [List.drop_zero] at this;exact this
end Go.Dm
end
section
namespace Go.Dm
def lines : Str → List Str
 | [] => [[]]
 | [c] => [[c]]
 | c :: d :: r => if c == 13 && d == 10 then [] :: lines r else zew [c] (lines (d :: r))
theorem zou (c d : UInt8) (r : Str) : lines (c :: d :: r) = if c == 13 && d == 10 then [] :: lines r else zew [c] (lines (d :: r)) := by rw [lines]
theorem zB9 (c d : UInt8) (r : Str) : ([13,10] : Str).isPrefixOf (c :: d :: r) = (c == 13 && d == 10) := by
 show ((13 : UInt8) == c && ((10 : UInt8) == d && ([] : Str).isPrefixOf r)) = _
 have : ([] : Str).isPrefixOf r = true := by simp
 rw [this,Bool.and_true,show ((13 : UInt8) == c) = (c == 13) from by rw [Bool.eq_iff_iff,beq_iff_eq,beq_iff_eq]; exact eq_comm,show ((10 : UInt8) == d) = (d == 10) from by rw [Bool.eq_iff_iff,beq_iff_eq,beq_iff_eq]; exact eq_comm]
theorem zwG : ∀ (n : Nat) (s : Str),s.length < n → lines s ≠ []
 | 0,_,h => by omega
 | n + 1,[],_ => by simp [lines]
 | n + 1,[c],_ => by simp [lines]
 | n + 1,c :: d :: r,h => by
  rw [zou]
  split
  ·simp
  ·simp only [ylc] at h
   cases hl : lines (d :: r) with
   | nil => exact absurd hl (zwG n _ (by simp only [ylc]; omega))
   | cons a t => simp [zew]
theorem znD (s : Str) : lines s ≠ [] := zwG _ s (Nat.lt_succ_self _)
theorem zuO : ∀ (n : Nat) (s : Str),s.length < n → lines s = match zaA [13,10] s with | none => [s] | some p => p.1 :: lines p.2
 | 0,_,h => by omega
 | n + 1,[],_ => by simp [lines,zaA]
 | n + 1,[c],_ => by
  have : ([13,10] : Str).isPrefixOf [c] = false := by
   show ((13 : UInt8) == c && false) = false;rw [Bool.and_false]
  rw [zaA,this,yif];simp [lines,zaA]
 | n + 1,c :: d :: r,h => by
  simp only [ylc] at h;have ih := zuO n (d :: r) (by simp only [ylc]; omega);rw [zou,zaA,zB9]
  cases hc : (c == 13 && d == 10) with
  | true => rfl
  | false =>
   rw [yif,yif,ih]
   cases zaA [13,10] (d :: r) with
   | none => rfl
   | some p => rfl
theorem zwH (s : Str) : lines s = match zaA [13,10] s with | none => [s] | some p => p.1 :: lines p.2 := zuO _ s (Nat.lt_succ_self _)
theorem zry : ∀ (k : Nat) (s : Str),Go.Lib.count s [13,10] = k → Go.Lib.splitK [13,10] 0 k s = lines s
 | k,s,h => by
  have hi := zoE (t := [13,10]) (by decide) s;rw [zwH]
  cases hc : zaA [13,10] s with
  | none =>
   rw [hc] at hi;have h0 := Go.Lib.count_miss hi
   have : k = 0 := by omega
   subst this;rfl
  | some p =>
   rw [hc] at hi;have e := zbF (a := p.1) (b := p.2) hc
   have e1 : s.take p.1.length = p.1 := by rw [e,yaa,List.take_left']; rfl
   have e2 : s.drop (p.1.length + 2) = p.2 := by rw [e,List.drop_left']; simp
   have hh := Go.Lib.count_hit (i := p.1.length) (by decide) hi;rw [show ([13,10] : Str).length = 2 from rfl,e2] at hh;obtain ⟨m,rfl⟩ : ∃ m,k = m + 1 := ⟨k - 1,by omega⟩;have ih := zry m p.2 (by omega);unfold Go.Lib.splitK;have hn : (((p.1.length : Int)) == -1) = false := beq_eq_false_iff_ne.2 (by omega);rw [hi];dsimp only;rw [hn,yif,Int.toNat_natCast,Nat.add_zero,e1,show ([13,10] : Str).length = 2 from rfl,e2,ih]
theorem zpq (s : Str) (hs : s.length < 1000000000) : strings_Split s [13,10] = some (lines s) := by
 unfold strings_Split;rw [if_pos ⟨by omega,by decide⟩];exact congrArg some (zry _ s rfl)
theorem zov : ∀ (n : Nat) (s : Str),s.length < n → (lines s).length ≤ s.length + 1 ∧ ∀ l ∈ lines s,l.length ≤ s.length
 | 0,_,h => by omega
 | n + 1,s,h => by
  rw [zwH]
  cases hc : zaA [13,10] s with
  | none => simp
  | some p =>
   have e := congrArg List.length (zbF (a := p.1) (b := p.2) hc);simp only [yla,ylc,yln] at e;obtain ⟨h1,h2⟩ := zov n p.2 (by omega);dsimp only;refine ⟨by simp only [ylc]; omega,fun l hl => ?_⟩
   rcases List.mem_cons.1 hl with h | h
   ·rw [h]; omega
   ·have := h2 l h; omega
theorem zrz {t : Str} : ∀ {s : Str},s.length < t.length → zaA t s = none := fun {s} h => by
 cases hc : zaA t s with
 | none => rfl
 | some p =>
  have e := congrArg List.length (zbF (a := p.1) (b := p.2) hc);simp only [yla] at e;omega
theorem zp1 (s t : Str) (hs : s.length < 1000000000) (ht : t ≠ []) : strings_Index s t = some (match zaA t s with | none => -1 | some p => (p.1.length : Int)) := by
 unfold strings_Index;rw [if_pos (by omega),zs0,zoE ht]
 first | done | (cases zaA t s <;> rfl)
theorem zvy (s : Str) (hs : s.length < 1000000000) : zmb s = some (match zaA [13,10,13,10] s with | none => -1 | some p => ((p.1.length + 4 : Nat) : Int)) := by
 unfold zmb
 have key : ∀ (n i : Nat),i ≤ s.length → s.length - i < n → zhj s n (i : Int) = some (match zaA [13,10,13,10] (s.drop i) with | none => -1 | some p => ((i + p.1.length + 4 : Nat) : Int)) := by
  intro n
  induction n with
  | zero => intro i _ h; omega
  | succ n ih =>
   intro i hi h
   have a4 : zq (i : Int) 4 = some ((i + 4 : Nat) : Int) := by rw [zan (by omega) (by omega)]; exact congrArg some (by omega)
   rw [zhj,a4,yob,yob,yob]
   by_cases hle : i + 4 ≤ s.length
   ·have hlt : i < s.length := by omega
    have sb : zd0 s (i : Int) ((i + 4 : Nat) : Int) = some ((s.drop i).take 4) := by
     rw [zbx (by omega) hle, ← List.take_drop]
    have hpre : ((s.drop i).take 4 == ([13,10,13,10] : Str)) = ([13,10,13,10] : Str).isPrefixOf (s.drop i) := by
     rw [Bool.eq_iff_iff,List.isPrefixOf_iff_prefix,beq_iff_eq,List.prefix_iff_eq_take];exact eq_comm
    rw [ydt (show ((i + 4 : Nat) : Int) ≤ (s.length : Int) by omega),if_pos rfl,sb,yob,hpre,ydg hlt,zaA]
    split
    ·rfl
    ·rw [zf (by omega),yob,ih (i + 1) (by omega) (by omega)]
     cases zaA [13,10,13,10] (s.drop (i + 1)) with
     | none => rfl
     | some p =>
      show some ((i + 1 + p.1.length + 4 : Nat) : Int) = some ((i + (p.1.length + 1) + 4 : Nat) : Int);exact congrArg some (by omega)
   ·rw [ydf (show ¬ ((i + 4 : Nat) : Int) ≤ (s.length : Int) by omega),yif,zrz (by rw [yld,show ([13,10,13,10] : Str).length = 4 from rfl]; omega)]
 have := key fuel 0 (yz _) (by unfold fuel; omega);rw [List.drop_zero] at this;rw [show (0 : Int) = ((0 : Nat) : Int) from rfl,this]
 cases zaA [13,10,13,10] s with
 | none => rfl
 | some p =>
  show some ((0 + p.1.length + 4 : Nat) : Int) = some ((p.1.length + 4 : Nat) : Int);exact congrArg some (by omega)
def zht (h : api_Head) : List Str := (h.Fields.filter (isN [104,111,115,116])).map (·.Value)
def zp2 (h : api_Head) : Bool := if h.Kind == 1 then (if decide (1 < (zht h).length) || decide (((zht h).length : Int) < h.Minor) then false else (zht h).all (fun x => x == [] || (zc3 x).2 == 0)) else true
def zlE (h : api_Head) : Int := if decide (100 < h.Fields.length) then 3 else if zp2 h then 0 else 27
theorem zCa : isN ([72,111,115,116] : Str) = isN [104,111,115,116] := by
 funext f
 unfold isN
 have : low ([72,111,115,116] : Str) = low ([104,111,115,116] : Str) := by decide
 rw [this]
theorem zlF (l : List api_Field) (nm : Str) (hn : nm.length < 1000000000) (hl : l.length < 1000000000) (hs : zeH 1000000000 l) : zdH ⟨l⟩ nm = some ((l.filter (isN nm)).map (·.Value)) := by
 unfold zdH zkm;rw [ztH l hl,yob,yob]
 have key : ∀ (n i : Nat) (out : List Str),i ≤ l.length → l.length - i < n → out.length ≤ i → zbi nm l n out (i : Int) = some (out ++ ((l.drop i).filter (isN nm)).map (·.Value)) := by
  intro n
  induction n with
  | zero => intro i _ _ h; omega
  | succ n ih =>
   intro i out hi h ho;rw [zbi]
   by_cases hlt : i < l.length
   ·have g : l[i]? = some l[i] := ygg hlt;have hsm := hs l[i] (ygm _);rw [ydt (show (i : Int) < (l.length : Int) by omega),if_pos rfl,zaF,g,yob,zoW _ _ hsm.1 hn,yob,if_pos (zbb (by omega) (by omega))];unfold zej;rw [zf (by omega),yob,yob,ih (i + 1) _ (by omega) (by omega) (by simp; omega),ih (i + 1) _ (by omega) (by omega) (by omega),ydg hlt,List.filter_cons];show (if (isN nm l[i]) = true then _ else _) = _
    cases isN nm l[i] with
    | true => simp
    | false => rfl
   ·have : i = l.length := by omega
    subst this;rw [ydf (by omega),yif,ydl];simp
 have := key fuel 0 [] (yz _) (by unfold fuel; omega) (by simp);rw [List.drop_zero,yna] at this;exact this
theorem zt5 (h : api_Head) (hl : h.Fields.length < 1000000000) (hs : zeH 400000000 h.Fields) : zkR h = some (zp2 h) := by
 unfold zkR zp2
 cases h.Kind == 1 with
 | false => rfl
 | true =>
  have hvl : (zht h).length ≤ h.Fields.length := by unfold zht; rw [List.length_map]; exact List.length_filter_le _ _
  have hvm : ∀ v ∈ zht h,v.length < 400000000 := fun v hv => by
   obtain ⟨f,hf,rfl⟩ := List.mem_map.1 hv;exact (hs f (List.mem_filter.1 hf).1).2
  rw [ynt,yif,if_pos rfl];unfold zoA;rw [ztH _ hl,yob,yob,zlF _ _ (by decide) hl (zfk (by decide) hs),yob,zCa];show (if decide (1 < ((zht h).length : Int)) = true then zeA (zht h) true else zeA (zht h) (decide (((zht h).length : Int) < h.Minor))) = _;generalize zht h = vs at hvl hvm
  have key : ∀ (n i : Nat),i ≤ vs.length → vs.length - i < n → zds vs n (i : Int) = some ((vs.drop i).all (fun x => x == [] || (zc3 x).2 == 0)) := by
   intro n
   induction n with
   | zero => intro i _ h; omega
   | succ n ih =>
    intro i hi h;rw [zds]
    by_cases hlt : i < vs.length
    ·have g : vs[i]? = some vs[i] := ygg hlt;have hsm := hvm vs[i] (ygm _);unfold zhA;rw [ydt (show (i : Int) < (vs.length : Int) by omega),if_pos rfl,zaF,g,yob,ziu _ hsm,yob,zf (by omega),yob,ih (i + 1) (by omega) (by omega),ydg hlt,List.all_cons];cases (zc3 vs[i]).2 == 0 <;> cases vs[i] == [] <;> rfl
    ·have : i = vs.length := by omega
     subst this;rw [ydf (by omega),yif,ydl];rfl
  have hk := key fuel 0 (yz _) (by unfold fuel; omega);rw [List.drop_zero] at hk;unfold zeA
  by_cases h1 : 1 < vs.length
  ·rw [ydt (show 1 < (vs.length : Int) by omega),ydt h1]; rfl
  ·rw [ydf (show ¬ 1 < (vs.length : Int) by omega),ydf h1,yif,Bool.false_or]
   cases decide ((vs.length : Int) < h.Minor) with
   | true => rfl
   | false => exact hk
theorem zt6 (h : api_Head) (hl : h.Fields.length < 1000000000) (hs : zeH 400000000 h.Fields) : zkS h = some (zlE h) := by
 unfold zkS zlE;rw [zt5 h hl hs,yob]
 by_cases h1 : 100 < h.Fields.length
 ·rw [ydt (show 100 < (h.Fields.length : Int) by omega),ydt h1]; rfl
 ·rw [ydf (show ¬ 100 < (h.Fields.length : Int) by omega),ydf h1];cases zp2 h <;> rfl
structure GoodH (h : api_Head) : Prop where
 kind : h.Kind = 1 ∨ h.Kind = 2
 minor : h.Minor = 0 ∨ h.Minor = 1
theorem hostE (x : Str) : (zc3 x).2 = 0 ∨ (zc3 x).2 = 27 := by
 unfold zc3
 split
 ·exact .inl rfl
 ·split
  ·exact .inr rfl
  ·split
   ·exact .inl rfl
   ·exact .inr rfl
theorem zsP (h : api_Head) (hg : GoodH h) (hl : h.Fields.length < 1000000000) (hs : zeH 400000000 h.Fields) : zjT h = some (zlE h) := by
 unfold zjT zlE
 by_cases h1 : 100 < h.Fields.length
 ·rw [ydt (show 100 < (h.Fields.length : Int) by omega),ydt h1]; rfl
 ·rw [ydf (show ¬ 100 < (h.Fields.length : Int) by omega),ydf h1,yif,yif];unfold zp2
  rcases hg.kind with hk | hk
  ·rw [hk];show ((zep h.Fields [104,111,115,116]).bind _) = _;rw [zj9 _ _ (by decide) hl (zfk (by decide) hs),yob]
   have hvm : ∀ v ∈ zht h,v.length < 400000000 := fun v hv => by
    obtain ⟨f,hf,rfl⟩ := List.mem_map.1 hv;exact (hs f (List.mem_filter.1 hf).1).2
   show (if decide (1 < ((zht h).length : Int)) = true then zaJ (zht h) true else if (h.Minor == 1) = true then zaJ (zht h) (((zht h).length : Int) == 0) else zaJ (zht h) false) = some (if (if decide (1 < (zht h).length) || decide (((zht h).length : Int) < h.Minor) then false else (zht h).all (fun x => x == [] || (zc3 x).2 == 0)) = true then (0 : Int) else 27);generalize zht h = vs at hvm
   match vs,hvm with
   | [],_ => rcases hg.minor with hm | hm <;> rw [hm] <;> rfl
   | [x],hvm =>
    have hx := hvm x (List.mem_cons_self ..)
    have j : zaJ [x] false = some (if ([x] : List Str).all (fun x => x == [] || (zc3 x).2 == 0) then 0 else 27) := by
     unfold zaJ zgV;show (if (!(x == [])) = true then (zfh x).bind _ else _) = _;rw [zkC x hx,yob,List.all_cons,List.all_nil,Bool.and_true]
     cases hx0 : x == [] with
     | true => rfl
     | false =>
      rcases hostE x with h | h <;> rw [h] <;> rfl
    have e1 : ∀ m : Int,m = 0 ∨ m = 1 → decide ((([x] : List Str).length : Int) < m) = false := fun m h => by
     rcases h with h | h <;> rw [h] <;> rfl
    rw [e1 _ hg.minor];show (if (h.Minor == 1) = true then zaJ [x] false else zaJ [x] false) = some (if ([x] : List Str).all (fun x => x == [] || (zc3 x).2 == 0) = true then (0 : Int) else 27);rw [j];cases h.Minor == 1 <;> cases ([x] : List Str).all (fun x => x == [] || (zc3 x).2 == 0) <;> rfl
   | x :: y :: l,_ =>
    have e1 : decide (1 < ((x :: y :: l : List Str).length : Int)) = true := ydt (by simp only [ylc]; omega);have e2 : decide (1 < (x :: y :: l : List Str).length) = true := ydt (by simp);rw [e1,e2]; rfl
  ·rw [hk]; rfl
theorem zsQ {k : Int} {s : Str} {x : api_Head} (h : zbB k s = (x,0)) : GoodH x := by
 have hb := zzE h
 rcases zs2 h with ⟨hk,h⟩ | ⟨hk,h⟩
 ·refine ⟨.inl (hb.kind.trans hk),?_⟩
  rcases zts s with (h1 | h1) | ⟨h1,h2⟩
  ·rw [h1] at h; exact absurd (show (26 : Int) = 0 from congrArg Prod.snd h) (by decide)
  ·rw [h1] at h; exact absurd (show (20 : Int) = 0 from congrArg Prod.snd h) (by decide)
  ·obtain ⟨v,_,_,_,_,_,k1,k2,k3,_⟩ := zpK h1;rw [h2] at h;have hx := congrArg Prod.fst h;dsimp only at hx;rw [← hx];dsimp only;rw [k3]
   rcases zk6 k1 k2 with ⟨_,e⟩ | ⟨_,e⟩
   ·exact .inl e
   ·exact .inr e
 ·refine ⟨.inr (hb.kind.trans hk),?_⟩;unfold ztK at h
  split at h
  ·exact absurd (show (26 : Int) = 0 from congrArg Prod.snd h) (by decide)
  ·split at h
   ·rename_i h1
    obtain ⟨b,w,r,e1,e2,_,_⟩ := zmB h1;have hx := congrArg Prod.fst h;dsimp only at hx;rw [← hx];dsimp only;rw [e2,zw7 b _ e1]
    rcases e1 with e | e <;> subst e
    ·exact .inl rfl
    ·exact .inr rfl
   ·exact absurd (show (20 : Int) = 0 from congrArg Prod.snd h) (by decide)
def zm3 (h : api_Head) (f : api_Field) : api_Head := ⟨h.Kind,h.Method,h.Target,h.Code,h.Reason,h.Minor,h.Fields ++ [f]⟩
def zfH : api_Head → List Str → api_Head × Int
 | h,[] => if zlE h == 0 then (h,0) else (zx,zlE h)
 | h,l :: ls => if (zaQ l).2 == 0 then zfH (zm3 h (zaQ l).1) ls else (zx,(zaQ l).2)
def znE (k : Int) : List Str → api_Head × Int
 | [] => (zx,6)
 | l :: ls => if (zbB k l).2 == 0 then zfH (zbB k l).1 ls else (zx,(zbB k l).2)
def zfI (k : Int) (s : Str) (lim : Int) : api_Head × Int :=
 if !(k == 1) && !(k == 2) then (zx,1) else if decide (lim < (s.length : Int)) then (zx,3) else match zaA [13,10,13,10] s with
 | none => (zx,6)
 | some p => if p.2 == [] then znE k (lines p.1) else (zx,6)
theorem zsR (l : Str) : (zaQ l).1.Name.length ≤ l.length ∧ (zaQ l).1.Value.length ≤ l.length := by
 unfold zaQ;have h1 := zsg (upto [58] l);have h2 := zmx [58] l;have h3 := zsg ((zap [58] l).drop 1);have h4 := congrArg List.length (zcn [58] l);simp only [yla] at h4;simp only [yld] at h3
 split
 ·simp [zdZ]
 ·split
  ·simp [zdZ]
  ·split
   ·simp [zdZ]
   ·split
    ·simp [zdZ]
    ·split
     ·simp [zdZ]
     ·dsimp only; omega
theorem zuP {h : api_Head} (hg : GoodH h) (f : api_Field) : GoodH (zm3 h f) := ⟨hg.kind,hg.minor⟩
theorem zpr {h : api_Head} {l : Str} (hs : zeH 400000000 h.Fields) (hl : l.length < 400000000) : zeH 400000000 (zm3 h (zaQ l).1).Fields := by
 intro f hf
 rcases List.mem_append.1 hf with h1 | h1
 ·exact hs f h1
 ·have := zsR l
  have e : f = (zaQ l).1 := by simpa using h1
  rw [e]; omega
theorem zxX (h : api_Head) (hl : h.Fields.length < 1000000000) (hs : zeH 400000000 h.Fields) : zhB h.Kind h.Method h.Target h.Code h.Reason h.Minor h.Fields = some (zfH h []) := by
 unfold zhB;rw [zt6 _ hl hs,yob,zfH];cases zlE h == 0 <;> rfl
theorem zsS (ls : List Str) (hln : ls.length < 100000000) (hls : ∀ l ∈ ls,l.length < 400000000) : ∀ (n i : Nat) (h : api_Head),i ≤ ls.length → ls.length - i < n → zeH 400000000 h.Fields → h.Fields.length ≤ i →
  zfV ls n h.Kind h.Method h.Target h.Code h.Reason h.Minor h.Fields (i : Int) = some (zfH h (ls.drop i))
 | 0,_,_,_,h,_,_ => by omega
 | n + 1,i,h,hi,hn,hs,hfl => by
  rw [zfV]
  by_cases hlt : i < ls.length
  ·have g : ls[i]? = some ls[i] := ygg hlt;have hsm := hls ls[i] (ygm _);have ih := zsS ls hln hls n (i + 1) (zm3 h (zaQ ls[i]).1) (by omega) (by omega) (zpr hs hsm) (by unfold zm3; simp; omega);rw [ydt (show (i : Int) < (ls.length : Int) by omega),if_pos rfl,zaF,g,yob,zhS _ (by omega),yob,if_pos (zbb (by omega) (by omega)),zf (by omega),yob,ydg hlt,zfH]
   cases (zaQ ls[i]).2 == 0 with
   | false => rfl
   | true => exact ih
  ·have : i = ls.length := by omega
   subst this;rw [ydf (by omega),yif,ydl];exact zxX h (by omega) hs
theorem zuQ (k : Int) : ((zbB k []).2 == 1) = (!(k == 1) && !(k == 2)) := by
 unfold zbB
 cases h1 : k == 1 with
 | true => rfl
 | false =>
  cases h2 : k == 2 with
  | true => rfl
  | false => rfl
theorem zxY (k : Int) (h : (!(k == 1) && !(k == 2)) = true) : (zbB k []).2 = 1 := by
 have := zuQ k;rw [h] at this;simpa using this
theorem zt7 (k : Int) (s : Str) (lim : Int) (hs : s.length < 90000000) : zkT k s lim = some (zfI k s lim) := by
 unfold zkT zfI;rw [zhX k [] (by decide),yob,zuQ]
 cases hk : (!(k == 1) && !(k == 2)) with
 | true => rw [if_pos rfl,if_pos rfl,zxY k hk]; rfl
 | false =>
  rw [yif,yif,zp1 s _ (by omega) (by decide),yob]
  cases decide (lim < (s.length : Int)) with
  | true => rfl
  | false =>
   rw [yif,yif];have j1t : ∀ r,zfW k s r true = some (zx,6) := fun r => rfl
   cases hc : zaA [13,10,13,10] s with
   | none => exact j1t (-1)
   | some p =>
    have e := zbF (a := p.1) (b := p.2) hc;have el := congrArg List.length e;simp only [yla,ylc,yln] at el
    have a4 : zq (p.1.length : Int) 4 = some ((p.1.length + 4 : Nat) : Int) := by rw [zan (by omega) (by omega)]; exact congrArg some (by omega)
    dsimp only;rw [ydf (show ¬ (p.1.length : Int) < 0 by omega),yif,a4,yob]
    cases hp : p.2 == [] with
    | false =>
     have hne : p.2 ≠ [] := by simpa using hp
     have hpl : 0 < p.2.length := List.length_pos_iff.2 hne;have : (((p.1.length + 4 : Nat) : Int) == (s.length : Int)) = false := beq_eq_false_iff_ne.2 (by omega);rw [this];exact j1t _
    | true =>
     have hp0 : p.2 = [] := by simpa using hp
     rw [hp0] at el;simp only [yln] at el
     have : (((p.1.length + 4 : Nat) : Int) == (s.length : Int)) = true := by rw [beq_iff_eq]; omega
     rw [this,ynt,if_pos rfl];unfold zfW
     have st : s.take p.1.length = p.1 := by rw [e,yaa,List.take_left']; rfl
     rw [yif,zbR (by omega),yob,st,zpq _ (by omega),yob];obtain ⟨m1,m2⟩ := zov _ p.1 (Nat.lt_succ_self _)
     cases hl : lines p.1 with
     | nil => exact absurd hl (znD _)
     | cons l ls =>
      rw [hl] at m1 m2;have hll := m2 l (List.mem_cons_self ..);rw [zoc,List.getElem?_cons_zero,yob,zhX k l (by omega),yob,znE]
      cases h0 : (zbB k l).2 == 0 with
      | false => rfl
      | true =>
       have hf : zwr (l :: ls) 1 = some ls := by
        unfold zwr;rw [if_pos ⟨by decide,by simp only [ylc]; omega⟩];rfl
       rw [ynt,yif,hf,yob,if_pos rfl];have hfs := ziy k l;have := zsS ls (by simp only [ylc] at m1; omega) (fun x hx => by have := m2 x (List.mem_cons_of_mem _ hx); omega) fuel 0 (zbB k l).1 (yz _) (by simp only [ylc] at m1; unfold fuel; omega) (by rw [hfs]; intro f hf; cases hf) (by rw [hfs]; simp);rw [List.drop_zero] at this;exact this
def zkE (s : Str) (a b : Nat) : Str := (s.take b).drop a
theorem zuR (s : Str) (a : Nat) : zkE s a a = [] := by unfold zkE; simp
theorem zsT (s : Str) (a b : Nat) : (zkE s a b).length ≤ s.length := by unfold zkE; simp; omega
theorem zzs {s : Str} {a i : Nat} (hai : a ≤ i) (hi : i < s.length) : zkE s a (i + 1) = zkE s a i ++ [s[i]] := by
 unfold zkE;rw [List.take_succ_eq_append_getElem hi,List.drop_append_of_le_length (by simp; omega)]
theorem zwI (h : api_Head) (hg : GoodH h) (hl : h.Fields.length < 1000000000) (hs : zeH 400000000 h.Fields) : zgW h.Kind h.Method h.Target h.Code h.Reason h.Minor h.Fields = some (zfH h []) := by
 unfold zgW;rw [zsP _ ⟨hg.kind,hg.minor⟩ hl hs,yob,zfH];cases zlE h == 0 <;> rfl
theorem zCb {T s : Str} (hsT : s = T ++ [13,10,13,10]) {i : Nat} (hi : i ≤ T.length) : ∃ x y,s[i]? = some x ∧ s[i + 1]? = some y ∧ zd0 s (i : Int) ((i + 2 : Nat) : Int) = some [x,y] := by
 have hl := congrArg List.length hsT;simp only [yla,ylc,yln] at hl;have g0 : s[i]? = some s[i] := ygg (by omega);have g1 : s[i + 1]? = some s[i + 1] := ygg (by omega);refine ⟨_,_,g0,g1,?_⟩;rw [zbx (by omega) (by omega), ← List.take_drop,ydg (show i < s.length by omega),ydg (show i + 1 < s.length by omega)];rfl
theorem zyS {k : Int} {T s : Str} (hsT : s = T ++ [13,10,13,10]) (hs : s.length < 90000000) {i : Nat} (hi : i ≤ T.length) (n : Nat) (first : Bool) (h : api_Head) (a : Nat) {x y : UInt8} (h0 : s[i]? = some x) (h1 : s[i + 1]? = some y) (hne : (x == 13 && y == 10) = false) :
  zI k s (n + 1) h.Fields h.Kind h.Method h.Target h.Code h.Reason h.Minor first (a : Int) (i : Int) = zI k s n h.Fields h.Kind h.Method h.Target h.Code h.Reason h.Minor first (a : Int) ((i + 1 : Nat) : Int) := by
 have hl := congrArg List.length hsT;simp only [yla,ylc,yln] at hl;obtain ⟨x',y',g0,g1,g2⟩ := zCb hsT hi;rw [h0] at g0; cases g0;rw [h1] at g1; cases g1
 have a3 : zq (i : Int) 3 = some ((i + 3 : Nat) : Int) := by rw [zan (by omega) (by omega)]; exact congrArg some (by omega)
 have a2 : zq (i : Int) 2 = some ((i + 2 : Nat) : Int) := by rw [zan (by omega) (by omega)]; exact congrArg some (by omega)
 have hb : (([x,y] : Str) == [13,10]) = false := by
  show (x == 13 && (y == 10 && true)) = false;rw [Bool.and_true]; exact hne
 rw [zI,a3,yob,ydt (show ((i + 3 : Nat) : Int) < (s.length : Int) by omega),if_pos rfl,a2,yob,g2,yob,hb,ynf,if_pos rfl];unfold zdP;rw [zf (by omega),yob]
theorem zyT {k : Int} {T s : Str} (hsT : s = T ++ [13,10,13,10]) (hs : s.length < 90000000) {i : Nat} (hi : i ≤ T.length) (n : Nat) (first : Bool) (h : api_Head) (a : Nat) (ha : a ≤ i) (hf : h.Fields.length < 100000000) (h0 : s[i]? = some 13) (h1 : s[i + 1]? = some 10) :
  zI k s (n + 1) h.Fields h.Kind h.Method h.Target h.Code h.Reason h.Minor first (a : Int) (i : Int) =
   if first then (if (zbB k (zkE s a i)).2 == 0 then (let r := (zbB k (zkE s a i)).1; zI k s n r.Fields r.Kind r.Method r.Target r.Code r.Reason r.Minor false ((i + 2 : Nat) : Int) ((i + 1 : Nat) : Int)) else some (zx,(zbB k (zkE s a i)).2))
   else (if (zaQ (zkE s a i)).2 == 0 then (let r := zm3 h (zaQ (zkE s a i)).1; zI k s n r.Fields r.Kind r.Method r.Target r.Code r.Reason r.Minor false ((i + 2 : Nat) : Int) ((i + 1 : Nat) : Int)) else some (zx,(zaQ (zkE s a i)).2)) := by
 have hl := congrArg List.length hsT;simp only [yla,ylc,yln] at hl;obtain ⟨x',y',g0,g1,g2⟩ := zCb hsT hi;rw [h0] at g0; cases g0;rw [h1] at g1; cases g1
 have a3 : zq (i : Int) 3 = some ((i + 3 : Nat) : Int) := by rw [zan (by omega) (by omega)]; exact congrArg some (by omega)
 have a2 : zq (i : Int) 2 = some ((i + 2 : Nat) : Int) := by rw [zan (by omega) (by omega)]; exact congrArg some (by omega)
 have hml := zsT s a i;have hsb : zd0 s (a : Int) (i : Int) = some (zkE s a i) := zbx ha (by omega);rw [zI,a3,yob,ydt (show ((i + 3 : Nat) : Int) < (s.length : Int) by omega),if_pos rfl,a2,yob,g2,yob,show (!(([13,10] : Str) == [13,10])) = false from rfl,yif,hsb,yob,yob];generalize zkE s a i = m at hml;rw [znL k m (by omega),yob,zkF m (by omega),yob,if_pos (zbb (by omega) (by omega))];unfold zdP;rw [zf (by omega),yob,yob]
 cases first with
 | true => cases (zbB k m).2 == 0 <;> rfl
 | false => cases (zaQ m).2 == 0 <;> rfl
theorem zCc {k : Int} {T s : Str} (hsT : s = T ++ [13,10,13,10]) (hs : s.length < 90000000) (n : Nat) (h : api_Head) (hg : GoodH h) (hf : h.Fields.length < 100000000) (hsm : zeH 400000000 h.Fields) (a : Int) :
  zI k s (n + 1) h.Fields h.Kind h.Method h.Target h.Code h.Reason h.Minor false a ((T.length + 1 : Nat) : Int) = some (zfH h []) := by
 have hl := congrArg List.length hsT;simp only [yla,ylc,yln] at hl
 have a3 : zq ((T.length + 1 : Nat) : Int) 3 = some ((T.length + 4 : Nat) : Int) := by rw [zan (by omega) (by omega)]; exact congrArg some (by omega)
 rw [zI,a3,yob,ydf (show ¬ ((T.length + 4 : Nat) : Int) < (s.length : Int) by omega),yif];exact zwI h hg (by omega) hsm
theorem L3_eq {k : Int} {T s : Str} (hsT : s = T ++ [13,10,13,10]) (hs : s.length < 90000000) : ∀ (d i : Nat),i ≤ T.length → T.length - i ≤ d → ∀ (n : Nat) (first : Bool) (h : api_Head) (a : Nat),T.length - i + 3 ≤ n → a ≤ i → (first = false → GoodH h) → h.Fields.length ≤ i → zeH 400000000 h.Fields →
  zI k s n h.Fields h.Kind h.Method h.Target h.Code h.Reason h.Minor first (a : Int) (i : Int) = some (if first then znE k (zew (zkE s a i) (lines (T.drop i))) else zfH h (zew (zkE s a i) (lines (T.drop i)))) := by
 intro d;have hl := congrArg List.length hsT;simp only [yla,ylc,yln] at hl
 induction d with
 | zero =>
  intro i hi hd n first h a hn ha hg hfl hsm
  have hie : i = T.length := by omega
  subst hie;obtain ⟨n,rfl⟩ : ∃ m,n = m + 2 := ⟨n - 2,by omega⟩
  have h0 : s[T.length]? = some 13 := by rw [hsT]; simp
  have h1 : s[T.length + 1]? = some 10 := by rw [hsT]; simp
  have hml := zsT s a T.length;rw [zyT hsT hs (Nat.le_refl _) (n + 1) first h a ha (by omega) h0 h1,ydl];show _ = some (if first = true then znE k [zkE s a T.length ++ []] else zfH h [zkE s a T.length ++ []]);rw [yan];generalize zkE s a T.length = m at hml
  cases first with
  | true =>
   rw [if_pos rfl,if_pos rfl,znE]
   cases h0 : (zbB k m).2 == 0 with
   | false => rfl
   | true =>
    rw [if_pos rfl,if_pos rfl];have hfs := ziy k m;have hgx : GoodH (zbB k m).1 := zsQ (k := k) (s := m) (by rw [show (0 : Int) = (zbB k m).2 from (by simpa using h0 : (zbB k m).2 = 0).symm]);exact zCc hsT hs n _ hgx (by rw [hfs]; decide) (by rw [hfs]; intro f hf; cases hf) _
  | false =>
   rw [yif,yif,zfH]
   cases h0 : (zaQ m).2 == 0 with
   | false => rfl
   | true =>
    rw [if_pos rfl,if_pos rfl];exact zCc hsT hs n _ (zuP (hg rfl) _) (by unfold zm3; simp; omega) (zpr hsm (by omega)) _
 | succ d ih =>
  intro i hi hd n first h a hn ha hg hfl hsm
  by_cases hie : T.length - i ≤ d
  ·exact ih i hi hie n first h a (by omega) ha hg hfl hsm
  ·have hlt : i < T.length := by omega
   obtain ⟨n,rfl⟩ : ∃ m,n = m + 1 := ⟨n - 1,by omega⟩
   have hsi : s[i]? = some T[i] := by rw [hsT,List.getElem?_append_left hlt]; exact ygg hlt
   obtain ⟨y,hy⟩ : ∃ y,s[i + 1]? = some y := ⟨s[i + 1]'(by omega),ygg _⟩
   have hsi' : s[i]'(by omega) = T[i] := by have := ygg (show i < s.length by omega); rw [hsi] at this; exact (yoi this).symm
   by_cases hc : (T[i] == 13 && y == 10) = true
   ·-- a line's end
    have hc' := hc;simp only [Bool.and_eq_true,beq_iff_eq] at hc';obtain ⟨c1,c2⟩ := hc'
    have h0 : s[i]? = some 13 := by rw [hsi,c1]
    have h1 : s[i + 1]? = some 10 := by rw [hy,c2]
    have hlt2 : i + 1 < T.length := by
     by_cases hh : i + 1 < T.length
     ·exact hh
     ·exfalso
      have e : i + 1 = T.length := by omega
      rw [e,hsT,List.getElem?_append_right (Nat.le_refl _)] at h1;simp at h1
    have hT1 : T[i + 1] = 10 := by
     have : s[i + 1]? = some T[i + 1] := by rw [hsT,List.getElem?_append_left hlt2]; exact ygg hlt2
     rw [h1] at this; exact (yoi this).symm
    have hlines : lines (T.drop i) = [] :: lines (T.drop (i + 2)) := by
     rw [ydg hlt,ydg hlt2,zou,c1,hT1]; rfl
    obtain ⟨n,rfl⟩ : ∃ m,n = m + 1 := ⟨n - 1,by omega⟩;have hml := zsT s a i;rw [zyT hsT hs hi (n + 1) first h a ha (by omega) h0 h1,hlines];show _ = some (if first = true then znE k ((zkE s a i ++ []) :: lines (T.drop (i + 2))) else zfH h ((zkE s a i ++ []) :: lines (T.drop (i + 2))));rw [yan];generalize zkE s a i = m at hml
    -- behind it
    have nxt : ∀ r : api_Head,GoodH r → r.Fields.length ≤ i + 1 → zeH 400000000 r.Fields → zI k s (n + 1) r.Fields r.Kind r.Method r.Target r.Code r.Reason r.Minor false ((i + 2 : Nat) : Int) ((i + 1 : Nat) : Int) = some (zfH r (lines (T.drop (i + 2)))) := by
     intro r hgr hrl hrs;obtain ⟨z,hz⟩ : ∃ z,s[i + 1 + 1]? = some z := ⟨s[i + 1 + 1]'(by omega),ygg _⟩;rw [zyS hsT hs (by omega) n false r (i + 2) h1 hz (by rfl)];have := ih (i + 2) (by omega) (by omega) n false r (i + 2) (by omega) (Nat.le_refl _) (fun _ => hgr) (by omega) hrs;rw [zuR,zkx _ (znD _),yif] at this;exact this
    cases first with
    | true =>
     rw [if_pos rfl,if_pos rfl,znE]
     cases h0 : (zbB k m).2 == 0 with
     | false => rfl
     | true =>
      rw [if_pos rfl,if_pos rfl];have hfs := ziy k m;have hgx : GoodH (zbB k m).1 := zsQ (k := k) (s := m) (by rw [show (0 : Int) = (zbB k m).2 from (by simpa using h0 : (zbB k m).2 = 0).symm]);exact nxt _ hgx (by rw [hfs]; simp) (by rw [hfs]; intro f hf; cases hf)
    | false =>
     rw [yif,yif,zfH]
     cases h0 : (zaQ m).2 == 0 with
     | false => rfl
     | true =>
      rw [if_pos rfl,if_pos rfl];exact nxt _ (zuP (hg rfl) _) (by unfold zm3; simp; omega) (zpr hsm (by omega))
   ·have hc' : (T[i] == 13 && y == 10) = false := by simpa using hc
    rw [zyS hsT hs hi n first h a hsi hy hc'];have := ih (i + 1) (by omega) (by omega) n first h a (by omega) (by omega) hg (by omega) hsm;rw [this,zzs ha (by omega),hsi']
    have hlines : lines (T.drop i) = zew [T[i]] (lines (T.drop (i + 1))) := by
     rw [ydg hlt]
     by_cases hlt2 : i + 1 < T.length
     ·have hy2 : y = T[i + 1] := by
       have : s[i + 1]? = some T[i + 1] := by rw [hsT,List.getElem?_append_left hlt2]; exact ygg hlt2
       rw [hy] at this; exact yoi this
      rw [ydg hlt2,zou, ← hy2,hc',yif]
     ·have : T.drop (i + 1) = [] := List.drop_of_length_le (by omega);rw [this]; rfl
    rw [hlines,zlx _ _ _ (znD _)]
theorem zsU (k : Int) (s : Str) (lim : Int) (hs : s.length < 90000000) : zjU k s lim = some (zfI k s lim) := by
 have j1 : ze8 k s lim (!(k == 1) && !(k == 2)) = some (zfI k s lim) := by
  unfold ze8 zfI
  cases hk : (!(k == 1) && !(k == 2)) with
  | true => rfl
  | false =>
   rw [yif,yif]
   cases decide (lim < (s.length : Int)) with
   | true => rfl
   | false =>
    rw [yif,yif,zvy s (by omega),yob];have j2t : ze7 k s true = some (zx,6) := rfl
    by_cases h4 : s.length < 4
    ·rw [ydt (show (s.length : Int) < 4 by omega),if_pos rfl,j2t,zrz (by simpa using h4)]
    ·rw [ydf (show ¬ (s.length : Int) < 4 by omega),yif]
     cases hc : zaA [13,10,13,10] s with
     | none =>
      have : ((-1 : Int) == (s.length : Int)) = false := beq_eq_false_iff_ne.2 (by omega);dsimp only;rw [this];exact j2t
     | some p =>
      have e := zbF (a := p.1) (b := p.2) hc;have el := congrArg List.length e;simp only [yla,ylc,yln] at el;dsimp only
      cases hp : p.2 == [] with
      | false =>
       have hne : p.2 ≠ [] := by simpa using hp
       have hpl : 0 < p.2.length := List.length_pos_iff.2 hne;have : (((p.1.length + 4 : Nat) : Int) == (s.length : Int)) = false := beq_eq_false_iff_ne.2 (by omega);rw [this];exact j2t
      | true =>
       have hp0 : p.2 = [] := by simpa using hp
       rw [hp0] at el;rw [hp0,yan] at e;simp only [yln] at el
       have : (((p.1.length + 4 : Nat) : Int) == (s.length : Int)) = true := by rw [beq_iff_eq]; omega
       rw [this,ynt,if_pos rfl];unfold ze7;rw [yif];have := L3_eq (k := k) e hs p.1.length 0 (yz _) (by omega) fuel true zx 0 (by unfold fuel; omega) (Nat.le_refl _) (fun h => by cases h) (Nat.le_refl _) (fun f hf => by cases hf);rw [zuR,List.drop_zero,zkx _ (znD _),if_pos rfl] at this;exact this
 unfold zjU
 cases h1 : k == 1 with
 | true => rw [h1] at j1; exact j1
 | false => rw [h1] at j1; exact j1
theorem zuS : ∀ (ls : List Str) (h : api_Head),(zfH h ls).1.Fields.length ≤ h.Fields.length + ls.length
 | [],h => by
  rw [zfH]
  split
  ·simp
  ·simp [zx]
 | l :: ls,h => by
  rw [zfH]
  split
  ·have := zuS ls (zm3 h (zaQ l).1)
   have e : (zm3 h (zaQ l).1).Fields.length = h.Fields.length + 1 := by unfold zm3; simp
   simp only [ylc];omega
  ·simp [zx]
theorem zzt (k : Int) (s : Str) (lim : Int) : (zfI k s lim).1.Fields.length ≤ s.length + 1 := by
 unfold zfI
 split
 ·simp [zx]
 ·split
  ·simp [zx]
  ·cases hc : zaA [13,10,13,10] s with
   | none => simp [zx]
   | some p =>
    have el := congrArg List.length (zbF (a := p.1) (b := p.2) hc);simp only [yla,ylc,yln] at el;dsimp only
    split
    ·have hm := (zov _ p.1 (Nat.lt_succ_self _)).1
     cases hl : lines p.1 with
     | nil => simp [znE,zx]
     | cons l ls =>
      rw [hl] at hm;simp only [ylc] at hm;rw [znE]
      split
      ·have := zuS ls (zbB k l).1;rw [ziy] at this;simp only [yln] at this;omega
      ·simp [zx]
    ·simp [zx]
theorem zxZ {k : Int} {s : Str} {lim : Int} (h : ((zfI k s lim).2 == 0) = false) : (zfI k s lim).1 = zx := by
 have pF : ∀ (ls : List Str) (h : api_Head),((zfH h ls).2 == 0) = false → (zfH h ls).1 = zx := by
  intro ls
  induction ls with
  | nil =>
   intro h hh;rw [zfH] at hh ⊢
   split
   ·rename_i h1; rw [if_pos h1] at hh; cases hh
   ·rfl
  | cons l ls ih =>
   intro h hh;rw [zfH] at hh ⊢
   split
   ·rename_i h1; rw [if_pos h1] at hh; exact ih _ hh
   ·rfl
 unfold zfI at h ⊢
 split
 ·rfl
 ·rename_i h1
  rw [if_neg h1] at h
  split
  ·rfl
  ·rename_i h2
   rw [if_neg h2] at h
   split
   ·rfl
   ·rename_i p hp
    rw [hp] at h;dsimp only at h
    split
    ·rename_i h3
     rw [if_pos h3] at h
     cases hl : lines p.1 with
     | nil => rfl
     | cons l ls =>
      rw [hl] at h;rw [znE] at h ⊢
      split
      ·rename_i h4; rw [if_pos h4] at h; exact pF _ _ h
      ·rfl
    ·rfl

end Go.Dm
end
section
namespace Go.Dm
theorem zql : ∀ (ls : List Str) (x h : api_Head),zfH x ls = (h,0) → h = ⟨x.Kind,x.Method,x.Target,x.Code,x.Reason,x.Minor,x.Fields ++ ls.map fun l => (zaQ l).1⟩ ∧ zlE h = 0
 | [],x,h,e => by
  rw [zfH] at e
  split at e
  ·rename_i h1
   have := congrArg Prod.fst e;dsimp only at this;subst this;exact ⟨by rw [List.map_nil,yan],by simpa using h1⟩
  ·rename_i h1
   have := congrArg Prod.snd e;dsimp only at this;rw [this] at h1; exact absurd rfl h1
 | l :: ls,x,h,e => by
  rw [zfH] at e
  split at e
  ·obtain ⟨a,b⟩ := zql ls _ h e;exact ⟨by rw [a]; unfold zm3; simp,b⟩
  ·rename_i h1
   have := congrArg Prod.snd e;dsimp only at this;rw [this] at h1; exact absurd rfl h1
theorem ztz {k : Int} {s : Str} {lim : Int} {h : api_Head} (e : zfI k s lim = (h,0)) (hs : s.length ≤ 4000) :
  h.Fields.length ≤ 100 ∧ zeH 4000 h.Fields ∧ ∃ l x,zbB k l = (x,0) ∧ x.Method = h.Method ∧ x.Code = h.Code := by
 unfold zfI at e
 split at e
 ·exact absurd (show (1 : Int) = 0 from congrArg Prod.snd e) (by decide)
 ·split at e
  ·exact absurd (show (3 : Int) = 0 from congrArg Prod.snd e) (by decide)
  ·split at e
   ·exact absurd (show (6 : Int) = 0 from congrArg Prod.snd e) (by decide)
   ·rename_i p hp
    split at e
    ·have es := zbF (a := p.1) (b := p.2) hp;have esl := congrArg List.length es;simp only [yla,ylc,yln] at esl
     cases hl : lines p.1 with
     | nil => exact absurd hl (znD _)
     | cons l ls =>
      have hml := (zov _ p.1 (Nat.lt_succ_self _)).2;rw [hl] at hml;rw [hl,znE] at e
      split at e
      ·rename_i h4
       have h40 : (zbB k l).2 = 0 := by simpa using h4
       have hx : zbB k l = ((zbB k l).1,0) := Prod.ext rfl h40;have hfx := ziy k l;obtain ⟨a,b⟩ := zql ls _ h e;rw [hfx,yna] at a
       have hfl : h.Fields = ls.map fun l => (zaQ l).1 := by rw [a]
       refine ⟨?_,?_,l,_,hx,by rw [a],by rw [a]⟩
       ·by_cases hh : 100 < h.Fields.length
        ·unfold zlE at b;rw [ydt hh,if_pos rfl] at b;exact absurd b (by decide)
        ·omega
       ·rw [hfl];intro f hf;obtain ⟨m,hm,rfl⟩ := List.mem_map.1 hf;have := zsR m;have := hml m (List.mem_cons_of_mem _ hm);omega
      ·rename_i h4
       have := congrArg Prod.snd e;dsimp only at this;rw [this] at h4; exact absurd rfl h4
    ·exact absurd (show (6 : Int) = 0 from congrArg Prod.snd e) (by decide)
end Go.Dm
end
section
namespace Go.Dm
structure StepR where
 w : Bool
 e : Int
 v : Str
 f : Nat
 g : api_Head
def zj1 (u : Str) (frm : Nat) : Str := (u.take (u.length - 1)).drop frm
def zhr (u : Str) : Bool := u[u.length - 1]? == some 13
def zaT (k L : Int) (u : Str) (frm : Nat) (g : api_Head) (c : UInt8) : StepR :=
 if decide (L ≤ (u.length : Int)) then ⟨false,3,u,frm,g⟩
 else if !((c == 10) == zhr u) then ⟨false,24,u ++ [c],frm,g⟩
 else if !(c == 10) then ⟨false,0,u ++ [c],frm,g⟩
 else if frm == 0 then ⟨false,(zbB k (zj1 u frm)).2,u ++ [c],u.length + 1,g⟩
 else if !(zj1 u frm == []) then ⟨false,(zaQ (zj1 u frm)).2,u ++ [c],u.length + 1,g⟩
 else ⟨(zfI k (u ++ [c]) L).2 == 0,(zfI k (u ++ [c]) L).2,u ++ [c],frm,(zfI k (u ++ [c]) L).1⟩
def zsb (u : Str) (frm : Nat) : Prop := frm ≤ u.length ∧ (0 < u.length → frm = u.length → u[u.length - 1]? = some 10)
theorem zqC {u : Str} (h : zhr u = true) : 0 < u.length ∧ u[u.length - 1]? = some 13 := by
 unfold zhr at h
 have : u[u.length - 1]? = some 13 := by simpa using h
 refine ⟨?_,this⟩
 cases u with
 | nil => cases this
 | cons c u => simp
theorem zCS {u : Str} {frm : Nat} (hi : zsb u frm) (h : zhr u = true) : frm ≤ u.length - 1 := by
 obtain ⟨h1,h2⟩ := zqC h
 by_cases he : frm = u.length
 ·have := hi.2 h1 he;rw [h2] at this; cases this
 ·have := hi.1; omega
theorem zD2 (k L : Int) (u : Str) (c : UInt8) (f : Int) (t : Bool) (b : Int) (w : Bool) (g : api_Head) (hu : u.length < 80000000) : zeQ ⟨k,L,u ++ [c],f,t,b,w,g⟩ = some (!((c == 10) == zhr u)) := by
 have hl : ((u ++ [c]).length : Int) = (u.length : Int) + 1 := by simp
 have j1 : ∀ q,zb5 ⟨k,L,u ++ [c],f,t,b,w,g⟩ q = some (!((c == 10) == q)) := by
  intro q;unfold zb5;dsimp only
  have e1 : zbc ((u ++ [c]).length : Int) 1 = some (u.length : Int) := by rw [hl,z8 (by omega) (by omega)]; exact congrArg some (by omega)
  rw [e1,yob,zaF,show (u ++ [c])[u.length]? = some c by simp,yob]
 unfold zeQ;dsimp only
 by_cases h : 0 < u.length
 ·have e2 : zbc ((u ++ [c]).length : Int) 2 = some ((u.length - 1 : Nat) : Int) := by rw [hl,z8 (by omega) (by omega)]; exact congrArg some (by omega)
  have g2 : u[u.length - 1]? = some (u[u.length - 1]'(by omega)) := ygg (by omega)
  have g1 : (u ++ [c])[u.length - 1]? = some (u[u.length - 1]'(by omega)) := by rw [List.getElem?_append_left (by omega),g2]
  rw [ydt (show 1 < ((u ++ [c]).length : Int) by omega),if_pos rfl,e2,yob,zaF,g1,yob,j1];unfold zhr;rw [g2,zsK]
 ·have hu0 : u = [] := List.length_eq_zero_iff.1 (by omega);subst hu0;rw [ydf (by simp),yif,j1];rfl
theorem zD3 (k L : Int) (v : Str) (f : Nat) (t : Bool) (b : Int) (w : Bool) (g : api_Head) (s : Str) (hv : v.length < 80000000) (hs : s.length < 80000000) :
  zeW ⟨k,L,v,(f : Int),t,b,w,g⟩ s = some (if f == 0 then (false,(zbB k s).2,⟨k,L,v,(v.length : Int),t,b,w,g⟩) else if !(s == []) then (false,(zaQ s).2,⟨k,L,v,(v.length : Int),t,b,w,g⟩) else ((zfI k v L).2 == 0,(zfI k v L).2,(⟨k,L,v,(f : Int),t,b,w,(zfI k v L).1⟩ : accum_Accum))) := by
 unfold zeW zdl;dsimp only
 have hf : ((f : Int) == 0) = (f == 0) := by rw [Bool.eq_iff_iff]; simp
 rw [hf,zhX k s (by omega),yob,zhS s (by omega),yob,zt7 k v L (by omega),yob];cases f == 0 <;> cases s == [] <;> rfl
theorem zD4 (k L : Int) (u : Str) (f : Nat) (t : Bool) (b : Int) (w : Bool) (g : api_Head) (c : UInt8) (hu : u.length < 70000000) (hi : zsb u f) :
  zdx ⟨k,L,u,(f : Int),t,b,w,g⟩ c = some ((zaT k L u f g c).w,(zaT k L u f g c).e,⟨k,L,(zaT k L u f g c).v,((zaT k L u f g c).f : Int),t,b,w,(zaT k L u f g c).g⟩) := by
 unfold zdx zaT;dsimp only
 cases decide (L ≤ (u.length : Int)) with
 | true => rfl
 | false =>
  rw [yif,yif,if_pos (zbb (by omega) (by omega)),zD2 k L u c _ _ _ _ _ (by omega),yob]
  cases hb : !((c == 10) == zhr u) with
  | true => rfl
  | false =>
   rw [yif,yif]
   cases hc : c == 10 with
   | false => rfl
   | true =>
    rw [hc] at hb
    have h13 : zhr u = true := by cases h : zhr u with
     | true => rfl
     | false => rw [h] at hb; cases hb
    obtain ⟨hp,_⟩ := zqC h13;have hf := zCS hi h13
    have hl : ((u ++ [c]).length : Int) = (u.length : Int) + 1 := by simp
    have e2 : zbc ((u ++ [c]).length : Int) 2 = some ((u.length - 1 : Nat) : Int) := by rw [hl,z8 (by omega) (by omega)]; exact congrArg some (by omega)
    have e3 : lSub (u ++ [c]) (f : Int) ((u.length - 1 : Nat) : Int) = some (zj1 u f) := by
     have := zbx (l := u ++ [c]) (i := f) (h := u.length - 1) hf (by simp; omega);have hta : (u ++ [c]).take (u.length - 1) = u.take (u.length - 1) := List.take_append_of_le_length (by omega);unfold zd0 at this;unfold lSub zj1;rw [← hta];exact this
    have hll : (zj1 u f).length ≤ u.length := by unfold zj1; simp; omega
    rw [ynt,yif,yif,e2,yob,e3,yob,zD3 k L _ f t b w g _ (by simp; omega) (by omega),yob]
    have hn : (u ++ [c]).length = u.length + 1 := by simp
    rw [hn];cases f == 0 <;> cases zj1 u f == [] <;> rfl
theorem zwd {k L : Int} {u : Str} {f : Nat} {g : api_Head} {c : UInt8} (hi : zsb u f) (hw : ((zaT k L u f g c).w || !((zaT k L u f g c).e == 0)) = false) :
  (zaT k L u f g c).v = u ++ [c] ∧ (zaT k L u f g c).g = g ∧ zsb (u ++ [c]) (zaT k L u f g c).f ∧ (u.length : Int) < L := by
 have key : ∀ f',f' ≤ u.length → zsb (u ++ [c]) f' := fun f' h => ⟨by simp; omega,fun _ h2 => by simp at h2; omega⟩;have key2 : c = 10 → zsb (u ++ [c]) (u.length + 1) := fun h => ⟨by simp,fun _ _ => by rw [h]; simp⟩;unfold zaT at hw ⊢
 cases hL : decide (L ≤ (u.length : Int)) with
 | true => rw [hL,if_pos rfl] at hw; cases hw
 | false =>
  have hL' : (u.length : Int) < L := by have := of_decide_eq_false hL; omega
  rw [hL,yif] at hw;rw [yif]
  cases hb : !((c == 10) == zhr u) with
  | true => rw [hb,if_pos rfl] at hw; cases hw
  | false =>
   rw [hb,yif] at hw;rw [yif]
   cases hc : c == 10 with
   | false => exact ⟨rfl,rfl,key f hi.1,hL'⟩
   | true =>
    have hc' : c = 10 := by simpa using hc
    rw [hc,ynt,yif] at hw;rw [ynt,yif]
    cases h0 : f == 0 with
    | true => exact ⟨rfl,rfl,key2 hc',hL'⟩
    | false =>
     rw [h0,yif] at hw;rw [yif]
     cases hl : !(zj1 u f == []) with
     | true => exact ⟨rfl,rfl,key2 hc',hL'⟩
     | false =>
      rw [hl,yif] at hw
      exfalso
      dsimp only at hw
      cases hh : (zfI k (u ++ [c]) L).2 == 0 with
      | true => rw [hh] at hw; cases hw
      | false => rw [hh] at hw; cases hw
theorem zCT {k L : Int} {u : Str} {f : Nat} {g : api_Head} {c : UInt8} (hw : ((zaT k L u f g c).w || !((zaT k L u f g c).e == 0)) = true) :
  (zaT k L u f g c).w = ((zaT k L u f g c).e == 0) ∧ ((zaT k L u f g c).w = true → zfI k (u ++ [c]) L = ((zaT k L u f g c).g,0)) ∧ ((zaT k L u f g c).w = false → g = zx → (zaT k L u f g c).g = zx) ∧ (zaT k L u f g c).g.Fields.length ≤ g.Fields.length + u.length + 2 := by
 have nz : ∀ {e : Int},((false : Bool) || !(e == 0)) = true → (false : Bool) = (e == 0) := fun {e} h => by
  cases he : e == 0 with
  | true => rw [he] at h; cases h
  | false => rfl
 unfold zaT at hw ⊢
 split
 ·exact ⟨rfl,(fun h => by cases h),(fun _ h => h),by dsimp only; omega⟩
 ·rename_i h1
  rw [if_neg h1] at hw
  split
  ·exact ⟨rfl,(fun h => by cases h),(fun _ h => h),by dsimp only; omega⟩
  ·rename_i h2
   rw [if_neg h2] at hw
   split
   ·rename_i h3; rw [if_pos h3] at hw; cases hw
   ·rename_i h3
    rw [if_neg h3] at hw
    split
    ·rename_i h4; rw [if_pos h4] at hw; exact ⟨nz hw,(fun h => by cases h),(fun _ h => h),by dsimp only; omega⟩
    ·rename_i h4
     rw [if_neg h4] at hw
     split
     ·rename_i h5; rw [if_pos h5] at hw; exact ⟨nz hw,(fun h => by cases h),(fun _ h => h),by dsimp only; omega⟩
     ·have hl := zzt k (u ++ [c]) L;refine ⟨rfl,fun h => ?_,fun h _ => zxZ h,?_⟩
      ·have : (zfI k (u ++ [c]) L).2 = 0 := by simpa using h
       exact Prod.ext rfl this
      ·dsimp only; simp only [yla,ylc,yln] at hl; omega
def znm (k L : Int) (g : api_Head) : Str → Str → Nat → Nat → Option (Nat × StepR) × Nat
 | [],_,f,_ => (none,f)
 | c :: r,u,f,i => if (zaT k L u f g c).w || !((zaT k L u f g c).e == 0) then (some (i + 1,zaT k L u f g c),f) else znm k L g r (u ++ [c]) (zaT k L u f g c).f (i + 1)
def feedR (k L : Int) (g : api_Head) (u : Str) (f : Nat) (t : Bool) (s : Str) : Int × Bool × Int × accum_Accum := match znm k L g s u f 0 with
 | (some z,_) => ((z.1 : Int),z.2.w,z.2.e,⟨k,L,[],(z.2.f : Int),true,z.2.e,z.2.w,z.2.g⟩)
 | (none,f') => ((s.length : Int),false,0,⟨k,L,u ++ s,(f' : Int),t || !(s == []),0,false,g⟩)
theorem ztQ (k L : Int) (g : api_Head) (s : Str) (hs : s.length < 30000000) : ∀ (r : Str) (n i : Nat) (u : Str) (f : Nat) (t : Bool),s.drop i = r → i ≤ s.length → r.length < n → u.length + r.length < 60000000 → zsb u f →
  zas s n k L u (f : Int) t 0 false g.Kind g.Method g.Target g.Code g.Reason g.Minor g.Fields (i : Int) = some (match znm k L g r u f i with
   | (some z,_) => ((z.1 : Int),z.2.w,z.2.e,⟨k,L,[],(z.2.f : Int),true,z.2.e,z.2.w,z.2.g⟩)
   | (none,f') => ((s.length : Int),false,0,⟨k,L,u ++ r,(f' : Int),t || !(r == []),0,false,g⟩))
 | [],n,i,u,f,t,hd,hi,hn,hu,hv => by
  obtain ⟨n,rfl⟩ : ∃ m,n = m + 1 := ⟨n - 1,by simp at hn; omega⟩
  have : i = s.length := by have := congrArg List.length hd; simp at this; omega
  subst this;rw [zas,ydf (by omega),yif];unfold zeM znm;dsimp only;rw [yan,show (([] : Str) == []) = true from rfl,ynt,Bool.or_false]
 | c :: r,n,i,u,f,t,hd,hi,hn,hu,hv => by
  simp only [ylc] at hn hu;obtain ⟨n,rfl⟩ : ∃ m,n = m + 1 := ⟨n - 1,by omega⟩;obtain ⟨hlt,hdr⟩ := zfn hd
  have hg : s[i]? = some c := by have := congrArg (·[0]?) hd; simpa using this
  have ht := zD4 k L u f true 0 false g c (by omega) hv;rw [zas,ydt (by omega),if_pos rfl,zA,hg,yob];show ((zdx ⟨k,L,u,(f : Int),true,0,false,g⟩ c).bind _) = _;rw [ht,yob,znm];have hon := fun h => zwd (k := k) (L := L) (g := g) (c := c) hv h;generalize zaT k L u f g c = q at hon;obtain ⟨qw,qe,qv,qf,qg⟩ := q;dsimp only at hon ⊢;unfold zdm;dsimp only
  cases qw with
  | true =>
   rw [Bool.true_or,if_pos rfl,if_pos rfl,if_pos rfl,zf (by omega),yob]
  | false =>
   cases h0 : qe == 0 with
   | false =>
    rw [Bool.false_or,ynf,if_pos rfl,yif,if_pos rfl,zf (by omega),yob]
   | true =>
    have he : qe = 0 := by simpa using h0
    subst he;obtain ⟨h1,h2,h3,_⟩ := hon (by rfl);subst h1;subst h2;rw [Bool.false_or,ynt,yif,yif,yif,zf (by omega),yob];have ih := ztQ k L qg s hs r n (i + 1) (u ++ [c]) qf true hdr (by omega) (by omega) (by simp; omega) h3;rw [ih]
    have e1 : u ++ [c] ++ r = u ++ c :: r := by simp
    have e2 : ((true : Bool) || !(r == [])) = (t || !((c :: r : Str) == [])) := by
     have : ((c :: r : Str) == []) = false := rfl;rw [this]; cases t <;> rfl
    rw [e1,e2]
theorem zD5 (k L : Int) (g : api_Head) (u : Str) (f : Nat) (t : Bool) (s : Str) (hs : s.length < 30000000) (hu : u.length < 30000000) (hi : zsb u f) : zdy ⟨k,L,u,(f : Int),t,0,false,g⟩ s = some (feedR k L g u f t s) := by
 unfold zdy zdn;exact ztQ k L g s hs s fuel 0 u f t rfl (yz _) (by unfold fuel; omega) (by omega) hi
theorem zoF {k L : Int} {g : api_Head} : ∀ {s u : Str} {f i : Nat} {z : Nat × StepR} {f' : Nat},zsb u f → znm k L g s u f i = (some z,f') →
  i < z.1 ∧ z.1 ≤ i + s.length ∧ z.2.w = (z.2.e == 0) ∧ (z.2.w = true → zfI k ((u ++ s).take (u.length + (z.1 - i))) L = (z.2.g,0)) ∧ (z.2.w = false → g = zx → z.2.g = zx) ∧ z.2.g.Fields.length ≤ g.Fields.length + u.length + s.length + 2
 | [],u,f,i,z,f',_,h => by cases h
 | c :: s,u,f,i,z,f',hi,h => by
  rw [znm] at h
  cases hw : (zaT k L u f g c).w || !((zaT k L u f g c).e == 0) with
  | true =>
   rw [hw,if_pos rfl] at h;have hz := congrArg Prod.fst h;dsimp only at hz;obtain rfl := yoi hz;obtain ⟨a,b,c',d⟩ := zCT hw;refine ⟨by dsimp only; omega,by dsimp only; rw [ylc]; omega,a,fun h => ?_,c',by simp only [ylc]; omega⟩
   have e : (u ++ c :: s).take (u.length + (i + 1 - i)) = u ++ [c] := by
    rw [show u.length + (i + 1 - i) = (u ++ [c]).length by simp,show u ++ c :: s = (u ++ [c]) ++ s by simp,List.take_left']; rfl
   dsimp only;rw [e];exact b h
  | false =>
   rw [hw,yif] at h;obtain ⟨_,_,h3,_⟩ := zwd hi hw;obtain ⟨a,b,c',d,e',l'⟩ := zoF h3 h;refine ⟨by omega,by simp only [ylc]; omega,c',fun hh => ?_,e',by simp only [yla,ylc,yln] at l' ⊢; omega⟩;have := d hh;rw [show u ++ [c] ++ s = u ++ c :: s by simp,show (u ++ [c]).length + (z.1 - (i + 1)) = u.length + (z.1 - i) by simp; omega] at this;exact this
theorem zqD : zsb [] 0 := ⟨Nat.le_refl _,fun h => absurd h (by decide)⟩
theorem zCU (k L : Int) : zko k L = some (if !((k == 1) || (k == 2)) || decide (L < 0) || decide (65536 < L) then (none,1) else (some ⟨k,L,[],0,false,0,false,zx⟩,0)) := by
 unfold zko zee;cases k == 1 <;> cases k == 2 <;> cases decide (L < 0) <;> cases decide (65536 < L) <;> rfl
def zCV (a : accum_Accum) : api_Head × Bool := if a.f_whole then (a.f_got,true) else (zx,false)
theorem zD6 (a : accum_Accum) (h : a.f_got.Fields.length < 1000000) : zeX a = some (zCV a) := by
 unfold zeX zCV
 cases a.f_whole with
 | false => rfl
 | true => rw [ynt,yif,if_pos rfl,if_pos (zbb (by omega) (by omega))]

end Go.Dm
end
section
namespace Go.Dm
def ztc : Option (Nat × StepR) × Nat → ref16_Fate
 | (some z,_) => ⟨(z.1 : Int),z.2.e,z.2.g⟩
 | (none,_) => ⟨0,0,zx⟩
theorem zwW (k L : Int) (s : Str) (hs : s.length < 80000) : ∀ (r : Str) (n i f : Nat),s.drop i = r → i ≤ s.length → r.length < n → zsb (s.take i) f →
  zbm k L s n (f : Int) (i : Int) = some (ztc (znm k L zx r (s.take i) f i)) := by
 intro r
 induction r with
 | nil =>
  intro n i f hd hi hn _
  have hl : i = s.length := by have := congrArg List.length hd; simp at this; omega
  obtain ⟨n,rfl⟩ : ∃ m,n = m + 1 := ⟨n - 1,by simp at hn; omega⟩;rw [zbm,ydf (show ¬ (i : Int) < (s.length : Int) by omega),yif];rfl
 | cons c r ihr =>
  intro n i f hd hi hn hv
  have hlt : i < s.length := by have := congrArg List.length hd; simp at this; omega
  have hg : s[i]? = some c := by have := congrArg (·[0]?) hd; simpa using this
  have hn' : r.length + 1 < n := by simpa using hn
  obtain ⟨n,rfl⟩ : ∃ m,n = m + 1 := ⟨n - 1,by omega⟩
  have hul : (s.take i).length = i := by simp; omega
  have htk : s.take (i + 1) = s.take i ++ [c] := by rw [List.take_add_one,hg]; rfl
  have hdr : s.drop (i + 1) = r := by rw [← List.drop_drop,hd]; rfl
  have ih : ∀ f',zsb (s.take i ++ [c]) f' → zbm k L s n (f' : Int) ((i + 1 : Nat) : Int) = some (ztc (znm k L zx r (s.take i ++ [c]) f' (i + 1))) := fun f' hv' => by
   rw [← htk] at hv' ⊢;exact ihr n (i + 1) f' hdr (by omega) (by omega) hv'
  rw [zbm,ydt (show (i : Int) < (s.length : Int) by omega),if_pos rfl,znm];generalize hrec : zbm k L s n = rec at ih ⊢
  have hon : ∀ f',zaT k L (s.take i) f zx c = ⟨false,0,s.take i ++ [c],f',zx⟩ → rec (f' : Int) ((i + 1 : Nat) : Int) = some (ztc (if (zaT k L (s.take i) f zx c).w || !((zaT k L (s.take i) f zx c).e == 0) then (some (i + 1,zaT k L (s.take i) f zx c),f) else znm k L zx r (s.take i ++ [c]) (zaT k L (s.take i) f zx c).f (i + 1))) := fun f' h => by
   have hi2 := (zwd (k := k) (L := L) (g := zx) (c := c) hv (by rw [h]; rfl)).2.2.1;rw [h] at hi2 ⊢;exact ih f' hi2
  have hoff : ∀ e g',zaT k L (s.take i) f zx c = ⟨e == 0,e,s.take i ++ [c],f,g'⟩ ∨ (∃ u' f',e ≠ 0 ∧ zaT k L (s.take i) f zx c = ⟨false,e,u',f',g'⟩) → some ((⟨((i + 1 : Nat) : Int),e,g'⟩ : ref16_Fate)) = some (ztc (if (zaT k L (s.take i) f zx c).w || !((zaT k L (s.take i) f zx c).e == 0) then (some (i + 1,zaT k L (s.take i) f zx c),f) else znm k L zx r (s.take i ++ [c]) (zaT k L (s.take i) f zx c).f (i + 1))) := fun e g' h => by
   rcases h with h | ⟨u',f',he,h⟩
   ·rw [h]; cases e == 0 <;> rfl
   ·rw [h];have : (e == 0) = false := beq_eq_false_iff_ne.2 he;dsimp only;rw [this]; rfl
  by_cases hL : L ≤ (i : Int)
  ·rw [ydt hL,if_pos rfl,zf (by omega),yob];exact hoff 3 zx (.inr ⟨_,_,by decide,by unfold zaT; rw [hul,ydt hL,if_pos rfl]⟩)
  ·rw [ydf hL,yif]
   have h13 : ∀ (X : Bool → Option ref16_Fate),(if decide ((0 : Int) < (i : Int)) = true then ((zbc (i : Int) 1).bind fun i16 => (sAt s i16).bind fun b17 => X (b17 == 13)) else X false) = X (zhr (s.take i)) := fun X => by
    unfold zhr;rw [hul]
    by_cases h0 : 0 < i
    ·have hp : i - 1 < s.length := by omega
     rw [ydt (show (0 : Int) < (i : Int) by omega),if_pos rfl,z8 (by omega) (by omega),yob,show (i : Int) - 1 = ((i - 1 : Nat) : Int) by omega,zA,ygg hp,yob,List.getElem?_take,if_pos (by omega),ygg hp]
     congr 1
    ·obtain rfl : i = 0 := by omega
     rw [ydf (by omega),yif];rfl
   rw [h13 (fun t => zgX rec k L s (f : Int) (i : Int) t)]
   have hj2 : ∀ t,zgX rec k L s (f : Int) (i : Int) t = zeq rec k L s (f : Int) (i : Int) (!((c == 10) == t)) := fun t => by
    unfold zgX;simp only [zA,hg,yob]
    have b1 : ∀ t,(!(true == t)) = !t := by decide
    have b2 : ∀ t,(!(false == t)) = t := by decide
    cases c == 10 with
    | true =>
     rw [b1,if_pos rfl,ynt,yif]
     cases t with
     | true => rw [ynt,yif]
     | false => rw [ynf,if_pos rfl]
    | false => rw [b2,yif,ynf,if_pos rfl]
   rw [hj2];unfold zeq;have hsA : zaT k L (s.take i) f zx c = if !((c == 10) == zhr (s.take i)) then ⟨false,24,s.take i ++ [c],f,zx⟩
     else if !(c == 10) then ⟨false,0,s.take i ++ [c],f,zx⟩
     else if f == 0 then ⟨false,(zbB k (zj1 (s.take i) f)).2,s.take i ++ [c],(s.take i).length + 1,zx⟩
     else if !(zj1 (s.take i) f == []) then ⟨false,(zaQ (zj1 (s.take i) f)).2,s.take i ++ [c],(s.take i).length + 1,zx⟩
     else ⟨(zfI k (s.take i ++ [c]) L).2 == 0,(zfI k (s.take i ++ [c]) L).2,s.take i ++ [c],f,(zfI k (s.take i ++ [c]) L).1⟩ := by
    conv => lhs; unfold zaT
    rw [hul,ydf hL,yif]
   cases hb : !((c == 10) == zhr (s.take i)) with
   | true =>
    rw [if_pos rfl,zf (by omega),yob];exact hoff 24 zx (.inr ⟨_,_,by decide,by rw [hsA,hb,if_pos rfl]⟩)
   | false =>
    rw [yif,zA,hg,yob];rw [hb,yif] at hsA
    cases hc : c == 10 with
    | false =>
     rw [hc,ynf,if_pos rfl] at hsA;rw [ynf,if_pos rfl];unfold zie;rw [zf (by omega),yob];exact hon f hsA
    | true =>
     rw [hc] at hb;rw [hc,ynt,yif] at hsA
     have h13t : zhr (s.take i) = true := by cases h : zhr (s.take i) with
      | true => rfl
      | false => rw [h] at hb; cases hb
     obtain ⟨hp,_⟩ := zqC h13t;have hf := zCS hv h13t;rw [hul] at hp hf
     have e3 : zd0 s (f : Int) ((i - 1 : Nat) : Int) = some (zj1 (s.take i) f) := by
      rw [zbx hf (by omega)];unfold zj1;rw [hul,List.take_take,Nat.min_eq_left (by omega)]
     have hll : (zj1 (s.take i) f).length ≤ s.length := by unfold zj1; simp; omega
     rw [ynt,yif,z8 (by omega) (by omega),yob,show (i : Int) - 1 = ((i - 1 : Nat) : Int) by omega,e3,yob]
     have j4 : ∀ e : Int,zaT k L (s.take i) f zx c = ⟨false,e,s.take i ++ [c],(s.take i).length + 1,zx⟩ → zif rec (i : Int) e = some (ztc (if (zaT k L (s.take i) f zx c).w || !((zaT k L (s.take i) f zx c).e == 0) then (some (i + 1,zaT k L (s.take i) f zx c),f) else znm k L zx r (s.take i ++ [c]) (zaT k L (s.take i) f zx c).f (i + 1))) := fun e h => by
      unfold zif
      cases he : e == 0 with
      | false =>
       rw [ynf,if_pos rfl,zf (by omega),yob];exact hoff e zx (.inr ⟨_,_,beq_eq_false_iff_ne.1 he,h⟩)
      | true =>
       obtain rfl : e = 0 := by simpa using he
       rw [ynt,yif,zf (by omega),yob];unfold zie;rw [zf (by omega),yob];rw [hul] at h;exact hon (i + 1) h
     have hfz : ((f : Int) == 0) = (f == 0) := by rw [Bool.eq_iff_iff,beq_iff_eq,beq_iff_eq]; omega
     rw [hfz]
     cases hf0 : f == 0 with
     | true =>
      rw [hf0,if_pos rfl] at hsA;rw [if_pos rfl,znL _ _ (by omega),yob];exact j4 _ hsA
     | false =>
      rw [hf0,yif] at hsA;rw [yif]
      cases hle : zj1 (s.take i) f == [] with
      | false =>
       rw [hle,ynf,if_pos rfl] at hsA;rw [ynf,if_pos rfl,zkF _ (by omega),yob];exact j4 _ hsA
      | true =>
       rw [hle,ynt,yif] at hsA;rw [ynt,yif,zf (by omega),yob,zbR (by omega),yob,htk,zsU _ _ _ (by simp; omega),yob,yob];exact hoff _ _ (.inl hsA)
theorem zwX (k L : Int) (s : Str) (hs : s.length < 80000) : zqm k L s = some (ztc (znm k L zx s [] 0 0)) :=
 zwW k L s hs s fuel 0 0 rfl (yz _) (by unfold fuel; omega) zqD

end Go.Dm
end
section
namespace Go.Dm
theorem zkv {s : Str} {l : List Str} (h : zik s = some l) : l.length ≤ s.length + 1 ∧ ∀ x ∈ l,x.length ≤ s.length := by
 unfold zik at h;obtain ⟨m,hm,rfl⟩ := Option.map_eq_some_iff.1 h
 have key : ∀ (s : Str) (k : Nat) (cur : Str) (m : List Str),zij k cur s = some m → m.length ≤ s.length + 1 ∧ ∀ x ∈ m,x.length ≤ cur.length + s.length := by
  intro s
  induction s with
  | nil => intro k cur m h; rw [zsl] at h; cases h; simp
  | cons c r ih =>
   intro k cur m h
   have one : ∀ k,zij k (cur ++ [c]) r = some m → m.length ≤ (c :: r).length + 1 ∧ ∀ x ∈ m,x.length ≤ cur.length + (c :: r).length := fun k h => by
    have := ih k _ m h
    simp only [ylc,yla,yln] at *
    exact ⟨by omega,fun x hx => by have := this.2 x hx; omega⟩
   cases k with
   | succ k => exact one k h
   | zero =>
    cases h1 : (c == 34 || c == 40) with
    | true =>
     rw [zvi cur r h1] at h
     split at h
     ·cases h
     ·exact one _ h
    | false =>
     cases h2 : c == 44 with
     | true =>
      have : c = 44 := by simpa using h2
      subst this;rw [zpj] at h;obtain ⟨m',hm',rfl⟩ := Option.map_eq_some_iff.1 h;have := ih 0 [] m' hm'
      simp only [ylc,yln] at *
      refine ⟨by omega,fun x hx => ?_⟩
      rcases List.mem_cons.1 hx with rfl | hx
      ·omega
      ·have := this.2 x hx; omega
     | false => rw [zsm cur r h1 h2] at h; exact one 0 h
 have := key s 0 [] m hm;unfold elems;refine ⟨?_,fun x hx => ?_⟩
 ·have h1 := List.length_filter_le (fun x : Str => !(x == [])) (m.map zca);rw [List.length_map] at h1;omega
 ·have h1 := (List.mem_filter.1 hx).1;obtain ⟨y,hy,rfl⟩ := List.mem_map.1 h1;have := this.2 y hy;have := zsg y
  simp at *
  omega
end Go.Dm
end
section
namespace Go.Dm
def zrh : List Str → List Str → List Str × Int
 | [],out => (out,0)
 | v :: vs,out => match zik v with
  | none => ([],2)
  | some l => if l.all zeK then zrh vs (out ++ l) else ([],2)
theorem zv6 (rec1 : List Str → Int → Option (List Str × Int)) (l6 : List Str) (i7 : Nat) (l : List Str) (e : Int) (hl : l.length < 1000000000) (hx : ∀ x ∈ l,x.length < 900000000) (h6 : (l6.length + l.length) * 16 ≤ 140737488355328) (h7 : i7 < 1000000000) :
  zcs rec1 l6 (i7 : Int) (l,e) fuel 0 = if l.all zeK then rec1 (l6 ++ l) ((i7 + 1 : Nat) : Int) else some ([],2) := by
 have key : ∀ (n i : Nat),i ≤ l.length → l.length - i < n → zcs rec1 l6 (i7 : Int) (l,e) n (i : Int) = if (l.drop i).all zeK then rec1 (l6 ++ l) ((i7 + 1 : Nat) : Int) else some ([],2) := by
  intro n
  induction n with
  | zero => intro i _ h; omega
  | succ n ih =>
   intro i hi h;rw [zcs]
   by_cases hlt : i < l.length
   ·have g : l[i]? = some l[i] := ygg hlt;have hxl := hx l[i] (ygm _);dsimp only;rw [ydt (show (i : Int) < (l.length : Int) by omega),if_pos rfl,zaF,g,yob,zsO _ (by omega),yob,zf (by omega),yob,ih (i + 1) (by omega) (by omega),ydg hlt,List.all_cons];cases zeK l[i] <;> rfl
   ·have : i = l.length := by omega
    subst this;dsimp only;rw [ydf (by omega),if_neg (by decide),if_pos (zbb h6 (by omega)),zf (by omega),yob,ydl];rfl
 have := key fuel 0 (yz _) (by unfold fuel; omega);rw [List.drop_zero] at this;exact this
theorem zri (vs : List Str) (hn : vs.length ≤ 1000) (hv : ∀ v ∈ vs,v.length < 400000) : zhC vs = some (zrh vs []) := by
 unfold zhC
 have key : ∀ (n i : Nat) (out : List Str),i ≤ vs.length → vs.length - i < n → out.length ≤ i * 400001 → zct vs n out (i : Int) = some (zrh (vs.drop i) out) := by
  intro n
  induction n with
  | zero => intro i _ _ h; omega
  | succ n ih =>
   intro i out hi h ho;rw [zct]
   by_cases hlt : i < vs.length
   ·have g : vs[i]? = some vs[i] := ygg hlt;have hvl := hv vs[i] (ygm _);rw [ydt (show (i : Int) < (vs.length : Int) by omega),if_pos rfl,zaF,g,yob,zne _ (by omega),yob,ydg hlt,zrh];unfold zoh
    cases hs : zik vs[i] with
    | none => rfl
    | some l =>
     have hm := zkv hs;dsimp only;rw [if_neg (by decide),zv6 _ _ _ l 0 (by omega) (fun x hx => by have := hm.2 x hx; omega) (by omega) (by omega)]
     cases ha : l.all zeK with
     | false => rfl
     | true => rw [if_pos rfl,if_pos rfl,ih (i + 1) _ (by omega) (by omega) (by rw [yla]; omega)]
   ·have : i = vs.length := by omega
    subst this;rw [ydf (by omega),if_neg (by decide),ydl];rfl
 have := key fuel 0 [] (yz _) (by unfold fuel; omega) (by simp);rw [List.drop_zero] at this;exact this
theorem zur (rec1 : List Str → Int → Option (List Str × Int)) (i7 : Nat) (l : List Str) (e : Int) (l6 : List Str) (hl : l.length < 1000000000) (hx : ∀ x ∈ l,x.length < 900000000) (h6 : (l6.length + l.length) * 16 ≤ 140737488355328) (h7 : i7 < 1000000000) :
  zde rec1 (i7 : Int) (l,e) fuel l6 0 = if l.all zeK then rec1 (l6 ++ l) ((i7 + 1 : Nat) : Int) else some ([],2) := by
 have key : ∀ (n i : Nat) (out : List Str),i ≤ l.length → l.length - i < n → out.length = l6.length + i → zde rec1 (i7 : Int) (l,e) n out (i : Int) = if (l.drop i).all zeK then rec1 (out ++ l.drop i) ((i7 + 1 : Nat) : Int) else some ([],2) := by
  intro n
  induction n with
  | zero => intro i _ _ h; omega
  | succ n ih =>
   intro i out hi h ho;rw [zde]
   by_cases hlt : i < l.length
   ·have g : l[i]? = some l[i] := ygg hlt;have hxl := hx l[i] (ygm _);dsimp only;rw [ydt (show (i : Int) < (l.length : Int) by omega),if_pos rfl,zaF,g,yob,zkD _ (by omega),yob,yob,if_pos (zbb (by omega) (by omega)),zf (by omega),yob,ih (i + 1) _ (by omega) (by omega) (by rw [yla]; simp; omega),ydg hlt,List.all_cons,yaa];cases zeK l[i] <;> rfl
   ·have : i = l.length := by omega
    subst this;dsimp only;rw [ydf (by omega),if_neg (by decide),zf (by omega),yob,ydl,yan];rfl
 have := key fuel 0 l6 (yz _) (by unfold fuel; omega) rfl;rw [List.drop_zero] at this;exact this
theorem zr7 (vs : List Str) (hn : vs.length ≤ 1000) (hv : ∀ v ∈ vs,v.length < 400000) : zhk vs = some (zrh vs []) := by
 unfold zhk
 have key : ∀ (n i : Nat) (out : List Str),i ≤ vs.length → vs.length - i < n → out.length ≤ i * 400001 → zdf vs n out (i : Int) = some (zrh (vs.drop i) out) := by
  intro n
  induction n with
  | zero => intro i _ _ h; omega
  | succ n ih =>
   intro i out hi h ho;rw [zdf]
   by_cases hlt : i < vs.length
   ·have g : vs[i]? = some vs[i] := ygg hlt;have hvl := hv vs[i] (ygm _);rw [ydt (show (i : Int) < (vs.length : Int) by omega),if_pos rfl,zaF,g,yob,znY _ (by omega),yob,ydg hlt,zrh];unfold zoh
    cases hs : zik vs[i] with
    | none => rfl
    | some l =>
     have hm := zkv hs;dsimp only;rw [if_neg (by decide),zur _ _ l 0 out (by omega) (fun x hx => by have := hm.2 x hx; omega) (by omega) (by omega)]
     cases ha : l.all zeK with
     | false => rfl
     | true => rw [if_pos rfl,if_pos rfl,ih (i + 1) _ (by omega) (by omega) (by rw [yla]; omega)]
   ·have : i = vs.length := by omega
    subst this;rw [ydf (by omega),if_neg (by decide),ydl];rfl
 have := key fuel 0 [] (yz _) (by unfold fuel; omega) (by simp);rw [List.drop_zero] at this;exact this
abbrev zi5 : Int := 1099511627776
def zus : Int → List Str → Option Int
 | i,[] => some i
 | i,t :: ts => if (zL 10 t zi5).2 == 0 then (if decide (0 ≤ i) && !((zL 10 t zi5).1 == i) then none else zus (zL 10 t zi5).1 ts) else none
def zv7 : Int → List Str → Option Int
 | i,[] => some i
 | i,v :: vs => match zik v with
  | none => none
  | some l => match zus i l with
   | none => none
   | some k => zv7 k vs
def zrj : api_Frame × Int := (⟨0,0⟩,28)
def lenR (o : Option Int) : api_Frame × Int := match o with
 | none => zrj
 | some i => if i < 0 then zrj else (⟨2,i⟩,0)
theorem zut (rec1 : Int → Int → Option (api_Frame × Int)) (i7 : Nat) (l : List Str) (e : Int) (k : Int) (hl : l.length < 1000000000) (hx : ∀ x ∈ l,x.length < 900000000) (h7 : i7 < 1000000000) :
  zC rec1 (i7 : Int) (l,e) fuel k 0 = match zus k l with | none => some zrj | some j => rec1 j ((i7 + 1 : Nat) : Int) := by
 have key : ∀ (n i : Nat) (k : Int),i ≤ l.length → l.length - i < n → zC rec1 (i7 : Int) (l,e) n k (i : Int) = match zus k (l.drop i) with | none => some zrj | some j => rec1 j ((i7 + 1 : Nat) : Int) := by
  intro n
  induction n with
  | zero => intro i _ _ h; omega
  | succ n ih =>
   intro i k hi h;rw [zC]
   by_cases hlt : i < l.length
   ·have g : l[i]? = some l[i] := ygg hlt;have hxl := hx l[i] (ygm _)
    have hj : ∀ b : Bool,zaj (zC rec1 (i7 : Int) (l,e) n) (i : Int) (zL 10 l[i] zi5) b = if b then some zrj else (match zus (zL 10 l[i] zi5).1 (l.drop (i + 1)) with | none => some zrj | some j => rec1 j ((i7 + 1 : Nat) : Int)) := by
     intro b;unfold zaj;rw [zf (by omega),yob,ih (i + 1) _ (by omega) (by omega)];rfl
    dsimp only;rw [ydt (show (i : Int) < (l.length : Int) by omega),if_pos rfl,zaF,g,yob,zfm _ _ (by omega) (by decide) (by decide),yob,hj,hj,hj,ydg hlt,zus]
    cases (zL 10 l[i] zi5).2 == 0 with
    | false => rfl
    | true =>
     cases decide (0 ≤ k) with
     | false => rfl
     | true => cases (zL 10 l[i] zi5).1 == k <;> rfl
   ·have : i = l.length := by omega
    subst this;dsimp only;rw [ydf (by omega),if_neg (by decide),zf (by omega),yob,ydl];rfl
 have := key fuel 0 k (yz _) (by unfold fuel; omega);rw [List.drop_zero] at this;exact this
theorem zyo (r : length_reader) (vs : List Str) (hn : vs.length ≤ 1000) (hv : ∀ v ∈ vs,v.length < 400000) : zcl r vs = some (lenR (zv7 (-1) vs)) := by
 unfold zcl
 have key : ∀ (n i : Nat) (k : Int),i ≤ vs.length → vs.length - i < n → zT vs n k (i : Int) = some (lenR (zv7 k (vs.drop i))) := by
  intro n
  induction n with
  | zero => intro i _ _ h; omega
  | succ n ih =>
   intro i k hi h;rw [zT]
   by_cases hlt : i < vs.length
   ·have g : vs[i]? = some vs[i] := ygg hlt;have hvl := hv vs[i] (ygm _);rw [ydt (show (i : Int) < (vs.length : Int) by omega),if_pos rfl,zaF,g,yob,zne _ (by omega),yob,ydg hlt,zv7];unfold zoh
    cases hs : zik vs[i] with
    | none => rfl
    | some l =>
     have hm := zkv hs;dsimp only;rw [if_neg (by decide),zut _ _ l 0 k (by omega) (fun x hx => by have := hm.2 x hx; omega) (by omega)]
     cases zus k l with
     | none => rfl
     | some j => exact ih (i + 1) j (by omega) (by omega)
   ·have : i = vs.length := by omega
    subst this;rw [ydf (by omega),if_neg (by decide),ydl,zv7,lenR]
    by_cases hk : k < 0
    ·rw [ydt hk,if_pos rfl,if_pos hk]; rfl
    ·rw [ydf hk,if_neg (by decide),if_neg hk]
 have := key fuel 0 (-1) (yz _) (by unfold fuel; omega);rw [List.drop_zero] at this;exact this
def zeu : List Str → Option (List Int)
 | [] => some []
 | t :: ts => if (zL 10 t zi5).2 == 0 then (zeu ts).map fun ns => (zL 10 t zi5).1 :: ns else none
def zjZ : List Str → Option (List Int)
 | [] => some []
 | v :: vs => match zik v with
  | none => none
  | some l => match zeu l with
   | none => none
   | some a => (zjZ vs).map fun b => a ++ b
def zmN : Option (List Int) → api_Frame × Int
 | none => zrj
 | some [] => zrj
 | some (n :: ns) => if ns.all (fun m => m == n) then (⟨2,n⟩,0) else zrj
def zlr : Int → List Int → Option Int
 | i,[] => some i
 | i,n :: ns => if decide (0 ≤ i) && !(n == i) then none else zlr n ns
theorem zyp : ∀ (l : List Str) (i : Int),(zeu l = none ∧ zus i l = none) ∨ ∃ ns,zeu l = some ns ∧ (∀ n ∈ ns,0 ≤ n) ∧ zus i l = zlr i ns := by
 intro l
 induction l with
 | nil => intro i; exact .inr ⟨[],rfl,(fun n h => by cases h),rfl⟩
 | cons t ts ih =>
  intro i;rw [zeu,zus]
  cases h : (zL 10 t zi5).2 == 0 with
  | false => exact .inl ⟨rfl,rfl⟩
  | true =>
   have h0 := (zkO (b := 10) (s := t) (most := zi5) (by simpa using h) (by decide)).1;rw [if_pos rfl,if_pos rfl]
   rcases ih (zL 10 t zi5).1 with ⟨q1,q2⟩ | ⟨ns,q1,q2,q3⟩
   ·left
    rw [q1,q2];refine ⟨rfl,?_⟩
    split <;> rfl
   ·right
    refine ⟨(zL 10 t zi5).1 :: ns,by rw [q1]; rfl,fun n hn => ?_,by rw [zlr,q3]⟩
    rcases List.mem_cons.1 hn with rfl | hn
    ·exact h0
    ·exact q2 n hn
theorem zz6 : ∀ (a b : List Int) (i : Int),zlr i (a ++ b) = match zlr i a with | none => none | some k => zlr k b := by
 intro a
 induction a with
 | nil => intro b i; rfl
 | cons n ns ih =>
  intro b i;rw [List.cons_append,zlr,zlr]
  split
  ·rfl
  ·exact ih b n
theorem zyq : ∀ (vs : List Str) (i : Int),(zjZ vs = none ∧ zv7 i vs = none) ∨ ∃ ns,zjZ vs = some ns ∧ (∀ n ∈ ns,0 ≤ n) ∧ zv7 i vs = zlr i ns := by
 intro vs
 induction vs with
 | nil => intro i; exact .inr ⟨[],rfl,(fun n h => by cases h),rfl⟩
 | cons v vs ih =>
  intro i;rw [zjZ,zv7]
  cases hs : zik v with
  | none => exact .inl ⟨rfl,rfl⟩
  | some l =>
   dsimp only
   rcases zyp l i with ⟨q1,q2⟩ | ⟨a,q1,q2,q3⟩
   ·left; rw [q1,q2]; exact ⟨rfl,rfl⟩
   ·rw [q1,q3];dsimp only
    cases hv : zjZ vs with
    | none =>
     left
     refine ⟨rfl,?_⟩
     cases zlr i a with
     | none => rfl
     | some k =>
      rcases ih k with ⟨_,r2⟩ | ⟨ns,r1,_,_⟩
      ·exact r2
      ·rw [hv] at r1; cases r1
    | some b =>
     right
     have hb : ∀ n ∈ b,0 ≤ n := by
      rcases ih 0 with ⟨r1,_⟩ | ⟨ns,r1,r2,_⟩
      ·rw [hv] at r1; cases r1
      ·rw [hv] at r1; cases r1; exact r2
     refine ⟨a ++ b,rfl,fun n hn => (List.mem_append.1 hn).elim (q2 n) (hb n),?_⟩;rw [zz6]
     cases zlr i a with
     | none => rfl
     | some k =>
      rcases ih k with ⟨r1,_⟩ | ⟨ns,r1,_,r3⟩
      ·rw [hv] at r1; cases r1
      ·rw [hv] at r1; cases r1; exact r3
theorem zz7 : ∀ (ns : List Int) (n : Int),0 ≤ n → (∀ m ∈ ns,0 ≤ m) → zlr n ns = if ns.all (fun m => m == n) then some n else none := by
 intro ns
 induction ns with
 | nil => intro n _ _; rfl
 | cons m ns ih =>
  intro n hn h;rw [zlr,ydt hn,Bool.true_and,List.all_cons]
  cases hm : m == n with
  | false => rfl
  | true =>
   have e : m = n := by simpa using hm
   subst e;rw [ynt,yif,ih m hn (fun x hx => h x (List.mem_cons_of_mem _ hx)),Bool.true_and]
theorem zz8 (vs : List Str) : lenR (zv7 (-1) vs) = zmN (zjZ vs) := by
 rcases zyq vs (-1) with ⟨q1,q2⟩ | ⟨ns,q1,q2,q3⟩
 ·rw [q1,q2]; rfl
 ·rw [q1,q3]
  cases ns with
  | nil => rfl
  | cons n ns =>
   have hn := q2 n (List.mem_cons_self ..);rw [zlr,show decide ((0 : Int) ≤ -1) = false from rfl,Bool.false_and,yif,zz7 ns n hn (fun m hm => q2 m (List.mem_cons_of_mem _ hm)),zmN]
   cases ns.all (fun m => m == n) with
   | false => rfl
   | true =>
    rw [if_pos rfl,if_pos rfl,lenR]
    try dsimp only
    rw [if_neg (by omega)]
theorem zCJ (rec3 : List Int → Int → Option (api_Frame × Int)) (i45 : Nat) (l : List Str) (e : Int) (out : List Int) (hl : l.length < 1000000000) (hx : ∀ x ∈ l,x.length < 900000000) (h6 : (out.length + l.length) * 8 ≤ 140737488355328) (h7 : i45 < 1000000000) :
  zg1 rec3 (i45 : Int) (l,e) fuel out 0 = match zeu l with | none => some zrj | some a => rec3 (out ++ a) ((i45 + 1 : Nat) : Int) := by
 have key : ∀ (n i : Nat) (o : List Int),i ≤ l.length → l.length - i < n → o.length = out.length + i → zg1 rec3 (i45 : Int) (l,e) n o (i : Int) = match zeu (l.drop i) with | none => some zrj | some a => rec3 (o ++ a) ((i45 + 1 : Nat) : Int) := by
  intro n
  induction n with
  | zero => intro i _ _ h; omega
  | succ n ih =>
   intro i o hi h ho;rw [zg1]
   by_cases hlt : i < l.length
   ·have g : l[i]? = some l[i] := ygg hlt;have hxl := hx l[i] (ygm _);dsimp only;rw [ydt (show (i : Int) < (l.length : Int) by omega),if_pos rfl,zaF,g,yob];show ((zfy l[i] ((10 : Nat) : Int) zi5).bind _) = _;rw [zjt (by simp [zim]) _ _ (by omega) (by decide) (by decide),yob,if_pos (zbb (by omega) (by omega)),zf (by omega),yob,ih (i + 1) _ (by omega) (by omega) (by rw [yla]; simp; omega),ydg hlt,zeu]
    cases (zL 10 l[i] zi5).2 == 0 with
    | false => rfl
    | true =>
     rw [ynt,yif,if_pos rfl]
     cases zeu (l.drop (i + 1)) with
     | none => rfl
     | some a => dsimp only [Option.map_some]; rw [yaa]; rfl
   ·have : i = l.length := by omega
    subst this;dsimp only;rw [ydf (by omega),if_neg (by decide),zf (by omega),yob,ydl,zeu];dsimp only;rw [yan]
 have := key fuel 0 out (yz _) (by unfold fuel; omega) rfl;rw [List.drop_zero] at this;exact this
theorem zCK (ns : List Int) (hl : ns.length < 1000000000) : zg2 ns fuel 0 = some (zmN (some ns)) := by
 cases ns with
 | nil => rfl
 | cons n ns =>
  have key : ∀ (f i : Nat),i ≤ (n :: ns).length → (n :: ns).length - i < f → zg2 (n :: ns) f (i : Int) = some (if ((n :: ns).drop i).all (fun m => m == n) then (⟨2,n⟩,0) else zrj) := by
   intro f
   induction f with
   | zero => intro i _ h; omega
   | succ f ih =>
    intro i hi h;rw [zg2]
    by_cases hlt : i < (n :: ns).length
    ·have g : (n :: ns)[i]? = some (n :: ns)[i] := ygg hlt;rw [ydt (show (i : Int) < ((n :: ns).length : Int) by omega),if_pos rfl,zaF,g,yob,zoc,List.getElem?_cons_zero,yob,zf (by omega),yob,ih (i + 1) (by omega) (by omega),ydg hlt,List.all_cons];cases (n :: ns)[i] == n <;> rfl
    ·have : i = (n :: ns).length := by omega
     subst this;rw [ydf (by omega),if_neg (by decide),ydl,zoc,List.getElem?_cons_zero,yob]
     have h0 : (((n :: ns).length : Int) == 0) = false := by simp; omega
     rw [h0];rfl
  have := key fuel 0 (yz _) (by unfold fuel; omega);rw [List.drop_zero,List.all_cons,ybs,Bool.true_and] at this;exact this
theorem zxo : ∀ (l : List Str) (a : List Int),zeu l = some a → a.length = l.length := by
 intro l
 induction l with
 | nil => intro a h; cases h; rfl
 | cons t ts ih =>
  intro a h;rw [zeu] at h
  split at h
  ·obtain ⟨b,hb,rfl⟩ := Option.map_eq_some_iff.1 h;simp [ih b hb]
  ·cases h
theorem zCL (vs : List Str) (hn : vs.length ≤ 1000) (hv : ∀ v ∈ vs,v.length < 400000) : zfj vs fuel [] 0 = some (zmN (zjZ vs)) := by
 have key : ∀ (n i : Nat) (out : List Int),i ≤ vs.length → vs.length - i < n → out.length ≤ i * 400001 → zfj vs n out (i : Int) = some (match zjZ (vs.drop i) with | none => zrj | some a => zmN (some (out ++ a))) := by
  intro n
  induction n with
  | zero => intro i _ _ h; omega
  | succ n ih =>
   intro i out hi h ho;rw [zfj]
   by_cases hlt : i < vs.length
   ·have g : vs[i]? = some vs[i] := ygg hlt;have hvl := hv vs[i] (ygm _);rw [ydt (show (i : Int) < (vs.length : Int) by omega),if_pos rfl,zaF,g,yob,znY _ (by omega),yob,ydg hlt,zjZ];unfold zoh
    cases hs : zik vs[i] with
    | none => rfl
    | some l =>
     have hm := zkv hs;dsimp only;rw [if_neg (by decide),zCJ _ _ l 0 out (by omega) (fun x hx => by have := hm.2 x hx; omega) (by omega) (by omega)]
     cases ha : zeu l with
     | none => rfl
     | some a =>
      have hal := zxo l a ha;dsimp only;rw [ih (i + 1) _ (by omega) (by omega) (by rw [yla]; omega)]
      cases zjZ (vs.drop (i + 1)) with
      | none => rfl
      | some b => dsimp only [Option.map_some]; rw [yaa]
   ·have : i = vs.length := by omega
    subst this;rw [ydf (by omega),if_neg (by decide),ydl,zCK _ (by omega),zjZ];dsimp only;rw [yan]
 have := key fuel 0 [] (yz _) (by unfold fuel; omega) (by simp);rw [List.drop_zero] at this;rw [show (0 : Int) = ((0 : Nat) : Int) from rfl,this];cases zjZ vs <;> rfl
def zls : Str := [116,114,97,110,115,102,101,114,45,101,110,99,111,100,105,110,103]
def zi6 : Str := [99,111,110,116,101,110,116,45,108,101,110,103,116,104]
def zfb (l : List api_Field) (nm : Str) : List Str := (l.filter (isN nm)).map (·.Value)
def zn9 : Str := [99,104,117,110,107,101,100]
def zoD (m : Int) (te : List Str) : api_Frame × Int :=
 if ((zrh te []).2 == 0) && !(m == 0) then (match (zrh te []).1 with
  | [x] => if low x == zn9 then (⟨3,0⟩,0) else (⟨0,0⟩,30)
  | _ => (⟨0,0⟩,30)) else (⟨0,0⟩,30)
def zmO (h : api_Head) (k : Int) : api_Frame × Int :=
 if (zfb h.Fields zls) == [] then (if (zfb h.Fields zi6) == [] then (⟨k,0⟩,0) else zmN (zjZ (zfb h.Fields zi6)))
 else if (zfb h.Fields zi6) == [] then zoD h.Minor (zfb h.Fields zls) else (⟨0,0⟩,29)
theorem zxp {B : Nat} : ∀ (vs : List Str) (out : List Str),(∀ v ∈ vs,v.length ≤ B) → (∀ x ∈ out,x.length ≤ B) → ∀ x ∈ (zrh vs out).1,x.length ≤ B := by
 intro vs
 induction vs with
 | nil => intro out _ ho; exact ho
 | cons v vs ih =>
  intro out h ho;rw [zrh]
  cases hs : zik v with
  | none => intro x hx; cases hx
  | some l =>
   have hm := zkv hs;have hv := h v (List.mem_cons_self ..);dsimp only
   split
   ·refine ih _ (fun x hx => h x (List.mem_cons_of_mem _ hx)) fun x hx => ?_
    rcases List.mem_append.1 hx with hx | hx
    ·exact ho x hx
    ·have := hm.2 x hx; omega
   ·intro x hx; cases hx
theorem zz9 (r : length_reader) (vs : List Str) (hn : vs.length ≤ 1000) (hv : ∀ v ∈ vs,v.length < 400000) : zcN r vs = some (zoD r.f_minor vs) := by
 have ht := zri vs hn hv;have hb := zxp (B := 400000) vs [] (fun v h => Nat.le_of_lt (hv v h)) (fun x h => by cases h);unfold zcN zoD;rw [ht,yob];generalize zrh vs [] = q at hb;obtain ⟨l,e⟩ := q;dsimp only at hb ⊢
 cases h0 : e == 0 with
 | false => rfl
 | true =>
  cases hm : r.f_minor == 0 with
  | true => rfl
  | false =>
   rw [ynt,yif,yif,ynf,Bool.and_true,if_pos rfl]
   match l,hb with
   | [],_ => rfl
   | [x],hb =>
    have hx := hb x (by simp);rw [show (!((([x] : List Str).length : Int) == 1)) = false from rfl,yif,zoc,List.getElem?_cons_zero,yob,zoW _ _ (by omega) (by decide),yob,show low ([99,104,117,110,107,101,100] : Str) = zn9 from by decide];unfold zat;dsimp only;cases low x == zn9 <;> rfl
   | x :: y :: l,_ =>
    have : (!(((x :: y :: l).length : Int) == 1)) = true := by simp; omega
    rw [this];rfl
theorem zyr (vs : List Str) (m : Int) (hn : vs.length ≤ 1000) (hv : ∀ v ∈ vs,v.length < 400000) :
  ((zhk vs).bind fun r19 =>
 if (!(r19.2 == 0)) then (zcV true) else (if (m == 0) then (zcV true) else (if (!((r19.1.length : Int) == 1)) then (zcV true) else ((lAt r19.1 0).bind fun x26 =>
 (zfA x26).bind fun r29 =>
 zcV (!(r29 == [99,104,117,110,107,101,100])))))) = some (zoD m vs) := by
 have ht := zr7 vs hn hv;have hb := zxp (B := 400000) vs [] (fun v h => Nat.le_of_lt (hv v h)) (fun x h => by cases h);unfold zoD;rw [ht,yob];generalize zrh vs [] = q at hb;obtain ⟨l,e⟩ := q;dsimp only at hb ⊢
 cases h0 : e == 0 with
 | false => rfl
 | true =>
  cases hm : m == 0 with
  | true => rfl
  | false =>
   rw [ynt,yif,yif,ynf,Bool.and_true,if_pos rfl]
   match l,hb with
   | [],_ => rfl
   | [x],hb =>
    have hx := hb x (by simp);rw [show (!((([x] : List Str).length : Int) == 1)) = false from rfl,yif,zoc,List.getElem?_cons_zero,yob,zjv _ (by omega),yob];unfold zcV;show (if (!(low x == zn9)) = true then _ else _) = _;dsimp only;cases low x == zn9 <;> rfl
   | x :: y :: l,_ =>
    have : (!(((x :: y :: l).length : Int) == 1)) = true := by simp; omega
    rw [this];rfl
theorem zmP {k : List api_Field} {B : Nat} (h1 : k.length ≤ 1000) (h2 : zeH B k) (nm : Str) : (zfb k nm).length ≤ 1000 ∧ ∀ v ∈ zfb k nm,v.length < B := by
 unfold zfb;refine ⟨?_,fun v hv => ?_⟩
 ·rw [List.length_map];have := List.length_filter_le (isN nm) k;omega
 ·obtain ⟨f,hf,rfl⟩ := List.mem_map.1 hv;exact (h2 f (List.mem_filter.1 hf).1).2
theorem zsi (l : List Str) : decide (0 < (l.length : Int)) = !(l == []) := by
 cases l with
 | nil => rfl
 | cons x l => simp <;> omega
theorem zqq (h : api_Head) (k : Int) (hl : h.Fields.length ≤ 1000) (hf : zeH 400000 h.Fields) : zkq h k = some (zmO h k) := by
 have e1 : isN ([84,114,97,110,115,102,101,114,45,69,110,99,111,100,105,110,103] : Str) = isN zls := by
  funext f; unfold isN
  rw [show low ([84,114,97,110,115,102,101,114,45,69,110,99,111,100,105,110,103] : Str) = low zls from by decide]
 have e2 : isN ([67,111,110,116,101,110,116,45,76,101,110,103,116,104] : Str) = isN zi6 := by
  funext f; unfold isN
  rw [show low ([67,111,110,116,101,110,116,45,76,101,110,103,116,104] : Str) = low zi6 from by decide]
 have b1 := zmP hl hf zls;have b2 := zmP hl hf zi6;unfold zkq zoA;rw [ztH _ (by omega),yob,yob,zlF _ _ (by decide) (by omega) (zfk (by decide) hf),yob,zlF _ _ (by decide) (by omega) (zfk (by decide) hf),yob,e1,e2];unfold zmO;show (if decide (0 < ((zfb h.Fields zls).length : Int)) = true then zfs h k ⟨h.Fields⟩ (zfb h.Fields zls) (zfb h.Fields zi6) (decide (0 < ((zfb h.Fields zi6).length : Int))) else zfs h k ⟨h.Fields⟩ (zfb h.Fields zls) (zfb h.Fields zi6) false) = _;unfold zfs;rw [zz9 _ _ b1.1 b1.2,zyo _ _ b2.1 b2.2,zz8,zsi,zsi,yob,yob];cases zfb h.Fields zls == [] <;> cases zfb h.Fields zi6 == [] <;> rfl
theorem zrQ (h : api_Head) (k : Int) (hl : h.Fields.length ≤ 1000) (hf : zeH 400000 h.Fields) : zmc h k = some (zmO h k) := by
 have b1 := zmP hl hf zls;have b2 := zmP hl hf zi6;unfold zmc;rw [zj9 _ _ (by decide) (by omega) (zfk (by decide) hf),yob,zj9 _ _ (by decide) (by omega) (zfk (by decide) hf),yob];unfold zmO;show (if decide (0 < ((zfb h.Fields zls).length : Int)) = true then zg3 h k (zfb h.Fields zls) (zfb h.Fields zi6) (decide (0 < ((zfb h.Fields zi6).length : Int))) else zg3 h k (zfb h.Fields zls) (zfb h.Fields zi6) false) = _;unfold zg3;rw [zyr _ _ b1.1 b1.2,zCL _ b2.1 b2.2,zsi,zsi]
 have hz : (((zfb h.Fields zi6).length : Int) == 0) = (zfb h.Fields zi6 == []) := by
  cases zfb h.Fields zi6 with
  | nil => rfl
  | cons x l => simp <;> omega
 rw [hz];cases zfb h.Fields zls == [] <;> cases zfb h.Fields zi6 == [] <;> rfl
def zrk (m : Str) (c : Int) : Bool := (m == [72,69,65,68]) || decide (c < 200) || (c == 204) || (c == 304) || ((m == [67,79,78,78,69,67,84]) && decide (c < 300))
def zfC (m : Str) (h : api_Head) : api_Frame × Int :=
 if h.Kind == 1 then zmO h 1 else if zrk m h.Code then (⟨1,0⟩,0) else zmO h 4
theorem zrl (m : Str) (h : api_Head) (hl : h.Fields.length ≤ 1000) (hf : zeH 400000 h.Fields) : zhD m h = some (zfC m h) := by
 have hb : zfM m h.Code = some (zrk m h.Code) := by
  unfold zfM zaE zrk;cases m == [72,69,65,68] <;> cases decide (h.Code < 200) <;> cases h.Code == 204 <;> cases h.Code == 304 <;> cases m == [67,79,78,78,69,67,84] <;> rfl
 unfold zhD zfC ziK zhR;rw [zqq h 1 hl hf,zqq h 4 hl hf,hb]
 cases h.Kind == 1 with
 | true => rfl
 | false => cases zrk m h.Code <;> rfl
theorem ztE (m : Str) (h : api_Head) (hl : h.Fields.length ≤ 1000) (hf : zeH 400000 h.Fields) : zjW m h = some (zfC m h) := by
 have hb : zg4 m h = some (if zrk m h.Code then (⟨1,0⟩,0) else zmO h 4) := by
  have e : decide (h.Code ≤ 299) = decide (h.Code < 300) := decide_eq_decide.2 (by omega);unfold zg4 zb2 zda zrk;rw [zrQ h 4 hl hf,e];cases m == [72,69,65,68] <;> cases decide (h.Code < 200) <;> cases h.Code == 204 <;> cases h.Code == 304 <;> cases m == [67,79,78,78,69,67,84] <;> cases decide (h.Code < 300) <;> rfl
 unfold zjW zfC;rw [zrQ h 1 hl hf,hb];cases h.Kind == 1 <;> rfl
end Go.Dm
end
section
namespace Go.Dm
def FL (s : Str) (n : Nat) (o : Str) (d : dechunk_Decoder) (i : Nat) (t : Bool) (e : Int) : Option (Int × Str × Bool × Int × dechunk_Decoder) :=
 zz s n o d.f_limit d.f_at d.f_line d.f_left d.f_sum d.f_spent d.f_trailers (i : Int) t e
def offD (d : dechunk_Decoder) : dechunk_Decoder := ⟨d.f_limit,4,[],d.f_left,d.f_sum,d.f_spent,d.f_trailers⟩
theorem zpm (s : Str) (n : Nat) (o : Str) (d : dechunk_Decoder) : FL s (n + 1) o d s.length false 0 = some ((s.length : Int),o,false,0,d) := by
 unfold FL;rw [zz,ydf (by omega),yif];rfl
theorem zCZ (s : Str) (n : Nat) (o : Str) (d : dechunk_Decoder) (i : Nat) : FL s (n + 1) o d i true 0 = some ((i : Int),o,true,0,offD d) := by
 unfold FL;rw [zz];cases decide ((i : Int) < (s.length : Int)) <;> rfl
theorem zin {s : Str} {i k : Nat} {d d' : dechunk_Decoder} {o q : Str} {t : Bool} {e : Int} (n : Nat) (hi : i < s.length) (hl : s.length < 100000000) (ho : o.length < 100000000) (hq : q.length < 100000000) (hk : k < 100000000)
  (hs : zk d (s.drop i) = some ((k : Int),q,t,e,d')) : FL s (n + 1) o d i false 0 = FL s n (o ++ q) d' (i + k) t e := by
 unfold FL;rw [zz,ydt (by omega),if_pos rfl,ynf,if_pos rfl];unfold zaw;rw [show ((0 : Int) == 0) = true from rfl,if_pos rfl,zB (by omega),yob];show ((zk d (s.drop i)).bind _) = _;rw [hs,yob];dsimp only;rw [if_pos (zbb (by omega) (by omega)),zfc (by omega),yob]
structure Seg (g : Str) (o : Str) (d : dechunk_Decoder) (o' : Str) (d' : dechunk_Decoder) : Prop where
 go : ∀ (s : Str) (i : Nat) (r : Str),s.length < 100000000 → At s i (g ++ r) → ∃ m,m ≤ g.length ∧ ∀ n,FL s (n + m) o d i false 0 = FL s n o' d' (i + g.length) false 0
 cut : ∀ (s : Str) (i : Nat) (p q : Str),s.length < 100000000 → At s i p → g = p ++ q → q ≠ [] → ∀ n,p.length < n → ∃ o2 d2,FL s n o d i false 0 = some ((s.length : Int),o2,false,0,d2)
theorem At.end_nil {s : Str} {i : Nat} (h : At s i []) : i = s.length := by have := h.len; simpa using this
theorem Seg.nil (o : Str) (d : dechunk_Decoder) : Seg [] o d o d :=
 ⟨fun s i r _ _ => ⟨0,Nat.le_refl _,fun n => rfl⟩,fun s i p q _ _ h hq => by
  have := (List.append_eq_nil_iff.1 h.symm).2
  exact absurd this hq⟩
theorem Seg.one {c : UInt8} {o : Str} {d d' : dechunk_Decoder} (ho : o.length < 100000000) (h : ∀ r,zk d (c :: r) = some (1,[],false,0,d')) : Seg [c] o d o d' := by
 constructor
 ·intro s i r hs ha;have hl := ha.len;have hd := ha.drop;refine ⟨1,by simp,fun n => ?_⟩;have := zin (s := s) (i := i) (k := 1) (q := []) (o := o) (d := d) (d' := d') (t := false) (e := 0) n (by simp at hl; omega) hs ho (by simp) (by decide) (by rw [hd]; exact h r);rw [this,yan];rfl
 ·intro s i p q hs ha hpq hq n hn
  cases p with
  | nil =>
   obtain ⟨n,rfl⟩ : ∃ m,n = m + 1 := ⟨n - 1,by simp at hn; omega⟩;rw [ha.end_nil];exact ⟨o,d,zpm s n o d⟩
  | cons x p =>
   have := congrArg List.length hpq;rw [yla,ylc,ylc,yln] at this;exact absurd (List.length_eq_zero_iff.1 (by omega)) hq
theorem Seg.data {x o : Str} {L lf sm sp : Int} {tr : List api_Field} {ln : Str} (hx : x ≠ []) (hl : lf = (x.length : Int)) (hxm : x.length < 100000000) (ho : o.length < 100000000) : Seg x o ⟨L,1,ln,lf,sm,sp,tr⟩ (o ++ x) ⟨L,2,ln,2,sm,sp,tr⟩ := by
 subst hl;have hxl : 0 < x.length := List.length_pos_iff.2 hx;constructor
 ·intro s i r hs ha;have hlen := ha.len;have hd := ha.drop;rw [yla] at hlen;refine ⟨1,by omega,fun n => ?_⟩;refine zin n (by omega) hs ho (by omega) (by omega) ?_;rw [hd];unfold zk zbL zau;dsimp only
  have e1 : min (x.length : Int) ((x ++ r).length : Int) = (x.length : Int) := by rw [yla]; omega
  rw [show ((1 : Int) == 1) = true from rfl,if_pos rfl,e1,z8 (by omega) (by omega),yob,show (((x.length : Int) - (x.length : Int)) == 0) = true by rw [Int.sub_self]; rfl,if_pos rfl,zbR (by simp),yob,List.take_left,yob]
 ·intro s i p q hs ha hpq hq n hn;have hlen := ha.len;have hd := ha.drop
  by_cases hp : p = []
  ·subst hp;obtain ⟨n,rfl⟩ : ∃ m,n = m + 1 := ⟨n - 1,by simp at hn; omega⟩;rw [ha.end_nil];exact ⟨o,_,zpm s n o _⟩
  ·have hql : 0 < q.length := List.length_pos_iff.2 hq
   have hle : x.length = p.length + q.length := by rw [hpq,yla]
   have hpl : 0 < p.length := List.length_pos_iff.2 hp;obtain ⟨n,rfl⟩ : ∃ m,n = m + 1 + 1 := ⟨n - 2,by omega⟩;refine ⟨o ++ p,⟨L,1,ln,(x.length : Int) - (p.length : Int),sm,sp,tr⟩,?_⟩
   have := zin (s := s) (i := i) (k := p.length) (q := p) (o := o) (d := ⟨L,1,ln,(x.length : Int),sm,sp,tr⟩) (d' := ⟨L,1,ln,(x.length : Int) - (p.length : Int),sm,sp,tr⟩) (t := false) (e := 0) (n + 1) (by omega) hs ho (by omega) (by omega) (by
    rw [hd];unfold zk zbL zau;dsimp only
    have e1 : min (x.length : Int) (p.length : Int) = (p.length : Int) := by omega
    have e2 : (((x.length : Int) - (p.length : Int)) == 0) = false := by rw [beq_eq_false_iff_ne]; omega
    rw [show ((1 : Int) == 1) = true from rfl,if_pos rfl,e1,z8 (by omega) (by omega),yob,e2,yif,zbR (Nat.le_refl _),yob,List.take_length,yob])
   rw [this,show i + p.length = s.length by omega];exact zpm s n _ _
def zkw (a : Int) : Int := if a == 3 then 1 else 0
theorem zqR (L a lf sm sp : Int) (u : Str) (tr : List api_Field) (c : UInt8) (r : Str) (ha : a = 0 ∨ a = 3) :
  zk ⟨L,a,u,lf,sm,sp,tr⟩ (c :: r) = (zaq ⟨L,a,u,lf,sm,sp,tr⟩ c).bind fun r25 => some (1,[],r25.1,r25.2.1,r25.2.2) := by
 have e1 : (a == 1) = false := by rcases ha with rfl | rfl <;> rfl
 have e2 : (a == 2) = false := by rcases ha with rfl | rfl <;> rfl
 unfold zk;dsimp only;rw [e1,yif,e2,yif,zg7,show (c :: r)[0]? = some c from rfl,yob]
theorem zyy (L lf sm sp : Int) (u : Str) (tr : List api_Field) (c : UInt8) : zaq ⟨L,0,u,lf,sm,sp,tr⟩ c = zu ⟨L,0,u,lf,sm,sp,tr⟩ c sp := by
 unfold zaq;dsimp only;rw [show ((0 : Int) == 3) = false from rfl,yif]
theorem zyz (L lf sm sp : Int) (u : Str) (tr : List api_Field) (c : UInt8) (h0 : 0 ≤ sp) (h1 : sp < 1000000000) : zaq ⟨L,3,u,lf,sm,sp,tr⟩ c = zu ⟨L,3,u,lf,sm,sp,tr⟩ c (sp + 1) := by
 unfold zaq;dsimp only;rw [show ((3 : Int) == 3) = true from rfl,if_pos rfl,zan (by omega) (by omega),yob]
theorem zze (u : Str) (c : UInt8) : zhr (u ++ [c]) = (c == 13) := by
 unfold zhr;simp
theorem zpR (L a lf sm sp : Int) (w : Str) (tr : List api_Field) (i5 : Int) (hu : w.length < 4097) (hL : i5 ≤ L) :
  zu ⟨L,a,w ++ [13],lf,sm,sp,tr⟩ 10 i5 = if (a == 0) = true then (zaW ⟨L,a,[],lf,sm,i5,tr⟩ w).bind fun r => some (false,r.1,r.2) else (zav ⟨L,a,[],lf,sm,i5,tr⟩ w).bind fun r => some (r.1,r.2.1,r.2.2) := by
 unfold zu;dsimp only
 have hl : ((w ++ [(13 : UInt8)]).length : Int) = (w.length : Int) + 1 := by simp
 have e2 : zbc ((w ++ [(13 : UInt8)]).length : Int) 1 = some (w.length : Int) := by rw [hl,z8 (by omega) (by omega)]; exact congrArg some (by omega)
 have g0 : 0 < ((w ++ [13]).length : Int) := by rw [hl]; omega
 have g1 : ¬ ((4098 : Int) ≤ ((w ++ [13]).length : Int)) := by rw [hl]; omega
 have g2 : (w ++ [(13 : UInt8)])[w.length]? = some 13 := by simp
 rw [ydt g0,if_pos rfl,e2,yob,zaF,g2,yob];unfold zU zak;dsimp only;rw [ydf g1,yif,ydf (show ¬ (L < i5) by omega),yif];rw [show (!(((10 : UInt8) == 10) == ((13 : UInt8) == 13))) = false from rfl,yif,show (!((10 : UInt8) == 10)) = false from rfl,yif,e2,yob]
 have e3 : lTo (w ++ [(13 : UInt8)]) (w.length : Int) = some w := by
  have := zbR (l := w ++ [13]) (h := w.length) (by simp);rw [List.take_left] at this;exact this
 rw [e3,yob]
end Go.Dm
end
section
namespace Go.Dm
def zlX (r : Str) : Option (Str × Str) := if !(r.takeWhile zF == []) then some (r.takeWhile zF,r.dropWhile zF) else (zog r).map (fun p => (p.1,r.drop p.2))
theorem zje (p : UInt8 → Bool) (r : Str) : (r.dropWhile p).length + (r.takeWhile p).length = r.length := by
 have := congrArg List.length (List.takeWhile_append_dropWhile (p := p) (l := r));rw [yla] at this;omega
theorem zzJ (b : UInt8) (r : Str) : (zaa b r).length ≤ r.length := by unfold zaa; split <;> simp
theorem zuY {r : Str} {p : Str × Nat} (h : zog r = some p) : 1 ≤ p.2 ∧ p.2 ≤ r.length := by
 unfold zog at h
 split at h
 ·rename_i hb
  have hr := zeI hb
  cases hq : zc1 (zaa 34 r) with
  | none => rw [hq] at h; cases h
  | some q =>
   rw [hq] at h;cases h;have := zsk _ _ hq;have hl := congrArg List.length hr;rw [ylc] at hl;dsimp only;omega
 ·cases h
theorem zuZ {r : Str} {x r' : Str} (h : zlX r = some (x,r')) : r'.length < r.length := by
 unfold zlX at h;have h1 := zje zF r
 cases ht : r.takeWhile zF == [] with
 | false =>
  rw [ht,ynf,if_pos rfl] at h;cases h;have : r.takeWhile zF ≠ [] := beq_eq_false_iff_ne.1 ht;have := List.length_pos_iff.2 this;omega
 | true =>
  rw [ht,ynt,yif] at h
  cases hq : zog r with
  | none => rw [hq] at h; cases h
  | some q =>
   rw [hq] at h;cases h;have := zuY hq;simp;omega
section
variable {s r : Str} {k : Nat}
theorem zyV (hs : s.length < 1000000000) (h : At s k r) : match zlX r with
  | some (x,r') => ∃ k',At s k' r' ∧ zh8 (scn s k) = some (x,true,scn s k')
  | none => ∃ x c,zh8 (scn s k) = some (x,false,c) := by
 obtain ⟨k1,h1,e1⟩ := zqu hs h;unfold zh8 zlX;rw [e1,yob];dsimp only
 cases ht : r.takeWhile zF == [] with
 | false =>
  rw [ynf,if_pos rfl,if_pos rfl];exact ⟨k1,h1,rfl⟩
 | true =>
  have hte : r.takeWhile zF = [] := by simpa using ht
  have hdr : r.dropWhile zF = r := by
   have := List.takeWhile_append_dropWhile (p := zF) (l := r)
   rwa [hte,yna] at this
  rw [hdr] at h1;rw [ynt,yif,yif,zk9 hs h1,yob]
  cases hq : zog r with
  | none => exact ⟨_,_,rfl⟩
  | some p => exact ⟨_,h1.next p.2 (zuY hq).2,rfl⟩
end
theorem zoy (p : UInt8 → Bool) : ∀ (s : Str) (i : Nat),i < (s.takeWhile p).length → ∃ c,s[i]? = some c ∧ p c = true
 | [],i,h => by simp at h
 | c :: s,i,h => by
  rw [List.takeWhile_cons] at h
  cases hc : p c with
  | false => rw [hc] at h; simp at h
  | true =>
   rw [hc,if_pos rfl] at h
   cases i with
   | zero => exact ⟨c,rfl,hc⟩
   | succ i => exact zoy p s i (by simpa using h)
theorem zmu (p : UInt8 → Bool) : ∀ (s : Str),s.drop (s.takeWhile p).length = s.dropWhile p ∧ ∀ c,s[(s.takeWhile p).length]? = some c → p c = false
 | [] => ⟨rfl,fun c h => by simp at h⟩
 | c :: s => by
  rw [List.takeWhile_cons,List.dropWhile_cons]
  cases hc : p c with
  | false => exact ⟨rfl,fun d h => by simp at h; subst h; exact hc⟩
  | true =>
   obtain ⟨h1,h2⟩ := zmu p s;exact ⟨h1,fun d h => h2 d (by simpa using h)⟩
theorem zs5 (p : UInt8 → Bool) (s : Str) : s.take (s.takeWhile p).length = s.takeWhile p := by
 have := List.takeWhile_append_dropWhile (p := p) (l := s)
 conv => lhs; rw [← this]
 rw [List.take_append_of_le_length (by rw [this]; exact Nat.le_refl _),this];rw [List.take_of_length_le (Nat.le_refl _)]
theorem zDB (s : Str) (hs : s.length < 800000000) : zk1 s = some (match zlX s with | some (x,r') => (x,((s.length - r'.length : Nat) : Int)) | none => ([],0)) := by
 unfold zk1;have hd := zje zF s;obtain ⟨dh1,dh2⟩ := zmu zF s
 have key : ∀ (n i : Nat),i ≤ (s.takeWhile zF).length → (s.takeWhile zF).length - i < n → zdw s n (i : Int) = some (match zlX s with | some (x,r') => (x,((s.length - r'.length : Nat) : Int)) | none => ([],0)) := by
  intro n
  induction n with
  | zero => intro i _ h; omega
  | succ n ih =>
   intro i hi h;rw [zdw];unfold zhI
   by_cases hlt : i < (s.takeWhile zF).length
   ·obtain ⟨c,hg,hc⟩ := zoy zF s i hlt;rw [ydt (show (i : Int) < (s.length : Int) by omega),if_pos rfl,zA,hg,yob,ziw,yob,hc,if_pos rfl,zf (by omega),yob];exact ih (i + 1) (by omega) (by omega)
   ·obtain rfl : i = (s.takeWhile zF).length := by omega
    have fin : (if decide ((0 : Int) < ((s.takeWhile zF).length : Int)) = true then ((sTo s ((s.takeWhile zF).length : Int)).bind fun s14 => some (s14,((s.takeWhile zF).length : Int))) else ((zfi s).bind fun r17 => some (r17.1,r17.2))) = some (match zlX s with | some (x,r') => (x,((s.length - r'.length : Nat) : Int)) | none => ([],0)) := by
     unfold zlX
     cases ht : s.takeWhile zF with
     | cons c t =>
      have hp : (0 : Int) < ((c :: t : Str).length : Int) := by simp only [ylc]; omega
      have := zs5 zF s;rw [ht] at this hd;rw [ydt hp,if_pos rfl,zbR (by omega),yob,this];show _ = some (c :: t,((s.length - (s.dropWhile zF).length : Nat) : Int));rw [show s.length - (s.dropWhile zF).length = (c :: t : Str).length by omega]
     | nil =>
      rw [ydf (by decide),yif];show _ = some (match (zog s).map (fun p => (p.1,s.drop p.2)) with | some (x,r') => (x,((s.length - r'.length : Nat) : Int)) | none => ([],0));unfold zog
      cases s with
      | nil => rfl
      | cons b r =>
       rw [zaS]
       cases hb : b == 34 with
       | false =>
        unfold zfi ze9;have hne : (((b :: r : Str).length : Int) == 0) = false := beq_eq_false_iff_ne.2 (by simp only [ylc]; omega);rw [hne,yif,show sAt (b :: r) 0 = some b from rfl,yob,hb];rfl
       | true =>
        obtain rfl : b = 34 := by simpa using hb
        rw [zrM r (by simp at hs; omega),yob,if_pos rfl,zam]
        cases hq : zc1 r with
        | none => rfl
        | some q =>
         have := zsk _ _ hq;show some (q.1,((q.2 + 1 : Nat) : Int)) = some (q.1,(((34 :: r : Str).length - ((34 :: r : Str).drop (q.2 + 1)).length : Nat) : Int));rw [yld,ylc,show r.length + 1 - (r.length + 1 - (q.2 + 1)) = q.2 + 1 by omega]
    by_cases hl : (s.takeWhile zF).length < s.length
    ·have hg : s[(s.takeWhile zF).length]? = some s[(s.takeWhile zF).length] := ygg hl;have hc := dh2 _ hg;rw [ydt (show ((s.takeWhile zF).length : Int) < (s.length : Int) by omega),if_pos rfl,zA,hg,yob,ziw,yob,hc,yif];exact fin
    ·rw [ydf (show ¬ ((s.takeWhile zF).length : Int) < (s.length : Int) by omega),yif,yif];exact fin
 exact key fuel 0 (yz _) (by unfold fuel; omega)

end Go.Dm
end
