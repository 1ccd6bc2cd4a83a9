/-
 Messages: what is printed is read back; no beginning of it is a message.
-/
import Derived.Test.YtgjjlnlhpjjcpabGreatDoorT22
namespace Go.Dm
theorem zyh {k : Int} {s : Str} {x : api_Head} (h : zch k s = (x, 0)) : (10 : UInt8) ∉ s := by
 intro hm;have hany : s.any ([13, 10] : Str).contains = true := List.any_eq_true.2 ⟨10, hm, by decide⟩;unfold zch at h
 split at h
 ·exact absurd (show (1 : Int) = 0 from congrArg Prod.snd h) (by decide)
 ·exact absurd (show (24 : Int) = 0 from congrArg Prod.snd h) (by decide)
theorem zuW (k L : Int) (g : api_Head) (r : Str) : ∀ (w u : Str) (f i : Nat), (13 : UInt8) ∉ w → (10 : UInt8) ∉ w → zl0 u = false → ((u.length + w.length : Nat) : Int) ≤ L →
  zqh k L g (w ++ r) u f i = zqh k L g r (u ++ w) f (i + w.length) ∧ zl0 (u ++ w) = false
 | [], u, f, i, _, _, h, _ => by simp [h]
 | c :: w, u, f, i, h1, h2, h, hl => by
  have c1 : (c == 10) = false := by rw [beq_eq_false_iff_ne]; rintro rfl; exact h2 (List.mem_cons_self ..)
  have c2 : (c == 13) = false := by rw [beq_eq_false_iff_ne]; rintro rfl; exact h1 (List.mem_cons_self ..)
  rw [ylc] at hl
  have hL : ¬ (L ≤ (u.length : Int)) := by omega
  have hs : zdD k L u f g c = ⟨false, 0, u ++ [c], f, g⟩ := by
   unfold zdD;rw [ydf hL, if_neg yfn, c1, h, if_neg (by decide), if_pos (by decide)]
  have ih := zuW k L g r w (u ++ [c]) f (i + 1) (fun q => h1 (List.mem_cons_of_mem _ q)) (fun q => h2 (List.mem_cons_of_mem _ q)) (by rw [zlJ, c2]) (by simp; omega);rw [List.cons_append, zqh, hs]
  have e1 : u ++ [c] ++ w = u ++ c :: w := by simp
  rw [e1] at ih
  have e0 : ¬ (((⟨false, 0, u ++ [c], f, g⟩ : StepR).w || !((⟨false, 0, u ++ [c], f, g⟩ : StepR).e == 0)) = true) := by
   show ¬ ((false || !((0 : Int) == 0)) = true)
   decide
  refine ⟨?_, ih.2⟩;rw [if_neg e0, ih.1, ylc, show i + 1 + w.length = i + (w.length + 1) by omega]
theorem ztd (k L : Int) (g : api_Head) (r w u : Str) (f i : Nat) (h1 : (13 : UInt8) ∉ w) (h2 : (10 : UInt8) ∉ w) (h : zl0 u = false) (hl : ((u.length + w.length + 2 : Nat) : Int) ≤ L) :
  zqh k L g (w ++ 13 :: 10 :: r) u f i = (if ((zdD k L (u ++ w ++ [13]) f g 10).w || !((zdD k L (u ++ w ++ [13]) f g 10).e == 0)) = true then (some (i + w.length + 2, zdD k L (u ++ w ++ [13]) f g 10), f) else zqh k L g r (u ++ w ++ [13] ++ [10]) (zdD k L (u ++ w ++ [13]) f g 10).f (i + w.length + 2)) := by
 obtain ⟨e, h3⟩ := zuW k L g (13 :: 10 :: r) w u f i h1 h2 h (by omega)
 have hL : ¬ (L ≤ ((u ++ w).length : Int)) := by rw [yla]; omega
 have hs : zdD k L (u ++ w) f g 13 = ⟨false, 0, u ++ w ++ [13], f, g⟩ := by
  unfold zdD;rw [ydf hL, if_neg yfn, h3, if_neg (by decide), if_pos (by decide)]
 have e0 : ¬ (((⟨false, 0, u ++ w ++ [13], f, g⟩ : StepR).w || !((⟨false, 0, u ++ w ++ [13], f, g⟩ : StepR).e == 0)) = true) := by
  show ¬ ((false || !((0 : Int) == 0)) = true)
  decide
 rw [e, zqh, hs, if_neg e0, zqh]
theorem zte (k L : Int) (g : api_Head) (w u : Str) (f : Nat) (hl : ((u.length + w.length + 2 : Nat) : Int) ≤ L) :
  zdD k L (u ++ w ++ [13]) f g 10 = if (f == 0) = true then ⟨false, (zch k ((u ++ w).drop f)).2, u ++ w ++ [13] ++ [10], u.length + w.length + 2, g⟩
   else if (!((u ++ w).drop f == [])) = true then ⟨false, (zec ((u ++ w).drop f)).2, u ++ w ++ [13] ++ [10], u.length + w.length + 2, g⟩
   else ⟨(zjY k (u ++ w ++ [13] ++ [10]) L).2 == 0, (zjY k (u ++ w ++ [13] ++ [10]) L).2, u ++ w ++ [13] ++ [10], f, (zjY k (u ++ w ++ [13] ++ [10]) L).1⟩ := by
 have hlen : (u ++ w ++ [(13 : UInt8)]).length = u.length + w.length + 1 := by simp; omega
 have hL : ¬ (L ≤ ((u ++ w ++ [(13 : UInt8)]).length : Int)) := by rw [hlen]; omega
 have ha : znV (u ++ w ++ [13]) f = (u ++ w).drop f := by
  unfold znV;rw [hlen, Nat.add_sub_cancel, ← yla, List.take_left]
 unfold zdD;rw [ydf hL, if_neg yfn, zlJ, if_neg (by decide), if_neg (by decide), ha, hlen]
theorem ztf (k L : Int) (r : Str) (h : api_Head) : ∀ (fs : List api_Field) (u : Str) (i : Nat), u ≠ [] → zl0 u = false → (∀ f ∈ fs, zbi f = 0) → ((u.length + (zag fs).length : Nat) : Int) ≤ L → zjY k (u ++ zag fs) L = (h, 0) →
  ∃ z f', zqh k L zaE (zag fs ++ r) u u.length i = (some (i + (zag fs).length, z), f') ∧ z.w = true ∧ z.e = 0 ∧ z.g = h
 | [], u, i, hu, h13, _, hl, hh => by
  have hu0 : (u.length == 0) = false := by rw [beq_eq_false_iff_ne]; exact fun q => hu (List.length_eq_zero_iff.1 q)
  have e := ztd k L zaE r [] u u.length i (by simp) (by simp) h13 (by simpa [zag] using hl);have s := zte k L zaE [] u u.length (by simpa [zag] using hl)
  have hd : (u ++ []).drop u.length = [] := by simp
  have hh' : zjY k (u ++ [] ++ [13] ++ [10]) L = (h, 0) := by
   have : u ++ [] ++ [13] ++ [10] = u ++ zag [] := by simp [zag]
   rw [this]; exact hh
  rw [hu0, if_neg yfn, hd, if_neg (by decide), hh'] at s;rw [s] at e;refine ⟨⟨true, 0, u ++ [] ++ [13] ++ [10], u.length, h⟩, u.length, ?_, rfl, rfl, rfl⟩;exact e
 | f :: fs, u, i, hu, h13, hc, hl, hh => by
  have hu0 : (u.length == 0) = false := by rw [beq_eq_false_iff_ne]; exact fun q => hu (List.length_eq_zero_iff.1 q)
  have hf := hc f (List.mem_cons_self ..);obtain ⟨v1, v2⟩ := zoe hf;obtain ⟨n1, n2⟩ := zso v1;rw [zag, yla, ylc, ylc] at hl;have e := ztd k L zaE (zag fs ++ r) (zO f) u u.length i n1 n2 h13 (by omega);have s := zte k L zaE (zO f) u u.length (by omega)
  have hne : (!(zO f == [])) = true := by
   cases hx : zO f with
   | nil => exact absurd hx v2
   | cons x l => rfl
  rw [hu0, if_neg yfn, List.drop_left, if_pos hne, znh hf] at s
  have e0 : ¬ (((zdD k L (u ++ zO f ++ [13]) u.length zaE 10).w || !((zdD k L (u ++ zO f ++ [13]) u.length zaE 10).e == 0)) = true) := by
   rw [s];show ¬ ((false || !((0 : Int) == 0)) = true)
   decide
  rw [if_neg e0, s] at e
  have hlen : (u ++ zO f ++ [13] ++ [10]).length = u.length + (zO f).length + 2 := by simp; omega
  obtain ⟨z, f', e2, z1, z2, z3⟩ := ztf k L r h fs (u ++ zO f ++ [13] ++ [10]) (i + (zO f).length + 2) (by simp) (by rw [zlJ]; rfl) (fun x hx => hc x (List.mem_cons_of_mem _ hx)) (by rw [hlen]; omega) (by
   rw [← hh, zag]; simp)
  rw [hlen] at e2;refine ⟨z, f', ?_, z1, z2, z3⟩;rw [zag, yla, ylc, ylc, show i + ((zO f).length + ((zag fs).length + 1 + 1)) = i + (zO f).length + 2 + (zag fs).length by omega, ← e2]
  have e3 : zO f ++ 13 :: 10 :: zag fs ++ r = zO f ++ 13 :: 10 :: (zag fs ++ r) := by simp
  rw [e3, e]
theorem zBL {h : api_Head} (hc : zct h = 0) {L : Int} (hl : ((zah h).length : Int) ≤ L) (r : Str) :
  ∃ z f', zqh h.Kind L zaE (zah h ++ r) [] 0 0 = (some ((zah h).length, z), f') ∧ z.w = true ∧ z.e = 0 ∧ z.g = h := by
 have hb := zza hc L hl;obtain ⟨h1, h2, h3⟩ := zl9 hc;obtain ⟨e, x, k0, k1, k2, k3, k4, k5, k6⟩ := zsk h1;obtain ⟨l1, l2⟩ := zuE k0;have l3 := zyh k0
 have hraw : zah h = zgG h ++ 13 :: 10 :: zag h.Fields := by unfold zah; rw [e]
 rw [hraw] at hl hb ⊢;rw [yla, ylc, ylc] at hl;have e1 := ztd h.Kind L zaE (zag h.Fields ++ r) (zgG h) [] 0 0 l1 l3 rfl (by simp; omega);have s := zte h.Kind L zaE (zgG h) [] 0 (by simp; omega);rw [if_pos (show ((0 : Nat) == 0) = true from rfl), yna, List.drop_zero, k0] at s;rw [yna] at e1
 have e0 : ¬ (((zdD h.Kind L (zgG h ++ [13]) 0 zaE 10).w || !((zdD h.Kind L (zgG h ++ [13]) 0 zaE 10).e == 0)) = true) := by
  rw [s];show ¬ ((false || !((0 : Int) == 0)) = true)
  decide
 rw [if_neg e0, s] at e1
 have hlen : (zgG h ++ [13] ++ [10]).length = (zgG h).length + 2 := by simp
 obtain ⟨z, f', e2, z1, z2, z3⟩ := ztf h.Kind L r h h.Fields (zgG h ++ [13] ++ [10]) ((zgG h).length + 2) (by simp) (by rw [zlJ]; rfl) h3 (by rw [hlen]; omega) (by rw [← hb]; simp);rw [hlen] at e2;refine ⟨z, f', ?_, z1, z2, z3⟩;rw [yla, ylc, ylc, show (zgG h).length + ((zag h.Fields).length + 1 + 1) = (zgG h).length + 2 + (zag h.Fields).length by omega, ← e2]
 have e3 : zgG h ++ 13 :: 10 :: zag h.Fields ++ r = zgG h ++ 13 :: 10 :: (zag h.Fields ++ r) := by simp
 rw [e3, e1];simp
def okFr (f : api_Frame) : Prop := f = ⟨1, 0⟩ ∨ (∃ n, f = ⟨2, n⟩) ∨ f = ⟨3, 0⟩ ∨ f = ⟨4, 0⟩
theorem zyi (o : Option (List Int)) (h : ((zhA o).2 == 0) = true) : okFr (zhA o).1 := by
 unfold zhA at h ⊢
 split
 ·cases h
 ·cases h
 ·split
  ·exact .inr (.inl ⟨_, rfl⟩)
  ·rename_i h2
   dsimp only at h;rw [if_neg h2] at h; cases h
theorem zyj (m : Int) (te : List Str) (h : ((ziG m te).2 == 0) = true) : okFr (ziG m te).1 := by
 unfold ziG at h ⊢
 split
 ·rename_i h1
  rw [if_pos h1] at h
  split
  ·rename_i x hx
   rw [hx] at h;dsimp only at h
   split
   ·exact .inr (.inr (.inl rfl))
   ·rename_i h2; rw [if_neg h2] at h; cases h
  ·rename_i hx
   split at h
   ·rename_i x hx2; exact absurd hx2 (hx x)
   ·cases h
 ·rename_i h1; rw [if_neg h1] at h; cases h
theorem zuX (g : api_Head) (k : Int) (hk : k = 1 ∨ k = 4) (h : ((zi9 g k).2 == 0) = true) : okFr (zi9 g k).1 := by
 unfold zi9 at h ⊢
 split
 ·rename_i h1
  rw [if_pos h1] at h
  split
  ·rcases hk with rfl | rfl
   ·exact .inl rfl
   ·exact .inr (.inr (.inr rfl))
  ·rename_i h2; rw [if_neg h2] at h; exact zyi _ h
 ·rename_i h1
  rw [if_neg h1] at h
  split
  ·rename_i h2; rw [if_pos h2] at h; exact zyj _ _ h
  ·rename_i h2; rw [if_neg h2] at h; cases h
theorem zzL (m : Str) (g : api_Head) (h : ((zcL m g).2 == 0) = true) : okFr (zcL m g).1 := by
 unfold zcL at h ⊢
 split
 ·rename_i h1; rw [if_pos h1] at h; exact zuX g 1 (.inl rfl) h
 ·rename_i h1
  rw [if_neg h1] at h
  split
  ·exact .inl rfl
  ·rename_i h2; rw [if_neg h2] at h; exact zuX g 4 (.inr rfl) h
theorem accNew {k : Int} (hk : k = 1 ∨ k = 2) : zom k 65536 = some (some ⟨k, 65536, [], 0, false, 0, false, zaE⟩, 0) := by rcases hk with rfl | rfl <;> rfl
def zw5 : api_Message := ⟨zaE, ⟨0, 0⟩, [], []⟩
def bodyR (method : Str) (s : Str) (ended : Bool) (q : Int × Bool × Int × accum_Accum) (p : api_Head × Bool) : Option (api_Message × Int × Int) :=
 (zef method p.1).bind fun r162 =>
 if (!(r162.2 == 0)) then some (zw5, 0, r162.2) else (zhk r162.1 65536).bind fun r171 =>
 zpo r171.1 (zeE s q) (fun x173 => bE x173.1 (zce s ended q p r162 x173.2.f_frame.Kind x173.2.f_frame.N x173.2.f_left x173.2.f_done x173.2.f_bad x173.2.Decoder.f_limit x173.2.Decoder.f_at x173.2.Decoder.f_line x173.2.Decoder.f_left x173.2.Decoder.f_sum x173.2.Decoder.f_spent x173.2.Decoder.f_trailers) (zam s ended q p r162 x173.2.f_frame.Kind x173.2.f_frame.N x173.2.f_left x173.2.f_done x173.2.f_bad))
theorem zw6 {k : Int} (hk : k = 1 ∨ k = 2) (method s : Str) (ended : Bool) (hs : s.length < 30000000) :
  zaD k method s 65536 ended = (if (!((zrJ k 65536 zaE [] 0 false s).2.2.1 == 0)) = true then some (zw5, 0, (zrJ k 65536 zaE [] 0 false s).2.2.1) else if (!(zrJ k 65536 zaE [] 0 false s).2.1) = true then some (zw5, 0, 6) else
   (zdj (zrJ k 65536 zaE [] 0 false s).2.2.2).bind (bodyR method s ended (zrJ k 65536 zaE [] 0 false s))) := by
 have hf := zDw k 65536 zaE [] 0 false s hs (by decide) ⟨yz _, fun h _ => absurd h (by decide)⟩;unfold zaD;rw [accNew hk, yob];show zeF method s 65536 ended 0 k 65536 [] 0 false 0 false 0 [] [] 0 [] 0 [] = _;unfold zeF;rw [if_neg (by decide)];show ((zdi ⟨k, 65536, [], ((0 : Nat) : Int), false, 0, false, zaE⟩ s).bind _) = _;rw [hf, yob];rfl
theorem zmt {h : api_Head} (hk : h.Kind = 1 ∨ h.Kind = 2) (hc : zct h = 0) (hl : ((zah h).length : Int) ≤ 65536) (hn : h.Fields.length ≤ 1000) (hf : zaT 400000 h.Fields) (method t : Str) (ended : Bool) (ht : t.length < 20000000) {fr : api_Frame} (hfr : zcL method h = (fr, 0)) :
  ∃ a : accum_Accum, zaD h.Kind method (zah h ++ t) 65536 ended = (zhk fr 65536).bind fun r171 =>
   zpo r171.1 (zeE (zah h ++ t) (((zah h).length : Int), true, 0, a)) (fun x173 => bE x173.1 (zce (zah h ++ t) ended (((zah h).length : Int), true, 0, a) (h, true) (fr, 0) x173.2.f_frame.Kind x173.2.f_frame.N x173.2.f_left x173.2.f_done x173.2.f_bad x173.2.Decoder.f_limit x173.2.Decoder.f_at x173.2.Decoder.f_line x173.2.Decoder.f_left x173.2.Decoder.f_sum x173.2.Decoder.f_spent x173.2.Decoder.f_trailers) (zam (zah h ++ t) ended (((zah h).length : Int), true, 0, a) (h, true) (fr, 0) x173.2.f_frame.Kind x173.2.f_frame.N x173.2.f_left x173.2.f_done x173.2.f_bad)) := by
 obtain ⟨z, f', e, z1, z2, z3⟩ := zBL hc hl t
 have hfeed : zrJ h.Kind 65536 zaE [] 0 false (zah h ++ t) = (((zah h).length : Int), true, 0, ⟨h.Kind, 65536, [], (z.f : Int), true, 0, true, h⟩) := by
  unfold zrJ;rw [e];dsimp only;rw [z1, z2, z3]
 refine ⟨⟨h.Kind, 65536, [], (z.f : Int), true, 0, true, h⟩, ?_⟩;rw [zw6 hk method _ ended (by rw [yla]; omega), hfeed];dsimp only;have e0 : (!((0 : Int) == 0)) = false := rfl;rw [e0, if_neg yfn, ynt, if_neg yfn, zDx _ (by dsimp only; omega), yob];unfold zB6 bodyR;dsimp only;rw [if_pos rfl];dsimp only;rw [zl8 _ _ hn hf, hfr, yob];dsimp only;rw [e0, if_neg yfn]
theorem zop (a t : Str) : zbh (a ++ t) (a.length : Int) = some t := by
 rw [z6 (by simp), List.drop_left]
def behind (method : Str) (h : api_Head) (t : Str) (ended : Bool) (r : Option (api_Message × Int × Int)) : Prop := zaD h.Kind method (zah h ++ t) 65536 ended = r
section
variable {h : api_Head} {method t : Str} {ended : Bool}
theorem zzM (hk : h.Kind = 1 ∨ h.Kind = 2) (hc : zct h = 0) (hl : ((zah h).length : Int) ≤ 65536) (hn : h.Fields.length ≤ 1000) (hf : zaT 400000 h.Fields) (ht : t.length < 20000000) (hfr : zcL method h = (⟨1, 0⟩, 0)) :
  zaD h.Kind method (zah h ++ t) 65536 ended = some (⟨h, ⟨1, 0⟩, [], []⟩, ((zah h).length : Int), 0) := by
 obtain ⟨a, e⟩ := zmt hk hc hl hn hf method t ended ht hfr;have hb : zhk ⟨1, 0⟩ 65536 = some (some (false, ⟨default, ⟨1, 0⟩, 0, true, false⟩), 0) := rfl;have hr : ∀ h' : api_Head, zE ⟨⟨default, ⟨1, 0⟩, 0, true, false⟩, ⟨h', ⟨1, 0⟩, [], []⟩⟩ t ended = some (0, 0, ⟨⟨default, ⟨1, 0⟩, 0, true, false⟩, ⟨h', ⟨1, 0⟩, [], []⟩⟩) := fun h' => rfl;rw [e, hb, yob];show zam (zah h ++ t) ended (((zah h).length : Int), true, 0, a) (h, true) (⟨1, 0⟩, 0) 1 0 0 true false = _;unfold zam;dsimp only;rw [zop, yob, hr, yob];dsimp only;rw [if_neg (by decide), zb1 (by omega) (by omega), yob, Int.add_zero]
theorem zDe (n : Nat) (hn : n < 1000000) : zhk ⟨2, (n : Int)⟩ 65536 = some (some (false, ⟨default, ⟨2, (n : Int)⟩, (n : Int), ((n : Int) == 0), false⟩), 0) := by
 have h1 : ¬ ((n : Int) < 0) := by omega
 have h2 : ¬ ((1099511627776 : Int) < (n : Int)) := by omega
 have hd : zla 65536 = some (some (d0 65536), 0) := rfl;unfold zhk;rw [hd, yob];show zju ⟨2, (n : Int)⟩ 0 65536 0 [] 0 0 0 [] = _;unfold zju;dsimp only;rw [show (!((0 : Int) == 0)) = false from rfl, if_neg yfn, ydf (show ¬ ((2 : Int) < 1) by decide), if_neg yfn, ydf (show ¬ ((4 : Int) < 2) by decide), if_neg yfn, ydf h1, if_neg yfn, ydf h2];rfl
theorem zBM (h' : api_Head) (n : Nat) (hn : n < 1000000) (ht : t.length < 20000000) : ∃ b : body_Body, zE ⟨⟨default, ⟨2, (n : Int)⟩, (n : Int), ((n : Int) == 0), false⟩, ⟨h', ⟨2, (n : Int)⟩, [], []⟩⟩ t ended =
  some (if n ≤ t.length then ((n : Int), 0, ⟨b, ⟨h', ⟨2, (n : Int)⟩, t.take n, []⟩⟩) else (0, 6, ⟨b, ⟨h', ⟨2, (n : Int)⟩, t, []⟩⟩)) := by
 by_cases h0 : n = 0
 ·subst h0;refine ⟨⟨default, ⟨2, 0⟩, 0, true, false⟩, ?_⟩;rw [if_pos (yz _), List.take_zero];rfl
 ·have hz : ((n : Int) == 0) = false := by rw [beq_eq_false_iff_ne]; omega
  unfold zE zbQ;dsimp only;rw [hz, yob, ynf, if_pos rfl];unfold zc5;dsimp only;rw [if_neg yfn];unfold zbF;dsimp only;rw [if_neg yfn, if_neg (by decide), if_pos (by decide)]
  by_cases hle : n ≤ t.length
  ·have e1 : min (t.length : Int) (n : Int) = (n : Int) := by omega
   have e2 : ((n : Int) - (n : Int) == 0) = true := by rw [Int.sub_self]; rfl
   refine ⟨⟨default, ⟨2, (n : Int)⟩, (n : Int) - (n : Int), true, false⟩, ?_⟩;rw [e1, zaJ (by omega) (by omega), yob, e2];unfold z8;rw [zc9 hle, yob, yob, if_pos hle];rfl
  ·have e1 : min (t.length : Int) (n : Int) = (t.length : Int) := by omega
   have e2 : ((n : Int) - (t.length : Int) == 0) = false := by rw [beq_eq_false_iff_ne]; omega
   refine ⟨⟨default, ⟨2, (n : Int)⟩, (n : Int) - (t.length : Int), false, false⟩, ?_⟩;rw [e1, zaJ (by omega) (by omega), yob, e2];unfold z8;rw [zc9 (Nat.le_refl _), List.take_length, yob, yob, if_neg hle];rfl
theorem zBN (hk : h.Kind = 1 ∨ h.Kind = 2) (hc : zct h = 0) (hl : ((zah h).length : Int) ≤ 65536) (hn : h.Fields.length ≤ 1000) (hf : zaT 400000 h.Fields) (ht : t.length < 20000000) {n : Nat} (hnn : n < 1000000) (hfr : zcL method h = (⟨2, (n : Int)⟩, 0)) :
  zaD h.Kind method (zah h ++ t) 65536 ended = some (if n ≤ t.length then (⟨h, ⟨2, (n : Int)⟩, t.take n, []⟩, (((zah h).length + n : Nat) : Int), 0) else (zw5, 0, 6)) := by
 obtain ⟨a, e⟩ := zmt hk hc hl hn hf method t ended ht hfr;obtain ⟨b, hr⟩ := zBM (t := t) (ended := ended) h n hnn ht;rw [e, zDe n hnn, yob];show zam (zah h ++ t) ended (((zah h).length : Int), true, 0, a) (h, true) (⟨2, (n : Int)⟩, 0) 2 (n : Int) (n : Int) ((n : Int) == 0) false = _;unfold zam;dsimp only;rw [zop, yob, hr, yob]
 by_cases hle : n ≤ t.length
 ·rw [if_pos hle, if_pos hle];dsimp only;rw [if_neg (by decide), zn5 (by omega), yob]
 ·rw [if_neg hle, if_neg hle];rfl
theorem zyk (hk : h.Kind = 1 ∨ h.Kind = 2) (hc : zct h = 0) (hl : ((zah h).length : Int) ≤ 65536) (hn : h.Fields.length ≤ 1000) (hf : zaT 400000 h.Fields) (ht : t.length < 20000000) (hfr : zcL method h = (⟨4, 0⟩, 0)) :
  zaD h.Kind method (zah h ++ t) 65536 true = some (⟨h, ⟨4, 0⟩, t, []⟩, (((zah h).length + t.length : Nat) : Int), 0) := by
 obtain ⟨a, e⟩ := zmt hk hc hl hn hf method t true ht hfr;have hb : zhk ⟨4, 0⟩ 65536 = some (some (false, ⟨default, ⟨4, 0⟩, 0, false, false⟩), 0) := rfl
 have hr : zE ⟨⟨default, ⟨4, 0⟩, 0, false, false⟩, ⟨h, ⟨4, 0⟩, [], []⟩⟩ t true = some ((t.length : Int), 0, ⟨⟨default, ⟨4, 0⟩, 0, true, false⟩, ⟨h, ⟨4, 0⟩, t, []⟩⟩) := by
  have hx : zc5 ⟨default, ⟨4, 0⟩, 0, false, false⟩ t = some ((t.length : Int), t, false, 0, ⟨default, ⟨4, 0⟩, 0, false, false⟩) := by
   show z8 ⟨default, ⟨4, 0⟩, 0, false, false⟩ t (t.length : Int) 0 false = _;unfold z8;rw [zc9 (Nat.le_refl _), List.take_length, yob]
  unfold zE zbQ;dsimp only;rw [yob, ynf, if_pos rfl, hx, yob];rfl
 rw [e, hb, yob];show zam (zah h ++ t) true (((zah h).length : Int), true, 0, a) (h, true) (⟨4, 0⟩, 0) 4 0 0 false false = _;unfold zam;dsimp only;rw [zop, yob, hr, yob];dsimp only;rw [if_neg (by decide), zn5 (by omega), yob]
theorem zyl {n : Int} {o : Str} {t1 : Bool} {d : dechunk_Decoder} (hf : zar (d0 65536) t = some (n, o, t1, 0, d)) (ht : t1 = true → d.f_trailers.length < 1000000) :
  ∃ b : body_Body, zbP ⟨⟨d0 65536, ⟨3, 0⟩, 0, false, false⟩, ⟨h, ⟨3, 0⟩, [], []⟩⟩ t ended = some (if t1 = true then (n, 0, ⟨b, ⟨h, ⟨3, 0⟩, o, d.f_trailers⟩⟩) else (0, 6, ⟨b, ⟨h, ⟨3, 0⟩, o, []⟩⟩)) := by
 have hx : zih ⟨d0 65536, ⟨3, 0⟩, 0, false, false⟩ t = some (n, o, t1, 0, ⟨d, ⟨3, 0⟩, 0, t1, false⟩) := by
  show ((zar (d0 65536) t).bind _) = _;rw [hf, yob];rfl
 unfold zbP zeA;dsimp only;rw [yob, ynf, if_pos rfl, hx, yob];dsimp only;rw [if_neg (by decide)];unfold zbE;dsimp only;rw [if_neg (by decide)];unfold zbD;rw [if_neg yfn];unfold zbC zeA;dsimp only;rw [yob]
 cases t1 with
 | true =>
  refine ⟨⟨⟨d.f_limit, d.f_at, d.f_line, d.f_left, d.f_sum, d.f_spent, d.f_trailers⟩, ⟨3, 0⟩, 0, true, false⟩, ?_⟩;rw [ynt, if_neg yfn, if_pos rfl];unfold ze8 zck;have htr := ht rfl;dsimp only;rw [if_pos (zaX (by omega) (by omega)), yob, yob]
 | false =>
  refine ⟨⟨⟨d.f_limit, d.f_at, d.f_line, d.f_left, d.f_sum, d.f_spent, d.f_trailers⟩, ⟨3, 0⟩, 0, false, false⟩, ?_⟩;rw [ynf, if_pos rfl, if_neg yfn]
theorem zym (hk : h.Kind = 1 ∨ h.Kind = 2) (hc : zct h = 0) (hl : ((zah h).length : Int) ≤ 65536) (hn : h.Fields.length ≤ 1000) (hf : zaT 400000 h.Fields) (ht : t.length < 20000000) (hfr : zcL method h = (⟨3, 0⟩, 0))
  {n : Nat} {o : Str} {t1 : Bool} {d : dechunk_Decoder} (hfd : zar (d0 65536) t = some ((n : Int), o, t1, 0, d)) (htr : t1 = true → d.f_trailers.length < 1000000) (hnl : n ≤ t.length) :
  zaD h.Kind method (zah h ++ t) 65536 ended = some (if t1 = true then (⟨h, ⟨3, 0⟩, o, d.f_trailers⟩, (((zah h).length + n : Nat) : Int), 0) else (zw5, 0, 6)) := by
 obtain ⟨a, e⟩ := zmt hk hc hl hn hf method t ended ht hfr;obtain ⟨b, hr⟩ := zyl (h := h) (ended := ended) hfd htr;have hb : zhk ⟨3, 0⟩ 65536 = some (some (true, ⟨d0 65536, ⟨3, 0⟩, 0, false, false⟩), 0) := rfl;rw [e, hb, yob];show zce (zah h ++ t) ended (((zah h).length : Int), true, 0, a) (h, true) (⟨3, 0⟩, 0) 3 0 0 false false 65536 0 [] 0 0 0 [] = _;unfold zce;dsimp only;rw [zop, yob];show ((zbP ⟨⟨d0 65536, ⟨3, 0⟩, 0, false, false⟩, ⟨h, ⟨3, 0⟩, [], []⟩⟩ t ended).bind _) = _;rw [hr, yob]
 cases t1 with
 | true =>
  rw [if_pos rfl, if_pos rfl];dsimp only;rw [if_neg (by decide), zn5 (by omega), yob]
 | false =>
  rw [if_neg yfn, if_neg yfn];rfl
end
theorem few22B (m : api_Message) (hc : inI m.Head.Code = true) (hmi : inI m.Head.Minor = true) (hl : m.Head.Fields.length < 1000000000) (ht : m.Trailers.length < 1000000000) : ∃ g, zi1 m = some g ∧ SmallM g ∧ (∀ f ∈ g.Trailers, (zO f).length ≤ 252) := by
 obtain ⟨g, e, hs⟩ := few22 m hc hmi hl ht;refine ⟨g, e, hs, ?_⟩;unfold zi1 at e;rw [zp1 _ hl, yob, zs9, yob, zp0 _ ht, yob] at e;cases e;intro f hf;obtain ⟨g, _, rfl⟩ := List.mem_map.1 hf;have := zod ⟨g.Name.take 50, g.Value.take 200⟩;simp only [ylt] at this;omega
theorem zBO : ∀ {fs : List api_Field}, (∀ f ∈ fs, (zO f).length ≤ 252) → spF fs ≤ 254 * fs.length
 | [], _ => by simp [spF]
 | f :: fs, h => by
  have h1 := h f (List.mem_cons_self ..);have h2 := zBO (fs := fs) fun x hx => h x (List.mem_cons_of_mem _ hx);unfold spF;rw [ylc];omega
structure Parts (method : Str) (m : api_Message) : Prop where
 head : zct m.Head = 0
 kind : m.Head.Kind = 1 ∨ m.Head.Kind = 2
 frame : zcL method m.Head = (m.Frame, 0)
 fits : zoZ m = true
 last : (zjZ m.Trailers).2 = 0
theorem zp2 {method : Str} {m : api_Message} (h : (zf4 method m == 0) = true) : Parts method m := by
 have h0 : zf4 method m = 0 := by simpa using h
 have hh : zct m.Head = 0 := by simpa using zrB h
 unfold zf4 at h0;rw [hh, if_pos (by decide)] at h0
 cases e1 : (zcL method m.Head).2 == 0 with
 | false =>
  rw [e1, if_neg yfn] at h0;rw [h0] at e1; cases e1
 | true =>
  rw [e1, if_pos rfl] at h0
  cases e2 : (zcL method m.Head).1 == m.Frame with
  | false => rw [e2, if_neg yfn] at h0; cases h0
  | true =>
   rw [e2, if_pos rfl] at h0
   cases e3 : zoZ m with
   | false => rw [e3, if_neg yfn] at h0; cases h0
   | true =>
    rw [e3, if_pos rfl] at h0;exact ⟨hh, (zo7 (zl9 hh).1).kind, Prod.ext (by simpa using e2) (by simpa using e1), e3, h0⟩
def zmW (m : api_Message) (size : Int) : Str := if m.Frame.Kind == 3 then (zs0 size m.Body m.Trailers).1 else m.Body
theorem zrC {l : List api_Field} (h : (zjZ l).2 = 0) : (∀ f ∈ l, zbi f = 0) ∧ l.length ≤ 100 ∧ (zjZ l).1 = 48 :: 13 :: 10 :: zag l := by
 unfold zjZ at h ⊢
 cases e : zg8 l == 0 with
 | false =>
  rw [e, if_neg yfn] at h;dsimp only at h;rw [h] at e; cases e
 | true =>
  rw [e, if_pos rfl] at h
  by_cases h1 : 100 < l.length
  ·rw [if_pos h1] at h; cases h
  ·refine ⟨fun f hf => by simpa using zwU e f hf, by omega, ?_⟩;rw [if_pos rfl, if_neg h1]
theorem zqW {size : Int} {b : Str} {tr : List api_Field} (h1 : 1 ≤ size) (h2 : size ≤ 65536) (h : (zjZ tr).2 = 0) : zs0 size b tr = ((zfk 601 size.toNat b).1 ++ (zjQ (zfk 601 size.toNat b).2 ++ 48 :: 13 :: 10 :: zag tr), 0) := by
 unfold zs0;rw [ydf (by omega), ydf (by omega), Bool.or_false, if_neg yfn, h, if_pos (by decide), (zrC h).2.2]
theorem zBP {method : Str} {m : api_Message} {size : Int} (h1 : 1 ≤ size) (h2 : size ≤ 65536) (h : ((zmq method m 65536 size).2 == 0) = true) :
  Parts method m ∧ ((zah m.Head).length : Int) ≤ 65536 ∧ zmq method m 65536 size = (zah m.Head ++ zmW m size, 0) := by
 unfold zmq at h ⊢;unfold zmW
 cases e1 : zf4 method m == 0 with
 | false => rw [e1, if_neg yfn] at h; dsimp only at h; rw [h] at e1; cases e1
 | true =>
  rw [e1, if_pos rfl] at h
  by_cases e2 : ((zah m.Head).length : Int) ≤ 65536
  ·have hp := zp2 e1;refine ⟨hp, e2, ?_⟩;rw [if_pos rfl, if_pos e2]
   cases m.Frame.Kind == 3 with
   | true => rw [zqW h1 h2 hp.last]; rfl
   | false => rfl
  ·rw [if_neg e2] at h; cases h
theorem zzN {method : Str} {m : api_Message} {size : Int} (h1 : 1 ≤ size) (h2 : size ≤ 65536) (h : ((zmq method m 65536 size).2 == 0) = false) : zmq method m 65536 size = ([], if zf4 method m == 0 then 3 else zf4 method m) := by
 unfold zmq at h ⊢
 cases e1 : zf4 method m == 0 with
 | false => rfl
 | true =>
  rw [e1, if_pos rfl] at h;rw [if_pos rfl, if_pos rfl]
  by_cases e2 : ((zah m.Head).length : Int) ≤ 65536
  ·rw [if_pos e2] at h;have hp := zp2 e1
   cases e3 : m.Frame.Kind == 3 with
   | true => rw [e3, if_pos rfl, zqW h1 h2 hp.last] at h; cases h
   | false => rw [e3, if_neg yfn] at h; cases h
  ·rw [if_neg e2]
theorem zzO {m : api_Message} {method : Str} (hs : SmallM m) (ht : ∀ f ∈ m.Trailers, (zO f).length ≤ 252) (hp : Parts method m) {size : Int} (h1 : 1 ≤ size) (h2 : size ≤ 65536) (hk : m.Frame = ⟨3, 0⟩) :
  ∃ g, zmW m size = g ++ [10] ∧ Seg g [] (d0 65536) m.Body ⟨65536, 3, [13], 0, (m.Body.length : Int), spF m.Trailers + 1, m.Trailers⟩ ∧ spF m.Trailers + 2 ≤ 65536 := by
 obtain ⟨l1, l2, l3⟩ := zrC hp.last;have hsp := zBO ht;have hb := hs.body;obtain ⟨g, e, s⟩ := zC3 65536 (by decide) size.toNat (by omega) m.Body (by omega) m.Trailers (fun f hf => ⟨l1 f hf, by have := ht f hf; omega⟩) (by omega) l2;refine ⟨g, ?_, s, by omega⟩;unfold zmW;rw [hk, if_pos (by decide), zqW h1 h2 hp.last];exact e
theorem zuY {m : api_Message} (hs : SmallM m) (size : Int) : (zmW m size).length ≤ 4000000 := by
 have h1 := hs.tlen;have h2 := hs.body;unfold zmW
 split
 ·exact zw1 (by omega) (by omega) (zM (by decide) hs.trailers)
 ·omega
theorem zyn {method : Str} {m : api_Message} (hs : SmallM m) (ht : ∀ f ∈ m.Trailers, (zO f).length ≤ 252) (hp : Parts method m) (hl : ((zah m.Head).length : Int) ≤ 65536) {size : Int} (h1 : 1 ≤ size) (h2 : size ≤ 65536) (b : Str) (hb : b.length ≤ 100) (hk4 : (m.Frame.Kind == 4) = true → b = []) :
  zaD m.Head.Kind method (zah m.Head ++ zmW m size ++ b) 65536 true = some (m, ((zah m.Head ++ zmW m size).length : Int), 0) := by
 have g1 := hs.len;have g2 := hs.body;have g3 := zuY hs size;have hfi := hp.fits
 have hlt : (zmW m size ++ b).length < 20000000 := by rw [yla]; omega
 have hfr := zzL method m.Head (by rw [hp.frame]; rfl);rw [hp.frame] at hfr;rw [yaa, yla];obtain ⟨hd, fr, body, tr⟩ := m;have hff := hp.frame
 dsimp only at *
 rcases hfr with rfl | ⟨n, rfl⟩ | rfl | rfl
 ·unfold zoZ at hfi;dsimp only at hfi;rw [if_pos (by decide), Bool.and_eq_true, beq_iff_eq, beq_iff_eq] at hfi;obtain ⟨rfl, rfl⟩ := hfi;rw [zzM (h := hd) hp.kind hp.head hl (by omega) (zM (by decide) hs.fields) hlt hff];rfl
 ·unfold zoZ at hfi;dsimp only at hfi;rw [if_neg (by decide), if_pos (by decide), Bool.and_eq_true, beq_iff_eq, beq_iff_eq] at hfi;obtain ⟨rfl, rfl⟩ := hfi;have et : zmW ⟨hd, ⟨2, (body.length : Int)⟩, body, []⟩ size = body := rfl;rw [et] at hlt ⊢;rw [zBN (h := hd) hp.kind hp.head hl (by omega) (zM (by decide) hs.fields) hlt (by omega) hff, if_pos (by simp), List.take_left]
 ·obtain ⟨g, e, s, hsp⟩ := zzO hs ht hp h1 h2 rfl;have := zmn tr;have hsp : spF tr + 2 ≤ 65536 := hsp;rw [e] at hlt ⊢;have hfd := zzu s (by dsimp only; omega) (by dsimp only; omega) (by decide) (by dsimp only; omega) b (by omega);rw [zym (h := hd) hp.kind hp.head hl (by omega) (zM (by decide) hs.fields) hlt hff hfd (fun _ => by have := hs.tlen; dsimp only at this ⊢; omega) (by simp), if_pos rfl]
 ·have hb0 := hk4 (by decide);subst hb0;unfold zoZ at hfi;dsimp only at hfi;rw [if_neg (by decide), if_neg (by decide), if_pos (by decide), beq_iff_eq] at hfi;subst hfi;have et : zmW ⟨hd, ⟨4, 0⟩, body, []⟩ size = body := rfl;rw [et] at hlt ⊢;rw [zyk (h := hd) hp.kind hp.head hl (by omega) (zM (by decide) hs.fields) hlt hff, yan]
theorem zr3 (m : api_Message) (h1 : m.Head.Fields.length < 1000000) (h2 : m.Trailers.length < 1000000) : zkN m m = some true := by
 unfold zkN;rw [zuA _ _ (by omega), yob, zyE, if_pos rfl, ybs, if_pos rfl, ybs, if_pos rfl, zo0 _ _ (by omega), yob, ybs];rfl
theorem zqX (method : Str) (m : api_Message) (b : Str) (_ : inI m.Head.Kind = true) (hc : inI m.Head.Code = true) (hmi : inI m.Head.Minor = true) (hl : m.Head.Fields.length < 1000000000) (_ : inI m.Frame.Kind = true) (_ : inI m.Frame.N = true) (ht : m.Trailers.length < 1000000000) : zfU method m b = some true := by
 obtain ⟨g, hg, hs, h52⟩ := few22B m hc hmi hl ht
 have hb : (b.take 100).length ≤ 100 := by simp; omega
 have e100 : sTo b (min (b.length : Int) 100) = some (b.take 100) := zqv b 100;unfold zfU;rw [ztb, yob, ynt, if_neg yfn, hg, yob, e100, yob, zb1 (by omega) (by omega), yob]
 generalize b.take 100 = b at *
 have s1 : 1 ≤ 1 + (b.length : Int) := by omega
 have s2 : 1 + (b.length : Int) ≤ 65536 := by omega
 rw [zqV _ _ _ _ (by decide) hs, yob]
 cases hp : (zmq method g 65536 (1 + (b.length : Int))).2 == 0 with
 | false =>
  rw [zzN s1 s2 hp, zta _ _ hs, yob, ynf, if_pos rfl, if_pos (by rfl)]
  cases hk : zf4 method g == 0 with
  | true => rfl
  | false => rfl
 | true =>
  obtain ⟨q1, q2, q3⟩ := zBP s1 s2 hp;have hlen := zuY hs (1 + (b.length : Int))
  have fin : ∀ b' : Str, b'.length ≤ 100 → ((g.Frame.Kind == 4) = true → b' = []) → zbu method g (zah g.Head ++ zmW g (1 + (b.length : Int)), 0) b' = some true := by
   intro b' hb' hk;unfold zbu;dsimp only;rw [zZ (by rw [yla]; omega), yob, zyn hs h52 q1 q2 s1 s2 b' hb' hk, yob];dsimp only;have g1 := hs.len;have g2 := hs.tlen;rw [if_pos (by decide), ybs, if_pos rfl, zr3 _ (by omega) (by omega), yob];rfl
  rw [ynt, if_neg yfn, q3]
  cases hk : g.Frame.Kind == 4 with
  | true => exact fin [] (by decide) fun _ => rfl
  | false => exact fin b hb fun h => by rw [hk] at h; cases h
end Go.Dm
