/-
  Rows of rimeplain: are two lists of bytes the same; copies. Rows of rimeref02: numbers of eight digits. Rows of rimeref02: digits modulo L, bit by bit. Rows of rimeref02: bytes as digits, modulo L, and back.
-/
import Derived.Test.YtkifoidhmipacaaGreatCa
import Derived.Test.YtkifoidhmipacaaGreatAd
import Derived.Test.YtkifoidhmipacaaGreatBa
namespace Go.Proofs.YtkifoidhmipacaaGreat
open Go.Proofs.Tryz
open Go Go.AM
structure Two where
  t : Bool
  t' : Bool
  n : Nat
  f : Nat → Nat → Int
  g : Nat → Nat → Int
noncomputable def sbB : Code := match f_rimeplain_SameBytes.body with | some c => (match bodiesOf 0 c with | [.loop b] => b | _ => .skip) | none => .skip
def sbV (a : Two) (v : Int) : St := ⟨tmOf [(0, .sc (.vints a.t .u8 1 a.n a.f)), (1, .sc (.vints a.t' .u8 1 a.n a.g)), (5, .sc (.int .i64 v))] 26 0, []⟩
def sbS (a : Two) (k : Nat) : St := sbV a (k : Int)
def sbRd (s : St) : Option Two := match getA s.tm 0, getA s.tm 1, s.hp with
  | .sc (.vints t _ _ n f), .sc (.vints t' _ _ _ g), [] => some ⟨t, t', n, f, g⟩
  | _, _, _ => none
/-- the first place where they differ -/
def mism (f g : Nat → Nat → Int) : Nat → Nat → Nat
  | 0, j => j
  | n + 1, j => if f j 0 = g j 0 then mism f g n (j + 1) else j
theorem mism_spec (f g : Nat → Nat → Int) : ∀ (n j : Nat), j ≤ mism f g n j ∧ mism f g n j ≤ j + n ∧ (∀ k, j ≤ k → k < mism f g n j → f k 0 = g k 0) ∧ (mism f g n j < j + n → f (mism f g n j) 0 ≠ g (mism f g n j) 0)
  | 0, j => ⟨Nat.le_refl _, Nat.le_refl _, fun k h1 h2 => by simp only [mism] at h2; omega, fun h => by simp only [mism] at h; omega⟩
  | n + 1, j => by
    unfold mism
    split
    · rename_i e
      obtain ⟨h1, h2, h3, h4⟩ := mism_spec f g n (j + 1)
      refine ⟨by omega, by omega, fun k hk1 hk2 => ?_, fun h => h4 (by omega)⟩
      by_cases q : k = j
      · rw [q]; exact e
      · exact h3 k (by omega) hk2
    · rename_i e
      exact ⟨Nat.le_refl _, by omega, fun k h1 h2 => by omega, fun _ => e⟩
noncomputable abbrev pE : EnvP := envP tt [] []
theorem sb_round (a : Two) (k : Nat) : roundB pE [(14, true), (25, false)] 5 sbB (sbS a k) .normal (sbS a (k + 1)) =
    some (ckL [decide ((k : Int) < (a.n : Int)) == true, inR k a.n, inR k a.n, (a.f (k : Int).toNat 0 != a.g (k : Int).toNat 0) == false] && stB (sbV a (wr .i64 (k + 1))) (sbS a (k + 1))) := by kernel_rfl
theorem sb_same (a : Two) (v : Int) : stB (sbV a v) (sbV a v) = true := by
  simp [stB, sbV, tmOf, tmB, avB, svB, hpB, eqF_refl, kEq]
def sbT1 : St := ⟨tmOf [] 26 0, []⟩
def sbT2 : St := ⟨tmOf [(4, .sc (.bool false))] 26 0, []⟩
theorem sb_stop1 (a : Two) : roundB pE [(14, false)] 5 sbB (sbS a a.n) (.exit 0) sbT1 = some (ckL [decide ((a.n : Int) < (a.n : Int)) == false] && true) := by kernel_rfl
theorem sb_stop2 (a : Two) (k : Nat) : roundB pE [(14, true), (25, true)] 5 sbB (sbS a k) .ret sbT2 =
    some (ckL [decide ((k : Int) < (a.n : Int)) == true, inR k a.n, inR k a.n, (a.f (k : Int).toNat 0 != a.g (k : Int).toNat 0) == true] && true) := by kernel_rfl
def big (n : Nat) : Bool := Nat.ble n 4611686018427387904
def sbF1 : LF := famF sbRd sbS (fun a => big a.n && eqF a.n 1 a.f a.g) (fun _ => .normal) (fun _ => sbT1)
def sbF2 : LF := famF sbRd sbS (fun a => big a.n && !eqF a.n 1 a.f a.g) (fun _ => .ret) (fun _ => sbT2)
theorem sb_body : f_rimeplain_SameBytes.body.map (bodiesOf 0) = some [.loop sbB] := by kernel_rfl
theorem sb_ok : codeOK prog pE.env.isW sbB = true := by kernel_rfl
theorem body_of {fn : Func} {id : Nat} {B : Code} (h : fn.body.map (bodiesOf id) = some [.loop B]) : ∀ c, fn.body = some c → ∀ b ∈ bodiesOf id c, b = .loop B := by
  intro c hc b hb
  rw [hc] at h
  simp only [Option.map_some, Option.some.injEq] at h
  rw [h] at hb
  simpa using hb
theorem wr_small {x : Int} (h0 : 0 ≤ x) (h1 : x < 9223372036854775808) : wr .i64 x = x := by
  show IntKind.i64.wrap x = x
  rw [IntKind.wrap_i64]; omega
theorem inR_nat {k n : Nat} (h : k < n) : inR k n = true := by simp [inR]; omega
theorem sb_rd {s : St} {a : Two} (h : sbRd s = some a) : s.hp = [] := by
  unfold sbRd at h
  split at h
  · rename_i hh; exact hh
  · simp at h
theorem sb_step (a : Two) (hn : big a.n = true) (k : Nat) (hk : k < a.n) (he : a.f k 0 = a.g k 0) : ∃ s1, am pE.env 5 sbB (sbS a k) = some (.normal, s1) ∧ StLe s1 (sbS a (k + 1)) := by
  have hb : a.n ≤ 4611686018427387904 := Nat.le_of_ble_eq_true hn
  refine roundB_spec (sb_round a k) ?_
  have e : wr .i64 ((k : Int) + 1) = ((k + 1 : Nat) : Int) := by rw [wr_small (by omega) (by omega)]; rfl
  rw [e]
  have h1 := sb_same a ((k + 1 : Nat) : Int)
  simp only [sbS, h1, Bool.and_true]
  simp [ckL, inR_nat hk, he, hk]
theorem l_sb1 : LRow prog f_rimeplain_SameBytes 0 sbF1 := by
  refine LRow.fam (N := 5) (L0.env []) mix (fun a => a.n) (body_of sb_body) sb_ok (fun w0 own0 => accOK_none (fun id => rfl) sbB) (fun s a h => ⟨by rw [sb_rd h]; rfl, fun i hi => by rw [sb_rd h] at hi; simp at hi⟩) (fun _ _ => rfl) (fun _ => Nat.le_refl _) ?_ ?_
  · intro a ha k hk
    simp only [Bool.and_eq_true] at ha
    exact sb_step a ha.1 k hk (eqF_t ha.2 k hk 0 (by omega))
  · intro a ha
    obtain ⟨s1, h1, h2⟩ := roundB_spec (sb_stop1 a) (by simp [ckL])
    exact ⟨_, s1, h1, rfl, h2⟩
theorem l_sb2 : LRow prog f_rimeplain_SameBytes 0 sbF2 := by
  refine LRow.fam (N := 5) (L0.env []) mix (fun a => mism a.f a.g a.n 0) (body_of sb_body) sb_ok (fun w0 own0 => accOK_none (fun id => rfl) sbB) (fun s a h => ⟨by rw [sb_rd h]; rfl, fun i hi => by rw [sb_rd h] at hi; simp at hi⟩) (fun _ _ => rfl) (fun _ => Nat.le_refl _) ?_ ?_
  · intro a ha k hk
    simp only [Bool.and_eq_true] at ha
    obtain ⟨h1, h2, h3, h4⟩ := mism_spec a.f a.g a.n 0
    exact sb_step a ha.1 k (by omega) (h3 k (by omega) hk)
  · intro a ha
    simp only [Bool.and_eq_true] at ha
    obtain ⟨h1, h2, h3, h4⟩ := mism_spec a.f a.g a.n 0
    have hlt : mism a.f a.g a.n 0 < a.n := by
      rcases Nat.lt_or_ge (mism a.f a.g a.n 0) a.n with h | h
      · exact h
      · have : eqF a.n 1 a.f a.g = true := eqF_of fun r hr d hd => by
          obtain rfl : d = 0 := by omega
          exact h3 r (by omega) (by omega)
        rw [this] at ha; simp at ha
    have hne := h4 (by omega)
    obtain ⟨s1, q1, q2⟩ := roundB_spec (sb_stop2 a (mism a.f a.g a.n 0)) (by simp [ckL, inR_nat hlt, hne, hlt])
    exact ⟨_, s1, q1, rfl, q2⟩
def tSame : TF := fun args => match args with
  | [.sc (.vints t .u8 1 n f), .sc (.vints t' .u8 1 m g)] => some (big n, .sc (.bool (Nat.beq n m && eqF n 1 f g)))
  | _ => none
def sbI (t t' : Bool) (n m : Nat) (f g : Nat → Nat → Int) : St := ⟨tmOf [(0, .sc (.vints t .u8 1 n f)), (1, .sc (.vints t' .u8 1 m g)), (5, .sc (.int .i64 0))] 26 0, []⟩
theorem c_same1 : fnChk prog (envL tt [] [] [(0, sbF1)]) f_rimeplain_SameBytes = true := by kernel_rfl
theorem c_same2 : fnChk prog (envL tt [] [] [(0, sbF2)]) f_rimeplain_SameBytes = true := by kernel_rfl
theorem k_same1 (t t' : Bool) (n m : Nat) (f g : Nat → Nat → Int) : outP (apFunc (envL tt [] [] [(0, sbF1)]) [(10, false)] 5 f_rimeplain_SameBytes [.sc (.vints t .u8 1 n f), .sc (.vints t' .u8 1 m g)] []) =
    some (ckL [((n : Int) != (m : Int)) == false, (big n && eqF n 1 f g) && stB (sbI t t' n m f g) (sbS ⟨t, t', n, f, g⟩ 0)], .sc (.bool true)) := by kernel_rfl
theorem k_same2 (t t' : Bool) (n m : Nat) (f g : Nat → Nat → Int) : outP (apFunc (envL tt [] [] [(0, sbF2)]) [(10, false)] 5 f_rimeplain_SameBytes [.sc (.vints t .u8 1 n f), .sc (.vints t' .u8 1 m g)] []) =
    some (ckL [((n : Int) != (m : Int)) == false, (big n && !eqF n 1 f g) && stB (sbI t t' n m f g) (sbS ⟨t, t', n, f, g⟩ 0)], .sc (.bool false)) := by kernel_rfl
theorem k_same3 (t t' : Bool) (n m : Nat) (f g : Nat → Nat → Int) : outP (apFunc (envL tt [] [] [(0, sbF2)]) [(10, true)] 5 f_rimeplain_SameBytes [.sc (.vints t .u8 1 n f), .sc (.vints t' .u8 1 m g)] []) =
    some (ckL [((n : Int) != (m : Int)) == true], .sc (.bool false)) := by kernel_rfl
theorem r_same : TRow prog F_rimeplain_SameBytes tSame := by
  intro args r h
  unfold tSame at h
  split at h
  case h_2 => simp at h
  rename_i t n f t' m g
  simp only [Option.some.injEq, Prod.mk.injEq] at h
  obtain ⟨hb, rfl⟩ := h
  by_cases e : n = m
  · subst e
    have hs : stB (sbI t t' n n f g) (sbS ⟨t, t', n, f, g⟩ 0) = true := sb_same ⟨t, t', n, f, g⟩ 0
    cases he : eqF n 1 f g with
    | true =>
      refine pure_of_outL L0 at_rimeplain_SameBytes (LsOK.nil.cons l_sb1) c_same1 (N := 5) (gs := [(10, false)]) ?_
      rw [k_same1]; simp [ckL, hb, he, hs]
    | false =>
      refine pure_of_outL L0 at_rimeplain_SameBytes (LsOK.nil.cons l_sb2) c_same2 (N := 5) (gs := [(10, false)]) ?_
      rw [k_same2]; simp [ckL, hb, he, hs]
  · refine pure_of_outL L0 at_rimeplain_SameBytes (LsOK.nil.cons l_sb2) c_same2 (N := 5) (gs := [(10, true)]) ?_
    rw [k_same3]
    have : Nat.beq n m = false := by cases h : Nat.beq n m with | false => rfl | true => exact absurd (Nat.eq_of_beq_eq_true h) e
    have e2 : ((n : Int) != (m : Int)) = true := by simp; omega
    simp [ckL, this, e2]
end Go.Proofs.YtkifoidhmipacaaGreat

namespace Go.Proofs.YtkifoidhmipacaaGreat
open Go.Proofs.Tryz
open Go Go.AM
def tTwice : TF := fun args => match args with
  | [.agg [.ints .u32 8 a], .sc (.int .u32 b)] => some (inW8 a && (decide (0 ≤ b) && (decide (b ≤ 1) && decide (val8 a < ordL))), n8 (2 * val8 a + b))
  | _ => none
theorem c_twice : fnChk prog pE f_rimeref02_twice = true := by kernel_rfl
theorem k_twice (a : Nat → Int) (b : Int) : outP (apFunc pE [] 10 f_rimeref02_twice [u8w a, .sc (.int .u32 b)] []) = some (true, u8w (lf (twiceL a b))) := by kernel_rfl
theorem r_twice : TRow prog F_rimeref02_twice tTwice := by
  intro args r h
  unfold tTwice at h
  split at h
  case h_2 => simp at h
  rename_i a b
  simp only [Option.some.injEq, Prod.mk.injEq, Bool.and_eq_true, decide_eq_true_eq] at h
  obtain ⟨⟨ha, hb0, hb1, hl⟩, rfl⟩ := h
  refine pure_of_out L0 at_rimeref02_twice c_twice (N := 10) (gs := []) ?_
  have := k_twice a b
  rw [twice_law ha ⟨hb0, hb1⟩ hl] at this
  exact this
def tMinus : TF := fun args => match args with
  | [.agg [.ints .u32 8 a], .agg [.ints .u32 8 b]] => some (inW8 a && (inW8 b && decide (val8 b ≤ val8 a)), n8 (val8 a - val8 b))
  | _ => none
theorem c_minus : fnChk prog pE f_rimeref02_minus = true := by kernel_rfl
theorem k_minus (a b : Nat → Int) : outP (apFunc pE [] 10 f_rimeref02_minus [u8w a, u8w b] []) = some (true, u8w (lf (minL a b))) := by kernel_rfl
theorem r_minus : TRow prog F_rimeref02_minus tMinus := by
  intro args r h
  unfold tMinus at h
  split at h
  case h_2 => simp at h
  rename_i a b
  simp only [Option.some.injEq, Prod.mk.injEq, Bool.and_eq_true, decide_eq_true_eq] at h
  obtain ⟨⟨ha, hb, hl⟩, rfl⟩ := h
  refine pure_of_out L0 at_rimeref02_minus c_minus (N := 10) (gs := []) ?_
  have := k_minus a b
  rw [min_law ha hb hl] at this
  exact this
/-! below -/
noncomputable def blB : Code := match f_rimeref02_below.body with | some c => (match bodiesOf 0 c with | [.loop b] => b | _ => .skip) | none => .skip
def blH (a b : Nat → Int) : Heap := [some (.ints .u32 8 1 (fun _ d => a d)), some (.ints .u32 8 1 (fun _ d => b d))]
def blV (p : (Nat → Int) × (Nat → Int)) (v : Int) : St := ⟨tmOf [(2, .sc (.ptr 0 8 0 0 8)), (3, .sc (.ptr 1 8 0 0 8)), (5, .sc (.int .i64 v))] 24 0, blH p.1 p.2⟩
def blS (p : (Nat → Int) × (Nat → Int)) (k : Nat) : St := blV p (7 - (k : Int))
def blRd (s : St) : Option ((Nat → Int) × (Nat → Int)) := match s.hp with
  | [some (.ints _ _ _ a), some (.ints _ _ _ b)] => some (a 0, b 0)
  | _ => none
theorem bl_round (p : (Nat → Int) × (Nat → Int)) (v : Int) : roundB pE [(7, true), (16, false)] 5 blB (blV p v) .normal (blV p (v - 1)) =
    some (ckL [decide (v ≥ 0) == true, inR v 8, inR v 8, (p.1 (0 + v.toNat * 1) != p.2 (0 + v.toNat * 1)) == false] && stB (blV p (wr .i64 (v - 1))) (blV p (v - 1))) := by kernel_rfl
theorem bl_same (p : (Nat → Int) × (Nat → Int)) (v : Int) : stB (blV p v) (blV p v) = true := by
  simp [stB, blV, blH, tmOf, tmB, avB, svB, hpB, blkB, eqF_refl, kEq]
def blT1 (p : (Nat → Int) × (Nat → Int)) : St := ⟨tmOf [] 24 0, blH p.1 p.2⟩
def blT2 (p : (Nat → Int) × (Nat → Int)) (r : Bool) : St := ⟨tmOf [(4, .sc (.bool r))] 24 0, blH p.1 p.2⟩
theorem bl_stop1 (p : (Nat → Int) × (Nat → Int)) : roundB pE [] 5 blB (blV p (-1)) (.exit 0) (blT1 p) = some (true && stB (blT1 p) (blT1 p)) := by kernel_rfl
theorem bl_stop2 (p : (Nat → Int) × (Nat → Int)) (v : Int) (r : Bool) : roundB pE [(7, true), (16, true)] 5 blB (blV p v) .ret (blT2 p r) =
    some (ckL [decide (v ≥ 0) == true, inR v 8, inR v 8, (p.1 (0 + v.toNat * 1) != p.2 (0 + v.toNat * 1)) == true, inR v 8, inR v 8] && stB (blT2 p (decide (p.1 (0 + v.toNat * 1) < p.2 (0 + v.toNat * 1)))) (blT2 p r)) := by kernel_rfl
def blF1 : LF := famF blRd blS (fun p => Nat.beq (alike p.1 p.2 8 0) 8) (fun _ => .normal) blT1
def blF2 : LF := famF blRd blS (fun p => Nat.ble (alike p.1 p.2 8 0 + 1) 8) (fun _ => .ret) (fun p => blT2 p (decide (p.1 (7 - alike p.1 p.2 8 0) < p.2 (7 - alike p.1 p.2 8 0))))
theorem bl_body : f_rimeref02_below.body.map (bodiesOf 0) = some [.loop blB] := by kernel_rfl
theorem bl_ok : codeOK prog pE.env.isW blB = true := by kernel_rfl
theorem bl_rd {s : St} {p : (Nat → Int) × (Nat → Int)} (h : blRd s = some p) : ∃ k sz n f k' sz' n' g, s.hp = [some (.ints k sz n f), some (.ints k' sz' n' g)] := by
  unfold blRd at h
  split at h
  · rename_i hh; exact ⟨_, _, _, _, _, _, _, _, hh⟩
  · simp at h
theorem bl_hp {s : St} {p : (Nat → Int) × (Nat → Int)} (h : blRd s = some p) : (blS p 0).hp.length = s.hp.length ∧ ∀ (i : Nat) (t : Heap), s.hp[i]? = some none → t[i]? = some none := by
  obtain ⟨k, sz, n, f, k', sz', n', g, hh⟩ := bl_rd h
  refine ⟨by rw [hh]; rfl, fun i t hi => ?_⟩
  rw [hh] at hi
  match i, hi with
  | 0, hi => simp at hi
  | 1, hi => simp at hi
  | n + 2, hi => simp at hi
theorem bl_step (p : (Nat → Int) × (Nat → Int)) (k : Nat) (hk : k < 8) (he : p.1 (7 - k) = p.2 (7 - k)) : ∃ s1, am pE.env 5 blB (blS p k) = some (.normal, s1) ∧ StLe s1 (blS p (k + 1)) := by
  have e0 : (7 - ((k + 1 : Nat) : Int)) = 7 - (k : Int) - 1 := by omega
  unfold blS
  rw [e0]
  refine roundB_spec (bl_round p (7 - (k : Int))) ?_
  have e : wr .i64 (7 - (k : Int) - 1) = 7 - (k : Int) - 1 := by
    show IntKind.i64.wrap _ = _
    rw [IntKind.wrap_i64]; omega
  have et : 0 + (7 - (k : Int)).toNat * 1 = 7 - k := by omega
  rw [e, bl_same, et, he]
  simp [ckL, inR]; omega
theorem l_bl1 : LRow prog f_rimeref02_below 0 blF1 := by
  refine LRow.fam (N := 5) (L0.env []) mix (fun _ => 8) (body_of bl_body) bl_ok (fun w0 own0 => accOK_none (fun id => rfl) blB) (fun s a h => ⟨(bl_hp h).1, fun i hi => (bl_hp h).2 i _ hi⟩) (fun _ _ => rfl) (fun _ => Nat.le_refl _) ?_ ?_
  · intro p hp k hk
    have hp := Nat.eq_of_beq_eq_true hp
    obtain ⟨h1, h2, h3, h4⟩ := alike_spec p.1 p.2 8 0
    exact bl_step p k hk (h3 k (Nat.zero_le _) (by omega))
  · intro p hp
    obtain ⟨s1, h1, h2⟩ := roundB_spec (bl_stop1 p) (by simp [stB, blT1, blH, tmOf, tmB, avB, hpB, blkB, eqF_refl, kEq])
    exact ⟨_, s1, h1, rfl, h2⟩
theorem l_bl2 : LRow prog f_rimeref02_below 0 blF2 := by
  refine LRow.fam (N := 5) (L0.env []) mix (fun p => alike p.1 p.2 8 0) (body_of bl_body) bl_ok (fun w0 own0 => accOK_none (fun id => rfl) blB) (fun s a h => ⟨(bl_hp h).1, fun i hi => (bl_hp h).2 i _ hi⟩) (fun _ _ => rfl) (fun _ => Nat.le_refl _) ?_ ?_
  · intro p hp k hk
    have hp := Nat.le_of_ble_eq_true hp
    obtain ⟨h1, h2, h3, h4⟩ := alike_spec p.1 p.2 8 0
    exact bl_step p k (by omega) (h3 k (Nat.zero_le _) hk)
  · intro p hp
    have hp := Nat.le_of_ble_eq_true hp
    obtain ⟨h1, h2, h3, h4⟩ := alike_spec p.1 p.2 8 0
    have hne := h4 (by omega)
    have et : 0 + (7 - ((alike p.1 p.2 8 0 : Nat) : Int)).toNat * 1 = 7 - alike p.1 p.2 8 0 := by omega
    obtain ⟨s1, q1, q2⟩ := roundB_spec (bl_stop2 p (7 - (alike p.1 p.2 8 0 : Int)) (decide (p.1 (7 - alike p.1 p.2 8 0) < p.2 (7 - alike p.1 p.2 8 0)))) (by
      rw [et]
      have hs : stB (blT2 p (decide (p.1 (7 - alike p.1 p.2 8 0) < p.2 (7 - alike p.1 p.2 8 0)))) (blT2 p (decide (p.1 (7 - alike p.1 p.2 8 0) < p.2 (7 - alike p.1 p.2 8 0)))) = true := by
        simp [stB, blT2, blH, tmOf, tmB, avB, svB, hpB, blkB, eqF_refl, kEq]
      rw [hs]
      simp [ckL, inR, hne]; omega)
    exact ⟨_, s1, q1, rfl, q2⟩
def tBelow : TF := fun args => match args with
  | [.agg [.ints .u32 8 a], .agg [.ints .u32 8 b]] => some (inW8 a && inW8 b, .sc (.bool (decide (val8 a < val8 b))))
  | _ => none
def blI (p : (Nat → Int) × (Nat → Int)) : St := ⟨tmOf [(2, .sc (.ptr 0 8 0 0 8)), (3, .sc (.ptr 1 8 0 0 8)), (5, .sc (.int .i64 7))] 24 0, blH p.1 p.2⟩
theorem c_below1 : fnChk prog (envL tt [] [] [(0, blF1)]) f_rimeref02_below = true := by kernel_rfl
theorem c_below2 : fnChk prog (envL tt [] [] [(0, blF2)]) f_rimeref02_below = true := by kernel_rfl
theorem k_below1 (a b : Nat → Int) : outP (apFunc (envL tt [] [] [(0, blF1)]) [] 5 f_rimeref02_below [u8w a, u8w b] []) =
    some (ckL [Nat.beq (alike a b 8 0) 8 && stB (blI (a, b)) (blS (a, b) 0)], .sc (.bool false)) := by kernel_rfl
theorem k_below2 (a b : Nat → Int) : outP (apFunc (envL tt [] [] [(0, blF2)]) [] 5 f_rimeref02_below [u8w a, u8w b] []) =
    some (ckL [Nat.ble (alike a b 8 0 + 1) 8 && stB (blI (a, b)) (blS (a, b) 0)], .sc (.bool (decide (a (7 - alike a b 8 0) < b (7 - alike a b 8 0))))) := by kernel_rfl
theorem r_below : TRow prog F_rimeref02_below tBelow := by
  intro args r h
  unfold tBelow at h
  split at h
  case h_2 => simp at h
  rename_i a b
  simp only [Option.some.injEq, Prod.mk.injEq, Bool.and_eq_true] at h
  obtain ⟨⟨ha, hb⟩, rfl⟩ := h
  obtain ⟨q1, q2⟩ := below_law ha hb
  have hs : stB (blI (a, b)) (blS (a, b) 0) = true := bl_same (a, b) 7
  obtain ⟨h1, h2, _, _⟩ := alike_spec a b 8 0
  by_cases e : alike a b 8 0 = 8
  · rw [q1 e]
    refine pure_of_outL L0 at_rimeref02_below (LsOK.nil.cons l_bl1) c_below1 (N := 5) (gs := []) ?_
    have := k_below1 a b
    rw [e, hs] at this
    exact this
  · rw [(q2 (by omega)).1]
    refine pure_of_outL L0 at_rimeref02_below (LsOK.nil.cons l_bl2) c_below2 (N := 5) (gs := []) ?_
    have := k_below2 a b
    rw [hs, show Nat.ble (alike a b 8 0 + 1) 8 = true from Nat.ble_eq_true_of_le (by omega)] at this
    exact this
def tOrder2 : TF := fun args => match args with
  | [] => some (true, n8 ordL)
  | _ => none
theorem c_order2 : fnChk prog pE f_rimeref02_Order = true := by kernel_rfl
theorem r_order2 : TRow prog F_rimeref02_Order tOrder2 := by
  intro args r h
  unfold tOrder2 at h
  split at h
  case h_2 => simp at h
  simp only [Option.some.injEq, Prod.mk.injEq, true_and] at h
  subst h
  exact pure_of_out L0 at_rimeref02_Order c_order2 (N := 5) (gs := []) (by kernel_rfl)
def rs1 : List (Nat × TF) := [(F_rimeref02_Order, tOrder2), (F_rimeref02_below, tBelow), (F_rimeref02_minus, tMinus), (F_rimeref02_twice, tTwice)]
theorem R1 : LibOK prog tt rs1 [] := (((L0.addT r_twice).addT r_minus).addT r_below).addT r_order2
end Go.Proofs.YtkifoidhmipacaaGreat

namespace Go.Proofs.YtkifoidhmipacaaGreat
open Go.Proofs.Tryz
open Go Go.AM
structure MA where
  t : Bool
  n : Nat
  f : Nat → Nat → Int
  i : Nat
  r : Int
noncomputable abbrev qE : EnvP := envP tt rs1 []
noncomputable def miB : Code := match f_rimeref02_mod.body with | some c => (match bodiesOf 2 c with | [.loop b] => b | _ => .skip) | none => .skip
noncomputable def moB : Code := match f_rimeref02_mod.body with | some c => (match bodiesOf 0 c with | [.loop b] => b | _ => .skip) | none => .skip
def mdH (r : Int) : Heap := [some (.ints .u32 8 1 (fun _ _ => 0)), some (.ints .u32 8 1 (fun _ d => limbs8 r d)), some (.ints .u32 8 1 (fun _ d => limbs8 ordL d))]
def mdW (a : MA) (iv v r : Int) : St := ⟨tmOf [(0, .sc (.vints a.t .u32 1 a.n a.f)), (2, .sc (.ptr 0 8 0 0 8)), (3, .sc (.ptr 1 8 0 0 8)), (4, .sc (.ptr 2 8 0 0 8)), (5, .sc (.int .i64 iv)), (6, .sc (.int .i64 v))] 37 0, mdH r⟩
def mdV (a : MA) (v r : Int) : St := mdW a (a.i : Int) v r
def bitOf (d v : Int) : Int := iand .u32 (ishr .u32 d (wr .u64 v)) 1
def twV (r b : Int) : Int := 2 * val8 (limbs8 r) + b
def twCk (r b : Int) : Bool := inW8 (limbs8 r) && (decide (0 ≤ b) && (decide (b ≤ 1) && decide (val8 (limbs8 r) < ordL)))
theorem mi_round1 (a : MA) (v r : Int) : roundB qE [(16, true), (32, false)] 5 miB (mdV a v r) .normal (mdV a (v - 1) (twV r (bitOf (a.f (a.i : Int).toNat 0) v))) =
    some (ckL [decide (v ≥ 0) == true, inR a.i a.n, !decide (wr .u64 v < 0), twCk r (bitOf (a.f (a.i : Int).toNat 0) v), inW8 (limbs8 (twV r (bitOf (a.f (a.i : Int).toNat 0) v))) && inW8 (limbs8 ordL),
        (!decide (val8 (limbs8 (twV r (bitOf (a.f (a.i : Int).toNat 0) v))) < val8 (limbs8 ordL))) == false] &&
      stB (mdV a (wr .i64 (v - 1)) (twV r (bitOf (a.f (a.i : Int).toNat 0) v))) (mdV a (v - 1) (twV r (bitOf (a.f (a.i : Int).toNat 0) v)))) := by kernel_rfl
theorem mi_round2 (a : MA) (v r : Int) : roundB qE [(16, true), (32, true)] 5 miB (mdV a v r) .normal (mdV a (v - 1) (val8 (limbs8 (twV r (bitOf (a.f (a.i : Int).toNat 0) v))) - val8 (limbs8 ordL))) =
    some (ckL [decide (v ≥ 0) == true, inR a.i a.n, !decide (wr .u64 v < 0), twCk r (bitOf (a.f (a.i : Int).toNat 0) v), inW8 (limbs8 (twV r (bitOf (a.f (a.i : Int).toNat 0) v))) && inW8 (limbs8 ordL),
        (!decide (val8 (limbs8 (twV r (bitOf (a.f (a.i : Int).toNat 0) v))) < val8 (limbs8 ordL))) == true,
        inW8 (limbs8 (twV r (bitOf (a.f (a.i : Int).toNat 0) v))) && (inW8 (limbs8 ordL) && decide (val8 (limbs8 ordL) ≤ val8 (limbs8 (twV r (bitOf (a.f (a.i : Int).toNat 0) v)))))] &&
      stB (mdV a (wr .i64 (v - 1)) (val8 (limbs8 (twV r (bitOf (a.f (a.i : Int).toNat 0) v))) - val8 (limbs8 ordL))) (mdV a (v - 1) (val8 (limbs8 (twV r (bitOf (a.f (a.i : Int).toNat 0) v))) - val8 (limbs8 ordL)))) := by kernel_rfl
theorem md_same (a : MA) (v r : Int) : stB (mdV a v r) (mdV a v r) = true := by
  simp [stB, mdV, mdW, mdH, tmOf, tmB, avB, svB, hpB, blkB, eqF_refl, kEq]
def miT (a : MA) (r : Int) : St := ⟨tmOf [(0, .sc (.vints a.t .u32 1 a.n a.f)), (2, .sc (.ptr 0 8 0 0 8)), (3, .sc (.ptr 1 8 0 0 8)), (4, .sc (.ptr 2 8 0 0 8)), (5, .sc (.int .i64 (a.i : Int)))] 37 0, mdH r⟩
theorem mi_stop (a : MA) (r : Int) : roundB qE [] 5 miB (mdV a (-1) r) (.exit 2) (miT a r) = some (true && stB (miT a r) (miT a r)) := by kernel_rfl
theorem miT_same (a : MA) (r : Int) : stB (miT a r) (miT a r) = true := by
  simp [stB, miT, mdH, tmOf, tmB, avB, svB, hpB, blkB, eqF_refl, kEq]
def miD (a : MA) : Int := a.f a.i 0
def miS (a : MA) (k : Nat) : St := mdV a (31 - (k : Int)) (rK a.r (miD a) k)
def miRd (s : St) : Option MA := match getA s.tm 0, getA s.tm 5, s.hp with
  | .sc (.vints t _ _ n f), .sc (.int _ i), [some (.ints ..), some (.ints _ _ _ g), some (.ints ..)] => some ⟨t, n, f, i.toNat, val8 (g 0)⟩
  | _, _, _ => none
def miCk (a : MA) : Bool := Nat.ble (a.i + 1) a.n && (in32 (miD a) && (decide (0 ≤ a.r) && decide (a.r < ordL)))
def miF : LF := famF miRd miS miCk (fun _ => .normal) (fun a => miT a (rK a.r (miD a) 32))
theorem mi_body : f_rimeref02_mod.body.map (bodiesOf 2) = some [.loop miB] := by kernel_rfl
theorem mi_ok : codeOK prog qE.env.isW miB = true := by kernel_rfl
theorem mi_hp {s : St} {a : MA} (h : miRd s = some a) : s.hp.length = 3 ∧ ∀ (i : Nat) (t : Heap), s.hp[i]? = some none → t[i]? = some none := by
  unfold miRd at h
  split at h
  · rename_i hh
    rw [hh]
    refine ⟨rfl, fun i t hi => ?_⟩
    match i, hi with
    | 0, hi => simp at hi
    | 1, hi => simp at hi
    | 2, hi => simp at hi
    | n + 3, hi => simp at hi
  · simp at h
theorem ordL_in : inW8 (limbs8 ordL) = true := inW8_limbs _
theorem ordL_val : val8 (limbs8 ordL) = ordL := val8_limbs (by decide) (by decide)
theorem mi_step (a : MA) (ha : miCk a = true) (k : Nat) (hk : k < 32) : ∃ s1, am qE.env 5 miB (miS a k) = some (.normal, s1) ∧ StLe s1 (miS a (k + 1)) := by
  simp only [miCk, Bool.and_eq_true, decide_eq_true_eq] at ha
  obtain ⟨h1, h2, h3, h4⟩ := ha
  have h1 := Nat.le_of_ble_eq_true h1
  have hd := in32_t h2
  obtain ⟨q1, q2⟩ := rK_range ⟨h3, h4⟩ (miD a) k
  have hb : bitOf (a.f (a.i : Int).toNat 0) (31 - (k : Int)) = miD a / 2 ^ (31 - k) % 2 := by
    unfold bitOf
    rw [Int.toNat_natCast]
    exact bit_law hd hk
  have hnext : rK a.r (miD a) (k + 1) = (2 * rK a.r (miD a) k + miD a / 2 ^ (31 - k) % 2) % ordL := rfl
  have ev : (31 - ((k + 1 : Nat) : Int)) = 31 - (k : Int) - 1 := by omega
  have ew : wr .i64 (31 - (k : Int) - 1) = 31 - (k : Int) - 1 := by
    show IntKind.i64.wrap _ = _
    rw [IntKind.wrap_i64]; omega
  have eu : (decide (wr .u64 (31 - (k : Int)) < 0)) = false := by rw [wr64]; simp; omega
  have hbit : 0 ≤ miD a / 2 ^ (31 - k) % 2 ∧ miD a / 2 ^ (31 - k) % 2 ≤ 1 := by omega
  unfold miS
  rw [hnext, ev]
  generalize hr : rK a.r (miD a) k = r at *
  have hv : val8 (limbs8 r) = r := val8_limbs q1 (by unfold ordL R256 at *; omega)
  have htw : twV r (miD a / 2 ^ (31 - k) % 2) = 2 * r + miD a / 2 ^ (31 - k) % 2 := by unfold twV; rw [hv]
  have hck : twCk r (miD a / 2 ^ (31 - k) % 2) = true := by
    unfold twCk
    rw [hv, inW8_limbs]
    simp [hbit, q2]
  generalize miD a / 2 ^ (31 - k) % 2 = b at *
  have hv2 : val8 (limbs8 (2 * r + b)) = 2 * r + b := val8_limbs (by omega) (by unfold ordL R256 at *; omega)
  have hir : inR (a.i : Int) a.n = true := inR_nat (by omega)
  by_cases e : 2 * r + b < ordL
  · have e2 : (2 * r + b) % ordL = 2 * r + b := Int.emod_eq_of_lt (by omega) e
    rw [e2]
    have hR := mi_round1 a (31 - (k : Int)) r
    rw [hb, htw] at hR
    refine roundB_spec hR ?_
    rw [ew, md_same, hck, hir, eu, inW8_limbs, ordL_in, hv2, ordL_val]
    simp [ckL, e]; omega
  · have e2 : (2 * r + b) % ordL = 2 * r + b - ordL := by unfold ordL at *; omega
    rw [e2]
    have hR := mi_round2 a (31 - (k : Int)) r
    rw [hb, htw, hv2, ordL_val] at hR
    refine roundB_spec hR ?_
    rw [ew, md_same, hck, hir, eu, inW8_limbs, ordL_in]
    have e3 : ordL ≤ 2 * r + b := by omega
    simp [ckL, e, e3]; omega
theorem mdH_len (r : Int) : (mdH r).length = 3 := rfl
theorem l_mi : LRow prog f_rimeref02_mod 2 miF := by
  refine LRow.fam (N := 5) (R1.env []) mix (fun _ => 32) (body_of mi_body) mi_ok (fun w0 own0 => accOK_none (fun id => rfl) miB) (fun s a h => ⟨by rw [(mi_hp h).1]; exact mdH_len _, fun i hi => (mi_hp h).2 i _ hi⟩) (fun a k => (mdH_len _).trans (mdH_len _).symm) (fun a => Nat.le_of_eq ((mdH_len _).trans (mdH_len _).symm)) (fun a ha k hk => mi_step a ha k hk) ?_
  intro a ha
  obtain ⟨s1, h1, h2⟩ := roundB_spec (mi_stop a (rK a.r (miD a) 32)) (by rw [miT_same]; rfl)
  exact ⟨_, s1, h1, rfl, h2⟩

/-! the outer loop -/
noncomputable abbrev oE : EnvP := envL tt rs1 [] [(2, miF)]
def moV (a : MA) (v r : Int) : St := ⟨tmOf [(0, .sc (.vints a.t .u32 1 a.n a.f)), (2, .sc (.ptr 0 8 0 0 8)), (3, .sc (.ptr 1 8 0 0 8)), (4, .sc (.ptr 2 8 0 0 8)), (5, .sc (.int .i64 v))] 37 0, mdH r⟩
def moIn (a : MA) (v r : Int) : MA := ⟨a.t, a.n, a.f, v.toNat, val8 (limbs8 r)⟩
theorem mo_round (a : MA) (v r : Int) : roundB oE [(12, true)] 5 moB (moV a v r) .normal (moV a (v - 1) (rK (val8 (limbs8 r)) (a.f v.toNat 0) 32)) =
    some (ckL [decide (v ≥ 0) == true, miCk (moIn a v r) && stB (mdW a v 31 r) (miS (moIn a v r) 0)] && stB (moV a (wr .i64 ((v.toNat : Int) - 1)) (rK (val8 (limbs8 r)) (a.f v.toNat 0) 32)) (moV a (v - 1) (rK (val8 (limbs8 r)) (a.f v.toNat 0) 32))) := by kernel_rfl
def moT (a : MA) (r : Int) : St := ⟨tmOf [(2, .sc (.ptr 0 8 0 0 8)), (3, .sc (.ptr 1 8 0 0 8))] 37 0, mdH r⟩
theorem mo_stop (a : MA) (r : Int) : roundB oE [] 5 moB (moV a (-1) r) (.exit 0) (moT a r) = some (true && stB (moT a r) (moT a r)) := by kernel_rfl
theorem mo_inner : bodiesOf 2 moB = [.loop miB] := by kernel_rfl
theorem mo_acc : ∀ w0 own0, accOK prog oE.env w0 own0 moB := by
  intro w0 own0
  refine accOK_of moB fun id F hF b hb => ?_
  have h2 : id = 2 ∧ F = fun s => dropB (miF s) := by
    by_cases e : id = 2
    · subst e
      refine ⟨rfl, ?_⟩
      have : oE.env.L 2 = some (fun s => dropB (miF s)) := rfl
      rw [this] at hF
      exact (Option.some.inj hF).symm
    · have : getL [(2, miF)] id = none := by
        simp only [getL]
        cases hb2 : Nat.beq 2 id with
        | true => exact absurd (Nat.eq_of_beq_eq_true hb2).symm e
        | false => rfl
      have h3 : oE.env.L id = none := by
        show (match getL [(2, miF)] id with | some F => some (fun s => dropB (F s)) | none => none) = none
        rw [this]
      rw [h3] at hF; cases hF
  obtain ⟨rfl, rfl⟩ := h2
  rw [mo_inner] at hb
  have hc := mi_body
  cases hcc : f_rimeref02_mod.body with
  | none => rw [hcc] at hc; simp at hc
  | some c =>
    rw [hcc] at hc
    simp only [Option.map_some, Option.some.injEq] at hc
    exact l_mi.1 c hcc b (by rw [hc]; exact hb) w0 own0
def moS (a : MA) (k : Nat) : St := moV a ((a.n : Int) - 1 - (k : Int)) (dmod a.f a.n k)
def moRd (s : St) : Option MA := match getA s.tm 0, s.hp with
  | .sc (.vints t _ _ n f), [some (.ints ..), some (.ints ..), some (.ints ..)] => some ⟨t, n, f, 0, 0⟩
  | _, _ => none
def all32 (f : Nat → Nat → Int) (n : Nat) : Bool := (List.range n).all fun j => in32 (f j 0)
theorem all32_t {f : Nat → Nat → Int} {n : Nat} (h : all32 f n = true) : ∀ j, j < n → W32 (f j 0) := fun j hj => by
  simp only [all32, List.all_eq_true, List.mem_range] at h
  exact in32_t (h j hj)
def moCk (a : MA) : Bool := big a.n && all32 a.f a.n
def moF : LF := famF moRd moS moCk (fun _ => .normal) (fun a => moT a (dmod a.f a.n a.n))
theorem mo_body : f_rimeref02_mod.body.map (bodiesOf 0) = some [.loop moB] := by kernel_rfl
theorem mo_ok : codeOK prog oE.env.isW moB = true := by kernel_rfl
theorem mo_hp {s : St} {a : MA} (h : moRd s = some a) : s.hp.length = 3 ∧ ∀ (i : Nat) (t : Heap), s.hp[i]? = some none → t[i]? = some none := by
  unfold moRd at h
  split at h
  · rename_i hh
    rw [hh]
    refine ⟨rfl, fun i t hi => ?_⟩
    match i, hi with
    | 0, hi => simp at hi
    | 1, hi => simp at hi
    | 2, hi => simp at hi
    | n + 3, hi => simp at hi
  · simp at h
theorem mo_same (a : MA) (v r : Int) : stB (moV a v r) (moV a v r) = true := by
  simp [stB, moV, mdH, tmOf, tmB, avB, svB, hpB, blkB, eqF_refl, kEq]
theorem moT_same (a : MA) (r : Int) : stB (moT a r) (moT a r) = true := by
  simp [stB, moT, mdH, tmOf, tmB, avB, svB, hpB, blkB, eqF_refl, kEq]
theorem mo_step (a : MA) (ha : moCk a = true) (k : Nat) (hk : k < a.n) : ∃ s1, am oE.env 5 moB (moS a k) = some (.normal, s1) ∧ StLe s1 (moS a (k + 1)) := by
  simp only [moCk, Bool.and_eq_true] at ha
  obtain ⟨hbig, hall⟩ := ha
  have hb : a.n ≤ 4611686018427387904 := Nat.le_of_ble_eq_true hbig
  have hW := all32_t hall
  obtain ⟨q1, q2⟩ := dmod_range a.f a.n k
  have hnext : dmod a.f a.n (k + 1) = rK (dmod a.f a.n k) (a.f (a.n - 1 - k) 0) 32 := rfl
  have ev : ((a.n : Int) - 1 - ((k + 1 : Nat) : Int)) = (a.n : Int) - 1 - (k : Int) - 1 := by omega
  unfold moS
  rw [hnext, ev]
  generalize hr : dmod a.f a.n k = r at *
  have hv : val8 (limbs8 r) = r := val8_limbs q1 (by unfold ordL R256 at *; omega)
  have et : ((a.n : Int) - 1 - (k : Int)).toNat = a.n - 1 - k := by omega
  have hR := mo_round a ((a.n : Int) - 1 - (k : Int)) r
  rw [et, hv] at hR
  refine roundB_spec hR ?_
  have ec : (((a.n - 1 - k : Nat) : Int)) = (a.n : Int) - 1 - (k : Int) := by omega
  have ew : wr .i64 ((a.n : Int) - 1 - (k : Int) - 1) = (a.n : Int) - 1 - (k : Int) - 1 := by
    show IntKind.i64.wrap _ = _
    rw [IntKind.wrap_i64]; omega
  have hin : moIn a ((a.n : Int) - 1 - (k : Int)) r = ⟨a.t, a.n, a.f, a.n - 1 - k, r⟩ := by unfold moIn; rw [et, hv]
  rw [hin]
  have hs : stB (mdW a ((a.n : Int) - 1 - (k : Int)) 31 r) (miS ⟨a.t, a.n, a.f, a.n - 1 - k, r⟩ 0) = true := by
    have : miS ⟨a.t, a.n, a.f, a.n - 1 - k, r⟩ 0 = mdV ⟨a.t, a.n, a.f, a.n - 1 - k, r⟩ 31 r := rfl
    rw [this]
    have h2 := md_same ⟨a.t, a.n, a.f, a.n - 1 - k, r⟩ 31 r
    have h3 : mdV ⟨a.t, a.n, a.f, a.n - 1 - k, r⟩ 31 r = mdW a ((a.n : Int) - 1 - (k : Int)) 31 r := by
      show mdW ⟨a.t, a.n, a.f, a.n - 1 - k, r⟩ ((a.n - 1 - k : Nat) : Int) 31 r = _
      rw [ec]; rfl
    rw [h3] at h2 ⊢
    exact h2
  have hck : miCk ⟨a.t, a.n, a.f, a.n - 1 - k, r⟩ = true := by
    simp only [miCk, miD, Bool.and_eq_true, decide_eq_true_eq]
    exact ⟨Nat.ble_eq_true_of_le (by omega), in32_of (hW _ (by omega)), q1, q2⟩
  rw [hs, hck, ec, ew, mo_same]
  simp [ckL]; omega
theorem l_mo : LRow prog f_rimeref02_mod 0 moF := by
  refine LRow.fam (N := 5) (R1.env _) mix (fun a => a.n) (body_of mo_body) mo_ok mo_acc (fun s a h => ⟨by rw [(mo_hp h).1]; exact mdH_len _, fun i hi => (mo_hp h).2 i _ hi⟩) (fun a k => (mdH_len _).trans (mdH_len _).symm) (fun a => Nat.le_of_eq ((mdH_len _).trans (mdH_len _).symm)) (fun a ha k hk => mo_step a ha k hk) ?_
  intro a ha
  have e : moS a a.n = moV a (-1) (dmod a.f a.n a.n) := by
    unfold moS
    rw [show (a.n : Int) - 1 - (a.n : Int) = -1 by omega]
  rw [e]
  obtain ⟨s1, h1, h2⟩ := roundB_spec (mo_stop a (dmod a.f a.n a.n)) (by rw [moT_same]; rfl)
  exact ⟨_, s1, h1, rfl, h2⟩
def tMod : TF := fun args => match args with
  | [.sc (.vints _ .u32 1 n f)] => some (big n && all32 f n, n8 (dval f n n % ordL))
  | _ => none
def moI (t : Bool) (n : Nat) (f : Nat → Nat → Int) : St := ⟨tmOf [(0, .sc (.vints t .u32 1 n f)), (2, .sc (.ptr 0 8 0 0 8)), (3, .sc (.ptr 1 8 0 0 8)), (4, .sc (.ptr 2 8 0 0 8)), (5, .sc (.int .i64 (wr .i64 ((n : Int) - 1))))] 37 0, [some (.ints .u32 8 1 (fun _ _ => 0)), some (.ints .u32 8 1 (fun _ _ => 0)), some (.ints .u32 8 1 (fun _ d => limbs8 ordL d))]⟩
theorem c_mod : fnChk prog (envL tt rs1 [] [(0, moF)]) f_rimeref02_mod = true := by kernel_rfl
theorem k_mod (t : Bool) (n : Nat) (f : Nat → Nat → Int) : outP (apFunc (envL tt rs1 [] [(0, moF)]) [] 5 f_rimeref02_mod [.sc (.vints t .u32 1 n f)] []) =
    some (ckL [moCk ⟨t, n, f, 0, 0⟩ && stB (moI t n f) (moS ⟨t, n, f, 0, 0⟩ 0)], n8 (dmod f n n)) := by kernel_rfl
theorem r_mod : TRow prog F_rimeref02_mod tMod := by
  intro args r h
  unfold tMod at h
  split at h
  case h_2 => simp at h
  rename_i t n f
  simp only [Option.some.injEq, Prod.mk.injEq] at h
  obtain ⟨hb, rfl⟩ := h
  refine pure_of_outL R1 at_rimeref02_mod (LsOK.nil.cons l_mo) c_mod (N := 5) (gs := []) ?_
  have hb2 := hb
  simp only [Bool.and_eq_true] at hb2
  have hn : n ≤ 4611686018427387904 := Nat.le_of_ble_eq_true hb2.1
  have e1 : wr .i64 ((n : Int) - 1) = (n : Int) - 1 - ((0 : Nat) : Int) := by
    show IntKind.i64.wrap _ = _
    rw [IntKind.wrap_i64]; omega
  have hs : stB (moI t n f) (moS ⟨t, n, f, 0, 0⟩ 0) = true := by
    have h0 : eqF 1 8 (fun _ _ => 0) (fun _ d => limbs8 0 d) = true := by decide
    have hm : moS ⟨t, n, f, 0, 0⟩ 0 = moV ⟨t, n, f, 0, 0⟩ ((n : Int) - 1 - ((0 : Nat) : Int)) 0 := rfl
    rw [hm]
    simp only [moI, e1]
    simp [stB, moV, mdH, tmOf, tmB, avB, svB, hpB, blkB, eqF_refl, kEq, h0]
  rw [k_mod, hs, dmod_eq (all32_t hb2.2) n (Nat.le_refl _)]
  have : moCk ⟨t, n, f, 0, 0⟩ = true := hb
  rw [this]; rfl
end Go.Proofs.YtkifoidhmipacaaGreat

namespace Go.Proofs.YtkifoidhmipacaaGreat
open Go.Proofs.Tryz
open Go Go.AM
structure DA where
  t : Bool
  n : Nat
  f : Nat → Nat → Int
  m : Nat
noncomputable def dgB : Code := match f_rimeref02_digits.body with | some c => (match bodiesOf 0 c with | [.loop b] => b | _ => .skip) | none => .skip
def dgW (a : DA) (v : Int) (D : Nat → Nat → Int) : St := ⟨tmOf [(0, .sc (.vints a.t .u8 1 a.n a.f)), (3, .sc (.slice 0 1 0 0 1 a.m)), (4, .sc (.int .i64 v))] 37 0, [some (.ints .u32 1 a.m D)]⟩
def dgQ (v : Int) : Int := wr .i64 (v.tdiv 4)
def dgSh (v : Int) : Int := wr .u64 (wr .i64 (8 * v.tmod 4))
def dgVal (a : DA) (v : Int) (D : Nat → Nat → Int) : Int := ior .u32 (D (0 + (dgQ v).toNat) 0) (ishl .u32 (wr .u32 (a.f v.toNat 0)) (dgSh v))
theorem dg_round (a : DA) (v v' : Int) (D D' : Nat → Nat → Int) : roundB pE [(13, true)] 5 dgB (dgW a v D) .normal (dgW a v' D') =
    some (ckL [decide (v < (a.n : Int)) == true, inR (dgQ v) a.m, inR v a.n, !decide (dgSh v < 0), inR (dgQ v) a.m] &&
      stB (dgW a (wr .i64 (v + 1)) (fun r d => bif Nat.beq r (0 + (dgQ v).toNat) && Nat.beq d 0 then dgVal a v D else D r d)) (dgW a v' D')) := by kernel_rfl
theorem dg_same (a : DA) (v : Int) {D D' : Nat → Nat → Int} (h : eqF a.m 1 D D' = true) : stB (dgW a v D) (dgW a v D') = true := by
  simp [stB, dgW, tmOf, tmB, avB, svB, hpB, blkB, eqF_refl, kEq, h]
def dgT (a : DA) (D : Nat → Nat → Int) : St := ⟨tmOf [(3, .sc (.slice 0 1 0 0 1 a.m))] 37 0, [some (.ints .u32 1 a.m D)]⟩
theorem dg_stop (a : DA) (v : Int) (D : Nat → Nat → Int) : roundB pE [(13, false)] 5 dgB (dgW a v D) (.exit 0) (dgT a D) = some (ckL [decide (v < (a.n : Int)) == false] && stB (dgT a D) (dgT a D)) := by kernel_rfl
theorem dgT_same (a : DA) (D : Nat → Nat → Int) : stB (dgT a D) (dgT a D) = true := by
  simp [stB, dgT, tmOf, tmB, avB, svB, hpB, blkB, eqF_refl, kEq]
def dgS (a : DA) (k : Nat) : St := dgW a (k : Int) (fun r _ => dK (fun j => a.f j 0) k r)
def dgRd (s : St) : Option DA := match getA s.tm 0, s.hp with
  | .sc (.vints t _ _ n f), [some (.ints _ _ m _)] => some ⟨t, n, f, m⟩
  | _, _ => none
def dgCk (a : DA) : Bool := big a.n && (areB (fun j => a.f j 0) a.n 0 && Nat.beq a.m ((a.n + 3) / 4))
def dgF : LF := famF dgRd dgS dgCk (fun _ => .normal) (fun a => dgT a (fun r _ => dK (fun j => a.f j 0) a.n r))
theorem dg_body : f_rimeref02_digits.body.map (bodiesOf 0) = some [.loop dgB] := by kernel_rfl
theorem dg_ok : codeOK prog pE.env.isW dgB = true := by kernel_rfl
theorem dg_hp {s : St} {a : DA} (h : dgRd s = some a) : s.hp.length = 1 ∧ ∀ (i : Nat) (t : Heap), s.hp[i]? = some none → t[i]? = some none := by
  unfold dgRd at h
  split at h
  · rename_i hh
    rw [hh]
    refine ⟨rfl, fun i t hi => ?_⟩
    match i, hi with
    | 0, hi => simp at hi
    | n + 1, hi => simp at hi
  · simp at h
theorem dg_step (a : DA) (ha : dgCk a = true) (k : Nat) (hk : k < a.n) : ∃ s1, am pE.env 5 dgB (dgS a k) = some (.normal, s1) ∧ StLe s1 (dgS a (k + 1)) := by
  simp only [dgCk, Bool.and_eq_true] at ha
  obtain ⟨h1, h2, h3⟩ := ha
  have hn : a.n ≤ 4611686018427387904 := Nat.le_of_ble_eq_true h1
  have hm := Nat.eq_of_beq_eq_true h3
  have ew : wr .i64 ((k : Int) + 1) = ((k + 1 : Nat) : Int) := by rw [wr_small (by omega) (by omega)]; rfl
  have ed : ((k : Int).tdiv 4) = ((k / 4 : Nat) : Int) := by rw [Int.tdiv_eq_ediv_of_nonneg (by omega)]; omega
  have em : ((k : Int).tmod 4) = ((k % 4 : Nat) : Int) := by rw [Int.tmod_eq_emod_of_nonneg (by omega)]; omega
  have eq : dgQ (k : Int) = ((k / 4 : Nat) : Int) := by unfold dgQ; rw [ed, wr_small (by omega) (by omega)]
  have es : dgSh (k : Int) = ((8 * (k % 4) : Nat) : Int) := by
    unfold dgSh
    rw [em, wr_small (by omega) (by omega), wr64]; omega
  refine roundB_spec (dg_round a (k : Int) ((k + 1 : Nat) : Int) _ (fun r _ => dK (fun j => a.f j 0) (k + 1) r)) ?_
  have hstep := (dK_step h2 hk).1
  have hF : eqF a.m 1 (fun r d => bif Nat.beq r (0 + (dgQ (k : Int)).toNat) && Nat.beq d 0 then dgVal a (k : Int) (fun r _ => dK (fun j => a.f j 0) k r) else dK (fun j => a.f j 0) k r) (fun r _ => dK (fun j => a.f j 0) (k + 1) r) = true := by
    refine eqF_of fun r hr d hd => ?_
    obtain rfl : d = 0 := by omega
    rw [eq, Int.toNat_natCast, Nat.zero_add]
    by_cases e : r = k / 4
    · subst e
      have hbb : Nat.beq (k / 4) (k / 4) = true := beq_t.2 rfl
      have h00 : Nat.beq 0 0 = true := rfl
      rw [hbb, h00, Bool.and_self, cond_true, hstep]
      unfold dgVal
      rw [eq, es, Int.toNat_natCast, Int.toNat_natCast, Nat.zero_add]
    · have : Nat.beq r (k / 4) = false := by cases hb : Nat.beq r (k / 4) with | false => rfl | true => exact absurd (Nat.eq_of_beq_eq_true hb) e
      rw [this]
      simp only [Bool.false_and, cond_false]
      exact (dK_other e).symm
  rw [ew, dg_same a _ hF, eq, es]
  have hq : k / 4 < a.m := by omega
  have eN : (decide (((8 * (k % 4) : Nat) : Int) < 0)) = false := by simp; omega
  have e1 : inR (((k / 4 : Nat)) : Int) a.m = true := inR_nat hq
  rw [eN, e1, inR_nat hk]
  simp [ckL]; omega
theorem l_dg : LRow prog f_rimeref02_digits 0 dgF := by
  refine LRow.fam (N := 5) (L0.env []) mix (fun a => a.n) (body_of dg_body) dg_ok (fun w0 own0 => accOK_none (fun id => rfl) dgB) (fun s a h => ⟨by rw [(dg_hp h).1]; rfl, fun i hi => (dg_hp h).2 i _ hi⟩) (fun _ _ => rfl) (fun _ => Nat.le_refl _) (fun a ha k hk => dg_step a ha k hk) ?_
  intro a ha
  obtain ⟨s1, h1, h2⟩ := roundB_spec (dg_stop a (a.n : Int) (fun r _ => dK (fun j => a.f j 0) a.n r)) (by rw [dgT_same]; simp [ckL])
  exact ⟨_, s1, h1, rfl, h2⟩
def tDigits : TF := fun args => match args with
  | [.sc (.vints _ .u8 1 n f)] => some (Nat.ble n 1099511627776 && areB (fun j => f j 0) n 0, .sc (.vints true .u32 1 ((n + 3) / 4) (fun j _ => dK (fun j => f j 0) n (0 + j))))
  | _ => none
def dgM (n : Nat) : Int := wr .i64 ((wr .i64 ((n : Int) + 3)).tdiv 4)
def dgI (t : Bool) (n : Nat) (f : Nat → Nat → Int) : St := ⟨tmOf [(0, .sc (.vints t .u8 1 n f)), (3, .sc (.slice 0 1 0 0 1 (dgM n).toNat)), (4, .sc (.int .i64 0))] 37 0, [some (.ints .u32 1 (dgM n).toNat (fun _ _ => 0))]⟩
theorem c_digits : fnChk prog (envL tt [] [] [(0, dgF)]) f_rimeref02_digits = true := by kernel_rfl
theorem k_digits (t : Bool) (n : Nat) (f : Nat → Nat → Int) : outP (apFunc (envL tt [] [] [(0, dgF)]) [] 5 f_rimeref02_digits [.sc (.vints t .u8 1 n f)] []) =
    some (ckL [inB (dgM n) (dgM n) && fits (dgM n).toNat 4, dgCk ⟨t, n, f, (dgM n).toNat⟩ && stB (dgI t n f) (dgS ⟨t, n, f, (dgM n).toNat⟩ 0)], .sc (.vints true .u32 1 (dgM n).toNat (fun j _ => dK (fun j => f j 0) n (0 + j)))) := by kernel_rfl
theorem r_digits : TRow prog F_rimeref02_digits tDigits := by
  intro args r h
  unfold tDigits at h
  split at h
  case h_2 => simp at h
  rename_i t n f
  simp only [Option.some.injEq, Prod.mk.injEq, Bool.and_eq_true] at h
  obtain ⟨⟨hb, ha⟩, rfl⟩ := h
  have hn : n ≤ 1099511627776 := Nat.le_of_ble_eq_true hb
  refine pure_of_outL L0 at_rimeref02_digits (LsOK.nil.cons l_dg) c_digits (N := 5) (gs := []) ?_
  have eM : dgM n = (((n + 3) / 4 : Nat) : Int) := by
    unfold dgM
    rw [wr_small (x := (n : Int) + 3) (by omega) (by omega), Int.tdiv_eq_ediv_of_nonneg (by omega), wr_small (by omega) (by omega)]; omega
  have h0 : eqF ((n + 3) / 4) 1 (fun _ _ => (0 : Int)) (fun r _ => dK (fun j => f j 0) 0 r) = true := eqF_of fun r _ d _ => by
    unfold dK
    rw [hval_zero (n := 4) fun i hi => by unfold cutB; rw [if_neg (by omega)]]
  have hs : stB (dgI t n f) (dgS ⟨t, n, f, (dgM n).toNat⟩ 0) = true := by
    unfold dgI dgS
    rw [eM, Int.toNat_natCast]
    simp [stB, dgW, tmOf, tmB, avB, svB, hpB, blkB, eqF_refl, kEq, h0]
  have hc : dgCk ⟨t, n, f, (dgM n).toNat⟩ = true := by
    simp only [dgCk, Bool.and_eq_true]
    rw [eM, Int.toNat_natCast]
    exact ⟨Nat.ble_eq_true_of_le (by omega), ha, beq_t.2 rfl⟩
  have hi : (inB (dgM n) (dgM n) && fits (dgM n).toNat 4) = true := by
    rw [eM, Int.toNat_natCast]
    simp [inB, fits]; omega
  rw [k_digits, hs, hc, hi, eM, Int.toNat_natCast]; rfl
def rs2 : List (Nat × TF) := (F_rimeref02_digits, tDigits) :: (F_rimeref02_mod, tMod) :: rs1
theorem R2 : LibOK prog tt rs2 [] := (R1.addT r_mod).addT r_digits
def tBack8 : TF := fun args => match args with
  | [.agg [.ints .u32 8 a]] => some (inW8 a, b32 (val8 a))
  | _ => none
theorem c_back8 : fnChk prog (envP tt rs2 []) f_rimeref02_Back = true := by kernel_rfl
theorem k_back8 (a : Nat → Int) : outP (apFunc (envP tt rs2 []) [] 40 f_rimeref02_Back [u8w a] []) = some (true, u8s 32 (lf (back8 a))) := by kernel_rfl
theorem r_back8 : TRow prog F_rimeref02_Back tBack8 := by
  intro args r h
  unfold tBack8 at h
  split at h
  case h_2 => simp at h
  rename_i a
  simp only [Option.some.injEq, Prod.mk.injEq] at h
  obtain ⟨ha, rfl⟩ := h
  refine pure_of_out R2 at_rimeref02_Back c_back8 (N := 40) (gs := []) ?_
  have hr := val8_range ha
  have e : back8 a = byL 32 (val8 a) := by
    rw [← back8_law hr.1 hr.2, ← limbs8_self ha]; rfl
  rw [← show u8s 32 (lf (back8 a)) = b32 (val8 a) by unfold b32; rw [e]]
  exact k_back8 a
def tReduce2 : TF := fun args => match args with
  | [.sc (.vints _ .u8 1 n f)] => some (Nat.ble n 1099511627776 && areB (fun j => f j 0) n 0, b32 (hval (fun j => f j 0) n 0 % ordL))
  | _ => none
def rs3 : List (Nat × TF) := (F_rimeref02_Back, tBack8) :: rs2
theorem R3 : LibOK prog tt rs3 [] := R2.addT r_back8
theorem c_reduce2 : fnChk prog (envP tt rs3 []) f_rimeref02_Reduce = true := by kernel_rfl
def dgs (n : Nat) (f : Nat → Nat → Int) : Nat → Nat → Int := fun j _ => dK (fun j => f j 0) n (0 + j)
theorem k_reduce2 (t : Bool) (n : Nat) (f : Nat → Nat → Int) : outP (apFunc (envP tt rs3 []) [] 5 f_rimeref02_Reduce [.sc (.vints t .u8 1 n f)] []) =
    some (ckL [Nat.ble n 1099511627776 && areB (fun j => f j 0) n 0, big ((n + 3) / 4) && all32 (dgs n f) ((n + 3) / 4), inW8 (limbs8 (dval (dgs n f) ((n + 3) / 4) ((n + 3) / 4) % ordL))],
      b32 (val8 (limbs8 (dval (dgs n f) ((n + 3) / 4) ((n + 3) / 4) % ordL)))) := by kernel_rfl
theorem dgs_law {n : Nat} {f : Nat → Nat → Int} (ha : areB (fun j => f j 0) n 0 = true) : all32 (dgs n f) ((n + 3) / 4) = true ∧ dval (dgs n f) ((n + 3) / 4) ((n + 3) / 4) = hval (fun j => f j 0) n 0 := by
  refine ⟨?_, dval_all (fun j => f j 0) (by omega)⟩
  simp only [all32, List.all_eq_true, List.mem_range]
  exact fun j _ => in32_of (dK_W ha (0 + j))
theorem r_reduce2 : TRow prog F_rimeref02_Reduce tReduce2 := by
  intro args r h
  unfold tReduce2 at h
  split at h
  case h_2 => simp at h
  rename_i t n f
  simp only [Option.some.injEq, Prod.mk.injEq, Bool.and_eq_true] at h
  obtain ⟨⟨hb, ha⟩, rfl⟩ := h
  refine pure_of_out R3 at_rimeref02_Reduce c_reduce2 (N := 5) (gs := []) ?_
  obtain ⟨e1, e2⟩ := dgs_law ha
  have hn : n ≤ 1099511627776 := Nat.le_of_ble_eq_true hb
  have hm := modL_range (hval (fun j => f j 0) n 0)
  have hv : val8 (limbs8 (hval (fun j => f j 0) n 0 % ordL)) = hval (fun j => f j 0) n 0 % ordL := val8_limbs hm.1 (by unfold R256; omega)
  rw [k_reduce2, e1, e2, hv, inW8_limbs, hb, ha, show big ((n + 3) / 4) = true from Nat.ble_eq_true_of_le (by omega)]; rfl
end Go.Proofs.YtkifoidhmipacaaGreat
