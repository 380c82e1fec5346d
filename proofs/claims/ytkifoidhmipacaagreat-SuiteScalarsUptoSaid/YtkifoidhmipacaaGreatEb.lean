/-
  Rows of the package scalar: products, Reduce of 64 bytes, Decode. Rows of the suite's scalars, and of the document's answers. Rows of rimeplain: bytes that are handed in, and looked at behind.
-/
import Derived.Test.YtkifoidhmipacaaGreatCa
import Derived.Test.YtkifoidhmipacaaGreatAd
import Derived.Test.YtkifoidhmipacaaGreatBa
import Derived.Test.YtkifoidhmipacaaGreatEa
namespace Go.Proofs.YtkifoidhmipacaaGreat
open Go.Proofs.Tryz
open Go Go.AM
def ts10 : List (Nat × TF) := (F_scalar_Add, tAdd) :: (F_scalar_IsZero, tIsZero) :: (F_scalar_mont, tMont) :: ts9
theorem L10 : LibOK prog tt ts10 [] := ((L9.addT r_mont).addT r_isZero).addT r_add
def R2L : Nat → Int := lf [11819153939886771969, 14991950615390032711, 14910419812499177061, 259310039853996605]
def tTimes : TF := fun args => match args with
  | [.agg [.ints .u64 4 a], .agg [.ints .u64 4 b]] => some (inU4 a && (inU4 b && decide (val4 a * val4 b < ordL * 115792089237316195423570985008687907853269984665640564039457584007913129639936)), n4 (val4 a * val4 b % ordL))
  | _ => none
theorem c_times : fnChk prog (envP tt ts10 []) f_scalar_times = true := by kernel_rfl
theorem k_times (a b : Nat → Int) : outP (apFunc (envP tt ts10 []) [] 5 f_scalar_times [u4 a, u4 b] []) =
    some (ckL [inU4 a && (inU4 b && decide (val4 a * val4 b < ordL * 115792089237316195423570985008687907853269984665640564039457584007913129639936)),
      inU4 (limbs4 (val4 a * val4 b * rInv % ordL)) && (inU4 R2L && decide (val4 (limbs4 (val4 a * val4 b * rInv % ordL)) * val4 R2L < ordL * 115792089237316195423570985008687907853269984665640564039457584007913129639936))],
      n4 (val4 (limbs4 (val4 a * val4 b * rInv % ordL)) * val4 R2L * rInv % ordL)) := by kernel_rfl
theorem R2L_val : val4 R2L = 1627715501170711445284395025044413883736156588369414752970002579683115011841 := by decide
theorem r_times : TRow prog F_scalar_times tTimes := by
  intro args r h
  unfold tTimes at h
  split at h
  case h_2 => simp at h
  rename_i a b
  simp only [Option.some.injEq, Prod.mk.injEq] at h
  obtain ⟨hc, rfl⟩ := h
  refine pure_of_out L10 at_scalar_times c_times (N := 5) (gs := []) ?_
  have e := k_times a b
  have hm := modL_range (val4 a * val4 b * rInv)
  have hv : val4 (limbs4 (val4 a * val4 b * rInv % ordL)) = val4 a * val4 b * rInv % ordL := val4_limbs hm.1 (by omega)
  rw [hc, hv, R2L_val, rInv2, inU4_limbs, show inU4 R2L = true by decide] at e
  have hlt : val4 a * val4 b * rInv % ordL * 1627715501170711445284395025044413883736156588369414752970002579683115011841 < ordL * 115792089237316195423570985008687907853269984665640564039457584007913129639936 := by
    generalize val4 a * val4 b * rInv % ordL = x at *
    unfold ordL at *
    omega
  rw [decide_eq_true hlt] at e
  exact e
def ts11 : List (Nat × TF) := (F_scalar_times, tTimes) :: ts10
theorem L11 : LibOK prog tt ts11 [] := L10.addT r_times
/-! Reduce of 64 bytes -/
def CC : Int := hval (lf (byL 32 (val4 (lf [0, 0, 0, 1])))) 32 0
def pc (f : Nat → Nat → Int) (at_ n : Nat) : Nat → Int := fun c => bif Nat.ble (c + 1) n then f (at_ + c) 0 else 0
def stV (v : Int) (p : Nat → Int) : Int := low ((val4 (limbs4 (v * val4 (limbs4 CC) % ordL)) + val4 (limbs4 (hval p 32 0 % ordL))) % 115792089237316195423570985008687907853269984665640564039457584007913129639936)
def stCk (r p : Nat → Int) : List Bool := [areB (lf (byL 32 (val4 (lf [0, 0, 0, 1])))) 32 0, inU4 r && (inU4 (limbs4 CC) && decide (val4 r * val4 (limbs4 CC) < ordL * 115792089237316195423570985008687907853269984665640564039457584007913129639936)), areB p 32 0,
  inU4 (limbs4 (val4 r * val4 (limbs4 CC) % ordL)) && inU4 (limbs4 (hval p 32 0 % ordL))]
def r1L (f : Nat → Nat → Int) : Nat → Int := limbs4 (stV (val4 (fun _ => 0)) (pc f 48 16))
def r2L (f : Nat → Nat → Int) : Nat → Int := limbs4 (stV (val4 (r1L f)) (pc f 24 24))
def r3L (f : Nat → Nat → Int) : Nat → Int := limbs4 (stV (val4 (r2L f)) (pc f 0 24))
theorem c_reduce : fnChk prog (envP tt ts11 []) f_scalar_Reduce = true := by kernel_rfl
theorem k_reduce64 (t : Bool) (f : Nat → Nat → Int) : (outP (apFunc (envP tt ts11 []) [] 5 f_scalar_Reduce [.sc (.vints t .u8 1 64 f)] [])).map (·.2) = some (b32 (val4 (r3L f))) := by kernel_rfl
theorem ck_reduce64 (t : Bool) (f : Nat → Nat → Int) : (outP (apFunc (envP tt ts11 []) [] 5 f_scalar_Reduce [.sc (.vints t .u8 1 64 f)] [])).map (·.1) =
    some (ckL ([inU4 (lf [0, 0, 0, 1])] ++ (stCk (fun _ => 0) (pc f 48 16) ++ (stCk (r1L f) (pc f 24 24) ++ (stCk (r2L f) (pc f 0 24) ++ [inU4 (r3L f)]))))) := by kernel_rfl
theorem CC_eq : CC = 6277101735386680763835789423207666416102355444464034512896 := by decide
theorem CC_val : val4 (limbs4 CC) = 6277101735386680763835789423207666416102355444464034512896 := by rw [CC_eq]; exact val4_limbs (by decide) (by decide)
theorem stV_law (v : Int) (p : Nat → Int) : stV v p = (v * 6277101735386680763835789423207666416102355444464034512896 + hval p 32 0) % ordL := by
  unfold stV
  have h1 := modL_range (v * val4 (limbs4 CC))
  have h2 := modL_range (hval p 32 0)
  rw [val4_limbs h1.1 (by omega), val4_limbs h2.1 (by omega), low_add, CC_val]
theorem stV_range (v : Int) (p : Nat → Int) : 0 ≤ stV v p ∧ stV v p < ordL ∧ ordL < 115792089237316195423570985008687907853269984665640564039457584007913129639936 := by rw [stV_law]; exact modL_range _
theorem hval_congr2 {s t : Nat → Int} : ∀ {n j j' : Nat}, (∀ i, i < n → s (j + i) = t (j' + i)) → hval s n j = hval t n j'
  | 0, _, _, _ => rfl
  | n + 1, j, j', h => by
    have h0 : s j = t j' := h 0 (by omega)
    have e : hval s n (j + 1) = hval t n (j' + 1) := hval_congr2 fun i hi => by
      have := h (i + 1) (by omega)
      rw [show j + (i + 1) = j + 1 + i by omega, show j' + (i + 1) = j' + 1 + i by omega] at this
      exact this
    simp only [hval, h0, e]
theorem pc_hval (f : Nat → Nat → Int) (a n : Nat) (hn : n ≤ 32) : hval (pc f a n) 32 0 = hval (fun j => f j 0) n a := by
  rw [show (32 : Nat) = n + (32 - n) by omega, hval_add, hval_zero (n := 32 - n) fun i hi => by
    unfold pc
    have : Nat.ble (0 + n + i + 1) n = false := by cases hb : Nat.ble (0 + n + i + 1) n with | false => rfl | true => exact absurd (Nat.le_of_ble_eq_true hb) (by omega)
    rw [this]; rfl]
  rw [Int.mul_zero, Int.add_zero]
  exact hval_congr2 fun i hi => by
    unfold pc
    rw [show Nat.ble (0 + i + 1) n = true from Nat.ble_eq_true_of_le (by omega), Nat.zero_add]; rfl
theorem areB_of {s : Nat → Int} : ∀ {n j : Nat}, (∀ i, i < n → 0 ≤ s (j + i) ∧ s (j + i) < 256) → areB s n j = true
  | 0, _, _ => rfl
  | n + 1, j, h => by
    simp only [areB, Bool.and_eq_true]
    refine ⟨by have := h 0 (by omega); simpa [isB] using this, areB_of fun i hi => ?_⟩
    have := h (i + 1) (by omega)
    rw [show j + (i + 1) = j + 1 + i by omega] at this
    exact this
theorem pc_areB {f : Nat → Nat → Int} {m : Nat} (h : areB (fun j => f j 0) m 0 = true) (a n : Nat) (hn : a + n ≤ m) : areB (pc f a n) 32 0 = true := by
  refine areB_of fun i hi => ?_
  unfold pc
  cases hb : Nat.ble (0 + i + 1) n with
  | false => exact ⟨Int.le_refl 0, show (0 : Int) < 256 by decide⟩
  | true =>
    have := Nat.le_of_ble_eq_true hb
    have h2 := areB_t h (a + (0 + i)) (by omega)
    rw [Nat.zero_add] at h2
    exact h2
theorem red64 {f : Nat → Nat → Int} : r3L f = limbs4 (hval (fun j => f j 0) 64 0 % ordL) := by
  have v1 : val4 (r1L f) = stV (val4 (fun _ => 0)) (pc f 48 16) := val4_limbs (stV_range _ _).1 (by have := stV_range (val4 (fun _ => 0)) (pc f 48 16); omega)
  have v2 : val4 (r2L f) = stV (val4 (r1L f)) (pc f 24 24) := val4_limbs (stV_range _ _).1 (by have := stV_range (val4 (r1L f)) (pc f 24 24); omega)
  unfold r3L
  rw [stV_law, v2, stV_law, v1, stV_law, pc_hval f 48 16 (by omega), pc_hval f 24 24 (by omega), pc_hval f 0 24 (by omega)]
  have z : val4 (fun _ => (0 : Int)) = 0 := by decide
  rw [z]
  have e1 := hval_add (fun j => f j 0) 24 40 0
  have e2 := hval_add (fun j => f j 0) 24 16 24
  simp only [Nat.reduceAdd] at e1 e2
  rw [e1, e2, show (256 : Int) ^ 24 = 6277101735386680763835789423207666416102355444464034512896 by decide]
  generalize hval (fun j => f j 0) 24 0 = A
  generalize hval (fun j => f j 0) 24 24 = B
  generalize hval (fun j => f j 0) 16 48 = C
  refine congrArg limbs4 ?_
  unfold ordL
  omega
theorem z_val : val4 (fun _ => (0 : Int)) < ordL := by decide
theorem z_in : inU4 (fun _ => (0 : Int)) = true := by decide
theorem stCk_law {r p : Nat → Int} (hr : inU4 r = true) (hv : val4 r < ordL) (hp : areB p 32 0 = true) : ∀ b ∈ stCk r p, b = true := by
  have hlt : val4 r * val4 (limbs4 CC) < ordL * 115792089237316195423570985008687907853269984665640564039457584007913129639936 := by
    rw [CC_val]
    have := (val4_range hr).1
    unfold ordL at *
    omega
  intro b hb
  simp only [stCk, List.mem_cons, List.not_mem_nil, or_false] at hb
  rcases hb with rfl | rfl | rfl | rfl
  · decide
  · rw [hr, inU4_limbs, decide_eq_true hlt]; rfl
  · exact hp
  · rw [inU4_limbs, inU4_limbs]; rfl
def tReduce64 : TF := fun args => match args with
  | [.sc (.vints _ .u8 1 64 f)] => some (areB (fun j => f j 0) 64 0, b32 (hval (fun j => f j 0) 64 0 % ordL))
  | _ => none
theorem r_reduce64 : TRow prog F_scalar_Reduce tReduce64 := by
  intro args r h
  unfold tReduce64 at h
  split at h
  case h_2 => simp at h
  rename_i t f
  simp only [Option.some.injEq, Prod.mk.injEq] at h
  obtain ⟨ha, rfl⟩ := h
  refine pure_of_out L11 at_scalar_Reduce c_reduce (N := 5) (gs := []) ?_
  have hck : ckL ([inU4 (lf [0, 0, 0, 1])] ++ (stCk (fun _ => 0) (pc f 48 16) ++ (stCk (r1L f) (pc f 24 24) ++ (stCk (r2L f) (pc f 0 24) ++ [inU4 (r3L f)])))) = true := by
    refine ckL_t.2 fun b hb => ?_
    have b1 := stV_range (val4 (fun _ => 0)) (pc f 48 16)
    have b2 := stV_range (val4 (r1L f)) (pc f 24 24)
    have v1 : val4 (r1L f) = stV (val4 (fun _ => 0)) (pc f 48 16) := val4_limbs b1.1 (by omega)
    have v2 : val4 (r2L f) = stV (val4 (r1L f)) (pc f 24 24) := val4_limbs b2.1 (by omega)
    simp only [List.mem_append, List.mem_singleton] at hb
    rcases hb with hb | hb | hb | hb | hb
    · rw [hb]; exact (by decide : inU4 (lf [0, 0, 0, 1]) = true)
    · exact stCk_law z_in z_val (pc_areB ha 48 16 (by omega)) b hb
    · exact stCk_law (r := r1L f) (inU4_limbs _) (by rw [v1]; exact b1.2.1) (pc_areB ha 24 24 (by omega)) b hb
    · exact stCk_law (r := r2L f) (inU4_limbs _) (by rw [v2]; exact b2.2.1) (pc_areB ha 0 24 (by omega)) b hb
    · rw [hb]; exact inU4_limbs _
  have e := both (ck_reduce64 t f) (k_reduce64 t f)
  have hm := modL_range (hval (fun j => f j 0) 64 0)
  rw [hck, red64, val4_limbs hm.1 (by omega)] at e
  exact e
end Go.Proofs.YtkifoidhmipacaaGreat

namespace Go.Proofs.YtkifoidhmipacaaGreat
open Go.Proofs.Tryz
open Go Go.AM
def su1 : List (Nat × TF) := (F_rimeref02_Reduce, tReduce2) :: (F_rimeref02_Back, tBack8) :: (F_rimeref02_mod, tMod) :: (F_rimeref02_digits, tDigits) :: (F_scalar_Reduce, tReduce64) :: ts11
theorem U1 : LibOK prog tt su1 [] := ((((L11.addT r_reduce64).addT r_digits).addT r_mod).addT r_back8).addT r_reduce2
def tValue2 : TF := fun args => match args with
  | [.agg [.ints .u8 32 s]] => some (areB s 32 0, n8 (hval s 32 0 % ordL))
  | _ => none
theorem c_value2 : fnChk prog (envP tt su1 []) f_rimeref02_Value = true := by kernel_rfl
def row1 (s : Nat → Int) : Nat → Nat → Int := fun j d => s (0 + j * 1 + d)
theorem k_value2 (s : Nat → Int) : outP (apFunc (envP tt su1 []) [] 5 f_rimeref02_Value [u8s 32 s] []) =
    some (ckL [areB s 32 0, all32 (dgs 32 (row1 s)) 8], n8 (dval (dgs 32 (row1 s)) 8 8 % ordL)) := by kernel_rfl
theorem row1_areB {s : Nat → Int} {n : Nat} (h : areB s n 0 = true) : areB (fun j => row1 s j 0) n 0 = true := areB_of fun i hi => by
  have := areB_t h i hi
  simpa [row1] using this
theorem row1_hval (s : Nat → Int) (n : Nat) : hval (fun j => row1 s j 0) n 0 = hval s n 0 := hval_congr fun i _ => by simp [row1]
theorem r_value2 : TRow prog F_rimeref02_Value tValue2 := by
  intro args r h
  unfold tValue2 at h
  split at h
  case h_2 => simp at h
  rename_i s
  simp only [Option.some.injEq, Prod.mk.injEq] at h
  obtain ⟨ha, rfl⟩ := h
  refine pure_of_out U1 at_rimeref02_Value c_value2 (N := 5) (gs := []) ?_
  obtain ⟨e1, e2⟩ := dgs_law (row1_areB ha)
  have e := k_value2 s
  rw [e1, e2, row1_hval, ha] at e
  exact e
def su2 : List (Nat × TF) := (F_rimeref02_Value, tValue2) :: su1
theorem U2 : LibOK prog tt su2 [] := U1.addT r_value2
def tCanon : TF := fun args => match args with
  | [.agg [.ints .u8 32 s]] => some (areB s 32 0, .sc (.bool (decide (hval s 32 0 < ordL))))
  | _ => none
theorem c_canon2 : fnChk prog (envP tt su2 []) f_rimeref02_Canonical = true := by kernel_rfl
theorem k_canon2 (s : Nat → Int) : outP (apFunc (envP tt su2 []) [] 5 f_rimeref02_Canonical [u8s 32 s] []) =
    some (ckL [areB s 32 0, inW8 (limbs8 (hval s 32 0 % ordL))], .sc (.bool (eqN 32 (lf (byL 32 (val8 (limbs8 (hval s 32 0 % ordL))))) s && true))) := by kernel_rfl
theorem r_canon2 : TRow prog F_rimeref02_Canonical tCanon := by
  intro args r h
  unfold tCanon at h
  split at h
  case h_2 => simp at h
  rename_i s
  simp only [Option.some.injEq, Prod.mk.injEq] at h
  obtain ⟨ha, rfl⟩ := h
  refine pure_of_out U2 at_rimeref02_Canonical c_canon2 (N := 5) (gs := []) ?_
  have hm := modL_range (hval s 32 0)
  have e := k_canon2 s
  have hv : val8 (limbs8 (hval s 32 0 % ordL)) = hval s 32 0 % ordL := val8_limbs hm.1 (by unfold R256; omega)
  rw [hv, eqB_law ha hm.1 (by unfold R256; omega), inW8_limbs, ha, Bool.and_true] at e
  have hr := (hval_range ha).1
  have e2 : decide (hval s 32 0 = hval s 32 0 % ordL) = decide (hval s 32 0 < ordL) := by
    by_cases q : hval s 32 0 < ordL
    · rw [decide_eq_true q, decide_eq_true (Int.emod_eq_of_lt hr q).symm]
    · rw [decide_eq_false q, decide_eq_false (by omega)]
  rw [e2] at e
  exact e
theorem c_canon : fnChk prog (envP tt su2 []) f_scalar_Canonical = true := by kernel_rfl
theorem k_canon (s : Nat → Int) : outP (apFunc (envP tt su2 []) [] 5 f_scalar_Canonical [u8s 32 s] []) =
    some (ckL [areB s 32 0, inU4 (limbs4 (hval s 32 0)) && inU4 (limbs4 ordL)], .sc (.bool (b2i (decide (val4 (limbs4 (hval s 32 0)) < val4 (limbs4 ordL))) == 1))) := by kernel_rfl
theorem r_canon : TRow prog F_scalar_Canonical tCanon := by
  intro args r h
  unfold tCanon at h
  split at h
  case h_2 => simp at h
  rename_i s
  simp only [Option.some.injEq, Prod.mk.injEq] at h
  obtain ⟨ha, rfl⟩ := h
  refine pure_of_out U2 at_scalar_Canonical c_canon (N := 5) (gs := []) ?_
  have e := k_canon s
  have hr := hval_range ha
  rw [val4_limbs hr.1 (by have := hr.2; simpa using this), val4_ordL, inU4_limbs, inU4_limbs, ha] at e
  have e2 : (b2i (decide (hval s 32 0 < ordL)) == 1) = decide (hval s 32 0 < ordL) := by cases decide (hval s 32 0 < ordL) <;> rfl
  rw [e2] at e
  exact e
def su3 : List (Nat × TF) := (F_scalar_Canonical, tCanon) :: (F_rimeref02_Canonical, tCanon) :: su2
theorem U3 : LibOK prog tt su3 [] := (U2.addT r_canon2).addT r_canon
/-! Decode -/
def tDecode : TF := fun args => match args with
  | [.sc (.vints _ .u8 1 n f)] => some (big n && areB (fun j => f j 0) n 0, se (decS n f))
  | _ => none
theorem c_decode : fnChk prog (envP tt su3 []) f_scalar_Decode = true := by kernel_rfl
theorem c_decode2 : fnChk prog (envP tt su3 []) f_rimeref02_Decode = true := by kernel_rfl
theorem k_dec1 (t : Bool) (n : Nat) (f : Nat → Nat → Int) : outP (apFunc (envP tt su3 []) [(7, true)] 5 f_scalar_Decode [.sc (.vints t .u8 1 n f)] []) = some (ckL [((n : Int) != 32) == true], se (zero32, 3)) := by kernel_rfl
theorem k_dec2 (t : Bool) (f : Nat → Nat → Int) : outP (apFunc (envP tt su3 []) [(14, true)] 5 f_scalar_Decode [.sc (.vints t .u8 1 32 f)] []) =
    some (ckL [areB (fun j => f j 0) 32 0, (!decide (hval (fun j => f j 0) 32 0 < ordL)) == true], se (zero32, 21)) := by kernel_rfl
theorem k_dec3 (t : Bool) (f : Nat → Nat → Int) : outP (apFunc (envP tt su3 []) [(14, false)] 5 f_scalar_Decode [.sc (.vints t .u8 1 32 f)] []) =
    some (ckL [areB (fun j => f j 0) 32 0, (!decide (hval (fun j => f j 0) 32 0 < ordL)) == false], se (tabL (fun j => f j 0) 32 0, 0)) := by kernel_rfl
theorem k_rdec1 (t : Bool) (n : Nat) (f : Nat → Nat → Int) : outP (apFunc (envP tt su3 []) [(7, true)] 5 f_rimeref02_Decode [.sc (.vints t .u8 1 n f)] []) = some (ckL [((n : Int) != 32) == true], se (zero32, 3)) := by kernel_rfl
theorem k_rdec2 (t : Bool) (f : Nat → Nat → Int) : outP (apFunc (envP tt su3 []) [(14, true)] 5 f_rimeref02_Decode [.sc (.vints t .u8 1 32 f)] []) =
    some (ckL [areB (fun j => f j 0) 32 0, (!decide (hval (fun j => f j 0) 32 0 < ordL)) == true], se (zero32, 21)) := by kernel_rfl
theorem k_rdec3 (t : Bool) (f : Nat → Nat → Int) : outP (apFunc (envP tt su3 []) [(14, false)] 5 f_rimeref02_Decode [.sc (.vints t .u8 1 32 f)] []) =
    some (ckL [areB (fun j => f j 0) 32 0, (!decide (hval (fun j => f j 0) 32 0 < ordL)) == false], se (tabL (fun j => f j 0) 32 0, 0)) := by kernel_rfl
theorem ne_n {n m : Nat} (h : n ≠ m) : (((n : Int)) != ((m : Nat) : Int)) = true := by simp; omega
theorem r_decode : TRow prog F_scalar_Decode tDecode := by
  intro args r h
  unfold tDecode at h
  split at h
  case h_2 => simp at h
  rename_i t n f
  simp only [Option.some.injEq, Prod.mk.injEq, Bool.and_eq_true] at h
  obtain ⟨⟨hb, ha⟩, rfl⟩ := h
  unfold decS
  by_cases e : n = 32
  · subst e
    rw [if_pos rfl]
    by_cases q : hval (fun j => f j 0) 32 0 < ordL
    · rw [if_pos q]
      refine pure_of_out U3 at_scalar_Decode c_decode (N := 5) (gs := [(14, false)]) ?_
      rw [k_dec3, ha, decide_eq_true q]; rfl
    · rw [if_neg q]
      refine pure_of_out U3 at_scalar_Decode c_decode (N := 5) (gs := [(14, true)]) ?_
      rw [k_dec2, ha, decide_eq_false q]; rfl
  · rw [if_neg e]
    refine pure_of_out U3 at_scalar_Decode c_decode (N := 5) (gs := [(7, true)]) ?_
    rw [k_dec1, show ((n : Int) != 32) = true from ne_n e]; rfl
theorem r_decode2 : TRow prog F_rimeref02_Decode tDecode := by
  intro args r h
  unfold tDecode at h
  split at h
  case h_2 => simp at h
  rename_i t n f
  simp only [Option.some.injEq, Prod.mk.injEq, Bool.and_eq_true] at h
  obtain ⟨⟨hb, ha⟩, rfl⟩ := h
  unfold decS
  by_cases e : n = 32
  · subst e
    rw [if_pos rfl]
    by_cases q : hval (fun j => f j 0) 32 0 < ordL
    · rw [if_pos q]
      refine pure_of_out U3 at_rimeref02_Decode c_decode2 (N := 5) (gs := [(14, false)]) ?_
      rw [k_rdec3, ha, decide_eq_true q]; rfl
    · rw [if_neg q]
      refine pure_of_out U3 at_rimeref02_Decode c_decode2 (N := 5) (gs := [(14, true)]) ?_
      rw [k_rdec2, ha, decide_eq_false q]; rfl
  · rw [if_neg e]
    refine pure_of_out U3 at_rimeref02_Decode c_decode2 (N := 5) (gs := [(7, true)]) ?_
    rw [k_rdec1, show ((n : Int) != 32) = true from ne_n e]; rfl
def su4 : List (Nat × TF) := (F_rimeref02_Decode, tDecode) :: (F_scalar_Decode, tDecode) :: su3
theorem U4 : LibOK prog tt su4 [] := (U3.addT r_decode).addT r_decode2
/-- handed on as it was -/
def se2 (x : List Int × Int) : AV := .tup [u8s 32 (lf (tabL (lf x.1) 32 0)), .sc (.int .i64 x.2)]
theorem se2_eq {x : List Int × Int} (h : x.1.length = 32) : se2 x = se x := by unfold se2 se; rw [tabL_lf h]
theorem c_getS : fnChk prog (envP tt su4 []) f_suite_GetScalar = true := by kernel_rfl
theorem c_getS2 : fnChk prog (envP tt su4 []) f_rimeref06_GetScalar = true := by kernel_rfl
theorem k_getS (t : Bool) (n : Nat) (f : Nat → Nat → Int) : outP (apFunc (envP tt su4 []) [] 5 f_suite_GetScalar [.sc (.vints t .u8 1 n f)] []) = some (ckL [big n && areB (fun j => f j 0) n 0], se2 (decS n f)) := by kernel_rfl
theorem k_getS2 (t : Bool) (n : Nat) (f : Nat → Nat → Int) : outP (apFunc (envP tt su4 []) [] 5 f_rimeref06_GetScalar [.sc (.vints t .u8 1 n f)] []) = some (ckL [big n && areB (fun j => f j 0) n 0], se2 (decS n f)) := by kernel_rfl
theorem r_getS : TRow prog F_suite_GetScalar tDecode := by
  intro args r h
  unfold tDecode at h
  split at h
  case h_2 => simp at h
  rename_i t n f
  simp only [Option.some.injEq, Prod.mk.injEq] at h
  obtain ⟨hb, rfl⟩ := h
  refine pure_of_out U4 at_suite_GetScalar c_getS (N := 5) (gs := []) ?_
  rw [k_getS, hb, se2_eq (decS_len n f)]; rfl
theorem r_getS2 : TRow prog F_rimeref06_GetScalar tDecode := by
  intro args r h
  unfold tDecode at h
  split at h
  case h_2 => simp at h
  rename_i t n f
  simp only [Option.some.injEq, Prod.mk.injEq] at h
  obtain ⟨hb, rfl⟩ := h
  refine pure_of_out U4 at_rimeref06_GetScalar c_getS2 (N := 5) (gs := []) ?_
  rw [k_getS2, hb, se2_eq (decS_len n f)]; rfl
/-! FromInt, ID -/
def tFromInt : TF := fun args => match args with
  | [.sc (.int .u64 n)] => some (inU n, b32 n)
  | _ => none
theorem c_fromInt : fnChk prog (envP tt su4 []) f_scalar_FromInt = true := by kernel_rfl
theorem k_fromInt (n : Int) : outP (apFunc (envP tt su4 []) [] 5 f_scalar_FromInt [.sc (.int .u64 n)] []) = some (ckL [inU4 (lf [n, 0, 0, 0])], b32 (val4 (lf [n, 0, 0, 0]))) := by kernel_rfl
theorem r_fromInt : TRow prog F_scalar_FromInt tFromInt := by
  intro args r h
  unfold tFromInt at h
  split at h
  case h_2 => simp at h
  rename_i n
  simp only [Option.some.injEq, Prod.mk.injEq] at h
  obtain ⟨hb, rfl⟩ := h
  refine pure_of_out U4 at_scalar_FromInt c_fromInt (N := 5) (gs := []) ?_
  have e : val4 (lf [n, 0, 0, 0]) = n := by simp [val4, lf]
  have e2 : inU4 (lf [n, 0, 0, 0]) = true := by simp only [inU4, lf, hb]; rfl
  rw [k_fromInt, e, e2]; rfl
def su5 : List (Nat × TF) := (F_scalar_FromInt, tFromInt) :: (F_rimeref06_GetScalar, tDecode) :: (F_suite_GetScalar, tDecode) :: su4
theorem U5 : LibOK prog tt su5 [] := ((U4.addT r_getS).addT r_getS2).addT r_fromInt
def tID : TF := fun args => match args with
  | [.sc (.int .i64 i)] => some (true, se (idS i))
  | _ => none
theorem c_id : fnChk prog (envP tt su5 []) f_suite_ID = true := by kernel_rfl
theorem c_id2 : fnChk prog (envP tt su5 []) f_rimeref06_ID = true := by kernel_rfl
theorem k_id1 (i : Int) : outP (apFunc (envP tt su5 []) [(5, true)] 5 f_suite_ID [.sc (.int .i64 i)] []) = some (ckL [decide (i < 1) == true], se (zero32, 4)) := by kernel_rfl
theorem k_id2 (i : Int) : outP (apFunc (envP tt su5 []) [(5, false), (8, true)] 5 f_suite_ID [.sc (.int .i64 i)] []) = some (ckL [decide (i < 1) == false, decide (i > 255) == true], se (zero32, 4)) := by kernel_rfl
theorem k_id3 (i : Int) : outP (apFunc (envP tt su5 []) [(5, false), (8, false)] 5 f_suite_ID [.sc (.int .i64 i)] []) = some (ckL [decide (i < 1) == false, decide (i > 255) == false, inU (wr .u64 i)], se (byL 32 (wr .u64 i), 0)) := by kernel_rfl
theorem k_rid1 (i : Int) : outP (apFunc (envP tt su5 []) [(5, true)] 5 f_rimeref06_ID [.sc (.int .i64 i)] []) = some (ckL [decide (i < 1) == true], se (zero32, 4)) := by kernel_rfl
theorem k_rid2 (i : Int) : outP (apFunc (envP tt su5 []) [(5, false), (8, true)] 5 f_rimeref06_ID [.sc (.int .i64 i)] []) = some (ckL [decide (i < 1) == false, decide (i > 255) == true], se (zero32, 4)) := by kernel_rfl
theorem k_rid3 (i : Int) : outP (apFunc (envP tt su5 []) [(5, false), (8, false)] 5 f_rimeref06_ID [.sc (.int .i64 i)] []) = some (ckL [decide (i < 1) == false, decide (i > 255) == false], se (wr .u8 i :: List.replicate 31 0, 0)) := by kernel_rfl
theorem r_id : TRow prog F_suite_ID tID := by
  intro args r h
  unfold tID at h
  split at h
  case h_2 => simp at h
  rename_i i
  simp only [Option.some.injEq, Prod.mk.injEq, true_and] at h
  subst h
  unfold idS
  by_cases e1 : i < 1
  · rw [if_pos (.inl e1)]
    refine pure_of_out U5 at_suite_ID c_id (N := 5) (gs := [(5, true)]) ?_
    rw [k_id1, decide_eq_true e1]; rfl
  · by_cases e2 : 255 < i
    · rw [if_pos (.inr e2)]
      refine pure_of_out U5 at_suite_ID c_id (N := 5) (gs := [(5, false), (8, true)]) ?_
      rw [k_id2, decide_eq_false e1, decide_eq_true (show i > 255 from e2)]; rfl
    · rw [if_neg (by omega)]
      refine pure_of_out U5 at_suite_ID c_id (N := 5) (gs := [(5, false), (8, false)]) ?_
      have e : wr .u64 i = i := by rw [wr64]; omega
      rw [k_id3, decide_eq_false e1, decide_eq_false (show ¬ i > 255 from e2), e, inU_of ⟨by omega, by omega⟩]; rfl
theorem r_id2 : TRow prog F_rimeref06_ID tID := by
  intro args r h
  unfold tID at h
  split at h
  case h_2 => simp at h
  rename_i i
  simp only [Option.some.injEq, Prod.mk.injEq, true_and] at h
  subst h
  unfold idS
  by_cases e1 : i < 1
  · rw [if_pos (.inl e1)]
    refine pure_of_out U5 at_rimeref06_ID c_id2 (N := 5) (gs := [(5, true)]) ?_
    rw [k_rid1, decide_eq_true e1]; rfl
  · by_cases e2 : 255 < i
    · rw [if_pos (.inr e2)]
      refine pure_of_out U5 at_rimeref06_ID c_id2 (N := 5) (gs := [(5, false), (8, true)]) ?_
      rw [k_rid2, decide_eq_false e1, decide_eq_true (show i > 255 from e2)]; rfl
    · rw [if_neg (by omega)]
      refine pure_of_out U5 at_rimeref06_ID c_id2 (N := 5) (gs := [(5, false), (8, false)]) ?_
      have e : wr .u8 i = i := by rw [wr8]; omega
      rw [k_rid3, decide_eq_false e1, decide_eq_false (show ¬ i > 255 from e2), e, ← byL_small (by omega) (by omega)]; rfl
/-! Random -/
def tRandom : TF := fun args => match args with
  | [.sc (.vints _ .u8 1 n f)] => some (big n && areB (fun j => f j 0) n 0, se (rndS n f))
  | _ => none
theorem c_rnd : fnChk prog (envP tt su5 []) f_suite_Random = true := by kernel_rfl
theorem c_rnd2 : fnChk prog (envP tt su5 []) f_rimeref06_Random = true := by kernel_rfl
def rX (f : Nat → Nat → Int) : Int := hval (fun j => f j 0) 64 0 % ordL
theorem k_rnd1 (t : Bool) (n : Nat) (f : Nat → Nat → Int) : outP (apFunc (envP tt su5 []) [(7, true)] 5 f_suite_Random [.sc (.vints t .u8 1 n f)] []) = some (ckL [((n : Int) != 64) == true], se (zero32, 3)) := by kernel_rfl
theorem k_rnd2 (t : Bool) (f : Nat → Nat → Int) : outP (apFunc (envP tt su5 []) [(12, true)] 5 f_suite_Random [.sc (.vints t .u8 1 64 f)] []) =
    some (ckL [areB (fun j => f j 0) 64 0, areB (lf (byL 32 (rX f))) 32 0 && (decide (hval (lf (byL 32 (rX f))) 32 0 % ordL = 0) == true)], se (zero32, 9)) := by kernel_rfl
theorem k_rnd3 (t : Bool) (f : Nat → Nat → Int) : outP (apFunc (envP tt su5 []) [(12, false)] 5 f_suite_Random [.sc (.vints t .u8 1 64 f)] []) =
    some (ckL [areB (fun j => f j 0) 64 0, areB (lf (byL 32 (rX f))) 32 0 && (decide (hval (lf (byL 32 (rX f))) 32 0 % ordL = 0) == false)], se (byL 32 (rX f), 0)) := by kernel_rfl
theorem k_rrnd1 (t : Bool) (n : Nat) (f : Nat → Nat → Int) : outP (apFunc (envP tt su5 []) [(7, true)] 5 f_rimeref06_Random [.sc (.vints t .u8 1 n f)] []) = some (ckL [((n : Int) != 64) == true], se (zero32, 3)) := by kernel_rfl
theorem k_rrnd2 (t : Bool) (f : Nat → Nat → Int) : outP (apFunc (envP tt su5 []) [(13, true)] 5 f_rimeref06_Random [.sc (.vints t .u8 1 64 f)] []) =
    some (ckL [areB (fun j => f j 0) 64 0, (eqN 32 (lf (byL 32 (rX f))) (fun _ => 0) && true) == true], se (zero32, 9)) := by kernel_rfl
theorem k_rrnd3 (t : Bool) (f : Nat → Nat → Int) : outP (apFunc (envP tt su5 []) [(13, false)] 5 f_rimeref06_Random [.sc (.vints t .u8 1 64 f)] []) =
    some (ckL [areB (fun j => f j 0) 64 0, (eqN 32 (lf (byL 32 (rX f))) (fun _ => 0) && true) == false], se (byL 32 (rX f), 0)) := by kernel_rfl
theorem rX_range (f : Nat → Nat → Int) : 0 ≤ rX f ∧ rX f < ordL ∧ rX f < R256 := by
  have := modL_range (hval (fun j => f j 0) 64 0)
  unfold rX R256
  omega
theorem rX_back (f : Nat → Nat → Int) : hval (lf (byL 32 (rX f))) 32 0 % ordL = rX f := by
  obtain ⟨h1, h2, h3⟩ := rX_range f
  rw [hval_b32 h1 (by unfold R256 at h3; exact h3)]
  exact Int.emod_eq_of_lt h1 h2
theorem r_rnd : TRow prog F_suite_Random tRandom := by
  intro args r h
  unfold tRandom at h
  split at h
  case h_2 => simp at h
  rename_i t n f
  simp only [Option.some.injEq, Prod.mk.injEq, Bool.and_eq_true] at h
  obtain ⟨⟨hb, ha⟩, rfl⟩ := h
  unfold rndS
  by_cases e : n = 64
  · subst e
    rw [if_pos rfl]
    have hx := rX_back f
    by_cases q : rX f = 0
    · rw [if_pos (show hval (fun j => f j 0) 64 0 % ordL = 0 from q)]
      refine pure_of_out U5 at_suite_Random c_rnd (N := 5) (gs := [(12, true)]) ?_
      rw [k_rnd2, ha, hx, areB_b32, decide_eq_true q]; rfl
    · rw [if_neg (show ¬ hval (fun j => f j 0) 64 0 % ordL = 0 from q)]
      refine pure_of_out U5 at_suite_Random c_rnd (N := 5) (gs := [(12, false)]) ?_
      rw [k_rnd3, ha, hx, areB_b32, decide_eq_false q]; rfl
  · rw [if_neg e]
    refine pure_of_out U5 at_suite_Random c_rnd (N := 5) (gs := [(7, true)]) ?_
    rw [k_rnd1, show ((n : Int) != 64) = true from ne_n e]; rfl
theorem r_rnd2 : TRow prog F_rimeref06_Random tRandom := by
  intro args r h
  unfold tRandom at h
  split at h
  case h_2 => simp at h
  rename_i t n f
  simp only [Option.some.injEq, Prod.mk.injEq, Bool.and_eq_true] at h
  obtain ⟨⟨hb, ha⟩, rfl⟩ := h
  unfold rndS
  by_cases e : n = 64
  · subst e
    rw [if_pos rfl]
    obtain ⟨h1, h2, h3⟩ := rX_range f
    have hz := eqN_zero32 h1 h3
    by_cases q : rX f = 0
    · rw [if_pos (show hval (fun j => f j 0) 64 0 % ordL = 0 from q)]
      refine pure_of_out U5 at_rimeref06_Random c_rnd2 (N := 5) (gs := [(13, true)]) ?_
      rw [k_rrnd2, ha, hz, decide_eq_true q]; rfl
    · rw [if_neg (show ¬ hval (fun j => f j 0) 64 0 % ordL = 0 from q)]
      refine pure_of_out U5 at_rimeref06_Random c_rnd2 (N := 5) (gs := [(13, false)]) ?_
      rw [k_rrnd3, ha, hz, decide_eq_false q]; rfl
  · rw [if_neg e]
    refine pure_of_out U5 at_rimeref06_Random c_rnd2 (N := 5) (gs := [(7, true)]) ?_
    rw [k_rrnd1, show ((n : Int) != 64) = true from ne_n e]; rfl
/-! PutScalar -/
def tPut : TF := fun args => match args with
  | [.agg [.ints .u8 32 s]] => some (areB s 32 0, .sc (.vints true .u8 1 32 (fun j _ => lf (byL 32 (hval s 32 0 % ordL)) j)))
  | _ => none
theorem c_put : fnChk prog (envP tt su5 []) f_suite_PutScalar = true := by kernel_rfl
theorem c_put2 : fnChk prog (envP tt su5 []) f_rimeref06_PutScalar = true := by kernel_rfl
theorem k_put (s : Nat → Int) : outV 32 (apFunc (envP tt su5 []) [] 5 f_suite_PutScalar [u8s 32 s] []) =
    some (ckL [areB s 32 0 && areB (fun _ => 0) 32 0], .sc (.vints true .u8 1 32 (fun j _ => lf (byL 32 ((hval s 32 0 + hval (fun _ => 0) 32 0) % ordL)) j))) := by kernel_rfl
theorem k_put2 (s : Nat → Int) : outV 32 (apFunc (envP tt su5 []) [] 5 f_rimeref06_PutScalar [u8s 32 s] []) =
    some (ckL [areB s 32 0], .sc (.vints true .u8 1 32 (fun j _ => lf (byL 32 (hval (fun j => row1 s j 0) 32 0 % ordL)) j))) := by kernel_rfl
theorem r_put : TRow prog F_suite_PutScalar tPut := by
  intro args r h
  unfold tPut at h
  split at h
  case h_2 => simp at h
  rename_i s
  simp only [Option.some.injEq, Prod.mk.injEq] at h
  obtain ⟨ha, rfl⟩ := h
  refine pure_of_outV U5 at_suite_PutScalar c_put (N := 5) (n := 32) (gs := []) ?_
  have e := k_put s
  rw [hval_zero (s := fun _ => 0) fun i _ => rfl, Int.add_zero, ha] at e
  exact e
theorem r_put2 : TRow prog F_rimeref06_PutScalar tPut := by
  intro args r h
  unfold tPut at h
  split at h
  case h_2 => simp at h
  rename_i s
  simp only [Option.some.injEq, Prod.mk.injEq] at h
  obtain ⟨ha, rfl⟩ := h
  refine pure_of_outV U5 at_rimeref06_PutScalar c_put2 (N := 5) (n := 32) (gs := []) ?_
  have e := k_put2 s
  rw [row1_hval, ha] at e
  exact e
end Go.Proofs.YtkifoidhmipacaaGreat

namespace Go.Proofs.YtkifoidhmipacaaGreat
open Go.Proofs.Tryz
open Go Go.AM
/-! marks, copies -/
def mkB (i k : Int) : Int := wr .u8 (wr .i64 (wr .i64 (wr .i64 (i * 31) + wr .i64 (k * 7)) + 5))
def tMark : TF := fun args => match args with
  | [.sc (.int .i64 i), .sc (.int .i64 k)] => some (true, .sc (.int .u8 (mkB i k)))
  | _ => none
theorem c_mark : fnChk prog pE f_rimeplain_markBytes = true := by kernel_rfl
theorem r_mark : TRow prog F_rimeplain_markBytes tMark := by
  intro args r h
  unfold tMark at h
  split at h
  case h_2 => simp at h
  rename_i i k
  simp only [Option.some.injEq, Prod.mk.injEq, true_and] at h
  subst h
  exact pure_of_out L0 at_rimeplain_markBytes c_mark (N := 5) (gs := []) (by kernel_rfl)
def tCopy : TF := fun args => match args with
  | [.sc (.vints _ .u8 1 n f)] => some (fits (0 + n) 1, .sc (.vints true .u8 1 (0 + n) (fun j d => f (0 + j) (0 + d))))
  | _ => none
theorem c_copy : fnChk prog pE f_rimeplain_CopyBytes = true := by kernel_rfl
theorem k_copy (t : Bool) (n : Nat) (f : Nat → Nat → Int) : outP (apFunc pE [] 5 f_rimeplain_CopyBytes [.sc (.vints t .u8 1 n f)] []) = some (ckL [fits (0 + n) 1 && true], .sc (.vints true .u8 1 (0 + n) (fun j d => f (0 + j) (0 + d)))) := by kernel_rfl
theorem r_copy : TRow prog F_rimeplain_CopyBytes tCopy := by
  intro args r h
  unfold tCopy at h
  split at h
  case h_2 => simp at h
  rename_i t n f
  simp only [Option.some.injEq, Prod.mk.injEq] at h
  obtain ⟨hb, rfl⟩ := h
  refine pure_of_out L0 at_rimeplain_CopyBytes c_copy (N := 5) (gs := []) ?_
  rw [k_copy, hb]; rfl
def gs1 : List (Nat × TF) := [(F_rimeplain_SameBytes, tSame), (F_rimeplain_CopyBytes, tCopy), (F_rimeplain_markBytes, tMark)]
theorem G1 : LibOK prog tt gs1 [] := ((L0.addT r_mark).addT r_copy).addT r_same
/-! Given.Bytes, where two blocks lie ahead, the second of them the book -/
structure GA where
  x0 : Option Blk
  x1 : Option Blk
  t : Bool
  n : Nat
  f : Nat → Nat → Int
  m : Nat
noncomputable abbrev gE : EnvP := envP tt gs1 []
noncomputable def gb0 : Code := match f_rimeplain_Given_Bytes.body with | some c => (match bodiesOf 0 c with | [.loop b] => b | _ => .skip) | none => .skip
noncomputable def gb2 : Code := match f_rimeplain_Given_Bytes.body with | some c => (match bodiesOf 2 c with | [.loop b] => b | _ => .skip) | none => .skip
def gT (a : GA) : List (Nat × AV) := [(0, .sc (.ptr 1 30 0 0 30)), (1, .sc (.vints a.t .u8 1 a.n a.f)), (5, .sc (.slice 2 1 0 0 1 a.m))]
def gH (a : GA) (D : Nat → Nat → Int) : Heap := [a.x0, a.x1, some (.ints .u8 1 a.m D)]
def g0V (a : GA) (v : Int) (D : Nat → Nat → Int) : St := ⟨tmOf ((6, .sc (.int .i64 v)) :: gT a) 61 0, gH a D⟩
def g2V (a : GA) (v : Int) (D : Nat → Nat → Int) : St := ⟨tmOf ((7, .sc (.int .i64 v)) :: gT a) 61 0, gH a D⟩
def gE' (a : GA) (D : Nat → Nat → Int) : St := ⟨tmOf (gT a) 61 0, gH a D⟩
def upd1 (D : Nat → Nat → Int) (i : Nat) (x : Int) : Nat → Nat → Int := fun r d => bif Nat.beq r i && Nat.beq d 0 then x else D r d
theorem g0_round (a : GA) (v v' : Int) (D D' : Nat → Nat → Int) : roundP gE [(15, true)] 5 2 gb0 (g0V a v D) .normal (g0V a v' D') =
    some (ckL [decide (v < (a.m : Int)) == true, inR v a.m] && stBp 2 (g0V a (wr .i64 (v + 1)) (upd1 D (0 + v.toNat) (mkB 987 v))) (g0V a v' D'), ([a.x0, a.x1], 3)) := by kernel_rfl
theorem g0_stop (a : GA) (v : Int) (D : Nat → Nat → Int) : roundP gE [(15, false)] 5 2 gb0 (g0V a v D) (.exit 0) (gE' a D) = some (ckL [decide (v < (a.m : Int)) == false] && stBp 2 (gE' a D) (gE' a D), ([a.x0, a.x1], 3)) := by kernel_rfl
theorem g2_round (a : GA) (v v' : Int) (D D' : Nat → Nat → Int) : roundP gE [(26, true)] 5 2 gb2 (g2V a v D) .normal (g2V a v' D') =
    some (ckL [decide (v < (a.n : Int)) == true, inR v a.n, inR v a.m] && stBp 2 (g2V a (wr .i64 (v + 1)) (upd1 D (0 + v.toNat) (a.f v.toNat 0))) (g2V a v' D'), ([a.x0, a.x1], 3)) := by kernel_rfl
theorem g2_stop (a : GA) (v : Int) (D : Nat → Nat → Int) : roundP gE [(26, false)] 5 2 gb2 (g2V a v D) (.exit 2) (gE' a D) = some (ckL [decide (v < (a.n : Int)) == false] && stBp 2 (gE' a D) (gE' a D), ([a.x0, a.x1], 3)) := by kernel_rfl
theorem g0_same (a : GA) (v : Int) {D D' : Nat → Nat → Int} (h : eqF a.m 1 D D' = true) : stBp 2 (g0V a v D) (g0V a v D') = true := by
  simp [stBp, g0V, gT, gH, tmOf, tmB, avB, svB, hpB, blkB, eqF_refl, kEq, h]
theorem g2_same (a : GA) (v : Int) {D D' : Nat → Nat → Int} (h : eqF a.m 1 D D' = true) : stBp 2 (g2V a v D) (g2V a v D') = true := by
  simp [stBp, g2V, gT, gH, tmOf, tmB, avB, svB, hpB, blkB, eqF_refl, kEq, h]
theorem gE_same (a : GA) (D : Nat → Nat → Int) : stBp 2 (gE' a D) (gE' a D) = true := by
  simp [stBp, gE', gT, gH, tmOf, tmB, avB, svB, hpB, blkB, eqF_refl, kEq]
def gD (k : Nat) : Nat → Nat → Int := fun r _ => bif Nat.ble (r + 1) k then mkB 987 (r : Int) else 0
def gG (a : GA) (k : Nat) : Nat → Nat → Int := fun r _ => bif Nat.ble (r + 1) k then a.f r 0 else mkB 987 (r : Int)
def gRd (s : St) : Option GA := match getA s.tm 1, s.hp with
  | .sc (.vints t _ _ n f), [x0, x1, some (.ints _ _ m _)] => some ⟨x0, x1, t, n, f, m⟩
  | _, _ => none
def g0S (a : GA) (k : Nat) : St := g0V a (k : Int) (gD k)
def g2S (a : GA) (k : Nat) : St := g2V a (k : Int) (gG a k)
def gF0 : LF := famP 2 gRd g0S (fun a => big a.m) (fun _ => .normal) (fun a => gE' a (gD a.m))
def gF2 : LF := famP 2 gRd g2S (fun a => big a.m && Nat.ble a.n a.m) (fun _ => .normal) (fun a => gE' a (gG a a.n))
theorem g0_body : f_rimeplain_Given_Bytes.body.map (bodiesOf 0) = some [.loop gb0] := by kernel_rfl
theorem g2_body : f_rimeplain_Given_Bytes.body.map (bodiesOf 2) = some [.loop gb2] := by kernel_rfl
theorem g0_ok : codeOK prog gE.env.isW gb0 = true := by kernel_rfl
theorem g2_ok : codeOK prog gE.env.isW gb2 = true := by kernel_rfl
theorem gRd_hp {s : St} {a : GA} (h : gRd s = some a) : ∃ k z D, s.hp = [a.x0, a.x1, some (.ints k z a.m D)] := by
  unfold gRd at h
  split at h
  · rename_i hh
    simp only [Option.some.injEq] at h
    subst h
    exact ⟨_, _, _, hh⟩
  · simp at h
theorem gRd_ok {s : St} {a : GA} (h : gRd s = some a) (D D' : Nat → Nat → Int) : (gH a D).length = s.hp.length ∧ s.hp.take 2 = (gH a D).take 2 ∧ ∀ (i : Nat), s.hp[i]? = some none → (gH a D')[i]? = some none := by
  obtain ⟨k, z, E, hh⟩ := gRd_hp h
  rw [hh]
  refine ⟨rfl, rfl, fun i hi => ?_⟩
  match i, hi with
  | 0, hi => exact hi
  | 1, hi => exact hi
  | 2, hi => simp at hi
  | n + 3, hi => simp at hi
theorem upd_D (k : Nat) {m : Nat} : eqF m 1 (upd1 (gD k) (0 + ((k : Nat) : Int).toNat) (mkB 987 (k : Int))) (gD (k + 1)) = true := eqF_of fun r hr d hd => by
  obtain rfl : d = 0 := by omega
  rw [Int.toNat_natCast, Nat.zero_add]
  unfold upd1 gD
  by_cases e : r = k
  · subst e
    have h1 : Nat.beq r r = true := beq_t.2 rfl
    have h2 : Nat.ble (r + 1) (r + 1) = true := Nat.ble_eq_true_of_le (Nat.le_refl _)
    have h3 : Nat.beq 0 0 = true := rfl
    rw [h1, h2, h3]; rfl
  · have h1 : Nat.beq r k = false := by cases hb : Nat.beq r k with | false => rfl | true => exact absurd (Nat.eq_of_beq_eq_true hb) e
    have h2 : Nat.ble (r + 1) (k + 1) = Nat.ble (r + 1) k := by
      cases hb : Nat.ble (r + 1) k with
      | true => exact Nat.ble_eq_true_of_le (by have := Nat.le_of_ble_eq_true hb; omega)
      | false => cases hb2 : Nat.ble (r + 1) (k + 1) with
        | false => rfl
        | true => exact absurd (Nat.ble_eq_true_of_le (show r + 1 ≤ k by have := Nat.le_of_ble_eq_true hb2; omega)) (by rw [hb]; simp)
    rw [h1, h2]; rfl
theorem upd_G (a : GA) (k : Nat) {m : Nat} : eqF m 1 (upd1 (gG a k) (0 + ((k : Nat) : Int).toNat) (a.f ((k : Nat) : Int).toNat 0)) (gG a (k + 1)) = true := eqF_of fun r hr d hd => by
  obtain rfl : d = 0 := by omega
  rw [Int.toNat_natCast, Nat.zero_add]
  unfold upd1 gG
  by_cases e : r = k
  · subst e
    have h1 : Nat.beq r r = true := beq_t.2 rfl
    have h2 : Nat.ble (r + 1) (r + 1) = true := Nat.ble_eq_true_of_le (Nat.le_refl _)
    have h3 : Nat.beq 0 0 = true := rfl
    rw [h1, h2, h3]; rfl
  · have h1 : Nat.beq r k = false := by cases hb : Nat.beq r k with | false => rfl | true => exact absurd (Nat.eq_of_beq_eq_true hb) e
    have h2 : Nat.ble (r + 1) (k + 1) = Nat.ble (r + 1) k := by
      cases hb : Nat.ble (r + 1) k with
      | true => exact Nat.ble_eq_true_of_le (by have := Nat.le_of_ble_eq_true hb; omega)
      | false => cases hb2 : Nat.ble (r + 1) (k + 1) with
        | false => rfl
        | true => exact absurd (Nat.ble_eq_true_of_le (show r + 1 ≤ k by have := Nat.le_of_ble_eq_true hb2; omega)) (by rw [hb]; simp)
    rw [h1, h2]; rfl
theorem l_g0 : LRow prog f_rimeplain_Given_Bytes 0 gF0 := by
  refine LRow.famP (N := 5) (G1.env []) mix (fun a => a.m) (body_of g0_body) g0_ok (fun w0 own0 => accOK_none (fun id => rfl) gb0) (fun s a h => gRd_ok h _ _) ?_ ?_
  · intro a ha k hk
    have hb : a.m ≤ 4611686018427387904 := Nat.le_of_ble_eq_true ha
    have ew : wr .i64 ((k : Int) + 1) = ((k + 1 : Nat) : Int) := by rw [wr_small (by omega) (by omega)]; rfl
    refine roundP_spec (g0_round a (k : Int) ((k + 1 : Nat) : Int) (gD k) (gD (k + 1))) ?_ rfl rfl
    rw [ew, g0_same a _ (upd_D k), inR_nat hk]
    simp [ckL]; omega
  · intro a ha
    obtain ⟨s1, h1, h2⟩ := roundP_spec (g0_stop a (a.m : Int) (gD a.m)) (by rw [gE_same]; simp [ckL]) rfl rfl
    exact ⟨_, s1, h1, rfl, h2⟩
theorem l_g2 : LRow prog f_rimeplain_Given_Bytes 2 gF2 := by
  refine LRow.famP (N := 5) (G1.env []) mix (fun a => a.n) (body_of g2_body) g2_ok (fun w0 own0 => accOK_none (fun id => rfl) gb2) (fun s a h => gRd_ok h _ _) ?_ ?_
  · intro a ha k hk
    simp only [Bool.and_eq_true] at ha
    have hb : a.m ≤ 4611686018427387904 := Nat.le_of_ble_eq_true ha.1
    have hnm := Nat.le_of_ble_eq_true ha.2
    have ew : wr .i64 ((k : Int) + 1) = ((k + 1 : Nat) : Int) := by rw [wr_small (by omega) (by omega)]; rfl
    refine roundP_spec (g2_round a (k : Int) ((k + 1 : Nat) : Int) (gG a k) (gG a (k + 1))) ?_ rfl rfl
    rw [ew, g2_same a _ (upd_G a k), inR_nat hk, inR_nat (show k < a.m by omega)]
    simp [ckL]; omega
  · intro a ha
    obtain ⟨s1, h1, h2⟩ := roundP_spec (g2_stop a (a.n : Int) (gG a a.n)) (by rw [gE_same]; simp [ckL]) rfl rfl
    exact ⟨_, s1, h1, rfl, h2⟩
theorem c_given : fnChk prog (envL tt gs1 [] [(2, gF2), (0, gF0)]) f_rimeplain_Given_Bytes = true := by kernel_rfl
noncomputable def wGiven : WF := sW (envL tt gs1 [] [(2, gF2), (0, gF0)]) [] 5 f_rimeplain_Given_Bytes
theorem r_given : WRow prog F_rimeplain_Given_Bytes wGiven := sWL_row G1 ((LsOK.nil.cons l_g0).cons l_g2) at_rimeplain_Given_Bytes [] 5 c_given
end Go.Proofs.YtkifoidhmipacaaGreat
