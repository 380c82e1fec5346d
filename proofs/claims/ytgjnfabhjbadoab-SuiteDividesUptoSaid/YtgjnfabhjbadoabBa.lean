/-
  Numbers of four words; modulo the group's order. No program in sight. Numbers of 32 bytes. No program in sight. The product of two words. No program in sight. Montgomery's product: one round. No program in sight. Numbers of eight digits of 32 bits: plain laws. No program in sight. A number taken modulo L bit by bit, from the top: the plain law. Bytes as digits of 32 bits, and back: the plain laws. Numbers of 32 bytes, and their bytes: plain laws. No program in sight.
-/
import Derived.Test.YtgjnfabhjbadoabAd
namespace Go.AM

def W64 : Int := 18446744073709551616
def ordL : Int := 7237005577332262213973186563042994240857116359379907606001950938285454250989

def val4 (a : Nat → Int) : Int := a 0 + 18446744073709551616 * (a 1 + 18446744073709551616 * (a 2 + 18446744073709551616 * a 3))
def limbs4 (n : Int) : Nat → Int := lf [n % 18446744073709551616, n / 18446744073709551616 % 18446744073709551616, n / 18446744073709551616 / 18446744073709551616 % 18446744073709551616, n / 18446744073709551616 / 18446744073709551616 / 18446744073709551616 % 18446744073709551616]
def inU4 (a : Nat → Int) : Bool := inU (a 0) && (inU (a 1) && (inU (a 2) && inU (a 3)))
def u4 (a : Nat → Int) : AV := .agg [.ints .u64 4 a]
def n4 (n : Int) : AV := u4 (limbs4 n)

theorem inU4_t {a : Nat → Int} (h : inU4 a = true) : (0 ≤ a 0 ∧ a 0 < 18446744073709551616) ∧ (0 ≤ a 1 ∧ a 1 < 18446744073709551616) ∧ (0 ≤ a 2 ∧ a 2 < 18446744073709551616) ∧ (0 ≤ a 3 ∧ a 3 < 18446744073709551616) := by
  simp only [inU4, Bool.and_eq_true] at h
  exact ⟨inU_t h.1, inU_t h.2.1, inU_t h.2.2.1, inU_t h.2.2.2⟩

theorem inU_mod (n : Int) : inU (n % 18446744073709551616) = true := by
  simp only [inU, Bool.and_eq_true, decide_eq_true_eq]; omega
theorem inU4_limbs (n : Int) : inU4 (limbs4 n) = true := by
  simp only [inU4, limbs4, lf, inU_mod, Bool.and_self]
theorem val4_limbs {n : Int} (h0 : 0 ≤ n) (h1 : n < 115792089237316195423570985008687907853269984665640564039457584007913129639936) : val4 (limbs4 n) = n := by
  simp only [val4, limbs4, lf]; omega
theorem val4_range {a : Nat → Int} (h : inU4 a = true) : 0 ≤ val4 a ∧ val4 a < 115792089237316195423570985008687907853269984665640564039457584007913129639936 := by
  have := inU4_t h
  simp only [val4]; omega

def brK (a b : Nat → Int) : Nat → Bool
  | 0 => false
  | j + 1 => subC (a j) (b j) (brK a b j)
def lessL (a b : Nat → Int) : List Int := [subLo (a 0) (b 0) (brK a b 0), subLo (a 1) (b 1) (brK a b 1), subLo (a 2) (b 2) (brK a b 2), subLo (a 3) (b 3) (brK a b 3)]

theorem sub_step {x y : Int} (b : Bool) (hx : 0 ≤ x ∧ x < 18446744073709551616) (hy : 0 ≤ y ∧ y < 18446744073709551616) :
    subLo x y b = x - y - b2i b + 18446744073709551616 * b2i (subC x y b) ∧ 0 ≤ subLo x y b ∧ subLo x y b < 18446744073709551616 := by
  have := b2i_range b
  unfold subLo subC
  by_cases h : x < y + b2i b
  · rw [decide_eq_true h, show b2i true = 1 from rfl]; omega
  · rw [decide_eq_false h, show b2i false = 0 from rfl]; omega
theorem add_step {x y : Int} (b : Bool) (hx : 0 ≤ x ∧ x < 18446744073709551616) (hy : 0 ≤ y ∧ y < 18446744073709551616) :
    addLo x y b = x + y + b2i b - 18446744073709551616 * b2i (addC x y b) ∧ 0 ≤ addLo x y b ∧ addLo x y b < 18446744073709551616 := by
  have := b2i_range b
  unfold addLo addC
  by_cases h : 18446744073709551616 ≤ x + y + b2i b
  · rw [decide_eq_true h, show b2i true = 1 from rfl]; omega
  · rw [decide_eq_false h, show b2i false = 0 from rfl]; omega

/-- a number told by its words -/
theorem limbs_of {n a b c d : Int} (ha : 0 ≤ a ∧ a < 18446744073709551616) (hb : 0 ≤ b ∧ b < 18446744073709551616) (hc : 0 ≤ c ∧ c < 18446744073709551616) (hd : 0 ≤ d ∧ d < 18446744073709551616)
    (h : n = a + 18446744073709551616 * (b + 18446744073709551616 * (c + 18446744073709551616 * d))) : limbs4 n = lf [a, b, c, d] := by
  unfold limbs4
  have h1 : n / 18446744073709551616 = b + 18446744073709551616 * (c + 18446744073709551616 * d) := by omega
  have h2 : (b + 18446744073709551616 * (c + 18446744073709551616 * d)) / 18446744073709551616 = c + 18446744073709551616 * d := by omega
  have h3 : (c + 18446744073709551616 * d) / 18446744073709551616 = d := by omega
  rw [h1, h2, h3]
  congr 1
  rw [show n % 18446744073709551616 = a by omega, show (b + 18446744073709551616 * (c + 18446744073709551616 * d)) % 18446744073709551616 = b by omega,
    show (c + 18446744073709551616 * d) % 18446744073709551616 = c by omega, show d % 18446744073709551616 = d by omega]

theorem less_law {a b : Nat → Int} (ha : inU4 a = true) (hb : inU4 b = true) :
    brK a b 4 = decide (val4 a < val4 b) ∧ lf (lessL a b) = limbs4 (if val4 a < val4 b then val4 a - val4 b + 115792089237316195423570985008687907853269984665640564039457584007913129639936 else val4 a - val4 b) := by
  have ha := inU4_t ha
  have hb := inU4_t hb
  obtain ⟨s0, r0⟩ := sub_step (brK a b 0) ha.1 hb.1
  obtain ⟨s1, r1⟩ := sub_step (brK a b 1) ha.2.1 hb.2.1
  obtain ⟨s2, r2⟩ := sub_step (brK a b 2) ha.2.2.1 hb.2.2.1
  obtain ⟨s3, r3⟩ := sub_step (brK a b 3) ha.2.2.2 hb.2.2.2
  have e0 : b2i (brK a b 0) = 0 := rfl
  change _ = _ - _ - _ + 18446744073709551616 * b2i (brK a b 1) at s0
  change _ = _ - _ - _ + 18446744073709551616 * b2i (brK a b 2) at s1
  change _ = _ - _ - _ + 18446744073709551616 * b2i (brK a b 3) at s2
  change _ = _ - _ - _ + 18446744073709551616 * b2i (brK a b 4) at s3
  have hv : lessL a b = [subLo (a 0) (b 0) (brK a b 0), subLo (a 1) (b 1) (brK a b 1), subLo (a 2) (b 2) (brK a b 2), subLo (a 3) (b 3) (brK a b 3)] := rfl
  rw [hv]
  generalize subLo (a 0) (b 0) (brK a b 0) = x0 at *
  generalize subLo (a 1) (b 1) (brK a b 1) = x1 at *
  generalize subLo (a 2) (b 2) (brK a b 2) = x2 at *
  generalize subLo (a 3) (b 3) (brK a b 3) = x3 at *
  have key : x0 + 18446744073709551616 * (x1 + 18446744073709551616 * (x2 + 18446744073709551616 * x3)) = val4 a - val4 b + 115792089237316195423570985008687907853269984665640564039457584007913129639936 * b2i (brK a b 4) := by
    simp only [val4]; omega
  have hR := b2i_range (brK a b 4)
  have hn : brK a b 4 = decide (val4 a < val4 b) := by
    cases hk : brK a b 4 with
    | false =>
      rw [hk, show b2i false = 0 from rfl] at key
      rw [eq_comm, decide_eq_false_iff_not]; omega
    | true =>
      rw [hk, show b2i true = 1 from rfl] at key
      rw [eq_comm, decide_eq_true_iff]; omega
  refine ⟨hn, (limbs_of r0 r1 r2 r3 ?_).symm⟩
  rw [key, hn]
  by_cases h : val4 a < val4 b
  · rw [if_pos h, decide_eq_true h, show b2i true = 1 from rfl]; omega
  · rw [if_neg h, decide_eq_false h, show b2i false = 0 from rfl]; omega

def low (n : Int) : Int := if n < ordL then n else n - ordL

theorem limbs_self {a : Nat → Int} (h : inU4 a = true) : lf [a 0, a 1, a 2, a 3] = limbs4 (val4 a) := by
  have := inU4_t h
  exact (limbs_of this.1 this.2.1 this.2.2.1 this.2.2.2 rfl).symm
theorem val4_ordL : val4 (limbs4 ordL) = ordL := val4_limbs (by decide) (by decide)
theorem low_range {n : Int} (h0 : 0 ≤ n) : 0 ≤ low n ∧ low n ≤ n := by
  unfold low ordL; split <;> omega

/-! addition -/
def carK (a b : Nat → Int) : Nat → Bool
  | 0 => false
  | j + 1 => addC (a j) (b j) (carK a b j)
def plusL (a b : Nat → Int) : List Int := [addLo (a 0) (b 0) (carK a b 0), addLo (a 1) (b 1) (carK a b 1), addLo (a 2) (b 2) (carK a b 2), addLo (a 3) (b 3) (carK a b 3)]
theorem plus_law {a b : Nat → Int} (ha : inU4 a = true) (hb : inU4 b = true) : lf (plusL a b) = limbs4 ((val4 a + val4 b) % 115792089237316195423570985008687907853269984665640564039457584007913129639936) := by
  have ha := inU4_t ha
  have hb := inU4_t hb
  obtain ⟨s0, r0⟩ := add_step (carK a b 0) ha.1 hb.1
  obtain ⟨s1, r1⟩ := add_step (carK a b 1) ha.2.1 hb.2.1
  obtain ⟨s2, r2⟩ := add_step (carK a b 2) ha.2.2.1 hb.2.2.1
  obtain ⟨s3, r3⟩ := add_step (carK a b 3) ha.2.2.2 hb.2.2.2
  have e0 : b2i (carK a b 0) = 0 := rfl
  change _ = _ + _ + _ - 18446744073709551616 * b2i (carK a b 1) at s0
  change _ = _ + _ + _ - 18446744073709551616 * b2i (carK a b 2) at s1
  change _ = _ + _ + _ - 18446744073709551616 * b2i (carK a b 3) at s2
  change _ = _ + _ + _ - 18446744073709551616 * b2i (carK a b 4) at s3
  have hv : plusL a b = [addLo (a 0) (b 0) (carK a b 0), addLo (a 1) (b 1) (carK a b 1), addLo (a 2) (b 2) (carK a b 2), addLo (a 3) (b 3) (carK a b 3)] := rfl
  rw [hv]
  generalize addLo (a 0) (b 0) (carK a b 0) = x0 at *
  generalize addLo (a 1) (b 1) (carK a b 1) = x1 at *
  generalize addLo (a 2) (b 2) (carK a b 2) = x2 at *
  generalize addLo (a 3) (b 3) (carK a b 3) = x3 at *
  have hR := b2i_range (carK a b 4)
  have key : x0 + 18446744073709551616 * (x1 + 18446744073709551616 * (x2 + 18446744073709551616 * x3)) = val4 a + val4 b - 115792089237316195423570985008687907853269984665640564039457584007913129639936 * b2i (carK a b 4) := by
    simp only [val4]; omega
  refine (limbs_of r0 r1 r2 r3 ?_).symm
  omega
end Go.AM

namespace Go.AM

def isB (x : Int) : Bool := decide (0 ≤ x) && decide (x < 256)
theorem isB_t {x : Int} (h : isB x = true) : 0 ≤ x ∧ x < 256 := by simpa [isB] using h
/-- bytes from j on, n of them -/
def areB (s : Nat → Int) : Nat → Nat → Bool
  | 0, _ => true
  | n + 1, j => isB (s j) && areB s n (j + 1)
theorem areB_t {s : Nat → Int} : ∀ {n j : Nat}, areB s n j = true → ∀ i, i < n → 0 ≤ s (j + i) ∧ s (j + i) < 256
  | 0, j, _, i, hi => by omega
  | n + 1, j, h, i, hi => by
    simp only [areB, Bool.and_eq_true] at h
    cases i with
    | zero => exact isB_t h.1
    | succ i =>
      have := areB_t h.2 i (by omega)
      rwa [show j + 1 + i = j + (i + 1) by omega] at this
/-- the number that they tell, the lowest first -/
def hval (s : Nat → Int) : Nat → Nat → Int
  | 0, _ => 0
  | n + 1, j => s j + 256 * hval s n (j + 1)
def byL : Nat → Int → List Int
  | 0, _ => []
  | n + 1, x => x % 256 :: byL n (x / 256)
def horner : List Int → Int
  | [] => 0
  | x :: l => x + 256 * horner l
def allB : List Int → Prop
  | [] => True
  | x :: l => (0 ≤ x ∧ x < 256) ∧ allB l
theorem byL_horner : ∀ (l : List Int), allB l → byL l.length (horner l) = l
  | [], _ => rfl
  | x :: l, h => by
    have ih := byL_horner l h.2
    have hx := h.1
    simp only [List.length_cons, byL, horner]
    rw [show (x + 256 * horner l) % 256 = x by omega, show (x + 256 * horner l) / 256 = horner l by omega, ih]
theorem byL_allB : ∀ (n : Nat) (x : Int), allB (byL n x)
  | 0, x => trivial
  | n + 1, x => ⟨by omega, byL_allB n _⟩
theorem horner_byL : ∀ (n : Nat) (x : Int), 0 ≤ x → x < 256 ^ n → horner (byL n x) = x
  | 0, x, h0, h1 => by simp at h1; simp [byL, horner]; omega
  | n + 1, x, h0, h1 => by
    have h2 : x / 256 < 256 ^ n := by
      rw [Int.pow_succ] at h1
      omega
    simp only [byL, horner]
    rw [horner_byL n (x / 256) (by omega) h2]
    omega
theorem byL_length : ∀ (n : Nat) (x : Int), (byL n x).length = n
  | 0, _ => rfl
  | n + 1, x => by simp [byL, byL_length n]
theorem hval_lf : ∀ (l : List Int) (s : Nat → Int) (j : Nat), (∀ i, i < l.length → s (j + i) = lf l i) → hval s l.length j = horner l
  | [], s, j, _ => rfl
  | x :: l, s, j, h => by
    simp only [List.length_cons, hval, horner]
    have h0 : s j = x := h 0 (by simp)
    rw [h0, hval_lf l s (j + 1) (fun i hi => by
      have := h (i + 1) (by simp; omega)
      rw [show j + 1 + i = j + (i + 1) by omega, this]; rfl)]
theorem areB_lf : ∀ (l : List Int) (s : Nat → Int) (j : Nat), (∀ i, i < l.length → s (j + i) = lf l i) → allB l → areB s l.length j = true
  | [], s, j, _, _ => rfl
  | x :: l, s, j, h, hb => by
    simp only [List.length_cons, areB, Bool.and_eq_true]
    have h0 : s j = x := h 0 (by simp)
    refine ⟨by simp only [isB, h0, Bool.and_eq_true, decide_eq_true_eq]; exact hb.1, areB_lf l s (j + 1) (fun i hi => ?_) hb.2⟩
    have := h (i + 1) (by simp; omega)
    rw [show j + 1 + i = j + (i + 1) by omega, this]; rfl

def u8s (n : Nat) (s : Nat → Int) : AV := .agg [.ints .u8 n s]
def b32 (x : Int) : AV := u8s 32 (lf (byL 32 x))

theorem hval_b32 {x : Int} (h0 : 0 ≤ x) (h1 : x < 115792089237316195423570985008687907853269984665640564039457584007913129639936) : hval (lf (byL 32 x)) 32 0 = x := by
  have := hval_lf (byL 32 x) (lf (byL 32 x)) 0 (fun i _ => by rw [Nat.zero_add])
  rw [byL_length] at this
  rw [this]
  exact horner_byL 32 x h0 (by simpa using h1)
theorem areB_b32 (x : Int) : areB (lf (byL 32 x)) 32 0 = true := by
  have := areB_lf (byL 32 x) (lf (byL 32 x)) 0 (fun i _ => by rw [Nat.zero_add]) (byL_allB _ _)
  rwa [byL_length] at this
theorem hval_range {s : Nat → Int} : ∀ {n j : Nat}, areB s n j = true → 0 ≤ hval s n j ∧ hval s n j < 256 ^ n
  | 0, j, _ => by simp [hval]
  | n + 1, j, h => by
    simp only [areB, Bool.and_eq_true] at h
    have h1 := isB_t h.1
    have h2 := hval_range h.2
    simp only [hval, Int.pow_succ]
    omega

/-! eight bytes in a word -/
theorem wr64 (x : Int) : wr .u64 x = x % 18446744073709551616 := by
  simp [wr, IntKind.wrap, IntKind.bits, IntKind.signed]
theorem wr8 (x : Int) : wr .u8 x = x % 256 := by
  simp [wr, IntKind.wrap, IntKind.bits, IntKind.signed]

theorem ior64 {x y : Int} (hx : 0 ≤ x ∧ x < 18446744073709551616) (hy : 0 ≤ y ∧ y < 18446744073709551616) : ior .u64 x y = ((x.toNat ||| y.toNat : Nat) : Int) := by
  obtain ⟨X, rfl⟩ := Int.eq_ofNat_of_zero_le hx.1
  obtain ⟨Y, rfl⟩ := Int.eq_ofNat_of_zero_le hy.1
  have hX : X < 2 ^ 64 := by omega
  have hY : Y < 2 ^ 64 := by omega
  have h : X ||| Y < 2 ^ 64 := Nat.or_lt_two_pow hX hY
  have key : ∀ Z : Nat, Z < 2 ^ 64 → (((Z : Int) % ((2 ^ IntKind.u64.bits : Nat) : Int)).toNat) = Z := fun Z hZ => by
    rw [show (2 ^ IntKind.u64.bits : Nat) = 18446744073709551616 from rfl]; omega
  unfold ior
  rw [show IntKind.u64.wrap = wr .u64 from rfl, wr64, BitVec.toNat_or, BitVec.toNat_ofInt, BitVec.toNat_ofInt, key X hX, key Y hY, Int.toNat_natCast, Int.toNat_natCast]
  omega

theorem or_byte {x b : Int} {k : Nat} (hk : k ≤ 56) (hx : 0 ≤ x ∧ x < 2 ^ k) (hb : 0 ≤ b ∧ b < 256) : ior .u64 x (ishl .u64 (wr .u64 b) k) = x + b * 2 ^ k := by
  have hp : (2 : Int) ^ k ≤ 2 ^ 56 := by
    have : (2 : Nat) ^ k ≤ 2 ^ 56 := Nat.pow_le_pow_right (by decide) hk
    have h2 : ((2 ^ k : Nat) : Int) ≤ ((2 ^ 56 : Nat) : Int) := by exact_mod_cast this
    simpa using h2
  have hp0 : (0 : Int) < 2 ^ k := Int.pow_pos (by decide)
  have hb2 : b * 2 ^ k ≤ 255 * 2 ^ 56 := by
    have h1 : b * 2 ^ k ≤ 255 * 2 ^ k := Int.mul_le_mul_of_nonneg_right (by omega) (by omega)
    have h2 : (255 : Int) * 2 ^ k ≤ 255 * 2 ^ 56 := Int.mul_le_mul_of_nonneg_left hp (by decide)
    omega
  have hb0 : 0 ≤ b * 2 ^ k := Int.mul_nonneg hb.1 (by omega)
  have hsh : ishl .u64 (wr .u64 b) k = b * 2 ^ k := by
    unfold ishl
    rw [show IntKind.u64.wrap = wr .u64 from rfl, wr64, wr64]
    have : min ((k : Int).toNat) IntKind.u64.bits = k := by simp [IntKind.bits]; omega
    rw [this, Int.emod_eq_of_lt hb.1 (by omega)]
    exact Int.emod_eq_of_lt hb0 (by omega)
  rw [hsh, ior64 ⟨hx.1, by omega⟩ ⟨hb0, by omega⟩]
  obtain ⟨X, rfl⟩ := Int.eq_ofNat_of_zero_le hx.1
  obtain ⟨B, rfl⟩ := Int.eq_ofNat_of_zero_le hb.1
  have hX : X < 2 ^ k := by have := hx.2; exact_mod_cast this
  have e : ((B : Int) * 2 ^ k).toNat = 2 ^ k * B := by
    rw [show (B : Int) * 2 ^ k = ((2 ^ k * B : Nat) : Int) by push_cast; rw [Int.mul_comm]]
    exact Int.toNat_natCast _
  rw [e, Int.toNat_natCast, Nat.or_comm, ← Nat.two_pow_add_eq_or_of_lt hX]
  push_cast
  rw [Int.mul_comm]; omega

def orB (s : Nat → Int) (i : Nat) : Nat → Int
  | 0 => 0
  | k + 1 => ior .u64 (orB s i k) (ishl .u64 (wr .u64 (s (8 * i + k))) ((8 * k : Nat) : Int))

theorem hval_add (s : Nat → Int) : ∀ (m n j : Nat), hval s (m + n) j = hval s m j + 256 ^ m * hval s n (j + m)
  | 0, n, j => by simp [hval]
  | m + 1, n, j => by
    rw [show m + 1 + n = (m + n) + 1 by omega]
    simp only [hval]
    rw [hval_add s m n (j + 1), show j + 1 + m = j + (m + 1) by omega, Int.pow_succ, Int.mul_add, ← Int.mul_assoc, Int.mul_comm (256 ^ m) 256]
    omega

theorem areB_sub {s : Nat → Int} {n j m i : Nat} (h : areB s n j = true) (hi : i + m ≤ n) : areB s m (j + i) = true := by
  induction m generalizing i with
  | zero => rfl
  | succ m ih =>
    simp only [areB, Bool.and_eq_true]
    refine ⟨?_, by have := ih (i := i + 1) (by omega); rwa [show j + (i + 1) = j + i + 1 by omega] at this⟩
    have := areB_t h i (by omega)
    simp only [isB, Bool.and_eq_true, decide_eq_true_eq]; exact this

theorem orB_law {s : Nat → Int} {i : Nat} (h : areB s 8 (8 * i) = true) : ∀ k, k ≤ 8 → orB s i k = hval s k (8 * i) ∧ 0 ≤ orB s i k ∧ orB s i k < 2 ^ (8 * k)
  | 0, _ => by simp [orB, hval]
  | k + 1, hk => by
    obtain ⟨h1, h2⟩ := orB_law h k (by omega)
    have hb := areB_t h k (by omega)
    have e := or_byte (k := 8 * k) (by omega) h2 hb
    have e2 := hval_add s k 1 (8 * i)
    have e3 : hval s 1 (8 * i + k) = s (8 * i + k) := by simp [hval]
    have e4 : (2 : Int) ^ (8 * k) = 256 ^ k := by rw [Int.pow_mul]; rfl
    refine ⟨by simp only [orB]; rw [e, h1, e2, e3, e4, Int.mul_comm], ?_⟩
    have hr := hval_range (areB_sub (j := 8 * i) (i := 0) (m := k + 1) h (by omega))
    rw [Nat.add_zero] at hr
    have : orB s i (k + 1) = hval s (k + 1) (8 * i) := by simp only [orB]; rw [e, h1, e2, e3, e4, Int.mul_comm]
    rw [this]
    refine ⟨hr.1, ?_⟩
    rw [show (2 : Int) ^ (8 * (k + 1)) = 256 ^ (k + 1) by rw [Int.pow_mul]; rfl]
    exact hr.2

theorem from_law {s : Nat → Int} (h : areB s 32 0 = true) : lf [orB s 0 8, orB s 1 8, orB s 2 8, orB s 3 8] = limbs4 (hval s 32 0) := by
  have q : ∀ i, i < 4 → orB s i 8 = hval s 8 (8 * i) ∧ 0 ≤ orB s i 8 ∧ orB s i 8 < 18446744073709551616 := fun i hi => by
    have hb := areB_sub (i := 8 * i) (m := 8) h (by omega)
    rw [Nat.zero_add] at hb
    have := orB_law hb 8 (by omega)
    exact this
  have e : hval s 32 0 = hval s 8 0 + 18446744073709551616 * (hval s 8 8 + 18446744073709551616 * (hval s 8 16 + 18446744073709551616 * hval s 8 24)) := by
    have e1 := hval_add s 8 24 0
    have e2 := hval_add s 8 16 8
    have e3 := hval_add s 8 8 16
    simp only [Nat.reduceAdd, Int.reducePow] at e1 e2 e3
    rw [e1, e2, e3]
  obtain ⟨a0, a1⟩ := q 0 (by omega)
  obtain ⟨b0, b1⟩ := q 1 (by omega)
  obtain ⟨c0, c1⟩ := q 2 (by omega)
  obtain ⟨d0, d1⟩ := q 3 (by omega)
  refine (limbs_of a1 b1 c1 d1 ?_).symm
  rw [a0, b0, c0, d0]
  exact e

def backL (a : Nat → Int) : List Int := tabL (fun j => wr .u8 (ishr .u64 (a (j / 8)) ((8 * (j % 8) : Nat) : Int))) 32 0

theorem ishr8 (x : Int) (k : Nat) (hk : k ≤ 64) : ishr .u64 x (k : Int) = x / 2 ^ k := by
  unfold ishr
  have : min ((k : Int).toNat) IntKind.u64.bits = k := by simp [IntKind.bits]; omega
  rw [this]
  exact Int.fdiv_eq_ediv_of_nonneg _ (Int.le_of_lt (Int.pow_pos (by decide)))
theorem byte_word {x : Int} (k : Nat) (hk : k < 8) : wr .u8 (ishr .u64 x ((8 * k : Nat) : Int)) = x / 2 ^ (8 * k) % 256 := by
  rw [wr8, ishr8 x (8 * k) (by omega)]

theorem back_law {a : Nat → Int} (h : inU4 a = true) : backL a = byL 32 (val4 a) := by
  have hr := inU4_t h
  have word : ∀ x : Int, 0 ≤ x ∧ x < 18446744073709551616 → x / 2 ^ (8 * 0) % 256 + 256 * (x / 2 ^ (8 * 1) % 256 + 256 * (x / 2 ^ (8 * 2) % 256 + 256 * (x / 2 ^ (8 * 3) % 256 + 256 * (x / 2 ^ (8 * 4) % 256 + 256 * (x / 2 ^ (8 * 5) % 256 + 256 * (x / 2 ^ (8 * 6) % 256 + 256 * (x / 2 ^ (8 * 7) % 256))))))) = x := by
    intro x hx
    simp only [Nat.reduceMul, Int.reducePow]
    omega
  have all : ∀ (n j : Nat), allB (tabL (fun j => wr .u8 (ishr .u64 (a (j / 8)) ((8 * (j % 8) : Nat) : Int))) n j) := by
    intro n
    induction n with
    | zero => intro j; trivial
    | succ n ih => intro j; exact ⟨by dsimp only; rw [wr8]; omega, ih (j + 1)⟩
  have e : horner (backL a) = val4 a := by
    have w0 := word (a 0) hr.1
    have w1 := word (a 1) hr.2.1
    have w2 := word (a 2) hr.2.2.1
    have w3 := word (a 3) hr.2.2.2
    unfold backL
    simp only [tabL, horner, Nat.reduceAdd, Nat.reduceDiv, Nat.reduceMod, Nat.zero_add, Nat.zero_div, Nat.zero_mod]
    rw [byte_word 0 (by omega), byte_word 1 (by omega), byte_word 2 (by omega), byte_word 3 (by omega), byte_word 4 (by omega), byte_word 5 (by omega), byte_word 6 (by omega), byte_word 7 (by omega),
      byte_word 0 (by omega), byte_word 1 (by omega), byte_word 2 (by omega), byte_word 3 (by omega), byte_word 4 (by omega), byte_word 5 (by omega), byte_word 6 (by omega), byte_word 7 (by omega),
      byte_word 0 (by omega), byte_word 1 (by omega), byte_word 2 (by omega), byte_word 3 (by omega), byte_word 4 (by omega), byte_word 5 (by omega), byte_word 6 (by omega), byte_word 7 (by omega),
      byte_word 0 (by omega), byte_word 1 (by omega), byte_word 2 (by omega), byte_word 3 (by omega), byte_word 4 (by omega), byte_word 5 (by omega), byte_word 6 (by omega), byte_word 7 (by omega)]
    simp only [val4]
    omega
  have := byL_horner (backL a) (all 32 0)
  rw [e] at this
  exact this.symm

/-- lowered, n times -/
def lowN : Nat → Int → Int
  | 0, n => n
  | k + 1, n => low (lowN k n)
theorem lowN_law : ∀ (k : Nat) (n : Int), 0 ≤ n → n < 16 * ordL → 0 ≤ lowN k n ∧ lowN k n ≤ n ∧ lowN k n % ordL = n % ordL ∧ (lowN k n < ordL ∨ lowN k n = n - k * ordL)
  | 0, n, h0, h1 => by simp [lowN]; omega
  | k + 1, n, h0, h1 => by
    obtain ⟨a, b, c, d⟩ := lowN_law k n h0 h1
    simp only [lowN, low]
    split
    · rename_i h; exact ⟨a, b, c, .inl h⟩
    · rename_i h
      refine ⟨by omega, by unfold ordL at *; omega, by rw [← c, Int.sub_emod_right], .inr ?_⟩
      rcases d with d | d
      · omega
      · rw [d]; push_cast; rw [Int.add_mul]; omega
theorem low16 {n : Int} (h0 : 0 ≤ n) (h1 : n < 115792089237316195423570985008687907853269984665640564039457584007913129639936) : lowN 16 n = n % ordL := by
  obtain ⟨a, b, c, d⟩ := lowN_law 16 n h0 (by unfold ordL; omega)
  have hlt : lowN 16 n < ordL := by
    rcases d with d | d
    · exact d
    · rw [d]; unfold ordL; push_cast; omega
  rw [← c, Int.emod_eq_of_lt a hlt]

def wl (s : Nat → Int) : Nat → Int
  | 0 => hval s 32 0
  | k + 1 => low (val4 (limbs4 (wl s k)))
theorem wl_law {s : Nat → Int} (h : areB s 32 0 = true) : ∀ k, wl s k = lowN k (hval s 32 0) ∧ 0 ≤ wl s k ∧ wl s k < 115792089237316195423570985008687907853269984665640564039457584007913129639936
  | 0 => ⟨rfl, by have := hval_range h; exact this⟩
  | k + 1 => by
    obtain ⟨a, b, c⟩ := wl_law h k
    have hl := low_range b
    simp only [wl, lowN]
    rw [val4_limbs b c, ← a]
    exact ⟨rfl, hl.1, by omega⟩
theorem wl16 {s : Nat → Int} (h : areB s 32 0 = true) : wl s 16 = hval s 32 0 % ordL := by
  have hr := hval_range h
  rw [(wl_law h 16).1, low16 hr.1 hr.2]

theorem eqN_zero {n : Int} (h0 : 0 ≤ n) (h1 : n < 115792089237316195423570985008687907853269984665640564039457584007913129639936) : eqN 4 (limbs4 n) (fun _ => 0) = decide (n = 0) := by
  unfold eqN limbs4
  rw [show List.range 4 = [0, 1, 2, 3] from rfl]
  simp only [List.all_cons, List.all_nil, lf, Bool.and_true]
  rw [Bool.eq_iff_iff]
  simp only [Bool.and_eq_true, beq_iff_eq, decide_eq_true_eq]
  omega
theorem modL_range (x : Int) : 0 ≤ x % ordL ∧ x % ordL < ordL ∧ ordL < 115792089237316195423570985008687907853269984665640564039457584007913129639936 := by
  unfold ordL; omega
theorem low_add (x y : Int) : low ((x % ordL + y % ordL) % 115792089237316195423570985008687907853269984665640564039457584007913129639936) = (x + y) % ordL := by
  unfold low ordL
  split <;> omega
end Go.AM

namespace Go.AM

theorem iand_mask {x : Int} (hx : 0 ≤ x ∧ x < 18446744073709551616) : iand .u64 x 4294967295 = x % 4294967296 := by
  obtain ⟨X, rfl⟩ := Int.eq_ofNat_of_zero_le hx.1
  have hX : X < 2 ^ 64 := by omega
  have key : ∀ Z : Nat, Z < 2 ^ 64 → (((Z : Int) % ((2 ^ IntKind.u64.bits : Nat) : Int)).toNat) = Z := fun Z hZ => by
    rw [show (2 ^ IntKind.u64.bits : Nat) = 18446744073709551616 from rfl]; omega
  unfold iand
  rw [show IntKind.u64.wrap = wr .u64 from rfl, wr64, BitVec.toNat_and, BitVec.toNat_ofInt, BitVec.toNat_ofInt, key X hX, show (4294967295 : Int) = ((4294967295 : Nat) : Int) from rfl, key 4294967295 (by decide),
    show (4294967295 : Nat) = 2 ^ 32 - 1 from rfl, Nat.and_two_pow_sub_one_eq_mod]
  omega
theorem ishr32 {x : Int} : ishr .u64 x 32 = x / 4294967296 := ishr8 x 32 (by omega)

def mHi (x y : Int) : Int :=
  let x0 := iand .u64 x 4294967295
  let x1 := ishr .u64 x 32
  let y0 := iand .u64 y 4294967295
  let y1 := ishr .u64 y 32
  let w0 := wr .u64 (x0 * y0)
  let t := wr .u64 (wr .u64 (x1 * y0) + ishr .u64 w0 32)
  wr .u64 (wr .u64 (wr .u64 (x1 * y1) + ishr .u64 t 32) + ishr .u64 (wr .u64 (iand .u64 t 4294967295 + wr .u64 (x0 * y1))) 32)

theorem mul_bound {a b : Int} (ha : 0 ≤ a ∧ a < 4294967296) (hb : 0 ≤ b ∧ b < 4294967296) : 0 ≤ a * b ∧ a * b ≤ 18446744065119617025 := by
  refine ⟨Int.mul_nonneg ha.1 hb.1, ?_⟩
  have h1 : a * b ≤ 4294967295 * b := Int.mul_le_mul_of_nonneg_right (by omega) hb.1
  omega

theorem mHi_law {x y : Int} (hx : 0 ≤ x ∧ x < 18446744073709551616) (hy : 0 ≤ y ∧ y < 18446744073709551616) : mHi x y = x * y / 18446744073709551616 := by
  unfold mHi
  simp only [iand_mask hx, iand_mask hy, ishr32]
  have ex : x = x / 4294967296 * 4294967296 + x % 4294967296 := by omega
  have ey : y = y / 4294967296 * 4294967296 + y % 4294967296 := by omega
  have hxy : x * y = (x / 4294967296) * (y / 4294967296) * 18446744073709551616 + ((x / 4294967296) * (y % 4294967296) + (x % 4294967296) * (y / 4294967296)) * 4294967296 + (x % 4294967296) * (y % 4294967296) := by
    generalize x / 4294967296 = x1 at *
    generalize x % 4294967296 = x0 at *
    generalize y / 4294967296 = y1 at *
    generalize y % 4294967296 = y0 at *
    subst ex ey
    grind
  have b11 := mul_bound (a := x / 4294967296) (b := y / 4294967296) (by omega) (by omega)
  have b10 := mul_bound (a := x / 4294967296) (b := y % 4294967296) (by omega) (by omega)
  have b01 := mul_bound (a := x % 4294967296) (b := y / 4294967296) (by omega) (by omega)
  have b00 := mul_bound (a := x % 4294967296) (b := y % 4294967296) (by omega) (by omega)
  rw [hxy]
  generalize (x / 4294967296) * (y / 4294967296) = p11 at *
  generalize (x / 4294967296) * (y % 4294967296) = p10 at *
  generalize (x % 4294967296) * (y / 4294967296) = p01 at *
  generalize (x % 4294967296) * (y % 4294967296) = p00 at *
  rw [iand_mask (by rw [wr64]; omega)]
  simp only [wr64]
  omega

theorem mul_bound64 {a b : Int} (ha : 0 ≤ a ∧ a < 18446744073709551616) (hb : 0 ≤ b ∧ b < 18446744073709551616) : 0 ≤ a * b ∧ a * b ≤ 340282366920938463426481119284349108225 := by
  refine ⟨Int.mul_nonneg ha.1 hb.1, ?_⟩
  have h1 : a * b ≤ 18446744073709551615 * b := Int.mul_le_mul_of_nonneg_right (by omega) hb.1
  omega
theorem addLo_range (x y : Int) (b : Bool) : 0 ≤ addLo x y b ∧ addLo x y b < 18446744073709551616 := by unfold addLo; omega
theorem inU_addLo (x y : Int) (b : Bool) : inU (addLo x y b) = true := inU_mod _
theorem muladd_law {a b x c : Int} (ha : 0 ≤ a ∧ a < 18446744073709551616) (hb : 0 ≤ b ∧ b < 18446744073709551616) (hx : 0 ≤ x ∧ x < 18446744073709551616) (hc : 0 ≤ c ∧ c < 18446744073709551616) :
    wr .u64 (wr .u64 (a * b / 18446744073709551616 + b2i (addC (a * b % 18446744073709551616) x false)) + b2i (addC (addLo (a * b % 18446744073709551616) x false) c false)) = (a * b + x + c) / 18446744073709551616 ∧
    addLo (addLo (a * b % 18446744073709551616) x false) c false = (a * b + x + c) % 18446744073709551616 := by
  have hp := mul_bound64 ha hb
  generalize a * b = p at *
  have s1 := add_step (x := p % 18446744073709551616) (y := x) false (by omega) hx
  have s2 := add_step (x := addLo (p % 18446744073709551616) x false) (y := c) false s1.2 hc
  have r1 := b2i_range (addC (p % 18446744073709551616) x false)
  have r2 := b2i_range (addC (addLo (p % 18446744073709551616) x false) c false)
  rw [show b2i false = 0 from rfl] at s1 s2
  simp only [wr64]
  generalize addLo (addLo (p % 18446744073709551616) x false) c false = l2 at *
  generalize b2i (addC (addLo (p % 18446744073709551616) x false) c false) = c2 at *
  generalize addLo (p % 18446744073709551616) x false = l1 at *
  generalize b2i (addC (p % 18446744073709551616) x false) = c1 at *
  omega
end Go.AM

namespace Go.AM

def val5 (t : Nat → Int) : Int := t 0 + 18446744073709551616 * (t 1 + 18446744073709551616 * (t 2 + 18446744073709551616 * (t 3 + 18446744073709551616 * t 4)))
def iter (a : Int) (b t : Nat → Int) : List Int :=
  let l := limbs4 ordL
  let v0 := a * b 0 + t 0 + 0
  let v1 := a * b 1 + t 1 + v0 / 18446744073709551616
  let v2 := a * b 2 + t 2 + v1 / 18446744073709551616
  let v3 := a * b 3 + t 3 + v2 / 18446744073709551616
  let t4 := addLo (t 4) (v3 / 18446744073709551616) false
  let t5 := b2i (addC (t 4) (v3 / 18446744073709551616) false)
  let m := wr .u64 ((v0 % 18446744073709551616) * 15183074304973897243)
  let w0 := m * l 0 + v0 % 18446744073709551616 + 0
  let w1 := m * l 1 + v1 % 18446744073709551616 + w0 / 18446744073709551616
  let w2 := m * l 2 + v2 % 18446744073709551616 + w1 / 18446744073709551616
  let w3 := m * l 3 + v3 % 18446744073709551616 + w2 / 18446744073709551616
  [w1 % 18446744073709551616, w2 % 18446744073709551616, w3 % 18446744073709551616, addLo t4 (w3 / 18446744073709551616) false, wr .u64 (t5 + b2i (addC t4 (w3 / 18446744073709551616) false)), t5]

def inU5 (t : Nat → Int) : Bool := inU (t 0) && (inU (t 1) && (inU (t 2) && (inU (t 3) && inU (t 4))))
theorem inU5_t {a : Nat → Int} (h : inU5 a = true) : (0 ≤ a 0 ∧ a 0 < 18446744073709551616) ∧ (0 ≤ a 1 ∧ a 1 < 18446744073709551616) ∧ (0 ≤ a 2 ∧ a 2 < 18446744073709551616) ∧ (0 ≤ a 3 ∧ a 3 < 18446744073709551616) ∧ (0 ≤ a 4 ∧ a 4 < 18446744073709551616) := by
  simp only [inU5, Bool.and_eq_true] at h
  exact ⟨inU_t h.1, inU_t h.2.1, inU_t h.2.2.1, inU_t h.2.2.2.1, inU_t h.2.2.2.2⟩

theorem inU_of {x : Int} (h : 0 ≤ x ∧ x < 18446744073709551616) : inU x = true := by simp [inU, h.1, h.2]
theorem wr_range (x : Int) : 0 ≤ wr .u64 x ∧ wr .u64 x < 18446744073709551616 := by rw [wr64]; omega

/-- the division's numbers -/
theorem split64 (v : Int) : ∃ c r, v / 18446744073709551616 = c ∧ v % 18446744073709551616 = r ∧ v = 18446744073709551616 * c + r ∧ 0 ≤ r ∧ r < 18446744073709551616 := ⟨_, _, rfl, rfl, by omega, by omega, by omega⟩

theorem iter_law {a : Int} {b t : Nat → Int} (ha : 0 ≤ a ∧ a < 18446744073709551616) (hb : inU4 b = true) (ht : inU5 t = true) :
    ∃ m, 0 ≤ m ∧ m < 18446744073709551616 ∧ 18446744073709551616 * val5 (lf (iter a b t)) = val5 t + a * val4 b + m * ordL ∧ inU5 (lf (iter a b t)) = true := by
  have hb := inU4_t hb
  have ht := inU5_t ht
  have p0 := mul_bound64 ha hb.1
  have p1 := mul_bound64 ha hb.2.1
  have p2 := mul_bound64 ha hb.2.2.1
  have p3 := mul_bound64 ha hb.2.2.2
  have hB : a * val4 b = a * b 0 + 18446744073709551616 * (a * b 1 + 18446744073709551616 * (a * b 2 + 18446744073709551616 * (a * b 3))) := by
    simp only [val4]; grind
  rw [hB]
  have l0 : limbs4 ordL 0 = 6346243789798364141 := by decide
  have l1 : limbs4 ordL 1 = 1503914060200516822 := by decide
  have l2 : limbs4 ordL 2 = 0 := by decide
  have l3 : limbs4 ordL 3 = 1152921504606846976 := by decide
  unfold iter
  simp only [l0, l1, l2, l3]
  generalize a * b 0 = q0 at *
  generalize a * b 1 = q1 at *
  generalize a * b 2 = q2 at *
  generalize a * b 3 = q3 at *
  obtain ⟨c0, r0, e0, f0, g0, h0⟩ := split64 (q0 + t 0 + 0)
  rw [e0, f0]
  obtain ⟨c1, r1, e1, f1, g1, h1⟩ := split64 (q1 + t 1 + c0)
  rw [e1, f1]
  obtain ⟨c2, r2, e2, f2, g2, h2⟩ := split64 (q2 + t 2 + c1)
  rw [e2, f2]
  obtain ⟨c3, r3, e3, f3, g3, h3⟩ := split64 (q3 + t 3 + c2)
  rw [e3, f3]
  have hc3 : 0 ≤ c3 ∧ c3 < 18446744073709551616 := by omega
  have s4 := add_step (x := t 4) (y := c3) false ht.2.2.2.2 hc3
  have b4 := b2i_range (addC (t 4) c3 false)
  rw [show b2i false = 0 from rfl] at s4
  generalize addLo (t 4) c3 false = t4 at *
  generalize b2i (addC (t 4) c3 false) = t5 at *
  have hm := wr_range (r0 * 15183074304973897243)
  have hm2 : wr .u64 (r0 * 15183074304973897243) = r0 * 15183074304973897243 % 18446744073709551616 := wr64 _
  generalize wr .u64 (r0 * 15183074304973897243) = m at *
  refine ⟨m, hm.1, hm.2, ?_⟩
  obtain ⟨d0, x0, e0', f0', g0', h0'⟩ := split64 (m * 6346243789798364141 + r0 + 0)
  have hx0 : x0 = 0 := by omega
  rw [e0']
  obtain ⟨d1, x1, e1', f1', g1', h1'⟩ := split64 (m * 1503914060200516822 + r1 + d0)
  rw [e1', f1']
  obtain ⟨d2, x2, e2', f2', g2', h2'⟩ := split64 (m * 0 + r2 + d1)
  rw [e2', f2']
  obtain ⟨d3, x3, e3', f3', g3', h3'⟩ := split64 (m * 1152921504606846976 + r3 + d2)
  rw [e3', f3']
  have hd3 : 0 ≤ d3 ∧ d3 < 18446744073709551616 := by omega
  have s5 := add_step (x := t4) (y := d3) false s4.2 hd3
  have b5 := b2i_range (addC t4 d3 false)
  rw [show b2i false = 0 from rfl] at s5
  generalize addLo t4 d3 false = t3' at *
  generalize b2i (addC t4 d3 false) = o5 at *
  have h45 : wr .u64 (t5 + o5) = t5 + o5 := by rw [wr64]; omega
  rw [h45]
  constructor
  · simp only [val5, lf, ordL]
    omega
  · have hw := inU_of (x := t5 + o5) (by omega)
    simp only [inU5, lf, inU_of h1', inU_of h2', inU_of h3', inU_of s5.2, hw, Bool.and_self]

def tK (a b : Nat → Int) : Nat → List Int
  | 0 => [0, 0, 0, 0, 0, 0]
  | k + 1 => iter (a k) b (lf (tK a b k))
/-- 1 / 2^256 -/
def rInv : Int := 4458503529701987551646482192314240623644693141688353256590997718326214331684
theorem rInv_law : 115792089237316195423570985008687907853269984665640564039457584007913129639936 * rInv = 1 + 71336056475231800826343715077027849978041630819377026201054086228062141447707 * ordL := by decide

theorem tK_law {a b : Nat → Int} (ha : inU4 a = true) (hb : inU4 b = true) :
    ∃ m, 0 ≤ m ∧ m < 115792089237316195423570985008687907853269984665640564039457584007913129639936 ∧
      115792089237316195423570985008687907853269984665640564039457584007913129639936 * val5 (lf (tK a b 4)) = val4 a * val4 b + m * ordL ∧ inU5 (lf (tK a b 4)) = true := by
  have h := inU4_t ha
  obtain ⟨m0, a0, b0, e0, i0⟩ := iter_law (t := lf (tK a b 0)) h.1 hb rfl
  obtain ⟨m1, a1, b1, e1, i1⟩ := iter_law (t := lf (tK a b 1)) h.2.1 hb i0
  obtain ⟨m2, a2, b2, e2, i2⟩ := iter_law (t := lf (tK a b 2)) h.2.2.1 hb i1
  obtain ⟨m3, a3, b3, e3, i3⟩ := iter_law (t := lf (tK a b 3)) h.2.2.2 hb i2
  change 18446744073709551616 * val5 (lf (tK a b 1)) = _ at e0
  change 18446744073709551616 * val5 (lf (tK a b 2)) = _ at e1
  change 18446744073709551616 * val5 (lf (tK a b 3)) = _ at e2
  change 18446744073709551616 * val5 (lf (tK a b 4)) = _ at e3
  have z : val5 (lf (tK a b 0)) = 0 := rfl
  rw [z] at e0
  refine ⟨m0 + 18446744073709551616 * (m1 + 18446744073709551616 * (m2 + 18446744073709551616 * m3)), by omega, by omega, ?_, i3⟩
  have hA : val4 a * val4 b = a 0 * val4 b + 18446744073709551616 * (a 1 * val4 b + 18446744073709551616 * (a 2 * val4 b + 18446744073709551616 * (a 3 * val4 b))) := by
    rw [show val4 a = a 0 + 18446744073709551616 * (a 1 + 18446744073709551616 * (a 2 + 18446744073709551616 * a 3)) from rfl]
    generalize val4 b = B
    grind
  rw [hA]
  generalize a 0 * val4 b = q0 at *
  generalize a 1 * val4 b = q1 at *
  generalize a 2 * val4 b = q2 at *
  generalize a 3 * val4 b = q3 at *
  unfold ordL at *
  omega

theorem mont_law {a b : Nat → Int} (ha : inU4 a = true) (hb : inU4 b = true) (hlt : val4 a * val4 b < ordL * 115792089237316195423570985008687907853269984665640564039457584007913129639936) :
    low (val4 (lf (tK a b 4))) = val4 a * val4 b * rInv % ordL := by
  obtain ⟨m, hm0, hm1, e, hU⟩ := tK_law ha hb
  have hu := inU5_t hU
  have hA := val4_range ha
  have hB := val4_range hb
  have hp : 0 ≤ val4 a * val4 b := Int.mul_nonneg hA.1 hB.1
  have h5 : val5 (lf (tK a b 4)) = val4 (lf (tK a b 4)) + 115792089237316195423570985008687907853269984665640564039457584007913129639936 * lf (tK a b 4) 4 := by
    simp only [val5, val4]; omega
  have h4 : 0 ≤ val4 (lf (tK a b 4)) := by simp only [val4]; omega
  generalize val4 (lf (tK a b 4)) = t at *
  generalize val5 (lf (tK a b 4)) = t5 at *
  generalize lf (tK a b 4) 4 = top at *
  generalize hq : val4 a * val4 b = q at *
  have hb5 : t5 < 2 * ordL := by unfold ordL at *; omega
  have htop : top = 0 := by unfold ordL at *; omega
  subst htop
  have ht : t5 = t := by omega
  subst ht
  have hlow : 0 ≤ low t5 ∧ low t5 < ordL ∧ ∃ k, low t5 = t5 - k * ordL := by
    unfold low
    split
    · rename_i h; exact ⟨h4, h, 0, by omega⟩
    · rename_i h; exact ⟨by omega, by omega, 1, by omega⟩
  obtain ⟨l0, l1, k, hk⟩ := hlow
  have key : q * rInv = low t5 + ordL * (low t5 * 71336056475231800826343715077027849978041630819377026201054086228062141447707 + k * 115792089237316195423570985008687907853269984665640564039457584007913129639936 * rInv - m * rInv) := by
    have e2 := rInv_law
    rw [hk]
    generalize rInv = ri at *
    generalize ordL = L at *
    grind
  rw [key, Int.add_mul_emod_self_left, Int.emod_eq_of_lt l0 l1]

theorem rInv2 (q : Int) : (q * rInv % ordL) * 1627715501170711445284395025044413883736156588369414752970002579683115011841 * rInv % ordL = q % ordL := by
  have h1 : rInv * (1627715501170711445284395025044413883736156588369414752970002579683115011841 * rInv) % ordL = 1 := by decide
  have e : ∀ x y : Int, (x % ordL * y) % ordL = (x * y) % ordL := fun x y => by rw [Int.mul_emod, Int.emod_emod_of_dvd _ (Int.dvd_refl _), ← Int.mul_emod]
  rw [Int.mul_assoc, e, Int.mul_assoc, Int.mul_emod, h1, Int.mul_one, Int.emod_emod_of_dvd _ (Int.dvd_refl _)]

/-- what a round takes for granted -/
def iterCk (a : Int) (b t : Nat → Int) : List Bool :=
  let l := limbs4 ordL
  let v0 := a * b 0 + t 0 + 0
  let v1 := a * b 1 + t 1 + v0 / 18446744073709551616
  let v2 := a * b 2 + t 2 + v1 / 18446744073709551616
  let v3 := a * b 3 + t 3 + v2 / 18446744073709551616
  let t4 := addLo (t 4) (v3 / 18446744073709551616) false
  let m := wr .u64 ((v0 % 18446744073709551616) * 15183074304973897243)
  let w0 := m * l 0 + v0 % 18446744073709551616 + 0
  let w1 := m * l 1 + v1 % 18446744073709551616 + w0 / 18446744073709551616
  let w2 := m * l 2 + v2 % 18446744073709551616 + w1 / 18446744073709551616
  let w3 := m * l 3 + v3 % 18446744073709551616 + w2 / 18446744073709551616
  [inU a && (inU (b 0) && (inU (t 0) && inU 0)), inU a && (inU (b 1) && (inU (t 1) && inU (v0 / 18446744073709551616))), inU a && (inU (b 2) && (inU (t 2) && inU (v1 / 18446744073709551616))),
    inU a && (inU (b 3) && (inU (t 3) && inU (v2 / 18446744073709551616))), inU (t 4) && inU (v3 / 18446744073709551616),
    inU m && (inU (l 0) && (inU (v0 % 18446744073709551616) && inU 0)), inU m && (inU (l 1) && (inU (v1 % 18446744073709551616) && inU (w0 / 18446744073709551616))),
    inU m && (inU (l 2) && (inU (v2 % 18446744073709551616) && inU (w1 / 18446744073709551616))), inU m && (inU (l 3) && (inU (v3 % 18446744073709551616) && inU (w2 / 18446744073709551616))),
    inU t4 && inU (w3 / 18446744073709551616)]

theorem div_U {p x c : Int} (hp : 0 ≤ p ∧ p ≤ 340282366920938463426481119284349108225) (hx : 0 ≤ x ∧ x < 18446744073709551616) (hc : 0 ≤ c ∧ c < 18446744073709551616) : 0 ≤ (p + x + c) / 18446744073709551616 ∧ (p + x + c) / 18446744073709551616 < 18446744073709551616 := by omega
theorem mod_U (x : Int) : 0 ≤ x % 18446744073709551616 ∧ x % 18446744073709551616 < 18446744073709551616 := by omega

theorem iterCk_law {a : Int} {b t : Nat → Int} (ha : 0 ≤ a ∧ a < 18446744073709551616) (hb : inU4 b = true) (ht : inU5 t = true) : ckL (iterCk a b t) = true := by
  have hb := inU4_t hb
  have ht := inU5_t ht
  have z : (0 : Int) ≤ 0 ∧ (0 : Int) < 18446744073709551616 := by omega
  have hl : ∀ i, i < 4 → 0 ≤ limbs4 ordL i ∧ limbs4 ordL i < 18446744073709551616 := fun i hi => by
    match i, hi with
    | 0, _ => decide
    | 1, _ => decide
    | 2, _ => decide
    | 3, _ => decide
  have hm := wr_range (((a * b 0 + t 0 + 0) % 18446744073709551616) * 15183074304973897243)
  have c1 := div_U (mul_bound64 ha hb.1) ht.1 z
  have c2 := div_U (mul_bound64 ha hb.2.1) ht.2.1 c1
  have c3 := div_U (mul_bound64 ha hb.2.2.1) ht.2.2.1 c2
  have c4 := div_U (mul_bound64 ha hb.2.2.2) ht.2.2.2.1 c3
  have d1 := div_U (mul_bound64 hm (hl 0 (by omega))) (mod_U (a * b 0 + t 0 + 0)) z
  have d2 := div_U (mul_bound64 hm (hl 1 (by omega))) (mod_U (a * b 1 + t 1 + (a * b 0 + t 0 + 0) / 18446744073709551616)) d1
  have d3 := div_U (mul_bound64 hm (hl 2 (by omega))) (mod_U (a * b 2 + t 2 + (a * b 1 + t 1 + (a * b 0 + t 0 + 0) / 18446744073709551616) / 18446744073709551616)) d2
  have d4 := div_U (mul_bound64 hm (hl 3 (by omega))) (mod_U (a * b 3 + t 3 + (a * b 2 + t 2 + (a * b 1 + t 1 + (a * b 0 + t 0 + 0) / 18446744073709551616) / 18446744073709551616) / 18446744073709551616)) d3
  rw [ckL_t]
  intro x hx
  simp only [iterCk, List.mem_cons, List.not_mem_nil, or_false] at hx
  rcases hx with rfl | rfl | rfl | rfl | rfl | rfl | rfl | rfl | rfl | rfl
  · simp only [inU_of ha, inU_of hb.1, inU_of ht.1, inU_of z, Bool.and_self]
  · simp only [inU_of ha, inU_of hb.2.1, inU_of ht.2.1, inU_of c1, Bool.and_self]
  · simp only [inU_of ha, inU_of hb.2.2.1, inU_of ht.2.2.1, inU_of c2, Bool.and_self]
  · simp only [inU_of ha, inU_of hb.2.2.2, inU_of ht.2.2.2.1, inU_of c3, Bool.and_self]
  · simp only [inU_of ht.2.2.2.2, inU_of c4, Bool.and_self]
  · simp only [inU_of hm, inU_of (hl 0 (by omega)), inU_mod, inU_of z, Bool.and_self]
  · simp only [inU_of hm, inU_of (hl 1 (by omega)), inU_mod, inU_of d1, Bool.and_self]
  · simp only [inU_of hm, inU_of (hl 2 (by omega)), inU_mod, inU_of d2, Bool.and_self]
  · simp only [inU_of hm, inU_of (hl 3 (by omega)), inU_mod, inU_of d3, Bool.and_self]
  · simp only [inU_addLo, inU_of d4, Bool.and_self]
end Go.AM

namespace Go.AM
open Go

def W32 (x : Int) : Prop := 0 ≤ x ∧ x < 4294967296
def in32 (x : Int) : Bool := decide (0 ≤ x) && decide (x < 4294967296)
theorem in32_t {x : Int} (h : in32 x = true) : W32 x := by simpa [in32, W32] using h
theorem in32_of {x : Int} (h : W32 x) : in32 x = true := by simpa [in32, W32] using h
def val8 (a : Nat → Int) : Int :=
  a 0 + 4294967296 * (a 1 + 4294967296 * (a 2 + 4294967296 * (a 3 + 4294967296 * (a 4 + 4294967296 * (a 5 + 4294967296 * (a 6 + 4294967296 * a 7))))))
def dig (n : Int) : Nat → Int
  | 0 => n % 4294967296
  | k + 1 => dig (n / 4294967296) k
def limbs8 (n : Int) : Nat → Int := lf [dig n 0, dig n 1, dig n 2, dig n 3, dig n 4, dig n 5, dig n 6, dig n 7]
def inW8 (a : Nat → Int) : Bool := in32 (a 0) && (in32 (a 1) && (in32 (a 2) && (in32 (a 3) && (in32 (a 4) && (in32 (a 5) && (in32 (a 6) && in32 (a 7)))))))
def u8w (a : Nat → Int) : AV := .agg [.ints .u32 8 a]
def n8 (n : Int) : AV := u8w (limbs8 n)
theorem inW8_t {a : Nat → Int} (h : inW8 a = true) : W32 (a 0) ∧ W32 (a 1) ∧ W32 (a 2) ∧ W32 (a 3) ∧ W32 (a 4) ∧ W32 (a 5) ∧ W32 (a 6) ∧ W32 (a 7) := by
  simp only [inW8, Bool.and_eq_true] at h
  obtain ⟨h0, h1, h2, h3, h4, h5, h6, h7⟩ := h
  exact ⟨in32_t h0, in32_t h1, in32_t h2, in32_t h3, in32_t h4, in32_t h5, in32_t h6, in32_t h7⟩
theorem dig_W : ∀ (k : Nat) (n : Int), W32 (dig n k)
  | 0, n => by unfold dig W32; omega
  | k + 1, n => dig_W k _
theorem inW8_limbs (n : Int) : inW8 (limbs8 n) = true := by
  simp only [inW8, limbs8, lf, in32_of (dig_W _ n), Bool.and_self]
def R256 : Int := 115792089237316195423570985008687907853269984665640564039457584007913129639936
theorem dig_cons {a n : Int} (h : W32 a) (k : Nat) : dig (a + 4294967296 * n) 0 = a ∧ dig (a + 4294967296 * n) (k + 1) = dig n k := by
  unfold W32 at h
  refine ⟨by unfold dig; omega, ?_⟩
  show dig ((a + 4294967296 * n) / 4294967296) k = _
  rw [show (a + 4294967296 * n) / 4294967296 = n by omega]
theorem limbs8_of {a0 a1 a2 a3 a4 a5 a6 a7 n : Int} (h0 : W32 a0) (h1 : W32 a1) (h2 : W32 a2) (h3 : W32 a3) (h4 : W32 a4) (h5 : W32 a5) (h6 : W32 a6) (h7 : W32 a7)
    (hn : n = a0 + 4294967296 * (a1 + 4294967296 * (a2 + 4294967296 * (a3 + 4294967296 * (a4 + 4294967296 * (a5 + 4294967296 * (a6 + 4294967296 * a7))))))) : lf [a0, a1, a2, a3, a4, a5, a6, a7] = limbs8 n := by
  subst hn
  have e7 : dig a7 0 = a7 := by unfold dig; unfold W32 at h7; omega
  unfold limbs8
  rw [(dig_cons h0 0).1, (dig_cons h0 0).2, (dig_cons h0 1).2, (dig_cons h0 2).2, (dig_cons h0 3).2, (dig_cons h0 4).2, (dig_cons h0 5).2, (dig_cons h0 6).2]
  rw [(dig_cons h1 0).1, (dig_cons h1 0).2, (dig_cons h1 1).2, (dig_cons h1 2).2, (dig_cons h1 3).2, (dig_cons h1 4).2, (dig_cons h1 5).2]
  rw [(dig_cons h2 0).1, (dig_cons h2 0).2, (dig_cons h2 1).2, (dig_cons h2 2).2, (dig_cons h2 3).2, (dig_cons h2 4).2]
  rw [(dig_cons h3 0).1, (dig_cons h3 0).2, (dig_cons h3 1).2, (dig_cons h3 2).2, (dig_cons h3 3).2]
  rw [(dig_cons h4 0).1, (dig_cons h4 0).2, (dig_cons h4 1).2, (dig_cons h4 2).2]
  rw [(dig_cons h5 0).1, (dig_cons h5 0).2, (dig_cons h5 1).2]
  rw [(dig_cons h6 0).1, (dig_cons h6 0).2, e7]
theorem limbs8_self {a : Nat → Int} (h : inW8 a = true) : lf [a 0, a 1, a 2, a 3, a 4, a 5, a 6, a 7] = limbs8 (val8 a) := by
  obtain ⟨h0, h1, h2, h3, h4, h5, h6, h7⟩ := inW8_t h
  exact limbs8_of h0 h1 h2 h3 h4 h5 h6 h7 rfl
theorem val8_limbs {n : Int} (h0 : 0 ≤ n) (h1 : n < R256) : val8 (limbs8 n) = n := by
  have e : ∀ m : Int, m = m % 4294967296 + 4294967296 * (m / 4294967296) := fun m => by omega
  simp only [val8, limbs8, lf, dig]
  have d7 : n / 4294967296 / 4294967296 / 4294967296 / 4294967296 / 4294967296 / 4294967296 / 4294967296 % 4294967296 = n / 4294967296 / 4294967296 / 4294967296 / 4294967296 / 4294967296 / 4294967296 / 4294967296 := by
    unfold R256 at h1; omega
  rw [d7, ← e, ← e, ← e, ← e, ← e, ← e, ← e]
theorem val8_range {a : Nat → Int} (h : inW8 a = true) : 0 ≤ val8 a ∧ val8 a < R256 := by
  obtain ⟨h0, h1, h2, h3, h4, h5, h6, h7⟩ := inW8_t h
  unfold W32 at *; unfold val8 R256; omega

/-! twice -/
theorem wr32 (x : Int) : wr .u32 x = x % 4294967296 := by
  show IntKind.u32.wrap x = _
  rw [IntKind.wrap_u32]
theorem ior32 {x y : Int} (hx : W32 x) (hy : W32 y) : ior .u32 x y = ((x.toNat ||| y.toNat : Nat) : Int) := by
  have e : ∀ z : Int, W32 z → (BitVec.ofInt 32 z).toNat = z.toNat := fun z hz => by
    rw [BitVec.toNat_ofInt]
    have : (z % (2 ^ 32 : Nat)).toNat = z.toNat := by unfold W32 at hz; omega
    exact this
  show wr .u32 ((BitVec.ofInt 32 x ||| BitVec.ofInt 32 y).toNat : Int) = _
  rw [BitVec.toNat_or, e x hx, e y hy, wr32]
  have hlt : x.toNat ||| y.toNat < 2 ^ 32 := Nat.or_lt_two_pow (by unfold W32 at hx; omega) (by unfold W32 at hy; omega)
  omega
theorem or1 {a b : Int} (ha : W32 a) (hb : 0 ≤ b ∧ b ≤ 1) : ior .u32 (ishl .u32 a 1) b = 2 * (a % 2147483648) + b := by
  have e1 : ishl .u32 a 1 = a * 2 % 4294967296 := by
    show wr .u32 (a * 2 ^ (min (1 : Int).toNat 32)) = _
    rw [wr32]; rfl
  unfold W32 at ha
  rw [e1, ior32 ⟨by omega, by omega⟩ ⟨hb.1, by omega⟩]
  have e2 : (a * 2 % 4294967296).toNat = 2 ^ 1 * (a % 2147483648).toNat := by omega
  rw [e2, ← Nat.two_pow_add_eq_or_of_lt (i := 1) (b := b.toNat) (by omega)]
  omega
theorem shr31 (a : Int) : ishr .u32 a 31 = a / 2147483648 := by
  show a.fdiv (2 ^ (min (31 : Int).toNat 32)) = _
  rw [Int.fdiv_eq_ediv_of_nonneg _ (by decide)]; rfl
def twiceL (a : Nat → Int) (bit : Int) : List Int :=
  [ior .u32 (ishl .u32 (a 0) 1) bit, ior .u32 (ishl .u32 (a 1) 1) (ishr .u32 (a 0) 31), ior .u32 (ishl .u32 (a 2) 1) (ishr .u32 (a 1) 31), ior .u32 (ishl .u32 (a 3) 1) (ishr .u32 (a 2) 31),
   ior .u32 (ishl .u32 (a 4) 1) (ishr .u32 (a 3) 31), ior .u32 (ishl .u32 (a 5) 1) (ishr .u32 (a 4) 31), ior .u32 (ishl .u32 (a 6) 1) (ishr .u32 (a 5) 31), ior .u32 (ishl .u32 (a 7) 1) (ishr .u32 (a 6) 31)]
theorem twice_law {a : Nat → Int} {bit : Int} (h : inW8 a = true) (hb : 0 ≤ bit ∧ bit ≤ 1) (hl : val8 a < ordL) : lf (twiceL a bit) = limbs8 (2 * val8 a + bit) := by
  obtain ⟨h0, h1, h2, h3, h4, h5, h6, h7⟩ := inW8_t h
  have hs : ∀ x, W32 x → 0 ≤ x / 2147483648 ∧ x / 2147483648 ≤ 1 := fun x hx => by unfold W32 at hx; omega
  simp only [twiceL, shr31]
  rw [or1 h0 hb, or1 h1 (hs _ h0), or1 h2 (hs _ h1), or1 h3 (hs _ h2), or1 h4 (hs _ h3), or1 h5 (hs _ h4), or1 h6 (hs _ h5), or1 h7 (hs _ h6)]
  unfold val8 ordL at hl
  unfold W32 at *
  refine limbs8_of ?_ ?_ ?_ ?_ ?_ ?_ ?_ ?_ ?_
  case refine_9 => unfold val8; omega
  all_goals (unfold W32; omega)

/-! less -/
def dS (a b br : Int) : Int := wr .u64 (wr .u64 (wr .u64 a - wr .u64 b) - br)
theorem dS_law {a b br : Int} (ha : W32 a) (hb : W32 b) (hr : 0 ≤ br ∧ br ≤ 1) : ∃ c, 0 ≤ c ∧ c ≤ 1 ∧ ishr .u64 (dS a b br) 63 = c ∧ W32 (wr .u32 (dS a b br)) ∧ wr .u32 (dS a b br) = a - b - br + 4294967296 * c := by
  have e : ishr .u64 (dS a b br) 63 = dS a b br / 9223372036854775808 := ishr8 _ 63 (by omega)
  have e2 : dS a b br = (a - b - br) % 18446744073709551616 := by
    unfold dS; unfold W32 at *; rw [wr64, wr64, wr64, wr64]; omega
  rw [e, wr32, e2]
  unfold W32 at *
  by_cases h : a - b - br < 0
  · exact ⟨1, by omega, by omega, by omega, by omega, by omega⟩
  · exact ⟨0, by omega, by omega, by omega, by omega, by omega⟩
def minK (a b : Nat → Int) : Nat → Int
  | 0 => 0
  | k + 1 => ishr .u64 (dS (a k) (b k) (minK a b k)) 63
def minL (a b : Nat → Int) : List Int :=
  [wr .u32 (dS (a 0) (b 0) 0), wr .u32 (dS (a 1) (b 1) (minK a b 1)), wr .u32 (dS (a 2) (b 2) (minK a b 2)), wr .u32 (dS (a 3) (b 3) (minK a b 3)),
   wr .u32 (dS (a 4) (b 4) (minK a b 4)), wr .u32 (dS (a 5) (b 5) (minK a b 5)), wr .u32 (dS (a 6) (b 6) (minK a b 6)), wr .u32 (dS (a 7) (b 7) (minK a b 7))]
theorem min_law {a b : Nat → Int} (ha : inW8 a = true) (hb : inW8 b = true) (hle : val8 b ≤ val8 a) : lf (minL a b) = limbs8 (val8 a - val8 b) := by
  have ra := val8_range ha
  have rb := val8_range hb
  obtain ⟨a0, a1, a2, a3, a4, a5, a6, a7⟩ := inW8_t ha
  obtain ⟨b0, b1, b2, b3, b4, b5, b6, b7⟩ := inW8_t hb
  obtain ⟨c0, p0, q0, e0, w0, v0⟩ := dS_law a0 b0 (show 0 ≤ (0 : Int) ∧ (0 : Int) ≤ 1 by omega)
  have m1 : minK a b 1 = c0 := e0
  obtain ⟨c1, p1, q1, e1, w1, v1⟩ := dS_law a1 b1 ⟨p0, q0⟩
  have m2 : minK a b 2 = c1 := by show ishr .u64 (dS (a 1) (b 1) (minK a b 1)) 63 = c1; rw [m1]; exact e1
  obtain ⟨c2, p2, q2, e2, w2, v2⟩ := dS_law a2 b2 ⟨p1, q1⟩
  have m3 : minK a b 3 = c2 := by show ishr .u64 (dS (a 2) (b 2) (minK a b 2)) 63 = c2; rw [m2]; exact e2
  obtain ⟨c3, p3, q3, e3, w3, v3⟩ := dS_law a3 b3 ⟨p2, q2⟩
  have m4 : minK a b 4 = c3 := by show ishr .u64 (dS (a 3) (b 3) (minK a b 3)) 63 = c3; rw [m3]; exact e3
  obtain ⟨c4, p4, q4, e4, w4, v4⟩ := dS_law a4 b4 ⟨p3, q3⟩
  have m5 : minK a b 5 = c4 := by show ishr .u64 (dS (a 4) (b 4) (minK a b 4)) 63 = c4; rw [m4]; exact e4
  obtain ⟨c5, p5, q5, e5, w5, v5⟩ := dS_law a5 b5 ⟨p4, q4⟩
  have m6 : minK a b 6 = c5 := by show ishr .u64 (dS (a 5) (b 5) (minK a b 5)) 63 = c5; rw [m5]; exact e5
  obtain ⟨c6, p6, q6, e6, w6, v6⟩ := dS_law a6 b6 ⟨p5, q5⟩
  have m7 : minK a b 7 = c6 := by show ishr .u64 (dS (a 6) (b 6) (minK a b 6)) 63 = c6; rw [m6]; exact e6
  obtain ⟨c7, p7, q7, e7, w7, v7⟩ := dS_law a7 b7 ⟨p6, q6⟩
  simp only [minL, m1, m2, m3, m4, m5, m6, m7]
  refine limbs8_of w0 w1 w2 w3 w4 w5 w6 w7 ?_
  generalize wr .u32 (dS (a 0) (b 0) 0) = x0 at *
  generalize wr .u32 (dS (a 1) (b 1) c0) = x1 at *
  generalize wr .u32 (dS (a 2) (b 2) c1) = x2 at *
  generalize wr .u32 (dS (a 3) (b 3) c2) = x3 at *
  generalize wr .u32 (dS (a 4) (b 4) c3) = x4 at *
  generalize wr .u32 (dS (a 5) (b 5) c4) = x5 at *
  generalize wr .u32 (dS (a 6) (b 6) c5) = x6 at *
  generalize wr .u32 (dS (a 7) (b 7) c6) = x7 at *
  clear e0 e1 e2 e3 e4 e5 e6 e7 m1 m2 m3 m4 m5 m6 m7
  have rx : val8 (lf [x0, x1, x2, x3, x4, x5, x6, x7]) < R256 := (val8_range (a := lf [x0, x1, x2, x3, x4, x5, x6, x7]) (by simp only [inW8, lf, in32_of w0, in32_of w1, in32_of w2, in32_of w3, in32_of w4, in32_of w5, in32_of w6, in32_of w7, Bool.and_self])).2
  have e : val8 (lf [x0, x1, x2, x3, x4, x5, x6, x7]) = val8 a - val8 b + R256 * c7 := by
    simp only [val8, lf, R256]
    clear w0 w1 w2 w3 w4 w5 w6 w7 a0 a1 a2 a3 a4 a5 a6 a7 b0 b1 b2 b3 b4 b5 b6 b7 p0 p1 p2 p3 p4 p5 p6 p7 q0 q1 q2 q3 q4 q5 q6 q7 rx ra rb hle ha hb
    subst v0 v1 v2 v3 v4 v5 v6 v7
    omega
  have h7 : c7 = 0 := by
    generalize val8 (lf [x0, x1, x2, x3, x4, x5, x6, x7]) = X at *
    generalize val8 a = A at *
    generalize val8 b = B at *
    clear v0 v1 v2 v3 v4 v5 v6 v7 w0 w1 w2 w3 w4 w5 w6 w7 a0 a1 a2 a3 a4 a5 a6 a7 b0 b1 b2 b3 b4 b5 b6 b7 p0 p1 p2 p3 p4 p5 p6 q0 q1 q2 q3 q4 q5 q6 ha hb
    unfold R256 at *
    omega
  rw [h7, Int.mul_zero, Int.add_zero] at e
  rw [← e]; rfl

/-! which is the lesser: by the first digit from the top that is another -/
/-- how many digits from the top are alike -/
def alike (a b : Nat → Int) : Nat → Nat → Nat
  | 0, k => k
  | n + 1, k => if a (7 - k) = b (7 - k) then alike a b n (k + 1) else k
theorem alike_spec (a b : Nat → Int) : ∀ (n k : Nat), k ≤ alike a b n k ∧ alike a b n k ≤ k + n ∧ (∀ j, k ≤ j → j < alike a b n k → a (7 - j) = b (7 - j)) ∧ (alike a b n k < k + n → a (7 - alike a b n k) ≠ b (7 - alike a b n k))
  | 0, k => ⟨Nat.le_refl _, Nat.le_refl _, fun j h1 h2 => by simp only [alike] at h2; omega, fun h => by simp only [alike] at h; omega⟩
  | n + 1, k => by
    unfold alike
    split
    · rename_i e
      obtain ⟨h1, h2, h3, h4⟩ := alike_spec a b n (k + 1)
      refine ⟨by omega, by omega, fun j hj1 hj2 => ?_, fun h => h4 (by omega)⟩
      by_cases q : j = k
      · rw [q]; exact e
      · exact h3 j (by omega) hj2
    · rename_i e
      exact ⟨Nat.le_refl _, by omega, fun j h1 h2 => by omega, fun _ => e⟩
/-- the number of the lowest digits -/
def lowV (a : Nat → Int) : Nat → Int
  | 0 => 0
  | n + 1 => lowV a n + 4294967296 ^ n * a n
theorem lowV_range {a : Nat → Int} : ∀ {n : Nat}, (∀ j, j < n → W32 (a j)) → 0 ≤ lowV a n ∧ lowV a n < 4294967296 ^ n
  | 0, _ => by simp [lowV]
  | n + 1, h => by
    obtain ⟨h1, h2⟩ := lowV_range (n := n) fun j hj => h j (by omega)
    obtain ⟨q1, q2⟩ := h n (by omega)
    have hp : (0 : Int) < 4294967296 ^ n := Int.pow_pos (by decide)
    have hm : 4294967296 ^ n * a n ≤ 4294967296 ^ n * 4294967295 := Int.mul_le_mul_of_nonneg_left (by omega) (Int.le_of_lt hp)
    have hm0 : 0 ≤ 4294967296 ^ n * a n := Int.mul_nonneg (Int.le_of_lt hp) q1
    unfold lowV
    rw [Int.pow_succ]
    omega
theorem val8_low (a : Nat → Int) : val8 a = lowV a 8 := by
  simp only [val8, lowV]; omega
theorem low_lt {a b : Nat → Int} : ∀ {n : Nat}, (∀ j, j < n + 1 → W32 (a j)) → (∀ j, j < n + 1 → W32 (b j)) → a n ≠ b n → decide (lowV a (n + 1) < lowV b (n + 1)) = decide (a n < b n) := by
  intro n ha hb hne
  obtain ⟨h1, h2⟩ := lowV_range (n := n) fun j hj => ha j (by omega)
  obtain ⟨g1, g2⟩ := lowV_range (n := n) fun j hj => hb j (by omega)
  have hp : (0 : Int) < 4294967296 ^ n := Int.pow_pos (by decide)
  unfold lowV
  by_cases e : a n < b n
  · have hm : 4294967296 ^ n * (a n + 1) ≤ 4294967296 ^ n * b n := Int.mul_le_mul_of_nonneg_left (by omega) (Int.le_of_lt hp)
    rw [Int.mul_add, Int.mul_one] at hm
    simp only [e, decide_true, decide_eq_true_eq]
    omega
  · have hm : 4294967296 ^ n * (b n + 1) ≤ 4294967296 ^ n * a n := Int.mul_le_mul_of_nonneg_left (by omega) (Int.le_of_lt hp)
    rw [Int.mul_add, Int.mul_one] at hm
    simp only [e, decide_false, decide_eq_false_iff_not]
    omega
theorem low_same {a b : Nat → Int} : ∀ {k : Nat}, k ≤ 8 → (∀ j, j < k → a (7 - j) = b (7 - j)) → lowV a 8 - lowV b 8 = lowV a (8 - k) - lowV b (8 - k)
  | 0, _, _ => rfl
  | k + 1, hk, h => by
    rw [low_same (k := k) (by omega) fun j hj => h j (by omega)]
    have e := h k (by omega)
    have : 8 - k = (8 - (k + 1)) + 1 := by omega
    rw [this]
    show lowV a (8 - (k + 1)) + 4294967296 ^ (8 - (k + 1)) * a (8 - (k + 1)) - (lowV b (8 - (k + 1)) + 4294967296 ^ (8 - (k + 1)) * b (8 - (k + 1))) = _
    have e2 : 8 - (k + 1) = 7 - k := by omega
    rw [e2, e]; omega
theorem below_law {a b : Nat → Int} (ha : inW8 a = true) (hb : inW8 b = true) : (alike a b 8 0 = 8 → decide (val8 a < val8 b) = false) ∧
    (alike a b 8 0 < 8 → decide (val8 a < val8 b) = decide (a (7 - alike a b 8 0) < b (7 - alike a b 8 0)) ∧ a (7 - alike a b 8 0) ≠ b (7 - alike a b 8 0)) := by
  obtain ⟨h1, h2, h3, h4⟩ := alike_spec a b 8 0
  have hW : ∀ (c : Nat → Int), inW8 c = true → ∀ j, j < 8 → W32 (c j) := fun c hc j hj => by
    obtain ⟨c0, c1, c2, c3, c4, c5, c6, c7⟩ := inW8_t hc
    match j, hj with
    | 0, _ => exact c0
    | 1, _ => exact c1
    | 2, _ => exact c2
    | 3, _ => exact c3
    | 4, _ => exact c4
    | 5, _ => exact c5
    | 6, _ => exact c6
    | 7, _ => exact c7
  rw [val8_low, val8_low]
  constructor
  · intro e
    have := low_same (k := 8) (Nat.le_refl _) fun j hj => h3 j (Nat.zero_le _) (by omega)
    simp only [Nat.sub_self, lowV] at this
    simp only [decide_eq_false_iff_not]
    simp only [lowV]
    omega
  · intro e
    have hne := h4 (by omega)
    refine ⟨?_, hne⟩
    generalize alike a b 8 0 = k at *
    have hs := low_same (k := k) (by omega) fun j hj => h3 j (Nat.zero_le _) hj
    have e1 : 8 - k = (7 - k) + 1 := by omega
    rw [e1] at hs
    rw [← low_lt (n := 7 - k) (fun j hj => hW a ha j (by omega)) (fun j hj => hW b hb j (by omega)) hne]
    generalize lowV a (7 - k + 1) = x at *
    generalize lowV b (7 - k + 1) = y at *
    generalize lowV a 8 = x' at *
    generalize lowV b 8 = y' at *
    by_cases q : x < y
    · rw [decide_eq_true q, decide_eq_true (by omega)]
    · rw [decide_eq_false q, decide_eq_false (by omega)]
end Go.AM

namespace Go.AM
open Go
theorem iand1 {x : Int} (hx : W32 x) : iand .u32 x 1 = x % 2 := by
  have h1 : BitVec.ofInt 32 x = BitVec.ofNat 32 x.toNat := by
    apply BitVec.eq_of_toNat_eq
    simp only [BitVec.toNat_ofInt, BitVec.toNat_ofNat]
    have : (x % (2 ^ 32 : Nat)).toNat = x.toNat % 2 ^ 32 := by unfold W32 at hx; omega
    exact this
  have h2 : x.toNat < 4294967296 := by unfold W32 at hx; omega
  have h3 : (BitVec.ofInt 32 x &&& BitVec.ofInt 32 1).toNat = x.toNat % 2 := by
    rw [h1, BitVec.toNat_and, BitVec.toNat_ofNat]
    have : (BitVec.ofInt 32 1).toNat = 2 ^ 1 - 1 := by decide
    rw [this, Nat.mod_eq_of_lt h2]
    exact Nat.and_two_pow_sub_one_eq_mod x.toNat 1
  show wr .u32 ((BitVec.ofInt 32 x &&& BitVec.ofInt 32 1).toNat : Int) = _
  rw [h3, wr32]
  unfold W32 at hx
  omega
theorem ishr_u32 (x : Int) (k : Nat) (hk : k ≤ 32) : ishr .u32 x (k : Int) = x / 2 ^ k := by
  show x.fdiv (2 ^ (min (k : Int).toNat 32)) = _
  rw [Int.toNat_natCast, Nat.min_eq_left hk, Int.fdiv_eq_ediv_of_nonneg _ (Int.le_of_lt (Int.pow_pos (by decide)))]
theorem bit_law {d : Int} {k : Nat} (hd : W32 d) (hk : k < 32) : iand .u32 (ishr .u32 d (wr .u64 (31 - (k : Int)))) 1 = d / 2 ^ (31 - k) % 2 := by
  have e : wr .u64 (31 - (k : Int)) = ((31 - k : Nat) : Int) := by rw [wr64]; omega
  rw [e, ishr_u32 d _ (by omega), iand1]
  have hp : (0 : Int) < 2 ^ (31 - k) := Int.pow_pos (by decide)
  unfold W32 at *
  refine ⟨Int.ediv_nonneg hd.1 (Int.le_of_lt hp), Int.lt_of_le_of_lt (Int.ediv_le_self _ hd.1) hd.2⟩
/-- so far reckoned -/
def rK (r d : Int) : Nat → Int
  | 0 => r
  | k + 1 => (2 * rK r d k + d / 2 ^ (31 - k) % 2) % ordL
theorem rK_range {r : Int} (hr : 0 ≤ r ∧ r < ordL) (d : Int) : ∀ k, 0 ≤ rK r d k ∧ rK r d k < ordL
  | 0 => hr
  | k + 1 => by unfold rK ordL; omega
theorem rK_eq {r d : Int} (hr : 0 ≤ r ∧ r < ordL) (hd : W32 d) : ∀ k, k ≤ 32 → rK r d k = (r * 2 ^ k + d / 2 ^ (32 - k)) % ordL
  | 0, _ => by
    unfold rK
    have : d / 2 ^ (32 - 0) = 0 := by unfold W32 at hd; show d / 4294967296 = 0; omega
    rw [this]
    unfold ordL at *
    omega
  | k + 1, hk => by
    have ih := rK_eq hr hd k (by omega)
    unfold rK
    rw [ih]
    have e1 : 32 - k = (31 - k) + 1 := by omega
    have e2 : d / 2 ^ (32 - k) = d / 2 ^ (31 - k) / 2 := by
      rw [e1, Int.pow_succ, Int.ediv_ediv_of_nonneg (Int.le_of_lt (Int.pow_pos (by decide)))]
    rw [e2, show 32 - (k + 1) = 31 - k by omega, Int.pow_succ]
    generalize d / 2 ^ (31 - k) = y
    have e3 : r * (2 ^ k * 2) + y = 2 * (r * 2 ^ k + y / 2) + y % 2 := by
      rw [← Int.mul_assoc]; omega
    rw [e3]
    generalize r * 2 ^ k + y / 2 = X
    unfold ordL
    omega
theorem rK_all {r d : Int} (hr : 0 ≤ r ∧ r < ordL) (hd : W32 d) : rK r d 32 = (r * 4294967296 + d) % ordL := by
  have := rK_eq hr hd 32 (Nat.le_refl _)
  rw [this]; simp
/-- the number of digits, from the top -/
def dval (f : Nat → Nat → Int) (n : Nat) : Nat → Int
  | 0 => 0
  | k + 1 => dval f n k * 4294967296 + f (n - 1 - k) 0
def dmod (f : Nat → Nat → Int) (n : Nat) : Nat → Int
  | 0 => 0
  | k + 1 => rK (dmod f n k) (f (n - 1 - k) 0) 32
theorem dmod_range (f : Nat → Nat → Int) (n : Nat) : ∀ k, 0 ≤ dmod f n k ∧ dmod f n k < ordL
  | 0 => by unfold dmod ordL; omega
  | k + 1 => rK_range (dmod_range f n k) _ 32
theorem dmod_eq {f : Nat → Nat → Int} {n : Nat} (hf : ∀ j, j < n → W32 (f j 0)) : ∀ k, k ≤ n → dmod f n k = dval f n k % ordL
  | 0, _ => by unfold dmod dval; rfl
  | k + 1, hk => by
    unfold dmod dval
    rw [rK_all (dmod_range f n k) (hf _ (by omega)), dmod_eq hf k (by omega)]
    generalize dval f n k = X
    generalize f (n - 1 - k) 0 = y
    unfold ordL
    omega
end Go.AM

namespace Go.AM
open Go
def cutB (s : Nat → Int) (n : Nat) : Nat → Int := fun i => if i < n then s i else 0
def dK (s : Nat → Int) (k j : Nat) : Int := hval (cutB s k) 4 (4 * j)
theorem hval_congr {s t : Nat → Int} : ∀ {n j : Nat}, (∀ i, i < n → s (j + i) = t (j + i)) → hval s n j = hval t n j
  | 0, _, _ => rfl
  | n + 1, j, h => by
    have h0 : s j = t j := h 0 (by omega)
    have e : hval s n (j + 1) = hval t n (j + 1) := hval_congr fun i hi => by
      have := h (i + 1) (by omega)
      rw [show j + (i + 1) = j + 1 + i by omega] at this
      exact this
    simp only [hval, h0, e]
theorem hval_zero {s : Nat → Int} : ∀ {n j : Nat}, (∀ i, i < n → s (j + i) = 0) → hval s n j = 0
  | 0, _, _ => rfl
  | n + 1, j, h => by
    have h0 : s j = 0 := h 0 (by omega)
    have e : hval s n (j + 1) = 0 := hval_zero fun i hi => by
      have := h (i + 1) (by omega)
      rw [show j + (i + 1) = j + 1 + i by omega] at this
      exact this
    simp only [hval, h0, e]; rfl
theorem dK_other {s : Nat → Int} {k j : Nat} (h : j ≠ k / 4) : dK s (k + 1) j = dK s k j := by
  refine hval_congr fun i hi => ?_
  unfold cutB
  by_cases e : 4 * j + i < k
  · rw [if_pos e, if_pos (by omega)]
  · rw [if_neg e, if_neg (by omega)]
theorem or_byte32 {x b : Int} {c : Nat} (hc : c ≤ 3) (hx : 0 ≤ x ∧ x < 256 ^ c) (hb : 0 ≤ b ∧ b < 256) : ior .u32 x (ishl .u32 (wr .u32 b) ((8 * c : Nat) : Int)) = x + 256 ^ c * b := by
  have ew : wr .u32 b = b := by rw [wr32]; omega
  have e1 : ishl .u32 b ((8 * c : Nat) : Int) = 256 ^ c * b := by
    show wr .u32 (b * 2 ^ (min ((8 * c : Nat) : Int).toNat 32)) = _
    rw [Int.toNat_natCast, Nat.min_eq_left (by omega), wr32]
    match c, hc with
    | 0, _ => simp; omega
    | 1, _ => simp; omega
    | 2, _ => simp; omega
    | 3, _ => simp; omega
  rw [ew, e1]
  have hx32 : W32 x := by
    match c, hc with
    | 0, _ => simp at hx; unfold W32; omega
    | 1, _ => simp at hx; unfold W32; omega
    | 2, _ => simp at hx; unfold W32; omega
    | 3, _ => simp at hx; unfold W32; omega
  have hy32 : W32 (256 ^ c * b) := by
    match c, hc with
    | 0, _ => simp; unfold W32; omega
    | 1, _ => simp; unfold W32; omega
    | 2, _ => simp; unfold W32; omega
    | 3, _ => simp; unfold W32; omega
  rw [ior32 hx32 hy32]
  have e2 : (256 ^ c * b).toNat = 2 ^ (8 * c) * b.toNat := by
    match c, hc with
    | 0, _ => simp
    | 1, _ => simp; omega
    | 2, _ => simp; omega
    | 3, _ => simp; omega
  have e3 : x.toNat < 2 ^ (8 * c) := by
    match c, hc with
    | 0, _ => simp at hx ⊢; omega
    | 1, _ => simp at hx ⊢; omega
    | 2, _ => simp at hx ⊢; omega
    | 3, _ => simp at hx ⊢; omega
  rw [e2, Nat.or_comm, ← Nat.two_pow_add_eq_or_of_lt e3]
  have e4 : ((2 ^ (8 * c) * b.toNat + x.toNat : Nat) : Int) = 256 ^ c * b + x := by
    have := hy32.1
    have := hx.1
    rw [← e2]; omega
  rw [e4]; exact Int.add_comm _ _
theorem cut_areB {s : Nat → Int} {n : Nat} (h : areB s n 0 = true) (k : Nat) (hk : k ≤ n) (i : Nat) : 0 ≤ cutB s k i ∧ cutB s k i < 256 := by
  unfold cutB
  by_cases e : i < k
  · rw [if_pos e]
    have := areB_t h i (by omega)
    rwa [Nat.zero_add] at this
  · rw [if_neg e]; omega
theorem hval_pos {s : Nat → Int} (h : ∀ i, 0 ≤ s i ∧ s i < 256) : ∀ (n j : Nat), 0 ≤ hval s n j ∧ hval s n j < 256 ^ n
  | 0, j => by simp [hval]
  | n + 1, j => by
    obtain ⟨h1, h2⟩ := hval_pos h n (j + 1)
    have := h j
    simp only [hval, Int.pow_succ]
    omega
theorem dK_step {s : Nat → Int} {n k : Nat} (h : areB s n 0 = true) (hk : k < n) : dK s (k + 1) (k / 4) = ior .u32 (dK s k (k / 4)) (ishl .u32 (wr .u32 (s k)) ((8 * (k % 4) : Nat) : Int)) ∧ W32 (dK s k (k / 4)) := by
  have hb := areB_t h k hk
  rw [Nat.zero_add] at hb
  obtain ⟨c, hc⟩ : ∃ c, c = k % 4 := ⟨_, rfl⟩
  have hc3 : c ≤ 3 := by omega
  have e4 : 4 = c + (4 - c) := by omega
  have eX : dK s k (k / 4) = hval (cutB s k) c (4 * (k / 4)) := by
    unfold dK
    rw [show hval (cutB s k) 4 (4 * (k / 4)) = hval (cutB s k) (c + (4 - c)) (4 * (k / 4)) by rw [← e4], hval_add]
    rw [hval_zero (n := 4 - c) fun i hi => by unfold cutB; rw [if_neg (by omega)]]
    simp
  have eY : dK s (k + 1) (k / 4) = hval (cutB s k) c (4 * (k / 4)) + 256 ^ c * s k := by
    unfold dK
    rw [show hval (cutB s (k + 1)) 4 (4 * (k / 4)) = hval (cutB s (k + 1)) (c + (4 - c)) (4 * (k / 4)) by rw [← e4], hval_add]
    rw [hval_congr (n := c) (j := 4 * (k / 4)) (t := cutB s k) fun i hi => by unfold cutB; rw [if_pos (by omega), if_pos (by omega)]]
    have : hval (cutB s (k + 1)) (4 - c) (4 * (k / 4) + c) = s k := by
      rw [show 4 - c = (3 - c) + 1 by omega]
      simp only [hval]
      rw [hval_zero (n := 3 - c) fun i hi => by unfold cutB; rw [if_neg (by omega)]]
      unfold cutB
      rw [if_pos (by omega), show 4 * (k / 4) + c = k by omega]; omega
    rw [this]
  have hp := hval_pos (cut_areB h k (by omega)) c (4 * (k / 4))
  rw [eX, eY, ← hc, or_byte32 hc3 hp hb]
  refine ⟨rfl, hp.1, ?_⟩
  have h2 := hp.2
  match c, hc3 with
  | 0, _ => simp at h2; omega
  | 1, _ => simp at h2; omega
  | 2, _ => simp at h2; omega
  | 3, _ => simp at h2; omega
theorem dK_W {s : Nat → Int} {n : Nat} (h : areB s n 0 = true) (j : Nat) : W32 (dK s n j) := by
  have := hval_pos (cut_areB h n (Nat.le_refl _)) 4 (4 * j)
  unfold W32
  unfold dK
  simpa using this
theorem dval_dK (s : Nat → Int) (n m : Nat) : ∀ k, k ≤ m → dval (fun j _ => dK s n (0 + j)) m k = hval (cutB s n) (4 * k) (4 * (m - k))
  | 0, _ => by simp [dval, hval]
  | k + 1, hk => by
    unfold dval
    rw [dval_dK s n m k (by omega), show 4 * (k + 1) = 4 + 4 * k by omega, hval_add, Nat.zero_add]
    have e1 : m - 1 - k = m - (k + 1) := by omega
    have e2 : 4 * (m - (k + 1)) + 4 = 4 * (m - k) := by omega
    rw [e2, e1]
    unfold dK
    generalize hval (cutB s n) (4 * k) (4 * (m - k)) = X
    generalize hval (cutB s n) 4 (4 * (m - (k + 1))) = Y
    rw [show (256 : Int) ^ 4 = 4294967296 by decide]; omega
theorem dval_all (s : Nat → Int) {n m : Nat} (h : n ≤ 4 * m) : dval (fun j _ => dK s n (0 + j)) m m = hval s n 0 := by
  rw [dval_dK s n m m (Nat.le_refl _), show 4 * m = n + (4 * m - n) by omega, hval_add]
  rw [Nat.sub_self, Nat.mul_zero, hval_zero (n := 4 * m - n) fun i hi => by unfold cutB; rw [if_neg (by omega)]]
  rw [hval_congr (n := n) (t := s) fun i hi => by unfold cutB; rw [if_pos (by omega)]]
  simp
/-- the bytes of eight digits -/
def back8 (a : Nat → Int) : List Int := tabL (fun j => wr .u8 (ishr .u32 (a (j / 4)) (wr .u64 ((8 * (j % 4) : Nat) : Int)))) 32 0
theorem byte8 (x : Int) (c : Nat) (hc : c < 4) : wr .u8 (ishr .u32 x (wr .u64 ((8 * c : Nat) : Int))) = x / 2 ^ (8 * c) % 256 := by
  have e : wr .u64 ((8 * c : Nat) : Int) = ((8 * c : Nat) : Int) := by rw [wr64]; omega
  rw [e, ishr_u32 x _ (by omega), wr8]
theorem back8_law {n : Int} (h0 : 0 ≤ n) (h1 : n < R256) : back8 (limbs8 n) = byL 32 n := by
  have k0 : ∀ x : Int, wr .u8 (ishr .u32 x (wr .u64 ((0 : Nat) : Int))) = x % 256 := fun x => by have := byte8 x 0 (by omega); simpa using this
  have k1 : ∀ x : Int, wr .u8 (ishr .u32 x (wr .u64 ((8 : Nat) : Int))) = x / 256 % 256 := fun x => by have := byte8 x 1 (by omega); simpa using this
  have k2 : ∀ x : Int, wr .u8 (ishr .u32 x (wr .u64 ((16 : Nat) : Int))) = x / 65536 % 256 := fun x => by have := byte8 x 2 (by omega); simpa using this
  have k3 : ∀ x : Int, wr .u8 (ishr .u32 x (wr .u64 ((24 : Nat) : Int))) = x / 16777216 % 256 := fun x => by have := byte8 x 3 (by omega); simpa using this
  unfold back8
  simp only [tabL, byL, limbs8, lf, dig, Nat.reduceAdd, Nat.reduceDiv, Nat.reduceMod, Nat.reduceMul, k0, k1, k2, k3]
  have m1 : ∀ x : Int, x % 4294967296 % 256 = x % 256 := fun x => by omega
  have m2 : ∀ x : Int, x % 4294967296 / 256 % 256 = x / 256 % 256 := fun x => by omega
  have m3 : ∀ x : Int, x % 4294967296 / 65536 % 256 = x / 256 / 256 % 256 := fun x => by omega
  have m4 : ∀ x : Int, x % 4294967296 / 16777216 % 256 = x / 256 / 256 / 256 % 256 := fun x => by omega
  have m5 : ∀ x : Int, x / 4294967296 = x / 256 / 256 / 256 / 256 := fun x => by omega
  simp only [m1, m2, m3, m4, m5]
end Go.AM

namespace Go.AM
open Go
theorem tabL_length (f : Nat → Int) : ∀ (n j : Nat), (tabL f n j).length = n
  | 0, _ => rfl
  | n + 1, j => by simp [tabL, tabL_length f n]
theorem allB_tab {s : Nat → Int} : ∀ {n j : Nat}, areB s n j = true → allB (tabL s n j)
  | 0, _, _ => trivial
  | n + 1, j, h => by
    simp only [areB, Bool.and_eq_true] at h
    exact ⟨isB_t h.1, allB_tab h.2⟩
theorem horner_tab (s : Nat → Int) : ∀ (n j : Nat), horner (tabL s n j) = hval s n j
  | 0, _ => rfl
  | n + 1, j => by simp only [tabL, horner, hval, horner_tab s n]
theorem byL_self {s : Nat → Int} {n : Nat} (h : areB s n 0 = true) : byL n (hval s n 0) = tabL s n 0 := by
  have := byL_horner (tabL s n 0) (allB_tab h)
  rw [tabL_length, horner_tab] at this
  exact this
theorem eqB_law {s : Nat → Int} {v : Int} (h : areB s 32 0 = true) (h0 : 0 ≤ v) (h1 : v < R256) : eqN 32 (lf (byL 32 v)) s = decide (hval s 32 0 = v) := by
  by_cases e : hval s 32 0 = v
  · rw [decide_eq_true e, ← e, byL_self h]
    simp only [eqN, List.all_eq_true, List.mem_range, beq_iff_eq]
    intro c hc
    have := lf_tab s 32 0 c hc
    rwa [Nat.zero_add] at this
  · rw [decide_eq_false e]
    cases hq : eqN 32 (lf (byL 32 v)) s with
    | false => rfl
    | true =>
      have hq : ∀ c, c < 32 → lf (byL 32 v) c = s c := fun c hc => by
        simp only [eqN, List.all_eq_true, List.mem_range, beq_iff_eq] at hq
        exact hq c hc
      exact absurd (by rw [← hval_congr (n := 32) (j := 0) (s := lf (byL 32 v)) fun i hi => by rw [Nat.zero_add]; exact hq i hi]; exact hval_b32 h0 h1) e
/-- a scalar of canonical bytes: its bytes, and the error -/
def zero32 : List Int := [0, 0, 0, 0, 0, 0, 0, 0, 0, 0, 0, 0, 0, 0, 0, 0, 0, 0, 0, 0, 0, 0, 0, 0, 0, 0, 0, 0, 0, 0, 0, 0]
def decS (n : Nat) (f : Nat → Nat → Int) : List Int × Int :=
  if n = 32 then (if hval (fun j => f j 0) 32 0 < ordL then (tabL (fun j => f j 0) 32 0, 0) else (zero32, 21)) else (zero32, 3)
def idS (i : Int) : List Int × Int := if i < 1 ∨ 255 < i then (zero32, 4) else (byL 32 i, 0)
def rndS (n : Nat) (f : Nat → Nat → Int) : List Int × Int :=
  if n = 64 then (if hval (fun j => f j 0) 64 0 % ordL = 0 then (zero32, 9) else (byL 32 (hval (fun j => f j 0) 64 0 % ordL), 0)) else (zero32, 3)
def se (x : List Int × Int) : AV := .tup [u8s 32 (lf x.1), .sc (.int .i64 x.2)]
theorem tabL_at {l : List Int} : ∀ {n j : Nat}, l.length = j + n → tabL (lf l) n j = l.drop j
  | 0, j, h => by rw [List.drop_eq_nil_of_le (by omega)]; rfl
  | n + 1, j, h => by
    have hj : j < l.length := by omega
    rw [List.drop_eq_getElem_cons hj]
    simp only [tabL]
    have e : lf l j = l[j] := by
      have : ∀ (l : List Int) (j : Nat) (hj : j < l.length), lf l j = l[j] := by
        intro l
        induction l with
        | nil => intro j hj; simp at hj
        | cons x r ih =>
          intro j hj
          cases j with
          | zero => rfl
          | succ j => exact ih j (by simpa using hj)
      exact this l j hj
    rw [e, tabL_at (n := n) (j := j + 1) (by omega)]
theorem tabL_lf {l : List Int} {n : Nat} (h : l.length = n) : tabL (lf l) n 0 = l := by
  have := tabL_at (l := l) (n := n) (j := 0) (by omega)
  simpa using this
theorem decS_len (n : Nat) (f : Nat → Nat → Int) : (decS n f).1.length = 32 := by
  unfold decS
  split
  · split
    · exact tabL_length _ _ _
    · rfl
  · rfl
theorem rndS_len (n : Nat) (f : Nat → Nat → Int) : (rndS n f).1.length = 32 := by
  unfold rndS
  split
  · split
    · rfl
    · exact byL_length _ _
  · rfl
theorem byL_zero : ∀ n, byL n 0 = List.replicate n 0
  | 0 => rfl
  | n + 1 => by
    simp only [byL, List.replicate_succ]
    have : (0 : Int) / 256 = 0 := by decide
    rw [this, byL_zero n]; rfl
theorem byL_small {i : Int} (h0 : 0 ≤ i) (h1 : i < 256) : byL 32 i = i :: List.replicate 31 0 := by
  show i % 256 :: byL 31 (i / 256) = _
  rw [show i / 256 = 0 by omega, byL_zero, show i % 256 = i by omega]
theorem areB_mk {s : Nat → Int} : ∀ {n j : Nat}, (∀ i, i < n → 0 ≤ s (j + i) ∧ s (j + i) < 256) → areB s n j = true
  | 0, _, _ => rfl
  | n + 1, j, h => by
    simp only [areB, Bool.and_eq_true]
    refine ⟨by have := h 0 (by omega); simpa [isB] using this, areB_mk fun i hi => ?_⟩
    have := h (i + 1) (by omega)
    rw [show j + (i + 1) = j + 1 + i by omega] at this
    exact this
theorem eqN_zero32 {v : Int} (h0 : 0 ≤ v) (h1 : v < R256) : eqN 32 (lf (byL 32 v)) (fun _ => 0) = decide (v = 0) := by
  have := eqB_law (s := fun _ => 0) (v := v) (areB_mk fun i _ => ⟨Int.le_refl 0, show (0 : Int) < 256 by decide⟩) h0 h1
  rw [hval_zero (s := fun _ => 0) fun i _ => rfl] at this
  rw [this]
  by_cases e : v = 0
  · rw [decide_eq_true e, decide_eq_true e.symm]
  · rw [decide_eq_false e, decide_eq_false (fun h => e h.symm)]
end Go.AM
