/-
  SHA-512's block in plain numbers. No program in sight. Lists of parts that are one text. No program in sight. Numbers modulo 2^255 - 19 in five limbs of 51 bits: what the machine reckons, in plain numbers. No program in sight.
-/
import Derived.Test.YtgjnfabhjbadoabBa
namespace Go.AM
open Go
def rorS (x n : Int) : Int := ior .u64 (ishl .u64 x (64 - n)) (ishr .u64 x n)
def xor64 (x y : Int) : Int := ixor .u64 x y
def and64 (x y : Int) : Int := iand .u64 x y
def s0S (x : Int) : Int := xor64 (xor64 (rorS x 1) (rorS x 8)) (ishr .u64 x 7)
def s1S (y : Int) : Int := xor64 (xor64 (rorS y 19) (rorS y 61)) (ishr .u64 y 6)
/-- the next word of the schedule, behind four others -/
def wNext (a x b y : Int) : Int := wr .u64 (wr .u64 (wr .u64 (a + s0S x) + b) + s1S y)
/-- the schedule: w 0 to w 15 are told -/
def wK (w : Nat → Int) : Nat → Nat → Int
  | 0 => w
  | k + 1 => fun d => bif Nat.beq d (16 + k) then wNext (wK w k k) (wK w k (k + 1)) (wK w k (k + 9)) (wK w k (k + 14)) else wK w k d
def one5 (t : Nat → Int) (k w : Int) : Int :=
  wr .u64 (wr .u64 (wr .u64 (wr .u64 (t 7 + xor64 (xor64 (rorS (t 4) 14) (rorS (t 4) 18)) (rorS (t 4) 41)) + xor64 (and64 (t 4) (t 5)) (and64 (ixor .u64 18446744073709551615 (t 4)) (t 6))) + k) + w)
def two5 (t : Nat → Int) : Int :=
  wr .u64 (xor64 (xor64 (rorS (t 0) 28) (rorS (t 0) 34)) (rorS (t 0) 39) + xor64 (xor64 (and64 (t 0) (t 1)) (and64 (t 0) (t 2))) (and64 (t 1) (t 2)))
def rndL (t : Nat → Int) (k w : Int) : List Int := [wr .u64 (one5 t k w + two5 t), t 0, t 1, t 2, wr .u64 (t 3 + one5 t k w), t 4, t 5, t 6]
def tR (t k w : Nat → Int) : Nat → Nat → Int
  | 0 => t
  | i + 1 => lf (rndL (tR t k w i) (k i) (w i))
def w0S (b : Nat → Nat → Int) (i : Nat) : Nat → Int
  | 0 => 0
  | j + 1 => ior .u64 (ishl .u64 (w0S b i j) 8) (wr .u64 (b (8 * i + j) 0))
def w0L (b : Nat → Nat → Int) : List Int := (List.range 16).map (fun i => w0S b i 8) ++ List.replicate 64 0
def t0L (s : Nat → Int) : List Int := [s 0, s 1, s 2, s 3, s 4, s 5, s 6, s 7]
def blkT (s : Nat → Int) (b : Nat → Nat → Int) (kf : Nat → Int) : Nat → Int := tR (lf (t0L s)) kf (wK (lf (w0L b)) 64) 80
def blkL (s : Nat → Int) (b : Nat → Nat → Int) (kf : Nat → Int) : List Int :=
  let T := blkT s b kf
  [wr .u64 (s 0 + T 0), wr .u64 (s 1 + T 1), wr .u64 (s 2 + T 2), wr .u64 (s 3 + T 3), wr .u64 (s 4 + T 4), wr .u64 (s 5 + T 5), wr .u64 (s 6 + T 6), wr .u64 (s 7 + T 7)]
/-- the words behind q blocks -/
def hWk (kf W C : Nat → Int) : Nat → Nat → Int
  | 0 => W
  | q + 1 => lf (blkL (hWk kf W C q) (fun j _ => C (128 * q + j)) kf)
/-- one text behind another -/
def catF (n : Nat) (D f : Nat → Int) : Nat → Int := fun j => bif Nat.ble (j + 1) n then D j else f (j - n)
theorem w0S_congr {b b' : Nat → Nat → Int} (h : ∀ j, j < 128 → b j 0 = b' j 0) {i : Nat} (hi : i < 16) : ∀ j, j ≤ 8 → w0S b i j = w0S b' i j
  | 0, _ => rfl
  | j + 1, hj => by simp only [w0S]; rw [w0S_congr h hi j (by omega), h (8 * i + j) (by omega)]
theorem blkL_congr {W kf : Nat → Int} {b b' : Nat → Nat → Int} (h : ∀ j, j < 128 → b j 0 = b' j 0) : blkL W b kf = blkL W b' kf := by
  have h1 : (List.range 16).map (fun i => w0S b i 8) = (List.range 16).map (fun i => w0S b' i 8) := List.map_congr_left fun i hi => w0S_congr h (List.mem_range.1 hi) 8 (by omega)
  have : w0L b = w0L b' := by unfold w0L; rw [h1]
  unfold blkL blkT
  rw [this]
theorem hWk_congr {kf W C C' : Nat → Int} : ∀ (q : Nat), (∀ j, j < 128 * q → C j = C' j) → hWk kf W C q = hWk kf W C' q
  | 0, _ => rfl
  | q + 1, h => by
    simp only [hWk]
    rw [hWk_congr q fun j hj => h j (by omega)]
    exact congrArg lf (blkL_congr fun j hj => h (128 * q + j) (by omega))
theorem blkL_tab (W : Nat → Int) (b : Nat → Nat → Int) (kf : Nat → Int) : blkL (lf (tabL W 8 0)) b kf = blkL W b kf := rfl
theorem lf_blk_tab (W : Nat → Int) (b : Nat → Nat → Int) (kf : Nat → Int) : lf (tabL (lf (blkL W b kf)) 8 0) = lf (blkL W b kf) := rfl
theorem hWk_shift {kf W C : Nat → Int} : ∀ (q : Nat), hWk kf W C (q + 1) = hWk kf (lf (blkL W (fun j _ => C (128 * 0 + j)) kf)) (fun j => C (128 + j)) q
  | 0 => rfl
  | q + 1 => by
    rw [hWk, hWk_shift q]
    show _ = lf (blkL _ _ kf)
    refine congrArg lf (blkL_congr fun j hj => ?_)
    show C (128 * (q + 1) + j) = C (128 + (128 * q + j))
    rw [show 128 * (q + 1) + j = 128 + (128 * q + j) by omega]
theorem catF_lt {n : Nat} {D f : Nat → Int} {j : Nat} (h : j < n) : catF n D f j = D j := by
  unfold catF
  rw [show Nat.ble (j + 1) n = true from Nat.ble_eq_true_of_le h]; rfl
theorem catF_ge {n : Nat} {D f : Nat → Int} {j : Nat} (h : n ≤ j) : catF n D f j = f (j - n) := by
  unfold catF
  have : Nat.ble (j + 1) n = false := by
    cases hb : Nat.ble (j + 1) n with
    | false => rfl
    | true => have := Nat.le_of_ble_eq_true hb; omega
  rw [this]; rfl
/-- what is laid behind n bytes -/
def padL (n : Nat) : Nat := 1 + (239 - n % 128) % 128 + 16
def padF (n : Nat) (j : Nat) : Int := if j = 0 then 128 else if j + 8 < padL n then 0 else wr .u8 (ishr .u64 (wr .u64 ((n : Int) * 8)) (8 * ((padL n - 1 - j : Nat) : Int)))
theorem padL_sum (n : Nat) : (n + padL n) % 128 = 0 ∧ (n % 128 + padL n) % 128 = 0 ∧ 17 ≤ padL n ∧ padL n ≤ 144 := by unfold padL; omega
/-- the digest's bytes -/
def outL (S : Nat → Int) : List Int := (List.range 64).map fun i => wr .u8 (ishr .u64 (S (i / 8)) (56 - 8 * ((i % 8 : Nat) : Int)))
theorem hWk_add {kf W C : Nat → Int} (a : Nat) : ∀ (b : Nat), hWk kf W C (a + b) = hWk kf (hWk kf W C a) (fun j => C (128 * a + j)) b
  | 0 => rfl
  | b + 1 => by
    show lf (blkL (hWk kf W C (a + b)) _ kf) = lf (blkL _ _ kf)
    rw [hWk_add a b]
    refine congrArg lf (blkL_congr fun j hj => ?_)
    show C (128 * (a + b) + j) = C (128 * a + (128 * b + j))
    rw [show 128 * (a + b) + j = 128 * a + (128 * b + j) by omega]
theorem hWk_init {kf W W' C : Nat → Int} (h : ∀ d, d < 8 → W d = W' d) : ∀ (q : Nat), ∀ d, d < 8 → hWk kf W C q d = hWk kf W' C q d
  | 0 => h
  | 1 => fun d _ => by
    show lf (blkL W _ kf) d = lf (blkL W' _ kf) d
    have e : tabL W 8 0 = tabL W' 8 0 := by
      simp only [tabL, h 0 (by omega), h 1 (by omega), h 2 (by omega), h 3 (by omega), h 4 (by omega), h 5 (by omega), h 6 (by omega), h 7 (by omega)]
    rw [← blkL_tab W, ← blkL_tab W', e]
  | q + 2 => fun d _ => by
    have e : hWk kf W C (q + 1) = hWk kf W' C (q + 1) := by
      have ih := hWk_init (C := C) (kf := kf) h q
      show lf (blkL (hWk kf W C q) _ kf) = lf (blkL (hWk kf W' C q) _ kf)
      have e : tabL (hWk kf W C q) 8 0 = tabL (hWk kf W' C q) 8 0 := by
        simp only [tabL, ih 0 (by omega), ih 1 (by omega), ih 2 (by omega), ih 3 (by omega), ih 4 (by omega), ih 5 (by omega), ih 6 (by omega), ih 7 (by omega)]
      rw [← blkL_tab (hWk kf W C q), ← blkL_tab (hWk kf W' C q), e]
    show lf (blkL (hWk kf W C (q + 1)) _ kf) d = lf (blkL (hWk kf W' C (q + 1)) _ kf) d
    rw [e]
/-- many parts, one behind the other: how many bytes, and which -/
def catN (m : Nat → Nat) : Nat → Nat
  | 0 => 0
  | k + 1 => catN m k + m k
def catB (m : Nat → Nat) (f : Nat → Nat → Int) : Nat → Nat → Int
  | 0 => fun _ => 0
  | k + 1 => catF (catN m k) (catB m f k) (f k)
/-- the digest of n bytes, the words and the constants given -/
def digL (kf W0 : Nat → Int) (n : Nat) (F : Nat → Int) : List Int := outL (hWk kf W0 (catF n F (padF n)) ((n + padL n) / 128))
theorem digL_congr {kf W0 F F' : Nat → Int} {n : Nat} (h : ∀ j, j < n → F j = F' j) : digL kf W0 n F = digL kf W0 n F' := by
  have : catF n F (padF n) = catF n F' (padF n) := by
    funext j
    by_cases hj : j < n
    · rw [catF_lt hj, catF_lt hj, h j hj]
    · rw [catF_ge (by omega), catF_ge (by omega)]
  unfold digL
  rw [this]
theorem outL_congr {S S' : Nat → Int} (h : ∀ d, d < 8 → S d = S' d) : outL S = outL S' := by
  unfold outL
  refine List.map_congr_left fun i hi => ?_
  rw [h (i / 8) (by have := List.mem_range.1 hi; omega)]
theorem tR_tab (t k w : Nat → Int) : ∀ (i : Nat), i ≤ 80 → tR t (lf (tabL k 80 0)) w i = tR t k w i
  | 0, _ => rfl
  | i + 1, h => by
    simp only [tR]
    have := lf_tab k 80 0 i (by omega)
    rw [Nat.zero_add] at this
    rw [tR_tab t k w i (by omega), this]
theorem hWk_tab {kf W C : Nat → Int} : ∀ (q : Nat), hWk (lf (tabL kf 80 0)) W C q = hWk kf W C q
  | 0 => rfl
  | q + 1 => by
    simp only [hWk]
    rw [hWk_tab q]
    refine congrArg lf ?_
    unfold blkL blkT
    rw [tR_tab _ _ _ 80 (Nat.le_refl _)]
theorem dig_law {kf W0 F : Nat → Int} {n : Nat} : outL (hWk kf (lf (tabL (hWk kf W0 F (n / 128)) 8 0)) (catF (n % 128) (fun j => F (128 * (n / 128) + j)) (padF n)) ((n % 128 + padL n) / 128)) = digL kf W0 n F := by
  unfold digL
  refine outL_congr fun d hd => ?_
  rw [show (n + padL n) / 128 = n / 128 + (n % 128 + padL n) / 128 by have := padL_sum n; omega, hWk_add]
  have e1 : hWk kf W0 (catF n F (padF n)) (n / 128) = hWk kf W0 F (n / 128) := hWk_congr _ fun j hj => catF_lt (by omega)
  have e2 : (fun j => catF n F (padF n) (128 * (n / 128) + j)) = catF (n % 128) (fun j => F (128 * (n / 128) + j)) (padF n) := by
    funext j
    by_cases hj : j < n % 128
    · rw [catF_lt hj, catF_lt (by omega)]
    · rw [catF_ge (by omega), catF_ge (by omega), show 128 * (n / 128) + j - n = j - n % 128 by omega]
  rw [e1, e2]
  refine hWk_init (fun d hd => ?_) _ d hd
  have := lf_tab (hWk kf W0 F (n / 128)) 8 0 d hd
  rwa [Nat.zero_add] at this
/-! a list of parts -/
def catL : List (Nat × (Nat → Int)) → Nat × (Nat → Int)
  | [] => (0, fun _ => 0)
  | p :: r => (p.1 + (catL r).1, catF p.1 p.2 (catL r).2)
theorem catL_snoc : ∀ (l : List (Nat × (Nat → Int))) (p : Nat × (Nat → Int)), (catL (l ++ [p])).1 = (catL l).1 + p.1 ∧ ∀ j, j < (catL l).1 + p.1 → (catL (l ++ [p])).2 j = catF (catL l).1 (catL l).2 p.2 j
  | [], p => by
    refine ⟨by simp [catL], fun j hj => ?_⟩
    have hj : j < p.1 := by simpa [catL] using hj
    show catF p.1 p.2 (fun _ => 0) j = catF 0 (fun _ => 0) p.2 j
    rw [catF_lt hj, catF_ge (Nat.zero_le _), Nat.sub_zero]
  | q :: l, p => by
    obtain ⟨h1, h2⟩ := catL_snoc l p
    refine ⟨by show q.1 + (catL (l ++ [p])).1 = q.1 + (catL l).1 + p.1; rw [h1]; omega, fun j hj => ?_⟩
    have hj : j < q.1 + (catL l).1 + p.1 := hj
    show catF q.1 q.2 (catL (l ++ [p])).2 j = catF (q.1 + (catL l).1) (catF q.1 q.2 (catL l).2) p.2 j
    by_cases e : j < q.1
    · rw [catF_lt e, catF_lt (by omega), catF_lt e]
    · rw [catF_ge (by omega), h2 _ (by omega)]
      by_cases e2 : j - q.1 < (catL l).1
      · rw [catF_lt e2, catF_lt (by omega), catF_ge (by omega)]
      · rw [catF_ge (by omega), catF_ge (by omega), show j - q.1 - (catL l).1 = j - (q.1 + (catL l).1) by omega]
theorem catL_of (m : Nat → Nat) (f : Nat → Nat → Int) : ∀ (k : Nat), (catL ((List.range k).map fun j => (m j, f j))).1 = catN m k ∧ ∀ j, j < catN m k → (catL ((List.range k).map fun j => (m j, f j))).2 j = catB m f k j
  | 0 => ⟨rfl, fun j hj => by simp [catN] at hj⟩
  | k + 1 => by
    obtain ⟨h1, h2⟩ := catL_of m f k
    rw [List.range_succ, List.map_append]
    obtain ⟨q1, q2⟩ := catL_snoc ((List.range k).map fun j => (m j, f j)) (m k, f k)
    refine ⟨by show (catL (_ ++ [(m k, f k)])).1 = catN m k + m k; rw [q1, h1], fun j hj => ?_⟩
    have hj : j < catN m k + m k := hj
    show (catL (_ ++ [(m k, f k)])).2 j = catF (catN m k) (catB m f k) (f k) j
    rw [q2 j (by rw [h1]; exact hj), h1]
    by_cases e : j < catN m k
    · rw [catF_lt e, catF_lt e, h2 j e]
    · rw [catF_ge (by omega), catF_ge (by omega)]
def digP (kf W0 : Nat → Int) (l : List (Nat × (Nat → Int))) : List Int := digL kf W0 (catL l).1 (catL l).2
theorem digP_of (kf W0 : Nat → Int) (m : Nat → Nat) (f : Nat → Nat → Int) (k : Nat) : digL kf W0 (catN m k) (catB m f k) = digP kf W0 ((List.range k).map fun j => (m j, f j)) := by
  obtain ⟨h1, h2⟩ := catL_of m f k
  unfold digP
  rw [h1]
  exact digL_congr fun j hj => (h2 j hj).symm
theorem digP_congr {kf W0 : Nat → Int} {l l' : List (Nat × (Nat → Int))} (h1 : (catL l).1 = (catL l').1) (h2 : ∀ j, j < (catL l).1 → (catL l).2 j = (catL l').2 j) : digP kf W0 l = digP kf W0 l' := by
  unfold digP
  rw [← h1]
  exact digL_congr h2
theorem outL_areB (S : Nat → Int) : areB (lf (outL S)) 64 0 = true := by
  refine areB_mk fun i hi => ?_
  rw [Nat.zero_add]
  have : ∀ c, c < 64 → lf (outL S) c = wr .u8 (ishr .u64 (S (c / 8)) (56 - 8 * ((c % 8 : Nat) : Int))) := fun c hc => by
    have h : ∀ (n : Nat) (g : Nat → Int) (c : Nat), c < n → lf ((List.range n).map g) c = g c := fun n g c hc => by
      have hl : ∀ (l : List Int) (j : Nat) (hj : j < l.length), lf l j = l[j] := by
        intro l
        induction l with
        | nil => intro j hj; simp at hj
        | cons x r ih =>
          intro j hj
          cases j with
          | zero => rfl
          | succ j => exact ih j (by simpa using hj)
      rw [hl _ c (by simpa using hc)]
      simp
    exact h 64 _ c hc
  rw [this i hi, wr8]
  omega
end Go.AM

namespace Go.AM
open Go
/-- one text -/
def CE (l l' : List (Nat × (Nat → Int))) : Prop := (catL l).1 = (catL l').1 ∧ ∀ j, j < (catL l).1 → (catL l).2 j = (catL l').2 j
theorem CE.refl (l : List (Nat × (Nat → Int))) : CE l l := ⟨rfl, fun _ _ => rfl⟩
theorem CE.symm {l l' : List (Nat × (Nat → Int))} (h : CE l l') : CE l' l := ⟨h.1.symm, fun j hj => (h.2 j (by rw [h.1]; exact hj)).symm⟩
theorem CE.trans {l l' l'' : List (Nat × (Nat → Int))} (h : CE l l') (h' : CE l' l'') : CE l l'' := ⟨h.1.trans h'.1, fun j hj => (h.2 j hj).trans (h'.2 j (by rw [← h.1]; exact hj))⟩
theorem CE.cons {l l' : List (Nat × (Nat → Int))} (h : CE l l') {n : Nat} {F F' : Nat → Int} (hF : ∀ j, j < n → F j = F' j) : CE ((n, F) :: l) ((n, F') :: l') := by
  refine ⟨by show n + (catL l).1 = n + (catL l').1; rw [h.1], fun j hj => ?_⟩
  have hj : j < n + (catL l).1 := hj
  show catF n F (catL l).2 j = catF n F' (catL l').2 j
  by_cases e : j < n
  · rw [catF_lt e, catF_lt e, hF j e]
  · rw [catF_ge (by omega), catF_ge (by omega), h.2 _ (by omega)]
theorem CE.join (a b : Nat) (F G : Nat → Int) (l : List (Nat × (Nat → Int))) : CE ((a, F) :: (b, G) :: l) ((a + b, catF a F G) :: l) := by
  refine ⟨by show a + (b + (catL l).1) = a + b + (catL l).1; omega, fun j hj => ?_⟩
  show catF a F (catF b G (catL l).2) j = catF (a + b) (catF a F G) (catL l).2 j
  by_cases e : j < a
  · rw [catF_lt e, catF_lt (by omega), catF_lt e]
  · rw [catF_ge (by omega)]
    by_cases e2 : j - a < b
    · rw [catF_lt e2, catF_lt (by omega), catF_ge (by omega)]
    · rw [catF_ge (by omega), catF_ge (by omega), show j - a - b = j - (a + b) by omega]
theorem CE.split {n k : Nat} (h : k ≤ n) {F G H : Nat → Int} (hG : ∀ j, j < k → G j = F j) (hH : ∀ j, j < n - k → H j = F (k + j)) (l : List (Nat × (Nat → Int))) : CE ((n, F) :: l) ((k, G) :: (n - k, H) :: l) := by
  refine CE.trans ?_ (CE.join k (n - k) G H l).symm
  rw [show k + (n - k) = n by omega]
  refine CE.cons (CE.refl l) fun j hj => ?_
  by_cases e : j < k
  · rw [catF_lt e, hG j e]
  · rw [catF_ge (by omega), hH _ (by omega), show k + (j - k) = j by omega]
theorem CE.nil (F : Nat → Int) (l : List (Nat × (Nat → Int))) : CE l ((0, F) :: l) := by
  refine ⟨by show (catL l).1 = 0 + (catL l).1; omega, fun j hj => ?_⟩
  show (catL l).2 j = catF 0 F (catL l).2 j
  rw [catF_ge (Nat.zero_le _), Nat.sub_zero]
theorem CE.dig {l l' : List (Nat × (Nat → Int))} (h : CE l l') (kf W0 : Nat → Int) : digP kf W0 l = digP kf W0 l' := digP_congr h.1 h.2
end Go.AM

namespace Go.AM
open Go

def u5 (a : Nat → Int) : AV := .agg [.ints .u64 5 a]
/-- carried -/
def carL (a : Nat → Int) : List Int :=
  [a 0 % 2251799813685248 + 19 * (a 4 / 2251799813685248), a 1 % 2251799813685248 + a 0 / 2251799813685248, a 2 % 2251799813685248 + a 1 / 2251799813685248, a 3 % 2251799813685248 + a 2 / 2251799813685248, a 4 % 2251799813685248 + a 3 / 2251799813685248]
def m51 (x : Int) : Int := iand .u64 x 2251799813685247
def s51 (x : Int) : Int := ishr .u64 x 51
def carRaw (a : Nat → Int) : List Int :=
  [wr .u64 (m51 (a 0) + wr .u64 (19 * s51 (a 4))), wr .u64 (m51 (a 1) + s51 (a 0)), wr .u64 (m51 (a 2) + s51 (a 1)), wr .u64 (m51 (a 3) + s51 (a 2)), wr .u64 (m51 (a 4) + s51 (a 3))]

theorem m51_law {x : Int} (hx : 0 ≤ x ∧ x < 18446744073709551616) : m51 x = x % 2251799813685248 := by
  have h1 : BitVec.ofInt 64 x = BitVec.ofNat 64 x.toNat := by
    apply BitVec.eq_of_toNat_eq
    simp only [BitVec.toNat_ofInt, BitVec.toNat_ofNat]
    have : (x % (2 ^ 64 : Nat)).toNat = x.toNat % 2 ^ 64 := by omega
    exact this
  have h2 : x.toNat < 18446744073709551616 := by omega
  have h3 : (BitVec.ofInt 64 x &&& BitVec.ofInt 64 2251799813685247).toNat = x.toNat % 2251799813685248 := by
    rw [h1, BitVec.toNat_and, BitVec.toNat_ofNat]
    have : (BitVec.ofInt 64 2251799813685247).toNat = 2251799813685248 - 1 := by decide
    rw [this, Nat.mod_eq_of_lt h2]
    exact Nat.and_two_pow_sub_one_eq_mod x.toNat 51
  show wr .u64 ((BitVec.ofInt 64 x &&& BitVec.ofInt 64 2251799813685247).toNat : Int) = _
  rw [h3, wr64]
  omega
theorem s51_law (x : Int) : s51 x = x / 2251799813685248 := ishr8 x 51 (by omega)

theorem car_law {a : Nat → Int} (h : inU5 a = true) : carRaw a = carL a := by
  obtain ⟨h0, h1, h2, h3, h4⟩ := inU5_t h
  simp only [carRaw, carL, m51_law h0, m51_law h1, m51_law h2, m51_law h3, m51_law h4, s51_law, wr64]
  have e1 : ∀ x y : Int, 0 ≤ x ∧ x < 18446744073709551616 → 0 ≤ y ∧ y < 18446744073709551616 → (x % 2251799813685248 + y / 2251799813685248) % 18446744073709551616 = x % 2251799813685248 + y / 2251799813685248 := fun x y hx hy => by omega
  rw [e1 _ _ h1 h0, e1 _ _ h2 h1, e1 _ _ h3 h2, e1 _ _ h4 h3]
  congr 1
  omega

/-- sums and differences -/
def addL (a b : Nat → Int) : List Int :=
  [(a 0 + b 0) % 18446744073709551616, (a 1 + b 1) % 18446744073709551616, (a 2 + b 2) % 18446744073709551616, (a 3 + b 3) % 18446744073709551616, (a 4 + b 4) % 18446744073709551616]
def subL (a b : Nat → Int) : List Int :=
  [(a 0 + 4503599627370458 - b 0) % 18446744073709551616, (a 1 + 4503599627370494 - b 1) % 18446744073709551616, (a 2 + 4503599627370494 - b 2) % 18446744073709551616, (a 3 + 4503599627370494 - b 3) % 18446744073709551616, (a 4 + 4503599627370494 - b 4) % 18446744073709551616]
def feAdd (a b : Nat → Int) : List Int := carL (lf (addL a b))
def feSub (a b : Nat → Int) : List Int := carL (lf (subL a b))

theorem inU5_lf (a b c d e : Int) : inU5 (lf [a % 18446744073709551616, b % 18446744073709551616, c % 18446744073709551616, d % 18446744073709551616, e % 18446744073709551616]) = true := by
  simp only [inU5, lf, inU_mod, Bool.and_self]
theorem inU5_addL (a b : Nat → Int) : inU5 (lf (addL a b)) = true := inU5_lf ..
theorem inU5_subL (a b : Nat → Int) : inU5 (lf (subL a b)) = true := inU5_lf ..

/-- products -/
def wS (w : Int × Int) (x y : Int) : Int × Int := (addLo w.1 (x * y / 18446744073709551616) (addC w.2 (x * y % 18446744073709551616) false), addLo w.2 (x * y % 18446744073709551616) false)
def wF (x0 y0 x1 y1 x2 y2 x3 y3 x4 y4 : Int) : Int × Int := wS (wS (wS (wS (wS (0, 0) x0 y0) x1 y1) x2 y2) x3 y3) x4 y4
def cS (w : Int × Int) (c : Int) : Int × Int :=
  (m51 (addLo w.2 c false), ior .u64 (ishl .u64 (wr .u64 (w.1 + b2i (addC w.2 c false))) 13) (s51 (addLo w.2 c false)))
def mulRaw (a b : Nat → Int) : List Int :=
  let s0 := cS (wF (a 0) (b 0) (wr .u64 (19 * a 1)) (b 4) (wr .u64 (19 * a 2)) (b 3) (wr .u64 (19 * a 3)) (b 2) (wr .u64 (19 * a 4)) (b 1)) 0
  let s1 := cS (wF (a 0) (b 1) (a 1) (b 0) (wr .u64 (19 * a 2)) (b 4) (wr .u64 (19 * a 3)) (b 3) (wr .u64 (19 * a 4)) (b 2)) s0.2
  let s2 := cS (wF (a 0) (b 2) (a 1) (b 1) (a 2) (b 0) (wr .u64 (19 * a 3)) (b 4) (wr .u64 (19 * a 4)) (b 3)) s1.2
  let s3 := cS (wF (a 0) (b 3) (a 1) (b 2) (a 2) (b 1) (a 3) (b 0) (wr .u64 (19 * a 4)) (b 4)) s2.2
  let s4 := cS (wF (a 0) (b 4) (a 1) (b 3) (a 2) (b 2) (a 3) (b 1) (a 4) (b 0)) s3.2
  [wr .u64 (s0.1 + wr .u64 (19 * s4.2)), s1.1, s2.1, s3.1, s4.1]

def vS (s c : Int) : Int := (s + c) % 340282366920938463463374607431768211456
def vC (v : Int) : Int := v / 2251799813685248 % 18446744073709551616
def mulL (a b : Nat → Int) : List Int :=
  let n1 := 19 * a 1 % 18446744073709551616
  let n2 := 19 * a 2 % 18446744073709551616
  let n3 := 19 * a 3 % 18446744073709551616
  let n4 := 19 * a 4 % 18446744073709551616
  let v0 := vS (a 0 * b 0 + n1 * b 4 + n2 * b 3 + n3 * b 2 + n4 * b 1) 0
  let v1 := vS (a 0 * b 1 + a 1 * b 0 + n2 * b 4 + n3 * b 3 + n4 * b 2) (vC v0)
  let v2 := vS (a 0 * b 2 + a 1 * b 1 + a 2 * b 0 + n3 * b 4 + n4 * b 3) (vC v1)
  let v3 := vS (a 0 * b 3 + a 1 * b 2 + a 2 * b 1 + a 3 * b 0 + n4 * b 4) (vC v2)
  let v4 := vS (a 0 * b 4 + a 1 * b 3 + a 2 * b 2 + a 3 * b 1 + a 4 * b 0) (vC v3)
  [(v0 % 2251799813685248 + 19 * vC v4) % 18446744073709551616, v1 % 2251799813685248, v2 % 2251799813685248, v3 % 2251799813685248, v4 % 2251799813685248]
def feMul (a b : Nat → Int) : List Int := carL (lf (mulL a b))

abbrev U64 (x : Int) : Prop := 0 ≤ x ∧ x < 18446744073709551616
theorem wS_law {w : Int × Int} {x y s : Int} (h1 : U64 w.1) (h2 : U64 w.2) (hx : U64 x) (hy : U64 y) (hs : 18446744073709551616 * w.1 + w.2 = s % 340282366920938463463374607431768211456) :
    U64 (wS w x y).1 ∧ U64 (wS w x y).2 ∧ 18446744073709551616 * (wS w x y).1 + (wS w x y).2 = (s + x * y) % 340282366920938463463374607431768211456 := by
  have hp := mul_bound64 hx hy
  obtain ⟨c, r, hc, hr, hv, hr0, hr1⟩ := split64 (x * y)
  unfold wS
  rw [hc, hr]
  generalize x * y = p at *
  dsimp only
  by_cases e : 18446744073709551616 ≤ w.2 + r + b2i false
  · rw [show addC w.2 r false = true by unfold addC; simpa using e]
    simp only [addLo, b2i] at *
    omega
  · rw [show addC w.2 r false = false by unfold addC; simpa using e]
    simp only [addLo, b2i] at *
    omega

theorem wF_law {x0 y0 x1 y1 x2 y2 x3 y3 x4 y4 : Int} (a0 : U64 x0) (b0 : U64 y0) (a1 : U64 x1) (b1 : U64 y1) (a2 : U64 x2) (b2 : U64 y2) (a3 : U64 x3) (b3 : U64 y3) (a4 : U64 x4) (b4 : U64 y4) :
    U64 (wF x0 y0 x1 y1 x2 y2 x3 y3 x4 y4).1 ∧ U64 (wF x0 y0 x1 y1 x2 y2 x3 y3 x4 y4).2 ∧
    18446744073709551616 * (wF x0 y0 x1 y1 x2 y2 x3 y3 x4 y4).1 + (wF x0 y0 x1 y1 x2 y2 x3 y3 x4 y4).2 = (x0 * y0 + x1 * y1 + x2 * y2 + x3 * y3 + x4 * y4) % 340282366920938463463374607431768211456 := by
  have q0 := wS_law (w := (0, 0)) (s := 0) (by decide) (by decide) a0 b0 (by decide)
  have q1 := wS_law q0.1 q0.2.1 a1 b1 q0.2.2
  have q2 := wS_law q1.1 q1.2.1 a2 b2 q1.2.2
  have q3 := wS_law q2.1 q2.2.1 a3 b3 q2.2.2
  have q4 := wS_law q3.1 q3.2.1 a4 b4 q3.2.2
  rw [Int.zero_add] at q4
  exact q4

theorem or13 {h l : Int} (hh : U64 h) (hl : 0 ≤ l ∧ l < 8192) : ior .u64 (ishl .u64 h 13) l = (h * 8192 + l) % 18446744073709551616 := by
  have e1 : ishl .u64 h 13 = h * 8192 % 18446744073709551616 := by
    show wr .u64 (h * 2 ^ (min (13 : Int).toNat 64)) = _
    rw [wr64]; rfl
  rw [e1, ior64 ⟨by omega, by omega⟩ ⟨hl.1, by omega⟩]
  have e2 : (h * 8192 % 18446744073709551616).toNat = 2 ^ 13 * (h % 2251799813685248).toNat := by omega
  rw [e2, ← Nat.two_pow_add_eq_or_of_lt (i := 13) (b := l.toNat) (by omega)]
  omega

theorem cS_law {w : Int × Int} {c s : Int} (h1 : U64 w.1) (h2 : U64 w.2) (hc : U64 c) (hs : 18446744073709551616 * w.1 + w.2 = s % 340282366920938463463374607431768211456) :
    cS w c = (vS s c % 2251799813685248, vC (vS s c)) ∧ U64 (vC (vS s c)) := by
  have key : ∃ h l, U64 h ∧ U64 l ∧ addLo w.2 c false = l ∧ wr .u64 (w.1 + b2i (addC w.2 c false)) = h ∧ 18446744073709551616 * h + l = vS s c := by
    by_cases e : 18446744073709551616 ≤ w.2 + c + b2i false
    · rw [show addC w.2 c false = true by unfold addC; simpa using e]
      refine ⟨_, _, ?_, ?_, rfl, rfl, ?_⟩ <;> simp only [addLo, b2i, wr64, vS, U64] at * <;> omega
    · rw [show addC w.2 c false = false by unfold addC; simpa using e]
      refine ⟨_, _, ?_, ?_, rfl, rfl, ?_⟩ <;> simp only [addLo, b2i, wr64, vS, U64] at * <;> omega
  obtain ⟨h, l, hh, hl, e1, e2, e3⟩ := key
  unfold cS
  rw [e1, e2, m51_law hl, s51_law, or13 hh ⟨by omega, by omega⟩, ← e3]
  unfold vC
  refine ⟨Prod.ext ?_ ?_, by omega, by omega⟩ <;> dsimp only <;> omega

theorem mul_law {a b : Nat → Int} (ha : inU5 a = true) (hb : inU5 b = true) : mulRaw a b = mulL a b := by
  obtain ⟨a0, a1, a2, a3, a4⟩ := inU5_t ha
  obtain ⟨b0, b1, b2, b3, b4⟩ := inU5_t hb
  have n : ∀ x, U64 (19 * x % 18446744073709551616) := fun x => ⟨by omega, by omega⟩
  simp only [mulRaw, mulL, wr64]
  have w0 := wF_law a0 b0 (n (a 1)) b4 (n (a 2)) b3 (n (a 3)) b2 (n (a 4)) b1
  have w1 := wF_law a0 b1 a1 b0 (n (a 2)) b4 (n (a 3)) b3 (n (a 4)) b2
  have w2 := wF_law a0 b2 a1 b1 a2 b0 (n (a 3)) b4 (n (a 4)) b3
  have w3 := wF_law a0 b3 a1 b2 a2 b1 a3 b0 (n (a 4)) b4
  have w4 := wF_law a0 b4 a1 b3 a2 b2 a3 b1 a4 b0
  have c0 := cS_law w0.1 w0.2.1 (c := 0) (by decide) w0.2.2
  have c1 := cS_law w1.1 w1.2.1 c0.2 w1.2.2
  have c2 := cS_law w2.1 w2.2.1 c1.2 w2.2.2
  have c3 := cS_law w3.1 w3.2.1 c2.2 w3.2.2
  have c4 := cS_law w4.1 w4.2.1 c3.2 w4.2.2
  rw [c0.1, c1.1, c2.1, c3.1, c4.1]
  congr 1
  dsimp only
  omega
theorem inU5_mulL (a b : Nat → Int) : inU5 (lf (mulL a b)) = true := by
  have e : ∀ x : Int, inU (x % 2251799813685248) = true := fun x => inU_of ⟨by omega, by omega⟩
  simp only [mulL, inU5, lf, inU_mod, e, Bool.and_self]
theorem inU5_carL {a : Nat → Int} (h : inU5 a = true) : inU5 (lf (carL a)) = true := by
  obtain ⟨h0, h1, h2, h3, h4⟩ := inU5_t h
  have e : ∀ x y : Int, U64 x → U64 y → inU (x % 2251799813685248 + y / 2251799813685248) = true := fun x y hx hy => inU_of ⟨by omega, by omega⟩
  have e' : inU (a 0 % 2251799813685248 + 19 * (a 4 / 2251799813685248)) = true := inU_of ⟨by omega, by omega⟩
  simp only [carL, inU5, lf, e', e _ _ h1 h0, e _ _ h2 h1, e _ _ h3 h2, e _ _ h4 h3, Bool.and_self]
theorem inU5_feMul (a b : Nat → Int) : inU5 (lf (feMul a b)) = true := inU5_carL (inU5_mulL a b)
theorem inU5_feAdd (a b : Nat → Int) : inU5 (lf (feAdd a b)) = true := inU5_carL (inU5_addL a b)
theorem inU5_feSub (a b : Nat → Int) : inU5 (lf (feSub a b)) = true := inU5_carL (inU5_subL a b)

/-! what the reckoning takes for granted -/
def xAt (a : Nat → Int) (k i : Nat) : Int := bif Nat.ble i k then a i else wr .u64 (19 * a i)
def wAt (a b : Nat → Int) (k : Nat) : Nat → Int × Int
  | 0 => (0, 0)
  | m + 1 => wS (wAt a b k m) (xAt a k m) (b ((k + 5 - m) % 5))
def ckM (w : Int × Int) (x y : Int) : Bool := ckL [inU x && inU y, inU w.2 && inU (x * y % 18446744073709551616), inU w.1 && inU (x * y / 18446744073709551616)]
def mulCk (a b : Nat → Int) : List Bool :=
  let s0 := cS (wAt a b 0 5) 0
  let s1 := cS (wAt a b 1 5) s0.2
  let s2 := cS (wAt a b 2 5) s1.2
  let s3 := cS (wAt a b 3 5) s2.2
  ((List.range 5).flatMap fun i => (List.range 5).map fun j => ckM (wAt a b ((i + j) % 5) i) (xAt a ((i + j) % 5) i) (b j)) ++
    [inU (wAt a b 0 5).2 && inU 0, inU (wAt a b 1 5).2 && inU s0.2, inU (wAt a b 2 5).2 && inU s1.2, inU (wAt a b 3 5).2 && inU s2.2, inU (wAt a b 4 5).2 && inU s3.2, inU5 (lf (mulRaw a b))]

theorem xAt_U {a : Nat → Int} (ha : inU5 a = true) (k : Nat) {i : Nat} (hi : i < 5) : U64 (xAt a k i) := by
  obtain ⟨a0, a1, a2, a3, a4⟩ := inU5_t ha
  unfold xAt
  cases Nat.ble i k
  · exact wr_range _
  · match i, hi with
    | 0, _ => exact a0
    | 1, _ => exact a1
    | 2, _ => exact a2
    | 3, _ => exact a3
    | 4, _ => exact a4
theorem at_U {b : Nat → Int} (hb : inU5 b = true) {j : Nat} (hj : j < 5) : U64 (b j) := by
  obtain ⟨a0, a1, a2, a3, a4⟩ := inU5_t hb
  match j, hj with
  | 0, _ => exact a0
  | 1, _ => exact a1
  | 2, _ => exact a2
  | 3, _ => exact a3
  | 4, _ => exact a4
theorem wS_U (w : Int × Int) (x y : Int) : U64 (wS w x y).1 ∧ U64 (wS w x y).2 := ⟨addLo_range _ _ _, addLo_range _ _ _⟩
theorem wAt_U (a b : Nat → Int) (k : Nat) : ∀ m, U64 (wAt a b k m).1 ∧ U64 (wAt a b k m).2
  | 0 => show U64 0 ∧ U64 0 from by decide
  | m + 1 => wS_U _ _ _
theorem ckM_t {w : Int × Int} {x y : Int} (h1 : U64 w.1) (h2 : U64 w.2) (hx : U64 x) (hy : U64 y) : ckM w x y = true := by
  have hp := mul_bound64 hx hy
  have e : inU (x * y / 18446744073709551616) = true := by
    generalize x * y = p at *
    exact inU_of ⟨by omega, by omega⟩
  simp [ckM, ckL, inU_of h1, inU_of h2, inU_of hx, inU_of hy, inU_mod, e]
theorem cS_U (w : Int × Int) (c : Int) : U64 (cS w c).2 := by
  unfold cS
  have : ∀ x y : Int, U64 (ior .u64 x y) := fun x y => wr_range _
  exact this _ _
theorem mulCk_law {a b : Nat → Int} (ha : inU5 a = true) (hb : inU5 b = true) : ckL (mulCk a b) = true := by
  refine ckL_t.2 fun c hc => ?_
  simp only [mulCk, List.mem_append, List.mem_flatMap, List.mem_map, List.mem_range] at hc
  rcases hc with ⟨i, hi, j, hj, rfl⟩ | hc
  · exact ckM_t (wAt_U ..).1 (wAt_U ..).2 (xAt_U ha _ hi) (at_U hb hj)
  · have u : ∀ k, inU (wAt a b k 5).2 = true := fun k => inU_of (wAt_U ..).2
    have v : ∀ w c, inU (cS w c).2 = true := fun w c => inU_of (cS_U w c)
    have m : inU5 (lf (mulRaw a b)) = true := by rw [mul_law ha hb]; exact inU5_mulL a b
    simp only [u, v, m, List.mem_cons, List.not_mem_nil, or_false, show inU 0 = true by decide, Bool.and_self] at hc
    rcases hc with h | h | h | h | h | h <;> exact h

/-! lists of limbs -/
def l5 (a : Nat → Int) : List Int := [a 0, a 1, a 2, a 3, a 4]
def r5 (l : List Int) : List Int := l5 (lf l)
def chk5 (l : List Int) : Bool := inU5 (lf l)
def addV (a b : List Int) : List Int := feAdd (lf a) (lf b)
def subV (a b : List Int) : List Int := feSub (lf a) (lf b)
def mulV (a b : List Int) : List Int := feMul (lf a) (lf b)
theorem chk5_l5 (a : Nat → Int) : chk5 (l5 a) = inU5 a := rfl
theorem chk5_r5 (l : List Int) : chk5 (r5 l) = chk5 l := rfl
theorem chk5_addV (a b : List Int) : chk5 (addV a b) = true := inU5_feAdd _ _
theorem chk5_subV (a b : List Int) : chk5 (subV a b) = true := inU5_feSub _ _
theorem chk5_mulV (a b : List Int) : chk5 (mulV a b) = true := inU5_feMul _ _
theorem addV_l5 (a b : Nat → Int) : addV (l5 a) (l5 b) = feAdd a b := rfl
theorem subV_l5 (a b : Nat → Int) : subV (l5 a) (l5 b) = feSub a b := rfl
theorem mulV_l5 (a b : Nat → Int) : mulV (l5 a) (l5 b) = feMul a b := rfl

/-! points: x, y, z, t -/
def pt (p : Nat → Int) : AV := .agg [.ints .u64 20 p]
def px (p : Nat → Int) : List Int := [p 0, p 1, p 2, p 3, p 4]
def py (p : Nat → Int) : List Int := [p 5, p 6, p 7, p 8, p 9]
def pz (p : Nat → Int) : List Int := [p 10, p 11, p 12, p 13, p 14]
def pT (p : Nat → Int) : List Int := [p 15, p 16, p 17, p 18, p 19]
def chkP (p : Nat → Int) : Bool := chk5 (px p) && (chk5 (py p) && (chk5 (pz p) && chk5 (pT p)))
def cvL : List Int := [929955233495203, 466365720129213, 1662059464998953, 2033849074728123, 1442794654840575]
def ptAdd (p q : Nat → Int) : List Int :=
  let a := mulV (px p) (px q)
  let b := mulV (py p) (py q)
  let c := mulV (r5 (mulV (r5 cvL) (pT p))) (pT q)
  let d := mulV (pz p) (pz q)
  let e := subV (r5 (subV (r5 (mulV (r5 (addV (px p) (py p))) (r5 (addV (px q) (py q))))) (r5 a))) (r5 b)
  let f := subV (r5 d) (r5 c)
  let g := addV (r5 d) (r5 c)
  let h := addV (r5 b) (r5 a)
  mulV (r5 e) (r5 f) ++ (mulV (r5 g) (r5 h) ++ (mulV (r5 f) (r5 g) ++ mulV (r5 e) (r5 h)))
def ptDbl (p : Nat → Int) : List Int :=
  let a := mulV (px p) (px p)
  let b := mulV (py p) (py p)
  let c0 := mulV (pz p) (pz p)
  let c := addV (r5 c0) (r5 c0)
  let h := addV (r5 a) (r5 b)
  let s := addV (px p) (py p)
  let e := subV (r5 h) (r5 (mulV (r5 s) (r5 s)))
  let g := subV (r5 a) (r5 b)
  let f := addV (r5 c) (r5 g)
  mulV (r5 e) (r5 f) ++ (mulV (r5 g) (r5 h) ++ (mulV (r5 f) (r5 g) ++ mulV (r5 e) (r5 h)))

def ptAddCk (p q : Nat → Int) : List Bool :=
  let a := mulV (px p) (px q)
  let b := mulV (py p) (py q)
  let c := mulV (r5 (mulV (r5 cvL) (pT p))) (pT q)
  let d := mulV (pz p) (pz q)
  let e := subV (r5 (subV (r5 (mulV (r5 (addV (px p) (py p))) (r5 (addV (px q) (py q))))) (r5 a))) (r5 b)
  let f := subV (r5 d) (r5 c)
  let g := addV (r5 d) (r5 c)
  let h := addV (r5 b) (r5 a)
  [chk5 (px p) && chk5 (px q), chk5 (py p) && chk5 (py q), chk5 (r5 cvL) && chk5 (pT p), chk5 (r5 (mulV (r5 cvL) (pT p))) && chk5 (pT q), chk5 (pz p) && chk5 (pz q),
    chk5 (r5 (addV (px p) (py p))) && chk5 (r5 (addV (px q) (py q))), chk5 (r5 e) && chk5 (r5 f), chk5 (r5 g) && chk5 (r5 h), chk5 (r5 f) && chk5 (r5 g), chk5 (r5 e) && chk5 (r5 h)]
def ptDblCk (p : Nat → Int) : List Bool :=
  let a := mulV (px p) (px p)
  let b := mulV (py p) (py p)
  let c0 := mulV (pz p) (pz p)
  let c := addV (r5 c0) (r5 c0)
  let h := addV (r5 a) (r5 b)
  let s := addV (px p) (py p)
  let e := subV (r5 h) (r5 (mulV (r5 s) (r5 s)))
  let g := subV (r5 a) (r5 b)
  let f := addV (r5 c) (r5 g)
  [chk5 (px p), chk5 (py p), chk5 (pz p), chk5 (r5 s), chk5 (r5 e) && chk5 (r5 f), chk5 (r5 g) && chk5 (r5 h), chk5 (r5 f) && chk5 (r5 g), chk5 (r5 e) && chk5 (r5 h)]
theorem ptAddCk_law {p q : Nat → Int} (hp : chkP p = true) (hq : chkP q = true) : ckL (ptAddCk p q) = true := by
  simp only [chkP, Bool.and_eq_true] at hp hq
  simp only [ptAddCk, ckL, List.foldl, chk5_r5, chk5_mulV, chk5_addV, chk5_subV, hp, hq, show chk5 cvL = true by decide, Bool.and_self]
theorem ptDblCk_law {p : Nat → Int} (hp : chkP p = true) : ckL (ptDblCk p) = true := by
  simp only [chkP, Bool.and_eq_true] at hp
  simp only [ptDblCk, ckL, List.foldl, chk5_r5, chk5_mulV, chk5_addV, chk5_subV, hp, Bool.and_self]
theorem len_car (a : Nat → Int) : (carL a).length = 5 := rfl
theorem chkP_four {a b c d : List Int} (ha : a.length = 5) (hb : b.length = 5) (hc : c.length = 5) (hd : d.length = 5) (ka : chk5 a = true) (kb : chk5 b = true) (kc : chk5 c = true) (kd : chk5 d = true) : chkP (lf (a ++ (b ++ (c ++ d)))) = true := by
  match a, ha with
  | [a0, a1, a2, a3, a4], _ =>
    match b, hb with
    | [b0, b1, b2, b3, b4], _ =>
      match c, hc with
      | [c0, c1, c2, c3, c4], _ =>
        match d, hd with
        | [d0, d1, d2, d3, d4], _ =>
          simp only [chkP, Bool.and_eq_true]
          exact ⟨ka, kb, kc, kd⟩
theorem chkP_add (p q : Nat → Int) : chkP (lf (ptAdd p q)) = true := chkP_four rfl rfl rfl rfl (chk5_mulV _ _) (chk5_mulV _ _) (chk5_mulV _ _) (chk5_mulV _ _)
theorem chkP_dbl (p : Nat → Int) : chkP (lf (ptDbl p)) = true := chkP_four rfl rfl rfl rfl (chk5_mulV _ _) (chk5_mulV _ _) (chk5_mulV _ _) (chk5_mulV _ _)
end Go.AM
