/-
  Texts of the claim: FeIO Am40 Am41 Am42 Am43 Am44 Am45 Gf2 GfIO GfOut GfCan Prim Prim2 Fq Fq2.
-/
import Derived.Test.YtjebjiakggmjhaaGreatAd
import Derived.Carry
import Derived.ChangeSame
import Derived.OpenShut
namespace Go.AM
open Go
theorem ior_comm (x y : Int) : ior .u64 x y = ior .u64 y x := by
  unfold ior
  rw [BitVec.or_comm]
theorem orS12 {h l : Int} (_hh : U64 h) (hl : 0 ≤ l ∧ l < 4096) : ior .u64 l (ishl .u64 h 12) = (h * 4096 + l) % 18446744073709551616 := by
  have e1 : ishl .u64 h 12 = h * 4096 % 18446744073709551616 := by
    show wr .u64 (h * 2 ^ (min (12 : Int).toNat 64)) = _
    rw [wr64]; rfl
  rw [ior_comm, e1, ior64 ⟨by omega, by omega⟩ ⟨hl.1, by omega⟩]
  have e2 : (h * 4096 % 18446744073709551616).toNat = 2 ^ 12 * (h % 4503599627370496).toNat := by omega
  rw [e2, ← Nat.two_pow_add_eq_or_of_lt (i := 12) (b := l.toNat) (by omega)]
  omega
theorem orS13 {h l : Int} (_hh : U64 h) (hl : 0 ≤ l ∧ l < 8192) : ior .u64 l (ishl .u64 h 13) = (h * 8192 + l) % 18446744073709551616 := by
  have e1 : ishl .u64 h 13 = h * 8192 % 18446744073709551616 := by
    show wr .u64 (h * 2 ^ (min (13 : Int).toNat 64)) = _
    rw [wr64]; rfl
  rw [ior_comm, e1, ior64 ⟨by omega, by omega⟩ ⟨hl.1, by omega⟩]
  have e2 : (h * 8192 % 18446744073709551616).toNat = 2 ^ 13 * (h % 2251799813685248).toNat := by omega
  rw [e2, ← Nat.two_pow_add_eq_or_of_lt (i := 13) (b := l.toNat) (by omega)]
  omega
theorem orS25 {h l : Int} (_hh : U64 h) (hl : 0 ≤ l ∧ l < 33554432) : ior .u64 l (ishl .u64 h 25) = (h * 33554432 + l) % 18446744073709551616 := by
  have e1 : ishl .u64 h 25 = h * 33554432 % 18446744073709551616 := by
    show wr .u64 (h * 2 ^ (min (25 : Int).toNat 64)) = _
    rw [wr64]; rfl
  rw [ior_comm, e1, ior64 ⟨by omega, by omega⟩ ⟨hl.1, by omega⟩]
  have e2 : (h * 33554432 % 18446744073709551616).toNat = 2 ^ 25 * (h % 549755813888).toNat := by omega
  rw [e2, ← Nat.two_pow_add_eq_or_of_lt (i := 25) (b := l.toNat) (by omega)]
  omega
theorem orS26 {h l : Int} (_hh : U64 h) (hl : 0 ≤ l ∧ l < 67108864) : ior .u64 l (ishl .u64 h 26) = (h * 67108864 + l) % 18446744073709551616 := by
  have e1 : ishl .u64 h 26 = h * 67108864 % 18446744073709551616 := by
    show wr .u64 (h * 2 ^ (min (26 : Int).toNat 64)) = _
    rw [wr64]; rfl
  rw [ior_comm, e1, ior64 ⟨by omega, by omega⟩ ⟨hl.1, by omega⟩]
  have e2 : (h * 67108864 % 18446744073709551616).toNat = 2 ^ 26 * (h % 274877906944).toNat := by omega
  rw [e2, ← Nat.two_pow_add_eq_or_of_lt (i := 26) (b := l.toNat) (by omega)]
  omega
theorem orS38 {h l : Int} (_hh : U64 h) (hl : 0 ≤ l ∧ l < 274877906944) : ior .u64 l (ishl .u64 h 38) = (h * 274877906944 + l) % 18446744073709551616 := by
  have e1 : ishl .u64 h 38 = h * 274877906944 % 18446744073709551616 := by
    show wr .u64 (h * 2 ^ (min (38 : Int).toNat 64)) = _
    rw [wr64]; rfl
  rw [ior_comm, e1, ior64 ⟨by omega, by omega⟩ ⟨hl.1, by omega⟩]
  have e2 : (h * 274877906944 % 18446744073709551616).toNat = 2 ^ 38 * (h % 67108864).toNat := by omega
  rw [e2, ← Nat.two_pow_add_eq_or_of_lt (i := 38) (b := l.toNat) (by omega)]
  omega
theorem orS39 {h l : Int} (_hh : U64 h) (hl : 0 ≤ l ∧ l < 549755813888) : ior .u64 l (ishl .u64 h 39) = (h * 549755813888 + l) % 18446744073709551616 := by
  have e1 : ishl .u64 h 39 = h * 549755813888 % 18446744073709551616 := by
    show wr .u64 (h * 2 ^ (min (39 : Int).toNat 64)) = _
    rw [wr64]; rfl
  rw [ior_comm, e1, ior64 ⟨by omega, by omega⟩ ⟨hl.1, by omega⟩]
  have e2 : (h * 549755813888 % 18446744073709551616).toNat = 2 ^ 39 * (h % 33554432).toNat := by omega
  rw [e2, ← Nat.two_pow_add_eq_or_of_lt (i := 39) (b := l.toNat) (by omega)]
  omega
theorem orS51 {h l : Int} (_hh : U64 h) (hl : 0 ≤ l ∧ l < 2251799813685248) : ior .u64 l (ishl .u64 h 51) = (h * 2251799813685248 + l) % 18446744073709551616 := by
  have e1 : ishl .u64 h 51 = h * 2251799813685248 % 18446744073709551616 := by
    show wr .u64 (h * 2 ^ (min (51 : Int).toNat 64)) = _
    rw [wr64]; rfl
  rw [ior_comm, e1, ior64 ⟨by omega, by omega⟩ ⟨hl.1, by omega⟩]
  have e2 : (h * 2251799813685248 % 18446744073709551616).toNat = 2 ^ 51 * (h % 8192).toNat := by omega
  rw [e2, ← Nat.two_pow_add_eq_or_of_lt (i := 51) (b := l.toNat) (by omega)]
  omega
def loadRaw (b : Nat → Int) : List Int :=
  let w0 := orB b 0 8
  let w1 := orB b 1 8
  let w2 := orB b 2 8
  let w3 := orB b 3 8
  [wr .u64 (m51 w0 + wr .u64 (19 * ishr .u64 w3 63)), m51 (ior .u64 (ishr .u64 w0 51) (ishl .u64 w1 13)), m51 (ior .u64 (ishr .u64 w1 38) (ishl .u64 w2 26)), m51 (ior .u64 (ishr .u64 w2 25) (ishl .u64 w3 39)), m51 (ishr .u64 w3 12)]
def loadL (v : Int) : List Int := [v % 2251799813685248 + 19 * (v / 57896044618658097711785492504343953926634992332820282019728792003956564819968), v / 2251799813685248 % 2251799813685248, v / 5070602400912917605986812821504 % 2251799813685248, v / 11417981541647679048466287755595961091061972992 % 2251799813685248, v / 25711008708143844408671393477458601640355247900524685364822016 % 2251799813685248]
theorem load_law {b : Nat → Int} (h : areB b 32 0 = true) : loadRaw b = loadL (hval b 32 0) := by
  have hr := hval_range h
  have e := from_law h
  have e0 : orB b 0 8 = limbs4 (hval b 32 0) 0 := congrFun e 0
  have e1 : orB b 1 8 = limbs4 (hval b 32 0) 1 := congrFun e 1
  have e2 : orB b 2 8 = limbs4 (hval b 32 0) 2 := congrFun e 2
  have e3 : orB b 3 8 = limbs4 (hval b 32 0) 3 := congrFun e 3
  unfold loadRaw loadL
  dsimp only
  rw [e0, e1, e2, e3]
  generalize hval b 32 0 = v at *
  simp only [limbs4, lf, ishr8 _ 63 (by omega), show ∀ x, ishr .u64 x 51 = x / 2 ^ 51 from fun x => ishr8 x 51 (by omega), show ∀ x, ishr .u64 x 63 = x / 2 ^ 63 from fun x => ishr8 x 63 (by omega), show ∀ x, ishr .u64 x 38 = x / 2 ^ 38 from fun x => ishr8 x 38 (by omega), show ∀ x, ishr .u64 x 25 = x / 2 ^ 25 from fun x => ishr8 x 25 (by omega), show ∀ x, ishr .u64 x 12 = x / 2 ^ 12 from fun x => ishr8 x 12 (by omega)]
  have r : ∀ x : Int, U64 (x % 18446744073709551616) := fun x => ⟨by omega, by omega⟩
  have hv : 0 ≤ v ∧ v < 115792089237316195423570985008687907853269984665640564039457584007913129639936 := ⟨hr.1, by have := hr.2; simpa using this⟩
  obtain ⟨w0, f0⟩ : ∃ q, v % 18446744073709551616 = q := ⟨_, rfl⟩
  obtain ⟨w1, f1⟩ : ∃ q, v / 18446744073709551616 % 18446744073709551616 = q := ⟨_, rfl⟩
  obtain ⟨w2, f2⟩ : ∃ q, v / 18446744073709551616 / 18446744073709551616 % 18446744073709551616 = q := ⟨_, rfl⟩
  obtain ⟨w3, f3⟩ : ∃ q, v / 18446744073709551616 / 18446744073709551616 / 18446744073709551616 % 18446744073709551616 = q := ⟨_, rfl⟩
  have c0 : U64 w0 := by rw [← f0]; exact r _
  have c1 : U64 w1 := by rw [← f1]; exact r _
  have c2 : U64 w2 := by rw [← f2]; exact r _
  have c3 : U64 w3 := by rw [← f3]; exact r _
  have hw : v = w0 + 18446744073709551616 * (w1 + 18446744073709551616 * (w2 + 18446744073709551616 * w3)) := by omega
  rw [f0, f1, f2, f3]
  clear f0 f1 f2 f3 e0 e1 e2 e3 e r hv hr h
  subst hw
  rw [orS13 c1 ⟨by omega, by omega⟩, orS26 c2 ⟨by omega, by omega⟩, orS39 c3 ⟨by omega, by omega⟩]
  rw [m51_law c0, m51_law (x := (w1 * 8192 + w0 / 2 ^ 51) % 18446744073709551616) ⟨by omega, by omega⟩, m51_law (x := (w2 * 67108864 + w1 / 2 ^ 38) % 18446744073709551616) ⟨by omega, by omega⟩, m51_law (x := (w3 * 549755813888 + w2 / 2 ^ 25) % 18446744073709551616) ⟨by omega, by omega⟩, m51_law (x := w3 / 2 ^ 12) ⟨by omega, by omega⟩, wr64, wr64]
  have g0 : (w0 % 2251799813685248 + 19 * (w3 / 2 ^ 63) % 18446744073709551616) % 18446744073709551616 = w0 % 2251799813685248 + 19 * (w3 / 2 ^ 63) := by omega
  have g1 : (w0 + 18446744073709551616 * (w1 + 18446744073709551616 * (w2 + 18446744073709551616 * w3))) / 57896044618658097711785492504343953926634992332820282019728792003956564819968 = w3 / 9223372036854775808 := by omega
  rw [g0, g1]
  have d1 : (w0 + 18446744073709551616 * (w1 + 18446744073709551616 * (w2 + 18446744073709551616 * w3))) / 2251799813685248 = w0 / 2 ^ 51 + 8192 * (w1 + 18446744073709551616 * (w2 + 18446744073709551616 * w3)) := by omega
  have d2 : (w0 + 18446744073709551616 * (w1 + 18446744073709551616 * (w2 + 18446744073709551616 * w3))) / 5070602400912917605986812821504 = w1 / 2 ^ 38 + 67108864 * (w2 + 18446744073709551616 * w3) := by omega
  have d3 : (w0 + 18446744073709551616 * (w1 + 18446744073709551616 * (w2 + 18446744073709551616 * w3))) / 11417981541647679048466287755595961091061972992 = w2 / 2 ^ 25 + 549755813888 * w3 := by omega
  have d4 : (w0 + 18446744073709551616 * (w1 + 18446744073709551616 * (w2 + 18446744073709551616 * w3))) / 25711008708143844408671393477458601640355247900524685364822016 = w3 / 2 ^ 12 := by omega
  rw [d1, d2, d3, d4]
  clear d1 d2 d3 d4 g0 g1
  generalize w0 / 2 ^ 51 = x0
  generalize w1 / 2 ^ 38 = x1
  generalize w2 / 2 ^ 25 = x2
  generalize w3 / 2 ^ 12 = x3
  congr 1
  · omega
  congr 1
  · omega
  congr 1
  · omega
  congr 1
  omega
theorem loadL_law {v : Int} (hv : 0 ≤ v ∧ v < 115792089237316195423570985008687907853269984665640564039457584007913129639936) : bd5 (loadL v) = true ∧ fm (loadL v) = v % pP := by
  refine ⟨?_, ?_⟩
  · rw [bd5_t]
    simp only [loadL, lf]
    omega
  · have : fv (loadL v) = v - v / 57896044618658097711785492504343953926634992332820282019728792003956564819968 * pP := by
      simp only [fv, loadL, lf, pP]
      omega
    unfold fm
    rw [this, Int.sub_mul_emod_self_right]
def byW (l : Nat → Int) : Nat → Int :=
  let q0 := ishr .u64 (wr .u64 (l 0 + 19)) 51
  let q1 := ishr .u64 (wr .u64 (l 1 + q0)) 51
  let q2 := ishr .u64 (wr .u64 (l 2 + q1)) 51
  let q3 := ishr .u64 (wr .u64 (l 3 + q2)) 51
  let q4 := ishr .u64 (wr .u64 (l 4 + q3)) 51
  let z0 := wr .u64 (l 0 + wr .u64 (19 * q4))
  let z1 := wr .u64 (l 1 + ishr .u64 z0 51)
  let z2 := wr .u64 (l 2 + ishr .u64 z1 51)
  let z3 := wr .u64 (l 3 + ishr .u64 z2 51)
  let z4 := wr .u64 (l 4 + ishr .u64 z3 51)
  let m0 := m51 z0
  let m1 := m51 z1
  let m2 := m51 z2
  let m3 := m51 z3
  let m4 := m51 z4
  lf [ior .u64 m0 (ishl .u64 m1 51), ior .u64 (ishr .u64 m1 13) (ishl .u64 m2 38), ior .u64 (ishr .u64 m2 26) (ishl .u64 m3 25), ior .u64 (ishr .u64 m3 39) (ishl .u64 m4 12)]
def bytesRaw (a : Nat → Int) : List Int := backL (byW (lf (carL (lf (carL a)))))
theorem q_chain {a0 a1 a2 a3 a4 q0 q1 q2 q3 q4 r0 r1 r2 r3 r4 : Int} (e0 : a0 + 19 = 2251799813685248 * q0 + r0) (e1 : a1 + q0 = 2251799813685248 * q1 + r1) (e2 : a2 + q1 = 2251799813685248 * q2 + r2) (e3 : a3 + q2 = 2251799813685248 * q3 + r3) (e4 : a4 + q3 = 2251799813685248 * q4 + r4)
    (b0 : 0 ≤ r0 ∧ r0 < 2251799813685248) (b1 : 0 ≤ r1 ∧ r1 < 2251799813685248) (b2 : 0 ≤ r2 ∧ r2 < 2251799813685248) (b3 : 0 ≤ r3 ∧ r3 < 2251799813685248) (b4 : 0 ≤ r4 ∧ r4 < 2251799813685248) :
    57896044618658097711785492504343953926634992332820282019728792003956564819968 * q4 ≤ a0 + a1 * 2251799813685248 + a2 * 5070602400912917605986812821504 + a3 * 11417981541647679048466287755595961091061972992 + a4 * 25711008708143844408671393477458601640355247900524685364822016 + 19 ∧ a0 + a1 * 2251799813685248 + a2 * 5070602400912917605986812821504 + a3 * 11417981541647679048466287755595961091061972992 + a4 * 25711008708143844408671393477458601640355247900524685364822016 + 19 < 57896044618658097711785492504343953926634992332820282019728792003956564819968 * q4 + 57896044618658097711785492504343953926634992332820282019728792003956564819968 := by
  omega
theorem z_chain {a0 a1 a2 a3 a4 q z0 z1 z2 z3 z4 m0 m1 m2 m3 m4 : Int} (e0 : a0 + 19 * q = 2251799813685248 * z0 + m0) (e1 : a1 + z0 = 2251799813685248 * z1 + m1) (e2 : a2 + z1 = 2251799813685248 * z2 + m2) (e3 : a3 + z2 = 2251799813685248 * z3 + m3) (e4 : a4 + z3 = 2251799813685248 * z4 + m4)
    (b0 : 0 ≤ m0 ∧ m0 < 2251799813685248) (b1 : 0 ≤ m1 ∧ m1 < 2251799813685248) (b2 : 0 ≤ m2 ∧ m2 < 2251799813685248) (b3 : 0 ≤ m3 ∧ m3 < 2251799813685248) (b4 : 0 ≤ m4 ∧ m4 < 2251799813685248) (hq : q = 0 ∨ q = 1)
    (h1 : 57896044618658097711785492504343953926634992332820282019728792003956564819968 * q ≤ a0 + a1 * 2251799813685248 + a2 * 5070602400912917605986812821504 + a3 * 11417981541647679048466287755595961091061972992 + a4 * 25711008708143844408671393477458601640355247900524685364822016 + 19) (h2 : a0 + a1 * 2251799813685248 + a2 * 5070602400912917605986812821504 + a3 * 11417981541647679048466287755595961091061972992 + a4 * 25711008708143844408671393477458601640355247900524685364822016 + 19 < 57896044618658097711785492504343953926634992332820282019728792003956564819968 * q + 57896044618658097711785492504343953926634992332820282019728792003956564819968) (h3 : 0 ≤ a0 + a1 * 2251799813685248 + a2 * 5070602400912917605986812821504 + a3 * 11417981541647679048466287755595961091061972992 + a4 * 25711008708143844408671393477458601640355247900524685364822016 ∧ a0 + a1 * 2251799813685248 + a2 * 5070602400912917605986812821504 + a3 * 11417981541647679048466287755595961091061972992 + a4 * 25711008708143844408671393477458601640355247900524685364822016 < 57896044618659743216342813710386108895817549683325264755594425583819913428992) :
    m0 + m1 * 2251799813685248 + m2 * 5070602400912917605986812821504 + m3 * 11417981541647679048466287755595961091061972992 + m4 * 25711008708143844408671393477458601640355247900524685364822016 = (a0 + a1 * 2251799813685248 + a2 * 5070602400912917605986812821504 + a3 * 11417981541647679048466287755595961091061972992 + a4 * 25711008708143844408671393477458601640355247900524685364822016) % pP := by
  have hz : a0 + a1 * 2251799813685248 + a2 * 5070602400912917605986812821504 + a3 * 11417981541647679048466287755595961091061972992 + a4 * 25711008708143844408671393477458601640355247900524685364822016 + 19 * q = m0 + m1 * 2251799813685248 + m2 * 5070602400912917605986812821504 + m3 * 11417981541647679048466287755595961091061972992 + m4 * 25711008708143844408671393477458601640355247900524685364822016 + 57896044618658097711785492504343953926634992332820282019728792003956564819968 * z4 := by omega
  have hm : 0 ≤ m0 + m1 * 2251799813685248 + m2 * 5070602400912917605986812821504 + m3 * 11417981541647679048466287755595961091061972992 + m4 * 25711008708143844408671393477458601640355247900524685364822016 ∧ m0 + m1 * 2251799813685248 + m2 * 5070602400912917605986812821504 + m3 * 11417981541647679048466287755595961091061972992 + m4 * 25711008708143844408671393477458601640355247900524685364822016 < 57896044618658097711785492504343953926634992332820282019728792003956564819968 := by omega
  clear e0 e1 e2 e3 e4 b0 b1 b2 b3 b4
  generalize m0 + m1 * 2251799813685248 + m2 * 5070602400912917605986812821504 + m3 * 11417981541647679048466287755595961091061972992 + m4 * 25711008708143844408671393477458601640355247900524685364822016 = M at *
  generalize a0 + a1 * 2251799813685248 + a2 * 5070602400912917605986812821504 + a3 * 11417981541647679048466287755595961091061972992 + a4 * 25711008708143844408671393477458601640355247900524685364822016 = V at *
  rcases hq with rfl | rfl
  · have : z4 = 0 := by omega
    rw [Int.emod_eq_of_lt (by omega) (by unfold pP; omega)]
    omega
  · have : z4 = 1 := by omega
    have e : V = M + 1 * pP := by unfold pP; omega
    rw [e, Int.add_mul_emod_self_right, Int.emod_eq_of_lt hm.1 (by unfold pP; omega)]
theorem em (x : Int) : x = 2251799813685248 * (x / 2251799813685248) + x % 2251799813685248 ∧ 0 ≤ x % 2251799813685248 ∧ x % 2251799813685248 < 2251799813685248 := by omega
theorem words_val {y0 y1 y2 y3 y4 : Int} (c0 : 0 ≤ y0 ∧ y0 < 2251799813685248) (c1 : 0 ≤ y1 ∧ y1 < 2251799813685248) (c2 : 0 ≤ y2 ∧ y2 < 2251799813685248) (c3 : 0 ≤ y3 ∧ y3 < 2251799813685248) (c4 : 0 ≤ y4 ∧ y4 < 2251799813685248) :
    val4 (lf [(y1 * 2251799813685248 + y0) % 18446744073709551616, (y2 * 274877906944 + y1 / 2 ^ 13) % 18446744073709551616, (y3 * 33554432 + y2 / 2 ^ 26) % 18446744073709551616, (y4 * 4096 + y3 / 2 ^ 39) % 18446744073709551616]) = y0 + y1 * 2251799813685248 + y2 * 5070602400912917605986812821504 + y3 * 11417981541647679048466287755595961091061972992 + y4 * 25711008708143844408671393477458601640355247900524685364822016 := by
  have w0 : (y1 * 2251799813685248 + y0) % 18446744073709551616 = y1 % 8192 * 2251799813685248 + y0 := by omega
  have w1 : (y2 * 274877906944 + y1 / 2 ^ 13) % 18446744073709551616 = y2 % 67108864 * 274877906944 + y1 / 2 ^ 13 := by omega
  have w2 : (y3 * 33554432 + y2 / 2 ^ 26) % 18446744073709551616 = y3 % 549755813888 * 33554432 + y2 / 2 ^ 26 := by omega
  have w3 : (y4 * 4096 + y3 / 2 ^ 39) % 18446744073709551616 = y4 * 4096 + y3 / 2 ^ 39 := by omega
  rw [w0, w1, w2, w3]
  simp only [val4, lf]
  clear w0 w1 w2 w3
  obtain ⟨h1, l1, e1, d1⟩ : ∃ h l, y1 / 2 ^ 13 = h ∧ y1 % 8192 = l := ⟨_, _, rfl, rfl⟩
  obtain ⟨h2, l2, e2, d2⟩ : ∃ h l, y2 / 2 ^ 26 = h ∧ y2 % 67108864 = l := ⟨_, _, rfl, rfl⟩
  obtain ⟨h3, l3, e3, d3⟩ : ∃ h l, y3 / 2 ^ 39 = h ∧ y3 % 549755813888 = l := ⟨_, _, rfl, rfl⟩
  have f1 : y1 = 8192 * h1 + l1 := by omega
  have f2 : y2 = 67108864 * h2 + l2 := by omega
  have f3 : y3 = 549755813888 * h3 + l3 := by omega
  rw [e1, e2, e3, d1, d2, d3, f1, f2, f3]
  clear e1 e2 e3 d1 d2 d3 f1 f2 f3 c0 c1 c2 c3 c4
  grind
theorem byW_law {l : Nat → Int} (h0 : 0 ≤ l 0 ∧ l 0 < 2251799813685248 + 32) (h1 : 0 ≤ l 1 ∧ l 1 < 2251799813685248 + 32) (h2 : 0 ≤ l 2 ∧ l 2 < 2251799813685248 + 32) (h3 : 0 ≤ l 3 ∧ l 3 < 2251799813685248 + 32) (h4 : 0 ≤ l 4 ∧ l 4 < 2251799813685248 + 32) :
    inU4 (byW l) = true ∧ val4 (byW l) = (l 0 + l 1 * 2251799813685248 + l 2 * 5070602400912917605986812821504 + l 3 * 11417981541647679048466287755595961091061972992 + l 4 * 25711008708143844408671393477458601640355247900524685364822016) % pP := by
  unfold byW
  generalize l 0 = a0 at *; generalize l 1 = a1 at *; generalize l 2 = a2 at *; generalize l 3 = a3 at *; generalize l 4 = a4 at *
  dsimp only
  simp only [show ∀ x, ishr .u64 x 51 = x / 2251799813685248 from fun x => ishr8 x 51 (by omega), show ∀ x, ishr .u64 x 13 = x / 2 ^ 13 from fun x => ishr8 x 13 (by omega), show ∀ x, ishr .u64 x 26 = x / 2 ^ 26 from fun x => ishr8 x 26 (by omega), show ∀ x, ishr .u64 x 39 = x / 2 ^ 39 from fun x => ishr8 x 39 (by omega), wr64]
  have w : ∀ x : Int, (0 ≤ x ∧ x < 18446744073709551616) → x % 18446744073709551616 = x := fun x h => by omega
  have hV : 0 ≤ a0 + a1 * 2251799813685248 + a2 * 5070602400912917605986812821504 + a3 * 11417981541647679048466287755595961091061972992 + a4 * 25711008708143844408671393477458601640355247900524685364822016 ∧ a0 + a1 * 2251799813685248 + a2 * 5070602400912917605986812821504 + a3 * 11417981541647679048466287755595961091061972992 + a4 * 25711008708143844408671393477458601640355247900524685364822016 < 57896044618659743216342813710386108895817549683325264755594425583819913428992 := by omega
  rw [w (a0 + 19) (by omega)]
  obtain ⟨e0, s0⟩ := em (a0 + 19)
  generalize (a0 + 19) / 2251799813685248 = q0 at *
  have bq0 : 0 ≤ q0 ∧ q0 ≤ 1 := by omega
  rw [w (a1 + q0) (by omega)]
  obtain ⟨e1, s1⟩ := em (a1 + q0)
  generalize (a1 + q0) / 2251799813685248 = q1 at *
  have bq1 : 0 ≤ q1 ∧ q1 ≤ 1 := by clear e0 s0; omega
  rw [w (a2 + q1) (by omega)]
  obtain ⟨e2, s2⟩ := em (a2 + q1)
  generalize (a2 + q1) / 2251799813685248 = q2 at *
  have bq2 : 0 ≤ q2 ∧ q2 ≤ 1 := by clear e0 s0 e1 s1; omega
  rw [w (a3 + q2) (by omega)]
  obtain ⟨e3, s3⟩ := em (a3 + q2)
  generalize (a3 + q2) / 2251799813685248 = q3 at *
  have bq3 : 0 ≤ q3 ∧ q3 ≤ 1 := by clear e0 s0 e1 s1 e2 s2; omega
  rw [w (a4 + q3) (by omega)]
  obtain ⟨e4, s4⟩ := em (a4 + q3)
  generalize (a4 + q3) / 2251799813685248 = q4 at *
  have bq4 : 0 ≤ q4 ∧ q4 ≤ 1 := by clear e0 s0 e1 s1 e2 s2 e3 s3; omega
  have hq : q4 = 0 ∨ q4 = 1 := by clear e0 s0 e1 s1 e2 s2 e3 s3 e4 s4; omega
  obtain ⟨k1, k2⟩ := q_chain e0 e1 e2 e3 e4 s0 s1 s2 s3 s4
  clear e0 s0 e1 s1 e2 s2 e3 s3 e4 s4 bq0 bq1 bq2 bq3
  rw [w (19 * q4) (by clear k1 k2; omega), w (a0 + 19 * q4) (by clear k1 k2; omega)]
  obtain ⟨e0, s0⟩ := em (a0 + 19 * q4)
  obtain ⟨z0, f0⟩ : ∃ z, (a0 + 19 * q4) / 2251799813685248 = z := ⟨_, rfl⟩
  rw [f0] at e0 ⊢
  have bz0 : 0 ≤ z0 ∧ z0 ≤ 1 := by clear k1 k2 hV; omega
  rw [w (a1 + z0) (by clear k1 k2 e0; omega)]
  obtain ⟨e1, s1⟩ := em (a1 + z0)
  obtain ⟨z1, f1⟩ : ∃ z, (a1 + z0) / 2251799813685248 = z := ⟨_, rfl⟩
  rw [f1] at e1 ⊢
  have bz1 : 0 ≤ z1 ∧ z1 ≤ 1 := by clear k1 k2 hV e0 f0 s0; omega
  rw [w (a2 + z1) (by clear k1 k2 e0 e1 f0 f1; omega)]
  obtain ⟨e2, s2⟩ := em (a2 + z1)
  obtain ⟨z2, f2⟩ : ∃ z, (a2 + z1) / 2251799813685248 = z := ⟨_, rfl⟩
  rw [f2] at e2 ⊢
  have bz2 : 0 ≤ z2 ∧ z2 ≤ 1 := by clear k1 k2 hV e0 f0 s0 e1 f1 s1; omega
  rw [w (a3 + z2) (by clear k1 k2 e0 e1 e2 f0 f1 f2; omega)]
  obtain ⟨e3, s3⟩ := em (a3 + z2)
  obtain ⟨z3, f3⟩ : ∃ z, (a3 + z2) / 2251799813685248 = z := ⟨_, rfl⟩
  rw [f3] at e3 ⊢
  have bz3 : 0 ≤ z3 ∧ z3 ≤ 1 := by clear k1 k2 hV e0 f0 s0 e1 f1 s1 e2 f2 s2; omega
  rw [w (a4 + z3) (by clear k1 k2 e0 e1 e2 e3 f0 f1 f2 f3; omega)]
  obtain ⟨e4, s4⟩ := em (a4 + z3)
  have val := z_chain e0 e1 e2 e3 e4 s0 s1 s2 s3 s4 hq k1 k2 hV
  rw [m51_law (x := a0 + 19 * q4) (by clear k1 k2 e0 e1 e2 e3 e4 val; omega), m51_law (x := a1 + z0) (by clear k1 k2 e0 e1 e2 e3 e4 val; omega), m51_law (x := a2 + z1) (by clear k1 k2 e0 e1 e2 e3 e4 val; omega), m51_law (x := a3 + z2) (by clear k1 k2 e0 e1 e2 e3 e4 val; omega), m51_law (x := a4 + z3) (by clear k1 k2 e0 e1 e2 e3 e4 val; omega)]
  rw [← val]
  clear val k1 k2 e0 e1 e2 e3 e4 f0 f1 f2 f3
  generalize (a0 + 19 * q4) % 2251799813685248 = y0 at *
  generalize (a1 + z0) % 2251799813685248 = y1 at *
  generalize (a2 + z1) % 2251799813685248 = y2 at *
  generalize (a3 + z2) % 2251799813685248 = y3 at *
  generalize (a4 + z3) % 2251799813685248 = y4 at *
  clear bz0 bz1 bz2 bz3 hq bq4 hV h0 h1 h2 h3 h4 w
  rw [orS51 ⟨s1.1, by omega⟩ s0, orS38 ⟨s2.1, by omega⟩ ⟨by omega, by omega⟩, orS25 ⟨s3.1, by omega⟩ ⟨by omega, by omega⟩, orS12 ⟨s4.1, by omega⟩ ⟨by omega, by omega⟩]
  exact ⟨by simp only [inU4, lf, inU_mod, Bool.and_self], words_val s0 s1 s2 s3 s4⟩
theorem car2_bd {l : List Int} (h : bd5 l = true) : ∀ i, i < 5 → 0 ≤ lf (carL (lf (carL (lf l)))) i ∧ lf (carL (lf (carL (lf l)))) i < 2251799813685248 + 32 := by
  obtain ⟨h0, h1, h2, h3, h4⟩ := bd5_t.1 h
  simp only [carL, lf]
  generalize lf l 0 = a0 at *; generalize lf l 1 = a1 at *; generalize lf l 2 = a2 at *; generalize lf l 3 = a3 at *; generalize lf l 4 = a4 at *
  intro i hi
  match i, hi with
  | 0, _ => simp only [lf]; omega
  | 1, _ => simp only [lf]; omega
  | 2, _ => simp only [lf]; omega
  | 3, _ => simp only [lf]; omega
  | 4, _ => simp only [lf]; omega
theorem bytes_law {l : List Int} (h : bd5 l = true) : bytesRaw (lf l) = byL 32 (fm l) := by
  have hb := car2_bd h
  obtain ⟨h1, h2⟩ := byW_law (hb 0 (by omega)) (hb 1 (by omega)) (hb 2 (by omega)) (hb 3 (by omega)) (hb 4 (by omega))
  unfold bytesRaw
  rw [back_law h1, h2]
  refine congrArg (byL 32) ?_
  have e1 := car_val (lf (carL (lf l)))
  have e2 := car_val (lf l)
  unfold fm
  have e3 : fv (carL (lf (carL (lf l)))) = fv l - (lf l 4 / 2251799813685248) * pP - lf (carL (lf l)) 4 / 2251799813685248 * pP := by
    rw [e1]
    have : lf (carL (lf l)) 0 + lf (carL (lf l)) 1 * 2251799813685248 + lf (carL (lf l)) 2 * 5070602400912917605986812821504 + lf (carL (lf l)) 3 * 11417981541647679048466287755595961091061972992 + lf (carL (lf l)) 4 * 25711008708143844408671393477458601640355247900524685364822016 = fv (carL (lf l)) := rfl
    rw [this, e2]; rfl
  have e4 : fv (carL (lf (carL (lf l)))) % pP = fv l % pP := by rw [e3, Int.sub_mul_emod_self_right, Int.sub_mul_emod_self_right]
  exact e4
end Go.AM
namespace Go.AM
open Go Go.RowKit
structure StLeP (p : Nat) (s t : St) : Prop where
  tm : s.tm.length = t.tm.length ∧ ∀ i, ALe t.hp.length (getA s.tm i) (getA t.tm i)
  len : t.hp.length = s.hp.length
  same : s.hp.take p = t.hp.take p
  hp : ∀ (id : Nat) (c : Blk), p ≤ id → t.hp[id]? = some (some c) → ∃ b, s.hp[id]? = some (some b) ∧ BLe t.hp.length b c
section
variable {P : Program} {w0 : World} {own0 : Own}
theorem StLeP.sj {p : Nat} {s t : St} (h : StLeP p s t) {n0 : Nat} {σ : Sg} {pr : Pr} {a : Act} {w : World} (H : SJ n0 w0 own0 σ pr s a w) : SJ n0 w0 own0 σ pr t a w := by
  have hcut : cutG σ t.hp.length = σ := by rw [h.len]; exact cutG_self H.si.hi.fresh
  have hblk : ∀ (id : Nat) (c : Blk), t.hp[id]? = some (some c) → ∃ b, s.hp[id]? = some (some b) ∧ c.sz = b.sz ∧ c.n = b.n ∧
      (∀ r, r < b.n → b.sz ≤ lenS (c.segs r)) ∧ ∀ r, r < b.n → ∀ d, d < b.sz → ∀ x, RS σ pr w (cellAt (b.segs r) d) x → RS σ pr w (cellAt (c.segs r) d) x := by
    intro id c hc
    by_cases hp : p ≤ id
    · obtain ⟨b, hb, e1, e2, e3⟩ := h.hp id c hp hc
      refine ⟨b, hb, e1, e2, fun r hr => (e3 r hr).1, fun r hr d hd x hx => ?_⟩
      have := (e3 r hr).2 d hd σ pr w x hx
      rwa [hcut] at this
    · have hs : s.hp[id]? = some (some c) := by
        have := congrArg (fun l => l[id]?) h.same
        simp only [List.getElem?_take, if_pos (Nat.lt_of_not_le hp)] at this
        rw [this]; exact hc
      refine ⟨c, hs, rfl, rfl, fun r hr => H.si.hi.lens id c hs r hr, fun r hr d hd x hx => hx⟩
  refine ⟨⟨⟨fun id hid => H.si.hi.fresh id (by rw [← h.len]; exact hid), fun id c hc => ?_, fun id id' c c' g x x' h1 h2 h3 h4 => ?_, fun id c hc i hi => ?_, H.si.hi.ev, H.si.hi.prlt, H.si.hi.prnew⟩, ⟨by rw [← h.tm.1]; exact H.si.fi.1, fun i hi => ?_⟩, H.si.df⟩, by rw [h.len]; exact H.len⟩
  · obtain ⟨b, hb, e1, e2, e3, e4⟩ := hblk id c hc
    rcases H.si.hi.blk id b hb with ⟨q1, q2⟩ | ⟨g, q1, q2⟩
    · exact .inl ⟨q1, by rw [e2]; exact q2⟩
    · refine .inr ⟨g, by rw [e1, e2]; exact q1, q2.free, q2.own, ?_⟩
      obtain ⟨cells, T, fz, r1, r2, r3, r4⟩ := q2.cells
      refine ⟨cells, T, fz, r1, r2, by rw [e1, e2]; exact r3, fun i hi d hd => ?_⟩
      rw [e2] at hi
      rw [e1] at hd ⊢
      obtain ⟨v, v1, v2⟩ := r4 i hi d hd
      exact ⟨v, v1, e4 i hi d hd v v2⟩
  · obtain ⟨b, hb, _⟩ := hblk id c h1
    obtain ⟨b', hb', _⟩ := hblk id' c' h2
    exact H.si.hi.inj id id' b b' g x x' hb hb' h3 h4
  · obtain ⟨b, hb, e1, e2, e3, e4⟩ := hblk id c hc
    rw [e2] at hi
    rw [e1]
    exact e3 i hi
  · have := h.tm.2 i _ _ _ _ (H.si.fi.any i)
    rwa [hcut] at this
end
end Go.AM
namespace Go.AM
open Go Go.RowKit Go.ChangeShapes Go.WideShapes
section
variable {H : Type} {enc : TypeId × Value → H} {P : Program}
theorem trodAll_stays (hl : laidOutB P = true) {W W' : World} (hb : Below W.heap.size W W') {sp : Nat → Bool} : ∀ {ts : List TypeId} {vs : List Value} {ds : List (DataW H)} {ps : List MemPlace}, (∀ t ∈ ts, P.readableRec t = true ∧ t < P.types.size) →
    DataW.TrodAll enc P W 0 (fun _ => true) true ts vs ds ps → (∀ x ∈ ps, x.block < W.heap.size) → (∀ x ∈ ps, sp x.block = true) → DataW.TrodAll enc P W' 0 sp true ts vs ds ps
  | [], vs, ds, ps, ht, h, hlt, hs => by
    obtain ⟨rfl, rfl, rfl⟩ := trodAll_nil h
    exact trodAll_mk0
  | t :: ts, vs, ds, ps, ht, h, hlt, hs => by
    obtain ⟨v, vs', d, ds', p, q, rfl, rfl, rfl, h1, h2⟩ := trodAll_cons h
    obtain ⟨r1, r2⟩ := ht t (by simp)
    exact trodAll_cons_mk (WideElems.Trod_stays hl r1 r2 h1 (fun x hx => hb.same (hlt x (by simp [hx]))) (fun x hx => hs x (by simp [hx])))
      (trodAll_stays hl hb (fun t' ht' => ht t' (by simp [ht'])) h2 (fun x hx => hlt x (by simp [hx])) (fun x hx => hs x (by simp [hx])))
theorem post_below {f : Func} {s : ChangeSpec} {fresh handsOn again : Bool} {W W' : World} {args : Array Value} {v : Value} {ds gs : List (DataW H)} {before : List MemPlace} (hl : laidOutB P = true) (hpar : ∀ t ∈ f.params.toList, P.readableRec t = true ∧ t < P.types.size)
    (hvars : s.vars = []) (hW : DataW.Whole enc P f.params.toList s.vars false W args.toList ds gs before) (hargs : (s.fn H (ds ++ gs)).args = ds) (hv : (s.fn H (ds ++ gs)).vars = [])
    (hres : ∀ (b : Nat) (sp : Nat → Bool) (hd : Bool), DataW.TrodAll enc P W' b sp hd f.resultTypes.toList (v.resultList f.resultTypes.size) (s.fn H (ds ++ gs)).results [])
    (hb : Below W.heap.size W W') (hok : ∀ (j : Nat) (t : TypeId) (r : Value), f.resultTypes[j]? = some t → (v.resultList f.resultTypes.size)[j]? = some r → Value.okWide P W' .any 0 t r) :
    s.post enc P f false fresh handsOn again W args v W' := by
  have hlt : ∀ p ∈ before, p.block < W.heap.size := fun p hp => hW.lt p hp
  have hW0 := hW
  obtain ⟨p, q, hA, hV, hpq, hz, hn⟩ := hW
  rw [hvars] at hV
  obtain ⟨hg, hq⟩ := trodVars_none hV
  subst hq
  rw [List.append_nil] at hpq
  subst hpq
  have hA' : ∀ sp : Nat → Bool, (∀ x ∈ before, sp x.block = true) → DataW.TrodAll enc P W' 0 sp true f.params.toList args.toList (s.fn H (ds ++ gs)).args before := fun sp hs => by
    rw [hargs]; exact trodAll_stays hl hb hpar hA hlt hs
  have hV' : ∀ sp : Nat → Bool, DataW.TrodVars enc P W' sp s.vars (s.fn H (ds ++ gs)).vars [] := fun sp => by
    rw [hvars, hv]; rfl
  have hold : ∀ p ∈ before, (fun b => decide (b < W.heap.size)) p.block = true := fun p hp => by simpa using hlt p hp
  refine ⟨ds, gs, before, [], before, [], hW0, hres _ _ _, hA' _ hold, hV' _, hb.frame _, fun _ => ?_⟩
  refine ⟨hok, _, _, ([] ++ before) ++ [], ⟨[] ++ before, [], trodAll_append (hA' _ (fun _ _ => rfl)) (hres _ _ _), hV' _, rfl, ?_, ?_⟩, ?_⟩
  · intro b off hp
    have hp' : MemPlace.cell b off ∈ before := by simpa using hp
    rw [hb.frozen (p := ⟨b, off, none⟩) (hlt _ hp')]
    exact hz b off hp'
  · intro ha; cases ha
  · intro p hp _
    simpa using hp
def prOf (W : World) : Pr := fun _ b => b < W.heap.size
theorem cell_lt {W : World} {b off : Nat} {v : Value} (h : W.cell? ⟨b, off, none⟩ = some v) : b < W.heap.size := by
  rcases Nat.lt_or_ge b W.heap.size with h1 | h1
  · exact h1
  · have : W.heap[b]? = none := Array.getElem?_eq_none h1
    simp [World.cell?, this] at h
theorem wf_u8 {n : Int} (h : (Lit.int .u8 n).wf = true) : 0 ≤ n ∧ n < 256 := by
  simp [Lit.wf, IntKind.min, IntKind.max, IntKind.signed, IntKind.bits] at h
  omega
theorem law_calls {tt : TT} {ts : List (Nat × TF)} {ws : List (Nat × WF)} {f : FuncId} {fn : Func} (hf : P.funcs[f]? = some fn) (hc : fnChk P (envP tt ts ws) fn = true) {args : List AV} (hP : Pure P f args (.sc (.bool true))) {W : World} {vs : List Value}
    (ha : ArgsOK noσ (prOf W) W args vs) : Calls P f vs.toArray W fun e W' => e = .returned (.bool true) ∧ Below W.heap.size W W' := by
  obtain ⟨h1, h2⟩ := fnChk_spec hc hf
  rcases hP (prOf W) W vs ha (fun t b h => h) with ⟨val, q1, q2⟩ | ⟨q1, q2⟩
  · rw [h1] at q1; cases q1
  · refine q2.mono fun e W' hq => ?_
    obtain ⟨val, he, hb, hv⟩ := hq
    have hv : RS _ _ W' (.bool true) val := hv
    cases hv
    exact ⟨he, hb⟩
end
end Go.AM
namespace Go.AM
open Go
mutual
def okV (n : Nat) : SV → Bool
  | .int .. => true
  | .bit _ => true
  | .bool _ => true
  | .ptr id _ _ _ _ => Nat.ble (id + 1) n
  | .slice id _ _ _ _ _ => Nat.ble (id + 1) n
  | .vints .. => true
  | .vptr _ s => okG n s
  | .nilp => true
  | .nils => true
  | _ => false
def okG (n : Nat) : List Seg → Bool
  | [] => true
  | .ints .. :: r => okG n r
  | .one v :: r => okV n v && okG n r
end
theorem kEq_refl (k : IntKind) : kEq k k = true := by simp [kEq]
theorem nbeq_refl (n : Nat) : Nat.beq n n = true := beq_t.2 rfl
theorem loop_of {fn : Func} {id : Nat} {B : Code} (h : fn.body.map (bodiesOf id) = some [.loop B]) : ∀ c, fn.body = some c → ∀ b ∈ bodiesOf id c, b = .loop B := by
  intro c hc b hb
  rw [hc] at h
  simp only [Option.map_some, Option.some.injEq] at h
  rw [h] at hb
  simpa using hb
theorem wr_i64 {x : Int} (h0 : -9223372036854775808 ≤ x) (h1 : x < 9223372036854775808) : wr .i64 x = x := by
  show IntKind.i64.wrap x = x
  rw [IntKind.wrap_i64]; omega
theorem inR_lt {k n : Nat} (h : k < n) : inR k n = true := by simp [inR]; omega
end Go.AM
namespace Go.AM
open Go Go.RowKit
def renG (σ : Sg) (r : Nat → Option Nat) (n : Nat) : Sg := fun id => if id < n then (match r id with | some j => σ j | none => none) else none
def SLeR (r : Nat → Option Nat) (n : Nat) (a b : SV) : Prop := ∀ (σ : Sg) (pr : Pr) (w : World) (x : Value), RS σ pr w a x → RS (renG σ r n) pr w b x
def ALeR (r : Nat → Option Nat) (n : Nat) (a b : AV) : Prop := ∀ (σ : Sg) (pr : Pr) (w : World) (x : Value), RV σ pr w a x → RV (renG σ r n) pr w b x
def BLeR (r : Nat → Option Nat) (n : Nat) (b c : Blk) : Prop := c.sz = b.sz ∧ c.n = b.n ∧ ∀ i, i < b.n → b.sz ≤ lenS (c.segs i) ∧ ∀ d, d < b.sz → SLeR r n (cellAt (b.segs i) d) (cellAt (c.segs i) d)
def rIs (r : Nat → Option Nat) (id id' : Nat) : Bool := match r id' with | some j => Nat.beq j id | none => false
theorem rIs_t {r : Nat → Option Nat} {id id' : Nat} (h : rIs r id id' = true) : r id' = some id := by
  unfold rIs at h
  split at h
  · rename_i j hj; rw [hj, beq_t.1 h]
  · simp at h
mutual
def svR (r : Nat → Option Nat) (n : Nat) : SV → SV → Bool
  | .int k a, .int k' b => kEq k k' && decide (a = b)
  | .bit a, .bit b => a == b
  | .bit a, .int k b => kEq k .u64 && decide (b2i a = b)
  | .bool a, .bool b => a == b
  | .str a, .str b => decide (a.data = b.data)
  | .ptr id sz i c ext, .ptr id' sz' i' c' ext' => rIs r id id' && (Nat.beq sz sz' && (Nat.beq i i' && (Nat.beq c c' && (Nat.beq ext ext' && Nat.ble (id' + 1) n))))
  | .slice id sz i c esz len, .slice id' sz' i' c' esz' len' => rIs r id id' && (Nat.beq sz sz' && (Nat.beq i i' && (Nat.beq c c' && (Nat.beq esz esz' && (Nat.beq len len' && Nat.ble (id' + 1) n)))))
  | .nils, .slice _ _ _ _ _ len' => Nat.beq len' 0
  | .nils, .vints _ _ _ len' _ => Nat.beq len' 0
  | .nils, .vrows _ _ len' _ => Nat.beq len' 0
  | .vints t k sz len f, .vints t' k' sz' len' g => (t == t' && (kEq k k' && (Nat.beq sz sz' && Nat.beq len len'))) && eqF len sz f g
  | .vrows t sz len row, .vrows t' sz' len' row' => (t == t' && (Nat.beq sz sz' && Nat.beq len len')) && (List.range len).all fun j => segR r n (row j) (row' j)
  | .vptr t s, .vptr t' s' => t == t' && segR r n s s'
  | .nilp, .nilp => true
  | .nils, .nils => true
  | .unk, .unk => true
  | .clo f caps, .clo f' caps' => Nat.beq f f' && capR r n caps caps'
  | .bnd f s, .bnd f' s' => Nat.beq f f' && segR r n s s'
  | _, _ => false
def capR (r : Nat → Option Nat) (n : Nat) : List SV → List SV → Bool
  | [], [] => true
  | a :: l, b :: l' => svR r n a b && capR r n l l'
  | _, _ => false
def segR (r : Nat → Option Nat) (n : Nat) : List Seg → List Seg → Bool
  | [], [] => true
  | .ints k m f :: l, .ints k' m' g :: l' => (kEq k k' && Nat.beq m m') && (eqN m f g && segR r n l l')
  | .one v :: l, .one v' :: l' => svR r n v v' && segR r n l l'
  | _, _ => false
end
def avR (r : Nat → Option Nat) (n : Nat) : AV → AV → Bool
  | _, .any => true
  | .sc a, .sc b => svR r n a b
  | .agg s, .agg s' => segR r n s s'
  | .tup [], .tup [] => true
  | _, _ => false
def tmR (r : Nat → Option Nat) (n : Nat) : List AV → List AV → Bool
  | [], [] => true
  | a :: l, b :: l' => avR r n a b && tmR r n l l'
  | _, _ => false
def blkR (r : Nat → Option Nat) (n : Nat) : Blk → Blk → Bool
  | .ints k sz m f, .ints k' sz' m' g => (kEq k k' && (Nat.beq sz sz' && Nat.beq m m')) && eqF m sz f g
  | .mix sz m row, .mix sz' m' row' => (Nat.beq sz sz' && Nat.beq m m') && (List.range m).all fun i => Nat.beq (lenS (row i)) sz && segR r n (row i) (row' i)
  | _, _ => false
def hpR (r : Nat → Option Nat) (n : Nat) (s : Heap) : Heap → Nat → Bool
  | [], _ => true
  | none :: l, i => hpR r n s l (i + 1)
  | some c :: l, i => (match r i with
    | some j => (match s[j]? with | some (some b) => blkR r n b c | _ => false)
    | none => Nat.beq c.n 0) && hpR r n s l (i + 1)
def ndR (r : Nat → Option Nat) : Heap → Nat → List Nat → Bool
  | [], _, _ => true
  | none :: l, i, seen => ndR r l (i + 1) seen
  | some _ :: l, i, seen => (match r i with
    | some j => !(seen.any fun x => Nat.beq x j) && ndR r l (i + 1) (j :: seen)
    | none => ndR r l (i + 1) seen)
def stR (r : Nat → Option Nat) (s t : St) : Bool := ndR r t.hp 0 [] && (tmR r t.hp.length s.tm t.tm && hpR r t.hp.length s.hp t.hp 0)
theorem renG_get {σ : Sg} {r : Nat → Option Nat} {n id j : Nat} (h : r id = some j) (hid : id < n) : renG σ r n id = σ j := by simp only [renG, if_pos hid, h]
mutual
theorem svR_spec {r : Nat → Option Nat} {n : Nat} : ∀ (a b : SV), svR r n a b = true → SLeR r n a b
  | .int k a, b, h => by
    cases b <;> simp only [svR, Bool.false_eq_true] at h
    simp only [Bool.and_eq_true, decide_eq_true_eq] at h
    obtain ⟨h1, h2⟩ := h
    rw [kEq_spec h1, h2]; intro σ pr w x hx; cases hx; exact .int
  | .bit a, b, h => by
    cases b <;> simp only [svR, Bool.false_eq_true] at h
    · simp only [Bool.and_eq_true, decide_eq_true_eq] at h
      obtain ⟨h1, h2⟩ := h
      rw [kEq_spec h1, ← h2]
      intro σ pr w x hx
      cases hx; exact .int
    · rename_i b
      have : a = b := by simpa using h
      subst this; intro σ pr w x hx; cases hx; exact .bit
  | .bool a, b, h => by
    cases b <;> simp only [svR, Bool.false_eq_true] at h
    rename_i b
    have : a = b := by simpa using h
    subst this; intro σ pr w x hx; cases hx; exact .bool
  | .str a, b, h => by
    cases b <;> simp only [svR, Bool.false_eq_true] at h
    rename_i b
    simp only [decide_eq_true_eq] at h
    have : a = b := by cases a; cases b; simp_all
    subst this; intro σ pr w x hx; cases hx; exact .str
  | .ptr id sz i c ext, b, h => by
    cases b <;> simp only [svR, Bool.false_eq_true] at h
    simp only [Bool.and_eq_true, beq_t, ble_t] at h
    obtain ⟨h0, rfl, rfl, rfl, rfl, h⟩ := h
    intro σ pr w x hx
    cases hx with
    | ptr h1 h2 h3 h4 => exact .ptr (by rw [renG_get (rIs_t h0) (by omega)]; exact h1) h2 h3 h4
  | .slice id sz i c esz len, b, h => by
    cases b <;> simp only [svR, Bool.false_eq_true] at h
    simp only [Bool.and_eq_true, beq_t, ble_t] at h
    obtain ⟨h0, rfl, rfl, rfl, rfl, rfl, h⟩ := h
    intro σ pr w x hx
    cases hx with
    | slice0 => exact .slice0
    | slice h1 h2 h3 h4 => exact .slice (by rw [renG_get (rIs_t h0) (by omega)]; exact h1) h2 h3 h4
  | .vints t k sz len f, b, h => by
    cases b <;> simp only [svR, Bool.false_eq_true] at h
    simp only [Bool.and_eq_true, beq_t, beq_iff_eq] at h
    obtain ⟨⟨rfl, h1, rfl, rfl⟩, h2⟩ := h
    rw [kEq_spec h1]
    have hh := eqF_t h2
    intro σ pr w x hx
    cases hx with
    | vints0 => exact .vints0
    | vints q1 q2 q3 => exact .vints q1 (fun j hj c hc => by rw [← hh j hj c hc]; exact q2 j hj c hc) q3
  | .vrows t sz len row, b, h => by
    cases b <;> simp only [svR, Bool.false_eq_true] at h
    rename_i t' sz' len' row'
    simp only [Bool.and_eq_true, beq_t, beq_iff_eq, List.all_eq_true, List.mem_range] at h
    obtain ⟨⟨rfl, rfl, rfl⟩, h2⟩ := h
    intro σ pr w x hx
    cases hx with
    | vrows0 => exact .vrows0
    | vrows vs q1 q2 q3 q4 q5 =>
      refine .vrows vs q1 q2 (fun j hj c hc => ?_) (fun j hj => ?_) q5
      · obtain ⟨e1, e2⟩ := segR_spec (row j) (row' j) (h2 j hj)
        exact e2 c (by have := q4 j hj; omega) σ pr w _ (q3 j hj c hc)
      · obtain ⟨e1, e2⟩ := segR_spec (row j) (row' j) (h2 j hj)
        have := q4 j hj; omega
  | .vptr t s, b, h => by
    cases b <;> simp only [svR, Bool.false_eq_true] at h
    simp only [Bool.and_eq_true, beq_iff_eq] at h
    obtain ⟨rfl, h1⟩ := h
    obtain ⟨hl, hc⟩ := segR_spec s _ h1
    intro σ pr w x hx
    cases hx with
    | vptr vs q1 q2 q3 => exact .vptr vs q1 (fun c hc' => q2 c (by rw [hl]; exact hc')) (fun c hc' => hc c (by rw [hl]; exact hc') σ pr w _ (q3 c (by rw [hl]; exact hc')))
  | .nilp, b, h => by
    cases b <;> simp only [svR, Bool.false_eq_true] at h
    intro σ pr w x hx; cases hx; exact .nilp
  | .nils, b, h => by
    cases b <;> simp only [svR, Bool.false_eq_true, beq_t] at h
    · subst h; intro σ pr w x hx; cases hx; exact .slice0
    · subst h; intro σ pr w x hx; cases hx; exact .vints0
    · subst h; intro σ pr w x hx; cases hx; exact .vrows0
    · intro σ pr w x hx; cases hx; exact .nils
  | .unk, b, h => by
    cases b <;> simp only [svR, Bool.false_eq_true] at h
    intro σ pr w x hx; cases hx; exact .unk ‹_›
  | .clo f caps, b, h => by
    cases b <;> simp only [svR, Bool.false_eq_true] at h
    simp only [Bool.and_eq_true, beq_t] at h
    obtain ⟨rfl, h1⟩ := h
    obtain ⟨hl, hc⟩ := capR_spec caps _ h1
    intro σ pr w x hx
    cases hx with
    | clo vs q1 q2 => exact .clo vs (by rw [q1, hl]) fun i hi => hc i (by rw [hl]; exact hi) σ pr w _ (q2 i (by rw [hl]; exact hi))
  | .bnd f s, b, h => by
    cases b <;> simp only [svR, Bool.false_eq_true] at h
    simp only [Bool.and_eq_true, beq_t] at h
    obtain ⟨rfl, h1⟩ := h
    obtain ⟨hl, hc⟩ := segR_spec s _ h1
    intro σ pr w x hx
    cases hx with
    | bnd cs q1 q2 => exact .bnd cs (by rw [q1, hl]) fun c hc' => hc c (by rw [hl]; exact hc') σ pr w _ (q2 c (by rw [hl]; exact hc'))
  | .raw _, b, h => by cases b <;> simp [svR] at h
theorem capR_spec {r : Nat → Option Nat} {n : Nat} : ∀ (s t : List SV), capR r n s t = true → s.length = t.length ∧ ∀ i, i < s.length → SLeR r n (s.getD i .unk) (t.getD i .unk)
  | [], t, h => by
    cases t with
    | nil => exact ⟨rfl, fun c hc => by simp at hc⟩
    | cons g r => simp [capR] at h
  | a :: l, t, h => by
    cases t with
    | nil => simp [capR] at h
    | cons b l' =>
      simp only [capR, Bool.and_eq_true] at h
      obtain ⟨q1, q2⟩ := capR_spec l l' h.2
      refine ⟨by simp [q1], fun i hi => ?_⟩
      cases i with
      | zero => exact svR_spec a b h.1
      | succ i => exact q2 i (by simpa using hi)
theorem segR_spec {r : Nat → Option Nat} {n : Nat} : ∀ (s t : List Seg), segR r n s t = true → lenS s = lenS t ∧ ∀ c, c < lenS s → SLeR r n (cellAt s c) (cellAt t c)
  | [], t, h => by
    cases t with
    | nil => exact ⟨rfl, fun c hc => by simp [lenS] at hc⟩
    | cons g r => cases g <;> simp [segR] at h
  | .ints k m f :: l, t, h => by
    cases t with
    | nil => simp [segR] at h
    | cons g l' =>
      cases g with
      | one v => simp [segR] at h
      | ints k' m' g =>
        simp only [segR, Bool.and_eq_true, beq_t] at h
        obtain ⟨⟨h1, rfl⟩, h2, h3⟩ := h
        obtain ⟨q1, q2⟩ := segR_spec l l' h3
        have hh := eqN_t h2
        rw [kEq_spec h1]
        rw [lenS_ints, lenS_ints, q1]
        refine ⟨rfl, fun c hc => ?_⟩
        by_cases e : c < m
        · rw [cellAt_ints_lt e, cellAt_ints_lt e, hh c e]; intro σ pr w x hx; cases hx; exact .int
        · rw [cellAt_ints_ge (by omega) (by omega), cellAt_ints_ge (by omega) (by omega)]
          exact q2 _ (by omega)
  | .one v :: l, t, h => by
    cases t with
    | nil => simp [segR] at h
    | cons g l' =>
      cases g with
      | ints k' m' g => simp [segR] at h
      | one v' =>
        simp only [segR, Bool.and_eq_true] at h
        obtain ⟨q1, q2⟩ := segR_spec l l' h.2
        rw [lenS_one, lenS_one, q1]
        refine ⟨rfl, fun c hc => ?_⟩
        cases c with
        | zero => exact svR_spec v v' h.1
        | succ c => rw [cellAt_one_succ, cellAt_one_succ]; exact q2 c (by omega)
end
theorem avR_spec {r : Nat → Option Nat} {n : Nat} {a b : AV} (h : avR r n a b = true) : ALeR r n a b := by
  unfold avR at h
  split at h
  · exact fun _ _ _ _ _ => trivial
  · exact fun σ pr w x hx => svR_spec _ _ h σ pr w x hx
  · rename_i s s'
    obtain ⟨h1, h2⟩ := segR_spec s s' h
    intro σ pr w x hx
    obtain ⟨cs, rfl, q1, q2⟩ := hx
    refine ⟨cs, rfl, by rw [q1, h1], fun c v hv => ?_⟩
    have hlt : c < lenS s := by rw [← q1]; exact (List.getElem?_eq_some_iff.1 hv).1
    exact h2 c hlt σ pr w v (q2 c v hv)
  · intro σ pr w x hx
    obtain ⟨vs, rfl, hl, _⟩ := hx
    obtain rfl : vs = [] := by simpa using hl
    exact RV.none
  · simp at h
theorem tmR_spec {r : Nat → Option Nat} {n : Nat} : ∀ (a b : List AV), tmR r n a b = true → a.length = b.length ∧ ∀ i, ALeR r n (getA a i) (getA b i)
  | [], b, h => by
    cases b with
    | nil => exact ⟨rfl, fun i σ pr w x hx => trivial⟩
    | cons x r => simp [tmR] at h
  | x :: l, b, h => by
    cases b with
    | nil => simp [tmR] at h
    | cons y l' =>
      simp only [tmR, Bool.and_eq_true] at h
      obtain ⟨q1, q2⟩ := tmR_spec l l' h.2
      refine ⟨by simp [q1], fun i => ?_⟩
      cases i with
      | zero => exact avR_spec h.1
      | succ i => exact q2 i
theorem blkR_spec {r : Nat → Option Nat} {n : Nat} {b c : Blk} (h : blkR r n b c = true) : BLeR r n b c := by
  unfold blkR at h
  split at h
  · rename_i k sz m f k' sz' m' g
    simp only [Bool.and_eq_true, beq_t] at h
    obtain ⟨⟨h1, rfl, rfl⟩, h2⟩ := h
    rw [kEq_spec h1]
    have hh := eqF_t h2
    refine ⟨rfl, rfl, fun i hi => ⟨by simp only [Blk.sz, Blk.segs]; rw [lenS_ints]; omega, fun d hd => ?_⟩⟩
    simp only [Blk.sz, Blk.n] at hi hd
    simp only [Blk.segs]
    rw [cellAt_ints_lt hd, cellAt_ints_lt hd, hh i hi d hd]
    intro σ pr w x hx; cases hx; exact .int
  · rename_i sz m row sz' m' row'
    simp only [Bool.and_eq_true, beq_t, List.all_eq_true, List.mem_range] at h
    obtain ⟨⟨rfl, rfl⟩, h2⟩ := h
    refine ⟨rfl, rfl, fun i hi => ?_⟩
    obtain ⟨e1, e2⟩ := h2 i hi
    obtain ⟨q1, q2⟩ := segR_spec _ _ e2
    exact ⟨by show sz ≤ lenS (row' i); rw [← q1, e1]; exact Nat.le_refl _, fun d hd => q2 d (by rw [e1]; exact hd)⟩
  · simp at h
theorem hpR_spec {r : Nat → Option Nat} {n : Nat} {s : Heap} : ∀ (t : Heap) (i : Nat), hpR r n s t i = true → ∀ (k : Nat) (c : Blk), t[k]? = some (some c) →
    (r (i + k) = none ∧ c.n = 0) ∨ ∃ j b, r (i + k) = some j ∧ s[j]? = some (some b) ∧ BLeR r n b c
  | [], i, h, k, c, hc => by simp at hc
  | none :: l, i, h, k, c, hc => by
    simp only [hpR] at h
    cases k with
    | zero => simp at hc
    | succ k =>
      have := hpR_spec l (i + 1) h k c (by simpa using hc)
      rwa [show i + 1 + k = i + (k + 1) by omega] at this
  | some c0 :: l, i, h, k, c, hc => by
    simp only [hpR, Bool.and_eq_true] at h
    cases k with
    | zero =>
      simp only [List.getElem?_cons_zero, Option.some.injEq] at hc
      subst hc
      have h1 := h.1
      rw [Nat.add_zero]
      split at h1
      · rename_i j hj
        split at h1
        · rename_i b hb
          exact .inr ⟨j, b, hj, hb, blkR_spec h1⟩
        · simp at h1
      · rename_i hj
        exact .inl ⟨hj, beq_t.1 h1⟩
    | succ k =>
      have := hpR_spec l (i + 1) h.2 k c (by simpa using hc)
      rwa [show i + 1 + k = i + (k + 1) by omega] at this
theorem ndR_spec {r : Nat → Option Nat} : ∀ (t : Heap) (i : Nat) (seen : List Nat), ndR r t i seen = true → (∀ (k j : Nat) (c : Blk), t[k]? = some (some c) → r (i + k) = some j → j ∉ seen) ∧
    ∀ (k k' j : Nat) (c c' : Blk), t[k]? = some (some c) → t[k']? = some (some c') → r (i + k) = some j → r (i + k') = some j → k = k'
  | [], i, seen, h => ⟨fun k j c hc => by simp at hc, fun k k' j c c' hc => by simp at hc⟩
  | none :: l, i, seen, h => by
    simp only [ndR] at h
    obtain ⟨q1, q2⟩ := ndR_spec l (i + 1) seen h
    refine ⟨fun k j c hc hr => ?_, fun k k' j c c' hc hc' hr hr' => ?_⟩
    · cases k with
      | zero => simp at hc
      | succ k => exact q1 k j c (by simpa using hc) (by rwa [show i + 1 + k = i + (k + 1) by omega])
    · cases k with
      | zero => simp at hc
      | succ k =>
        cases k' with
        | zero => simp at hc'
        | succ k' => rw [q2 k k' j c c' (by simpa using hc) (by simpa using hc') (by rwa [show i + 1 + k = i + (k + 1) by omega]) (by rwa [show i + 1 + k' = i + (k' + 1) by omega])]
  | some c0 :: l, i, seen, h => by
    simp only [ndR] at h
    cases hr0 : r i with
    | none =>
      rw [hr0] at h
      obtain ⟨q1, q2⟩ := ndR_spec l (i + 1) seen h
      refine ⟨fun k j c hc hr => ?_, fun k k' j c c' hc hc' hr hr' => ?_⟩
      · cases k with
        | zero => rw [Nat.add_zero, hr0] at hr; cases hr
        | succ k => exact q1 k j c (by simpa using hc) (by rwa [show i + 1 + k = i + (k + 1) by omega])
      · cases k with
        | zero => rw [Nat.add_zero, hr0] at hr; cases hr
        | succ k =>
          cases k' with
          | zero => rw [Nat.add_zero, hr0] at hr'; cases hr'
          | succ k' => rw [q2 k k' j c c' (by simpa using hc) (by simpa using hc') (by rwa [show i + 1 + k = i + (k + 1) by omega]) (by rwa [show i + 1 + k' = i + (k' + 1) by omega])]
    | some j0 =>
      rw [hr0] at h
      simp only [Bool.and_eq_true, Bool.not_eq_true'] at h
      obtain ⟨h1, h2⟩ := h
      obtain ⟨q1, q2⟩ := ndR_spec l (i + 1) (j0 :: seen) h2
      have hns : j0 ∉ seen := fun hm => by
        have := List.any_eq_false.1 h1 j0 hm
        simp at this
      refine ⟨fun k j c hc hr => ?_, fun k k' j c c' hc hc' hr hr' => ?_⟩
      · cases k with
        | zero => rw [Nat.add_zero, hr0] at hr; cases hr; exact hns
        | succ k =>
          have := q1 k j c (by simpa using hc) (by rwa [show i + 1 + k = i + (k + 1) by omega])
          exact fun hm => this (List.mem_cons_of_mem _ hm)
      · cases k with
        | zero =>
          rw [Nat.add_zero, hr0] at hr; cases hr
          cases k' with
          | zero => rfl
          | succ k' =>
            have := q1 k' j0 c' (by simpa using hc') (by rwa [show i + 1 + k' = i + (k' + 1) by omega])
            exact absurd List.mem_cons_self this
        | succ k =>
          cases k' with
          | zero =>
            rw [Nat.add_zero, hr0] at hr'; cases hr'
            have := q1 k j0 c (by simpa using hc) (by rwa [show i + 1 + k = i + (k + 1) by omega])
            exact absurd List.mem_cons_self this
          | succ k' => rw [q2 k k' j c c' (by simpa using hc) (by simpa using hc') (by rwa [show i + 1 + k = i + (k + 1) by omega]) (by rwa [show i + 1 + k' = i + (k' + 1) by omega])]
structure HpLe (r : Nat → Option Nat) (s t : Heap) : Prop where
  blk : ∀ (id : Nat) (c : Blk), t[id]? = some (some c) → (r id = none ∧ c.n = 0) ∨ ∃ j b, r id = some j ∧ s[j]? = some (some b) ∧ BLeR r t.length b c
  inj : ∀ (id id' j : Nat) (c c' : Blk), t[id]? = some (some c) → t[id']? = some (some c') → r id = some j → r id' = some j → id = id'
structure StLeR (r : Nat → Option Nat) (s t : St) : Prop where
  tm : s.tm.length = t.tm.length ∧ ∀ i, ALeR r t.hp.length (getA s.tm i) (getA t.tm i)
  hp : HpLe r s.hp t.hp
theorem hpLe_of {r : Nat → Option Nat} {s t : Heap} (h1 : hpR r t.length s t 0 = true) (h2 : ndR r t 0 [] = true) : HpLe r s t := by
  refine ⟨fun id c hc => ?_, fun id id' j c c' hc hc' hr hr' => ?_⟩
  · have := hpR_spec t 0 h1 id c hc
    rwa [Nat.zero_add] at this
  · exact (ndR_spec t 0 [] h2).2 id id' j c c' hc hc' (by rwa [Nat.zero_add]) (by rwa [Nat.zero_add])
theorem stR_spec {r : Nat → Option Nat} {s t : St} (h : stR r s t = true) : StLeR r s t := by
  simp only [stR, Bool.and_eq_true] at h
  exact ⟨tmR_spec _ _ h.2.1, hpLe_of h.2.2 h.1⟩
section
variable {P : Program} {w0 w : World} {own0 : Own} {σ : Sg} {pr : Pr}
theorem HpLe.hi {r : Nat → Option Nat} {s t : Heap} (h : HpLe r s t) (H : HI w0 own0 σ pr s w) : HI w0 own0 (renG σ r t.length) pr t w := by
  have hlt : ∀ (id : Nat) (c : Blk), t[id]? = some (some c) → id < t.length := fun id c hc => (List.getElem?_eq_some_iff.1 hc).1
  have hnone : ∀ (id : Nat), r id = none → renG σ r t.length id = none := fun id hr => by simp only [renG, hr]; split <;> rfl
  refine ⟨fun id hid => by simp only [renG, if_neg (Nat.not_lt.2 hid)], fun id c hc => ?_, fun id id' c c' g x x' h1 h2 h3 h4 => ?_, fun id c hc i hi => ?_, H.ev, H.prlt, H.prnew⟩
  · rcases h.blk id c hc with ⟨hr, hn⟩ | ⟨j, b, hr, hb, e1, e2, hcell⟩
    · exact .inl ⟨hnone id hr, hn⟩
    · rw [renG_get hr (hlt id c hc)]
      rcases H.blk j b hb with ⟨q1, q2⟩ | ⟨g, q1, q2⟩
      · exact .inl ⟨q1, by rw [e2]; exact q2⟩
      · refine .inr ⟨g, by rw [e1, e2]; exact q1, q2.free, q2.own, ?_⟩
        obtain ⟨cells, T, fz, r1, r2, r3, r4⟩ := q2.cells
        refine ⟨cells, T, fz, r1, r2, by rw [e1, e2]; exact r3, fun i hi d hd => ?_⟩
        rw [e2] at hi
        rw [e1] at hd ⊢
        obtain ⟨v, v1, v2⟩ := r4 i hi d hd
        exact ⟨v, v1, (hcell i hi).2 d hd _ _ _ _ v2⟩
  · rcases h.blk id c h1 with ⟨hr, hn⟩ | ⟨j, b, hr, hb, _⟩
    · rw [hnone id hr] at h3; cases h3
    · rcases h.blk id' c' h2 with ⟨hr', hn'⟩ | ⟨j', b', hr', hb', _⟩
      · rw [hnone id' hr'] at h4; cases h4
      · rw [renG_get hr (hlt id c h1)] at h3
        rw [renG_get hr' (hlt id' c' h2)] at h4
        have := H.inj j j' b b' g x x' hb hb' h3 h4
        subst this
        exact h.inj id id' j c c' h1 h2 hr hr'
  · rcases h.blk id c hc with ⟨hr, hn⟩ | ⟨j, b, hr, hb, e1, e2, hcell⟩
    · omega
    · rw [e2] at hi
      rw [e1]
      exact (hcell i hi).1
theorem StLeR.sj {r : Nat → Option Nat} {s t : St} (h : StLeR r s t) {n0 : Nat} {a : Act} (H : SJ n0 w0 own0 σ pr s a w) (hn : n0 ≤ t.hp.length) : SJ n0 w0 own0 (renG σ r t.hp.length) pr t a w :=
  ⟨⟨h.hp.hi H.si.hi, ⟨by rw [← h.tm.1]; exact H.si.fi.1, fun i hi => h.tm.2 i _ _ _ _ (H.si.fi.any i)⟩, H.si.df⟩, hn⟩
theorem le_ren {r : Nat → Option Nat} {n m : Nat} {σ' : Sg} {pr' : Pr} {w' : World} {n0 : Nat} (hf : ∀ id, n ≤ id → σ id = none) (L : Le2 n0 σ pr w σ' pr' w') (hr : ∀ i, i < n → r i = some i) (hm : n ≤ m) (hn : n0 ≤ n) : Le2 n0 σ pr w (renG σ' r m) pr' w' := by
  refine ⟨⟨fun i x hx => ?_, L.le.mo, L.le.same, L.le.shape, L.le.size⟩, fun i hi => ?_⟩
  · have hi : i < n := by
      rcases Nat.lt_or_ge i n with h | h
      · exact h
      · rw [hf i h] at hx; cases hx
    rw [renG_get (hr i hi) (by omega)]
    exact L.le.sg i x hx
  · rw [renG_get (hr i (by omega)) (by omega)]
    exact L.keep i hi
theorem loop_ruleR {E : Env} (EO : EnvOK P E) (hm : P.follows .mixedOrders = true) {N id n : Nat} {body : Code} (hok : codeOK P E.isW body = true) (hacc : ∀ w0 own0, accOK P E w0 own0 body)
    {S : Nat → St} {m : Nat} {e' : Ex} {s s' : St} (hn : n = s.hp.length) (hl : ∀ k, k ≤ m → n ≤ (S k).hp.length) (hl' : n ≤ s'.hp.length)
    (start : ∃ r, StLeR r s (S 0) ∧ ∀ i, i < n → r i = some i)
    (step : ∀ k, k < m → ∃ s1 r, am E N body (S k) = some (.normal, s1) ∧ StLeR r s1 (S (k + 1)) ∧ ∀ i, i < n → r i = some i)
    (stop : ∃ e1 s1 r, am E N body (S m) = some (e1, s1) ∧ leave id e1 = some e' ∧ StLeR r s1 s' ∧ ∀ i, i < n → r i = some i) :
    ∀ (n0 : Nat) (σ : Sg) (pr : Pr) (a : Act) (w : World) (Q : Exit → Act → World → Prop), SJ n0 w0 own0 σ pr s a w → Post n0 w0 own0 σ pr w e' s' Q → (Code.block id (.loop body)).wp P Q a w := by
  intro n0 σ pr a w Q H hQ
  have hn0 : n0 ≤ n := by rw [hn]; exact H.len
  have hf : ∀ id, n ≤ id → σ id = none := by rw [hn]; exact H.si.hi.fresh
  refine wp_block ?_
  have key : ∀ (k : Nat), k ≤ m → ∀ (σ' : Sg) (pr' : Pr) (a' : Act) (w' : World), SJ n0 w0 own0 σ' pr' (S k) a' w' → Le2 n0 σ pr w σ' pr' w' → Code.rounds P body (Exit.inBlock id Q) (m - k + 1) a' w' := by
    intro k
    induction hd : m - k generalizing k with
    | zero =>
      intro hk σ' pr' a' w' H' L'
      obtain rfl : k = m := by omega
      obtain ⟨e1, s1, r, h1, hv, h2, hr⟩ := stop
      rw [rounds_succ]
      refine am_sound EO ⟨trivial⟩ hm N n0 body hok (hacc _ _) (S k) s1 e1 σ' pr' a' w' _ h1 H' ?_
      intro a2 σ2 pr2 w2 H2 L2
      have H3 := h2.sj H2 (by omega)
      have L3 := le_ren hf (L'.trans L2) hr hl' hn0
      have := hQ a2 _ _ w2 H3 L3
      cases e1 with
      | normal => simp [leave] at hv
      | ret =>
        simp only [leave, Option.some.injEq] at hv; subst hv
        simpa [Exit.then, exOf, Exit.inBlock] using this
      | exit j =>
        simp only [leave] at hv
        split at hv
        · rename_i hj
          simp only [Option.some.injEq] at hv; subst hv
          have := beq_t.1 hj; subst this
          simpa [Exit.then, exOf, Exit.inBlock] using hQ a2 _ _ w2 H3 L3
        · rename_i hj
          simp only [Option.some.injEq] at hv; subst hv
          have hne : j ≠ id := fun e => by rw [e] at hj; simp at hj
          simpa [Exit.then, exOf, Exit.inBlock, hne] using this
    | succ d ih =>
      intro hk σ' pr' a' w' H' L'
      obtain ⟨s1, r, h1, h2, hr⟩ := step k (by omega)
      rw [rounds_succ]
      refine am_sound EO ⟨trivial⟩ hm N n0 body hok (hacc _ _) (S k) s1 .normal σ' pr' a' w' _ h1 H' ?_
      intro a2 σ2 pr2 w2 H2 L2
      have hlk := hl (k + 1) (by omega)
      exact ih (k + 1) (by omega) (by omega) _ _ a2 w2 (h2.sj H2 (by omega)) (le_ren hf (L'.trans L2) hr hlk hn0)
  obtain ⟨r, h2, hr⟩ := start
  have hl0 := hl 0 (by omega)
  exact wp_loop_rounds _ (key 0 (Nat.zero_le _) _ pr a w (h2.sj H (by omega)) (le_ren hf (Le2.refl _ _ _ _) hr hl0 hn0))
def rnm (n : Nat) (l : List Nat) (i : Nat) : Option Nat := match Nat.ble (i + 1) n with | true => some i | false => l[i - n]?
theorem rnm_lt {n : Nat} {l : List Nat} : ∀ i, i < n → rnm n l i = some i := fun i hi => by
  unfold rnm
  rw [show Nat.ble (i + 1) n = true from Nat.ble_eq_true_of_le hi]
def roundR (E : EnvP) (gs : Guess) (N n : Nat) (l : List Nat) (body : Code) (s : St) (e : Ex) (t : St) : Option Bool :=
  match ap E gs N body ⟨true, s⟩ with
  | some (e1, ps) => (match e, e1 with
    | .normal, .normal => some (ps.ck && stR (rnm n l) ps.st t)
    | .ret, .ret => some (ps.ck && stR (rnm n l) ps.st t)
    | .exit i, .exit j => (match Nat.beq i j with | true => some (ps.ck && stR (rnm n l) ps.st t) | false => none)
    | _, _ => none)
  | none => none
theorem roundR_spec {E : EnvP} {gs : Guess} {N n : Nat} {l : List Nat} {body : Code} {s : St} {e : Ex} {t : St} {c : Bool} (h : roundR E gs N n l body s e t = some c) (hc : c = true) :
    ∃ s1 r, am E.env N body s = some (e, s1) ∧ StLeR r s1 t ∧ ∀ i, i < n → r i = some i := by
  unfold roundR at h
  subst hc
  split at h
  case h_2 => simp at h
  rename_i e1 ps hap
  have key : (ps.ck && stR (rnm n l) ps.st t) = true → e1 = e → ∃ s1 r, am E.env N body s = some (e, s1) ∧ StLeR r s1 t ∧ ∀ i, i < n → r i = some i := fun hh he => by
    simp only [Bool.and_eq_true] at hh
    subst he
    exact ⟨_, _, (ap_spec N body _ _ _ hap hh.1).2, stR_spec hh.2, rnm_lt⟩
  split at h
  · simp only [Option.some.injEq] at h; exact key h rfl
  · simp only [Option.some.injEq] at h; exact key h rfl
  · split at h
    · rename_i hj
      simp only [Option.some.injEq] at h; exact key h (by rw [beq_t.1 hj])
    · simp at h
  · simp at h
end
end Go.AM
namespace Go.AM
open Go Go.RowKit
def okB (n : Nat) : Blk → Bool
  | .ints .. => true
  | .mix sz m row => (List.range m).all fun r => Nat.beq (lenS (row r)) sz && okG n (row r)
theorem roundR_toR {E : EnvP} {gs : Guess} {N n : Nat} {l : List Nat} {body : Code} {s : St} {e : Ex} {t : St} {c : Bool} (h : roundR E gs N n l body s e t = some c) (hc : c = true) :
    ∃ s1 r, am E.env N body s = some (e, s1) ∧ StLeR r s1 t ∧ ∀ i, i < n → r i = some i := roundR_spec h hc
end Go.AM
namespace Go.AM
open Go Go.RowKit
def nonesOK : Heap → Heap → Bool
  | [], _ => true
  | none :: r, none :: r' => nonesOK r r'
  | none :: _, _ => false
  | some _ :: r, _ :: r' => nonesOK r r'
  | some _ :: r, [] => nonesOK r []
theorem nonesOK_spec : ∀ (s t : Heap), nonesOK s t = true → ∀ (i : Nat), s[i]? = some none → t[i]? = some none
  | [], _, _, i, hi => by simp at hi
  | none :: r, none :: r', h, i, hi => by
    cases i with
    | zero => rfl
    | succ i => exact nonesOK_spec r r' h i (by simpa using hi)
  | none :: _, [], h, i, hi => by simp [nonesOK] at h
  | none :: _, some _ :: _, h, i, hi => by simp [nonesOK] at h
  | some _ :: r, x :: r', h, i, hi => by
    cases i with
    | zero => simp at hi
    | succ i =>
      have h : nonesOK r r' = true := by cases x <;> exact h
      exact nonesOK_spec r r' h i (by simpa using hi)
  | some _ :: r, [], h, i, hi => by
    cases i with
    | zero => simp at hi
    | succ i =>
      have := nonesOK_spec r [] h i (by simpa using hi)
      simp at this
def famA (n : Nat) (l : List Nat) (S0 : St) (ck : Bool) (ex : Ex) (T : St) : LF := fun s =>
  match Nat.beq s.hp.length n && nonesOK s.hp T.hp with
  | true => some (ck && stR (rnm n l) s S0, (ex, T))
  | false => none
section
variable {P : Program}
theorem LRow.famA {E : Env} (EO : EnvOK P E) (hm : P.follows .mixedOrders = true) {fn : Func} {id N n : Nat} {l : List Nat} {body : Code} {S : Nat → St} {ck : Bool} {ex : Ex} {T : St} (m : Nat)
    (hb : ∀ c, fn.body = some c → ∀ b ∈ bodiesOf id c, b = .loop body) (hok : codeOK P E.isW body = true) (hacc : ∀ w0 own0, accOK P E w0 own0 body)
    (hS : ∀ k, k ≤ m → n ≤ (S k).hp.length) (hT : n ≤ T.hp.length)
    (h : ck = true → (∀ k, k < m → ∃ s1 r, am E N body (S k) = some (.normal, s1) ∧ StLeR r s1 (S (k + 1)) ∧ ∀ i, i < n → r i = some i) ∧
      ∃ e1 s1 r, am E N body (S m) = some (e1, s1) ∧ leave id e1 = some ex ∧ StLeR r s1 T ∧ ∀ i, i < n → r i = some i) : LRow P fn id (AM.famA n l (S 0) ck ex T) := by
  refine ⟨fun c hc b hbm w0 own0 n0 s s' e σ pr a w Q hF H hQ => ?_, fun s e s' hF i hi => ?_⟩
  · have hF := dropB_t hF
    unfold AM.famA at hF
    split at hF
    case h_2 => simp at hF
    rename_i hx
    simp only [Bool.and_eq_true, beq_t] at hx
    simp only [Option.some.injEq, Prod.mk.injEq, Bool.and_eq_true] at hF
    obtain ⟨⟨h1, h2⟩, rfl, rfl⟩ := hF
    rw [hb c hc b hbm]
    obtain ⟨q5, q6⟩ := h h1
    have e : s.hp.length = n := hx.1
    subst e
    exact loop_ruleR EO hm hok hacc rfl hS hT ⟨_, stR_spec h2, rnm_lt⟩ q5 q6 n0 σ pr a w Q H hQ
  · unfold AM.famA at hF
    split at hF
    case h_2 => simp at hF
    rename_i hx
    simp only [Bool.and_eq_true, beq_t] at hx
    simp only [Option.some.injEq, Prod.mk.injEq, Bool.and_eq_true] at hF
    obtain ⟨_, rfl, rfl⟩ := hF
    exact nonesOK_spec _ _ hx.2 i hi
end
end Go.AM
namespace Go.AM
open Go
def l10 (a : Nat → Int) : List Int := [a 0, a 1, a 2, a 3, a 4, a 5, a 6, a 7, a 8, a 9]
def q10 (l : List Int) : List Int := l10 (lf l)
def gwB (x : Int) : Bool := decide (-4611686018427387904 ≤ x) && decide (x ≤ 4611686018427387904)
def gw10 (a : Nat → Int) : Bool := gwB (a 0) && (gwB (a 1) && (gwB (a 2) && (gwB (a 3) && (gwB (a 4) && (gwB (a 5) && (gwB (a 6) && (gwB (a 7) && (gwB (a 8) && (gwB (a 9))))))))))
theorem gwB_t {x : Int} : gwB x = true ↔ gw x := by simp [gwB, gw]
theorem gw10_t {a : Nat → Int} : gw10 a = true ↔ ∀ i, i < 10 → gw (a i) := by
  simp only [gw10, Bool.and_eq_true, gwB_t]
  constructor
  · rintro ⟨h0, h1, h2, h3, h4, h5, h6, h7, h8, h9⟩
    exact ten h0 h1 h2 h3 h4 h5 h6 h7 h8 h9
  · intro h
    exact ⟨h 0 (by omega), h 1 (by omega), h 2 (by omega), h 3 (by omega), h 4 (by omega), h 5 (by omega), h 6 (by omega), h 7 (by omega), h 8 (by omega), h 9 (by omega)⟩
def addRaw (a b : Nat → Int) : List Int := [wi (a 0 + b 0), wi (a 1 + b 1), wi (a 2 + b 2), wi (a 3 + b 3), wi (a 4 + b 4), wi (a 5 + b 5), wi (a 6 + b 6), wi (a 7 + b 7), wi (a 8 + b 8), wi (a 9 + b 9)]
def subRaw (a b : Nat → Int) : List Int := [wi (a 0 - b 0), wi (a 1 - b 1), wi (a 2 - b 2), wi (a 3 - b 3), wi (a 4 - b 4), wi (a 5 - b 5), wi (a 6 - b 6), wi (a 7 - b 7), wi (a 8 - b 8), wi (a 9 - b 9)]
def prRaw (a b : Nat → Int) : List Int :=
  [wi (wi (wi (wi (wi (wi (wi (wi (wi (wi (a 0 * b 0) + wi (wi (2 * a 1) * wi (19 * b 9))) + wi (a 2 * wi (19 * b 8))) + wi (wi (2 * a 3) * wi (19 * b 7))) + wi (a 4 * wi (19 * b 6))) + wi (wi (2 * a 5) * wi (19 * b 5))) + wi (a 6 * wi (19 * b 4))) + wi (wi (2 * a 7) * wi (19 * b 3))) + wi (a 8 * wi (19 * b 2))) + wi (wi (2 * a 9) * wi (19 * b 1))),
   wi (wi (wi (wi (wi (wi (wi (wi (wi (wi (a 0 * b 1) + wi (a 1 * b 0)) + wi (a 2 * wi (19 * b 9))) + wi (a 3 * wi (19 * b 8))) + wi (a 4 * wi (19 * b 7))) + wi (a 5 * wi (19 * b 6))) + wi (a 6 * wi (19 * b 5))) + wi (a 7 * wi (19 * b 4))) + wi (a 8 * wi (19 * b 3))) + wi (a 9 * wi (19 * b 2))),
   wi (wi (wi (wi (wi (wi (wi (wi (wi (wi (a 0 * b 2) + wi (wi (2 * a 1) * b 1)) + wi (a 2 * b 0)) + wi (wi (2 * a 3) * wi (19 * b 9))) + wi (a 4 * wi (19 * b 8))) + wi (wi (2 * a 5) * wi (19 * b 7))) + wi (a 6 * wi (19 * b 6))) + wi (wi (2 * a 7) * wi (19 * b 5))) + wi (a 8 * wi (19 * b 4))) + wi (wi (2 * a 9) * wi (19 * b 3))),
   wi (wi (wi (wi (wi (wi (wi (wi (wi (wi (a 0 * b 3) + wi (a 1 * b 2)) + wi (a 2 * b 1)) + wi (a 3 * b 0)) + wi (a 4 * wi (19 * b 9))) + wi (a 5 * wi (19 * b 8))) + wi (a 6 * wi (19 * b 7))) + wi (a 7 * wi (19 * b 6))) + wi (a 8 * wi (19 * b 5))) + wi (a 9 * wi (19 * b 4))),
   wi (wi (wi (wi (wi (wi (wi (wi (wi (wi (a 0 * b 4) + wi (wi (2 * a 1) * b 3)) + wi (a 2 * b 2)) + wi (wi (2 * a 3) * b 1)) + wi (a 4 * b 0)) + wi (wi (2 * a 5) * wi (19 * b 9))) + wi (a 6 * wi (19 * b 8))) + wi (wi (2 * a 7) * wi (19 * b 7))) + wi (a 8 * wi (19 * b 6))) + wi (wi (2 * a 9) * wi (19 * b 5))),
   wi (wi (wi (wi (wi (wi (wi (wi (wi (wi (a 0 * b 5) + wi (a 1 * b 4)) + wi (a 2 * b 3)) + wi (a 3 * b 2)) + wi (a 4 * b 1)) + wi (a 5 * b 0)) + wi (a 6 * wi (19 * b 9))) + wi (a 7 * wi (19 * b 8))) + wi (a 8 * wi (19 * b 7))) + wi (a 9 * wi (19 * b 6))),
   wi (wi (wi (wi (wi (wi (wi (wi (wi (wi (a 0 * b 6) + wi (wi (2 * a 1) * b 5)) + wi (a 2 * b 4)) + wi (wi (2 * a 3) * b 3)) + wi (a 4 * b 2)) + wi (wi (2 * a 5) * b 1)) + wi (a 6 * b 0)) + wi (wi (2 * a 7) * wi (19 * b 9))) + wi (a 8 * wi (19 * b 8))) + wi (wi (2 * a 9) * wi (19 * b 7))),
   wi (wi (wi (wi (wi (wi (wi (wi (wi (wi (a 0 * b 7) + wi (a 1 * b 6)) + wi (a 2 * b 5)) + wi (a 3 * b 4)) + wi (a 4 * b 3)) + wi (a 5 * b 2)) + wi (a 6 * b 1)) + wi (a 7 * b 0)) + wi (a 8 * wi (19 * b 9))) + wi (a 9 * wi (19 * b 8))),
   wi (wi (wi (wi (wi (wi (wi (wi (wi (wi (a 0 * b 8) + wi (wi (2 * a 1) * b 7)) + wi (a 2 * b 6)) + wi (wi (2 * a 3) * b 5)) + wi (a 4 * b 4)) + wi (wi (2 * a 5) * b 3)) + wi (a 6 * b 2)) + wi (wi (2 * a 7) * b 1)) + wi (a 8 * b 0)) + wi (wi (2 * a 9) * wi (19 * b 9))),
   wi (wi (wi (wi (wi (wi (wi (wi (wi (wi (a 0 * b 9) + wi (a 1 * b 8)) + wi (a 2 * b 7)) + wi (a 3 * b 6)) + wi (a 4 * b 5)) + wi (a 5 * b 4)) + wi (a 6 * b 3)) + wi (a 7 * b 2)) + wi (a 8 * b 1)) + wi (a 9 * b 0))]
theorem sum10 {t0 t1 t2 t3 t4 t5 t6 t7 t8 t9 : Int} (h0 : -171136785840078848 ≤ t0 ∧ t0 ≤ 171136785840078848) (h1 : -171136785840078848 ≤ t1 ∧ t1 ≤ 171136785840078848) (h2 : -171136785840078848 ≤ t2 ∧ t2 ≤ 171136785840078848) (h3 : -171136785840078848 ≤ t3 ∧ t3 ≤ 171136785840078848) (h4 : -171136785840078848 ≤ t4 ∧ t4 ≤ 171136785840078848) (h5 : -171136785840078848 ≤ t5 ∧ t5 ≤ 171136785840078848) (h6 : -171136785840078848 ≤ t6 ∧ t6 ≤ 171136785840078848) (h7 : -171136785840078848 ≤ t7 ∧ t7 ≤ 171136785840078848) (h8 : -171136785840078848 ≤ t8 ∧ t8 ≤ 171136785840078848) (h9 : -171136785840078848 ≤ t9 ∧ t9 ≤ 171136785840078848) :
    wi (wi (wi (wi (wi (wi (wi (wi (wi (t0 + t1) + t2) + t3) + t4) + t5) + t6) + t7) + t8) + t9) = t0 + t1 + t2 + t3 + t4 + t5 + t6 + t7 + t8 + t9 := by
  rw [wi_id (x := t0 + t1) (by omega), wi_id (x := t0 + t1 + t2) (by omega), wi_id (x := t0 + t1 + t2 + t3) (by omega), wi_id (x := t0 + t1 + t2 + t3 + t4) (by omega), wi_id (x := t0 + t1 + t2 + t3 + t4 + t5) (by omega), wi_id (x := t0 + t1 + t2 + t3 + t4 + t5 + t6) (by omega),
    wi_id (x := t0 + t1 + t2 + t3 + t4 + t5 + t6 + t7) (by omega), wi_id (x := t0 + t1 + t2 + t3 + t4 + t5 + t6 + t7 + t8) (by omega), wi_id (x := t0 + t1 + t2 + t3 + t4 + t5 + t6 + t7 + t8 + t9) (by omega)]
abbrev Gd (x : Int) : Prop := -262144 ≤ x ∧ x ≤ 67108864
theorem mt1 {a b : Int} (ha : Gd a) (hb : Gd b) : wi (a * b) = 1 * (a * b) := by
  have := prodG_bd ha hb
  rw [wi_id (by omega)]; omega
theorem mt2 {a b : Int} (ha : Gd a) (hb : Gd b) : wi (wi (2 * a) * b) = 2 * (a * b) := by
  have := prodG_bd ha hb
  have e : 2 * a * b = 2 * (a * b) := Int.mul_assoc _ _ _
  rw [wi_id (x := 2 * a) (by omega), e, wi_id (by omega)]
theorem mt19 {a b : Int} (ha : Gd a) (hb : Gd b) : wi (a * wi (19 * b)) = 19 * (a * b) := by
  have := prodG_bd ha hb
  have e : a * (19 * b) = 19 * (a * b) := by grind
  rw [wi_id (x := 19 * b) (by omega), e, wi_id (by omega)]
theorem mt38 {a b : Int} (ha : Gd a) (hb : Gd b) : wi (wi (2 * a) * wi (19 * b)) = 38 * (a * b) := by
  have := prodG_bd ha hb
  have e : 2 * a * (19 * b) = 38 * (a * b) := by grind
  rw [wi_id (x := 2 * a) (by omega), wi_id (x := 19 * b) (by omega), e, wi_id (by omega)]
theorem prRaw_law {a b : Nat → Int} (ha : gd10 (l10 a) = true) (hb : gd10 (l10 b) = true) : prRaw a b = prG (l10 a) (l10 b) := by
  obtain ⟨a0, a1, a2, a3, a4, a5, a6, a7, a8, a9⟩ := gd10_t.1 ha
  obtain ⟨b0, b1, b2, b3, b4, b5, b6, b7, b8, b9⟩ := gd10_t.1 hb
  have B : ∀ (c x y : Int), 0 ≤ c ∧ c ≤ 38 → Gd x → Gd y → -171136785840078848 ≤ c * (x * y) ∧ c * (x * y) ≤ 171136785840078848 := fun c x y hc hx hy => by
    have h := prodG_bd hx hy
    have h1 : c * (x * y) ≤ c * 4503599627370496 := Int.mul_le_mul_of_nonneg_left h.2 hc.1
    have h2 : c * -4503599627370496 ≤ c * (x * y) := Int.mul_le_mul_of_nonneg_left h.1 hc.1
    omega
  unfold prRaw prG
  have e0 : wi (wi (wi (wi (wi (wi (wi (wi (wi (wi (a 0 * b 0) + wi (wi (2 * a 1) * wi (19 * b 9))) + wi (a 2 * wi (19 * b 8))) + wi (wi (2 * a 3) * wi (19 * b 7))) + wi (a 4 * wi (19 * b 6))) + wi (wi (2 * a 5) * wi (19 * b 5))) + wi (a 6 * wi (19 * b 4))) + wi (wi (2 * a 7) * wi (19 * b 3))) + wi (a 8 * wi (19 * b 2))) + wi (wi (2 * a 9) * wi (19 * b 1))) = 1 * (a 0 * b 0) + 38 * (a 1 * b 9) + 19 * (a 2 * b 8) + 38 * (a 3 * b 7) + 19 * (a 4 * b 6) + 38 * (a 5 * b 5) + 19 * (a 6 * b 4) + 38 * (a 7 * b 3) + 19 * (a 8 * b 2) + 38 * (a 9 * b 1) := by
    rw [mt1 (a := a 0) (b := b 0) a0 b0, mt38 (a := a 1) (b := b 9) a1 b9, mt19 (a := a 2) (b := b 8) a2 b8, mt38 (a := a 3) (b := b 7) a3 b7, mt19 (a := a 4) (b := b 6) a4 b6, mt38 (a := a 5) (b := b 5) a5 b5, mt19 (a := a 6) (b := b 4) a6 b4, mt38 (a := a 7) (b := b 3) a7 b3, mt19 (a := a 8) (b := b 2) a8 b2, mt38 (a := a 9) (b := b 1) a9 b1]
    exact sum10 (B 1 (a 0) (b 0) (by decide) a0 b0) (B 38 (a 1) (b 9) (by decide) a1 b9) (B 19 (a 2) (b 8) (by decide) a2 b8) (B 38 (a 3) (b 7) (by decide) a3 b7) (B 19 (a 4) (b 6) (by decide) a4 b6) (B 38 (a 5) (b 5) (by decide) a5 b5) (B 19 (a 6) (b 4) (by decide) a6 b4) (B 38 (a 7) (b 3) (by decide) a7 b3) (B 19 (a 8) (b 2) (by decide) a8 b2) (B 38 (a 9) (b 1) (by decide) a9 b1)
  have e1 : wi (wi (wi (wi (wi (wi (wi (wi (wi (wi (a 0 * b 1) + wi (a 1 * b 0)) + wi (a 2 * wi (19 * b 9))) + wi (a 3 * wi (19 * b 8))) + wi (a 4 * wi (19 * b 7))) + wi (a 5 * wi (19 * b 6))) + wi (a 6 * wi (19 * b 5))) + wi (a 7 * wi (19 * b 4))) + wi (a 8 * wi (19 * b 3))) + wi (a 9 * wi (19 * b 2))) = 1 * (a 0 * b 1) + 1 * (a 1 * b 0) + 19 * (a 2 * b 9) + 19 * (a 3 * b 8) + 19 * (a 4 * b 7) + 19 * (a 5 * b 6) + 19 * (a 6 * b 5) + 19 * (a 7 * b 4) + 19 * (a 8 * b 3) + 19 * (a 9 * b 2) := by
    rw [mt1 (a := a 0) (b := b 1) a0 b1, mt1 (a := a 1) (b := b 0) a1 b0, mt19 (a := a 2) (b := b 9) a2 b9, mt19 (a := a 3) (b := b 8) a3 b8, mt19 (a := a 4) (b := b 7) a4 b7, mt19 (a := a 5) (b := b 6) a5 b6, mt19 (a := a 6) (b := b 5) a6 b5, mt19 (a := a 7) (b := b 4) a7 b4, mt19 (a := a 8) (b := b 3) a8 b3, mt19 (a := a 9) (b := b 2) a9 b2]
    exact sum10 (B 1 (a 0) (b 1) (by decide) a0 b1) (B 1 (a 1) (b 0) (by decide) a1 b0) (B 19 (a 2) (b 9) (by decide) a2 b9) (B 19 (a 3) (b 8) (by decide) a3 b8) (B 19 (a 4) (b 7) (by decide) a4 b7) (B 19 (a 5) (b 6) (by decide) a5 b6) (B 19 (a 6) (b 5) (by decide) a6 b5) (B 19 (a 7) (b 4) (by decide) a7 b4) (B 19 (a 8) (b 3) (by decide) a8 b3) (B 19 (a 9) (b 2) (by decide) a9 b2)
  have e2 : wi (wi (wi (wi (wi (wi (wi (wi (wi (wi (a 0 * b 2) + wi (wi (2 * a 1) * b 1)) + wi (a 2 * b 0)) + wi (wi (2 * a 3) * wi (19 * b 9))) + wi (a 4 * wi (19 * b 8))) + wi (wi (2 * a 5) * wi (19 * b 7))) + wi (a 6 * wi (19 * b 6))) + wi (wi (2 * a 7) * wi (19 * b 5))) + wi (a 8 * wi (19 * b 4))) + wi (wi (2 * a 9) * wi (19 * b 3))) = 1 * (a 0 * b 2) + 2 * (a 1 * b 1) + 1 * (a 2 * b 0) + 38 * (a 3 * b 9) + 19 * (a 4 * b 8) + 38 * (a 5 * b 7) + 19 * (a 6 * b 6) + 38 * (a 7 * b 5) + 19 * (a 8 * b 4) + 38 * (a 9 * b 3) := by
    rw [mt1 (a := a 0) (b := b 2) a0 b2, mt2 (a := a 1) (b := b 1) a1 b1, mt1 (a := a 2) (b := b 0) a2 b0, mt38 (a := a 3) (b := b 9) a3 b9, mt19 (a := a 4) (b := b 8) a4 b8, mt38 (a := a 5) (b := b 7) a5 b7, mt19 (a := a 6) (b := b 6) a6 b6, mt38 (a := a 7) (b := b 5) a7 b5, mt19 (a := a 8) (b := b 4) a8 b4, mt38 (a := a 9) (b := b 3) a9 b3]
    exact sum10 (B 1 (a 0) (b 2) (by decide) a0 b2) (B 2 (a 1) (b 1) (by decide) a1 b1) (B 1 (a 2) (b 0) (by decide) a2 b0) (B 38 (a 3) (b 9) (by decide) a3 b9) (B 19 (a 4) (b 8) (by decide) a4 b8) (B 38 (a 5) (b 7) (by decide) a5 b7) (B 19 (a 6) (b 6) (by decide) a6 b6) (B 38 (a 7) (b 5) (by decide) a7 b5) (B 19 (a 8) (b 4) (by decide) a8 b4) (B 38 (a 9) (b 3) (by decide) a9 b3)
  have e3 : wi (wi (wi (wi (wi (wi (wi (wi (wi (wi (a 0 * b 3) + wi (a 1 * b 2)) + wi (a 2 * b 1)) + wi (a 3 * b 0)) + wi (a 4 * wi (19 * b 9))) + wi (a 5 * wi (19 * b 8))) + wi (a 6 * wi (19 * b 7))) + wi (a 7 * wi (19 * b 6))) + wi (a 8 * wi (19 * b 5))) + wi (a 9 * wi (19 * b 4))) = 1 * (a 0 * b 3) + 1 * (a 1 * b 2) + 1 * (a 2 * b 1) + 1 * (a 3 * b 0) + 19 * (a 4 * b 9) + 19 * (a 5 * b 8) + 19 * (a 6 * b 7) + 19 * (a 7 * b 6) + 19 * (a 8 * b 5) + 19 * (a 9 * b 4) := by
    rw [mt1 (a := a 0) (b := b 3) a0 b3, mt1 (a := a 1) (b := b 2) a1 b2, mt1 (a := a 2) (b := b 1) a2 b1, mt1 (a := a 3) (b := b 0) a3 b0, mt19 (a := a 4) (b := b 9) a4 b9, mt19 (a := a 5) (b := b 8) a5 b8, mt19 (a := a 6) (b := b 7) a6 b7, mt19 (a := a 7) (b := b 6) a7 b6, mt19 (a := a 8) (b := b 5) a8 b5, mt19 (a := a 9) (b := b 4) a9 b4]
    exact sum10 (B 1 (a 0) (b 3) (by decide) a0 b3) (B 1 (a 1) (b 2) (by decide) a1 b2) (B 1 (a 2) (b 1) (by decide) a2 b1) (B 1 (a 3) (b 0) (by decide) a3 b0) (B 19 (a 4) (b 9) (by decide) a4 b9) (B 19 (a 5) (b 8) (by decide) a5 b8) (B 19 (a 6) (b 7) (by decide) a6 b7) (B 19 (a 7) (b 6) (by decide) a7 b6) (B 19 (a 8) (b 5) (by decide) a8 b5) (B 19 (a 9) (b 4) (by decide) a9 b4)
  have e4 : wi (wi (wi (wi (wi (wi (wi (wi (wi (wi (a 0 * b 4) + wi (wi (2 * a 1) * b 3)) + wi (a 2 * b 2)) + wi (wi (2 * a 3) * b 1)) + wi (a 4 * b 0)) + wi (wi (2 * a 5) * wi (19 * b 9))) + wi (a 6 * wi (19 * b 8))) + wi (wi (2 * a 7) * wi (19 * b 7))) + wi (a 8 * wi (19 * b 6))) + wi (wi (2 * a 9) * wi (19 * b 5))) = 1 * (a 0 * b 4) + 2 * (a 1 * b 3) + 1 * (a 2 * b 2) + 2 * (a 3 * b 1) + 1 * (a 4 * b 0) + 38 * (a 5 * b 9) + 19 * (a 6 * b 8) + 38 * (a 7 * b 7) + 19 * (a 8 * b 6) + 38 * (a 9 * b 5) := by
    rw [mt1 (a := a 0) (b := b 4) a0 b4, mt2 (a := a 1) (b := b 3) a1 b3, mt1 (a := a 2) (b := b 2) a2 b2, mt2 (a := a 3) (b := b 1) a3 b1, mt1 (a := a 4) (b := b 0) a4 b0, mt38 (a := a 5) (b := b 9) a5 b9, mt19 (a := a 6) (b := b 8) a6 b8, mt38 (a := a 7) (b := b 7) a7 b7, mt19 (a := a 8) (b := b 6) a8 b6, mt38 (a := a 9) (b := b 5) a9 b5]
    exact sum10 (B 1 (a 0) (b 4) (by decide) a0 b4) (B 2 (a 1) (b 3) (by decide) a1 b3) (B 1 (a 2) (b 2) (by decide) a2 b2) (B 2 (a 3) (b 1) (by decide) a3 b1) (B 1 (a 4) (b 0) (by decide) a4 b0) (B 38 (a 5) (b 9) (by decide) a5 b9) (B 19 (a 6) (b 8) (by decide) a6 b8) (B 38 (a 7) (b 7) (by decide) a7 b7) (B 19 (a 8) (b 6) (by decide) a8 b6) (B 38 (a 9) (b 5) (by decide) a9 b5)
  have e5 : wi (wi (wi (wi (wi (wi (wi (wi (wi (wi (a 0 * b 5) + wi (a 1 * b 4)) + wi (a 2 * b 3)) + wi (a 3 * b 2)) + wi (a 4 * b 1)) + wi (a 5 * b 0)) + wi (a 6 * wi (19 * b 9))) + wi (a 7 * wi (19 * b 8))) + wi (a 8 * wi (19 * b 7))) + wi (a 9 * wi (19 * b 6))) = 1 * (a 0 * b 5) + 1 * (a 1 * b 4) + 1 * (a 2 * b 3) + 1 * (a 3 * b 2) + 1 * (a 4 * b 1) + 1 * (a 5 * b 0) + 19 * (a 6 * b 9) + 19 * (a 7 * b 8) + 19 * (a 8 * b 7) + 19 * (a 9 * b 6) := by
    rw [mt1 (a := a 0) (b := b 5) a0 b5, mt1 (a := a 1) (b := b 4) a1 b4, mt1 (a := a 2) (b := b 3) a2 b3, mt1 (a := a 3) (b := b 2) a3 b2, mt1 (a := a 4) (b := b 1) a4 b1, mt1 (a := a 5) (b := b 0) a5 b0, mt19 (a := a 6) (b := b 9) a6 b9, mt19 (a := a 7) (b := b 8) a7 b8, mt19 (a := a 8) (b := b 7) a8 b7, mt19 (a := a 9) (b := b 6) a9 b6]
    exact sum10 (B 1 (a 0) (b 5) (by decide) a0 b5) (B 1 (a 1) (b 4) (by decide) a1 b4) (B 1 (a 2) (b 3) (by decide) a2 b3) (B 1 (a 3) (b 2) (by decide) a3 b2) (B 1 (a 4) (b 1) (by decide) a4 b1) (B 1 (a 5) (b 0) (by decide) a5 b0) (B 19 (a 6) (b 9) (by decide) a6 b9) (B 19 (a 7) (b 8) (by decide) a7 b8) (B 19 (a 8) (b 7) (by decide) a8 b7) (B 19 (a 9) (b 6) (by decide) a9 b6)
  have e6 : wi (wi (wi (wi (wi (wi (wi (wi (wi (wi (a 0 * b 6) + wi (wi (2 * a 1) * b 5)) + wi (a 2 * b 4)) + wi (wi (2 * a 3) * b 3)) + wi (a 4 * b 2)) + wi (wi (2 * a 5) * b 1)) + wi (a 6 * b 0)) + wi (wi (2 * a 7) * wi (19 * b 9))) + wi (a 8 * wi (19 * b 8))) + wi (wi (2 * a 9) * wi (19 * b 7))) = 1 * (a 0 * b 6) + 2 * (a 1 * b 5) + 1 * (a 2 * b 4) + 2 * (a 3 * b 3) + 1 * (a 4 * b 2) + 2 * (a 5 * b 1) + 1 * (a 6 * b 0) + 38 * (a 7 * b 9) + 19 * (a 8 * b 8) + 38 * (a 9 * b 7) := by
    rw [mt1 (a := a 0) (b := b 6) a0 b6, mt2 (a := a 1) (b := b 5) a1 b5, mt1 (a := a 2) (b := b 4) a2 b4, mt2 (a := a 3) (b := b 3) a3 b3, mt1 (a := a 4) (b := b 2) a4 b2, mt2 (a := a 5) (b := b 1) a5 b1, mt1 (a := a 6) (b := b 0) a6 b0, mt38 (a := a 7) (b := b 9) a7 b9, mt19 (a := a 8) (b := b 8) a8 b8, mt38 (a := a 9) (b := b 7) a9 b7]
    exact sum10 (B 1 (a 0) (b 6) (by decide) a0 b6) (B 2 (a 1) (b 5) (by decide) a1 b5) (B 1 (a 2) (b 4) (by decide) a2 b4) (B 2 (a 3) (b 3) (by decide) a3 b3) (B 1 (a 4) (b 2) (by decide) a4 b2) (B 2 (a 5) (b 1) (by decide) a5 b1) (B 1 (a 6) (b 0) (by decide) a6 b0) (B 38 (a 7) (b 9) (by decide) a7 b9) (B 19 (a 8) (b 8) (by decide) a8 b8) (B 38 (a 9) (b 7) (by decide) a9 b7)
  have e7 : wi (wi (wi (wi (wi (wi (wi (wi (wi (wi (a 0 * b 7) + wi (a 1 * b 6)) + wi (a 2 * b 5)) + wi (a 3 * b 4)) + wi (a 4 * b 3)) + wi (a 5 * b 2)) + wi (a 6 * b 1)) + wi (a 7 * b 0)) + wi (a 8 * wi (19 * b 9))) + wi (a 9 * wi (19 * b 8))) = 1 * (a 0 * b 7) + 1 * (a 1 * b 6) + 1 * (a 2 * b 5) + 1 * (a 3 * b 4) + 1 * (a 4 * b 3) + 1 * (a 5 * b 2) + 1 * (a 6 * b 1) + 1 * (a 7 * b 0) + 19 * (a 8 * b 9) + 19 * (a 9 * b 8) := by
    rw [mt1 (a := a 0) (b := b 7) a0 b7, mt1 (a := a 1) (b := b 6) a1 b6, mt1 (a := a 2) (b := b 5) a2 b5, mt1 (a := a 3) (b := b 4) a3 b4, mt1 (a := a 4) (b := b 3) a4 b3, mt1 (a := a 5) (b := b 2) a5 b2, mt1 (a := a 6) (b := b 1) a6 b1, mt1 (a := a 7) (b := b 0) a7 b0, mt19 (a := a 8) (b := b 9) a8 b9, mt19 (a := a 9) (b := b 8) a9 b8]
    exact sum10 (B 1 (a 0) (b 7) (by decide) a0 b7) (B 1 (a 1) (b 6) (by decide) a1 b6) (B 1 (a 2) (b 5) (by decide) a2 b5) (B 1 (a 3) (b 4) (by decide) a3 b4) (B 1 (a 4) (b 3) (by decide) a4 b3) (B 1 (a 5) (b 2) (by decide) a5 b2) (B 1 (a 6) (b 1) (by decide) a6 b1) (B 1 (a 7) (b 0) (by decide) a7 b0) (B 19 (a 8) (b 9) (by decide) a8 b9) (B 19 (a 9) (b 8) (by decide) a9 b8)
  have e8 : wi (wi (wi (wi (wi (wi (wi (wi (wi (wi (a 0 * b 8) + wi (wi (2 * a 1) * b 7)) + wi (a 2 * b 6)) + wi (wi (2 * a 3) * b 5)) + wi (a 4 * b 4)) + wi (wi (2 * a 5) * b 3)) + wi (a 6 * b 2)) + wi (wi (2 * a 7) * b 1)) + wi (a 8 * b 0)) + wi (wi (2 * a 9) * wi (19 * b 9))) = 1 * (a 0 * b 8) + 2 * (a 1 * b 7) + 1 * (a 2 * b 6) + 2 * (a 3 * b 5) + 1 * (a 4 * b 4) + 2 * (a 5 * b 3) + 1 * (a 6 * b 2) + 2 * (a 7 * b 1) + 1 * (a 8 * b 0) + 38 * (a 9 * b 9) := by
    rw [mt1 (a := a 0) (b := b 8) a0 b8, mt2 (a := a 1) (b := b 7) a1 b7, mt1 (a := a 2) (b := b 6) a2 b6, mt2 (a := a 3) (b := b 5) a3 b5, mt1 (a := a 4) (b := b 4) a4 b4, mt2 (a := a 5) (b := b 3) a5 b3, mt1 (a := a 6) (b := b 2) a6 b2, mt2 (a := a 7) (b := b 1) a7 b1, mt1 (a := a 8) (b := b 0) a8 b0, mt38 (a := a 9) (b := b 9) a9 b9]
    exact sum10 (B 1 (a 0) (b 8) (by decide) a0 b8) (B 2 (a 1) (b 7) (by decide) a1 b7) (B 1 (a 2) (b 6) (by decide) a2 b6) (B 2 (a 3) (b 5) (by decide) a3 b5) (B 1 (a 4) (b 4) (by decide) a4 b4) (B 2 (a 5) (b 3) (by decide) a5 b3) (B 1 (a 6) (b 2) (by decide) a6 b2) (B 2 (a 7) (b 1) (by decide) a7 b1) (B 1 (a 8) (b 0) (by decide) a8 b0) (B 38 (a 9) (b 9) (by decide) a9 b9)
  have e9 : wi (wi (wi (wi (wi (wi (wi (wi (wi (wi (a 0 * b 9) + wi (a 1 * b 8)) + wi (a 2 * b 7)) + wi (a 3 * b 6)) + wi (a 4 * b 5)) + wi (a 5 * b 4)) + wi (a 6 * b 3)) + wi (a 7 * b 2)) + wi (a 8 * b 1)) + wi (a 9 * b 0)) = 1 * (a 0 * b 9) + 1 * (a 1 * b 8) + 1 * (a 2 * b 7) + 1 * (a 3 * b 6) + 1 * (a 4 * b 5) + 1 * (a 5 * b 4) + 1 * (a 6 * b 3) + 1 * (a 7 * b 2) + 1 * (a 8 * b 1) + 1 * (a 9 * b 0) := by
    rw [mt1 (a := a 0) (b := b 9) a0 b9, mt1 (a := a 1) (b := b 8) a1 b8, mt1 (a := a 2) (b := b 7) a2 b7, mt1 (a := a 3) (b := b 6) a3 b6, mt1 (a := a 4) (b := b 5) a4 b5, mt1 (a := a 5) (b := b 4) a5 b4, mt1 (a := a 6) (b := b 3) a6 b3, mt1 (a := a 7) (b := b 2) a7 b2, mt1 (a := a 8) (b := b 1) a8 b1, mt1 (a := a 9) (b := b 0) a9 b0]
    exact sum10 (B 1 (a 0) (b 9) (by decide) a0 b9) (B 1 (a 1) (b 8) (by decide) a1 b8) (B 1 (a 2) (b 7) (by decide) a2 b7) (B 1 (a 3) (b 6) (by decide) a3 b6) (B 1 (a 4) (b 5) (by decide) a4 b5) (B 1 (a 5) (b 4) (by decide) a5 b4) (B 1 (a 6) (b 3) (by decide) a6 b3) (B 1 (a 7) (b 2) (by decide) a7 b2) (B 1 (a 8) (b 1) (by decide) a8 b1) (B 1 (a 9) (b 0) (by decide) a9 b0)
  rw [e0, e1, e2, e3, e4, e5, e6, e7, e8, e9]
  rfl
theorem addRaw_law {a b : Nat → Int} (ha : gd10 (l10 a) = true) (hb : gd10 (l10 b) = true) : carD (lf (addRaw a b)) = addG (l10 a) (l10 b) ∧ gw10 (lf (addRaw a b)) = true := by
  obtain ⟨h1, h2, h3⟩ := addG_law ha hb
  obtain ⟨a0, a1, a2, a3, a4, a5, a6, a7, a8, a9⟩ := gd10_t.1 ha
  obtain ⟨b0, b1, b2, b3, b4, b5, b6, b7, b8, b9⟩ := gd10_t.1 hb
  have w : ∀ x y : Int, Gd x → Gd y → wi (x + y) = x + y := fun x y hx hy => wi_id (by omega)
  have e : addRaw a b = [lf (l10 a) 0 + lf (l10 b) 0, lf (l10 a) 1 + lf (l10 b) 1, lf (l10 a) 2 + lf (l10 b) 2, lf (l10 a) 3 + lf (l10 b) 3, lf (l10 a) 4 + lf (l10 b) 4, lf (l10 a) 5 + lf (l10 b) 5, lf (l10 a) 6 + lf (l10 b) 6, lf (l10 a) 7 + lf (l10 b) 7, lf (l10 a) 8 + lf (l10 b) 8, lf (l10 a) 9 + lf (l10 b) 9] := by
    unfold addRaw
    rw [w (a 0) (b 0) a0 b0, w (a 1) (b 1) a1 b1, w (a 2) (b 2) a2 b2, w (a 3) (b 3) a3 b3, w (a 4) (b 4) a4 b4, w (a 5) (b 5) a5 b5, w (a 6) (b 6) a6 b6, w (a 7) (b 7) a7 b7, w (a 8) (b 8) a8 b8, w (a 9) (b 9) a9 b9]
    rfl
  rw [e]
  exact ⟨rfl, gw10_t.2 h1⟩
theorem subRaw_law {a b : Nat → Int} (ha : gd10 (l10 a) = true) (hb : gd10 (l10 b) = true) : carD (lf (subRaw a b)) = subG (l10 a) (l10 b) ∧ gw10 (lf (subRaw a b)) = true := by
  obtain ⟨h1, h2, h3⟩ := subG_law ha hb
  obtain ⟨a0, a1, a2, a3, a4, a5, a6, a7, a8, a9⟩ := gd10_t.1 ha
  obtain ⟨b0, b1, b2, b3, b4, b5, b6, b7, b8, b9⟩ := gd10_t.1 hb
  have w : ∀ x y : Int, Gd x → Gd y → wi (x - y) = x - y := fun x y hx hy => wi_id (by omega)
  have e : subRaw a b = [lf (l10 a) 0 - lf (l10 b) 0, lf (l10 a) 1 - lf (l10 b) 1, lf (l10 a) 2 - lf (l10 b) 2, lf (l10 a) 3 - lf (l10 b) 3, lf (l10 a) 4 - lf (l10 b) 4, lf (l10 a) 5 - lf (l10 b) 5, lf (l10 a) 6 - lf (l10 b) 6, lf (l10 a) 7 - lf (l10 b) 7, lf (l10 a) 8 - lf (l10 b) 8, lf (l10 a) 9 - lf (l10 b) 9] := by
    unfold subRaw
    rw [w (a 0) (b 0) a0 b0, w (a 1) (b 1) a1 b1, w (a 2) (b 2) a2 b2, w (a 3) (b 3) a3 b3, w (a 4) (b 4) a4 b4, w (a 5) (b 5) a5 b5, w (a 6) (b 6) a6 b6, w (a 7) (b 7) a7 b7, w (a 8) (b 8) a8 b8, w (a 9) (b 9) a9 b9]
    rfl
  rw [e]
  exact ⟨rfl, gw10_t.2 h1⟩
end Go.AM
namespace Go.AM
open Go
theorem bit_mid {low D H : Int} {e o w : Nat} (hl : 0 ≤ low ∧ low < 2 ^ e) (ho : o < w) : (low + 2 ^ e * (D + 2 ^ w * H)) / 2 ^ (e + o) % 2 = D / 2 ^ o % 2 := by
  have pe : (0 : Int) < 2 ^ e := Int.pow_pos (by decide)
  have po : (0 : Int) < 2 ^ o := Int.pow_pos (by decide)
  rw [Int.pow_add, ← Int.ediv_ediv_of_nonneg (Int.le_of_lt pe), Int.add_mul_ediv_left _ _ (Int.ne_of_gt pe), Int.ediv_eq_zero_of_lt hl.1 hl.2, Int.zero_add]
  have e1 : (2 : Int) ^ w = 2 ^ o * (2 * 2 ^ (w - o - 1)) := by
    rw [← Int.pow_succ', ← Int.pow_add]
    congr 1
    omega
  rw [e1, Int.mul_assoc, Int.add_mul_ediv_left _ _ (Int.ne_of_gt po)]
  generalize D / 2 ^ o = q
  generalize (2 : Int) ^ (w - o - 1) = m
  have : 2 * m * H = 2 * (m * H) := Int.mul_assoc _ _ _
  rw [this]
  omega
theorem mod_succ (Y : Int) (r : Nat) : Y % 2 ^ (r + 1) = Y % 2 ^ r + (Y / 2 ^ r % 2) * 2 ^ r := by
  have pr : (0 : Int) < 2 ^ r := Int.pow_pos (by decide)
  have e1 : (2 : Int) ^ (r + 1) = 2 ^ r * 2 := Int.pow_succ _ _
  have h0 := Int.emod_nonneg Y (Int.ne_of_gt pr)
  have h1 := Int.emod_lt_of_pos Y pr
  have e2 := Int.emod_add_mul_ediv Y (2 ^ r)
  have hu : 0 ≤ Y / 2 ^ r % 2 ∧ Y / 2 ^ r % 2 ≤ 1 := by omega
  have e3 := Int.emod_add_mul_ediv (Y / 2 ^ r) 2
  rw [e1]
  generalize (2 : Int) ^ r = P at *
  generalize Y % P = s at *
  generalize Y / P = q at *
  generalize q % 2 = u at *
  generalize q / 2 = t at *
  have hY : Y = (s + u * P) + P * 2 * t := by rw [← e2, ← e3]; grind
  rw [hY, Int.add_mul_emod_self_left]
  have hub : 0 ≤ u * P := Int.mul_nonneg hu.1 (Int.le_of_lt pr)
  have hub2 : u * P ≤ 1 * P := Int.mul_le_mul_of_nonneg_right hu.2 (Int.le_of_lt pr)
  exact Int.emod_eq_of_lt (by omega) (by omega)
theorem or_nat {x b : Int} {r : Nat} (hx : 0 ≤ x ∧ x < 2 ^ r) (hb : b = 0 ∨ b = 1) : (x.toNat ||| (b * 2 ^ r).toNat) = (x + b * 2 ^ r).toNat := by
  have hx' : x.toNat < 2 ^ r := by
    have : ((2 ^ r : Nat) : Int) = 2 ^ r := by simp
    omega
  rcases hb with rfl | rfl
  · simp
  · have : ((2 ^ r : Nat) : Int) = 2 ^ r := by simp
    have e1 : (1 * (2 : Int) ^ r).toNat = 2 ^ r * 1 := by rw [Int.one_mul, ← this, Int.toNat_natCast, Nat.mul_one]
    rw [e1, Nat.or_comm, ← Nat.two_pow_add_eq_or_of_lt hx']
    omega
theorem ior_i64 {x b : Int} {r : Nat} (hr : r ≤ 30) (hx : 0 ≤ x ∧ x < 2 ^ r) (hb : b = 0 ∨ b = 1) : ior .i64 x (ishl .i64 b r) = x + b * 2 ^ r := by
  have hp : (2 : Int) ^ r ≤ 1073741824 := by
    have h1 : 2 ^ r ≤ 2 ^ 30 := Nat.pow_le_pow_right (by decide) hr
    have h2 : ((2 ^ r : Nat) : Int) = 2 ^ r := by simp
    omega
  have hpp : (0 : Int) < 2 ^ r := Int.pow_pos (by decide)
  have hbb : 0 ≤ b * 2 ^ r ∧ b * 2 ^ r ≤ 1073741824 := by rcases hb with rfl | rfl <;> omega
  have e1 : ishl .i64 b r = b * 2 ^ r := by
    show wr .i64 (b * 2 ^ (min (r : Int).toNat 64)) = _
    rw [Int.toNat_natCast, show min r 64 = r by omega]
    exact wr_i64' (by omega) (by omega)
  rw [e1]
  have e2 : ∀ y : Int, 0 ≤ y → y ≤ 4611686018427387904 → (BitVec.ofInt 64 y) = BitVec.ofNat 64 y.toNat := fun y h0 h1 => by
    apply BitVec.eq_of_toNat_eq
    simp only [BitVec.toNat_ofInt, BitVec.toNat_ofNat]
    have : (y % (2 ^ 64 : Nat)).toNat = y.toNat % 2 ^ 64 := by omega
    exact this
  have e3 : (BitVec.ofInt 64 x ||| BitVec.ofInt 64 (b * 2 ^ r)).toNat = x.toNat ||| (b * 2 ^ r).toNat := by
    rw [e2 x hx.1 (by omega), e2 _ hbb.1 (by omega), BitVec.toNat_or, BitVec.toNat_ofNat, BitVec.toNat_ofNat, Nat.mod_eq_of_lt (by omega), Nat.mod_eq_of_lt (by omega)]
  show wr .i64 (((BitVec.ofInt 64 x ||| BitVec.ofInt 64 (b * 2 ^ r)).toNat : Nat) : Int) = _
  rw [e3, or_nat hx hb, Int.toNat_of_nonneg (by omega)]
  exact wr_i64' (by omega) (by omega)
theorem ior_u8 {x b : Int} {r : Nat} (hr : r ≤ 7) (hx : 0 ≤ x ∧ x < 2 ^ r) (hb : b = 0 ∨ b = 1) : ior .u8 x (ishl .u8 b r) = x + b * 2 ^ r := by
  have hp : (2 : Int) ^ r ≤ 128 := by
    have h1 : 2 ^ r ≤ 2 ^ 7 := Nat.pow_le_pow_right (by decide) hr
    have h2 : ((2 ^ r : Nat) : Int) = 2 ^ r := by simp
    omega
  have hpp : (0 : Int) < 2 ^ r := Int.pow_pos (by decide)
  have hbb : 0 ≤ b * 2 ^ r ∧ b * 2 ^ r ≤ 128 := by rcases hb with rfl | rfl <;> omega
  have hsum : x + b * 2 ^ r < 256 := by rcases hb with rfl | rfl <;> omega
  have e1 : ishl .u8 b r = b * 2 ^ r := by
    show wr .u8 (b * 2 ^ (min (r : Int).toNat 8)) = _
    rw [Int.toNat_natCast, show min r 8 = r by omega, wr8]
    omega
  rw [e1]
  have e2 : ∀ y : Int, 0 ≤ y → y < 256 → (BitVec.ofInt 8 y) = BitVec.ofNat 8 y.toNat := fun y h0 h1 => by
    apply BitVec.eq_of_toNat_eq
    simp only [BitVec.toNat_ofInt, BitVec.toNat_ofNat]
    have : (y % (2 ^ 8 : Nat)).toNat = y.toNat % 2 ^ 8 := by omega
    exact this
  have e3 : (BitVec.ofInt 8 x ||| BitVec.ofInt 8 (b * 2 ^ r)).toNat = x.toNat ||| (b * 2 ^ r).toNat := by
    rw [e2 x hx.1 (by omega), e2 _ hbb.1 (by omega), BitVec.toNat_or, BitVec.toNat_ofNat, BitVec.toNat_ofNat, Nat.mod_eq_of_lt (by omega), Nat.mod_eq_of_lt (by omega)]
  show wr .u8 (((BitVec.ofInt 8 x ||| BitVec.ofInt 8 (b * 2 ^ r)).toNat : Nat) : Int) = _
  rw [e3, or_nat hx hb, Int.toNat_of_nonneg (by omega), wr8]
  omega
def bitG (b : Nat → Int) (n : Nat) : Int := wr .i64 (iand .u8 (ishr .u8 (b (n / 8)) ((n % 8 : Nat) : Int)) 1)
def digG (b : Nat → Int) (at_ : Nat) : Nat → Int
  | 0 => 0
  | k + 1 => ior .i64 (digG b at_ k) (ishl .i64 (bitG b (at_ + k)) (k : Int))
theorem iand1u8 {x : Int} (h : 0 ≤ x ∧ x < 256) : iand .u8 x 1 = x % 2 := by
  have key : ∀ n : Nat, n < 256 → iand .u8 (n : Int) 1 = (n : Int) % 2 := by decide +kernel
  have := key x.toNat (by omega)
  rwa [Int.toNat_of_nonneg h.1] at this
theorem bitG_law {b : Nat → Int} (h : areB b 32 0 = true) {n : Nat} (hn : n < 256) : bitG b n = hval b 32 0 / 2 ^ n % 2 ∧ (bitG b n = 0 ∨ bitG b n = 1) := by
  have hb := areB_t h (n / 8) (by omega)
  rw [Nat.zero_add] at hb
  have e1 : ishr .u8 (b (n / 8)) ((n % 8 : Nat) : Int) = b (n / 8) / 2 ^ (n % 8) := by
    unfold ishr
    rw [Int.toNat_natCast, show min (n % 8) IntKind.u8.bits = n % 8 by show min (n % 8) 8 = _; omega, Int.fdiv_eq_ediv_of_nonneg _ (Int.le_of_lt (Int.pow_pos (by decide)))]
  have hr : 0 ≤ b (n / 8) / 2 ^ (n % 8) ∧ b (n / 8) / 2 ^ (n % 8) < 256 := by
    have pp : (0 : Int) < 2 ^ (n % 8) := Int.pow_pos (by decide)
    refine ⟨Int.ediv_nonneg hb.1 (Int.le_of_lt pp), Int.lt_of_le_of_lt (Int.ediv_le_self _ hb.1) hb.2⟩
  have e2 : bitG b n = b (n / 8) / 2 ^ (n % 8) % 2 := by
    unfold bitG
    rw [e1, iand1u8 hr]
    exact wr_i64' (by omega) (by omega)
  have s1 := hval_add b (n / 8) (32 - n / 8) 0
  rw [show n / 8 + (32 - n / 8) = 32 by omega, Nat.zero_add] at s1
  have s2 := hval_add b 1 (31 - n / 8) (n / 8)
  rw [show 1 + (31 - n / 8) = 32 - n / 8 by omega] at s2
  have s3 : hval b 1 (n / 8) = b (n / 8) := by simp [hval]
  rw [s3] at s2
  have hl := hval_range (areB_sub (m := n / 8) (i := 0) h (by omega))
  rw [Nat.zero_add] at hl
  have p1 : (256 : Int) ^ (n / 8) = 2 ^ (8 * (n / 8)) := by rw [show (256 : Int) = 2 ^ 8 by decide, ← Int.pow_mul]
  have key := bit_mid (low := hval b (n / 8) 0) (D := b (n / 8)) (H := hval b (31 - n / 8) (n / 8 + 1)) (e := 8 * (n / 8)) (o := n % 8) (w := 8) (by rw [← p1]; exact hl) (by omega)
  rw [show 8 * (n / 8) + n % 8 = n by omega] at key
  have e3 : hval b 32 0 = hval b (n / 8) 0 + 2 ^ (8 * (n / 8)) * (b (n / 8) + 2 ^ 8 * hval b (31 - n / 8) (n / 8 + 1)) := by
    rw [s1, s2, p1]; simp
  rw [← e3] at key
  exact ⟨by rw [e2, key], by rw [e2]; omega⟩
theorem digG_law {b : Nat → Int} (h : areB b 32 0 = true) (at_ : Nat) : ∀ k, k ≤ 26 → at_ + k ≤ 256 → digG b at_ k = hval b 32 0 / 2 ^ at_ % 2 ^ k
  | 0, _, _ => by simp [digG, Int.emod_one]
  | k + 1, hk, ha => by
    have ih := digG_law h at_ k (by omega) (by omega)
    obtain ⟨e1, e2⟩ := bitG_law h (n := at_ + k) (by omega)
    have pp : (0 : Int) < 2 ^ k := Int.pow_pos (by decide)
    unfold digG
    rw [ih, ior_i64 (by omega) ⟨Int.emod_nonneg _ (Int.ne_of_gt pp), Int.emod_lt_of_pos _ pp⟩ e2, e1, mod_succ, Int.pow_add, ← Int.ediv_ediv_of_nonneg (Int.le_of_lt (Int.pow_pos (by decide)))]
def fromRaw (b : Nat → Int) : List Int := [wi (digG b 0 26 + wi (19 * wr .i64 (ishr .u8 (b 31) 7))), digG b 26 25, digG b 51 26, digG b 77 25, digG b 102 26, digG b 128 25, digG b 153 26, digG b 179 25, digG b 204 26, digG b 230 25]
def fromL (v : Int) : List Int := [v % 67108864 + 19 * (v / 57896044618658097711785492504343953926634992332820282019728792003956564819968), v / 67108864 % 33554432, v / 2251799813685248 % 67108864, v / 151115727451828646838272 % 33554432, v / 5070602400912917605986812821504 % 67108864, v / 340282366920938463463374607431768211456 % 33554432, v / 11417981541647679048466287755595961091061972992 % 67108864, v / 766247770432944429179173513575154591809369561091801088 % 33554432, v / 25711008708143844408671393477458601640355247900524685364822016 % 67108864, v / 1725436586697640946858688965569256363112777243042596638790631055949824 % 33554432]
theorem fromRaw_law {b : Nat → Int} (h : areB b 32 0 = true) : fromRaw b = fromL (hval b 32 0) := by
  have hr := hval_range h
  have hv : hval b 32 0 < 115792089237316195423570985008687907853269984665640564039457584007913129639936 := by have := hr.2; simpa using this
  have hb := areB_t h 31 (by omega)
  rw [Nat.zero_add] at hb
  have s1 := hval_add b 31 1 0
  have e1 : hval b 1 (0 + 31) = b 31 := by simp [hval]
  have hl := hval_range (areB_sub (m := 31) (i := 0) h (by omega))
  rw [Nat.zero_add] at hl
  rw [e1, show (256 : Int) ^ 31 = 452312848583266388373324160190187140051835877600158453279131187530910662656 by decide, show 31 + 1 = 32 from rfl] at s1
  rw [show (256 : Int) ^ 31 = 452312848583266388373324160190187140051835877600158453279131187530910662656 by decide] at hl
  have e7 : ishr .u8 (b 31) 7 = b 31 / 128 := by
    show (b 31).fdiv (2 ^ (min (7 : Int).toNat 8)) = _
    rw [Int.fdiv_eq_ediv_of_nonneg _ (by decide)]; rfl
  have e8 : hval b 32 0 / 57896044618658097711785492504343953926634992332820282019728792003956564819968 = b 31 / 128 := by
    rw [s1]
    generalize hval b 31 0 = A at *
    generalize b 31 = B at *
    clear s1 e1 e7
    omega
  unfold fromRaw fromL
  rw [e7, wr_i64' (x := b 31 / 128) (by omega) (by omega), wi_id (x := 19 * (b 31 / 128)) (by omega), digG_law h 0 26 (by omega) (by omega), e8]
  rw [digG_law h 26 25 (by omega) (by omega)]
  rw [digG_law h 51 26 (by omega) (by omega)]
  rw [digG_law h 77 25 (by omega) (by omega)]
  rw [digG_law h 102 26 (by omega) (by omega)]
  rw [digG_law h 128 25 (by omega) (by omega)]
  rw [digG_law h 153 26 (by omega) (by omega)]
  rw [digG_law h 179 25 (by omega) (by omega)]
  rw [digG_law h 204 26 (by omega) (by omega)]
  rw [digG_law h 230 25 (by omega) (by omega)]
  rw [wi_id (by omega)]
  simp only [Int.pow_zero, Int.ediv_one]
  rfl
theorem fromL_law {v : Int} (hv : 0 ≤ v ∧ v < 115792089237316195423570985008687907853269984665640564039457584007913129639936) : gw10 (lf (fromL v)) = true ∧ gd10 (carD (lf (fromL v))) = true ∧ gm (carD (lf (fromL v))) = v % pP := by
  have hw : ∀ i, i < 10 → gw (lf (fromL v) i) := by
    apply ten <;> (simp only [fromL, lf, gw]; omega)
  refine ⟨gw10_t.2 hw, carD_gd hw, ?_⟩
  obtain ⟨q, e⟩ := carD_val (lf (fromL v))
  have e2 : lf (fromL v) 0 + lf (fromL v) 1 * 67108864 + lf (fromL v) 2 * 2251799813685248 + lf (fromL v) 3 * 151115727451828646838272 + lf (fromL v) 4 * 5070602400912917605986812821504 + lf (fromL v) 5 * 340282366920938463463374607431768211456 + lf (fromL v) 6 * 11417981541647679048466287755595961091061972992 + lf (fromL v) 7 * 766247770432944429179173513575154591809369561091801088 + lf (fromL v) 8 * 25711008708143844408671393477458601640355247900524685364822016 + lf (fromL v) 9 * 1725436586697640946858688965569256363112777243042596638790631055949824 = v - v / 57896044618658097711785492504343953926634992332820282019728792003956564819968 * pP := by
    simp only [fromL, lf, pP]
    omega
  unfold gm
  rw [e, e2, Int.add_mul_emod_self_right, Int.sub_mul_emod_self_right]
end Go.AM
namespace Go.AM
open Go
def Cn (a : Nat → Int) : Prop := (0 ≤ a 0 ∧ a 0 < 67108864) ∧ (0 ≤ a 1 ∧ a 1 < 33554432) ∧ (0 ≤ a 2 ∧ a 2 < 67108864) ∧ (0 ≤ a 3 ∧ a 3 < 33554432) ∧ (0 ≤ a 4 ∧ a 4 < 67108864) ∧ (0 ≤ a 5 ∧ a 5 < 33554432) ∧ (0 ≤ a 6 ∧ a 6 < 67108864) ∧ (0 ≤ a 7 ∧ a 7 < 33554432) ∧ (0 ≤ a 8 ∧ a 8 < 67108864) ∧ (0 ≤ a 9 ∧ a 9 < 33554432)
def Cn1 (a : Nat → Int) : Prop := (0 ≤ a 0 ∧ a 0 < 67108864) ∧ (-1 ≤ a 1 ∧ a 1 ≤ 33554432) ∧ (0 ≤ a 2 ∧ a 2 < 67108864) ∧ (0 ≤ a 3 ∧ a 3 < 33554432) ∧ (0 ≤ a 4 ∧ a 4 < 67108864) ∧ (0 ≤ a 5 ∧ a 5 < 33554432) ∧ (0 ≤ a 6 ∧ a 6 < 67108864) ∧ (0 ≤ a 7 ∧ a 7 < 33554432) ∧ (0 ≤ a 8 ∧ a 8 < 67108864) ∧ (0 ≤ a 9 ∧ a 9 < 33554432)
theorem carD_one {l : List Int} (h : gd10 l = true) : Cn1 (lf (carD (lf l))) := by
  obtain ⟨h0, h1, h2, h3, h4, h5, h6, h7, h8, h9⟩ := gd10_t.1 h
  unfold Cn1
  simp only [carD, lf]
  generalize lf l 0 = a0 at *; generalize lf l 1 = a1 at *; generalize lf l 2 = a2 at *; generalize lf l 3 = a3 at *; generalize lf l 4 = a4 at *
  generalize lf l 5 = a5 at *; generalize lf l 6 = a6 at *; generalize lf l 7 = a7 at *; generalize lf l 8 = a8 at *; generalize lf l 9 = a9 at *
  obtain ⟨x1, hx1⟩ : ∃ x, a1 + a0 / 67108864 = x := ⟨_, rfl⟩
  rw [hx1]
  have bx1 : -262146 ≤ x1 ∧ x1 ≤ 67108868 := by omega
  obtain ⟨x2, hx2⟩ : ∃ x, a2 + x1 / 33554432 = x := ⟨_, rfl⟩
  rw [hx2]
  have bx2 : -262146 ≤ x2 ∧ x2 ≤ 67108868 := by omega
  obtain ⟨x3, hx3⟩ : ∃ x, a3 + x2 / 67108864 = x := ⟨_, rfl⟩
  rw [hx3]
  have bx3 : -262146 ≤ x3 ∧ x3 ≤ 67108868 := by omega
  obtain ⟨x4, hx4⟩ : ∃ x, a4 + x3 / 33554432 = x := ⟨_, rfl⟩
  rw [hx4]
  have bx4 : -262146 ≤ x4 ∧ x4 ≤ 67108868 := by omega
  obtain ⟨x5, hx5⟩ : ∃ x, a5 + x4 / 67108864 = x := ⟨_, rfl⟩
  rw [hx5]
  have bx5 : -262146 ≤ x5 ∧ x5 ≤ 67108868 := by omega
  obtain ⟨x6, hx6⟩ : ∃ x, a6 + x5 / 33554432 = x := ⟨_, rfl⟩
  rw [hx6]
  have bx6 : -262146 ≤ x6 ∧ x6 ≤ 67108868 := by omega
  obtain ⟨x7, hx7⟩ : ∃ x, a7 + x6 / 67108864 = x := ⟨_, rfl⟩
  rw [hx7]
  have bx7 : -262146 ≤ x7 ∧ x7 ≤ 67108868 := by omega
  obtain ⟨x8, hx8⟩ : ∃ x, a8 + x7 / 33554432 = x := ⟨_, rfl⟩
  rw [hx8]
  have bx8 : -262146 ≤ x8 ∧ x8 ≤ 67108868 := by omega
  obtain ⟨x9, hx9⟩ : ∃ x, a9 + x8 / 67108864 = x := ⟨_, rfl⟩
  rw [hx9]
  have bx9 : -262146 ≤ x9 ∧ x9 ≤ 67108868 := by omega
  omega
theorem carD_two {a : Nat → Int} (h : Cn1 a) : Cn (lf (carD a)) := by
  obtain ⟨h0, h1, h2, h3, h4, h5, h6, h7, h8, h9⟩ := h
  unfold Cn
  simp only [carD, lf]
  generalize a 0 = a0 at *; generalize a 1 = a1 at *; generalize a 2 = a2 at *; generalize a 3 = a3 at *; generalize a 4 = a4 at *
  generalize a 5 = a5 at *; generalize a 6 = a6 at *; generalize a 7 = a7 at *; generalize a 8 = a8 at *; generalize a 9 = a9 at *
  have hz : a0 / 67108864 = 0 := by omega
  obtain ⟨x1, hx1⟩ : ∃ x, a1 + a0 / 67108864 = x := ⟨_, rfl⟩
  rw [hx1]
  have bx1 : x1 = a1 := by omega
  obtain ⟨c1, hc1⟩ : ∃ c, x1 / 33554432 = c := ⟨_, rfl⟩
  have b1 : (c1 = 0 ∧ 0 ≤ x1) ∨ (c1 = -1 ∧ x1 = -1) ∨ (c1 = 1 ∧ x1 = 33554432) := by omega
  rw [hc1]
  obtain ⟨x2, hx2⟩ : ∃ x, a2 + c1 = x := ⟨_, rfl⟩
  obtain ⟨c2, hc2⟩ : ∃ c, x2 / 67108864 = c := ⟨_, rfl⟩
  rw [hx2, hc2]
  have b2 : -1 ≤ c2 ∧ c2 ≤ 1 ∧ (c1 = 0 → c2 = 0) ∧ (c1 = 1 → 0 ≤ c2) ∧ (c1 = -1 → c2 ≤ 0) := by clear hz h0 h1 hx1 bx1 hc1; omega
  obtain ⟨x3, hx3⟩ : ∃ x, a3 + c2 = x := ⟨_, rfl⟩
  obtain ⟨c3, hc3⟩ : ∃ c, x3 / 33554432 = c := ⟨_, rfl⟩
  rw [hx3, hc3]
  have b3 : -1 ≤ c3 ∧ c3 ≤ 1 ∧ (c2 = 0 → c3 = 0) ∧ (c2 = 1 → 0 ≤ c3) ∧ (c2 = -1 → c3 ≤ 0) := by clear hz h0 h1 hx1 bx1 hc1 b1; omega
  obtain ⟨x4, hx4⟩ : ∃ x, a4 + c3 = x := ⟨_, rfl⟩
  obtain ⟨c4, hc4⟩ : ∃ c, x4 / 67108864 = c := ⟨_, rfl⟩
  rw [hx4, hc4]
  have b4 : -1 ≤ c4 ∧ c4 ≤ 1 ∧ (c3 = 0 → c4 = 0) ∧ (c3 = 1 → 0 ≤ c4) ∧ (c3 = -1 → c4 ≤ 0) := by clear hz h0 h1 hx1 bx1 hc1 b1; omega
  obtain ⟨x5, hx5⟩ : ∃ x, a5 + c4 = x := ⟨_, rfl⟩
  obtain ⟨c5, hc5⟩ : ∃ c, x5 / 33554432 = c := ⟨_, rfl⟩
  rw [hx5, hc5]
  have b5 : -1 ≤ c5 ∧ c5 ≤ 1 ∧ (c4 = 0 → c5 = 0) ∧ (c4 = 1 → 0 ≤ c5) ∧ (c4 = -1 → c5 ≤ 0) := by clear hz h0 h1 hx1 bx1 hc1 b1; omega
  obtain ⟨x6, hx6⟩ : ∃ x, a6 + c5 = x := ⟨_, rfl⟩
  obtain ⟨c6, hc6⟩ : ∃ c, x6 / 67108864 = c := ⟨_, rfl⟩
  rw [hx6, hc6]
  have b6 : -1 ≤ c6 ∧ c6 ≤ 1 ∧ (c5 = 0 → c6 = 0) ∧ (c5 = 1 → 0 ≤ c6) ∧ (c5 = -1 → c6 ≤ 0) := by clear hz h0 h1 hx1 bx1 hc1 b1; omega
  obtain ⟨x7, hx7⟩ : ∃ x, a7 + c6 = x := ⟨_, rfl⟩
  obtain ⟨c7, hc7⟩ : ∃ c, x7 / 33554432 = c := ⟨_, rfl⟩
  rw [hx7, hc7]
  have b7 : -1 ≤ c7 ∧ c7 ≤ 1 ∧ (c6 = 0 → c7 = 0) ∧ (c6 = 1 → 0 ≤ c7) ∧ (c6 = -1 → c7 ≤ 0) := by clear hz h0 h1 hx1 bx1 hc1 b1; omega
  obtain ⟨x8, hx8⟩ : ∃ x, a8 + c7 = x := ⟨_, rfl⟩
  obtain ⟨c8, hc8⟩ : ∃ c, x8 / 67108864 = c := ⟨_, rfl⟩
  rw [hx8, hc8]
  have b8 : -1 ≤ c8 ∧ c8 ≤ 1 ∧ (c7 = 0 → c8 = 0) ∧ (c7 = 1 → 0 ≤ c8) ∧ (c7 = -1 → c8 ≤ 0) := by clear hz h0 h1 hx1 bx1 hc1 b1; omega
  obtain ⟨x9, hx9⟩ : ∃ x, a9 + c8 = x := ⟨_, rfl⟩
  obtain ⟨c9, hc9⟩ : ∃ c, x9 / 33554432 = c := ⟨_, rfl⟩
  rw [hx9, hc9]
  have b9 : -1 ≤ c9 ∧ c9 ≤ 1 ∧ (c8 = 0 → c9 = 0) ∧ (c8 = 1 → 0 ≤ c9) ∧ (c8 = -1 → c9 ≤ 0) := by clear hz h0 h1 hx1 bx1 hc1 b1; omega
  have hc9 : (c1 = 0 → c9 = 0) ∧ (c1 = 1 → 0 ≤ c9) ∧ (c1 = -1 → c9 ≤ 0) := by omega
  have r2 : 0 ≤ x2 % 67108864 ∧ x2 % 67108864 < 67108864 := by omega
  have b9' := b9
  clear b2 b3 b4 b5 b6 b7 b8 b9 hx2 hx3 hx4 hx5 hx6 hx7 hx8 hx9 h2 h3 h4 h5 h6 h7 h8 h9
  refine ⟨by omega, ?_, by omega, by omega, by omega, by omega, by omega, by omega, by omega, by omega⟩
  omega
theorem Cn.one {a : Nat → Int} (h : Cn a) : Cn1 a := by
  obtain ⟨h0, h1, h2, h3, h4, h5, h6, h7, h8, h9⟩ := h
  exact ⟨h0, ⟨by omega, by omega⟩, h2, h3, h4, h5, h6, h7, h8, h9⟩
def gvF (a : Nat → Int) : Int := a 0 + a 1 * 67108864 + a 2 * 2251799813685248 + a 3 * 151115727451828646838272 + a 4 * 5070602400912917605986812821504 + a 5 * 340282366920938463463374607431768211456 + a 6 * 11417981541647679048466287755595961091061972992 + a 7 * 766247770432944429179173513575154591809369561091801088 + a 8 * 25711008708143844408671393477458601640355247900524685364822016 + a 9 * 1725436586697640946858688965569256363112777243042596638790631055949824
theorem Cn.range {a : Nat → Int} (h : Cn a) : 0 ≤ gvF a ∧ gvF a < 57896044618658097711785492504343953926634992332820282019728792003956564819968 := by
  obtain ⟨h0, h1, h2, h3, h4, h5, h6, h7, h8, h9⟩ := h
  unfold gvF
  omega
def eG (i : Nat) : Nat := match i with
  | 0 => 0
  | 1 => 26
  | 2 => 51
  | 3 => 77
  | 4 => 102
  | 5 => 128
  | 6 => 153
  | 7 => 179
  | 8 => 204
  | _ => 230
def diG (n : Nat) : Nat := bif Nat.ble (n + 1) 26 then 0 else bif Nat.ble (n + 1) 51 then 1 else bif Nat.ble (n + 1) 77 then 2 else bif Nat.ble (n + 1) 102 then 3 else bif Nat.ble (n + 1) 128 then 4 else bif Nat.ble (n + 1) 153 then 5 else bif Nat.ble (n + 1) 179 then 6 else bif Nat.ble (n + 1) 204 then 7 else bif Nat.ble (n + 1) 230 then 8 else 9
def bitD (D : Nat → Int) (n : Nat) : Int := wr .u8 (iand .i64 (ishr .i64 (D (diG n)) ((n - eG (diG n) : Nat) : Int)) 1)
def byteG (D : Nat → Int) (j : Nat) : Nat → Int
  | 0 => 0
  | r + 1 => ior .u8 (byteG D j r) (ishl .u8 (bitD D (8 * j + r)) (r : Int))
def outG (D : Nat → Int) : List Int := tabL (fun j => byteG D j (bif Nat.beq j 31 then 7 else 8)) 32 0
theorem ble_n {a b : Nat} (h : b < a) : Nat.ble a b = false := by
  cases hb : Nat.ble a b with
  | false => rfl
  | true => have := Nat.le_of_ble_eq_true hb; omega
theorem bitD_val {D : Nat → Int} {n i k : Nat} (hi : diG n = i) (he : n - eG i = k) (hk : k < 64) (_h0 : 0 ≤ D i) : bitD D n = D i / 2 ^ k % 2 := by
  unfold bitD
  rw [hi, he]
  have e1 : ishr .i64 (D i) (k : Int) = D i / 2 ^ k := by
    unfold ishr
    rw [Int.toNat_natCast, show min k IntKind.i64.bits = k by show min k 64 = _; omega, Int.fdiv_eq_ediv_of_nonneg _ (Int.le_of_lt (Int.pow_pos (by decide)))]
  rw [e1, and_mask (D i / 2 ^ k) 1 (by decide) 1 (by decide), wr8]
  omega
theorem bitD_law {D : Nat → Int} (h : Cn D) {n : Nat} (hn : n < 255) : bitD D n = gvF D / 2 ^ n % 2 ∧ (bitD D n = 0 ∨ bitD D n = 1) := by
  have hc := h
  obtain ⟨h0, h1, h2, h3, h4, h5, h6, h7, h8, h9⟩ := h
  have fin : ∀ x, bitD D n = x % 2 → (bitD D n = 0 ∨ bitD D n = 1) := fun x hx => by omega
  by_cases c0 : n < 26
  · have hd : diG n = 0 := by
      unfold diG
      rw [Nat.ble_eq_true_of_le (show n + 1 ≤ 26 by omega)]
      rfl
    have hv := bitD_val (D := D) (k := n - 0) hd rfl (by omega) h0.1
    have key := bit_mid (low := 0) (D := D 0) (H := D 1 * 1 + D 2 * 33554432 + D 3 * 2251799813685248 + D 4 * 75557863725914323419136 + D 5 * 5070602400912917605986812821504 + D 6 * 170141183460469231731687303715884105728 + D 7 * 11417981541647679048466287755595961091061972992 + D 8 * 383123885216472214589586756787577295904684780545900544 + D 9 * 25711008708143844408671393477458601640355247900524685364822016) (e := 0) (o := n - 0) (w := 26) ⟨by omega, by rw [show (2 : Int) ^ 0 = 1 by decide]; omega⟩ (by omega)
    rw [show 0 + (n - 0) = n by omega, show (2 : Int) ^ 0 = 1 by decide, show (2 : Int) ^ 26 = 67108864 by decide] at key
    have hV : 0 + 1 * (D 0 + 67108864 * (D 1 * 1 + D 2 * 33554432 + D 3 * 2251799813685248 + D 4 * 75557863725914323419136 + D 5 * 5070602400912917605986812821504 + D 6 * 170141183460469231731687303715884105728 + D 7 * 11417981541647679048466287755595961091061972992 + D 8 * 383123885216472214589586756787577295904684780545900544 + D 9 * 25711008708143844408671393477458601640355247900524685364822016)) = gvF D := by unfold gvF; omega
    rw [hV] at key
    exact ⟨hv.trans key.symm, fin _ hv⟩
  by_cases c1 : n < 51
  · have hd : diG n = 1 := by
      unfold diG
      rw [ble_n (a := n + 1) (b := 26) (by omega), Nat.ble_eq_true_of_le (show n + 1 ≤ 51 by omega)]
      rfl
    have hv := bitD_val (D := D) (k := n - 26) hd rfl (by omega) h1.1
    have key := bit_mid (low := D 0) (D := D 1) (H := D 2 * 1 + D 3 * 67108864 + D 4 * 2251799813685248 + D 5 * 151115727451828646838272 + D 6 * 5070602400912917605986812821504 + D 7 * 340282366920938463463374607431768211456 + D 8 * 11417981541647679048466287755595961091061972992 + D 9 * 766247770432944429179173513575154591809369561091801088) (e := 26) (o := n - 26) (w := 25) ⟨by omega, by rw [show (2 : Int) ^ 26 = 67108864 by decide]; omega⟩ (by omega)
    rw [show 26 + (n - 26) = n by omega, show (2 : Int) ^ 26 = 67108864 by decide, show (2 : Int) ^ 25 = 33554432 by decide] at key
    have hV : D 0 + 67108864 * (D 1 + 33554432 * (D 2 * 1 + D 3 * 67108864 + D 4 * 2251799813685248 + D 5 * 151115727451828646838272 + D 6 * 5070602400912917605986812821504 + D 7 * 340282366920938463463374607431768211456 + D 8 * 11417981541647679048466287755595961091061972992 + D 9 * 766247770432944429179173513575154591809369561091801088)) = gvF D := by unfold gvF; omega
    rw [hV] at key
    exact ⟨hv.trans key.symm, fin _ hv⟩
  by_cases c2 : n < 77
  · have hd : diG n = 2 := by
      unfold diG
      rw [ble_n (a := n + 1) (b := 26) (by omega), ble_n (a := n + 1) (b := 51) (by omega), Nat.ble_eq_true_of_le (show n + 1 ≤ 77 by omega)]
      rfl
    have hv := bitD_val (D := D) (k := n - 51) hd rfl (by omega) h2.1
    have key := bit_mid (low := D 0 + D 1 * 67108864) (D := D 2) (H := D 3 * 1 + D 4 * 33554432 + D 5 * 2251799813685248 + D 6 * 75557863725914323419136 + D 7 * 5070602400912917605986812821504 + D 8 * 170141183460469231731687303715884105728 + D 9 * 11417981541647679048466287755595961091061972992) (e := 51) (o := n - 51) (w := 26) ⟨by omega, by rw [show (2 : Int) ^ 51 = 2251799813685248 by decide]; omega⟩ (by omega)
    rw [show 51 + (n - 51) = n by omega, show (2 : Int) ^ 51 = 2251799813685248 by decide, show (2 : Int) ^ 26 = 67108864 by decide] at key
    have hV : D 0 + D 1 * 67108864 + 2251799813685248 * (D 2 + 67108864 * (D 3 * 1 + D 4 * 33554432 + D 5 * 2251799813685248 + D 6 * 75557863725914323419136 + D 7 * 5070602400912917605986812821504 + D 8 * 170141183460469231731687303715884105728 + D 9 * 11417981541647679048466287755595961091061972992)) = gvF D := by unfold gvF; omega
    rw [hV] at key
    exact ⟨hv.trans key.symm, fin _ hv⟩
  by_cases c3 : n < 102
  · have hd : diG n = 3 := by
      unfold diG
      rw [ble_n (a := n + 1) (b := 26) (by omega), ble_n (a := n + 1) (b := 51) (by omega), ble_n (a := n + 1) (b := 77) (by omega), Nat.ble_eq_true_of_le (show n + 1 ≤ 102 by omega)]
      rfl
    have hv := bitD_val (D := D) (k := n - 77) hd rfl (by omega) h3.1
    have key := bit_mid (low := D 0 + D 1 * 67108864 + D 2 * 2251799813685248) (D := D 3) (H := D 4 * 1 + D 5 * 67108864 + D 6 * 2251799813685248 + D 7 * 151115727451828646838272 + D 8 * 5070602400912917605986812821504 + D 9 * 340282366920938463463374607431768211456) (e := 77) (o := n - 77) (w := 25) ⟨by omega, by rw [show (2 : Int) ^ 77 = 151115727451828646838272 by decide]; omega⟩ (by omega)
    rw [show 77 + (n - 77) = n by omega, show (2 : Int) ^ 77 = 151115727451828646838272 by decide, show (2 : Int) ^ 25 = 33554432 by decide] at key
    have hV : D 0 + D 1 * 67108864 + D 2 * 2251799813685248 + 151115727451828646838272 * (D 3 + 33554432 * (D 4 * 1 + D 5 * 67108864 + D 6 * 2251799813685248 + D 7 * 151115727451828646838272 + D 8 * 5070602400912917605986812821504 + D 9 * 340282366920938463463374607431768211456)) = gvF D := by unfold gvF; omega
    rw [hV] at key
    exact ⟨hv.trans key.symm, fin _ hv⟩
  by_cases c4 : n < 128
  · have hd : diG n = 4 := by
      unfold diG
      rw [ble_n (a := n + 1) (b := 26) (by omega), ble_n (a := n + 1) (b := 51) (by omega), ble_n (a := n + 1) (b := 77) (by omega), ble_n (a := n + 1) (b := 102) (by omega), Nat.ble_eq_true_of_le (show n + 1 ≤ 128 by omega)]
      rfl
    have hv := bitD_val (D := D) (k := n - 102) hd rfl (by omega) h4.1
    have key := bit_mid (low := D 0 + D 1 * 67108864 + D 2 * 2251799813685248 + D 3 * 151115727451828646838272) (D := D 4) (H := D 5 * 1 + D 6 * 33554432 + D 7 * 2251799813685248 + D 8 * 75557863725914323419136 + D 9 * 5070602400912917605986812821504) (e := 102) (o := n - 102) (w := 26) ⟨by omega, by rw [show (2 : Int) ^ 102 = 5070602400912917605986812821504 by decide]; omega⟩ (by omega)
    rw [show 102 + (n - 102) = n by omega, show (2 : Int) ^ 102 = 5070602400912917605986812821504 by decide, show (2 : Int) ^ 26 = 67108864 by decide] at key
    have hV : D 0 + D 1 * 67108864 + D 2 * 2251799813685248 + D 3 * 151115727451828646838272 + 5070602400912917605986812821504 * (D 4 + 67108864 * (D 5 * 1 + D 6 * 33554432 + D 7 * 2251799813685248 + D 8 * 75557863725914323419136 + D 9 * 5070602400912917605986812821504)) = gvF D := by unfold gvF; omega
    rw [hV] at key
    exact ⟨hv.trans key.symm, fin _ hv⟩
  by_cases c5 : n < 153
  · have hd : diG n = 5 := by
      unfold diG
      rw [ble_n (a := n + 1) (b := 26) (by omega), ble_n (a := n + 1) (b := 51) (by omega), ble_n (a := n + 1) (b := 77) (by omega), ble_n (a := n + 1) (b := 102) (by omega), ble_n (a := n + 1) (b := 128) (by omega), Nat.ble_eq_true_of_le (show n + 1 ≤ 153 by omega)]
      rfl
    have hv := bitD_val (D := D) (k := n - 128) hd rfl (by omega) h5.1
    have key := bit_mid (low := D 0 + D 1 * 67108864 + D 2 * 2251799813685248 + D 3 * 151115727451828646838272 + D 4 * 5070602400912917605986812821504) (D := D 5) (H := D 6 * 1 + D 7 * 67108864 + D 8 * 2251799813685248 + D 9 * 151115727451828646838272) (e := 128) (o := n - 128) (w := 25) ⟨by omega, by rw [show (2 : Int) ^ 128 = 340282366920938463463374607431768211456 by decide]; omega⟩ (by omega)
    rw [show 128 + (n - 128) = n by omega, show (2 : Int) ^ 128 = 340282366920938463463374607431768211456 by decide, show (2 : Int) ^ 25 = 33554432 by decide] at key
    have hV : D 0 + D 1 * 67108864 + D 2 * 2251799813685248 + D 3 * 151115727451828646838272 + D 4 * 5070602400912917605986812821504 + 340282366920938463463374607431768211456 * (D 5 + 33554432 * (D 6 * 1 + D 7 * 67108864 + D 8 * 2251799813685248 + D 9 * 151115727451828646838272)) = gvF D := by unfold gvF; omega
    rw [hV] at key
    exact ⟨hv.trans key.symm, fin _ hv⟩
  by_cases c6 : n < 179
  · have hd : diG n = 6 := by
      unfold diG
      rw [ble_n (a := n + 1) (b := 26) (by omega), ble_n (a := n + 1) (b := 51) (by omega), ble_n (a := n + 1) (b := 77) (by omega), ble_n (a := n + 1) (b := 102) (by omega), ble_n (a := n + 1) (b := 128) (by omega), ble_n (a := n + 1) (b := 153) (by omega), Nat.ble_eq_true_of_le (show n + 1 ≤ 179 by omega)]
      rfl
    have hv := bitD_val (D := D) (k := n - 153) hd rfl (by omega) h6.1
    have key := bit_mid (low := D 0 + D 1 * 67108864 + D 2 * 2251799813685248 + D 3 * 151115727451828646838272 + D 4 * 5070602400912917605986812821504 + D 5 * 340282366920938463463374607431768211456) (D := D 6) (H := D 7 * 1 + D 8 * 33554432 + D 9 * 2251799813685248) (e := 153) (o := n - 153) (w := 26) ⟨by omega, by rw [show (2 : Int) ^ 153 = 11417981541647679048466287755595961091061972992 by decide]; omega⟩ (by omega)
    rw [show 153 + (n - 153) = n by omega, show (2 : Int) ^ 153 = 11417981541647679048466287755595961091061972992 by decide, show (2 : Int) ^ 26 = 67108864 by decide] at key
    have hV : D 0 + D 1 * 67108864 + D 2 * 2251799813685248 + D 3 * 151115727451828646838272 + D 4 * 5070602400912917605986812821504 + D 5 * 340282366920938463463374607431768211456 + 11417981541647679048466287755595961091061972992 * (D 6 + 67108864 * (D 7 * 1 + D 8 * 33554432 + D 9 * 2251799813685248)) = gvF D := by unfold gvF; omega
    rw [hV] at key
    exact ⟨hv.trans key.symm, fin _ hv⟩
  by_cases c7 : n < 204
  · have hd : diG n = 7 := by
      unfold diG
      rw [ble_n (a := n + 1) (b := 26) (by omega), ble_n (a := n + 1) (b := 51) (by omega), ble_n (a := n + 1) (b := 77) (by omega), ble_n (a := n + 1) (b := 102) (by omega), ble_n (a := n + 1) (b := 128) (by omega), ble_n (a := n + 1) (b := 153) (by omega), ble_n (a := n + 1) (b := 179) (by omega), Nat.ble_eq_true_of_le (show n + 1 ≤ 204 by omega)]
      rfl
    have hv := bitD_val (D := D) (k := n - 179) hd rfl (by omega) h7.1
    have key := bit_mid (low := D 0 + D 1 * 67108864 + D 2 * 2251799813685248 + D 3 * 151115727451828646838272 + D 4 * 5070602400912917605986812821504 + D 5 * 340282366920938463463374607431768211456 + D 6 * 11417981541647679048466287755595961091061972992) (D := D 7) (H := D 8 * 1 + D 9 * 67108864) (e := 179) (o := n - 179) (w := 25) ⟨by omega, by rw [show (2 : Int) ^ 179 = 766247770432944429179173513575154591809369561091801088 by decide]; omega⟩ (by omega)
    rw [show 179 + (n - 179) = n by omega, show (2 : Int) ^ 179 = 766247770432944429179173513575154591809369561091801088 by decide, show (2 : Int) ^ 25 = 33554432 by decide] at key
    have hV : D 0 + D 1 * 67108864 + D 2 * 2251799813685248 + D 3 * 151115727451828646838272 + D 4 * 5070602400912917605986812821504 + D 5 * 340282366920938463463374607431768211456 + D 6 * 11417981541647679048466287755595961091061972992 + 766247770432944429179173513575154591809369561091801088 * (D 7 + 33554432 * (D 8 * 1 + D 9 * 67108864)) = gvF D := by unfold gvF; omega
    rw [hV] at key
    exact ⟨hv.trans key.symm, fin _ hv⟩
  by_cases c8 : n < 230
  · have hd : diG n = 8 := by
      unfold diG
      rw [ble_n (a := n + 1) (b := 26) (by omega), ble_n (a := n + 1) (b := 51) (by omega), ble_n (a := n + 1) (b := 77) (by omega), ble_n (a := n + 1) (b := 102) (by omega), ble_n (a := n + 1) (b := 128) (by omega), ble_n (a := n + 1) (b := 153) (by omega), ble_n (a := n + 1) (b := 179) (by omega), ble_n (a := n + 1) (b := 204) (by omega), Nat.ble_eq_true_of_le (show n + 1 ≤ 230 by omega)]
      rfl
    have hv := bitD_val (D := D) (k := n - 204) hd rfl (by omega) h8.1
    have key := bit_mid (low := D 0 + D 1 * 67108864 + D 2 * 2251799813685248 + D 3 * 151115727451828646838272 + D 4 * 5070602400912917605986812821504 + D 5 * 340282366920938463463374607431768211456 + D 6 * 11417981541647679048466287755595961091061972992 + D 7 * 766247770432944429179173513575154591809369561091801088) (D := D 8) (H := D 9 * 1) (e := 204) (o := n - 204) (w := 26) ⟨by omega, by rw [show (2 : Int) ^ 204 = 25711008708143844408671393477458601640355247900524685364822016 by decide]; omega⟩ (by omega)
    rw [show 204 + (n - 204) = n by omega, show (2 : Int) ^ 204 = 25711008708143844408671393477458601640355247900524685364822016 by decide, show (2 : Int) ^ 26 = 67108864 by decide] at key
    have hV : D 0 + D 1 * 67108864 + D 2 * 2251799813685248 + D 3 * 151115727451828646838272 + D 4 * 5070602400912917605986812821504 + D 5 * 340282366920938463463374607431768211456 + D 6 * 11417981541647679048466287755595961091061972992 + D 7 * 766247770432944429179173513575154591809369561091801088 + 25711008708143844408671393477458601640355247900524685364822016 * (D 8 + 67108864 * (D 9 * 1)) = gvF D := by unfold gvF; omega
    rw [hV] at key
    exact ⟨hv.trans key.symm, fin _ hv⟩
  · have hd : diG n = 9 := by
      unfold diG
      rw [ble_n (a := n + 1) (b := 26) (by omega), ble_n (a := n + 1) (b := 51) (by omega), ble_n (a := n + 1) (b := 77) (by omega), ble_n (a := n + 1) (b := 102) (by omega), ble_n (a := n + 1) (b := 128) (by omega), ble_n (a := n + 1) (b := 153) (by omega), ble_n (a := n + 1) (b := 179) (by omega), ble_n (a := n + 1) (b := 204) (by omega), ble_n (a := n + 1) (b := 230) (by omega)]
      rfl
    have hv := bitD_val (D := D) (k := n - 230) hd rfl (by omega) h9.1
    have key := bit_mid (low := D 0 + D 1 * 67108864 + D 2 * 2251799813685248 + D 3 * 151115727451828646838272 + D 4 * 5070602400912917605986812821504 + D 5 * 340282366920938463463374607431768211456 + D 6 * 11417981541647679048466287755595961091061972992 + D 7 * 766247770432944429179173513575154591809369561091801088 + D 8 * 25711008708143844408671393477458601640355247900524685364822016) (D := D 9) (H := 0) (e := 230) (o := n - 230) (w := 25) ⟨by omega, by rw [show (2 : Int) ^ 230 = 1725436586697640946858688965569256363112777243042596638790631055949824 by decide]; omega⟩ (by omega)
    rw [show 230 + (n - 230) = n by omega, show (2 : Int) ^ 230 = 1725436586697640946858688965569256363112777243042596638790631055949824 by decide, show (2 : Int) ^ 25 = 33554432 by decide] at key
    have hV : D 0 + D 1 * 67108864 + D 2 * 2251799813685248 + D 3 * 151115727451828646838272 + D 4 * 5070602400912917605986812821504 + D 5 * 340282366920938463463374607431768211456 + D 6 * 11417981541647679048466287755595961091061972992 + D 7 * 766247770432944429179173513575154591809369561091801088 + D 8 * 25711008708143844408671393477458601640355247900524685364822016 + 1725436586697640946858688965569256363112777243042596638790631055949824 * (D 9 + 33554432 * (0)) = gvF D := by unfold gvF; omega
    rw [hV] at key
    exact ⟨hv.trans key.symm, fin _ hv⟩
theorem byteG_law {D : Nat → Int} (h : Cn D) (j : Nat) : ∀ r, r ≤ 8 → 8 * j + r ≤ 255 → byteG D j r = gvF D / 2 ^ (8 * j) % 2 ^ r
  | 0, _, _ => by simp [byteG, Int.emod_one]
  | r + 1, hr, hj => by
    have ih := byteG_law h j r (by omega) (by omega)
    obtain ⟨e1, e2⟩ := bitD_law h (n := 8 * j + r) (by omega)
    have pp : (0 : Int) < 2 ^ r := Int.pow_pos (by decide)
    unfold byteG
    rw [ih, ior_u8 (by omega) ⟨Int.emod_nonneg _ (Int.ne_of_gt pp), Int.emod_lt_of_pos _ pp⟩ e2, e1, mod_succ, Int.pow_add, ← Int.ediv_ediv_of_nonneg (Int.le_of_lt (Int.pow_pos (by decide)))]
theorem lf_byL : ∀ (n : Nat) (x : Int) (j : Nat), j < n → lf (byL n x) j = x / 256 ^ j % 256
  | 0, x, j, h => by omega
  | n + 1, x, 0, h => by show x % 256 = _; simp
  | n + 1, x, j + 1, h => by
    show lf (byL n (x / 256)) j = _
    rw [lf_byL n (x / 256) j (by omega), Int.pow_succ', ← Int.ediv_ediv_of_nonneg (by decide)]
theorem tabL_ext {f g : Nat → Int} : ∀ (n j : Nat), (∀ c, c < n → f (j + c) = g (j + c)) → tabL f n j = tabL g n j
  | 0, _, _ => rfl
  | n + 1, j, h => by
    simp only [tabL]
    have h0 := h 0 (by omega)
    rw [Nat.add_zero] at h0
    have e : tabL f n (j + 1) = tabL g n (j + 1) := tabL_ext n (j + 1) fun c hc => by
      have := h (c + 1) (by omega)
      rwa [show j + (c + 1) = j + 1 + c by omega] at this
    rw [h0, e]
theorem outG_law {D : Nat → Int} (h : Cn D) : outG D = byL 32 (gvF D) := by
  obtain ⟨r0, r1⟩ := h.range
  have e : tabL (lf (byL 32 (gvF D))) 32 0 = byL 32 (gvF D) := tabL_lf (byL_length _ _)
  rw [← e]
  refine tabL_ext 32 0 fun c hc => ?_
  rw [Nat.zero_add, lf_byL 32 _ c hc, show (256 : Int) = 2 ^ 8 by decide, ← Int.pow_mul]
  by_cases q : c = 31
  · subst q
    show byteG D 31 7 = _
    rw [byteG_law h 31 7 (by omega) (by omega)]
    have : gvF D / 2 ^ (8 * 31) < 128 := by
      rw [show (2 : Int) ^ (8 * 31) = 452312848583266388373324160190187140051835877600158453279131187530910662656 by decide]
      omega
    have h0 : 0 ≤ gvF D / 2 ^ (8 * 31) := Int.ediv_nonneg r0 (Int.le_of_lt (Int.pow_pos (by decide)))
    generalize gvF D / 2 ^ (8 * 31) = y at *
    rw [show (2 : Int) ^ 7 = 128 by decide, show (2 : Int) ^ 8 = 256 by decide]
    omega
  · have hb : Nat.beq c 31 = false := by
      cases hb : Nat.beq c 31 with
      | false => rfl
      | true => exact absurd (Nat.eq_of_beq_eq_true hb) q
    show byteG D c (bif Nat.beq c 31 then 7 else 8) = _
    rw [hb]
    exact byteG_law h c 8 (by omega) (by omega)
end Go.AM
namespace Go.AM
open Go
def sl26 (x : Int) : Int := wi (x - ishl .i64 (sh26 x) 26)
def sl25 (x : Int) : Int := wi (x - ishl .i64 (sh25 x) 25)
structure XG where
  y : Nat → Int
  g : Bool
def xG (A : Nat → Int) : XG :=
  let x0 := wi (A 0 + 19)
  let x1 := wi (A 1 + sh26 x0)
  let x2 := wi (A 2 + sh25 x1)
  let x3 := wi (A 3 + sh26 x2)
  let x4 := wi (A 4 + sh25 x3)
  let x5 := wi (A 5 + sh26 x4)
  let x6 := wi (A 6 + sh25 x5)
  let x7 := wi (A 7 + sh26 x6)
  let x8 := wi (A 8 + sh25 x7)
  let x9 := wi (A 9 + sh26 x8)
  ⟨lf [sl26 x0, sl25 x1, sl26 x2, sl25 x3, sl26 x4, sl25 x5, sl26 x6, sl25 x7, sl26 x8, mk25 x9], decide (sh25 x9 > 0)⟩
theorem sl26_law {x : Int} (h : 0 ≤ x ∧ x < 1073741824) : sl26 x = x % 67108864 := by
  have e : ishl .i64 (sh26 x) 26 = x / 67108864 * 67108864 := by
    show wr .i64 (sh26 x * 2 ^ (min (26 : Int).toNat 64)) = _
    rw [sh26_law]
    exact wr_i64' (x := x / 67108864 * 67108864) (by omega) (by omega)
  unfold sl26
  rw [e, wi_id (by omega)]
  omega
theorem sl25_law {x : Int} (h : 0 ≤ x ∧ x < 1073741824) : sl25 x = x % 33554432 := by
  have e : ishl .i64 (sh25 x) 25 = x / 33554432 * 33554432 := by
    show wr .i64 (sh25 x * 2 ^ (min (25 : Int).toNat 64)) = _
    rw [sh25_law]
    exact wr_i64' (x := x / 33554432 * 33554432) (by omega) (by omega)
  unfold sl25
  rw [e, wi_id (by omega)]
  omega
theorem xG_law {A : Nat → Int} (h : Cn A) : (xG A).g = decide (57896044618658097711785492504343953926634992332820282019728792003956564819968 ≤ gvF A + 19) ∧ ((xG A).g = true → Cn (xG A).y ∧ gvF (xG A).y = gvF A % pP) ∧ ((xG A).g = false → gvF A = gvF A % pP) := by
  have hr := h.range
  obtain ⟨h0, h1, h2, h3, h4, h5, h6, h7, h8, h9⟩ := h
  unfold xG
  dsimp only
  unfold gvF at *
  simp only [sh26_law, sh25_law]
  generalize A 0 = a0 at *
  generalize A 1 = a1 at *
  generalize A 2 = a2 at *
  generalize A 3 = a3 at *
  generalize A 4 = a4 at *
  generalize A 5 = a5 at *
  generalize A 6 = a6 at *
  generalize A 7 = a7 at *
  generalize A 8 = a8 at *
  generalize A 9 = a9 at *
  have w0 : wi (a0 + 19) = a0 + 19 := wi_id (by omega)
  rw [w0]
  obtain ⟨x0, e0⟩ : ∃ x, a0 + 19 = x := ⟨_, rfl⟩
  rw [e0]
  have b0 : 0 ≤ x0 ∧ x0 < 67108864 + 19 := by omega
  obtain ⟨c0, r0, f0, g0, k0⟩ : ∃ c r, x0 / 67108864 = c ∧ x0 % 67108864 = r ∧ x0 = 67108864 * c + r := ⟨_, _, rfl, rfl, by omega⟩
  have bc0 : 0 ≤ c0 ∧ c0 ≤ 1 ∧ 0 ≤ r0 ∧ r0 < 67108864 := by clear hr; omega
  rw [f0]
  rw [wi_id (x := a1 + c0) (by clear hr; omega)]
  obtain ⟨x1, e1⟩ : ∃ x, a1 + c0 = x := ⟨_, rfl⟩
  rw [e1]
  have b1 : 0 ≤ x1 ∧ x1 ≤ 33554432 := by clear hr; omega
  obtain ⟨c1, r1, f1, g1, k1⟩ : ∃ c r, x1 / 33554432 = c ∧ x1 % 33554432 = r ∧ x1 = 33554432 * c + r := ⟨_, _, rfl, rfl, by omega⟩
  have bc1 : 0 ≤ c1 ∧ c1 ≤ 1 ∧ 0 ≤ r1 ∧ r1 < 33554432 := by clear hr; omega
  rw [f1]
  rw [wi_id (x := a2 + c1) (by clear hr; omega)]
  obtain ⟨x2, e2⟩ : ∃ x, a2 + c1 = x := ⟨_, rfl⟩
  rw [e2]
  have b2 : 0 ≤ x2 ∧ x2 ≤ 67108864 := by clear hr; omega
  obtain ⟨c2, r2, f2, g2, k2⟩ : ∃ c r, x2 / 67108864 = c ∧ x2 % 67108864 = r ∧ x2 = 67108864 * c + r := ⟨_, _, rfl, rfl, by omega⟩
  have bc2 : 0 ≤ c2 ∧ c2 ≤ 1 ∧ 0 ≤ r2 ∧ r2 < 67108864 := by clear hr; omega
  rw [f2]
  rw [wi_id (x := a3 + c2) (by clear hr; omega)]
  obtain ⟨x3, e3⟩ : ∃ x, a3 + c2 = x := ⟨_, rfl⟩
  rw [e3]
  have b3 : 0 ≤ x3 ∧ x3 ≤ 33554432 := by clear hr; omega
  obtain ⟨c3, r3, f3, g3, k3⟩ : ∃ c r, x3 / 33554432 = c ∧ x3 % 33554432 = r ∧ x3 = 33554432 * c + r := ⟨_, _, rfl, rfl, by omega⟩
  have bc3 : 0 ≤ c3 ∧ c3 ≤ 1 ∧ 0 ≤ r3 ∧ r3 < 33554432 := by clear hr; omega
  rw [f3]
  rw [wi_id (x := a4 + c3) (by clear hr; omega)]
  obtain ⟨x4, e4⟩ : ∃ x, a4 + c3 = x := ⟨_, rfl⟩
  rw [e4]
  have b4 : 0 ≤ x4 ∧ x4 ≤ 67108864 := by clear hr; omega
  obtain ⟨c4, r4, f4, g4, k4⟩ : ∃ c r, x4 / 67108864 = c ∧ x4 % 67108864 = r ∧ x4 = 67108864 * c + r := ⟨_, _, rfl, rfl, by omega⟩
  have bc4 : 0 ≤ c4 ∧ c4 ≤ 1 ∧ 0 ≤ r4 ∧ r4 < 67108864 := by clear hr; omega
  rw [f4]
  rw [wi_id (x := a5 + c4) (by clear hr; omega)]
  obtain ⟨x5, e5⟩ : ∃ x, a5 + c4 = x := ⟨_, rfl⟩
  rw [e5]
  have b5 : 0 ≤ x5 ∧ x5 ≤ 33554432 := by clear hr; omega
  obtain ⟨c5, r5, f5, g5, k5⟩ : ∃ c r, x5 / 33554432 = c ∧ x5 % 33554432 = r ∧ x5 = 33554432 * c + r := ⟨_, _, rfl, rfl, by omega⟩
  have bc5 : 0 ≤ c5 ∧ c5 ≤ 1 ∧ 0 ≤ r5 ∧ r5 < 33554432 := by clear hr; omega
  rw [f5]
  rw [wi_id (x := a6 + c5) (by clear hr; omega)]
  obtain ⟨x6, e6⟩ : ∃ x, a6 + c5 = x := ⟨_, rfl⟩
  rw [e6]
  have b6 : 0 ≤ x6 ∧ x6 ≤ 67108864 := by clear hr; omega
  obtain ⟨c6, r6, f6, g6, k6⟩ : ∃ c r, x6 / 67108864 = c ∧ x6 % 67108864 = r ∧ x6 = 67108864 * c + r := ⟨_, _, rfl, rfl, by omega⟩
  have bc6 : 0 ≤ c6 ∧ c6 ≤ 1 ∧ 0 ≤ r6 ∧ r6 < 67108864 := by clear hr; omega
  rw [f6]
  rw [wi_id (x := a7 + c6) (by clear hr; omega)]
  obtain ⟨x7, e7⟩ : ∃ x, a7 + c6 = x := ⟨_, rfl⟩
  rw [e7]
  have b7 : 0 ≤ x7 ∧ x7 ≤ 33554432 := by clear hr; omega
  obtain ⟨c7, r7, f7, g7, k7⟩ : ∃ c r, x7 / 33554432 = c ∧ x7 % 33554432 = r ∧ x7 = 33554432 * c + r := ⟨_, _, rfl, rfl, by omega⟩
  have bc7 : 0 ≤ c7 ∧ c7 ≤ 1 ∧ 0 ≤ r7 ∧ r7 < 33554432 := by clear hr; omega
  rw [f7]
  rw [wi_id (x := a8 + c7) (by clear hr; omega)]
  obtain ⟨x8, e8⟩ : ∃ x, a8 + c7 = x := ⟨_, rfl⟩
  rw [e8]
  have b8 : 0 ≤ x8 ∧ x8 ≤ 67108864 := by clear hr; omega
  obtain ⟨c8, r8, f8, g8, k8⟩ : ∃ c r, x8 / 67108864 = c ∧ x8 % 67108864 = r ∧ x8 = 67108864 * c + r := ⟨_, _, rfl, rfl, by omega⟩
  have bc8 : 0 ≤ c8 ∧ c8 ≤ 1 ∧ 0 ≤ r8 ∧ r8 < 67108864 := by clear hr; omega
  rw [f8]
  rw [wi_id (x := a9 + c8) (by clear hr; omega)]
  obtain ⟨x9, e9⟩ : ∃ x, a9 + c8 = x := ⟨_, rfl⟩
  rw [e9]
  have b9 : 0 ≤ x9 ∧ x9 ≤ 33554432 := by clear hr; omega
  obtain ⟨c9, r9, f9, g9, k9⟩ : ∃ c r, x9 / 33554432 = c ∧ x9 % 33554432 = r ∧ x9 = 33554432 * c + r := ⟨_, _, rfl, rfl, by omega⟩
  have bc9 : 0 ≤ c9 ∧ c9 ≤ 1 ∧ 0 ≤ r9 ∧ r9 < 33554432 := by clear hr; omega
  rw [f9]
  rw [mk25_law, g9]
  rw [sl26_law (x := x0) (by clear hr; omega), g0]
  rw [sl25_law (x := x1) (by clear hr; omega), g1]
  rw [sl26_law (x := x2) (by clear hr; omega), g2]
  rw [sl25_law (x := x3) (by clear hr; omega), g3]
  rw [sl26_law (x := x4) (by clear hr; omega), g4]
  rw [sl25_law (x := x5) (by clear hr; omega), g5]
  rw [sl26_law (x := x6) (by clear hr; omega), g6]
  rw [sl25_law (x := x7) (by clear hr; omega), g7]
  rw [sl26_law (x := x8) (by clear hr; omega), g8]
  have tot : a0 + a1 * 67108864 + a2 * 2251799813685248 + a3 * 151115727451828646838272 + a4 * 5070602400912917605986812821504 + a5 * 340282366920938463463374607431768211456 + a6 * 11417981541647679048466287755595961091061972992 + a7 * 766247770432944429179173513575154591809369561091801088 + a8 * 25711008708143844408671393477458601640355247900524685364822016 + a9 * 1725436586697640946858688965569256363112777243042596638790631055949824 + 19 = (r0 + r1 * 67108864 + r2 * 2251799813685248 + r3 * 151115727451828646838272 + r4 * 5070602400912917605986812821504 + r5 * 340282366920938463463374607431768211456 + r6 * 11417981541647679048466287755595961091061972992 + r7 * 766247770432944429179173513575154591809369561091801088 + r8 * 25711008708143844408671393477458601640355247900524685364822016 + r9 * 1725436586697640946858688965569256363112777243042596638790631055949824) + 57896044618658097711785492504343953926634992332820282019728792003956564819968 * c9 := by
    clear f0 f1 f2 f3 f4 f5 f6 f7 f8 f9 g0 g1 g2 g3 g4 g5 g6 g7 g8 g9 w0 hr
    omega
  have hR : 0 ≤ r0 + r1 * 67108864 + r2 * 2251799813685248 + r3 * 151115727451828646838272 + r4 * 5070602400912917605986812821504 + r5 * 340282366920938463463374607431768211456 + r6 * 11417981541647679048466287755595961091061972992 + r7 * 766247770432944429179173513575154591809369561091801088 + r8 * 25711008708143844408671393477458601640355247900524685364822016 + r9 * 1725436586697640946858688965569256363112777243042596638790631055949824 ∧ r0 + r1 * 67108864 + r2 * 2251799813685248 + r3 * 151115727451828646838272 + r4 * 5070602400912917605986812821504 + r5 * 340282366920938463463374607431768211456 + r6 * 11417981541647679048466287755595961091061972992 + r7 * 766247770432944429179173513575154591809369561091801088 + r8 * 25711008708143844408671393477458601640355247900524685364822016 + r9 * 1725436586697640946858688965569256363112777243042596638790631055949824 < 57896044618658097711785492504343953926634992332820282019728792003956564819968 := by
    clear tot k0 k1 k2 k3 k4 k5 k6 k7 k8 k9 f0 f1 f2 f3 f4 f5 f6 f7 f8 f9 g0 g1 g2 g3 g4 g5 g6 g7 g8 g9 w0 hr e0 e1 e2 e3 e4 e5 e6 e7 e8 e9
    omega
  have hcn : Cn (lf [r0, r1, r2, r3, r4, r5, r6, r7, r8, r9]) := ⟨⟨bc0.2.2.1, bc0.2.2.2⟩, ⟨bc1.2.2.1, bc1.2.2.2⟩, ⟨bc2.2.2.1, bc2.2.2.2⟩, ⟨bc3.2.2.1, bc3.2.2.2⟩, ⟨bc4.2.2.1, bc4.2.2.2⟩, ⟨bc5.2.2.1, bc5.2.2.2⟩, ⟨bc6.2.2.1, bc6.2.2.2⟩, ⟨bc7.2.2.1, bc7.2.2.2⟩, ⟨bc8.2.2.1, bc8.2.2.2⟩, ⟨bc9.2.2.1, bc9.2.2.2⟩⟩
  simp only [lf]
  have bc : 0 ≤ c9 ∧ c9 ≤ 1 := ⟨bc9.1, bc9.2.1⟩
  clear k0 k1 k2 k3 k4 k5 k6 k7 k8 k9 f0 f1 f2 f3 f4 f5 f6 f7 f8 f9 g0 g1 g2 g3 g4 g5 g6 g7 g8 g9 w0 e0 e1 e2 e3 e4 e5 e6 e7 e8 e9 bc0 bc1 bc2 bc3 bc4 bc5 bc6 bc7 bc8 bc9 b0 b1 b2 b3 b4 b5 b6 b7 b8 b9 h0 h1 h2 h3 h4 h5 h6 h7 h8 h9
  generalize a0 + a1 * 67108864 + a2 * 2251799813685248 + a3 * 151115727451828646838272 + a4 * 5070602400912917605986812821504 + a5 * 340282366920938463463374607431768211456 + a6 * 11417981541647679048466287755595961091061972992 + a7 * 766247770432944429179173513575154591809369561091801088 + a8 * 25711008708143844408671393477458601640355247900524685364822016 + a9 * 1725436586697640946858688965569256363112777243042596638790631055949824 = v at *
  generalize r0 + r1 * 67108864 + r2 * 2251799813685248 + r3 * 151115727451828646838272 + r4 * 5070602400912917605986812821504 + r5 * 340282366920938463463374607431768211456 + r6 * 11417981541647679048466287755595961091061972992 + r7 * 766247770432944429179173513575154591809369561091801088 + r8 * 25711008708143844408671393477458601640355247900524685364822016 + r9 * 1725436586697640946858688965569256363112777243042596638790631055949824 = r at *
  refine ⟨?_, fun hg => ⟨hcn, ?_⟩, fun hg => ?_⟩
  · by_cases q : c9 > 0
    · rw [decide_eq_true q, decide_eq_true (by omega)]
    · rw [decide_eq_false q, decide_eq_false (by omega)]
  · have hg := of_decide_eq_true hg
    have e : v = r + 1 * pP := by unfold pP; omega
    rw [e, Int.add_mul_emod_self_right, Int.emod_eq_of_lt hR.1 (by unfold pP; omega)]
  · have hg := of_decide_eq_false hg
    rw [Int.emod_eq_of_lt hr.1 (by unfold pP; omega)]
end Go.AM
namespace Go.AM
theorem inj_surj : ∀ (N : Nat) (f : Nat → Nat), (∀ i, i < N → f i < N) → (∀ i, i < N → ∀ j, j < N → f i = f j → i = j) → ∀ y, y < N → ∃ i, i < N ∧ f i = y
  | 0, _, _, _, y, hy => absurd hy (Nat.not_lt_zero y)
  | N + 1, f, hr, hi, y, hy => by
    have hz : ∀ i, i < N → f i ≠ f N := fun i h e => by
      have := hi i (by omega) N (by omega) e
      omega
    have hzN := hr N (by omega)
    let g : Nat → Nat := fun i => if f i = N then f N else f i
    have gr : ∀ i, i < N → g i < N := fun i h => by
      show (if f i = N then f N else f i) < N
      have h1 := hr i (by omega)
      have h2 := hz i h
      split <;> omega
    have gi : ∀ i, i < N → ∀ j, j < N → g i = g j → i = j := fun i h j h' e => by
      have e : (if f i = N then f N else f i) = (if f j = N then f N else f j) := e
      have h2 := hz i h
      have h3 := hz j h'
      by_cases p : f i = N
      · by_cases q : f j = N
        · exact hi i (by omega) j (by omega) (p.trans q.symm)
        · rw [if_pos p, if_neg q] at e; exact absurd e.symm h3
      · by_cases q : f j = N
        · rw [if_neg p, if_pos q] at e; exact absurd e h2
        · rw [if_neg p, if_neg q] at e; exact hi i (by omega) j (by omega) e
    by_cases hyz : y = f N
    · exact ⟨N, by omega, hyz.symm⟩
    · by_cases hyN : y = N
      · obtain ⟨i, h, e⟩ := inj_surj N g gr gi (f N) (by omega)
        have e : (if f i = N then f N else f i) = f N := e
        by_cases p : f i = N
        · exact ⟨i, by omega, p.trans hyN.symm⟩
        · rw [if_neg p] at e; exact absurd e (hz i h)
      · obtain ⟨i, h, e⟩ := inj_surj N g gr gi y (by omega)
        have e : (if f i = N then f N else f i) = y := e
        by_cases p : f i = N
        · rw [if_pos p] at e; exact absurd e.symm hyz
        · rw [if_neg p] at e; exact ⟨i, by omega, e⟩
def IsPr (n : Nat) : Prop := 2 ≤ n ∧ ∀ m, m ∣ n → m = 1 ∨ m = n
def prodL : List Nat → Nat
  | [] => 1
  | q :: l => q * prodL l
theorem pr_factor : ∀ (L : List Nat), (∀ q ∈ L, IsPr q) → ∀ m, 1 < m → m ∣ prodL L → ∃ q ∈ L, q ∣ m
  | [], _, m, hm, hd => by
    have := Nat.le_of_dvd (by decide) hd
    simp only [prodL] at this; omega
  | q :: L, hL, m, hm, hd => by
    by_cases hq : q ∣ m
    · exact ⟨q, by simp, hq⟩
    · have hg : Nat.gcd m q = 1 := by
        rcases (hL q (by simp)).2 _ (Nat.gcd_dvd_right m q) with h | h
        · exact h
        · exact absurd (h ▸ Nat.gcd_dvd_left m q) hq
      have hd' : m ∣ prodL L := Nat.Coprime.dvd_of_dvd_mul_left hg hd
      obtain ⟨r, hr, hr'⟩ := pr_factor L (fun r hr => hL r (by simp [hr])) m hm hd'
      exact ⟨r, by simp [hr], hr'⟩
theorem pow_add_mod (n a u v : Nat) : a ^ (u + v) % n = (a ^ u % n) * (a ^ v % n) % n := by
  rw [Nat.pow_add, Nat.mul_mod]
theorem pow_mul_one {n a u : Nat} (hn : 2 ≤ n) (h : a ^ u % n = 1) (k : Nat) : a ^ (u * k) % n = 1 := by
  rw [Nat.pow_mul, Nat.pow_mod, h, Nat.one_pow, Nat.mod_eq_of_lt (by omega)]
theorem pow_gcd_one {n a : Nat} (hn : 2 ≤ n) : ∀ u v, a ^ u % n = 1 → a ^ v % n = 1 → a ^ (Nat.gcd u v) % n = 1 := by
  intro u v
  induction u, v using Nat.gcd.induction with
  | H0 v => intro _ h; rwa [Nat.gcd_zero_left]
  | H1 u v _ ih =>
    intro hu hv
    rw [Nat.gcd_rec]
    refine ih ?_ hu
    have e := pow_add_mod n a (u * (v / u)) (v % u)
    rw [Nat.div_add_mod, hv, pow_mul_one hn hu, Nat.one_mul, Nat.mod_mod] at e
    exact e.symm
theorem lucas {n a : Nat} {L : List Nat} (hn : 2 ≤ n) (hL : ∀ q ∈ L, IsPr q) (hp : prodL L = n - 1) (h1 : a ^ (n - 1) % n = 1) (hq : ∀ q ∈ L, a ^ ((n - 1) / q) % n ≠ 1) :
    IsPr n ∧ (∀ x, x % n ≠ 0 → ∃ i, i < n - 1 ∧ x % n = a ^ i % n) ∧ ∀ x, x % n ≠ 0 → x ^ (n - 1) % n = 1 := by
  have ord : ∀ k, 0 < k → k < n - 1 → a ^ k % n ≠ 1 := fun k h0 hk h => by
    have hg := pow_gcd_one hn k (n - 1) h h1
    have hd := Nat.gcd_dvd_right k (n - 1)
    have hle : Nat.gcd k (n - 1) ≤ k := Nat.le_of_dvd h0 (Nat.gcd_dvd_left k (n - 1))
    have hpos : 0 < Nat.gcd k (n - 1) := Nat.gcd_pos_of_pos_left _ h0
    generalize Nat.gcd k (n - 1) = g at *
    obtain ⟨m, hm⟩ := hd
    have hm1 : 1 < m := by
      rcases m with _ | _ | m
      · simp at hm; omega
      · simp at hm; omega
      · omega
    obtain ⟨q, hqL, hqm⟩ := pr_factor L hL m hm1 (by rw [hp, hm]; exact Nat.dvd_mul_left m g)
    obtain ⟨r, hr⟩ := hqm
    have hq0 : 0 < q := by have := (hL q hqL).1; omega
    have e : (n - 1) / q = g * r := by
      rw [hm, hr, show g * (q * r) = q * (g * r) by rw [Nat.mul_left_comm], Nat.mul_div_cancel_left _ hq0]
    exact hq q hqL (by rw [e]; exact pow_mul_one hn hg r)
  have inv : ∀ i, i ≤ n - 1 → (a ^ i % n) * (a ^ (n - 1 - i) % n) % n = 1 := fun i hi => by
    rw [← pow_add_mod, show i + (n - 1 - i) = n - 1 by omega, h1]
  have inj : ∀ i j, i < j → j < n - 1 → a ^ i % n ≠ a ^ j % n := fun i j hij hj e => by
    have e1 := inv i (by omega)
    rw [e, ← pow_add_mod, show j + (n - 1 - i) = (j - i) + (n - 1) by omega, pow_add_mod, h1, Nat.mul_one, Nat.mod_mod] at e1
    exact ord (j - i) (by omega) (by omega) e1
  have nz : ∀ i, i < n - 1 → 0 < a ^ i % n := fun i hi => by
    rcases Nat.eq_zero_or_pos (a ^ i % n) with h | h
    · have e1 := inv i (by omega)
      rw [h, Nat.zero_mul, Nat.zero_mod] at e1; omega
    · exact h
  have sur : ∀ x, x % n ≠ 0 → ∃ i, i < n - 1 ∧ x % n = a ^ i % n := fun x hx => by
    have hxn := Nat.mod_lt x (show 0 < n by omega)
    obtain ⟨i, hi, e⟩ := inj_surj (n - 1) (fun i => a ^ i % n - 1) (fun i hi => by
      have := Nat.mod_lt (a ^ i) (show 0 < n by omega)
      have := nz i hi
      show a ^ i % n - 1 < n - 1
      omega) (fun i hi j hj e => by
      have e : a ^ i % n - 1 = a ^ j % n - 1 := e
      have hi' := nz i hi
      have hj' := nz j hj
      rcases Nat.lt_trichotomy i j with h | h | h
      · exact absurd (by omega) (inj i j h hj)
      · exact h
      · exact absurd (by omega) (inj j i h hi)) (x % n - 1) (by omega)
    have e : a ^ i % n - 1 = x % n - 1 := e
    have := nz i hi
    exact ⟨i, hi, by omega⟩
  refine ⟨⟨hn, fun m hm => ?_⟩, sur, fun x hx => ?_⟩
  · have hle := Nat.le_of_dvd (by omega) hm
    by_cases hmn : m = n
    · exact Or.inr hmn
    · left
      have hm0 : m ≠ 0 := fun h => by rw [h] at hm; have := Nat.eq_zero_of_zero_dvd hm; omega
      have hmm : m % n = m := Nat.mod_eq_of_lt (by omega)
      obtain ⟨i, hi, e⟩ := sur m (by omega)
      have e1 := inv i (by omega)
      rw [← e, hmm] at e1
      have e2 : m * (a ^ (n - 1 - i) % n) = n * (m * (a ^ (n - 1 - i) % n) / n) + 1 := by
        have := Nat.div_add_mod (m * (a ^ (n - 1 - i) % n)) n
        omega
      have d1 : m ∣ n * (m * (a ^ (n - 1 - i) % n) / n) := Nat.dvd_trans hm (Nat.dvd_mul_right _ _)
      have d2 : m ∣ n * (m * (a ^ (n - 1 - i) % n) / n) + 1 := e2 ▸ Nat.dvd_mul_right _ _
      exact Nat.dvd_one.1 ((Nat.dvd_add_right d1).1 d2)
  · obtain ⟨i, hi, e⟩ := sur x hx
    rw [Nat.pow_mod, e, ← Nat.pow_mod, ← Nat.pow_mul, Nat.mul_comm]
    exact pow_mul_one hn h1 i
def pm (n : Nat) : Nat → Nat → Nat → Nat
  | 0, _, _ => 1
  | f + 1, a, e => bif Nat.beq (e % 2) 1 then a * pm n f (a * a % n) (e / 2) % n else pm n f (a * a % n) (e / 2)
theorem pm_law (n : Nat) : ∀ (f a e : Nat), e < 2 ^ f → pm n f a e % n = a ^ e % n
  | 0, a, e, h => by
    have : e = 0 := by simpa using h
    subst this; rfl
  | f + 1, a, e, h => by
    have ih := pm_law n f (a * a % n) (e / 2) (by rw [Nat.pow_succ] at h; omega)
    have e1 : (a * a % n) ^ (e / 2) % n = a ^ (2 * (e / 2)) % n := by
      rw [← Nat.pow_mod, Nat.pow_mul, Nat.pow_two]
    rw [e1] at ih
    unfold pm
    cases hb : Nat.beq (e % 2) 1 with
    | true =>
      have h2 : e % 2 = 1 := Nat.eq_of_beq_eq_true hb
      show a * pm n f (a * a % n) (e / 2) % n % n = _
      rw [Nat.mod_mod, Nat.mul_mod, ih, ← Nat.mul_mod, ← Nat.pow_succ', show (2 * (e / 2)).succ = e by omega]
    | false =>
      have h2 : e % 2 ≠ 1 := fun h => by rw [h] at hb; cases hb
      show pm n f (a * a % n) (e / 2) % n = _
      rw [ih, show 2 * (e / 2) = e by omega]
theorem lucas_by {n a : Nat} {L : List Nat} (hL : ∀ q ∈ L, IsPr q) (h : (Nat.ble 2 n && Nat.ble n (2 ^ 256) && Nat.beq (prodL L) (n - 1) && Nat.beq (pm n 256 a (n - 1) % n) 1 && L.all fun q => !Nat.beq (pm n 256 a ((n - 1) / q) % n) 1) = true) :
    IsPr n ∧ (∀ x, x % n ≠ 0 → ∃ i, i < n - 1 ∧ x % n = a ^ i % n) ∧ ∀ x, x % n ≠ 0 → x ^ (n - 1) % n = 1 := by
  simp only [Bool.and_eq_true, Nat.ble_eq, Nat.beq_eq, List.all_eq_true, Bool.not_eq_true'] at h
  obtain ⟨⟨⟨⟨hn, hs⟩, hp⟩, h1⟩, hq⟩ := h
  refine lucas hn hL hp ?_ fun q hqL => ?_
  · rw [← pm_law n 256 a (n - 1) (by omega)]; exact h1
  · have := hq q hqL
    rw [← pm_law n 256 a ((n - 1) / q) (by have := Nat.div_le_self (n - 1) q; omega)]
    exact fun e => by rw [e] at this; cases this
end Go.AM
namespace Go.AM
def Full (n a : Nat) : Prop := IsPr n ∧ (∀ x, x % n ≠ 0 → ∃ i, i < n - 1 ∧ x % n = a ^ i % n) ∧ ∀ x, x % n ≠ 0 → x ^ (n - 1) % n = 1
theorem pr_small {n : Nat} (h : (Nat.ble 2 n && (List.range (n + 1)).all fun m => !Nat.beq (n % m) 0 || (Nat.beq m 1 || Nat.beq m n)) = true) : IsPr n := by
  simp only [Bool.and_eq_true, Nat.ble_eq, List.all_eq_true, Bool.or_eq_true, Bool.not_eq_true', Nat.beq_eq] at h
  obtain ⟨h2, ha⟩ := h
  refine ⟨h2, fun m hm => ?_⟩
  have hle := Nat.le_of_dvd (by omega) hm
  rcases ha m (List.mem_range.2 (by omega)) with q | q
  · rw [Nat.mod_eq_zero_of_dvd hm] at q; cases q
  · exact q
theorem prs_nil : ∀ q ∈ ([] : List Nat), IsPr q := fun q h => by cases h
theorem prs_cons {q : Nat} {L : List Nat} (h : IsPr q) (hL : ∀ q ∈ L, IsPr q) : ∀ r ∈ q :: L, IsPr r := fun r hr => by
  rcases List.mem_cons.1 hr with e | e
  · rw [e]; exact h
  · exact hL r e
theorem pr_2 : IsPr 2 := pr_small (by decide +kernel)
theorem pr_3 : IsPr 3 := pr_small (by decide +kernel)
theorem pr_17 : IsPr 17 := pr_small (by decide +kernel)
theorem pr_479 : IsPr 479 := pr_small (by decide +kernel)
theorem pr_32573 : IsPr 32573 := (lucas_by (a := 2) (L := [2, 2, 17, 479]) (prs_cons pr_2 (prs_cons pr_2 (prs_cons pr_17 (prs_cons pr_479 (prs_nil))))) (by decide +kernel)).1
theorem pr_65147 : IsPr 65147 := (lucas_by (a := 2) (L := [2, 32573]) (prs_cons pr_2 (prs_cons pr_32573 (prs_nil))) (by decide +kernel)).1
theorem pr_353 : IsPr 353 := pr_small (by decide +kernel)
theorem pr_59 : IsPr 59 := pr_small (by decide +kernel)
theorem pr_487 : IsPr 487 := pr_small (by decide +kernel)
theorem pr_57467 : IsPr 57467 := (lucas_by (a := 2) (L := [2, 59, 487]) (prs_cons pr_2 (prs_cons pr_59 (prs_cons pr_487 (prs_nil)))) (by decide +kernel)).1
theorem pr_7 : IsPr 7 := pr_small (by decide +kernel)
theorem pr_131 : IsPr 131 := pr_small (by decide +kernel)
theorem pr_132049 : IsPr 132049 := (lucas_by (a := 26) (L := [2, 2, 2, 2, 3, 3, 7, 131]) (prs_cons pr_2 (prs_cons pr_2 (prs_cons pr_2 (prs_cons pr_2 (prs_cons pr_3 (prs_cons pr_3 (prs_cons pr_7 (prs_cons pr_131 (prs_nil))))))))) (by decide +kernel)).1
theorem pr_43 : IsPr 43 := pr_small (by decide +kernel)
theorem pr_23 : IsPr 23 := pr_small (by decide +kernel)
theorem pr_3727 : IsPr 3727 := (lucas_by (a := 3) (L := [2, 3, 3, 3, 3, 23]) (prs_cons pr_2 (prs_cons pr_3 (prs_cons pr_3 (prs_cons pr_3 (prs_cons pr_3 (prs_cons pr_23 (prs_nil))))))) (by decide +kernel)).1
theorem pr_1923133 : IsPr 1923133 := (lucas_by (a := 2) (L := [2, 2, 3, 43, 3727]) (prs_cons pr_2 (prs_cons pr_2 (prs_cons pr_3 (prs_cons pr_43 (prs_cons pr_3727 (prs_nil)))))) (by decide +kernel)).1
theorem pr_31 : IsPr 31 := pr_small (by decide +kernel)
theorem pr_107 : IsPr 107 := pr_small (by decide +kernel)
theorem pr_223 : IsPr 223 := pr_small (by decide +kernel)
theorem pr_173 : IsPr 173 := pr_small (by decide +kernel)
theorem pr_4153 : IsPr 4153 := (lucas_by (a := 5) (L := [2, 2, 2, 3, 173]) (prs_cons pr_2 (prs_cons pr_2 (prs_cons pr_2 (prs_cons pr_3 (prs_cons pr_173 (prs_nil)))))) (by decide +kernel)).1
theorem pr_5 : IsPr 5 := pr_small (by decide +kernel)
theorem pr_41 : IsPr 41 := pr_small (by decide +kernel)
theorem pr_1723 : IsPr 1723 := (lucas_by (a := 3) (L := [2, 3, 7, 41]) (prs_cons pr_2 (prs_cons pr_3 (prs_cons pr_7 (prs_cons pr_41 (prs_nil))))) (by decide +kernel)).1
theorem pr_430751 : IsPr 430751 := (lucas_by (a := 17) (L := [2, 5, 5, 5, 1723]) (prs_cons pr_2 (prs_cons pr_5 (prs_cons pr_5 (prs_cons pr_5 (prs_cons pr_1723 (prs_nil)))))) (by decide +kernel)).1
theorem pr_31757755568855353 : IsPr 31757755568855353 := (lucas_by (a := 10) (L := [2, 2, 2, 3, 31, 107, 223, 4153, 430751]) (prs_cons pr_2 (prs_cons pr_2 (prs_cons pr_2 (prs_cons pr_3 (prs_cons pr_31 (prs_cons pr_107 (prs_cons pr_223 (prs_cons pr_4153 (prs_cons pr_430751 (prs_nil)))))))))) (by decide +kernel)).1
theorem pr_19 : IsPr 19 := pr_small (by decide +kernel)
theorem pr_83 : IsPr 83 := pr_small (by decide +kernel)
theorem pr_9463 : IsPr 9463 := (lucas_by (a := 3) (L := [2, 3, 19, 83]) (prs_cons pr_2 (prs_cons pr_3 (prs_cons pr_19 (prs_cons pr_83 (prs_nil))))) (by decide +kernel)).1
theorem pr_37853 : IsPr 37853 := (lucas_by (a := 2) (L := [2, 2, 9463]) (prs_cons pr_2 (prs_cons pr_2 (prs_cons pr_9463 (prs_nil)))) (by decide +kernel)).1
theorem pr_75707 : IsPr 75707 := (lucas_by (a := 2) (L := [2, 37853]) (prs_cons pr_2 (prs_cons pr_37853 (prs_nil))) (by decide +kernel)).1
theorem pr_13 : IsPr 13 := pr_small (by decide +kernel)
theorem pr_29 : IsPr 29 := pr_small (by decide +kernel)
theorem pr_2437 : IsPr 2437 := (lucas_by (a := 2) (L := [2, 2, 3, 7, 29]) (prs_cons pr_2 (prs_cons pr_2 (prs_cons pr_3 (prs_cons pr_7 (prs_cons pr_29 (prs_nil)))))) (by decide +kernel)).1
theorem pr_97 : IsPr 97 := pr_small (by decide +kernel)
theorem pr_419 : IsPr 419 := pr_small (by decide +kernel)
theorem pr_569003 : IsPr 569003 := (lucas_by (a := 2) (L := [2, 7, 97, 419]) (prs_cons pr_2 (prs_cons pr_7 (prs_cons pr_97 (prs_cons pr_419 (prs_nil))))) (by decide +kernel)).1
theorem pr_2773320623 : IsPr 2773320623 := (lucas_by (a := 5) (L := [2, 2437, 569003]) (prs_cons pr_2 (prs_cons pr_2437 (prs_cons pr_569003 (prs_nil)))) (by decide +kernel)).1
theorem pr_72106336199 : IsPr 72106336199 := (lucas_by (a := 7) (L := [2, 13, 2773320623]) (prs_cons pr_2 (prs_cons pr_13 (prs_cons pr_2773320623 (prs_nil)))) (by decide +kernel)).1
theorem pr_47 : IsPr 47 := pr_small (by decide +kernel)
theorem pr_127 : IsPr 127 := pr_small (by decide +kernel)
theorem pr_103 : IsPr 103 := pr_small (by decide +kernel)
theorem pr_991 : IsPr 991 := pr_small (by decide +kernel)
theorem pr_8574133 : IsPr 8574133 := (lucas_by (a := 2) (L := [2, 2, 3, 7, 103, 991]) (prs_cons pr_2 (prs_cons pr_2 (prs_cons pr_3 (prs_cons pr_7 (prs_cons pr_103 (prs_cons pr_991 (prs_nil))))))) (by decide +kernel)).1
theorem pr_1919519569386763 : IsPr 1919519569386763 := (lucas_by (a := 2) (L := [2, 3, 7, 19, 47, 47, 127, 8574133]) (prs_cons pr_2 (prs_cons pr_3 (prs_cons pr_7 (prs_cons pr_19 (prs_cons pr_47 (prs_cons pr_47 (prs_cons pr_127 (prs_cons pr_8574133 (prs_nil))))))))) (by decide +kernel)).1
theorem pr_big46 : IsPr 75445702479781427272750846543864801 := (lucas_by (a := 7) (L := [2, 2, 2, 2, 2, 3, 3, 5, 5, 75707, 72106336199, 1919519569386763]) (prs_cons pr_2 (prs_cons pr_2 (prs_cons pr_2 (prs_cons pr_2 (prs_cons pr_2 (prs_cons pr_3 (prs_cons pr_3 (prs_cons pr_5 (prs_cons pr_5 (prs_cons pr_75707 (prs_cons pr_72106336199 (prs_cons pr_1919519569386763 (prs_nil))))))))))))) (by decide +kernel)).1
theorem pr_big47 : IsPr 74058212732561358302231226437062788676166966415465897661863160754340907 := (lucas_by (a := 2) (L := [2, 3, 353, 57467, 132049, 1923133, 31757755568855353, 75445702479781427272750846543864801]) (prs_cons pr_2 (prs_cons pr_3 (prs_cons pr_353 (prs_cons pr_57467 (prs_cons pr_132049 (prs_cons pr_1923133 (prs_cons pr_31757755568855353 (prs_cons pr_big46 (prs_nil))))))))) (by decide +kernel)).1
theorem full_p : Full 57896044618658097711785492504343953926634992332820282019728792003956564819949 2 := lucas_by (L := [2, 2, 3, 65147, 74058212732561358302231226437062788676166966415465897661863160754340907]) (prs_cons pr_2 (prs_cons pr_2 (prs_cons pr_3 (prs_cons pr_65147 (prs_cons pr_big47 (prs_nil)))))) (by decide +kernel)
end Go.AM
namespace Go.AM
open Go
def PN : Nat := 57896044618658097711785492504343953926634992332820282019728792003956564819949
instance instPN : NeZero PN := ⟨by decide⟩
abbrev FF := Fin PN
theorem pP_PN : pP = (PN : Int) := by decide
def fq (x : Int) : FF := ⟨(x % pP).toNat, by
  have h1 := Int.emod_nonneg x (show pP ≠ 0 by decide)
  have h2 := Int.emod_lt_of_pos x pP_pos
  rw [pP_PN] at *
  omega⟩
theorem fq_val (x : Int) : ((fq x).val : Int) = x % pP := by
  have h1 := Int.emod_nonneg x (show pP ≠ 0 by decide)
  show (((x % pP).toNat : Nat) : Int) = _
  omega
theorem fq_ext {a b : FF} (h : (a.val : Int) = (b.val : Int)) : a = b := Fin.ext (by omega)
theorem fq_eq {x y : Int} (h : x % pP = y % pP) : fq x = fq y := fq_ext (by rw [fq_val, fq_val, h])
theorem fq_mul (x y : Int) : fq (mM x y) = fq x * fq y := by
  refine fq_ext ?_
  rw [fq_val, Fin.val_mul, Int.natCast_emod, Int.natCast_mul, fq_val, fq_val, ← pP_PN]
  unfold mM
  rw [md_md, md_mul_l, md_mul_r]
theorem fq_add (x y : Int) : fq (mA x y) = fq x + fq y := by
  refine fq_ext ?_
  rw [fq_val, Fin.val_add, Int.natCast_emod, Int.natCast_add, fq_val, fq_val, ← pP_PN]
  unfold mA
  rw [md_md, md_add_l, md_add_r]
theorem fq_sub (x y : Int) : fq (mS x y) = fq x - fq y := by
  have e : fq (mA (mS x y) y) = fq x := fq_eq (by unfold mA mS; rw [md_add_l, md_md, show x - y + y = x by omega])
  rw [fq_add] at e
  rw [← e]
  grind
theorem fq_inj {x y : Int} (hx : 0 ≤ x ∧ x < pP) (hy : 0 ≤ y ∧ y < pP) (h : fq x = fq y) : x = y := by
  have := congrArg (fun a : FF => (a.val : Int)) h
  simp only [fq_val] at this
  rwa [md_id hx, md_id hy] at this
theorem fq_0 : fq 0 = 0 := by decide
theorem fq_1 : fq 1 = 1 := by decide
theorem fq_zero {x : Int} (hx : 0 ≤ x ∧ x < pP) : fq x = 0 ↔ x = 0 := ⟨fun h => fq_inj hx (by decide) (h.trans fq_0.symm), fun h => by rw [h]; exact fq_0⟩
def fpow (a : FF) (n : Nat) : FF := ⟨a.val ^ n % PN, Nat.mod_lt _ (by decide)⟩
theorem fpow_val (a : FF) (n : Nat) : (fpow a n).val = a.val ^ n % PN := rfl
theorem one_val : (1 : FF).val = 1 := by decide
theorem fpow_add (a : FF) (m n : Nat) : fpow a (m + n) = fpow a m * fpow a n := Fin.ext (by
  rw [Fin.val_mul]
  show a.val ^ (m + n) % PN = (a.val ^ m % PN) * (a.val ^ n % PN) % PN
  rw [Nat.pow_add, Nat.mul_mod])
theorem fpow_one (a : FF) : fpow a 1 = a := Fin.ext (by
  show a.val ^ 1 % PN = a.val
  rw [Nat.pow_one, Nat.mod_eq_of_lt a.isLt])
theorem fpow_sq (a : FF) (n : Nat) : fpow (a * a) n = fpow a (2 * n) := Fin.ext (by
  show (a * a).val ^ n % PN = a.val ^ (2 * n) % PN
  rw [Fin.val_mul, ← Nat.pow_mod, Nat.pow_mul, Nat.pow_two])
theorem fq_pow {x : Int} (n : Nat) : fq (powM x n) = fpow (fq x) n := by
  refine fq_ext ?_
  rw [fq_val]
  show _ = (((fq x).val ^ n % PN : Nat) : Int)
  rw [Int.natCast_emod, Int.natCast_pow, fq_val, ← pP_PN]
  unfold powM
  rw [md_md]
  induction n with
  | zero => rw [Int.pow_zero, Int.pow_zero]
  | succ n ih => rw [Int.pow_succ, Int.pow_succ, ← md_mul_l, ih, md_mul_l, md_mul_r]
theorem val_ne {a : FF} (h : a ≠ 0) : a.val % PN ≠ 0 := fun e => h (Fin.ext (by
  rw [Nat.mod_eq_of_lt a.isLt] at e
  exact e))
def pm1 : Nat := 57896044618658097711785492504343953926634992332820282019728792003956564819948
def pm2 : Nat := 57896044618658097711785492504343953926634992332820282019728792003956564819947
theorem full_3 {n a e : Nat} (h : Full n a) (he : e = n - 1) : ∀ x, x % n ≠ 0 → x ^ e % n = 1 := by subst he; exact h.2.2
theorem fermat : ∀ x : Nat, x % PN ≠ 0 → x ^ pm1 % PN = 1 := full_3 (n := PN) (e := pm1) full_p (by decide)
theorem fpow_pm1 {a : FF} (h : a ≠ 0) : fpow a pm1 = 1 := Fin.ext (fermat a.val (val_ne h))
theorem pm2_1 : 1 + pm2 = pm1 := by decide
theorem inv_mul {a : FF} (h : a ≠ 0) : a * fpow a pm2 = 1 := by
  have e := fpow_pm1 h
  rw [← pm2_1, fpow_add, fpow_one] at e
  exact e
theorem inv_ex {a : FF} (h : a ≠ 0) : ∃ b, a * b = 1 := ⟨_, inv_mul h⟩
theorem f01 : (1 : FF) ≠ 0 := by decide
theorem mul_zero_or {a b : FF} (h : a * b = 0) : a = 0 ∨ b = 0 := by
  by_cases ha : a = 0
  · exact .inl ha
  · obtain ⟨c, hc⟩ := inv_ex ha
    right
    grind
theorem mul_ne {a b : FF} (ha : a ≠ 0) (hb : b ≠ 0) : a * b ≠ 0 := fun h => by
  rcases mul_zero_or h with e | e
  · exact ha e
  · exact hb e
def dF : FF := fq eD
def iI : Int := 19681161376707505956807079304988542015446066515923890162744021073123829784752
def iF : FF := fq iI
theorem iF_sq : iF * iF + 1 = 0 := by decide +kernel
def pmh : Nat := 28948022309329048855892746252171976963317496166410141009864396001978282409974
theorem pmh_2 : 2 * pmh = pm1 := by decide
theorem dF_pow : fpow dF pmh ≠ 1 := fun h => by
  have h := congrArg Fin.val h
  rw [fpow_val, one_val] at h
  have e := pm_law PN 256 dF.val pmh (by decide +kernel)
  rw [h] at e
  exact absurd e (by decide +kernel)
theorem dF_ne : dF ≠ 0 := by decide +kernel
theorem dF_nsq (s : FF) : s * s ≠ dF := fun h => by
  have hs : s ≠ 0 := fun e => dF_ne (by rw [← h, e]; decide)
  have e := fpow_sq s pmh
  rw [h, pmh_2, fpow_pm1 hs] at e
  exact dF_pow e
theorem dF_1 : dF + 1 ≠ 0 := by decide +kernel
theorem two_ne : (2 : FF) ≠ 0 := by decide +kernel
theorem sq_form {A M W d v w : FF} (h : A * A = d * (M * M) * (W * W)) (hv : M * v = 1) (hw : W * w = 1) : (A * v * w) * (A * v * w) = d := by
  have e1 : (A * v * w) * (A * v * w) = (A * A) * ((v * w) * (v * w)) := by grind
  have e2 : d * (M * M) * (W * W) * ((v * w) * (v * w)) = d * ((M * v) * (M * v)) * ((W * w) * (W * w)) := by grind
  rw [e1, h, e2, hv, hw]
  grind
theorem neg_form {i d x y W : FF} (hi : i * i + 1 = 0) : (-1) * d * (i * x) * (i * x) * (y * y) * (W * W) = d * ((x * y) * (x * y)) * (W * W) := by grind
theorem complete {x1 y1 x2 y2 e : FF} (c1 : y1 * y1 - x1 * x1 = 1 + dF * (x1 * x1) * (y1 * y1)) (c2 : y2 * y2 - x2 * x2 = 1 + dF * (x2 * x2) * (y2 * y2)) (he : e * e = 1) (h : dF * x1 * x2 * y1 * y2 = e) : False := by
  have e0 : e ≠ 0 := fun q => f01 (by rw [← he, q]; decide)
  have nz : x1 * y1 ≠ 0 := fun q => e0 (by rw [← h]; grind)
  have nz2 : x2 * y2 ≠ 0 := fun q => e0 (by rw [← h]; grind)
  obtain ⟨v, hv⟩ := inv_ex nz
  have hi := iF_sq
  have nd := dF_nsq
  generalize dF = d at *
  generalize iF = i at *
  have k1 : (i * x1 + e * y1) * (i * x1 + e * y1) = (-1) * d * (i * x1) * (i * x1) * (y1 * y1) * ((i * x2 + y2) * (i * x2 + y2)) := by grind
  have k2 : (i * x1 - e * y1) * (i * x1 - e * y1) = (-1) * d * (i * x1) * (i * x1) * (y1 * y1) * ((i * x2 - y2) * (i * x2 - y2)) := by grind
  by_cases s1 : i * x2 + y2 = 0
  · by_cases s2 : i * x2 - y2 = 0
    · have : (2 : FF) * y2 = 0 := by grind
      rcases mul_zero_or this with q | q
      · exact two_ne q
      · exact nz2 (by rw [q]; grind)
    · obtain ⟨w, hw⟩ := inv_ex s2
      exact nd ((i * x1 - e * y1) * v * w) (sq_form (k2.trans (neg_form hi)) hv hw)
  · obtain ⟨w, hw⟩ := inv_ex s1
    exact nd ((i * x1 + e * y1) * v * w) (sq_form (k1.trans (neg_form hi)) hv hw)
end Go.AM
namespace Go.AM
open Go
structure OnF (X Y Z T : FF) : Prop where
  c : Y * Y - X * X = Z * Z + dF * (T * T)
  t : X * Y = Z * T
  z : Z ≠ 0
theorem OnF.aff {X Y Z T : FF} (h : OnF X Y Z T) : ∃ z, Z * z = 1 ∧ (Y * z) * (Y * z) - (X * z) * (X * z) = 1 + dF * ((X * z) * (X * z)) * ((Y * z) * (Y * z)) ∧ T * z = (X * z) * (Y * z) := by
  obtain ⟨c, t, hz⟩ := h
  obtain ⟨z, h⟩ := inv_ex hz
  have e : T * z = (X * z) * (Y * z) := by
    have : X * Y * (z * z) = Z * T * (z * z) := by rw [t]
    grind
  refine ⟨z, h, ?_, e⟩
  generalize dF = d at *
  have e1 : (Y * z) * (Y * z) - (X * z) * (X * z) = (Y * Y - X * X) * (z * z) := by grind
  have e2 : (Z * Z + d * (T * T)) * (z * z) = (Z * z) * (Z * z) + d * ((T * z) * (T * z)) := by grind
  rw [e1, c, e2, h, e]
  grind
theorem sum_z {X1 Y1 Z1 T1 X2 Y2 Z2 T2 : FF} (h1 : OnF X1 Y1 Z1 T1) (h2 : OnF X2 Y2 Z2 T2) {e : FF} (he : e * e = 1) : Z1 * Z2 - e * (dF * T1 * T2) ≠ 0 := fun h => by
  obtain ⟨z1, a1, b1, d1⟩ := h1.aff
  obtain ⟨z2, a2, b2, d2⟩ := h2.aff
  refine complete b1 b2 he ?_
  have k : (Z1 * Z2 - e * (dF * T1 * T2)) * (z1 * z2) = (Z1 * z1) * (Z2 * z2) - e * (dF * (T1 * z1) * (T2 * z2)) := by grind
  rw [h, a1, a2, d1, d2] at k
  clear b1 b2 h d1 d2 a1 a2 h1 h2
  generalize X1 * z1 = x1 at *
  generalize X2 * z2 = x2 at *
  generalize Y1 * z1 = y1 at *
  generalize Y2 * z2 = y2 at *
  generalize dF = d at *
  have : e * (e * (d * x1 * x2 * y1 * y2)) = e := by grind
  grind
theorem sum_on {X1 Y1 Z1 T1 X2 Y2 Z2 T2 : FF} (h1 : OnF X1 Y1 Z1 T1) (h2 : OnF X2 Y2 Z2 T2) {E F G H : FF} (hE : E = X1 * Y2 + X2 * Y1) (hF : F = Z1 * Z2 - dF * T1 * T2) (hG : G = Z1 * Z2 + dF * T1 * T2) (hH : H = Y1 * Y2 + X1 * X2) :
    OnF (E * F) (G * H) (F * G) (E * H) := by
  refine ⟨?_, by grind, mul_ne ?_ ?_⟩
  · obtain ⟨c1, t1, _⟩ := h1
    obtain ⟨c2, t2, _⟩ := h2
    subst hE hF hG hH
    generalize dF = d at *
    have a1 : (Y1 * Y2 + X1 * X2) * (Y1 * Y2 + X1 * X2) - (X1 * Y2 + X2 * Y1) * (X1 * Y2 + X2 * Y1) = (Y1 * Y1 - X1 * X1) * (Y2 * Y2 - X2 * X2) := by grind
    have a2 : (X1 * Y2 + X2 * Y1) * (X1 * Y2 + X2 * Y1) = (Y1 * Y1 + X1 * X1) * 0 + X1 * X1 * (Y2 * Y2) + X2 * X2 * (Y1 * Y1) + 2 * ((X1 * Y1) * (X2 * Y2)) := by grind
    have a3 : (Y1 * Y2 + X1 * X2) * (Y1 * Y2 + X1 * X2) = Y1 * Y1 * (Y2 * Y2) + X1 * X1 * (X2 * X2) + 2 * ((X1 * Y1) * (X2 * Y2)) := by grind
    grind
  · have := sum_z h1 h2 (e := 1) (by grind)
    rw [hF]
    intro q
    exact this (by rw [← q]; grind)
  · have := sum_z h1 h2 (e := -1) (by grind)
    rw [hG]
    intro q
    exact this (by rw [← q]; grind)
abbrev inP (x : Int) : Prop := 0 ≤ x ∧ x < pP
structure On4 (q : Q4) : Prop where
  r1 : inP q.1
  r2 : inP q.2.1
  r3 : inP q.2.2.1
  r4 : inP q.2.2.2
  on : OnF (fq q.1) (fq q.2.1) (fq q.2.2.1) (fq q.2.2.2)
theorem mM_in (x y : Int) : inP (mM x y) := ⟨Int.emod_nonneg _ (by decide), Int.emod_lt_of_pos _ pP_pos⟩
theorem id_on : On4 idS4 := ⟨by decide, by decide, by decide, by decide, by decide, by decide, by decide⟩
theorem add_on {p q : Q4} (hp : On4 p) (hq : On4 q) : On4 (addS p q) := by
  refine ⟨mM_in _ _, mM_in _ _, mM_in _ _, mM_in _ _, ?_⟩
  unfold addS
  simp only [fq_mul]
  refine sum_on hp.on hq.on ?_ ?_ ?_ ?_
  · simp only [fq_sub, fq_add, fq_mul]; grind
  · simp only [fq_sub, fq_mul]; rfl
  · simp only [fq_add, fq_mul]; rfl
  · simp only [fq_add, fq_mul]
theorem neg_ne {a : FF} (h : a ≠ 0) : (-1) * a ≠ 0 := mul_ne (by decide) h
theorem neg_on {X Y Z T : FF} (h : OnF X Y Z T) : OnF ((-1) * X) ((-1) * Y) ((-1) * Z) ((-1) * T) := by
  obtain ⟨c, t, z⟩ := h
  refine ⟨?_, ?_, neg_ne z⟩
  · generalize dF = d at *; grind
  · grind
theorem dbl_f {X Y Z T d : FF} (c : Y * Y - X * X = Z * Z + d * (T * T)) : (Z * Z + Z * Z) + (X * X - Y * Y) = Z * Z - d * T * T ∧ X * X - Y * Y = (-1) * (Z * Z + d * T * T) := by constructor <;> grind
theorem dbl_same {X Y Z T : FF} (h : OnF X Y Z T) : ((X * X + Y * Y) - (X + Y) * (X + Y)) * ((Z * Z + Z * Z) + (X * X - Y * Y)) = (-1) * ((X * Y + X * Y) * (Z * Z - dF * T * T)) ∧ (X * X - Y * Y) * (X * X + Y * Y) = (-1) * ((Z * Z + dF * T * T) * (Y * Y + X * X)) ∧
    ((Z * Z + Z * Z) + (X * X - Y * Y)) * (X * X - Y * Y) = (-1) * ((Z * Z - dF * T * T) * (Z * Z + dF * T * T)) ∧ ((X * X + Y * Y) - (X + Y) * (X + Y)) * (X * X + Y * Y) = (-1) * ((X * Y + X * Y) * (Y * Y + X * X)) := by
  obtain ⟨c, t, z⟩ := h
  obtain ⟨e1, e2⟩ := dbl_f c
  rw [e1, e2]
  clear e1 e2 c t z
  generalize dF = d
  refine ⟨?_, ?_, ?_, ?_⟩ <;> grind
theorem dbl_on {p : Q4} (hp : On4 p) : On4 (dblS p) := by
  refine ⟨mM_in _ _, mM_in _ _, mM_in _ _, mM_in _ _, ?_⟩
  unfold dblS
  simp only [fq_mul, fq_sub, fq_add]
  obtain ⟨e1, e2, e3, e4⟩ := dbl_same hp.on
  rw [e1, e2, e3, e4]
  exact neg_on (sum_on hp.on hp.on rfl rfl rfl rfl)
theorem one_pt {x : FF} (h : 1 * 1 - x * x = 1 + dF * (x * x) * (1 * 1)) : x = 0 := by
  have e : (x * x) * (dF + 1) = 0 := by
    generalize dF = d at *
    grind
  rcases mul_zero_or e with q | q
  · rcases mul_zero_or q with q | q <;> exact q
  · exact absurd q dF_1
theorem inv_fq {x z : Int} (hz : z = powM x 57896044618658097711785492504343953926634992332820282019728792003956564819947) (h : fq x ≠ 0) : fq x * fq z = 1 := by
  rw [hz, fq_pow]
  exact inv_mul h
theorem form_one {q : Q4} (h : On4 q) {w : Int} (hw : w = powM q.2.2.1 57896044618658097711785492504343953926634992332820282019728792003956564819947) : (q.1 = 0 ∧ q.2.1 = q.2.2.1) ↔ mM q.2.1 w + mM q.1 w % 2 * 57896044618658097711785492504343953926634992332820282019728792003956564819968 = 1 := by
  obtain ⟨X, Y, Z, T⟩ := q
  obtain ⟨r1, r2, r3, r4, on⟩ := h
  dsimp only at *
  have hz := inv_fq hw on.z
  clear hw
  have hy := mM_in Y w
  have hx := mM_in X w
  have ey := fq_mul Y w
  have ex := fq_mul X w
  have px : (57896044618658097711785492504343953926634992332820282019728792003956564819949 : Int) = pP := rfl
  generalize hvx : mM X w = vx at *
  generalize hvy : mM Y w = vy at *
  generalize fq w = z at *
  unfold inP at hx hy
  rw [← px] at hx hy
  constructor
  · rintro ⟨h1, h2⟩
    have e1 : vx = 0 := (fq_zero hx).1 (by rw [ex, h1, fq_0]; grind)
    have e2 : vy = 1 := fq_inj hy (by decide) (by rw [ey, h2, hz, fq_1])
    rw [e1, e2]; rfl
  · intro h
    have e2 : vy = 1 := by omega
    have hy1 : fq Y * z = 1 := by rw [← ey, e2, fq_1]
    have eYZ : fq Y = fq Z := by
      have : fq Y * z * fq Z = fq Y * (fq Z * z) := by grind
      rw [hy1, hz] at this
      grind
    obtain ⟨z', k1, k2, k3⟩ := on.aff
    have ezz : z' = z := by
      have : fq Z * z * z' = fq Z * z' * z := by grind
      rw [hz, k1] at this
      grind
    rw [ezz, hy1] at k2
    have hx0 := one_pt k2
    have : fq X = 0 := by
      rcases mul_zero_or hx0 with q | q
      · exact q
      · rw [q] at hz
        exact absurd (by rw [← hz]; grind : (1 : FF) = 0) f01
    exact ⟨(fq_zero r1).1 this, fq_inj r2 r3 eYZ⟩
end Go.AM
