/-
  Texts of the claim: DSc DMul DFe DPt DFe2 DFe3 DRoot DTimes DForm DOpen DEdw.
-/
import Derived.Test.YtbogcehngfjlkabGreatAc
import Derived.Test.YtbogcehngfjlkabGreatAd
import Derived.Test.YtbogcehngfjlkabGreatAe
import Derived.Test.YtbogcehngfjlkabGreatTy
namespace Go.Proofs.YtbogcehngfjlkabGreat
open Go.Proofs.Tryz
open Go Go.AM
theorem L0 : LibOK prog tt [] [] := LibOK.nil mix tt_ok
def ts1 : List (Nat × TF) := [(F_bits_Sub64, tSub64), (F_bits_Add64, tAdd64)]
theorem L1 : LibOK prog tt ts1 [] :=
  (L0.addT (row_Add64 at_bits_Add64 (by kernel_rfl) (by kernel_rfl) (by kernel_rfl) (by kernel_rfl))).addT (row_Sub64 at_bits_Sub64 (by kernel_rfl) (by kernel_rfl) (by kernel_rfl) (by kernel_rfl))
def tLess : TF := fun args => match args with
  | [.agg [.ints .u64 4 a], .agg [.ints .u64 4 b]] => some (inU4 a && inU4 b, .tup [n4 (if val4 a < val4 b then val4 a - val4 b + 115792089237316195423570985008687907853269984665640564039457584007913129639936 else val4 a - val4 b), .sc (.bit (decide (val4 a < val4 b)))])
  | _ => none
def lessCk (a b : Nat → Int) : Bool := ckL [inU (a 0) && inU (b 0), inU (a 1) && inU (b 1), inU (a 2) && inU (b 2), inU (a 3) && inU (b 3)]
theorem c_less : fnChk prog (envP tt ts1 []) f_scalar_less = true := by kernel_rfl
theorem k_less (a b : Nat → Int) : outP (apFunc (envP tt ts1 []) [] 50 f_scalar_less [u4 a, u4 b] []) = some (lessCk a b, .tup [u4 (lf (lessL a b)), .sc (.bit (brK a b 4))]) := by kernel_rfl
theorem r_less : TRow prog F_scalar_less tLess := by
  intro args r h
  unfold tLess at h
  split at h
  case h_2 => simp at h
  rename_i a b
  simp only [Option.some.injEq, Prod.mk.injEq, Bool.and_eq_true] at h
  obtain ⟨⟨ha, hb⟩, rfl⟩ := h
  refine pure_of_out L1 at_scalar_less c_less (N := 50) (gs := []) ?_
  have := k_less a b
  simp only [u4] at this
  rw [this, (less_law ha hb).1, (less_law ha hb).2]
  have hc : lessCk a b = true := by
    simp only [inU4, Bool.and_eq_true] at ha hb
    simp [lessCk, ckL, ha, hb]
  rw [hc]; rfl
def tOrder : TF := fun args => match args with
  | [] => some (true, n4 ordL)
  | _ => none
theorem c_order : fnChk prog (envP tt ts1 []) f_scalar_order = true := by kernel_rfl
theorem r_order : TRow prog F_scalar_order tOrder := by
  intro args r h
  unfold tOrder at h
  split at h
  case h_2 => simp at h
  simp only [Option.some.injEq, Prod.mk.injEq, true_and] at h
  subst h
  exact pure_of_out L1 at_scalar_order c_order (N := 50) (gs := []) (by kernel_rfl)
def ts2 : List (Nat × TF) := (F_scalar_order, tOrder) :: (F_scalar_less, tLess) :: ts1
theorem L2 : LibOK prog tt ts2 [] := (L1.addT r_less).addT r_order
def tLowered : TF := fun args => match args with
  | [.agg [.ints .u64 4 a]] => some (inU4 a, n4 (low (val4 a)))
  | _ => none
theorem c_lowered : fnChk prog (envP tt ts2 []) f_scalar_lowered = true := by kernel_rfl
theorem k_low1 (a : Nat → Int) : outP (apFunc (envP tt ts2 []) [(12, true)] 50 f_scalar_lowered [u4 a] []) =
    some (ckL [inU4 a && inU4 (limbs4 ordL), (b2i (decide (val4 a < val4 (limbs4 ordL))) == 0) == true], n4 (if val4 a < val4 (limbs4 ordL) then val4 a - val4 (limbs4 ordL) + 115792089237316195423570985008687907853269984665640564039457584007913129639936 else val4 a - val4 (limbs4 ordL))) := by kernel_rfl
theorem k_low2 (a : Nat → Int) : outP (apFunc (envP tt ts2 []) [(12, false)] 50 f_scalar_lowered [u4 a] []) =
    some (ckL [inU4 a && inU4 (limbs4 ordL), (b2i (decide (val4 a < val4 (limbs4 ordL))) == 0) == false], u4 (lf [a 0, a 1, a 2, a 3])) := by kernel_rfl
theorem r_lowered : TRow prog F_scalar_lowered tLowered := by
  intro args r h
  unfold tLowered at h
  split at h
  case h_2 => simp at h
  rename_i a
  simp only [Option.some.injEq, Prod.mk.injEq] at h
  obtain ⟨ha, rfl⟩ := h
  have hr := val4_range ha
  have ho := inU4_limbs ordL
  by_cases hlt : val4 a < ordL
  · refine pure_of_out L2 at_scalar_lowered c_lowered (N := 50) (gs := [(12, false)]) ?_
    have := k_low2 a
    simp only [u4] at this
    rw [this, limbs_self ha, val4_ordL]
    simp [ckL, ha, ho, hlt, b2i, low, n4, u4]
  · refine pure_of_out L2 at_scalar_lowered c_lowered (N := 50) (gs := [(12, true)]) ?_
    have := k_low1 a
    simp only [u4] at this
    rw [this, val4_ordL]
    simp [ckL, ha, ho, hlt, b2i, low, n4, u4]
def ts3 : List (Nat × TF) := (F_scalar_lowered, tLowered) :: ts2
theorem L3 : LibOK prog tt ts3 [] := L2.addT r_lowered
def tPlus : TF := fun args => match args with
  | [.agg [.ints .u64 4 a], .agg [.ints .u64 4 b]] => some (inU4 a && inU4 b, n4 (low ((val4 a + val4 b) % 115792089237316195423570985008687907853269984665640564039457584007913129639936)))
  | _ => none
theorem c_plus : fnChk prog (envP tt ts3 []) f_scalar_plus = true := by kernel_rfl
theorem k_plus (a b : Nat → Int) : outP (apFunc (envP tt ts3 []) [] 50 f_scalar_plus [u4 a, u4 b] []) = some (ckL [inU (a 0) && inU (b 0), inU (a 1) && inU (b 1), inU (a 2) && inU (b 2), inU (a 3) && inU (b 3), inU4 (lf (plusL a b))], n4 (low (val4 (lf (plusL a b))))) := by kernel_rfl
theorem r_plus : TRow prog F_scalar_plus tPlus := by
  intro args r h
  unfold tPlus at h
  split at h
  case h_2 => simp at h
  rename_i a b
  simp only [Option.some.injEq, Prod.mk.injEq, Bool.and_eq_true] at h
  obtain ⟨⟨ha, hb⟩, rfl⟩ := h
  refine pure_of_out L3 at_scalar_plus c_plus (N := 50) (gs := []) ?_
  have := k_plus a b
  simp only [u4] at this
  rw [this, plus_law ha hb, val4_limbs (by omega) (by omega)]
  simp only [inU4, Bool.and_eq_true] at ha hb
  simp [ckL, ha, hb, inU4_limbs]
def ts4 : List (Nat × TF) := (F_scalar_plus, tPlus) :: ts3
theorem L4 : LibOK prog tt ts4 [] := L3.addT r_plus
def tFrom : TF := fun args => match args with
  | [.agg [.ints .u8 32 s]] => some (areB s 32 0, n4 (hval s 32 0))
  | _ => none
theorem c_from : fnChk prog (envP tt ts4 []) f_scalar_from = true := by kernel_rfl
theorem k_from (s : Nat → Int) : outP (apFunc (envP tt ts4 []) [] 50 f_scalar_from [u8s 32 s] []) = some (true, u4 (lf [orB s 0 8, orB s 1 8, orB s 2 8, orB s 3 8])) := by kernel_rfl
theorem r_from : TRow prog F_scalar_from tFrom := by
  intro args r h
  unfold tFrom at h
  split at h
  case h_2 => simp at h
  rename_i s
  simp only [Option.some.injEq, Prod.mk.injEq] at h
  obtain ⟨hs, rfl⟩ := h
  refine pure_of_out L4 at_scalar_from c_from (N := 50) (gs := []) ?_
  have := k_from s
  simp only [u8s] at this
  rw [this, from_law hs]; rfl
def tBack : TF := fun args => match args with
  | [.agg [.ints .u64 4 a]] => some (inU4 a, b32 (val4 a))
  | _ => none
theorem c_back : fnChk prog (envP tt ts4 []) f_scalar_back = true := by kernel_rfl
theorem k_back (a : Nat → Int) : outP (apFunc (envP tt ts4 []) [] 50 f_scalar_back [u4 a] []) = some (true, u8s 32 (lf (backL a))) := by kernel_rfl
theorem r_back : TRow prog F_scalar_back tBack := by
  intro args r h
  unfold tBack at h
  split at h
  case h_2 => simp at h
  rename_i a
  simp only [Option.some.injEq, Prod.mk.injEq] at h
  obtain ⟨hs, rfl⟩ := h
  refine pure_of_out L4 at_scalar_back c_back (N := 50) (gs := []) ?_
  have := k_back a
  simp only [u4] at this
  rw [this, back_law hs]; rfl
def ts5 : List (Nat × TF) := (F_scalar_back, tBack) :: (F_scalar_from, tFrom) :: ts4
theorem L5 : LibOK prog tt ts5 [] := (L4.addT r_from).addT r_back
def tValue : TF := fun args => match args with
  | [.agg [.ints .u8 32 s]] => some (areB s 32 0, n4 (hval s 32 0 % ordL))
  | _ => none
theorem c_value : fnChk prog (envP tt ts5 []) f_scalar_value = true := by kernel_rfl
theorem k_value (s : Nat → Int) : outP (apFunc (envP tt ts5 []) [] 50 f_scalar_value [u8s 32 s] []) = some (ckL (areB s 32 0 :: (List.range 16).map fun k => inU4 (limbs4 (wl s k))), u4 (lf [limbs4 (wl s 16) 0, limbs4 (wl s 16) 1, limbs4 (wl s 16) 2, limbs4 (wl s 16) 3])) := by kernel_rfl
theorem r_value : TRow prog F_scalar_value tValue := by
  intro args r h
  unfold tValue at h
  split at h
  case h_2 => simp at h
  rename_i s
  simp only [Option.some.injEq, Prod.mk.injEq] at h
  obtain ⟨hs, rfl⟩ := h
  refine pure_of_out L5 at_scalar_value c_value (N := 50) (gs := []) ?_
  have := k_value s
  simp only [u8s] at this
  rw [this, wl16 hs]
  have hc : ckL (areB s 32 0 :: (List.range 16).map fun k => inU4 (limbs4 (wl s k))) = true := by
    rw [ckL_t]
    intro b hb
    simp only [List.mem_cons, List.mem_map] at hb
    rcases hb with rfl | ⟨k, _, rfl⟩
    · exact hs
    · exact inU4_limbs _
  rw [hc]; rfl
def ts6 : List (Nat × TF) := (F_scalar_value, tValue) :: ts5
theorem L6 : LibOK prog tt ts6 [] := L5.addT r_value
def tIsZero : TF := fun args => match args with
  | [.agg [.ints .u8 32 s]] => some (areB s 32 0, .sc (.bool (decide (hval s 32 0 % ordL = 0))))
  | _ => none
theorem c_isZero : fnChk prog (envP tt ts6 []) f_scalar_IsZero = true := by kernel_rfl
theorem k_isZero (s : Nat → Int) : outP (apFunc (envP tt ts6 []) [] 50 f_scalar_IsZero [u8s 32 s] []) = some (ckL [areB s 32 0], .sc (.bool (eqN 4 (limbs4 (hval s 32 0 % ordL)) (fun _ => 0) && true))) := by kernel_rfl
theorem r_isZero : TRow prog F_scalar_IsZero tIsZero := by
  intro args r h
  unfold tIsZero at h
  split at h
  case h_2 => simp at h
  rename_i s
  simp only [Option.some.injEq, Prod.mk.injEq] at h
  obtain ⟨hs, rfl⟩ := h
  refine pure_of_out L6 at_scalar_IsZero c_isZero (N := 50) (gs := []) ?_
  have := k_isZero s
  simp only [u8s] at this
  have hr := modL_range (hval s 32 0)
  rw [this, eqN_zero hr.1 (by omega), Bool.and_true]
  simp [ckL, hs]
def tAdd : TF := fun args => match args with
  | [.agg [.ints .u8 32 s], .agg [.ints .u8 32 t]] => some (areB s 32 0 && areB t 32 0, b32 ((hval s 32 0 + hval t 32 0) % ordL))
  | _ => none
theorem c_add : fnChk prog (envP tt ts6 []) f_scalar_Add = true := by kernel_rfl
theorem k_add (s t : Nat → Int) : outP (apFunc (envP tt ts6 []) [] 50 f_scalar_Add [u8s 32 s, u8s 32 t] []) =
    some (ckL [areB s 32 0, areB t 32 0, inU4 (limbs4 (hval s 32 0 % ordL)) && inU4 (limbs4 (hval t 32 0 % ordL)), inU4 (limbs4 (low ((val4 (limbs4 (hval s 32 0 % ordL)) + val4 (limbs4 (hval t 32 0 % ordL))) % 115792089237316195423570985008687907853269984665640564039457584007913129639936)))],
      normA (b32 (val4 (limbs4 (low ((val4 (limbs4 (hval s 32 0 % ordL)) + val4 (limbs4 (hval t 32 0 % ordL))) % 115792089237316195423570985008687907853269984665640564039457584007913129639936)))))) := by kernel_rfl
theorem norm_b32 (x : Int) : normA (b32 x) = b32 x := rfl
theorem r_add : TRow prog F_scalar_Add tAdd := by
  intro args r h
  unfold tAdd at h
  split at h
  case h_2 => simp at h
  rename_i s t
  simp only [Option.some.injEq, Prod.mk.injEq, Bool.and_eq_true] at h
  obtain ⟨⟨hs, ht⟩, rfl⟩ := h
  refine pure_of_out L6 at_scalar_Add c_add (N := 50) (gs := []) ?_
  have := k_add s t
  simp only [u8s] at this
  have h1 := modL_range (hval s 32 0)
  have h2 := modL_range (hval t 32 0)
  have h3 := modL_range (hval s 32 0 + hval t 32 0)
  rw [this, val4_limbs h1.1 (by omega), val4_limbs h2.1 (by omega), low_add, val4_limbs h3.1 (by omega), norm_b32]
  simp [ckL, hs, ht, inU4_limbs]
end Go.Proofs.YtbogcehngfjlkabGreat
namespace Go.Proofs.YtbogcehngfjlkabGreat
open Go.Proofs.Tryz
open Go Go.AM
def tMul64 : TF := fun args => match args with
  | [.sc (.int .u64 x), .sc (.int .u64 y)] => some (inU x && inU y, .tup [.sc (.int .u64 (x * y / 18446744073709551616)), .sc (.int .u64 (x * y % 18446744073709551616))])
  | _ => none
theorem c_mul64 : fnChk prog (envP tt ts6 []) f_bits_Mul64 = true := by kernel_rfl
theorem k_mul64 (x y : Int) : outP (apFunc (envP tt ts6 []) [] 50 f_bits_Mul64 [.sc (.int .u64 x), .sc (.int .u64 y)] []) = some (true, .tup [.sc (.int .u64 (mHi x y)), .sc (.int .u64 (wr .u64 (x * y)))]) := by kernel_rfl
theorem r_mul64 : TRow prog F_bits_Mul64 tMul64 := by
  intro args r h
  unfold tMul64 at h
  split at h
  case h_2 => simp at h
  rename_i x y
  simp only [Option.some.injEq, Prod.mk.injEq, Bool.and_eq_true] at h
  obtain ⟨⟨hx, hy⟩, rfl⟩ := h
  refine pure_of_out L6 at_bits_Mul64 c_mul64 (N := 50) (gs := []) ?_
  rw [k_mul64 x y, mHi_law (inU_t hx) (inU_t hy), wr64]
def ts7 : List (Nat × TF) := (F_bits_Mul64, tMul64) :: ts6
theorem L7 : LibOK prog tt ts7 [] := L6.addT r_mul64
def tMuladd : TF := fun args => match args with
  | [.sc (.int .u64 a), .sc (.int .u64 b), .sc (.int .u64 x), .sc (.int .u64 c)] => some (inU a && (inU b && (inU x && inU c)), .tup [.sc (.int .u64 ((a * b + x + c) / 18446744073709551616)), .sc (.int .u64 ((a * b + x + c) % 18446744073709551616))])
  | _ => none
theorem c_muladd : fnChk prog (envP tt ts7 []) f_scalar_muladd = true := by kernel_rfl
def muladdV (a b x c : Int) : AV :=
  let lo := a * b % 18446744073709551616
  let lo2 := addLo lo x false
  .tup [.sc (.int .u64 (wr .u64 (wr .u64 (a * b / 18446744073709551616 + b2i (addC lo x false)) + b2i (addC lo2 c false)))), .sc (.int .u64 (addLo lo2 c false))]
theorem k_muladd (a b x c : Int) : outP (apFunc (envP tt ts7 []) [] 50 f_scalar_muladd [.sc (.int .u64 a), .sc (.int .u64 b), .sc (.int .u64 x), .sc (.int .u64 c)] []) =
    some (ckL [inU a && inU b, inU (a * b % 18446744073709551616) && inU x, inU (addLo (a * b % 18446744073709551616) x false) && inU c], muladdV a b x c) := by kernel_rfl
theorem r_muladd : TRow prog F_scalar_muladd tMuladd := by
  intro args r h
  unfold tMuladd at h
  split at h
  case h_2 => simp at h
  rename_i a b x c
  simp only [Option.some.injEq, Prod.mk.injEq, Bool.and_eq_true] at h
  obtain ⟨⟨ha, hb, hx, hc⟩, rfl⟩ := h
  refine pure_of_out L7 at_scalar_muladd c_muladd (N := 50) (gs := []) ?_
  obtain ⟨e1, e2⟩ := muladd_law (inU_t ha) (inU_t hb) (inU_t hx) (inU_t hc)
  rw [k_muladd a b x c]
  simp only [muladdV, e1, e2]
  simp [ckL, ha, hb, hx, hc, inU_mod, inU_addLo]
def ts8 : List (Nat × TF) := (F_scalar_muladd, tMuladd) :: ts7
theorem L8 : LibOK prog tt ts8 [] := L7.addT r_muladd
def tRadix : TF := fun args => match args with
  | [] => some (true, u4 (lf [11819153939886771969, 14991950615390032711, 14910419812499177061, 259310039853996605]))
  | _ => none
theorem c_radix : fnChk prog (envP tt ts8 []) f_scalar_radix = true := by kernel_rfl
theorem r_radix : TRow prog F_scalar_radix tRadix := by
  intro args r h
  unfold tRadix at h
  split at h
  case h_2 => simp at h
  simp only [Option.some.injEq, Prod.mk.injEq, true_and] at h
  subst h
  exact pure_of_out L8 at_scalar_radix c_radix (N := 50) (gs := []) (by kernel_rfl)
def ts9 : List (Nat × TF) := (F_scalar_radix, tRadix) :: ts8
theorem L9 : LibOK prog tt ts9 [] := L8.addT r_radix
end Go.Proofs.YtbogcehngfjlkabGreat
namespace Go.Proofs.YtbogcehngfjlkabGreat
open Go.Proofs.Tryz
open Go Go.AM
def tCarried : TF := fun args => match args with
  | [.agg [.ints .u64 5 a]] => some (inU5 a, u5 (lf (carL a)))
  | _ => none
theorem c_carried : fnChk prog (envP tt ts8 []) f_edwards_carried = true := by kernel_rfl
theorem k_carried (a : Nat → Int) : outP (apFunc (envP tt ts8 []) [] 50 f_edwards_carried [u5 a] []) = some (true, u5 (lf (carRaw a))) := by kernel_rfl
theorem r_carried : TRow prog F_edwards_carried tCarried := by
  intro args r h
  unfold tCarried at h
  split at h
  case h_2 => simp at h
  rename_i a
  simp only [Option.some.injEq, Prod.mk.injEq] at h
  obtain ⟨ha, rfl⟩ := h
  refine pure_of_out L8 at_edwards_carried c_carried (N := 50) (gs := []) ?_
  rw [← car_law ha]
  exact k_carried a
def tf1 : List (Nat × TF) := (F_edwards_carried, tCarried) :: ts8
theorem M1 : LibOK prog tt tf1 [] := L8.addT r_carried
def tFeMinus : TF := fun args => match args with
  | [.agg [.ints .u64 5 a], .agg [.ints .u64 5 b]] => some (true, u5 (lf (subV (l5 a) (l5 b))))
  | _ => none
def tFePlus : TF := fun args => match args with
  | [.agg [.ints .u64 5 a], .agg [.ints .u64 5 b]] => some (true, u5 (lf (addV (l5 a) (l5 b))))
  | _ => none
theorem c_fePlus : fnChk prog (envP tt tf1 []) f_edwards_fe_plus = true := by kernel_rfl
theorem c_feMinus : fnChk prog (envP tt tf1 []) f_edwards_fe_minus = true := by kernel_rfl
def plusRaw (a b : Nat → Int) : List Int := [wr .u64 (a 0 + b 0), wr .u64 (a 1 + b 1), wr .u64 (a 2 + b 2), wr .u64 (a 3 + b 3), wr .u64 (a 4 + b 4)]
theorem k_fePlus (a b : Nat → Int) : outP (apFunc (envP tt tf1 []) [] 50 f_edwards_fe_plus [u5 a, u5 b] []) = some (ckL [inU5 (lf (plusRaw a b))], u5 (lf (carL (lf (plusRaw a b))))) := by kernel_rfl
def minusRaw (a b : Nat → Int) : List Int := [wr .u64 (a 0 + wr .u64 (4503599627370458 - b 0)), wr .u64 (a 1 + wr .u64 (4503599627370494 - b 1)), wr .u64 (a 2 + wr .u64 (4503599627370494 - b 2)), wr .u64 (a 3 + wr .u64 (4503599627370494 - b 3)), wr .u64 (a 4 + wr .u64 (4503599627370494 - b 4))]
theorem k_feMinus (a b : Nat → Int) : outP (apFunc (envP tt tf1 []) [] 50 f_edwards_fe_minus [u5 a, u5 b] []) = some (ckL [inU5 (lf (minusRaw a b))], u5 (lf (carL (lf (minusRaw a b))))) := by kernel_rfl
theorem r_fePlus : TRow prog F_edwards_fe_plus tFePlus := by
  intro args r h
  unfold tFePlus at h
  split at h
  case h_2 => simp at h
  rename_i a b
  simp only [Option.some.injEq, Prod.mk.injEq, true_and] at h
  subst h
  refine pure_of_out M1 at_edwards_fe_plus c_fePlus (N := 50) (gs := []) ?_
  have e : plusRaw a b = addL a b := by simp only [plusRaw, addL, wr64]
  have := k_fePlus a b
  simp only [u5] at this ⊢
  rw [this, e]
  simp [ckL, inU5_addL, addV_l5, feAdd]
theorem r_feMinus : TRow prog F_edwards_fe_minus tFeMinus := by
  intro args r h
  unfold tFeMinus at h
  split at h
  case h_2 => simp at h
  rename_i a b
  simp only [Option.some.injEq, Prod.mk.injEq, true_and] at h
  subst h
  refine pure_of_out M1 at_edwards_fe_minus c_feMinus (N := 50) (gs := []) ?_
  have e : minusRaw a b = subL a b := by
    have h : ∀ x c y : Int, (x + (c - y) % 18446744073709551616) % 18446744073709551616 = (x + c - y) % 18446744073709551616 := fun x c y => by omega
    simp only [minusRaw, subL, wr64, h]
  have := k_feMinus a b
  simp only [u5] at this ⊢
  rw [this, e]
  simp [ckL, inU5_subL, subV_l5, feSub]
def tf2 : List (Nat × TF) := (F_edwards_fe_minus, tFeMinus) :: (F_edwards_fe_plus, tFePlus) :: tf1
theorem M2 : LibOK prog tt tf2 [] := (M1.addT r_fePlus).addT r_feMinus
noncomputable def wf1 : List (Nat × WF) := [(F_edwards_wide_add, AM.sW (envP tt tf2 []) [] 50 f_edwards_wide_add)]
theorem M3 : LibOK prog tt tf2 wf1 := M2.sW at_edwards_wide_add [] 50 (by kernel_rfl)
theorem c_feTimes : fnChk prog (envP tt tf2 wf1) f_edwards_fe_times = true := by kernel_rfl
theorem k_feTimes (a b : Nat → Int) : (outP (apFunc (envP tt tf2 wf1) [] 50 f_edwards_fe_times [u5 a, u5 b] [])).map (·.2) = some (u5 (lf (carL (lf (mulRaw a b))))) := by kernel_rfl
theorem ck_feTimes (a b : Nat → Int) : (outP (apFunc (envP tt tf2 wf1) [] 50 f_edwards_fe_times [u5 a, u5 b] [])).map (·.1) = some (ckL (mulCk a b)) := by kernel_rfl
def tFeTimes : TF := fun args => match args with
  | [.agg [.ints .u64 5 a], .agg [.ints .u64 5 b]] => some (chk5 (l5 a) && chk5 (l5 b), u5 (lf (mulV (l5 a) (l5 b))))
  | _ => none
theorem r_feTimes : TRow prog F_edwards_fe_times tFeTimes := by
  intro args r h
  unfold tFeTimes at h
  split at h
  case h_2 => simp at h
  rename_i a b
  simp only [Option.some.injEq, Prod.mk.injEq, Bool.and_eq_true] at h
  obtain ⟨⟨ha, hb⟩, rfl⟩ := h
  refine pure_of_out M3 at_edwards_fe_times c_feTimes (N := 50) (gs := []) ?_
  have e := both (ck_feTimes a b) (k_feTimes a b)
  rw [mulCk_law (a := a) (b := b) ha hb, mul_law (a := a) (b := b) ha hb] at e
  exact e
noncomputable def tf3 : List (Nat × TF) := (F_edwards_fe_times, tFeTimes) :: tf2
theorem M4 : LibOK prog tt tf3 wf1 := M3.addT r_feTimes
end Go.Proofs.YtbogcehngfjlkabGreat
namespace Go.Proofs.YtbogcehngfjlkabGreat
open Go.Proofs.Tryz
open Go Go.AM
-- the curve's number
noncomputable def tl0 : List (Nat × TF) := (F_edwards_load, cT (envP tt tf3 wf1) 50 f_edwards_load) :: tf3
theorem N0 : LibOK prog tt tl0 wf1 := M4.cT at_edwards_load 50 (by kernel_rfl)
theorem c_curve : fnChk prog (envP tt tl0 wf1) f_edwards_curve = true := by kernel_rfl
def tCurve : TF := fun args => match args with
  | [] => some (true, u5 (lf cvL))
  | _ => none
theorem k_curve : cT (envP tt tl0 wf1) 50 f_edwards_curve [] = some (true, u5 (lf cvL)) := by kernel_rfl
theorem r_curve : TRow prog F_edwards_curve tCurve := by
  intro args r h
  unfold tCurve at h
  split at h
  case h_2 => simp at h
  exact cT_row N0 at_edwards_curve 50 c_curve _ _ (k_curve.trans h)
noncomputable def tg0 : List (Nat × TF) := (F_edwards_curve, tCurve) :: tf3
theorem N1 : LibOK prog tt tg0 wf1 := M4.addT r_curve
def tSmall : TF := fun args => match args with
  | [.sc (.int .u64 n)] => some (true, u5 (lf [n, 0, 0, 0, 0]))
  | _ => none
theorem c_small : fnChk prog (envP tt tg0 wf1) f_edwards_small = true := by kernel_rfl
theorem r_small : TRow prog F_edwards_small tSmall := by
  intro args r h
  unfold tSmall at h
  split at h
  case h_2 => simp at h
  rename_i n
  simp only [Option.some.injEq, Prod.mk.injEq, true_and] at h
  subst h
  exact pure_of_out N1 at_edwards_small c_small (N := 50) (gs := []) (by kernel_rfl)
def tSquare : TF := fun args => match args with
  | [.agg [.ints .u64 5 a]] => some (chk5 (l5 a), u5 (lf (mulV (l5 a) (l5 a))))
  | _ => none
theorem c_square : fnChk prog (envP tt tg0 wf1) f_edwards_fe_square = true := by kernel_rfl
theorem k_square (a : Nat → Int) : outP (apFunc (envP tt tg0 wf1) [] 50 f_edwards_fe_square [u5 a] []) = some (ckL [chk5 (l5 a) && chk5 (l5 a)], u5 (lf (r5 (mulV (l5 a) (l5 a))))) := by kernel_rfl
theorem r_square : TRow prog F_edwards_fe_square tSquare := by
  intro args r h
  unfold tSquare at h
  split at h
  case h_2 => simp at h
  rename_i a
  simp only [Option.some.injEq, Prod.mk.injEq] at h
  obtain ⟨ha, rfl⟩ := h
  refine pure_of_out N1 at_edwards_fe_square c_square (N := 50) (gs := []) ?_
  have := k_square a
  rw [show ckL [chk5 (l5 a) && chk5 (l5 a)] = true by simp [ckL, ha]] at this
  exact this
noncomputable def tg1 : List (Nat × TF) := (F_edwards_fe_square, tSquare) :: (F_edwards_small, tSmall) :: tg0
theorem N2 : LibOK prog tt tg1 wf1 := (N1.addT r_small).addT r_square
theorem c_ptPlus : fnChk prog (envP tt tg1 wf1) f_edwards_point_plus = true := by kernel_rfl
theorem c_ptTwice : fnChk prog (envP tt tg1 wf1) f_edwards_point_twice = true := by kernel_rfl
theorem k_ptTwice (p : Nat → Int) : (outP (apFunc (envP tt tg1 wf1) [] 50 f_edwards_point_twice [pt p] [])).map (·.2) = some (pt (lf (ptDbl p))) := by kernel_rfl
theorem k_ptPlus (p q : Nat → Int) : (outP (apFunc (envP tt tg1 wf1) [] 50 f_edwards_point_plus [pt p, pt q] [])).map (·.2) = some (pt (lf (ptAdd p q))) := by kernel_rfl
theorem ck_ptTwice (p : Nat → Int) : (outP (apFunc (envP tt tg1 wf1) [] 50 f_edwards_point_twice [pt p] [])).map (·.1) = some (ckL (ptDblCk p)) := by kernel_rfl
theorem ck_ptPlus (p q : Nat → Int) : (outP (apFunc (envP tt tg1 wf1) [] 50 f_edwards_point_plus [pt p, pt q] [])).map (·.1) = some (ckL (ptAddCk p q)) := by kernel_rfl
def tPtPlus : TF := fun args => match args with
  | [.agg [.ints .u64 20 p], .agg [.ints .u64 20 q]] => some (chkP p && chkP q, pt (lf (ptAdd p q)))
  | _ => none
def tPtTwice : TF := fun args => match args with
  | [.agg [.ints .u64 20 p]] => some (chkP p, pt (lf (ptDbl p)))
  | _ => none
theorem r_ptPlus : TRow prog F_edwards_point_plus tPtPlus := by
  intro args r h
  unfold tPtPlus at h
  split at h
  case h_2 => simp at h
  rename_i p q
  simp only [Option.some.injEq, Prod.mk.injEq, Bool.and_eq_true] at h
  obtain ⟨⟨hp, hq⟩, rfl⟩ := h
  refine pure_of_out N2 at_edwards_point_plus c_ptPlus (N := 50) (gs := []) ?_
  have e := both (ck_ptPlus p q) (k_ptPlus p q)
  rw [ptAddCk_law hp hq] at e
  exact e
theorem r_ptTwice : TRow prog F_edwards_point_twice tPtTwice := by
  intro args r h
  unfold tPtTwice at h
  split at h
  case h_2 => simp at h
  rename_i p
  simp only [Option.some.injEq, Prod.mk.injEq] at h
  obtain ⟨hp, rfl⟩ := h
  refine pure_of_out N2 at_edwards_point_twice c_ptTwice (N := 50) (gs := []) ?_
  have e := both (ck_ptTwice p) (k_ptTwice p)
  rw [ptDblCk_law hp] at e
  exact e
noncomputable def tc1 : List (Nat × TF) := (F_edwards_point_twice, told tPtTwice) :: (F_edwards_point_plus, told tPtPlus) :: (F_edwards_curve, tCurve) :: (F_edwards_small, tSmall) :: (F_edwards_fe_square, told tSquare) :: (F_edwards_fe_times, told tFeTimes) :: (F_edwards_fe_minus, told tFeMinus) :: (F_edwards_fe_plus, told tFePlus) :: (F_edwards_carried, told tCarried) :: ts8
theorem N3 : LibOK prog tt tc1 [] := ((((((((L8.addT r_carried.told).addT r_fePlus.told).addT r_feMinus.told).addT r_feTimes.told).addT r_square.told).addT r_small).addT r_curve).addT r_ptPlus.told).addT r_ptTwice.told
end Go.Proofs.YtbogcehngfjlkabGreat
namespace Go.Proofs.YtbogcehngfjlkabGreat
open Go.Proofs.Tryz
open Go Go.AM
noncomputable def ex1 : List (Nat × TF) := (F_edwards_point_twice, tPtTwice) :: (F_edwards_point_plus, tPtPlus) :: (F_edwards_fe_square, tSquare) :: (F_edwards_small, tSmall) :: (F_edwards_curve, tCurve) :: (F_edwards_fe_times, tFeTimes) :: tf2
theorem X1 : LibOK prog tt ex1 [] := (((((M2.addT r_feTimes).addT r_curve).addT r_small).addT r_square).addT r_ptPlus).addT r_ptTwice
def tLoad : TF := fun args => match args with
  | [.agg [.ints .u8 32 b]] => some (areB b 32 0, u5 (lf (loadL (hval b 32 0))))
  | _ => none
theorem c_load : fnChk prog (envP tt ex1 []) f_edwards_load = true := by kernel_rfl
theorem k_load (b : Nat → Int) : outP (apFunc (envP tt ex1 []) [] 60 f_edwards_load [u8s 32 b] []) = some (true, u5 (lf (loadRaw b))) := by kernel_rfl
theorem r_load : TRow prog F_edwards_load tLoad := by
  intro args r h
  unfold tLoad at h
  split at h
  case h_2 => simp at h
  rename_i b
  simp only [Option.some.injEq, Prod.mk.injEq] at h
  obtain ⟨hb, rfl⟩ := h
  refine pure_of_out X1 at_edwards_load c_load (N := 60) (gs := []) ?_
  rw [← load_law hb]
  exact k_load b
def tFeBytes : TF := fun args => match args with
  | [.agg [.ints .u64 5 a]] => some (bd5 (l5 a), b32 (fm (l5 a)))
  | _ => none
theorem c_feBytes : fnChk prog (envP tt ex1 []) f_edwards_fe_bytes = true := by kernel_rfl
theorem k_feBytes (a : Nat → Int) : outP (apFunc (envP tt ex1 []) [] 60 f_edwards_fe_bytes [u5 a] []) = some (ckL [inU5 (lf (l5 a)), inU5 (lf (carL (lf (l5 a))))], u8s 32 (lf (bytesRaw (lf (l5 a))))) := by kernel_rfl
theorem r_feBytes : TRow prog F_edwards_fe_bytes tFeBytes := by
  intro args r h
  unfold tFeBytes at h
  split at h
  case h_2 => simp at h
  rename_i a
  simp only [Option.some.injEq, Prod.mk.injEq] at h
  obtain ⟨ha, rfl⟩ := h
  refine pure_of_out X1 at_edwards_fe_bytes c_feBytes (N := 60) (gs := []) ?_
  have e := k_feBytes a
  have h1 : inU5 (lf (l5 a)) = true := bd5_chk ha
  rw [bytes_law ha, h1, inU5_carL h1] at e
  exact e
noncomputable def ex2 : List (Nat × TF) := (F_edwards_fe_bytes, tFeBytes) :: (F_edwards_load, tLoad) :: ex1
theorem X2 : LibOK prog tt ex2 [] := (X1.addT r_load).addT r_feBytes
def tFeSame : TF := fun args => match args with
  | [.agg [.ints .u64 5 a], .agg [.ints .u64 5 b]] => some (bd5 (l5 a) && bd5 (l5 b), .sc (.bool (decide (fm (l5 a) = fm (l5 b)))))
  | _ => none
theorem c_feSame : fnChk prog (envP tt ex2 []) f_edwards_fe_same = true := by kernel_rfl
theorem k_feSame (a b : Nat → Int) : outP (apFunc (envP tt ex2 []) [] 60 f_edwards_fe_same [u5 a, u5 b] []) = some (ckL [bd5 (l5 a), bd5 (l5 b)], .sc (.bool (eqN 32 (lf (byL 32 (fm (l5 a)))) (lf (byL 32 (fm (l5 b)))) && true))) := by kernel_rfl
theorem pP_256 : pP < R256 := by decide
theorem eqN_by {x y : Int} (hx : 0 ≤ x ∧ x < R256) (hy : 0 ≤ y ∧ y < R256) : eqN 32 (lf (byL 32 x)) (lf (byL 32 y)) = decide (x = y) := by
  rw [eqB_law (areB_b32 y) hx.1 hx.2, hval_b32 hy.1 hy.2]
  by_cases e : x = y
  · rw [decide_eq_true e, decide_eq_true e.symm]
  · rw [decide_eq_false e, decide_eq_false (fun h => e h.symm)]
theorem fm_256 (l : List Int) : 0 ≤ fm l ∧ fm l < R256 := ⟨(fm_range l).1, Int.lt_trans (fm_range l).2 pP_256⟩
theorem r_feSame : TRow prog F_edwards_fe_same tFeSame := by
  intro args r h
  unfold tFeSame at h
  split at h
  case h_2 => simp at h
  rename_i a b
  simp only [Option.some.injEq, Prod.mk.injEq, Bool.and_eq_true] at h
  obtain ⟨⟨ha, hb⟩, rfl⟩ := h
  refine pure_of_out X2 at_edwards_fe_same c_feSame (N := 60) (gs := []) ?_
  have e := k_feSame a b
  rw [ha, hb, eqN_by (fm_256 _) (fm_256 _), Bool.and_true] at e
  exact e
def tFeOdd : TF := fun args => match args with
  | [.agg [.ints .u64 5 a]] => some (bd5 (l5 a), .sc (.bool (decide (fm (l5 a) % 2 = 1))))
  | _ => none
theorem c_feOdd : fnChk prog (envP tt ex2 []) f_edwards_fe_odd = true := by kernel_rfl
theorem k_feOdd (a : Nat → Int) : outP (apFunc (envP tt ex2 []) [] 60 f_edwards_fe_odd [u5 a] []) = some (ckL [bd5 (l5 a)], .sc (.bool (iand .u8 (lf (byL 32 (fm (l5 a))) 0) 1 == 1))) := by kernel_rfl
set_option maxRecDepth 100000 in
theorem iand1_fe2 {x : Int} (h : 0 ≤ x ∧ x < 256) : iand .u8 x 1 = x % 2 := by
  have key : ∀ n : Nat, n < 256 → iand .u8 (n : Int) 1 = (n : Int) % 2 := by decide
  have := key x.toNat (by omega)
  rwa [Int.toNat_of_nonneg h.1] at this
theorem odd_law {v : Int} (h : 0 ≤ v) : (iand .u8 (lf (byL 32 v) 0) 1 == 1) = decide (v % 2 = 1) := by
  have e : lf (byL 32 v) 0 = v % 256 := rfl
  rw [e, iand1_fe2 ⟨by omega, by omega⟩]
  have : v % 256 % 2 = v % 2 := by omega
  rw [this]
  rfl
theorem r_feOdd : TRow prog F_edwards_fe_odd tFeOdd := by
  intro args r h
  unfold tFeOdd at h
  split at h
  case h_2 => simp at h
  rename_i a
  simp only [Option.some.injEq, Prod.mk.injEq] at h
  obtain ⟨ha, rfl⟩ := h
  refine pure_of_out X2 at_edwards_fe_odd c_feOdd (N := 60) (gs := []) ?_
  have e := k_feOdd a
  rw [ha, odd_law (fm_range _).1] at e
  exact e
noncomputable def ex3 : List (Nat × TF) := (F_edwards_fe_odd, tFeOdd) :: (F_edwards_fe_same, tFeSame) :: ex2
theorem X3 : LibOK prog tt ex3 [] := (X2.addT r_feSame).addT r_feOdd
def sqV : Nat → List Int → List Int
  | 0, l => l
  | n + 1, l => mulV (r5 (sqV n l)) (r5 (sqV n l))
theorem sqV_bd {l : List Int} (h : bd5 l = true) : ∀ n, bd5 (sqV n l) = true
  | 0 => h
  | n + 1 => mulV_bd (sqV_bd h n) (sqV_bd h n)
theorem sqV_fm {l : List Int} (h : bd5 l = true) {x : Int} {a : Nat} (hx : fm l = powM x a) : ∀ n, fm (sqV n l) = powM x (a * 2 ^ n)
  | 0 => by simpa [sqV] using hx
  | n + 1 => by
    have ih := sqV_fm h hx n
    show fm (mulV (r5 (sqV n l)) (r5 (sqV n l))) = _
    rw [mulV_fm (by rw [r5_bd]; exact sqV_bd h n) (by rw [r5_bd]; exact sqV_bd h n), r5_fm, ih, powM_mul]
    congr 1
    rw [Nat.pow_succ]; grind
theorem and_t {a b : Bool} : (a && b) = true ↔ a = true ∧ b = true := by rw [Bool.and_eq_true]
noncomputable abbrev xE_fe2 : EnvP := envP tt ex3 []
noncomputable def sqB : Code := match f_edwards_fe_squares.body with | some c => (match bodiesOf 0 c with | [.loop b] => b | _ => .skip) | none => .skip
def sqS (n v : Int) (f : Nat → Int) : St := ⟨tmOf [(2, .sc (.ptr 0 5 0 0 5)), (4, .sc (.ptr 1 5 0 0 5)), (5, .sc (.int .i64 n)), (6, .sc (.int .i64 v))] 12 0, [some (.ints .u64 5 1 (fun _ d => f d)), some (.ints .u64 5 1 (fun _ _ => 0))]⟩
theorem sq_round (n v v' : Int) (f f' : Nat → Int) : roundR xE_fe2 [(7, true)] 5 2 [] sqB (sqS n v f) .normal (sqS n v' f') =
    some (ckL [decide (v < n) == true, chk5 (l5 f)] && stR (rnm 2 []) (sqS n (wr .i64 (v + 1)) (lf (mulV (l5 f) (l5 f)))) (sqS n v' f')) := by kernel_rfl
theorem sq_stop (n v v' : Int) (f f' : Nat → Int) : roundR xE_fe2 [(7, false)] 5 2 [] sqB (sqS n v f) (.exit 0) (sqS n v' f') = some (ckL [decide (v < n) == false] && stR (rnm 2 []) (sqS n v f) (sqS n v' f')) := by kernel_rfl
theorem sq_same {n v v' : Int} {f g : Nat → Int} (hv : v = v') (h : ∀ d, d < 5 → f d = g d) : stR (rnm 2 []) (sqS n v f) (sqS n v' g) = true := by
  subst hv
  have e : eqF 1 5 (fun _ d => f d) (fun _ d => g d) = true := eqF_of fun r _ d hd => h d hd
  simp [stR, sqS, tmOf, tmR, avR, svR, rIs, rnm, kEq_refl, eqF_refl, hpR, blkR, ndR, e]
  rfl
def sqN (n : Int) : Bool := decide (0 ≤ n) && decide (n < 4611686018427387904)
def sqW (a : Nat → Int) (n : Int) (k : Nat) : St := sqS n k (lf (sqV k (l5 a)))
def sqF (a : Nat → Int) (n : Int) : LF := famA 2 [] (sqW a n 0) (bd5 (l5 a) && sqN n) .normal (sqS n n (lf (sqV n.toNat (l5 a))))
theorem sq_body : f_edwards_fe_squares.body.map (bodiesOf 0) = some [.loop sqB] := by kernel_rfl
theorem sq_ok : codeOK prog xE_fe2.env.isW sqB = true := by kernel_rfl
theorem l_sq (a : Nat → Int) (n : Int) : LRow prog f_edwards_fe_squares 0 (sqF a n) := by
  refine LRow.famA (N := 5) (S := sqW a n) (X3.env []) mix n.toNat (loop_of sq_body) sq_ok (fun w0 own0 => accOK_none (fun id => rfl) sqB) (fun _ _ => Nat.le_refl _) (Nat.le_refl _) fun hck => ?_
  simp only [Bool.and_eq_true, sqN, decide_eq_true_eq] at hck
  obtain ⟨hb, h0, h1⟩ := hck
  refine ⟨fun k hk => ?_, ?_⟩
  · refine roundR_toR (sq_round n k ((k + 1 : Nat) : Int) (lf (sqV k (l5 a))) (lf (sqV (k + 1) (l5 a)))) ?_
    refine and_t.2 ⟨?_, sq_same ((wr_i64 (by omega) (by omega)).trans (by omega)) fun d _ => rfl⟩
    rw [show chk5 (l5 (lf (sqV k (l5 a)))) = true from bd5_chk (sqV_bd hb k), decide_eq_true (show (k : Int) < n by omega)]
    rfl
  · obtain ⟨s1, r, q1, q2, q3⟩ := roundR_toR (n := 2) (sq_stop n n.toNat n (lf (sqV n.toNat (l5 a))) (lf (sqV n.toNat (l5 a)))) (by
      rw [sq_same (by omega) (fun d _ => rfl), decide_eq_false (show ¬ ((n.toNat : Nat) : Int) < n by omega)]; rfl)
    exact ⟨_, s1, r, q1, rfl, q2, q3⟩
theorem c_sq (a : Nat → Int) (n : Int) : fnChk prog (envL tt ex3 [] [(0, sqF a n)]) f_edwards_fe_squares = true := by kernel_rfl
theorem k_sq (a : Nat → Int) (n : Int) : outP (apFunc (envL tt ex3 [] [(0, sqF a n)]) [] 5 f_edwards_fe_squares [u5 a, .sc (.int .i64 n)] []) =
    some (ckL [(bd5 (l5 a) && sqN n) && stR (rnm 2 []) (sqS n 0 a) (sqW a n 0)], u5 (lf (r5 (sqV n.toNat (l5 a))))) := by kernel_rfl
def tSquares : TF := fun args => match args with
  | [.agg [.ints .u64 5 a], .sc (.int .i64 n)] => some (bd5 (l5 a) && sqN n, u5 (lf (r5 (sqV n.toNat (l5 a)))))
  | _ => none
theorem lf_l5 (a : Nat → Int) : ∀ d, d < 5 → a d = lf (l5 a) d
  | 0, _ => rfl
  | 1, _ => rfl
  | 2, _ => rfl
  | 3, _ => rfl
  | 4, _ => rfl
  | n + 5, h => by omega
theorem r_squares : TRow prog F_edwards_fe_squares tSquares := by
  intro args r h
  unfold tSquares at h
  split at h
  case h_2 => simp at h
  rename_i a n
  simp only [Option.some.injEq, Prod.mk.injEq] at h
  obtain ⟨ha, rfl⟩ := h
  refine pure_of_outL X3 at_edwards_fe_squares (LsOK.nil.cons (l_sq a n)) (c_sq a n) (N := 5) (gs := []) ?_
  have e := k_sq a n
  rw [ha, show stR (rnm 2 []) (sqS n 0 a) (sqW a n 0) = true from sq_same rfl (lf_l5 a)] at e
  exact e
noncomputable def ex4 : List (Nat × TF) := (F_edwards_fe_squares, tSquares) :: ex3
theorem X4 : LibOK prog tt ex4 [] := X3.addT r_squares
def mR (a b : List Int) : List Int := mulV (r5 a) (r5 b)
theorem mR_bd {a b : List Int} (ha : bd5 a = true) (hb : bd5 b = true) : bd5 (mR a b) = true := mulV_bd (a := r5 a) (b := r5 b) ha hb
theorem mR_fm {a b : List Int} (ha : bd5 a = true) (hb : bd5 b = true) : fm (mR a b) = mM (fm a) (fm b) := mulV_fm (a := r5 a) (b := r5 b) ha hb
def sqR (n : Nat) (a : List Int) : List Int := r5 (sqV n (r5 a))
theorem sqR_bd {a : List Int} (n : Nat) (ha : bd5 a = true) : bd5 (sqR n a) = true := sqV_bd (l := r5 a) ha n
end Go.Proofs.YtbogcehngfjlkabGreat
namespace Go.Proofs.YtbogcehngfjlkabGreat
open Go.Proofs.Tryz
open Go Go.AM
def cS_fe3 (n : Int) (a : List Int) : Bool := bd5 (r5 a) && sqN n
def cM (a b : List Int) : Bool := chk5 (r5 a) && chk5 (r5 b)
def cQ (a : List Int) : Bool := chk5 (r5 a)
theorem cS_t {n : Int} {a : List Int} (h : bd5 a = true) (hn : sqN n = true) : cS_fe3 n a = true := by unfold cS_fe3; rw [show bd5 (r5 a) = true from h, hn]; rfl
theorem cM_t {a b : List Int} (ha : bd5 a = true) (hb : bd5 b = true) : cM a b = true := by unfold cM; rw [show chk5 (r5 a) = true from bd5_chk ha, show chk5 (r5 b) = true from bd5_chk hb]; rfl
theorem cQ_t {a : List Int} (ha : bd5 a = true) : cQ a = true := bd5_chk ha
def ch2 (a : List Int) : List Int := mR a a
def ch9 (a : List Int) : List Int := mR a (sqR 2 (ch2 a))
def ch11 (a : List Int) : List Int := mR (ch9 a) (ch2 a)
def ch5x (a : List Int) : List Int := mR (ch9 a) (mR (ch11 a) (ch11 a))
def ch10x (a : List Int) : List Int := mR (ch5x a) (sqR 5 (ch5x a))
def ch20x (a : List Int) : List Int := mR (ch10x a) (sqR 10 (ch10x a))
def ch40x (a : List Int) : List Int := mR (ch20x a) (sqR 20 (ch20x a))
def ch50x (a : List Int) : List Int := mR (ch10x a) (sqR 10 (ch40x a))
def ch100x (a : List Int) : List Int := mR (ch50x a) (sqR 50 (ch50x a))
def ch200x (a : List Int) : List Int := mR (ch100x a) (sqR 100 (ch100x a))
def ch250x (a : List Int) : List Int := mR (ch50x a) (sqR 50 (ch200x a))
def chCk (a : List Int) : List Bool :=
  [cQ a, cS_fe3 2 (ch2 a), cM a (sqR 2 (ch2 a)), cM (ch9 a) (ch2 a), cQ (ch11 a), cM (ch9 a) (mR (ch11 a) (ch11 a)), cS_fe3 5 (ch5x a), cM (ch5x a) (sqR 5 (ch5x a)), cS_fe3 10 (ch10x a), cM (ch10x a) (sqR 10 (ch10x a)), cS_fe3 20 (ch20x a), cM (ch20x a) (sqR 20 (ch20x a)),
   cS_fe3 10 (ch40x a), cM (ch10x a) (sqR 10 (ch40x a)), cS_fe3 50 (ch50x a), cM (ch50x a) (sqR 50 (ch50x a)), cS_fe3 100 (ch100x a), cM (ch100x a) (sqR 100 (ch100x a)), cS_fe3 50 (ch200x a), cM (ch50x a) (sqR 50 (ch200x a))]
theorem ch_bd {a : List Int} (h : bd5 a = true) : bd5 (ch2 a) = true ∧ bd5 (ch9 a) = true ∧ bd5 (ch11 a) = true ∧ bd5 (ch5x a) = true ∧ bd5 (ch10x a) = true ∧ bd5 (ch20x a) = true ∧ bd5 (ch40x a) = true ∧ bd5 (ch50x a) = true ∧ bd5 (ch100x a) = true ∧ bd5 (ch200x a) = true ∧ bd5 (ch250x a) = true := by
  have h2 := mR_bd h h
  have h9 := mR_bd h (sqR_bd 2 h2)
  have h11 := mR_bd h9 h2
  have h5 := mR_bd h9 (mR_bd h11 h11)
  have h10 := mR_bd h5 (sqR_bd 5 h5)
  have h20 := mR_bd h10 (sqR_bd 10 h10)
  have h40 := mR_bd h20 (sqR_bd 20 h20)
  have h50 := mR_bd h10 (sqR_bd 10 h40)
  have h100 := mR_bd h50 (sqR_bd 50 h50)
  have h200 := mR_bd h100 (sqR_bd 100 h100)
  exact ⟨h2, h9, h11, h5, h10, h20, h40, h50, h100, h200, mR_bd h50 (sqR_bd 50 h200)⟩
theorem chCk_law {a : List Int} (h : bd5 a = true) : ckL (chCk a) = true := by
  obtain ⟨h2, h9, h11, h5, h10, h20, h40, h50, h100, h200, h250⟩ := ch_bd h
  unfold chCk
  rw [cQ_t h, cS_t h2 (by decide), cM_t h (sqR_bd 2 h2), cM_t h9 h2, cQ_t h11, cM_t h9 (mR_bd h11 h11), cS_t h5 (by decide), cM_t h5 (sqR_bd 5 h5), cS_t h10 (by decide), cM_t h10 (sqR_bd 10 h10), cS_t h20 (by decide), cM_t h20 (sqR_bd 20 h20),
    cS_t h40 (by decide), cM_t h10 (sqR_bd 10 h40), cS_t h50 (by decide), cM_t h50 (sqR_bd 50 h50), cS_t h100 (by decide), cM_t h100 (sqR_bd 100 h100), cS_t h200 (by decide), cM_t h50 (sqR_bd 50 h200)]
  rfl
theorem mR_pow {a b : List Int} {x : Int} {m n k : Nat} (ha : bd5 a = true) (hb : bd5 b = true) (e1 : fm a = powM x m) (e2 : fm b = powM x n) (hk : m + n = k) : fm (mR a b) = powM x k := by
  rw [mR_fm ha hb, e1, e2, powM_mul, hk]
theorem sqR_pow {a : List Int} {x : Int} {m k : Nat} (n : Nat) (ha : bd5 a = true) (e1 : fm a = powM x m) (hk : m * 2 ^ n = k) : fm (sqR n a) = powM x k := by
  have := sqV_fm (l := r5 a) ha (x := x) (a := m) e1 n
  rw [hk] at this
  exact this
theorem ch_pow {a : List Int} (h : bd5 a = true) : fm (ch11 a) = powM (fm a) 11 ∧ fm (ch250x a) = powM (fm a) (2 ^ 250 - 1) := by
  obtain ⟨h2, h9, h11, h5, h10, h20, h40, h50, h100, h200, h250⟩ := ch_bd h
  have e : fm a = powM (fm a) 1 := (powM_one (fm_range a)).symm
  have e2 : fm (ch2 a) = powM (fm a) 2 := mR_pow h h e e rfl
  have e9 : fm (ch9 a) = powM (fm a) 9 := mR_pow h (sqR_bd 2 h2) e (sqR_pow 2 h2 e2 rfl) rfl
  have e11 : fm (ch11 a) = powM (fm a) 11 := mR_pow h9 h2 e9 e2 rfl
  have e5 : fm (ch5x a) = powM (fm a) (2 ^ 5 - 1) := mR_pow h9 (mR_bd h11 h11) e9 (mR_pow h11 h11 e11 e11 rfl) (by decide)
  have e10 : fm (ch10x a) = powM (fm a) (2 ^ 10 - 1) := mR_pow h5 (sqR_bd 5 h5) e5 (sqR_pow 5 h5 e5 rfl) (by decide)
  have e20 : fm (ch20x a) = powM (fm a) (2 ^ 20 - 1) := mR_pow h10 (sqR_bd 10 h10) e10 (sqR_pow 10 h10 e10 rfl) (by decide)
  have e40 : fm (ch40x a) = powM (fm a) (2 ^ 40 - 1) := mR_pow h20 (sqR_bd 20 h20) e20 (sqR_pow 20 h20 e20 rfl) (by decide)
  have e50 : fm (ch50x a) = powM (fm a) (2 ^ 50 - 1) := mR_pow h10 (sqR_bd 10 h40) e10 (sqR_pow 10 h40 e40 rfl) (by decide)
  have e100 : fm (ch100x a) = powM (fm a) (2 ^ 100 - 1) := mR_pow h50 (sqR_bd 50 h50) e50 (sqR_pow 50 h50 e50 rfl) (by decide)
  have e200 : fm (ch200x a) = powM (fm a) (2 ^ 200 - 1) := mR_pow h100 (sqR_bd 100 h100) e100 (sqR_pow 100 h100 e100 rfl) (by decide)
  exact ⟨e11, mR_pow h50 (sqR_bd 50 h200) e50 (sqR_pow 50 h200 e200 rfl) (by decide)⟩
theorem c_chain : fnChk prog (envP tt ex4 []) f_edwards_fe_chain = true := by kernel_rfl
theorem k_chain (a : Nat → Int) : (outP (apFunc (envP tt ex4 []) [] 60 f_edwards_fe_chain [u5 a] [])).map (·.2) = some (.tup [u5 (lf (r5 (ch250x (l5 a)))), u5 (lf (r5 (ch11 (l5 a))))]) := by kernel_rfl
theorem ck_chain (a : Nat → Int) : (outP (apFunc (envP tt ex4 []) [] 60 f_edwards_fe_chain [u5 a] [])).map (·.1) = some (ckL (chCk (l5 a))) := by kernel_rfl
def tChain : TF := fun args => match args with
  | [.agg [.ints .u64 5 a]] => some (bd5 (l5 a), .tup [u5 (lf (r5 (ch250x (l5 a)))), u5 (lf (r5 (ch11 (l5 a))))])
  | _ => none
theorem r_chain : TRow prog F_edwards_fe_chain tChain := by
  intro args r h
  unfold tChain at h
  split at h
  case h_2 => simp at h
  rename_i a
  simp only [Option.some.injEq, Prod.mk.injEq] at h
  obtain ⟨ha, rfl⟩ := h
  refine pure_of_out X4 at_edwards_fe_chain c_chain (N := 60) (gs := []) ?_
  have e := both (ck_chain a) (k_chain a)
  rw [chCk_law ha] at e
  exact e
noncomputable def ex5 : List (Nat × TF) := (F_edwards_fe_chain, tChain) :: ex4
theorem X5 : LibOK prog tt ex5 [] := X4.addT r_chain
def invV (a : List Int) : List Int := mR (sqR 5 (r5 (ch250x a))) (r5 (ch11 a))
def e8V (a : List Int) : List Int := mR (sqR 2 (r5 (ch250x a))) a
theorem invV_law {a : List Int} (h : bd5 a = true) : bd5 (invV a) = true ∧ fm (invV a) = powM (fm a) 57896044618658097711785492504343953926634992332820282019728792003956564819947 := by
  obtain ⟨h2, h9, h11, h5, h10, h20, h40, h50, h100, h200, h250⟩ := ch_bd h
  obtain ⟨e11, e250⟩ := ch_pow h
  exact ⟨mR_bd (sqR_bd 5 (a := r5 (ch250x a)) h250) (b := r5 (ch11 a)) h11, mR_pow (sqR_bd 5 (a := r5 (ch250x a)) h250) (b := r5 (ch11 a)) h11 (sqR_pow 5 (a := r5 (ch250x a)) h250 e250 rfl) e11 (by decide)⟩
theorem e8V_law {a : List Int} (h : bd5 a = true) : bd5 (e8V a) = true ∧ fm (e8V a) = powM (fm a) 7237005577332262213973186563042994240829374041602535252466099000494570602493 := by
  obtain ⟨h2, h9, h11, h5, h10, h20, h40, h50, h100, h200, h250⟩ := ch_bd h
  obtain ⟨e11, e250⟩ := ch_pow h
  exact ⟨mR_bd (sqR_bd 2 (a := r5 (ch250x a)) h250) h, mR_pow (sqR_bd 2 (a := r5 (ch250x a)) h250) h (sqR_pow 2 (a := r5 (ch250x a)) h250 e250 rfl) (powM_one (fm_range a)).symm (by decide)⟩
theorem c_inv : fnChk prog (envP tt ex5 []) f_edwards_fe_inverse = true := by kernel_rfl
theorem c_e8 : fnChk prog (envP tt ex5 []) f_edwards_fe_eighth = true := by kernel_rfl
theorem k_inv (a : Nat → Int) : outP (apFunc (envP tt ex5 []) [] 60 f_edwards_fe_inverse [u5 a] []) = some (ckL [bd5 (l5 a), cS_fe3 5 (r5 (ch250x (l5 a))), cM (sqR 5 (r5 (ch250x (l5 a)))) (r5 (ch11 (l5 a)))], u5 (lf (r5 (invV (l5 a))))) := by kernel_rfl
theorem k_e8 (a : Nat → Int) : outP (apFunc (envP tt ex5 []) [] 60 f_edwards_fe_eighth [u5 a] []) = some (ckL [bd5 (l5 a), cS_fe3 2 (r5 (ch250x (l5 a))), cM (sqR 2 (r5 (ch250x (l5 a)))) (l5 a)], u5 (lf (r5 (e8V (l5 a))))) := by kernel_rfl
def tInv : TF := fun args => match args with
  | [.agg [.ints .u64 5 a]] => some (bd5 (l5 a), u5 (lf (r5 (invV (l5 a)))))
  | _ => none
def tE8 : TF := fun args => match args with
  | [.agg [.ints .u64 5 a]] => some (bd5 (l5 a), u5 (lf (r5 (e8V (l5 a)))))
  | _ => none
theorem r_inv : TRow prog F_edwards_fe_inverse tInv := by
  intro args r h
  unfold tInv at h
  split at h
  case h_2 => simp at h
  rename_i a
  simp only [Option.some.injEq, Prod.mk.injEq] at h
  obtain ⟨ha, rfl⟩ := h
  obtain ⟨h2, h9, h11, h5, h10, h20, h40, h50, h100, h200, h250⟩ := ch_bd ha
  refine pure_of_out X5 at_edwards_fe_inverse c_inv (N := 60) (gs := []) ?_
  have e := k_inv a
  rw [ha, cS_t (a := r5 (ch250x (l5 a))) h250 (by decide), cM_t (sqR_bd 5 (a := r5 (ch250x (l5 a))) h250) (b := r5 (ch11 (l5 a))) h11] at e
  exact e
theorem r_e8 : TRow prog F_edwards_fe_eighth tE8 := by
  intro args r h
  unfold tE8 at h
  split at h
  case h_2 => simp at h
  rename_i a
  simp only [Option.some.injEq, Prod.mk.injEq] at h
  obtain ⟨ha, rfl⟩ := h
  obtain ⟨h2, h9, h11, h5, h10, h20, h40, h50, h100, h200, h250⟩ := ch_bd ha
  refine pure_of_out X5 at_edwards_fe_eighth c_e8 (N := 60) (gs := []) ?_
  have e := k_e8 a
  rw [ha, cS_t (a := r5 (ch250x (l5 a))) h250 (by decide), cM_t (sqR_bd 2 (a := r5 (ch250x (l5 a))) h250) ha] at e
  exact e
noncomputable def ex6 : List (Nat × TF) := (F_edwards_fe_eighth, tE8) :: (F_edwards_fe_inverse, tInv) :: ex5
theorem X6 : LibOK prog tt ex6 [] := (X5.addT r_inv).addT r_e8
end Go.Proofs.YtbogcehngfjlkabGreat
namespace Go.Proofs.YtbogcehngfjlkabGreat
open Go.Proofs.Tryz
open Go Go.AM
def rmL : List Int := loadL 19681161376707505956807079304988542015446066515923890162744021073123829784752
def tRm : TF := fun args => match args with
  | [] => some (true, u5 (lf rmL))
  | _ => none
theorem c_rm : fnChk prog (envP tt ex6 []) f_edwards_rootOfMinus1 = true := by kernel_rfl
theorem r_rm : TRow prog F_edwards_rootOfMinus1 tRm := by
  intro args r h
  unfold tRm at h
  split at h
  case h_2 => simp at h
  simp only [Option.some.injEq, Prod.mk.injEq, true_and] at h
  subst h
  exact pure_of_out X6 at_edwards_rootOfMinus1 c_rm (N := 60) (gs := []) (by kernel_rfl)
noncomputable def ex7 : List (Nat × TF) := (F_edwards_rootOfMinus1, tRm) :: ex6
theorem X7 : LibOK prog tt ex7 [] := X6.addT r_rm
def iM : Int := 19681161376707505956807079304988542015446066515923890162744021073123829784752
theorem rm_law : bd5 rmL = true ∧ fm rmL = iM := by
  obtain ⟨h1, h2⟩ := loadL_law (v := iM) (by decide)
  exact ⟨h1, h2.trans (by decide)⟩
def rv3 (V : List Int) : List Int := mR (mR V V) V
def rw7 (U V : List Int) : List Int := mR U (mR (mR (rv3 V) (rv3 V)) V)
def rx0 (U V : List Int) : List Int := mR (mR U (rv3 V)) (r5 (e8V (r5 (rw7 U V))))
def rxk (U V : List Int) : Nat → List Int
  | 0 => rx0 U V
  | k + 1 => mR (rxk U V k) rmL
def rok (U V x : List Int) : Bool := decide (fm (r5 (mR V (mR x x))) = fm (r5 U))
theorem rx0_bd {U V : List Int} (hu : bd5 U = true) (hv : bd5 V = true) : bd5 (rv3 V) = true ∧ bd5 (rw7 U V) = true ∧ bd5 (rx0 U V) = true := by
  have h3 := mR_bd (mR_bd hv hv) hv
  have h7 := mR_bd hu (mR_bd (mR_bd h3 h3) hv)
  exact ⟨h3, h7, mR_bd (mR_bd hu h3) (b := r5 (e8V (r5 (rw7 U V)))) (e8V_law (a := r5 (rw7 U V)) h7).1⟩
theorem rxk_bd {U V : List Int} (hu : bd5 U = true) (hv : bd5 V = true) : ∀ k, bd5 (rxk U V k) = true
  | 0 => (rx0_bd hu hv).2.2
  | k + 1 => mR_bd (rxk_bd hu hv k) rm_law.1
noncomputable abbrev rtE : EnvP := envP tt ex7 []
noncomputable def rtB : Code := match f_edwards_root.body with | some c => (match bodiesOf 0 c with | [.loop b] => b | _ => .skip) | none => .skip
def rtS (u v : Nat → Int) (i : Int) (x : Nat → Int) : St := ⟨tmOf [(2, .sc (.ptr 0 5 0 0 5)), (3, .sc (.ptr 1 5 0 0 5)), (4, .sc (.ptr 2 5 0 0 5)), (7, .sc (.ptr 4 5 0 0 5)), (23, .sc (.int .i64 i))] 37 0,
  [some (.ints .u64 5 1 (fun _ d => u d)), some (.ints .u64 5 1 (fun _ d => v d)), some (.ints .u64 5 1 (fun _ _ => 0)), none, some (.ints .u64 5 1 (fun _ d => x d))]⟩
def rtT1 (x : Nat → Int) : St := ⟨tmOf [(4, .sc (.ptr 2 5 0 0 5)), (5, .sc (.bool true))] 37 0, [none, none, some (.ints .u64 5 1 (fun _ d => x d)), none, none]⟩
def rtT2 (x : Nat → Int) : St := ⟨tmOf [(4, .sc (.ptr 2 5 0 0 5)), (7, .sc (.ptr 4 5 0 0 5))] 37 0, [none, none, some (.ints .u64 5 1 (fun _ _ => 0)), none, some (.ints .u64 5 1 (fun _ d => x d))]⟩
def rtCk (U V X : List Int) (g : Bool) : List Bool := [cQ X, cM V (mR X X), (bd5 (r5 (mR V (mR X X))) && bd5 (r5 U)) && (rok U V X == g)]
theorem rt_round (u v : Nat → Int) (i i' : Int) (x x' : Nat → Int) : roundR rtE [(24, true), (30, false)] 5 5 [] rtB (rtS u v i x) .normal (rtS u v i' x') =
    some (ckL ([decide (i < 2) == true] ++ rtCk (l5 u) (l5 v) (l5 x) false ++ [cM (l5 x) rmL]) && stR (rnm 5 []) (rtS u v (wr .i64 (i + 1)) (lf (mR (l5 x) rmL))) (rtS u v i' x')) := by kernel_rfl
theorem rt_ret (u v : Nat → Int) (i : Int) (x x' : Nat → Int) : roundR rtE [(24, true), (30, true)] 5 5 [] rtB (rtS u v i x) .ret (rtT1 x') =
    some (ckL ([decide (i < 2) == true] ++ rtCk (l5 u) (l5 v) (l5 x) true) && stR (rnm 5 []) (rtT1 x) (rtT1 x')) := by kernel_rfl
theorem rt_exit (u v : Nat → Int) (i : Int) (x x' : Nat → Int) : roundR rtE [(24, false)] 5 5 [] rtB (rtS u v i x) (.exit 0) (rtT2 x') =
    some (ckL [decide (i < 2) == false] && stR (rnm 5 []) (rtT2 x) (rtT2 x')) := by kernel_rfl
theorem rt_same {u v : Nat → Int} {i i' : Int} {f g : Nat → Int} (hv : i = i') (h : ∀ d, d < 5 → f d = g d) : stR (rnm 5 []) (rtS u v i f) (rtS u v i' g) = true := by
  subst hv
  have e : eqF 1 5 (fun _ d => f d) (fun _ d => g d) = true := eqF_of fun r _ d hd => h d hd
  simp [stR, rtS, tmOf, tmR, avR, svR, rIs, rnm, kEq_refl, eqF_refl, hpR, blkR, ndR, e]
  decide
theorem rt_same1 {f g : Nat → Int} (h : ∀ d, d < 5 → f d = g d) : stR (rnm 5 []) (rtT1 f) (rtT1 g) = true := by
  have e : eqF 1 5 (fun _ d => f d) (fun _ d => g d) = true := eqF_of fun r _ d hd => h d hd
  simp [stR, rtT1, tmOf, tmR, avR, svR, rIs, rnm, kEq_refl, eqF_refl, hpR, blkR, ndR, e]
theorem rt_same2 {f g : Nat → Int} (h : ∀ d, d < 5 → f d = g d) : stR (rnm 5 []) (rtT2 f) (rtT2 g) = true := by
  have e : eqF 1 5 (fun _ d => f d) (fun _ d => g d) = true := eqF_of fun r _ d hd => h d hd
  simp [stR, rtT2, tmOf, tmR, avR, svR, rIs, rnm, kEq_refl, eqF_refl, hpR, blkR, ndR, e]
  decide
def rtW (u v : Nat → Int) (k : Nat) : St := rtS u v k (lf (rxk (l5 u) (l5 v) k))
def rtCd (u v : Nat → Int) : Bool := bd5 (l5 u) && bd5 (l5 v)
def rtM (u v : Nat → Int) : Nat := bif rok (l5 u) (l5 v) (r5 (rxk (l5 u) (l5 v) 0)) then 0 else bif rok (l5 u) (l5 v) (r5 (rxk (l5 u) (l5 v) 1)) then 1 else 2
def rtFr (u v : Nat → Int) : LF := famA 5 [] (rtW u v 0) (rtCd u v && Nat.ble (rtM u v) 1) .ret (rtT1 (lf (rxk (l5 u) (l5 v) (rtM u v))))
def rtFx (u v : Nat → Int) : LF := famA 5 [] (rtW u v 0) (rtCd u v && Nat.beq (rtM u v) 2) .normal (rtT2 (lf (rxk (l5 u) (l5 v) 2)))
theorem rt_body : f_edwards_root.body.map (bodiesOf 0) = some [.loop rtB] := by kernel_rfl
theorem rt_ok : codeOK prog rtE.env.isW rtB = true := by kernel_rfl
theorem rtCk_law {U V X : List Int} {g : Bool} (hu : bd5 U = true) (hv : bd5 V = true) (hx : bd5 X = true) (hg : rok U V X = g) : rtCk U V X g = [true, true, true] := by
  subst hg
  have h := mR_bd hv (mR_bd hx hx)
  unfold rtCk
  rw [cQ_t hx, cM_t hv (mR_bd hx hx), show bd5 (r5 (mR V (mR X X))) = true from h, show bd5 (r5 U) = true from hu, beq_self_eq_true]; rfl
theorem rt_not (u v : Nat → Int) (k : Nat) (hk : k < rtM u v) : rok (l5 u) (l5 v) (r5 (rxk (l5 u) (l5 v) k)) = false := by
  unfold rtM at hk
  cases h0 : rok (l5 u) (l5 v) (r5 (rxk (l5 u) (l5 v) 0)) with
  | true => rw [h0] at hk; exact absurd hk (Nat.not_lt_zero _)
  | false =>
    rw [h0] at hk
    cases h1 : rok (l5 u) (l5 v) (r5 (rxk (l5 u) (l5 v) 1)) with
    | true =>
      rw [h1] at hk
      obtain rfl : k = 0 := by have : k < 1 := hk; omega
      exact h0
    | false =>
      rw [h1] at hk
      have : k < 2 := hk
      match k, this with
      | 0, _ => exact h0
      | 1, _ => exact h1
theorem rtM_le (u v : Nat → Int) : rtM u v ≤ 2 := by
  unfold rtM
  cases rok (l5 u) (l5 v) (r5 (rxk (l5 u) (l5 v) 0)) <;> cases rok (l5 u) (l5 v) (r5 (rxk (l5 u) (l5 v) 1)) <;> decide
theorem rt_yes (u v : Nat → Int) (h : rtM u v ≤ 1) : rok (l5 u) (l5 v) (r5 (rxk (l5 u) (l5 v) (rtM u v))) = true := by
  unfold rtM at h ⊢
  cases h0 : rok (l5 u) (l5 v) (r5 (rxk (l5 u) (l5 v) 0)) with
  | true => exact h0
  | false =>
    rw [h0] at h
    cases h1 : rok (l5 u) (l5 v) (r5 (rxk (l5 u) (l5 v) 1)) with
    | true => exact h1
    | false => rw [h1] at h; exact absurd h (by decide)
theorem rt_step {u v : Nat → Int} (hu : bd5 (l5 u) = true) (hv : bd5 (l5 v) = true) (k : Nat) (hk : k < rtM u v) : ∃ s1 r, am rtE.env 5 rtB (rtW u v k) = some (.normal, s1) ∧ StLeR r s1 (rtW u v (k + 1)) ∧ ∀ i, i < 5 → r i = some i := by
  have hm := rtM_le u v
  refine roundR_toR (rt_round u v k ((k + 1 : Nat) : Int) (lf (rxk (l5 u) (l5 v) k)) (lf (rxk (l5 u) (l5 v) (k + 1)))) ?_
  refine and_t.2 ⟨?_, rt_same ((wr_i64 (by omega) (by omega)).trans (by omega)) fun d _ => rfl⟩
  have hx : bd5 (r5 (rxk (l5 u) (l5 v) k)) = true := rxk_bd hu hv k
  rw [show l5 (lf (rxk (l5 u) (l5 v) k)) = r5 (rxk (l5 u) (l5 v) k) from rfl, rtCk_law hu hv hx (rt_not u v k hk), cM_t hx rm_law.1, decide_eq_true (show (k : Int) < 2 by omega)]
  rfl
theorem l_rtr (u v : Nat → Int) : LRow prog f_edwards_root 0 (rtFr u v) := by
  refine LRow.famA (N := 5) (S := rtW u v) (X7.env []) mix (rtM u v) (loop_of rt_body) rt_ok (fun w0 own0 => accOK_none (fun id => rfl) rtB) (fun _ _ => Nat.le_refl _) (Nat.le_refl _) fun hck => ?_
  simp only [Bool.and_eq_true, rtCd, ble_t] at hck
  obtain ⟨⟨hu, hv⟩, hm⟩ := hck
  refine ⟨fun k hk => rt_step hu hv k hk, ?_⟩
  have hx : bd5 (r5 (rxk (l5 u) (l5 v) (rtM u v))) = true := rxk_bd hu hv _
  obtain ⟨s1, r, q1, q2, q3⟩ := roundR_toR (n := 5) (rt_ret u v (rtM u v) (lf (rxk (l5 u) (l5 v) (rtM u v))) (lf (rxk (l5 u) (l5 v) (rtM u v)))) (by
    refine and_t.2 ⟨?_, rt_same1 fun d _ => rfl⟩
    rw [show l5 (lf (rxk (l5 u) (l5 v) (rtM u v))) = r5 (rxk (l5 u) (l5 v) (rtM u v)) from rfl, rtCk_law hu hv hx (rt_yes u v hm), decide_eq_true (show ((rtM u v : Nat) : Int) < 2 by omega)]
    rfl)
  exact ⟨_, s1, r, q1, rfl, q2, q3⟩
theorem l_rtx (u v : Nat → Int) : LRow prog f_edwards_root 0 (rtFx u v) := by
  refine LRow.famA (N := 5) (S := rtW u v) (X7.env []) mix (rtM u v) (loop_of rt_body) rt_ok (fun w0 own0 => accOK_none (fun id => rfl) rtB) (fun _ _ => Nat.le_refl _) (Nat.le_refl _) fun hck => ?_
  simp only [Bool.and_eq_true, rtCd, beq_t] at hck
  obtain ⟨⟨hu, hv⟩, hm⟩ := hck
  refine ⟨fun k hk => rt_step hu hv k hk, ?_⟩
  rw [hm]
  obtain ⟨s1, r, q1, q2, q3⟩ := roundR_toR (n := 5) (rt_exit u v 2 (lf (rxk (l5 u) (l5 v) 2)) (lf (rxk (l5 u) (l5 v) 2))) (by
    refine and_t.2 ⟨rfl, rt_same2 fun d _ => rfl⟩)
  exact ⟨_, s1, r, q1, rfl, q2, q3⟩
def rtCk0 (U V : List Int) : List Bool := [cQ V, cM (mR V V) V, cM U (rv3 V), cQ (rv3 V), cM (mR (rv3 V) (rv3 V)) V, cM U (mR (mR (rv3 V) (rv3 V)) V), bd5 (r5 (rw7 U V)), cM (mR U (rv3 V)) (r5 (e8V (r5 (rw7 U V))))]
theorem c_rtr (u v : Nat → Int) : fnChk prog (envL tt ex7 [] [(0, rtFr u v)]) f_edwards_root = true := by kernel_rfl
theorem c_rtx (u v : Nat → Int) : fnChk prog (envL tt ex7 [] [(0, rtFx u v)]) f_edwards_root = true := by kernel_rfl
theorem k_rtr (u v : Nat → Int) : outP (apFunc (envL tt ex7 [] [(0, rtFr u v)]) [] 5 f_edwards_root [u5 u, u5 v] []) =
    some (ckL (rtCk0 (l5 u) (l5 v) ++ [(rtCd u v && Nat.ble (rtM u v) 1) && stR (rnm 5 []) (rtS u v 0 (lf (rx0 (l5 u) (l5 v)))) (rtW u v 0)]), .tup [u5 (lf (r5 (rxk (l5 u) (l5 v) (rtM u v)))), .sc (.bool true)]) := by kernel_rfl
theorem k_rtx (u v : Nat → Int) : outP (apFunc (envL tt ex7 [] [(0, rtFx u v)]) [] 5 f_edwards_root [u5 u, u5 v] []) =
    some (ckL (rtCk0 (l5 u) (l5 v) ++ [(rtCd u v && Nat.beq (rtM u v) 2) && stR (rnm 5 []) (rtS u v 0 (lf (rx0 (l5 u) (l5 v)))) (rtW u v 0)]), .tup [u5 (lf (r5 (rxk (l5 u) (l5 v) 2))), .sc (.bool false)]) := by kernel_rfl
theorem rtCk0_law {U V : List Int} (hu : bd5 U = true) (hv : bd5 V = true) : rtCk0 U V = List.replicate 8 true := by
  obtain ⟨h3, h7, hx⟩ := rx0_bd hu hv
  unfold rtCk0
  rw [cQ_t hv, cM_t (mR_bd hv hv) hv, cM_t hu h3, cQ_t h3, cM_t (mR_bd h3 h3) hv, cM_t hu (mR_bd (mR_bd h3 h3) hv), show bd5 (r5 (rw7 U V)) = true from h7, cM_t (mR_bd hu h3) (b := r5 (e8V (r5 (rw7 U V)))) (e8V_law (a := r5 (rw7 U V)) h7).1]
  rfl
def tRoot : TF := fun args => match args with
  | [.agg [.ints .u64 5 u], .agg [.ints .u64 5 v]] => some (rtCd u v, .tup [u5 (lf (r5 (rxk (l5 u) (l5 v) (rtM u v)))), .sc (.bool (Nat.ble (rtM u v) 1))])
  | _ => none
theorem r_root : TRow prog F_edwards_root tRoot := by
  intro args r h
  unfold tRoot at h
  split at h
  case h_2 => simp at h
  rename_i u v
  simp only [Option.some.injEq, Prod.mk.injEq] at h
  obtain ⟨hc, rfl⟩ := h
  have hc' := hc
  simp only [Bool.and_eq_true, rtCd] at hc'
  obtain ⟨hu, hv⟩ := hc'
  have hs : stR (rnm 5 []) (rtS u v 0 (lf (rx0 (l5 u) (l5 v)))) (rtW u v 0) = true := rt_same rfl fun d _ => rfl
  have hm := rtM_le u v
  by_cases e : rtM u v ≤ 1
  · refine pure_of_outL X7 at_edwards_root (LsOK.nil.cons (l_rtr u v)) (c_rtr u v) (N := 5) (gs := []) ?_
    have k := k_rtr u v
    have hb : Nat.ble (rtM u v) 1 = true := Nat.ble_eq_true_of_le e
    rw [rtCk0_law hu hv, hc, hb, hs] at k
    rw [hb]
    exact k
  · have e2 : rtM u v = 2 := by omega
    refine pure_of_outL X7 at_edwards_root (LsOK.nil.cons (l_rtx u v)) (c_rtx u v) (N := 5) (gs := []) ?_
    have k := k_rtx u v
    rw [rtCk0_law hu hv, hc, e2, hs] at k
    rw [e2]
    exact k
noncomputable def ex8 : List (Nat × TF) := (F_edwards_root, tRoot) :: ex7
theorem X8 : LibOK prog tt ex8 [] := X7.addT r_root
end Go.Proofs.YtbogcehngfjlkabGreat
namespace Go.Proofs.YtbogcehngfjlkabGreat
open Go.Proofs.Tryz
open Go Go.AM
def idP : List Int := [0, 0, 0, 0, 0, 1, 0, 0, 0, 0, 1, 0, 0, 0, 0, 0, 0, 0, 0, 0]
theorem idP_law : bdP (lf idP) = true ∧ vP (lf idP) = idS4 := by decide
def tIdent : TF := fun args => match args with
  | [] => some (true, pt (lf idP))
  | _ => none
theorem c_ident : fnChk prog (envP tt ex8 []) f_edwards_identity = true := by kernel_rfl
theorem r_ident : TRow prog F_edwards_identity tIdent := by
  intro args r h
  unfold tIdent at h
  split at h
  case h_2 => simp at h
  simp only [Option.some.injEq, Prod.mk.injEq, true_and] at h
  subst h
  exact pure_of_out X8 at_edwards_identity c_ident (N := 60) (gs := []) (by kernel_rfl)
noncomputable def ex9 : List (Nat × TF) := (F_edwards_identity, tIdent) :: ex8
theorem X9 : LibOK prog tt ex9 [] := X8.addT r_ident
def tbV (p : Nat → Int) : Nat → List Int
  | 0 => idP
  | j + 1 => ptAdd (lf (tbV p j)) p
theorem tbV_bd {p : Nat → Int} (h : bdP p = true) : ∀ j, bdP (lf (tbV p j)) = true
  | 0 => idP_law.1
  | j + 1 => (ptAdd_law (tbV_bd h j) h).1
def tbS (p : Q4) : Nat → Q4
  | 0 => idS4
  | j + 1 => addS (tbS p j) p
theorem tbV_law {p : Nat → Int} (h : bdP p = true) : ∀ j, vP (lf (tbV p j)) = tbS (vP p) j
  | 0 => idP_law.2
  | j + 1 => by
    show vP (lf (ptAdd (lf (tbV p j)) p)) = _
    rw [(ptAdd_law (tbV_bd h j) h).2, tbV_law h j]; rfl
noncomputable abbrev tmE : EnvP := envP tt ex9 []
noncomputable def tm0B : Code := match f_edwards_point_times.body with | some c => (match bodiesOf 0 c with | [.loop b] => b | _ => .skip) | none => .skip
noncomputable def tm2B : Code := match f_edwards_point_times.body with | some c => (match bodiesOf 2 c with | [.loop b] => b | _ => .skip) | none => .skip
def tm0S (p s : Nat → Int) (v : Int) (T : Nat → Int) : St := ⟨tmOf [(2, .sc (.ptr 0 20 0 0 20)), (3, .sc (.ptr 1 32 0 0 32)), (4, .sc (.ptr 2 20 0 0 20)), (5, .sc (.ptr 3 320 0 0 320)), (12, .sc (.int .i64 v))] 51 0,
  [some (.ints .u64 20 1 (fun _ d => p d)), some (.ints .u8 32 1 (fun _ d => s d)), some (.ints .u64 20 1 (fun _ _ => 0)), some (.ints .u64 320 1 (fun _ d => T d))]⟩
def tm0T (p s : Nat → Int) (T : Nat → Int) : St := ⟨tmOf [(2, .sc (.ptr 0 20 0 0 20)), (3, .sc (.ptr 1 32 0 0 32)), (4, .sc (.ptr 2 20 0 0 20)), (5, .sc (.ptr 3 320 0 0 320))] 51 0,
  [some (.ints .u64 20 1 (fun _ d => p d)), some (.ints .u8 32 1 (fun _ d => s d)), some (.ints .u64 20 1 (fun _ _ => 0)), some (.ints .u64 320 1 (fun _ d => T d))]⟩
def put20 (T g : Nat → Int) (c : Nat) : Nat → Int := fun d => bif Nat.ble c d && Nat.ble (d + 1) (c + 20) then g (d - c) else T d
def tmA (v : Int) : Nat := 0 + (wr .i64 (v + 1)).toNat * 20
def tmG (p T : Nat → Int) (v : Int) : List Int := ptAdd (fun j => T (0 + v.toNat * 20 + j)) (fun j => p (0 + j))
theorem tm0_round (p s : Nat → Int) (v v' : Int) (T T' : Nat → Int) : roundR tmE [(13, true)] 5 4 [] tm0B (tm0S p s v T) .normal (tm0S p s v' T') =
    some (ckL [decide (v < 15) == true, inR v 16, chkP (fun j => T (0 + v.toNat * 20 + j)) && chkP (fun j => p (0 + j)), inR (wr .i64 (v + 1)) 16] && stR (rnm 4 []) (tm0S p s (wr .i64 (v + 1)) (put20 T (lf (tmG p T v)) (tmA v))) (tm0S p s v' T')) := by kernel_rfl
theorem tm0_exit (p s : Nat → Int) (v : Int) (T T' : Nat → Int) : roundR tmE [(13, false)] 5 4 [] tm0B (tm0S p s v T) (.exit 0) (tm0T p s T') =
    some (ckL [decide (v < 15) == false] && stR (rnm 4 []) (tm0T p s T) (tm0T p s T')) := by kernel_rfl
def tbF (p : Nat → Int) (k : Nat) : Nat → Int := fun d => bif Nat.ble (d + 1) (20 * (k + 1)) then lf (tbV p (d / 20)) (d % 20) else 0
theorem ble_ff {a b : Nat} (h : b < a) : Nat.ble a b = false := by
  cases hb : Nat.ble a b with
  | false => rfl
  | true => have := Nat.le_of_ble_eq_true hb; omega
theorem tbF_lt {p : Nat → Int} {k d : Nat} (h : d < 20 * (k + 1)) : tbF p k d = lf (tbV p (d / 20)) (d % 20) := by
  unfold tbF; rw [Nat.ble_eq_true_of_le h]; rfl
theorem tbF_ge {p : Nat → Int} {k d : Nat} (h : 20 * (k + 1) ≤ d) : tbF p k d = 0 := by
  unfold tbF; rw [ble_ff (by omega)]; rfl
theorem tb_ext {p q : Nat → Int} (h : ∀ d, d < 20 → p d = q d) : px p = px q ∧ py p = py q ∧ pz p = pz q ∧ pT p = pT q := by
  simp only [px, py, pz, pT, h 0 (by omega), h 1 (by omega), h 2 (by omega), h 3 (by omega), h 4 (by omega), h 5 (by omega), h 6 (by omega), h 7 (by omega), h 8 (by omega), h 9 (by omega), h 10 (by omega), h 11 (by omega), h 12 (by omega), h 13 (by omega), h 14 (by omega), h 15 (by omega), h 16 (by omega), h 17 (by omega), h 18 (by omega), h 19 (by omega), and_self]
theorem ptAdd_ext {p q p' q' : Nat → Int} (h : ∀ d, d < 20 → p d = p' d) (h' : ∀ d, d < 20 → q d = q' d) : ptAdd p q = ptAdd p' q' := by
  obtain ⟨e1, e2, e3, e4⟩ := tb_ext h
  obtain ⟨f1, f2, f3, f4⟩ := tb_ext h'
  unfold ptAdd
  rw [e1, e2, e3, e4, f1, f2, f3, f4]
theorem chkP_ext {p p' : Nat → Int} (h : ∀ d, d < 20 → p d = p' d) : chkP p = chkP p' := by
  obtain ⟨e1, e2, e3, e4⟩ := tb_ext h
  unfold chkP
  rw [e1, e2, e3, e4]
theorem tm_row {p : Nat → Int} {k j : Nat} (hj : j ≤ k) : ∀ d, d < 20 → tbF p k (20 * j + d) = lf (tbV p j) d := fun d hd => by
  rw [tbF_lt (by omega), show (20 * j + d) / 20 = j by omega, show (20 * j + d) % 20 = d by omega]
theorem tm0_same {p s : Nat → Int} {v v' : Int} {T T' : Nat → Int} (hv : v = v') (h : ∀ d, d < 320 → T d = T' d) : stR (rnm 4 []) (tm0S p s v T) (tm0S p s v' T') = true := by
  subst hv
  have e : eqF 1 320 (fun _ d => T d) (fun _ d => T' d) = true := eqF_of fun r _ d hd => h d hd
  simp [stR, tm0S, tmOf, tmR, avR, svR, rIs, rnm, kEq_refl, eqF_refl, hpR, blkR, ndR, e]
  decide
theorem tm0_sameT {p s : Nat → Int} {T T' : Nat → Int} (h : ∀ d, d < 320 → T d = T' d) : stR (rnm 4 []) (tm0T p s T) (tm0T p s T') = true := by
  have e : eqF 1 320 (fun _ d => T d) (fun _ d => T' d) = true := eqF_of fun r _ d hd => h d hd
  simp [stR, tm0T, tmOf, tmR, avR, svR, rIs, rnm, kEq_refl, eqF_refl, hpR, blkR, ndR, e]
  decide
def tm0W (p s : Nat → Int) (k : Nat) : St := tm0S p s k (tbF p k)
def tm0F (p s : Nat → Int) : LF := famA 4 [] (tm0W p s 0) (bdP p) .normal (tm0T p s (tbF p 15))
theorem tm0_body : f_edwards_point_times.body.map (bodiesOf 0) = some [.loop tm0B] := by kernel_rfl
theorem tm0_ok : codeOK prog tmE.env.isW tm0B = true := by kernel_rfl
theorem l_tm0 (p s : Nat → Int) : LRow prog f_edwards_point_times 0 (tm0F p s) := by
  refine LRow.famA (N := 5) (S := tm0W p s) (X9.env []) mix 15 (loop_of tm0_body) tm0_ok (fun w0 own0 => accOK_none (fun id => rfl) tm0B) (fun _ _ => Nat.le_refl _) (Nat.le_refl _) fun hp => ?_
  refine ⟨fun k hk => ?_, ?_⟩
  · refine roundR_toR (tm0_round p s k ((k + 1 : Nat) : Int) (tbF p k) (tbF p (k + 1))) ?_
    have e1 : wr .i64 ((k : Int) + 1) = ((k + 1 : Nat) : Int) := (wr_i64 (by omega) (by omega)).trans (by omega)
    have hrow : ∀ d, d < 20 → tbF p k (0 + (k : Int).toNat * 20 + d) = lf (tbV p k) d := fun d hd => by
      rw [show 0 + (k : Int).toNat * 20 + d = 20 * k + d by omega]; exact tm_row (Nat.le_refl k) d hd
    have hp0 : ∀ d, d < 20 → p (0 + d) = p d := fun d _ => by rw [Nat.zero_add]
    refine and_t.2 ⟨?_, tm0_same e1 fun d hd => ?_⟩
    · rw [chkP_ext hrow, bdP_chk (tbV_bd hp k), chkP_ext hp0, bdP_chk hp, e1, inR_lt (show k < 16 by omega), inR_lt (show k + 1 < 16 by omega), decide_eq_true (show (k : Int) < 15 by omega)]
      rfl
    · have eA : tmA (k : Int) = 20 * (k + 1) := by unfold tmA; rw [e1]; omega
      have eG : tmG p (tbF p k) (k : Int) = tbV p (k + 1) := ptAdd_ext hrow hp0
      unfold put20
      rw [eA, eG]
      by_cases h1 : d < 20 * (k + 1)
      · rw [ble_ff (by omega), tbF_lt h1, tbF_lt (k := k + 1) (by omega)]; rfl
      · rw [Nat.ble_eq_true_of_le (by omega)]
        by_cases h2 : d < 20 * (k + 1) + 20
        · rw [Nat.ble_eq_true_of_le h2, tbF_lt (k := k + 1) (by omega), show d / 20 = k + 1 by omega, show d % 20 = d - 20 * (k + 1) by omega]; rfl
        · rw [ble_ff (a := d + 1) (by omega), tbF_ge (k := k) (by omega), tbF_ge (k := k + 1) (by omega)]; rfl
  · obtain ⟨s1, r, q1, q2, q3⟩ := roundR_toR (n := 4) (tm0_exit p s 15 (tbF p 15) (tbF p 15)) (and_t.2 ⟨rfl, tm0_sameT fun _ _ => rfl⟩)
    exact ⟨_, s1, r, q1, rfl, q2, q3⟩
def nbI (s : Nat → Int) (v : Int) : Int := iand .u8 (ishr .u8 (s (0 + (wr .i64 (v.tdiv 2)).toNat * 1)) (wr .i64 (4 * v.tmod 2))) 15
def tm2S (p s T : Nat → Int) (v : Int) (x : Nat → Int) : St := ⟨tmOf [(3, .sc (.ptr 1 32 0 0 32)), (4, .sc (.ptr 2 20 0 0 20)), (5, .sc (.ptr 3 320 0 0 320)), (7, .sc (.ptr 4 20 0 0 20)), (8, .sc (.int .i64 v))] 51 0,
  [none, some (.ints .u8 32 1 (fun _ d => s d)), some (.ints .u64 20 1 (fun _ _ => 0)), some (.ints .u64 320 1 (fun _ d => T d)), some (.ints .u64 20 1 (fun _ d => x d))]⟩
def tm2T (x : Nat → Int) : St := ⟨tmOf [(4, .sc (.ptr 2 20 0 0 20)), (7, .sc (.ptr 4 20 0 0 20))] 51 0, [none, none, some (.ints .u64 20 1 (fun _ _ => 0)), none, some (.ints .u64 20 1 (fun _ d => x d))]⟩
def dbK (x : Nat → Int) : Nat → Nat → Int
  | 0 => x
  | k + 1 => lf (ptDbl (dbK x k))
def tm2Ck (s x : Nat → Int) (v : Int) : List Bool := [decide (v ≥ 0) == true, chkP (dbK x 0), chkP (dbK x 1), chkP (dbK x 2), chkP (dbK x 3), !decide ((2 : Int) = 0), inR (wr .i64 (v.tdiv 2)) 32, !decide ((2 : Int) = 0), !decide (wr .i64 (4 * v.tmod 2) < 0)]
theorem tm2_roundf (p s T : Nat → Int) (v v' : Int) (x x' : Nat → Int) : roundR tmE [(26, true), (44, false)] 5 5 [] tm2B (tm2S p s T v x) .normal (tm2S p s T v' x') =
    some (ckL (tm2Ck s x v ++ [decide (nbI s v > 0) == false]) && stR (rnm 5 []) (tm2S p s T (wr .i64 (v - 1)) (dbK x 4)) (tm2S p s T v' x')) := by kernel_rfl
theorem tm2_roundt (p s T : Nat → Int) (v v' : Int) (x x' : Nat → Int) : roundR tmE [(26, true), (44, true)] 5 5 [] tm2B (tm2S p s T v x) .normal (tm2S p s T v' x') =
    some (ckL (tm2Ck s x v ++ [decide (nbI s v > 0) == true, inR (nbI s v) 16, chkP (dbK x 4) && chkP (fun j => T (0 + (nbI s v).toNat * 20 + j))]) && stR (rnm 5 []) (tm2S p s T (wr .i64 (v - 1)) (lf (ptAdd (dbK x 4) (fun j => T (0 + (nbI s v).toNat * 20 + j))))) (tm2S p s T v' x')) := by kernel_rfl
theorem tm2_exit (p s T : Nat → Int) (v : Int) (x x' : Nat → Int) : roundR tmE [(26, false)] 5 5 [] tm2B (tm2S p s T v x) (.exit 2) (tm2T x') =
    some (ckL [decide (v ≥ 0) == false] && stR (rnm 5 []) (tm2T x) (tm2T x')) := by kernel_rfl
theorem and15 {x : Int} (h : 0 ≤ x ∧ x < 256) : iand .u8 x 15 = x % 16 := by
  have key : ∀ n : Nat, n < 256 → iand .u8 (n : Int) 15 = (n : Int) % 16 := by decide +kernel
  have := key x.toNat (by omega)
  rwa [Int.toNat_of_nonneg h.1] at this
def nib (s : Nat → Int) (i : Nat) : Int := s (i / 2) / 2 ^ (4 * (i % 2)) % 16
def tmV (p s : Nat → Int) : Nat → List Int
  | 0 => idP
  | k + 1 => bif decide (nib s (63 - k) > 0) then ptAdd (dbK (lf (tmV p s k)) 4) (lf (tbV p (nib s (63 - k)).toNat)) else ptDbl (dbK (lf (tmV p s k)) 3)
def tmSp (q : Q4) (s : Nat → Int) : Nat → Q4
  | 0 => idS4
  | k + 1 => bif decide (nib s (63 - k) > 0) then addS (dblS (dblS (dblS (dblS (tmSp q s k))))) (tbS q (nib s (63 - k)).toNat) else dblS (dblS (dblS (dblS (tmSp q s k))))
theorem dbK_law {x : Nat → Int} (h : bdP x = true) : ∀ k, bdP (dbK x k) = true
  | 0 => h
  | k + 1 => (ptDbl_law (dbK_law h k)).1
theorem dbK_v {x : Nat → Int} (h : bdP x = true) (k : Nat) : vP (dbK x (k + 1)) = dblS (vP (dbK x k)) := (ptDbl_law (dbK_law h k)).2
theorem tmV_law {p : Nat → Int} (hp : bdP p = true) (s : Nat → Int) : ∀ k, bdP (lf (tmV p s k)) = true ∧ vP (lf (tmV p s k)) = tmSp (vP p) s k
  | 0 => idP_law
  | k + 1 => by
    obtain ⟨h1, h2⟩ := tmV_law hp s k
    have e4 : vP (dbK (lf (tmV p s k)) 4) = dblS (dblS (dblS (dblS (tmSp (vP p) s k)))) := by
      rw [dbK_v h1, dbK_v h1, dbK_v h1, dbK_v h1]
      show dblS (dblS (dblS (dblS (vP (lf (tmV p s k)))))) = _
      rw [h2]
    unfold tmV tmSp
    cases decide (nib s (63 - k) > 0) with
    | true =>
      obtain ⟨q1, q2⟩ := ptAdd_law (dbK_law h1 4) (tbV_bd hp (nib s (63 - k)).toNat)
      exact ⟨q1, by show vP (lf (ptAdd _ _)) = _; rw [q2, e4, tbV_law hp]; rfl⟩
    | false => exact ⟨dbK_law h1 4, e4⟩
theorem nbI_law {s : Nat → Int} (hs : areB s 32 0 = true) {i : Nat} (hi : i < 64) : nbI s (i : Int) = nib s i ∧ inR (wr .i64 ((i : Int).tdiv 2)) 32 = true ∧ (!decide (wr .i64 (4 * (i : Int).tmod 2) < 0)) = true ∧ 0 ≤ nib s i ∧ nib s i < 16 := by
  have e1 : (i : Int).tdiv 2 = ((i / 2 : Nat) : Int) := by rw [Int.tdiv_eq_ediv_of_nonneg (by omega)]; omega
  have e2 : (i : Int).tmod 2 = ((i % 2 : Nat) : Int) := by rw [Int.tmod_eq_emod_of_nonneg (by omega)]; omega
  have e3 : wr .i64 ((i / 2 : Nat) : Int) = ((i / 2 : Nat) : Int) := wr_i64 (by omega) (by omega)
  have e4 : wr .i64 (4 * ((i % 2 : Nat) : Int)) = ((4 * (i % 2) : Nat) : Int) := (wr_i64 (by omega) (by omega)).trans (by omega)
  have hb := areB_t hs (i / 2) (by omega)
  rw [Nat.zero_add] at hb
  have hsh : ishr .u8 (s (i / 2)) ((4 * (i % 2) : Nat) : Int) = s (i / 2) / 2 ^ (4 * (i % 2)) := by
    unfold ishr
    rw [Int.toNat_natCast, show min (4 * (i % 2)) IntKind.u8.bits = 4 * (i % 2) by show min (4 * (i % 2)) 8 = _; omega, Int.fdiv_eq_ediv_of_nonneg _ (Int.le_of_lt (Int.pow_pos (by decide)))]
  have hx : ∀ x : Int, 0 ≤ x ∧ x < 256 → iand .u8 x 15 = x % 16 := fun x hx => and15 hx
  have hr : 0 ≤ s (i / 2) / 2 ^ (4 * (i % 2)) ∧ s (i / 2) / 2 ^ (4 * (i % 2)) < 256 := by
    have hm : i % 2 = 0 ∨ i % 2 = 1 := by omega
    rcases hm with h | h <;> rw [h] <;> simp only [Nat.mul_zero, Nat.mul_one] <;> omega
  refine ⟨?_, ?_, ?_, ?_⟩
  · unfold nbI nib
    rw [e1, e2, e3, e4, show 0 + ((i / 2 : Nat) : Int).toNat * 1 = i / 2 by omega, hsh, hx _ hr]
  · rw [e1, e3]; exact inR_lt (by omega)
  · rw [e2, e4, decide_eq_false (by omega)]; rfl
  · unfold nib
    generalize s (i / 2) / 2 ^ (4 * (i % 2)) = y
    omega
theorem tm2_same {p s T : Nat → Int} {v v' : Int} {x x' : Nat → Int} (hv : v = v') (h : ∀ d, d < 20 → x d = x' d) : stR (rnm 5 []) (tm2S p s T v x) (tm2S p s T v' x') = true := by
  subst hv
  have e : eqF 1 20 (fun _ d => x d) (fun _ d => x' d) = true := eqF_of fun r _ d hd => h d hd
  simp [stR, tm2S, tmOf, tmR, avR, svR, rIs, rnm, kEq_refl, eqF_refl, hpR, blkR, ndR, e]
  decide
theorem tm2_sameT {x x' : Nat → Int} (h : ∀ d, d < 20 → x d = x' d) : stR (rnm 5 []) (tm2T x) (tm2T x') = true := by
  have e : eqF 1 20 (fun _ d => x d) (fun _ d => x' d) = true := eqF_of fun r _ d hd => h d hd
  simp [stR, tm2T, tmOf, tmR, avR, svR, rIs, rnm, kEq_refl, eqF_refl, hpR, blkR, ndR, e]
  decide
def tm2W (p s : Nat → Int) (k : Nat) : St := tm2S p s (tbF p 15) (63 - (k : Int)) (lf (tmV p s k))
def tm2F (p s : Nat → Int) : LF := famA 5 [] (tm2W p s 0) (bdP p && areB s 32 0) .normal (tm2T (lf (tmV p s 64)))
theorem tm2_body : f_edwards_point_times.body.map (bodiesOf 2) = some [.loop tm2B] := by kernel_rfl
theorem tm2_ok : codeOK prog tmE.env.isW tm2B = true := by kernel_rfl
theorem l_tm2 (p s : Nat → Int) : LRow prog f_edwards_point_times 2 (tm2F p s) := by
  refine LRow.famA (N := 5) (S := tm2W p s) (X9.env []) mix 64 (loop_of tm2_body) tm2_ok (fun w0 own0 => accOK_none (fun id => rfl) tm2B) (fun _ _ => Nat.le_refl _) (Nat.le_refl _) fun hck => ?_
  obtain ⟨hp, hs⟩ := and_t.1 hck
  refine ⟨fun k hk => ?_, ?_⟩
  · have hv : (63 - (k : Int)) = ((63 - k : Nat) : Int) := by omega
    obtain ⟨n1, n2, n3, n4, n5⟩ := nbI_law hs (i := 63 - k) (by omega)
    have hx := (tmV_law hp s k).1
    have e1 : wr .i64 (63 - (k : Int) - 1) = 63 - ((k + 1 : Nat) : Int) := (wr_i64 (by omega) (by omega)).trans (by omega)
    have hck : ∀ l, ckL (tm2Ck s (lf (tmV p s k)) (63 - (k : Int)) ++ l) = ckL l := fun l => by
      unfold tm2Ck
      rw [hv, n2, n3, bdP_chk (dbK_law hx 0), bdP_chk (dbK_law hx 1), bdP_chk (dbK_law hx 2), bdP_chk (dbK_law hx 3), decide_eq_true (show ((63 - k : Nat) : Int) ≥ 0 by omega)]
      rfl
    cases hn : decide (nib s (63 - k) > 0) with
    | false =>
      refine roundR_toR (tm2_roundf p s (tbF p 15) (63 - (k : Int)) (63 - ((k + 1 : Nat) : Int)) (lf (tmV p s k)) (lf (tmV p s (k + 1)))) ?_
      refine and_t.2 ⟨?_, tm2_same e1 fun d _ => ?_⟩
      · rw [hck, hv, n1, hn]; rfl
      · show _ = lf (bif decide (nib s (63 - k) > 0) then _ else _) d
        rw [hn]; rfl
    | true =>
      have hrow : ∀ d, d < 20 → tbF p 15 (0 + (nib s (63 - k)).toNat * 20 + d) = lf (tbV p (nib s (63 - k)).toNat) d := fun d hd => by
        rw [show 0 + (nib s (63 - k)).toNat * 20 + d = 20 * (nib s (63 - k)).toNat + d by omega]; exact tm_row (by omega) d hd
      refine roundR_toR (tm2_roundt p s (tbF p 15) (63 - (k : Int)) (63 - ((k + 1 : Nat) : Int)) (lf (tmV p s k)) (lf (tmV p s (k + 1)))) ?_
      refine and_t.2 ⟨?_, tm2_same e1 fun d _ => ?_⟩
      · rw [hck, hv, n1, hn, bdP_chk (dbK_law hx 4), chkP_ext hrow, bdP_chk (tbV_bd hp _)]
        have : inR (nib s (63 - k)) 16 = true := by simp [inR]; omega
        rw [this]; rfl
      · show _ = lf (bif decide (nib s (63 - k) > 0) then _ else _) d
        rw [hn, hv, n1]
        show lf (ptAdd _ _) d = lf (ptAdd _ _) d
        rw [ptAdd_ext (p := dbK (lf (tmV p s k)) 4) (fun _ _ => rfl) hrow]
  · obtain ⟨s1, r, q1, q2, q3⟩ := roundR_toR (n := 5) (tm2_exit p s (tbF p 15) (-1) (lf (tmV p s 64)) (lf (tmV p s 64))) (and_t.2 ⟨rfl, tm2_sameT fun _ _ => rfl⟩)
    exact ⟨_, s1, r, q1, rfl, q2, q3⟩
noncomputable abbrev tmL (p s : Nat → Int) : EnvP := envL tt ex9 [] [(2, tm2F p s), (0, tm0F p s)]
theorem c_times2 (p s : Nat → Int) : fnChk prog (tmL p s) f_edwards_point_times = true := by kernel_rfl
def r20 (l : List Int) : List Int := tabL (lf l) 20 0
theorem k_times2 (p s : Nat → Int) : outP (apFunc (tmL p s) [] 5 f_edwards_point_times [pt p, u8s 32 s] []) =
    some (ckL [bdP p && stR (rnm 4 []) (tm0S p s 0 (put20 (fun _ => 0) (lf idP) 0)) (tm0W p s 0), (bdP p && areB s 32 0) && stR (rnm 5 []) (tm2S p s (tbF p 15) 63 (lf idP)) (tm2W p s 0)], pt (lf (r20 (tmV p s 64)))) := by kernel_rfl
theorem tbV_ext {p p' : Nat → Int} (h : ∀ d, d < 20 → p d = p' d) : ∀ j, tbV p j = tbV p' j
  | 0 => rfl
  | j + 1 => by
    show ptAdd (lf (tbV p j)) p = ptAdd (lf (tbV p' j)) p'
    rw [tbV_ext h j]
    exact ptAdd_ext (fun _ _ => rfl) h
theorem nib_ext {s s' : Nat → Int} (h : ∀ d, d < 32 → s d = s' d) {i : Nat} (hi : i < 64) : nib s i = nib s' i := by unfold nib; rw [h (i / 2) (by omega)]
theorem tmV_ext {p p' s s' : Nat → Int} (h : ∀ d, d < 20 → p d = p' d) (h' : ∀ d, d < 32 → s d = s' d) : ∀ k, tmV p s k = tmV p' s' k
  | 0 => rfl
  | k + 1 => by
    unfold tmV
    rw [tmV_ext h h' k, nib_ext h' (i := 63 - k) (by omega), tbV_ext h]
def n20 (p : Nat → Int) : Nat → Int := lf (tabL p 20 0)
def n32 (s : Nat → Int) : Nat → Int := lf (tabL s 32 0)
theorem n20_at (p : Nat → Int) (d : Nat) (h : d < 20) : p d = n20 p d := by
  have := lf_tab p 20 0 d h
  rw [Nat.zero_add] at this
  exact this.symm
theorem n32_at (s : Nat → Int) (d : Nat) (h : d < 32) : s d = n32 s d := by
  have := lf_tab s 32 0 d h
  rw [Nat.zero_add] at this
  exact this.symm
def tTimes2 : TF := fun args => match args with
  | [.agg [.ints .u64 20 p], .agg [.ints .u8 32 s]] => some (bdP p && areB s 32 0, pt (lf (r20 (tmV (n20 p) (n32 s) 64))))
  | _ => none
theorem r_times2 : TRow prog F_edwards_point_times tTimes2 := by
  intro args r h
  unfold tTimes2 at h
  split at h
  case h_2 => simp at h
  rename_i p s
  simp only [Option.some.injEq, Prod.mk.injEq] at h
  obtain ⟨hc, rfl⟩ := h
  obtain ⟨hp, hs⟩ := and_t.1 hc
  rw [← tmV_ext (n20_at p) (n32_at s)]
  refine pure_of_outL X9 at_edwards_point_times ((LsOK.nil.cons (l_tm0 p s)).cons (l_tm2 p s)) (c_times2 p s) (N := 5) (gs := []) ?_
  have e := k_times2 p s
  have h0 : stR (rnm 4 []) (tm0S p s 0 (put20 (fun _ => 0) (lf idP) 0)) (tm0W p s 0) = true := tm0_same rfl fun d hd => by
    unfold put20
    by_cases h : d < 20
    · rw [Nat.ble_eq_true_of_le (Nat.zero_le d), Nat.ble_eq_true_of_le (show d + 1 ≤ 0 + 20 by omega), tbF_lt (k := 0) (by omega), show d / 20 = 0 by omega, show d % 20 = d by omega]; rfl
    · rw [ble_ff (a := d + 1) (by omega), tbF_ge (k := 0) (by omega), Bool.and_false]; rfl
  rw [hp, hs, h0, show stR (rnm 5 []) (tm2S p s (tbF p 15) 63 (lf idP)) (tm2W p s 0) = true from tm2_same rfl fun _ _ => rfl] at e
  exact e
theorem tm_law {p s : Nat → Int} (hp : bdP p = true) : bdP (lf (r20 (tmV (n20 p) (n32 s) 64))) = true ∧ vP (lf (r20 (tmV (n20 p) (n32 s) 64))) = tmSp (vP p) s 64 := by
  rw [← tmV_ext (n20_at p) (n32_at s)]
  exact tmV_law hp s 64
noncomputable def ex10 : List (Nat × TF) := (F_edwards_point_times, tTimes2) :: ex9
theorem X10 : LibOK prog tt ex10 [] := X9.addT r_times2
end Go.Proofs.YtbogcehngfjlkabGreat
namespace Go.Proofs.YtbogcehngfjlkabGreat
open Go.Proofs.Tryz
open Go Go.AM
def bxI : Int := 15112221349535400772501151409588531511454012693041857206046113283949847762202
def byI : Int := 46316835694926478169428394003475163141307993866256225615783033603165251855960
def basL : List Int := loadL bxI ++ (loadL byI ++ ([1, 0, 0, 0, 0] ++ r5 (mulV (r5 (loadL bxI)) (r5 (loadL byI)))))
def baseS : Q4 := (bxI, byI, 1, mM bxI byI)
set_option maxRecDepth 20000 in
theorem bas_law : bdP (lf basL) = true ∧ vP (lf basL) = baseS := by decide +kernel
def tBase : TF := fun args => match args with
  | [] => some (true, pt (lf basL))
  | _ => none
theorem c_base : fnChk prog (envP tt ex10 []) f_edwards_base = true := by kernel_rfl
theorem r_base : TRow prog F_edwards_base tBase := by
  intro args r h
  unfold tBase at h
  split at h
  case h_2 => simp at h
  simp only [Option.some.injEq, Prod.mk.injEq, true_and] at h
  subst h
  exact pure_of_out X10 at_edwards_base c_base (N := 60) (gs := []) (by kernel_rfl)
def xzV (p : Nat → Int) : List Int := mR (px p) (r5 (invV (pz p)))
def yzV (p : Nat → Int) : List Int := mR (py p) (r5 (invV (pz p)))
def tXY : TF := fun args => match args with
  | [.agg [.ints .u64 20 p]] => some (bdP p, .tup [u5 (lf (r5 (xzV p))), u5 (lf (r5 (yzV p)))])
  | _ => none
theorem c_xy : fnChk prog (envP tt ex10 []) f_edwards_point_xy = true := by kernel_rfl
theorem k_xy (p : Nat → Int) : outP (apFunc (envP tt ex10 []) [] 5 f_edwards_point_xy [pt p] []) = some (ckL [bd5 (pz p), cM (px p) (r5 (invV (pz p))), cM (py p) (r5 (invV (pz p)))], .tup [u5 (lf (r5 (xzV p))), u5 (lf (r5 (yzV p)))]) := by kernel_rfl
theorem r_xy : TRow prog F_edwards_point_xy tXY := by
  intro args r h
  unfold tXY at h
  split at h
  case h_2 => simp at h
  rename_i p
  simp only [Option.some.injEq, Prod.mk.injEq] at h
  obtain ⟨hp, rfl⟩ := h
  obtain ⟨h1, h2, h3, h4⟩ := bdP_t.1 hp
  refine pure_of_out X10 at_edwards_point_xy c_xy (N := 5) (gs := []) ?_
  have e := k_xy p
  rw [h3, cM_t h1 (b := r5 (invV (pz p))) (invV_law h3).1, cM_t h2 (b := r5 (invV (pz p))) (invV_law h3).1] at e
  exact e
noncomputable def ex11 : List (Nat × TF) := (F_edwards_point_xy, tXY) :: (F_edwards_base, tBase) :: ex10
theorem X11 : LibOK prog tt ex11 [] := (X10.addT r_base).addT r_xy
def invM (x : Int) : Int := powM x 57896044618658097711785492504343953926634992332820282019728792003956564819947
def formS (q : Q4) : Int := mM q.2.1 (invM q.2.2.1) + mM q.1 (invM q.2.2.1) % 2 * 57896044618658097711785492504343953926634992332820282019728792003956564819968
theorem xy_law {p : Nat → Int} (h : bdP p = true) : bd5 (xzV p) = true ∧ bd5 (yzV p) = true ∧ fm (xzV p) = mM (vP p).1 (invM (vP p).2.2.1) ∧ fm (yzV p) = mM (vP p).2.1 (invM (vP p).2.2.1) := by
  obtain ⟨h1, h2, h3, h4⟩ := bdP_t.1 h
  obtain ⟨i1, i2⟩ := invV_law h3
  refine ⟨mR_bd h1 (b := r5 (invV (pz p))) i1, mR_bd h2 (b := r5 (invV (pz p))) i1, ?_, ?_⟩
  · show fm (mR (px p) (r5 (invV (pz p)))) = _
    rw [mR_fm h1 (b := r5 (invV (pz p))) i1, r5_fm, i2]; rfl
  · show fm (mR (py p) (r5 (invV (pz p)))) = _
    rw [mR_fm h2 (b := r5 (invV (pz p))) i1, r5_fm, i2]; rfl
theorem c_form : fnChk prog (envP tt ex11 []) f_edwards_point_form = true := by kernel_rfl
def top128 (l : List Int) (j : Nat) : Int := bif Nat.beq j 31 then ior .u8 (lf l 31) 128 else lf l j
theorem k_formt (p : Nat → Int) : outP (apFunc (envP tt ex11 []) [(14, true)] 5 f_edwards_point_form [pt p] []) =
    some (ckL [bdP (fun j => p (0 + j)), bd5 (r5 (yzV p)), bd5 (r5 (xzV p)) && (decide (fm (r5 (xzV p)) % 2 = 1) == true)], u8s 32 (lf (tabL (top128 (byL 32 (fm (r5 (yzV p))))) 32 0))) := by kernel_rfl
theorem k_formf (p : Nat → Int) : outP (apFunc (envP tt ex11 []) [(14, false)] 5 f_edwards_point_form [pt p] []) =
    some (ckL [bdP (fun j => p (0 + j)), bd5 (r5 (yzV p)), bd5 (r5 (xzV p)) && (decide (fm (r5 (xzV p)) % 2 = 1) == false)], u8s 32 (lf (byL 32 (fm (r5 (yzV p)))))) := by kernel_rfl
theorem or128 {x : Int} (h : 0 ≤ x ∧ x < 128) : ior .u8 x 128 = x + 128 := by
  have key : ∀ n : Nat, n < 128 → ior .u8 (n : Int) 128 = (n : Int) + 128 := by decide +kernel
  have := key x.toNat (by omega)
  rwa [Int.toNat_of_nonneg h.1] at this
theorem and127 {x : Int} (h : 0 ≤ x ∧ x < 256) : iand .u8 x 127 = x % 128 := by
  have key : ∀ n : Nat, n < 256 → iand .u8 (n : Int) 127 = (n : Int) % 128 := by decide +kernel
  have := key x.toNat (by omega)
  rwa [Int.toNat_of_nonneg h.1] at this
theorem last_byte {s : Nat → Int} (h : areB s 32 0 = true) : hval s 32 0 = hval s 31 0 + 452312848583266388373324160190187140051835877600158453279131187530910662656 * s 31 ∧ 0 ≤ hval s 31 0 ∧ hval s 31 0 < 452312848583266388373324160190187140051835877600158453279131187530910662656 ∧ 0 ≤ s 31 ∧ s 31 < 256 := by
  have e := hval_add s 31 1 0
  have e1 : hval s 1 (0 + 31) = s 31 := by simp [hval]
  rw [e1] at e
  have h1 := hval_range (areB_sub (m := 31) (i := 0) h (by omega))
  have h2 := areB_t h 31 (by omega)
  rw [Nat.zero_add] at h2
  rw [show (256 : Int) ^ 31 = 452312848583266388373324160190187140051835877600158453279131187530910662656 by decide] at e
  have h3 : hval s 31 (0 + 0) < 256 ^ 31 := h1.2
  rw [show (256 : Int) ^ 31 = 452312848583266388373324160190187140051835877600158453279131187530910662656 by decide] at h3
  exact ⟨e, h1.1, h3, h2⟩
theorem top_law {y : Int} (h0 : 0 ≤ y) (h1 : y < 57896044618658097711785492504343953926634992332820282019728792003956564819968) : tabL (top128 (byL 32 y)) 32 0 = byL 32 (y + 57896044618658097711785492504343953926634992332820282019728792003956564819968) := by
  have hb := areB_b32 y
  have hv : hval (lf (byL 32 y)) 32 0 = y := hval_b32 h0 (by omega)
  obtain ⟨e1, e2, e3, e4, e5⟩ := last_byte hb
  rw [hv] at e1
  have ht : ∀ d, d < 31 → top128 (byL 32 y) d = lf (byL 32 y) d := fun d hd => by
    unfold top128
    have : Nat.beq d 31 = false := by
      cases hb : Nat.beq d 31 with
      | false => rfl
      | true => have := Nat.eq_of_beq_eq_true hb; omega
    rw [this]; rfl
  have ht31 : top128 (byL 32 y) 31 = lf (byL 32 y) 31 + 128 := by
    show ior .u8 (lf (byL 32 y) 31) 128 = _
    exact or128 ⟨e4, by omega⟩
  have ha : areB (top128 (byL 32 y)) 32 0 = true := areB_mk fun i hi => by
    rw [Nat.zero_add]
    by_cases q : i = 31
    · rw [q, ht31]; omega
    · rw [ht i (by omega)]
      have := areB_t hb i hi
      rwa [Nat.zero_add] at this
  obtain ⟨f1, f2, f3, f4, f5⟩ := last_byte ha
  have e : hval (top128 (byL 32 y)) 31 0 = hval (lf (byL 32 y)) 31 0 := hval_congr fun i hi => by rw [Nat.zero_add]; exact ht i hi
  rw [e, ht31] at f1
  rw [← byL_self ha, f1]
  congr 1
  omega
theorem mM_lt (x y : Int) : 0 ≤ mM x y ∧ mM x y < pP := ⟨Int.emod_nonneg _ (by decide), Int.emod_lt_of_pos _ pP_pos⟩
def tForm : TF := fun args => match args with
  | [.agg [.ints .u64 20 p]] => some (bdP p, b32 (formS (vP p)))
  | _ => none
theorem bdP_ext {p p' : Nat → Int} (h : ∀ d, d < 20 → p d = p' d) : bdP p = bdP p' := by
  obtain ⟨e1, e2, e3, e4⟩ := tb_ext h
  unfold bdP
  rw [e1, e2, e3, e4]
theorem r_form : TRow prog F_edwards_point_form tForm := by
  intro args r h
  unfold tForm at h
  split at h
  case h_2 => simp at h
  rename_i p
  simp only [Option.some.injEq, Prod.mk.injEq] at h
  obtain ⟨hp, rfl⟩ := h
  obtain ⟨x1, x2, x3, x4⟩ := xy_law hp
  have hp0 : bdP (fun j => p (0 + j)) = true := by rw [bdP_ext (p' := p) fun d _ => by rw [Nat.zero_add]]; exact hp
  have hy := mM_lt (vP p).2.1 (invM (vP p).2.2.1)
  have c1 : bd5 (r5 (yzV p)) = true := x2
  have c2 : bd5 (r5 (xzV p)) = true := x1
  have v1 : fm (r5 (xzV p)) = mM (vP p).1 (invM (vP p).2.2.1) := x3
  have v2 : fm (r5 (yzV p)) = mM (vP p).2.1 (invM (vP p).2.2.1) := x4
  have hx := mM_lt (vP p).1 (invM (vP p).2.2.1)
  unfold formS
  cases ho : decide (mM (vP p).1 (invM (vP p).2.2.1) % 2 = 1) with
  | true =>
    refine pure_of_out X11 at_edwards_point_form c_form (N := 5) (gs := [(14, true)]) ?_
    have e := k_formt p
    rw [hp0, c1, c2, v1, v2, ho, top_law hy.1 (Int.lt_trans hy.2 (by decide))] at e
    rw [of_decide_eq_true ho, Int.one_mul]
    exact e
  | false =>
    refine pure_of_out X11 at_edwards_point_form c_form (N := 5) (gs := [(14, false)]) ?_
    have e := k_formf p
    rw [hp0, c1, c2, v1, v2, ho] at e
    have h0 : mM (vP p).1 (invM (vP p).2.2.1) % 2 = 0 := by
      have := of_decide_eq_false ho
      omega
    rw [h0, Int.zero_mul, Int.add_zero]
    exact e
noncomputable def ex12 : List (Nat × TF) := (F_edwards_point_form, tForm) :: ex11
theorem X12 : LibOK prog tt ex12 [] := X11.addT r_form
def bb (b : Nat → Int) : Nat → Int := fun j => bif Nat.beq (0 + j) 31 then iand .u8 (b 31) 127 else b (0 + j)
def one5L : List Int := [1, 0, 0, 0, 0]
def zer5L : List Int := [0, 0, 0, 0, 0]
def oY (b : Nat → Int) : List Int := loadL (hval (bb b) 32 0)
def oYY (b : Nat → Int) : List Int := mR (oY b) (oY b)
def oU (b : Nat → Int) : List Int := subV (r5 (oYY b)) (r5 one5L)
def oV (b : Nat → Int) : List Int := addV (r5 (mR cvL (oYY b))) (r5 one5L)
def oM (b : Nat → Int) : Nat := rtM (lf (oU b)) (lf (oV b))
def oX (b : Nat → Int) : List Int := r5 (rxk (r5 (oU b)) (r5 (oV b)) (oM b))
def oN (b : Nat → Int) : List Int := subV (r5 zer5L) (r5 (oX b))
def oP (X Y : List Int) : List Int := tabL (lf (r5 X ++ (r5 Y ++ (one5L ++ r5 (mR X Y))))) 20 0
def oA (b : Nat → Int) (g : Bool) : List Bool := [areB (bb b) 32 0, bd5 (r5 (oY b)), (!(eqN 32 (lf (byL 32 (fm (r5 (oY b))))) (bb b) && true)) == g]
def oB (b : Nat → Int) (g : Bool) : List Bool := [chk5 (r5 (oY b)), cM cvL (oYY b), rtCd (lf (oU b)) (lf (oV b)), (!Nat.ble (oM b) 1) == g]
def oO (b : Nat → Int) (g : Bool) : Bool := (ishr .u8 (b 31) 7 == 1) == g
def oZ (b : Nat → Int) (g : Bool) : List Bool := [bd5 (r5 (oX b)), (eqN 32 (lf (byL 32 (fm (r5 (oX b))))) (fun _ => 0) && true) == g]
def oD (b : Nat → Int) (o g : Bool) : List Bool := [bd5 (r5 (oX b)), (decide (fm (r5 (oX b)) % 2 = 1) != o) == g]
theorem c_open : fnChk prog (envP tt ex12 []) f_edwards_open = true := by kernel_rfl
theorem k_openA (b : Nat → Int) : outP (apFunc (envP tt ex12 []) [(22, true)] 5 f_edwards_open [u8s 32 b] []) = some (ckL (oA b true), .tup [pt (lf (tabL (fun _ => 0) 20 0)), .sc (.bool false)]) := by kernel_rfl
theorem k_openB (b : Nat → Int) : outP (apFunc (envP tt ex12 []) [(22, false), (39, true)] 5 f_edwards_open [u8s 32 b] []) = some (ckL (oA b false ++ oB b true), .tup [pt (lf (tabL (fun _ => 0) 20 0)), .sc (.bool false)]) := by kernel_rfl
theorem k_openC (b : Nat → Int) : outP (apFunc (envP tt ex12 []) [(12, true), (22, false), (39, false), (46, true)] 5 f_edwards_open [u8s 32 b] []) = some (ckL (oO b true :: (oA b false ++ (oB b false ++ oZ b true))), .tup [pt (lf (tabL (fun _ => 0) 20 0)), .sc (.bool false)]) := by kernel_rfl
theorem k_openC1 (b : Nat → Int) : outP (apFunc (envP tt ex12 []) [(12, true), (22, false), (39, false), (46, false), (53, true)] 5 f_edwards_open [u8s 32 b] []) =
    some (ckL (oO b true :: (oA b false ++ (oB b false ++ (oZ b false ++ (oD b true true ++ [cM (oN b) (oY b)]))))), .tup [pt (lf (oP (oN b) (oY b))), .sc (.bool true)]) := by kernel_rfl
theorem k_openC2 (b : Nat → Int) : outP (apFunc (envP tt ex12 []) [(12, true), (22, false), (39, false), (46, false), (53, false)] 5 f_edwards_open [u8s 32 b] []) =
    some (ckL (oO b true :: (oA b false ++ (oB b false ++ (oZ b false ++ (oD b true false ++ [cM (oX b) (oY b)]))))), .tup [pt (lf (oP (oX b) (oY b))), .sc (.bool true)]) := by kernel_rfl
theorem k_openD1 (b : Nat → Int) : outP (apFunc (envP tt ex12 []) [(12, false), (22, false), (39, false), (53, true)] 5 f_edwards_open [u8s 32 b] []) =
    some (ckL (oO b false :: (oA b false ++ (oB b false ++ (oD b false true ++ [cM (oN b) (oY b)])))), .tup [pt (lf (oP (oN b) (oY b))), .sc (.bool true)]) := by kernel_rfl
theorem k_openD2 (b : Nat → Int) : outP (apFunc (envP tt ex12 []) [(12, false), (22, false), (39, false), (53, false)] 5 f_edwards_open [u8s 32 b] []) =
    some (ckL (oO b false :: (oA b false ++ (oB b false ++ (oD b false false ++ [cM (oX b) (oY b)])))), .tup [pt (lf (oP (oX b) (oY b))), .sc (.bool true)]) := by kernel_rfl
end Go.Proofs.YtbogcehngfjlkabGreat
namespace Go.Proofs.YtbogcehngfjlkabGreat
open Go.Proofs.Tryz
open Go Go.AM
def rootX (u v : Int) : Nat → Int
  | 0 => mM (mM u (mM (mM v v) v)) (powM (mM u (mM (mM (mM (mM v v) v) (mM (mM v v) v)) v)) 7237005577332262213973186563042994240829374041602535252466099000494570602493)
  | k + 1 => mM (rootX u v k) iM
def rootOk (u v x : Int) : Bool := decide (mM v (mM x x) = u)
def rootM (u v : Int) : Nat := bif rootOk u v (rootX u v 0) then 0 else bif rootOk u v (rootX u v 1) then 1 else 2
def opY (w : Int) : Int := w % 57896044618658097711785492504343953926634992332820282019728792003956564819968
def opU (w : Int) : Int := mS (mM (opY w) (opY w)) 1
def opV (w : Int) : Int := mA (mM eD (mM (opY w) (opY w))) 1
def opM (w : Int) : Nat := rootM (opU w) (opV w)
def opX (w : Int) : Int := rootX (opU w) (opV w) (opM w)
def opOdd (w : Int) : Bool := decide (w / 57896044618658097711785492504343953926634992332820282019728792003956564819968 = 1)
def opOk (w : Int) : Bool := decide (opY w < pP) && (Nat.ble (opM w) 1 && !(opOdd w && decide (opX w = 0)))
def opXs (w : Int) : Int := bif decide (opX w % 2 = 1) != opOdd w then mS 0 (opX w) else opX w
def openS (w : Int) : Q4 := (opXs w, opY w, 1, mM (opXs w) (opY w))
theorem rxk_fm {U V : List Int} (hu : bd5 U = true) (hv : bd5 V = true) : ∀ k, fm (rxk U V k) = rootX (fm U) (fm V) k
  | 0 => by
    obtain ⟨h3, h7, hx⟩ := rx0_bd hu hv
    show fm (mR (mR U (rv3 V)) (r5 (e8V (r5 (rw7 U V))))) = _
    rw [mR_fm (mR_bd hu h3) (b := r5 (e8V (r5 (rw7 U V)))) (e8V_law (a := r5 (rw7 U V)) h7).1, r5_fm, (e8V_law (a := r5 (rw7 U V)) h7).2, r5_fm]
    show mM (fm (mR U (rv3 V))) (powM (fm (mR U (mR (mR (rv3 V) (rv3 V)) V))) _) = _
    rw [mR_fm hu h3, mR_fm hu (mR_bd (mR_bd h3 h3) hv), mR_fm (mR_bd h3 h3) hv, mR_fm h3 h3]
    show mM (mM (fm U) (fm (mR (mR V V) V))) (powM (mM (fm U) (mM (mM (fm (mR (mR V V) V)) (fm (mR (mR V V) V))) (fm V))) _) = _
    rw [mR_fm (mR_bd hv hv) hv, mR_fm hv hv]; rfl
  | k + 1 => by
    show fm (mR (rxk U V k) rmL) = _
    rw [mR_fm (rxk_bd hu hv k) rm_law.1, rxk_fm hu hv k, rm_law.2]; rfl
theorem rok_fm {U V X : List Int} (_hu : bd5 U = true) (hv : bd5 V = true) (hx : bd5 X = true) : rok U V X = rootOk (fm U) (fm V) (fm X) := by
  unfold rok rootOk
  rw [r5_fm, r5_fm, mR_fm hv (mR_bd hx hx), mR_fm hx hx]
theorem rtM_fm {u v : Nat → Int} (hu : bd5 (l5 u) = true) (hv : bd5 (l5 v) = true) : rtM u v = rootM (fm (l5 u)) (fm (l5 v)) := by
  unfold rtM rootM
  rw [rok_fm hu hv (X := r5 (rxk (l5 u) (l5 v) 0)) (rxk_bd hu hv 0), rok_fm hu hv (X := r5 (rxk (l5 u) (l5 v) 1)) (rxk_bd hu hv 1), r5_fm, r5_fm, rxk_fm hu hv, rxk_fm hu hv]
theorem bb_law {b : Nat → Int} (h : areB b 32 0 = true) : areB (bb b) 32 0 = true ∧ hval (bb b) 32 0 = opY (hval b 32 0) ∧ (ishr .u8 (b 31) 7 == 1) = opOdd (hval b 32 0) := by
  obtain ⟨e1, e2, e3, e4, e5⟩ := last_byte h
  have h31 : bb b 31 = b 31 % 128 := and127 ⟨e4, e5⟩
  have hlt : ∀ d, d < 31 → bb b d = b d := fun d hd => by
    unfold bb
    have : Nat.beq (0 + d) 31 = false := by
      cases hb : Nat.beq (0 + d) 31 with
      | false => rfl
      | true => have := Nat.eq_of_beq_eq_true hb; omega
    rw [this, Nat.zero_add]; rfl
  have ha : areB (bb b) 32 0 = true := areB_mk fun i hi => by
    rw [Nat.zero_add]
    by_cases q : i = 31
    · rw [q, h31]; omega
    · rw [hlt i (by omega)]
      have := areB_t h i hi
      rwa [Nat.zero_add] at this
  obtain ⟨f1, f2, f3, f4, f5⟩ := last_byte ha
  have e : hval (bb b) 31 0 = hval b 31 0 := hval_congr fun i hi => by rw [Nat.zero_add]; exact hlt i hi
  rw [e, h31] at f1
  refine ⟨ha, ?_, ?_⟩
  · rw [f1, e1]
    unfold opY
    generalize hval b 31 0 = A at *
    generalize b 31 = B at *
    omega
  · have e7 : ishr .u8 (b 31) 7 = b 31 / 128 := by
      show (b 31).fdiv (2 ^ (min (7 : Int).toNat 8)) = _
      rw [Int.fdiv_eq_ediv_of_nonneg _ (by decide)]; rfl
    unfold opOdd
    rw [e7, e1]
    have : (hval b 31 0 + 452312848583266388373324160190187140051835877600158453279131187530910662656 * b 31) / 57896044618658097711785492504343953926634992332820282019728792003956564819968 = b 31 / 128 := by
      generalize hval b 31 0 = A at *
      generalize b 31 = B at *
      omega
    rw [this]; rfl
theorem one5_law : bd5 one5L = true ∧ fm one5L = 1 := by decide
theorem zer5_law : bd5 zer5L = true ∧ fm zer5L = 0 := by decide
structure OpF (b : Nat → Int) : Prop where
  y : bd5 (oY b) = true
  yv : opY (hval b 32 0) < pP → fm (oY b) = opY (hval b 32 0)
  u : bd5 (oU b) = true
  v : bd5 (oV b) = true
  yy : bd5 (oYY b) = true
  x : bd5 (oX b) = true
  n : bd5 (oN b) = true
theorem opY_range (w : Int) : 0 ≤ opY w ∧ opY w < 57896044618658097711785492504343953926634992332820282019728792003956564819968 := by unfold opY; omega
theorem opF {b : Nat → Int} (h : areB b 32 0 = true) : OpF b := by
  obtain ⟨h1, h2, h3⟩ := bb_law h
  have hr := opY_range (hval b 32 0)
  have hy := loadL_law (v := hval (bb b) 32 0) (by rw [h2]; omega)
  have y : bd5 (oY b) = true := hy.1
  have yy := mR_bd y y
  have u : bd5 (oU b) = true := subV_bd (a := r5 (oYY b)) yy (b := r5 one5L) one5_law.1
  have v : bd5 (oV b) = true := addV_bd (a := r5 (mR cvL (oYY b))) (mR_bd cv_bd yy) (b := r5 one5L) one5_law.1
  have x : bd5 (oX b) = true := rxk_bd (U := r5 (oU b)) u (V := r5 (oV b)) v _
  exact ⟨y, fun hl => by show fm (loadL (hval (bb b) 32 0)) = _; rw [hy.2, h2]; exact md_id ⟨hr.1, hl⟩, u, v, yy, x, subV_bd (a := r5 zer5L) zer5_law.1 (b := r5 (oX b)) x⟩
theorem op_vals {b : Nat → Int} (h : areB b 32 0 = true) (hl : opY (hval b 32 0) < pP) : oM b = opM (hval b 32 0) ∧ fm (oX b) = opX (hval b 32 0) ∧ fm (oN b) = mS 0 (opX (hval b 32 0)) := by
  have F := opF h
  have eu : fm (oU b) = opU (hval b 32 0) := by
    show fm (subV (r5 (oYY b)) (r5 one5L)) = _
    rw [subV_fm (a := r5 (oYY b)) F.yy (b := r5 one5L) one5_law.1, r5_fm, r5_fm, one5_law.2]
    show mS (fm (mR (oY b) (oY b))) 1 = _
    rw [mR_fm F.y F.y, F.yv hl]; rfl
  have ev : fm (oV b) = opV (hval b 32 0) := by
    show fm (addV (r5 (mR cvL (oYY b))) (r5 one5L)) = _
    rw [addV_fm (a := r5 (mR cvL (oYY b))) (mR_bd cv_bd F.yy) (b := r5 one5L) one5_law.1, r5_fm, r5_fm, one5_law.2, mR_fm cv_bd F.yy, cv_fm]
    show mA (mM eD (fm (mR (oY b) (oY b)))) 1 = _
    rw [mR_fm F.y F.y, F.yv hl]; rfl
  have em : oM b = opM (hval b 32 0) := by
    show rtM (lf (oU b)) (lf (oV b)) = _
    rw [rtM_fm (u := lf (oU b)) (v := lf (oV b)) F.u F.v]
    show rootM (fm (oU b)) (fm (oV b)) = _
    rw [eu, ev]; rfl
  have ex : fm (oX b) = opX (hval b 32 0) := by
    show fm (rxk (r5 (oU b)) (r5 (oV b)) (oM b)) = _
    rw [rxk_fm (U := r5 (oU b)) F.u (V := r5 (oV b)) F.v, r5_fm, r5_fm, eu, ev, em]; rfl
  refine ⟨em, ex, ?_⟩
  show fm (subV (r5 zer5L) (r5 (oX b))) = _
  rw [subV_fm (a := r5 zer5L) zer5_law.1 (b := r5 (oX b)) F.x, r5_fm, r5_fm, zer5_law.2, ex]
theorem oP_law {X Y : List Int} (hx : bd5 X = true) (hy : bd5 Y = true) : bdP (lf (oP X Y)) = true ∧ vP (lf (oP X Y)) = (fm X, fm Y, 1, mM (fm X) (fm Y)) := by
  have hm := mR_bd hx hy
  obtain ⟨x1, x2, x3, x4⟩ := four_v (a := r5 X) (b := r5 Y) (c := one5L) (d := r5 (mR X Y)) rfl rfl rfl rfl
  have e : ∀ d, d < 20 → lf (oP X Y) d = lf (r5 X ++ (r5 Y ++ (one5L ++ r5 (mR X Y)))) d := fun d hd => by
    have := lf_tab (lf (r5 X ++ (r5 Y ++ (one5L ++ r5 (mR X Y))))) 20 0 d hd
    rwa [Nat.zero_add] at this
  obtain ⟨e1, e2, e3, e4⟩ := tb_ext e
  refine ⟨?_, ?_⟩
  · rw [bdP_ext e]
    exact bdP_t.2 ⟨by rw [x1]; exact hx, by rw [x2]; exact hy, by rw [x3]; exact one5_law.1, by rw [x4]; exact hm⟩
  · unfold vP
    rw [e1, e2, e3, e4, x1, x2, x3, x4, r5_fm, r5_fm, r5_fm, one5_law.2, mR_fm hx hy]
def opLs (b : Nat → Int) : List Int := bif decide (fm (r5 (oX b)) % 2 = 1) != opOdd (hval b 32 0) then oP (oN b) (oY b) else oP (oX b) (oY b)
def opFs (b : Nat → Int) : List Int := bif opOk (hval b 32 0) then opLs b else tabL (fun _ => 0) 20 0
def tOpen : TF := fun args => match args with
  | [.agg [.ints .u8 32 b]] => some (areB b 32 0, .tup [pt (lf (opFs b)), .sc (.bool (opOk (hval b 32 0)))])
  | _ => none
theorem opLs_law {b : Nat → Int} (h : areB b 32 0 = true) (hok : opOk (hval b 32 0) = true) : bdP (lf (opFs b)) = true ∧ vP (lf (opFs b)) = openS (hval b 32 0) := by
  have F := opF h
  have hl : opY (hval b 32 0) < pP := of_decide_eq_true (and_t.1 hok).1
  obtain ⟨em, ex, en⟩ := op_vals h hl
  unfold opFs
  rw [hok]
  show bdP (lf (opLs b)) = true ∧ vP (lf (opLs b)) = _
  unfold opLs openS opXs
  rw [show fm (r5 (oX b)) = opX (hval b 32 0) from ex]
  cases decide (opX (hval b 32 0) % 2 = 1) != opOdd (hval b 32 0) with
  | true =>
    obtain ⟨q1, q2⟩ := oP_law F.n F.y
    refine ⟨q1, ?_⟩
    show vP (lf (oP (oN b) (oY b))) = _
    rw [q2, en, F.yv hl]; rfl
  | false =>
    obtain ⟨q1, q2⟩ := oP_law F.x F.y
    refine ⟨q1, ?_⟩
    show vP (lf (oP (oX b) (oY b))) = _
    rw [q2, ex, F.yv hl]; rfl
theorem oA_law {b : Nat → Int} (h : areB b 32 0 = true) (g : Bool) (hg : decide (opY (hval b 32 0) < pP) = !g) : oA b g = [true, true, true] := by
  obtain ⟨h1, h2, h3⟩ := bb_law h
  have F := opF h
  have hr := opY_range (hval b 32 0)
  have hy := loadL_law (v := hval (bb b) 32 0) (by rw [h2]; omega)
  have e : eqN 32 (lf (byL 32 (fm (r5 (oY b))))) (bb b) = decide (opY (hval b 32 0) < pP) := by
    rw [eqB_law h1 (fm_256 _).1 (fm_256 _).2, h2]
    show decide (_ = fm (loadL (hval (bb b) 32 0))) = _
    rw [hy.2, h2]
    by_cases q : opY (hval b 32 0) < pP
    · rw [decide_eq_true q, decide_eq_true (md_id ⟨hr.1, q⟩).symm]
    · rw [decide_eq_false q, decide_eq_false (fun e => q (by rw [e]; exact Int.emod_lt_of_pos _ pP_pos))]
  unfold oA
  rw [e, h1, show bd5 (r5 (oY b)) = true from F.y, hg]
  cases g <;> rfl
theorem oB_law {b : Nat → Int} (h : areB b 32 0 = true) (hl : opY (hval b 32 0) < pP) (g : Bool) (hg : Nat.ble (opM (hval b 32 0)) 1 = !g) : oB b g = [true, true, true, true] := by
  have F := opF h
  obtain ⟨em, ex, en⟩ := op_vals h hl
  unfold oB
  rw [show chk5 (r5 (oY b)) = true from bd5_chk F.y, cM_t cv_bd F.yy, em, hg, show rtCd (lf (oU b)) (lf (oV b)) = true from and_t.2 ⟨F.u, F.v⟩]
  cases g <;> rfl
theorem oO_law {b : Nat → Int} (h : areB b 32 0 = true) (g : Bool) (hg : opOdd (hval b 32 0) = g) : oO b g = true := by
  obtain ⟨h1, h2, h3⟩ := bb_law h
  unfold oO
  rw [h3, hg]
  cases g <;> rfl
theorem oZ_law {b : Nat → Int} (h : areB b 32 0 = true) (hl : opY (hval b 32 0) < pP) (g : Bool) (hg : decide (opX (hval b 32 0) = 0) = g) : oZ b g = [true, true] := by
  have F := opF h
  obtain ⟨em, ex, en⟩ := op_vals h hl
  unfold oZ
  rw [show bd5 (r5 (oX b)) = true from F.x, eqN_zero32 (fm_256 _).1 (fm_256 _).2, show fm (r5 (oX b)) = opX (hval b 32 0) from ex, hg]
  cases g <;> rfl
theorem oD_law {b : Nat → Int} (h : areB b 32 0 = true) (hl : opY (hval b 32 0) < pP) (o g : Bool) (ho : opOdd (hval b 32 0) = o) (hg : (decide (fm (r5 (oX b)) % 2 = 1) != opOdd (hval b 32 0)) = g) : oD b o g = [true, true] := by
  have F := opF h
  subst ho
  unfold oD
  rw [show bd5 (r5 (oX b)) = true from F.x, hg]
  cases g <;> rfl
theorem r_open : TRow prog F_edwards_open tOpen := by
  intro args r h
  unfold tOpen at h
  split at h
  case h_2 => simp at h
  rename_i b
  simp only [Option.some.injEq, Prod.mk.injEq] at h
  obtain ⟨hb, rfl⟩ := h
  have F := opF hb
  unfold opFs
  cases h1 : decide (opY (hval b 32 0) < pP) with
  | false =>
    have hok : opOk (hval b 32 0) = false := by unfold opOk; rw [h1]; rfl
    rw [hok]
    refine pure_of_out X12 at_edwards_open c_open (N := 5) (gs := [(22, true)]) ?_
    have e := k_openA b
    rw [oA_law hb true (by rw [h1]; rfl)] at e
    exact e
  | true =>
    have hl := of_decide_eq_true h1
    have a := oA_law hb false (by rw [h1]; rfl)
    cases h2 : Nat.ble (opM (hval b 32 0)) 1 with
    | false =>
      have hok : opOk (hval b 32 0) = false := by unfold opOk; rw [h1, h2]; rfl
      rw [hok]
      refine pure_of_out X12 at_edwards_open c_open (N := 5) (gs := [(22, false), (39, true)]) ?_
      have e := k_openB b
      rw [a, oB_law hb hl true (by rw [h2]; rfl)] at e
      exact e
    | true =>
      have bb' := oB_law hb hl false (by rw [h2]; rfl)
      cases h3 : opOdd (hval b 32 0) with
      | true =>
        have o := oO_law hb true h3
        cases h4 : decide (opX (hval b 32 0) = 0) with
        | true =>
          have hok : opOk (hval b 32 0) = false := by unfold opOk; rw [h1, h2, h3, h4]; rfl
          rw [hok]
          refine pure_of_out X12 at_edwards_open c_open (N := 5) (gs := [(12, true), (22, false), (39, false), (46, true)]) ?_
          have e := k_openC b
          rw [a, bb', o, oZ_law hb hl true h4] at e
          exact e
        | false =>
          have hok : opOk (hval b 32 0) = true := by unfold opOk; rw [h1, h2, h3, h4]; rfl
          rw [hok]
          unfold opLs
          have z := oZ_law hb hl false h4
          cases h5 : (decide (fm (r5 (oX b)) % 2 = 1) != opOdd (hval b 32 0)) with
          | true =>
            refine pure_of_out X12 at_edwards_open c_open (N := 5) (gs := [(12, true), (22, false), (39, false), (46, false), (53, true)]) ?_
            have e := k_openC1 b
            rw [a, bb', o, z, oD_law hb hl true true h3 h5, cM_t F.n F.y] at e
            exact e
          | false =>
            refine pure_of_out X12 at_edwards_open c_open (N := 5) (gs := [(12, true), (22, false), (39, false), (46, false), (53, false)]) ?_
            have e := k_openC2 b
            rw [a, bb', o, z, oD_law hb hl true false h3 h5, cM_t F.x F.y] at e
            exact e
      | false =>
        have o := oO_law hb false h3
        have hok : opOk (hval b 32 0) = true := by unfold opOk; rw [h1, h2, h3]; rfl
        rw [hok]
        unfold opLs
        cases h5 : (decide (fm (r5 (oX b)) % 2 = 1) != opOdd (hval b 32 0)) with
        | true =>
          refine pure_of_out X12 at_edwards_open c_open (N := 5) (gs := [(12, false), (22, false), (39, false), (53, true)]) ?_
          have e := k_openD1 b
          rw [a, bb', o, oD_law hb hl false true h3 h5, cM_t F.n F.y] at e
          exact e
        | false =>
          refine pure_of_out X12 at_edwards_open c_open (N := 5) (gs := [(12, false), (22, false), (39, false), (53, false)]) ?_
          have e := k_openD2 b
          rw [a, bb', o, oD_law hb hl false false h3 h5, cM_t F.x F.y] at e
          exact e
noncomputable def ex13 : List (Nat × TF) := (F_edwards_open, tOpen) :: ex12
theorem X13 : LibOK prog tt ex13 [] := X12.addT r_open
end Go.Proofs.YtbogcehngfjlkabGreat
namespace Go.Proofs.YtbogcehngfjlkabGreat
open Go.Proofs.Tryz
open Go Go.AM
abbrev ld0 (b : Nat → Int) : Nat → Int := fun j => b (0 + j)
theorem ld0_eq (b : Nat → Int) : ld0 b = b := funext fun j => by show b (0 + j) = b j; rw [Nat.zero_add]
theorem tmSp_ext {q : Q4} {s s' : Nat → Int} (h : ∀ d, d < 32 → s d = s' d) : ∀ k, tmSp q s k = tmSp q s' k
  | 0 => rfl
  | k + 1 => by
    unfold tmSp
    rw [tmSp_ext h k, nib_ext h (i := 63 - k) (by omega)]
def mulS (q : Q4) (k : Int) : Q4 := tmSp q (lf (byL 32 k)) 64
theorem mulS_of {q : Q4} {s : Nat → Int} (h : areB s 32 0 = true) : tmSp q s 64 = mulS q (hval s 32 0) := by
  refine tmSp_ext (fun d hd => ?_) 64
  rw [byL_self h]
  have := lf_tab s 32 0 d hd
  rw [Nat.zero_add] at this
  exact this.symm
def tCheck : TF := fun args => match args with
  | [.agg [.ints .u8 32 b]] => some (areB b 32 0, .sc (.int .i64 (bif opOk (hval b 32 0) then 0 else 41)))
  | _ => none
theorem c_check : fnChk prog (envP tt ex13 []) f_edwards_Check = true := by kernel_rfl
theorem k_check (b : Nat → Int) (g : Bool) : outP (apFunc (envP tt ex13 []) [(11, true)] 5 f_edwards_Check [u8s 32 b] []) = some (ckL [areB (ld0 b) 32 0, (!opOk (hval (ld0 b) 32 0)) == true], .sc (.int .i64 41)) := by kernel_rfl
theorem k_check2 (b : Nat → Int) : outP (apFunc (envP tt ex13 []) [(11, false)] 5 f_edwards_Check [u8s 32 b] []) = some (ckL [areB (ld0 b) 32 0, (!opOk (hval (ld0 b) 32 0)) == false], .sc (.int .i64 0)) := by kernel_rfl
theorem r_check : TRow prog F_edwards_Check tCheck := by
  intro args r h
  unfold tCheck at h
  split at h
  case h_2 => simp at h
  rename_i b
  simp only [Option.some.injEq, Prod.mk.injEq] at h
  obtain ⟨hb, rfl⟩ := h
  cases ho : opOk (hval b 32 0) with
  | true =>
    refine pure_of_out X13 at_edwards_Check c_check (N := 5) (gs := [(11, false)]) ?_
    have e := k_check2 b
    rw [ld0_eq, hb, ho] at e
    exact e
  | false =>
    refine pure_of_out X13 at_edwards_Check c_check (N := 5) (gs := [(11, true)]) ?_
    have e := k_check b true
    rw [ld0_eq, hb, ho] at e
    exact e
def tIdentity : TF := fun args => match args with
  | [] => some (true, b32 1)
  | _ => none
theorem c_identity : fnChk prog (envP tt ex13 []) f_edwards_Identity = true := by kernel_rfl
theorem k_identity : outP (apFunc (envP tt ex13 []) [] 5 f_edwards_Identity [] []) = some (bdP (lf idP) && true, b32 (formS (vP (lf idP)))) := by kernel_rfl
theorem form_id : formS idS4 = 1 := by
  have e : invM 1 = 1 := by unfold invM powM; rw [Int.one_pow]; decide
  unfold formS idS4
  simp only [e]
  decide
theorem r_identity : TRow prog F_edwards_Identity tIdentity := by
  intro args r h
  unfold tIdentity at h
  split at h
  case h_2 => simp at h
  simp only [Option.some.injEq, Prod.mk.injEq, true_and] at h
  subst h
  refine pure_of_out X13 at_edwards_Identity c_identity (N := 5) (gs := []) ?_
  rw [k_identity, idP_law.1, idP_law.2, form_id]; rfl
def tMulBase : TF := fun args => match args with
  | [.agg [.ints .u8 32 s]] => some (areB s 32 0, b32 (formS (mulS baseS (hval s 32 0))))
  | _ => none
theorem c_mulBase : fnChk prog (envP tt ex13 []) f_edwards_MulBase = true := by kernel_rfl
theorem k_mulBase (s : Nat → Int) : outP (apFunc (envP tt ex13 []) [] 5 f_edwards_MulBase [u8s 32 s] []) = some (ckL [bdP (lf basL) && areB (ld0 s) 32 0, bdP (lf (r20 (tmV (n20 (lf basL)) (n32 s) 64)))], b32 (formS (vP (lf (r20 (tmV (n20 (lf basL)) (n32 s) 64)))))) := by kernel_rfl
theorem r_mulBase : TRow prog F_edwards_MulBase tMulBase := by
  intro args r h
  unfold tMulBase at h
  split at h
  case h_2 => simp at h
  rename_i s
  simp only [Option.some.injEq, Prod.mk.injEq] at h
  obtain ⟨hs, rfl⟩ := h
  refine pure_of_out X13 at_edwards_MulBase c_mulBase (N := 5) (gs := []) ?_
  obtain ⟨h3, h4⟩ := tm_law (s := s) bas_law.1
  have e := k_mulBase s
  rw [ld0_eq, bas_law.1, hs, h3, h4, bas_law.2, mulS_of hs] at e
  exact e
def isIdS (q : Q4) : Bool := decide (q.1 = 0) && decide (q.2.1 = q.2.2.1)
def tIsId : TF := fun args => match args with
  | [.agg [.ints .u64 20 p]] => some (bdP p, .sc (.bool (isIdS (vP p))))
  | _ => none
theorem c_isId : fnChk prog (envP tt ex13 []) f_edwards_point_isIdentity = true := by kernel_rfl
theorem k_isIdt (p : Nat → Int) : outP (apFunc (envP tt ex13 []) [(6, true)] 5 f_edwards_point_isIdentity [pt p] []) = some (ckL [(bd5 (px p) && true) && (decide (fm (px p) = 0) == true), bd5 (py p) && bd5 (pz p)], .sc (.bool (decide (fm (py p) = fm (pz p))))) := by kernel_rfl
theorem k_isIdf (p : Nat → Int) : outP (apFunc (envP tt ex13 []) [(6, false)] 5 f_edwards_point_isIdentity [pt p] []) = some (ckL [(bd5 (px p) && true) && (decide (fm (px p) = 0) == false)], .sc (.bool false)) := by kernel_rfl
theorem r_isId : TRow prog F_edwards_point_isIdentity tIsId := by
  intro args r h
  unfold tIsId at h
  split at h
  case h_2 => simp at h
  rename_i p
  simp only [Option.some.injEq, Prod.mk.injEq] at h
  obtain ⟨hp, rfl⟩ := h
  obtain ⟨h1, h2, h3, h4⟩ := bdP_t.1 hp
  have e : isIdS (vP p) = (decide (fm (px p) = 0) && decide (fm (py p) = fm (pz p))) := rfl
  rw [e]
  cases h0 : decide (fm (px p) = 0) with
  | true =>
    refine pure_of_out X13 at_edwards_point_isIdentity c_isId (N := 5) (gs := [(6, true)]) ?_
    have e := k_isIdt p
    rw [h0, h1, h2, h3] at e
    exact e
  | false =>
    refine pure_of_out X13 at_edwards_point_isIdentity c_isId (N := 5) (gs := [(6, false)]) ?_
    have e := k_isIdf p
    rw [h0, h1] at e
    exact e
def tOrder4 : TF := fun args => match args with
  | [] => some (true, b32 ordL)
  | _ => none
theorem c_order4 : fnChk prog (envP tt ex13 []) f_edwards_order = true := by kernel_rfl
theorem r_order4 : TRow prog F_edwards_order tOrder4 := by
  intro args r h
  unfold tOrder4 at h
  split at h
  case h_2 => simp at h
  simp only [Option.some.injEq, Prod.mk.injEq, true_and] at h
  subst h
  exact pure_of_out X13 at_edwards_order c_order4 (N := 5) (gs := []) (by kernel_rfl)
noncomputable def ex14 : List (Nat × TF) := (F_edwards_order, tOrder4) :: (F_edwards_point_isIdentity, tIsId) :: (F_edwards_MulBase, tMulBase) :: (F_edwards_Identity, tIdentity) :: (F_edwards_Check, tCheck) :: ex13
theorem X14 : LibOK prog tt ex14 [] := ((((X13.addT r_check).addT r_identity).addT r_mulBase).addT r_isId).addT r_order4
def prS (w : Int) : Bool := opOk w && isIdS (mulS (openS w) ordL)
def tIsPrime : TF := fun args => match args with
  | [.agg [.ints .u8 32 b]] => some (areB b 32 0, .tup [.sc (.bool (prS (hval b 32 0))), .sc (.int .i64 (bif opOk (hval b 32 0) then 0 else 41))])
  | _ => none
theorem c_isPrime : fnChk prog (envP tt ex14 []) f_edwards_IsPrime = true := by kernel_rfl
theorem k_isPrime1 (b : Nat → Int) : outP (apFunc (envP tt ex14 []) [(12, true)] 5 f_edwards_IsPrime [u8s 32 b] []) = some (ckL [areB (ld0 b) 32 0, (!opOk (hval (ld0 b) 32 0)) == true], .tup [.sc (.bool false), .sc (.int .i64 41)]) := by kernel_rfl
def ldP_edw (b : Nat → Int) : List Int := tabL (lf (opFs b)) 20 0
set_option maxRecDepth 100000 in
theorem k_isPrime2 (b : Nat → Int) : outP (apFunc (envP tt ex14 []) [(12, false)] 5 f_edwards_IsPrime [u8s 32 b] []) =
    some (ckL [areB (ld0 b) 32 0, (!opOk (hval (ld0 b) 32 0)) == false, bdP (lf (ldP_edw (ld0 b))) && areB (lf (byL 32 ordL)) 32 0, bdP (lf (r20 (tmV (n20 (lf (ldP_edw (ld0 b)))) (n32 (lf (byL 32 ordL))) 64)))],
      .tup [.sc (.bool (isIdS (vP (lf (r20 (tmV (n20 (lf (ldP_edw (ld0 b)))) (n32 (lf (byL 32 ordL))) 64)))))), .sc (.int .i64 0)]) := by kernel_rfl
theorem ldP_law {b : Nat → Int} (hb : areB b 32 0 = true) (ho : opOk (hval b 32 0) = true) : bdP (lf (ldP_edw b)) = true ∧ vP (lf (ldP_edw b)) = openS (hval b 32 0) := by
  obtain ⟨h1, h2⟩ := opLs_law hb ho
  exact ⟨h1, h2⟩
theorem ordB : areB (lf (byL 32 ordL)) 32 0 = true ∧ hval (lf (byL 32 ordL)) 32 0 = ordL := ⟨areB_b32 _, hval_b32 (by decide) (by decide)⟩
theorem r_isPrime : TRow prog F_edwards_IsPrime tIsPrime := by
  intro args r h
  unfold tIsPrime at h
  split at h
  case h_2 => simp at h
  rename_i b
  simp only [Option.some.injEq, Prod.mk.injEq] at h
  obtain ⟨hb, rfl⟩ := h
  unfold prS
  cases ho : opOk (hval b 32 0) with
  | false =>
    refine pure_of_out X14 at_edwards_IsPrime c_isPrime (N := 5) (gs := [(12, true)]) ?_
    have e := k_isPrime1 b
    rw [ld0_eq, hb, ho] at e
    exact e
  | true =>
    refine pure_of_out X14 at_edwards_IsPrime c_isPrime (N := 5) (gs := [(12, false)]) ?_
    obtain ⟨h1, h2⟩ := ldP_law hb ho
    obtain ⟨h3, h4⟩ := tm_law (s := lf (byL 32 ordL)) h1
    have e := k_isPrime2 b
    have hm : tmSp (openS (hval b 32 0)) (lf (byL 32 ordL)) 64 = mulS (openS (hval b 32 0)) ordL := rfl
    rw [ld0_eq, hb, ho, h1, ordB.1, h3, h4, h2, hm] at e
    generalize mulS (openS (hval b 32 0)) ordL = q at e ⊢
    exact e
noncomputable def ex15 : List (Nat × TF) := (F_edwards_IsPrime, tIsPrime) :: ex14
theorem X15 : LibOK prog tt ex15 [] := (X14.addT r_isPrime)
def tEMul : TF := fun args => match args with
  | [.agg [.ints .u8 32 s], .agg [.ints .u8 32 b]] => some (areB b 32 0 && areB s 32 0, .tup [b32 (bif opOk (hval b 32 0) then formS (mulS (openS (hval b 32 0)) (hval s 32 0)) else 0), .sc (.int .i64 (bif opOk (hval b 32 0) then 0 else 41))])
  | _ => none
end Go.Proofs.YtbogcehngfjlkabGreat
