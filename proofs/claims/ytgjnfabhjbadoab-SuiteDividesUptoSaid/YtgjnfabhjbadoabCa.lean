/-
  Rows of the package scalar. Rows: products of words. Montgomery's product: the row. Montgomery's product: the loop's row. Montgomery's product: what is reckoned. Rows of the package scalar: products, Reduce of 64 bytes, Decode.
-/
import Derived.Test.YtgjnfabhjbadoabTy
import Derived.Test.YtgjnfabhjbadoabBa
import Derived.Test.YtgjnfabhjbadoabAd
namespace Go.Proofs.Ytgjnfabhjbadoab
open Go.Proofs.Try
open Go Go.AM

theorem L0 : LibOK prog tt [] [] := LibOK.nil mix tt_ok
def ts1 : List (Nat × TF) := [(F_bits_Sub64, tSub64), (F_bits_Add64, tAdd64)]
theorem L1 : LibOK prog tt ts1 [] :=
  (L0.addT (row_Add64 at_bits_Add64 (by kernel_rfl) (by kernel_rfl) (by kernel_rfl) (by kernel_rfl))).addT (row_Sub64 at_bits_Sub64 (by kernel_rfl) (by kernel_rfl) (by kernel_rfl) (by kernel_rfl))

def tLess : TF := fun args => match args with
  | [.agg [.ints .u64 4 a], .agg [.ints .u64 4 b]] => some (inU4 a && inU4 b, .tup [n4 (if val4 a < val4 b then val4 a - val4 b + 115792089237316195423570985008687907853269984665640564039457584007913129639936 else val4 a - val4 b), .sc (.bit (decide (val4 a < val4 b)))])
  | _ => none
def lessCk (a b : Nat → Int) : Bool := ckL [inU (a 0) && inU (b 0), inU (a 1) && inU (b 1), inU (a 2) && inU (b 2), inU (a 3) && inU (b 3)]
theorem c_less : fnChk prog (envP tt ts1 []) f_scalar_less = true := by kernel_rfl
theorem k_less (a b : Nat → Int) : outP (apFunc (envP tt ts1 []) [] 50 f_scalar_less [u4 a, u4 b] []) = some (lessCk a b, .tup [u4 (lf (lessL a b)), .sc (.bit (brK a b 4))]) := by kernel_rfl
theorem r_less : TRow prog F_scalar_less tLess := by
  intro args r h
  unfold tLess at h
  split at h
  case h_2 => simp at h
  rename_i a b
  simp only [Option.some.injEq, Prod.mk.injEq, Bool.and_eq_true] at h
  obtain ⟨⟨ha, hb⟩, rfl⟩ := h
  refine pure_of_out L1 at_scalar_less c_less (N := 50) (gs := []) ?_
  have := k_less a b
  simp only [u4] at this
  rw [this, (less_law ha hb).1, (less_law ha hb).2]
  have hc : lessCk a b = true := by
    simp only [inU4, Bool.and_eq_true] at ha hb
    simp [lessCk, ckL, ha, hb]
  rw [hc]; rfl

def tOrder : TF := fun args => match args with
  | [] => some (true, n4 ordL)
  | _ => none
theorem c_order : fnChk prog (envP tt ts1 []) f_scalar_order = true := by kernel_rfl
theorem r_order : TRow prog F_scalar_order tOrder := by
  intro args r h
  unfold tOrder at h
  split at h
  case h_2 => simp at h
  simp only [Option.some.injEq, Prod.mk.injEq, true_and] at h
  subst h
  exact pure_of_out L1 at_scalar_order c_order (N := 50) (gs := []) (by kernel_rfl)

def ts2 : List (Nat × TF) := (F_scalar_order, tOrder) :: (F_scalar_less, tLess) :: ts1
theorem L2 : LibOK prog tt ts2 [] := (L1.addT r_less).addT r_order

def tLowered : TF := fun args => match args with
  | [.agg [.ints .u64 4 a]] => some (inU4 a, n4 (low (val4 a)))
  | _ => none
theorem c_lowered : fnChk prog (envP tt ts2 []) f_scalar_lowered = true := by kernel_rfl
theorem k_low1 (a : Nat → Int) : outP (apFunc (envP tt ts2 []) [(12, true)] 50 f_scalar_lowered [u4 a] []) =
    some (ckL [inU4 a && inU4 (limbs4 ordL), (b2i (decide (val4 a < val4 (limbs4 ordL))) == 0) == true], n4 (if val4 a < val4 (limbs4 ordL) then val4 a - val4 (limbs4 ordL) + 115792089237316195423570985008687907853269984665640564039457584007913129639936 else val4 a - val4 (limbs4 ordL))) := by kernel_rfl
theorem k_low2 (a : Nat → Int) : outP (apFunc (envP tt ts2 []) [(12, false)] 50 f_scalar_lowered [u4 a] []) =
    some (ckL [inU4 a && inU4 (limbs4 ordL), (b2i (decide (val4 a < val4 (limbs4 ordL))) == 0) == false], u4 (lf [a 0, a 1, a 2, a 3])) := by kernel_rfl
theorem r_lowered : TRow prog F_scalar_lowered tLowered := by
  intro args r h
  unfold tLowered at h
  split at h
  case h_2 => simp at h
  rename_i a
  simp only [Option.some.injEq, Prod.mk.injEq] at h
  obtain ⟨ha, rfl⟩ := h
  have hr := val4_range ha
  have ho := inU4_limbs ordL
  by_cases hlt : val4 a < ordL
  · refine pure_of_out L2 at_scalar_lowered c_lowered (N := 50) (gs := [(12, false)]) ?_
    have := k_low2 a
    simp only [u4] at this
    rw [this, limbs_self ha, val4_ordL]
    simp [ckL, ha, ho, hlt, b2i, low, n4, u4]
  · refine pure_of_out L2 at_scalar_lowered c_lowered (N := 50) (gs := [(12, true)]) ?_
    have := k_low1 a
    simp only [u4] at this
    rw [this, val4_ordL]
    simp [ckL, ha, ho, hlt, b2i, low, n4, u4]
def ts3 : List (Nat × TF) := (F_scalar_lowered, tLowered) :: ts2
theorem L3 : LibOK prog tt ts3 [] := L2.addT r_lowered

def tPlus : TF := fun args => match args with
  | [.agg [.ints .u64 4 a], .agg [.ints .u64 4 b]] => some (inU4 a && inU4 b, n4 (low ((val4 a + val4 b) % 115792089237316195423570985008687907853269984665640564039457584007913129639936)))
  | _ => none
theorem c_plus : fnChk prog (envP tt ts3 []) f_scalar_plus = true := by kernel_rfl
theorem k_plus (a b : Nat → Int) : outP (apFunc (envP tt ts3 []) [] 50 f_scalar_plus [u4 a, u4 b] []) = some (ckL [inU (a 0) && inU (b 0), inU (a 1) && inU (b 1), inU (a 2) && inU (b 2), inU (a 3) && inU (b 3), inU4 (lf (plusL a b))], n4 (low (val4 (lf (plusL a b))))) := by kernel_rfl
theorem r_plus : TRow prog F_scalar_plus tPlus := by
  intro args r h
  unfold tPlus at h
  split at h
  case h_2 => simp at h
  rename_i a b
  simp only [Option.some.injEq, Prod.mk.injEq, Bool.and_eq_true] at h
  obtain ⟨⟨ha, hb⟩, rfl⟩ := h
  refine pure_of_out L3 at_scalar_plus c_plus (N := 50) (gs := []) ?_
  have := k_plus a b
  simp only [u4] at this
  rw [this, plus_law ha hb, val4_limbs (by omega) (by omega)]
  simp only [inU4, Bool.and_eq_true] at ha hb
  simp [ckL, ha, hb, inU4_limbs]
def ts4 : List (Nat × TF) := (F_scalar_plus, tPlus) :: ts3
theorem L4 : LibOK prog tt ts4 [] := L3.addT r_plus

def tFrom : TF := fun args => match args with
  | [.agg [.ints .u8 32 s]] => some (areB s 32 0, n4 (hval s 32 0))
  | _ => none
theorem c_from : fnChk prog (envP tt ts4 []) f_scalar_from = true := by kernel_rfl
theorem k_from (s : Nat → Int) : outP (apFunc (envP tt ts4 []) [] 50 f_scalar_from [u8s 32 s] []) = some (true, u4 (lf [orB s 0 8, orB s 1 8, orB s 2 8, orB s 3 8])) := by kernel_rfl
theorem r_from : TRow prog F_scalar_from tFrom := by
  intro args r h
  unfold tFrom at h
  split at h
  case h_2 => simp at h
  rename_i s
  simp only [Option.some.injEq, Prod.mk.injEq] at h
  obtain ⟨hs, rfl⟩ := h
  refine pure_of_out L4 at_scalar_from c_from (N := 50) (gs := []) ?_
  have := k_from s
  simp only [u8s] at this
  rw [this, from_law hs]; rfl

def tBack : TF := fun args => match args with
  | [.agg [.ints .u64 4 a]] => some (inU4 a, b32 (val4 a))
  | _ => none
theorem c_back : fnChk prog (envP tt ts4 []) f_scalar_back = true := by kernel_rfl
theorem k_back (a : Nat → Int) : outP (apFunc (envP tt ts4 []) [] 50 f_scalar_back [u4 a] []) = some (true, u8s 32 (lf (backL a))) := by kernel_rfl
theorem r_back : TRow prog F_scalar_back tBack := by
  intro args r h
  unfold tBack at h
  split at h
  case h_2 => simp at h
  rename_i a
  simp only [Option.some.injEq, Prod.mk.injEq] at h
  obtain ⟨hs, rfl⟩ := h
  refine pure_of_out L4 at_scalar_back c_back (N := 50) (gs := []) ?_
  have := k_back a
  simp only [u4] at this
  rw [this, back_law hs]; rfl

def ts5 : List (Nat × TF) := (F_scalar_back, tBack) :: (F_scalar_from, tFrom) :: ts4
theorem L5 : LibOK prog tt ts5 [] := (L4.addT r_from).addT r_back

def tValue : TF := fun args => match args with
  | [.agg [.ints .u8 32 s]] => some (areB s 32 0, n4 (hval s 32 0 % ordL))
  | _ => none
theorem c_value : fnChk prog (envP tt ts5 []) f_scalar_value = true := by kernel_rfl
theorem k_value (s : Nat → Int) : outP (apFunc (envP tt ts5 []) [] 50 f_scalar_value [u8s 32 s] []) = some (ckL (areB s 32 0 :: (List.range 16).map fun k => inU4 (limbs4 (wl s k))), u4 (lf [limbs4 (wl s 16) 0, limbs4 (wl s 16) 1, limbs4 (wl s 16) 2, limbs4 (wl s 16) 3])) := by kernel_rfl
theorem r_value : TRow prog F_scalar_value tValue := by
  intro args r h
  unfold tValue at h
  split at h
  case h_2 => simp at h
  rename_i s
  simp only [Option.some.injEq, Prod.mk.injEq] at h
  obtain ⟨hs, rfl⟩ := h
  refine pure_of_out L5 at_scalar_value c_value (N := 50) (gs := []) ?_
  have := k_value s
  simp only [u8s] at this
  rw [this, wl16 hs]
  have hc : ckL (areB s 32 0 :: (List.range 16).map fun k => inU4 (limbs4 (wl s k))) = true := by
    rw [ckL_t]
    intro b hb
    simp only [List.mem_cons, List.mem_map] at hb
    rcases hb with rfl | ⟨k, _, rfl⟩
    · exact hs
    · exact inU4_limbs _
  rw [hc]; rfl

def ts6 : List (Nat × TF) := (F_scalar_value, tValue) :: ts5
theorem L6 : LibOK prog tt ts6 [] := L5.addT r_value

def tIsZero : TF := fun args => match args with
  | [.agg [.ints .u8 32 s]] => some (areB s 32 0, .sc (.bool (decide (hval s 32 0 % ordL = 0))))
  | _ => none
theorem c_isZero : fnChk prog (envP tt ts6 []) f_scalar_IsZero = true := by kernel_rfl
theorem k_isZero (s : Nat → Int) : outP (apFunc (envP tt ts6 []) [] 50 f_scalar_IsZero [u8s 32 s] []) = some (ckL [areB s 32 0], .sc (.bool (eqN 4 (limbs4 (hval s 32 0 % ordL)) (fun _ => 0) && true))) := by kernel_rfl
theorem r_isZero : TRow prog F_scalar_IsZero tIsZero := by
  intro args r h
  unfold tIsZero at h
  split at h
  case h_2 => simp at h
  rename_i s
  simp only [Option.some.injEq, Prod.mk.injEq] at h
  obtain ⟨hs, rfl⟩ := h
  refine pure_of_out L6 at_scalar_IsZero c_isZero (N := 50) (gs := []) ?_
  have := k_isZero s
  simp only [u8s] at this
  have hr := modL_range (hval s 32 0)
  rw [this, eqN_zero hr.1 (by omega), Bool.and_true]
  simp [ckL, hs]

def tAdd : TF := fun args => match args with
  | [.agg [.ints .u8 32 s], .agg [.ints .u8 32 t]] => some (areB s 32 0 && areB t 32 0, b32 ((hval s 32 0 + hval t 32 0) % ordL))
  | _ => none
theorem c_add : fnChk prog (envP tt ts6 []) f_scalar_Add = true := by kernel_rfl
theorem k_add (s t : Nat → Int) : outP (apFunc (envP tt ts6 []) [] 50 f_scalar_Add [u8s 32 s, u8s 32 t] []) =
    some (ckL [areB s 32 0, areB t 32 0, inU4 (limbs4 (hval s 32 0 % ordL)) && inU4 (limbs4 (hval t 32 0 % ordL)), inU4 (limbs4 (low ((val4 (limbs4 (hval s 32 0 % ordL)) + val4 (limbs4 (hval t 32 0 % ordL))) % 115792089237316195423570985008687907853269984665640564039457584007913129639936)))],
      normA (b32 (val4 (limbs4 (low ((val4 (limbs4 (hval s 32 0 % ordL)) + val4 (limbs4 (hval t 32 0 % ordL))) % 115792089237316195423570985008687907853269984665640564039457584007913129639936)))))) := by kernel_rfl
theorem norm_b32 (x : Int) : normA (b32 x) = b32 x := rfl
theorem r_add : TRow prog F_scalar_Add tAdd := by
  intro args r h
  unfold tAdd at h
  split at h
  case h_2 => simp at h
  rename_i s t
  simp only [Option.some.injEq, Prod.mk.injEq, Bool.and_eq_true] at h
  obtain ⟨⟨hs, ht⟩, rfl⟩ := h
  refine pure_of_out L6 at_scalar_Add c_add (N := 50) (gs := []) ?_
  have := k_add s t
  simp only [u8s] at this
  have h1 := modL_range (hval s 32 0)
  have h2 := modL_range (hval t 32 0)
  have h3 := modL_range (hval s 32 0 + hval t 32 0)
  rw [this, val4_limbs h1.1 (by omega), val4_limbs h2.1 (by omega), low_add, val4_limbs h3.1 (by omega), norm_b32]
  simp [ckL, hs, ht, inU4_limbs]
end Go.Proofs.Ytgjnfabhjbadoab

namespace Go.Proofs.Ytgjnfabhjbadoab
open Go.Proofs.Try
open Go Go.AM
def tMul64 : TF := fun args => match args with
  | [.sc (.int .u64 x), .sc (.int .u64 y)] => some (inU x && inU y, .tup [.sc (.int .u64 (x * y / 18446744073709551616)), .sc (.int .u64 (x * y % 18446744073709551616))])
  | _ => none
theorem c_mul64 : fnChk prog (envP tt ts6 []) f_bits_Mul64 = true := by kernel_rfl
theorem k_mul64 (x y : Int) : outP (apFunc (envP tt ts6 []) [] 50 f_bits_Mul64 [.sc (.int .u64 x), .sc (.int .u64 y)] []) = some (true, .tup [.sc (.int .u64 (mHi x y)), .sc (.int .u64 (wr .u64 (x * y)))]) := by kernel_rfl
theorem r_mul64 : TRow prog F_bits_Mul64 tMul64 := by
  intro args r h
  unfold tMul64 at h
  split at h
  case h_2 => simp at h
  rename_i x y
  simp only [Option.some.injEq, Prod.mk.injEq, Bool.and_eq_true] at h
  obtain ⟨⟨hx, hy⟩, rfl⟩ := h
  refine pure_of_out L6 at_bits_Mul64 c_mul64 (N := 50) (gs := []) ?_
  rw [k_mul64 x y, mHi_law (inU_t hx) (inU_t hy), wr64]
def ts7 : List (Nat × TF) := (F_bits_Mul64, tMul64) :: ts6
theorem L7 : LibOK prog tt ts7 [] := L6.addT r_mul64
def tMuladd : TF := fun args => match args with
  | [.sc (.int .u64 a), .sc (.int .u64 b), .sc (.int .u64 x), .sc (.int .u64 c)] => some (inU a && (inU b && (inU x && inU c)), .tup [.sc (.int .u64 ((a * b + x + c) / 18446744073709551616)), .sc (.int .u64 ((a * b + x + c) % 18446744073709551616))])
  | _ => none
theorem c_muladd : fnChk prog (envP tt ts7 []) f_scalar_muladd = true := by kernel_rfl
def muladdV (a b x c : Int) : AV :=
  let lo := a * b % 18446744073709551616
  let lo2 := addLo lo x false
  .tup [.sc (.int .u64 (wr .u64 (wr .u64 (a * b / 18446744073709551616 + b2i (addC lo x false)) + b2i (addC lo2 c false)))), .sc (.int .u64 (addLo lo2 c false))]
theorem k_muladd (a b x c : Int) : outP (apFunc (envP tt ts7 []) [] 50 f_scalar_muladd [.sc (.int .u64 a), .sc (.int .u64 b), .sc (.int .u64 x), .sc (.int .u64 c)] []) =
    some (ckL [inU a && inU b, inU (a * b % 18446744073709551616) && inU x, inU (addLo (a * b % 18446744073709551616) x false) && inU c], muladdV a b x c) := by kernel_rfl
theorem r_muladd : TRow prog F_scalar_muladd tMuladd := by
  intro args r h
  unfold tMuladd at h
  split at h
  case h_2 => simp at h
  rename_i a b x c
  simp only [Option.some.injEq, Prod.mk.injEq, Bool.and_eq_true] at h
  obtain ⟨⟨ha, hb, hx, hc⟩, rfl⟩ := h
  refine pure_of_out L7 at_scalar_muladd c_muladd (N := 50) (gs := []) ?_
  obtain ⟨e1, e2⟩ := muladd_law (inU_t ha) (inU_t hb) (inU_t hx) (inU_t hc)
  rw [k_muladd a b x c]
  simp only [muladdV, e1, e2]
  simp [ckL, ha, hb, hx, hc, inU_mod, inU_addLo]
def ts8 : List (Nat × TF) := (F_scalar_muladd, tMuladd) :: ts7
theorem L8 : LibOK prog tt ts8 [] := L7.addT r_muladd
def tRadix : TF := fun args => match args with
  | [] => some (true, u4 (lf [11819153939886771969, 14991950615390032711, 14910419812499177061, 259310039853996605]))
  | _ => none
theorem c_radix : fnChk prog (envP tt ts8 []) f_scalar_radix = true := by kernel_rfl
theorem r_radix : TRow prog F_scalar_radix tRadix := by
  intro args r h
  unfold tRadix at h
  split at h
  case h_2 => simp at h
  simp only [Option.some.injEq, Prod.mk.injEq, true_and] at h
  subst h
  exact pure_of_out L8 at_scalar_radix c_radix (N := 50) (gs := []) (by kernel_rfl)
def ts9 : List (Nat × TF) := (F_scalar_radix, tRadix) :: ts8
theorem L9 : LibOK prog tt ts9 [] := L8.addT r_radix
end Go.Proofs.Ytgjnfabhjbadoab

namespace Go.Proofs.Ytgjnfabhjbadoab
open Go.Proofs.Try
open Go Go.AM
noncomputable def montB : Code := match f_scalar_mont.body with | some c => (match bodiesOf 0 c with | [.loop b] => b | _ => .skip) | none => .skip
def montT : List (Nat × AV) := [(2, .sc (.ptr 0 4 0 0 4)), (3, .sc (.ptr 1 4 0 0 4)), (4, .sc (.ptr 2 4 0 0 4)), (5, .sc (.ptr 3 4 0 0 4)), (6, .sc (.ptr 4 6 0 0 6))]
def montH (fa fb fr ft : Nat → Int) : Heap := [some (.ints .u64 4 1 (fun _ d => fa d)), some (.ints .u64 4 1 (fun _ d => fb d)), some (.ints .u64 4 1 (fun _ d => fr d)), some (.ints .u64 4 1 (fun _ d => limbs4 ordL d)), some (.ints .u64 6 1 (fun _ d => ft d))]
def montS (k : Nat) (fa fb fr ft : Nat → Int) : St := ⟨tmOf ((14, .sc (.int .i64 (k : Int))) :: montT) 101 0, montH fa fb fr ft⟩
abbrev mE : EnvP := envP tt ts9 []
noncomputable def mRun (k : Nat) (fa fb fr ft : Nat → Int) : Option (Ex × PS) := ap mE [] 20 montB ⟨true, montS k fa fb fr ft⟩
theorem m_c (fa fb fr ft : Nat → Int) (k : Nat) (hk : k < 4) : exP (mRun k fa fb fr ft) = some .normal ∧ (stP (mRun k fa fb fr ft)).ck = ckL (iterCk (fa k) fb ft) ∧ cells 6 (stP (mRun k fa fb fr ft)) 4 = iter (fa k) fb ft ∧
    cells 4 (stP (mRun k fa fb fr ft)) 0 = [fa 0, fa 1, fa 2, fa 3] ∧ cells 4 (stP (mRun k fa fb fr ft)) 1 = [fb 0, fb 1, fb 2, fb 3] ∧ cells 4 (stP (mRun k fa fb fr ft)) 2 = [fr 0, fr 1, fr 2, fr 3] ∧
    cells 4 (stP (mRun k fa fb fr ft)) 3 = [limbs4 ordL 0, limbs4 ordL 1, limbs4 ordL 2, limbs4 ordL 3] ∧ getA (stP (mRun k fa fb fr ft)).st.tm 14 = .sc (.int .i64 ((k + 1 : Nat) : Int)) ∧ (stP (mRun k fa fb fr ft)).st.tm.length = 101 := by
  match k, hk with
  | 0, _ => exact ⟨by kernel_rfl, by kernel_rfl, by kernel_rfl, by kernel_rfl, by kernel_rfl, by kernel_rfl, by kernel_rfl, by kernel_rfl, by kernel_rfl⟩
  | 1, _ => exact ⟨by kernel_rfl, by kernel_rfl, by kernel_rfl, by kernel_rfl, by kernel_rfl, by kernel_rfl, by kernel_rfl, by kernel_rfl, by kernel_rfl⟩
  | 2, _ => exact ⟨by kernel_rfl, by kernel_rfl, by kernel_rfl, by kernel_rfl, by kernel_rfl, by kernel_rfl, by kernel_rfl, by kernel_rfl, by kernel_rfl⟩
  | 3, _ => exact ⟨by kernel_rfl, by kernel_rfl, by kernel_rfl, by kernel_rfl, by kernel_rfl, by kernel_rfl, by kernel_rfl, by kernel_rfl, by kernel_rfl⟩

/-- where a round leaves the places that matter -/
def mPlaces (x : PS) : Bool :=
  let p := fun (v : AV) (id sz : Nat) => match v with | .sc (.ptr a b i c e) => Nat.beq a id && (Nat.beq b sz && (Nat.beq i 0 && (Nat.beq c 0 && Nat.beq e sz))) | _ => false
  Nat.ble 5 x.st.hp.length && (p (getA x.st.tm 2) 0 4 && (p (getA x.st.tm 3) 1 4 && (p (getA x.st.tm 4) 2 4 && (p (getA x.st.tm 5) 3 4 && p (getA x.st.tm 6) 4 6))))
def mShape (x : PS) : List (Option (IntKind × (Nat × Nat))) := [AM.shape x 0, AM.shape x 1, AM.shape x 2, AM.shape x 3, AM.shape x 4]
theorem m_p (fa fb fr ft : Nat → Int) (k : Nat) (hk : k < 4) : mPlaces (stP (mRun k fa fb fr ft)) = true ∧ mShape (stP (mRun k fa fb fr ft)) = [some (.u64, 4, 1), some (.u64, 4, 1), some (.u64, 4, 1), some (.u64, 4, 1), some (.u64, 6, 1)] := by
  match k, hk with
  | 0, _ => exact ⟨by kernel_rfl, by kernel_rfl⟩
  | 1, _ => exact ⟨by kernel_rfl, by kernel_rfl⟩
  | 2, _ => exact ⟨by kernel_rfl, by kernel_rfl⟩
  | 3, _ => exact ⟨by kernel_rfl, by kernel_rfl⟩
theorem m_stop (fa fb fr ft : Nat → Int) : exP (mRun 4 fa fb fr ft) = some (.exit 0) ∧ (stP (mRun 4 fa fb fr ft)).ck = true ∧ mPlaces (stP (mRun 4 fa fb fr ft)) = true ∧
    mShape (stP (mRun 4 fa fb fr ft)) = [some (.u64, 4, 1), some (.u64, 4, 1), some (.u64, 4, 1), some (.u64, 4, 1), some (.u64, 6, 1)] ∧ (stP (mRun 4 fa fb fr ft)).st.hp = montH fa fb fr ft := by
  exact ⟨by kernel_rfl, by kernel_rfl, by kernel_rfl, by kernel_rfl, by kernel_rfl⟩

theorem mPlaces_t {x : PS} (h : mPlaces x = true) : 5 ≤ x.st.hp.length ∧ getA x.st.tm 2 = .sc (.ptr 0 4 0 0 4) ∧ getA x.st.tm 3 = .sc (.ptr 1 4 0 0 4) ∧ getA x.st.tm 4 = .sc (.ptr 2 4 0 0 4) ∧ getA x.st.tm 5 = .sc (.ptr 3 4 0 0 4) ∧ getA x.st.tm 6 = .sc (.ptr 4 6 0 0 6) := by
  have q : ∀ (v : AV) (id sz : Nat), (match v with | .sc (.ptr a b i c e) => Nat.beq a id && (Nat.beq b sz && (Nat.beq i 0 && (Nat.beq c 0 && Nat.beq e sz))) | _ => false) = true → v = .sc (.ptr id sz 0 0 sz) := by
    intro v id sz hv
    split at hv
    · simp only [Bool.and_eq_true, beq_t] at hv
      obtain ⟨rfl, rfl, rfl, rfl, rfl⟩ := hv; rfl
    · simp at hv
  simp only [mPlaces, Bool.and_eq_true, ble_t] at h
  obtain ⟨h0, h2, h3, h4, h5, h6⟩ := h
  exact ⟨h0, q _ _ _ h2, q _ _ _ h3, q _ _ _ h4, q _ _ _ h5, q _ _ _ h6⟩

theorem mSide (k : Nat) : montT.all (fun p => Nat.ble p.1 100) = true := by decide
/-- what lies behind a round is what the next begins with -/
theorem m_next {x : PS} {fa fb fr ft g : Nat → Int} {k : Nat} (hp : mPlaces x = true) (hs : mShape x = [some (.u64, 4, 1), some (.u64, 4, 1), some (.u64, 4, 1), some (.u64, 4, 1), some (.u64, 6, 1)])
    (h0 : cells 4 x 0 = tabL fa 4 0) (h1 : cells 4 x 1 = tabL fb 4 0) (h2 : cells 4 x 2 = tabL fr 4 0) (h3 : cells 4 x 3 = tabL (limbs4 ordL) 4 0) (h4 : cells 6 x 4 = tabL g 6 0)
    (ht : getA x.st.tm 14 = .sc (.int .i64 (k : Int))) (hl : x.st.tm.length = 101) : StLe x.st (montS k fa fb fr g) := by
  obtain ⟨p0, p2, p3, p4, p5, p6⟩ := mPlaces_t hp
  simp only [mShape, List.cons.injEq, and_true] at hs
  obtain ⟨s0, s1, s2, s3, s4⟩ := hs
  refine ⟨tmOf_le (n := 5) hl ?_, p0, fun id c hc => ?_⟩
  · intro p hpm
    simp only [montT, List.mem_cons, List.not_mem_nil, or_false] at hpm
    rcases hpm with rfl | rfl | rfl | rfl | rfl | rfl
    · rw [ht]; exact ALe.sc (SLe.int _ _ _)
    · rw [p2]; exact ALe.sc (SLe.ptr (by omega) _ _ _ _)
    · rw [p3]; exact ALe.sc (SLe.ptr (by omega) _ _ _ _)
    · rw [p4]; exact ALe.sc (SLe.ptr (by omega) _ _ _ _)
    · rw [p5]; exact ALe.sc (SLe.ptr (by omega) _ _ _ _)
    · rw [p6]; exact ALe.sc (SLe.ptr (by omega) _ _ _ _)
  · match id with
    | 0 => simp only [montS, montH, List.getElem?_cons_zero, Option.some.injEq] at hc; subst hc; exact cells_ble s0 h0
    | 1 => simp only [montS, montH, List.getElem?_cons_succ, List.getElem?_cons_zero, Option.some.injEq] at hc; subst hc; exact cells_ble s1 h1
    | 2 => simp only [montS, montH, List.getElem?_cons_succ, List.getElem?_cons_zero, Option.some.injEq] at hc; subst hc; exact cells_ble s2 h2
    | 3 => simp only [montS, montH, List.getElem?_cons_succ, List.getElem?_cons_zero, Option.some.injEq] at hc; subst hc; exact cells_ble s3 h3
    | 4 => simp only [montS, montH, List.getElem?_cons_succ, List.getElem?_cons_zero, Option.some.injEq] at hc; subst hc; exact cells_ble s4 h4
    | n + 5 => simp [montS, montH] at hc
theorem inU4_at {f : Nat → Int} (h : inU4 f = true) : ∀ k, k < 4 → 0 ≤ f k ∧ f k < 18446744073709551616
  | 0, _ => (inU4_t h).1
  | 1, _ => (inU4_t h).2.1
  | 2, _ => (inU4_t h).2.2.1
  | 3, _ => (inU4_t h).2.2.2
  | n + 4, h => by omega
theorem m_am {fa fb fr ft : Nat → Int} {k : Nat} {e : Ex} (he : exP (mRun k fa fb fr ft) = some e) (hck : (stP (mRun k fa fb fr ft)).ck = true) : am mE.env 20 montB (montS k fa fb fr ft) = some (e, (stP (mRun k fa fb fr ft)).st) := by
  unfold mRun at *
  exact am_of_ap he hck
theorem m_step (fa fb fr ft : Nat → Int) (k : Nat) (hk : k < 4) (ha : inU4 fa = true) (hb : inU4 fb = true) (ht : inU5 ft = true) :
    ∃ s1, am mE.env 20 montB (montS k fa fb fr ft) = some (.normal, s1) ∧ StLe s1 (montS (k + 1) fa fb fr (lf (iter (fa k) fb ft))) := by
  have hk' := inU4_at ha k hk
  have hc := iterCk_law hk' hb ht
  obtain ⟨e1, e2, e3, e4, e5, e6, e7, e8, e9⟩ := m_c fa fb fr ft k hk
  obtain ⟨q1, q2⟩ := m_p fa fb fr ft k hk
  generalize hx : mRun k fa fb fr ft = x at *
  rw [hc] at e2
  have := m_am (k := k) (fa := fa) (fb := fb) (fr := fr) (ft := ft) (e := .normal) (by rw [hx]; exact e1) (by rw [hx]; exact e2)
  rw [hx] at this
  refine ⟨_, this, m_next (ft := ft) q1 q2 e4 e5 e6 e7 ?_ e8 e9⟩
  rw [e3]; rfl
end Go.Proofs.Ytgjnfabhjbadoab

namespace Go.Proofs.Ytgjnfabhjbadoab
open Go.Proofs.Try
open Go Go.AM
def isP (v : AV) (id sz : Nat) : Bool := match v with | .sc (.ptr a b i c e) => Nat.beq a id && (Nat.beq b sz && (Nat.beq i 0 && (Nat.beq c 0 && Nat.beq e sz))) | _ => false
def isI (v : AV) (n : Int) : Bool := match v with | .sc (.int .i64 x) => decide (x = n) | _ => false
def isB4 (k : IntKind) (s n sz : Nat) : Bool := kEq k .u64 && (Nat.beq s sz && Nat.beq n 1)
def montF : LF := fun s => match s.hp with
  | [some (.ints k0 s0 n0 fa), some (.ints k1 s1 n1 fb), some (.ints k2 s2 n2 fr), some (.ints k3 s3 n3 fo), some (.ints k4 s4 n4 ft)] =>
    some ((isB4 k0 s0 n0 4 && (isB4 k1 s1 n1 4 && (isB4 k2 s2 n2 4 && (isB4 k3 s3 n3 4 && isB4 k4 s4 n4 6)))) &&
      ((isP (getA s.tm 2) 0 4 && (isP (getA s.tm 3) 1 4 && (isP (getA s.tm 4) 2 4 && (isP (getA s.tm 5) 3 4 && isP (getA s.tm 6) 4 6)))) &&
      (isI (getA s.tm 14) 0 && (Nat.beq s.tm.length 101 && (eqN 4 (fo 0) (limbs4 ordL) && (eqN 6 (ft 0) (lf [0, 0, 0, 0, 0, 0]) && (inU4 (fa 0) && inU4 (fb 0))))))),
      (.normal, ⟨tmOf montT 101 0, montH (fa 0) (fb 0) (fr 0) (lf (tK (fa 0) (fb 0) 4))⟩))
  | _ => none

theorem mb : f_scalar_mont.body.map (bodiesOf 0) = some [.loop montB] := by kernel_rfl
theorem mok : codeOK prog mE.env.isW montB = true := by kernel_rfl
theorem isP_t {v : AV} {id sz : Nat} (h : isP v id sz = true) : v = .sc (.ptr id sz 0 0 sz) := by
  unfold isP at h
  split at h
  · simp only [Bool.and_eq_true, beq_t] at h
    obtain ⟨rfl, rfl, rfl, rfl, rfl⟩ := h; rfl
  · simp at h
theorem isI_t {v : AV} {n : Int} (h : isI v n = true) : v = .sc (.int .i64 n) := by
  unfold isI at h
  split at h
  · rw [dec_t.1 h]
  · simp at h
theorem isB4_t {k : IntKind} {s n sz : Nat} (h : isB4 k s n sz = true) : k = .u64 ∧ s = sz ∧ n = 1 := by
  simpa only [isB4, Bool.and_eq_true, kEq_t, beq_t] using h
theorem eqN_t {n : Nat} {f g : Nat → Int} (h : eqN n f g = true) : ∀ c, c < n → f c = g c := fun c hc => by
  have := List.all_eq_true.1 h c (by simpa using hc)
  simpa using this
theorem l_mont_body : ∀ c, f_scalar_mont.body = some c → ∀ b ∈ bodiesOf 0 c, b = .loop montB := by
  intro c hc b hb
  have := mb
  rw [hc] at this
  simp only [Option.map_some, Option.some.injEq] at this
  rw [this] at hb
  simpa using hb

theorem tK_U {a b : Nat → Int} (ha : inU4 a = true) (hb : inU4 b = true) : ∀ k, k ≤ 4 → inU5 (lf (tK a b k)) = true
  | 0, _ => rfl
  | k + 1, hk => by
    obtain ⟨m, _, _, _, h⟩ := iter_law (inU4_at ha k (by omega)) hb (tK_U ha hb k (by omega))
    exact h
theorem m_len (fa fb fr ft : Nat → Int) : (stP (mRun 4 fa fb fr ft)).st.tm.length = 101 := by kernel_rfl
theorem m_end (fa fb fr ft : Nat → Int) : ∃ s1, am mE.env 20 montB (montS 4 fa fb fr ft) = some (.exit 0, s1) ∧ StLe s1 ⟨tmOf montT 101 0, montH fa fb fr ft⟩ := by
  obtain ⟨e1, e2, e3, _, e5⟩ := m_stop fa fb fr ft
  have el := m_len fa fb fr ft
  have ha := m_am (k := 4) e1 e2
  generalize stP (mRun 4 fa fb fr ft) = x at *
  obtain ⟨p0, p2, p3, p4, p5, p6⟩ := mPlaces_t e3
  refine ⟨_, ha, tmOf_le (n := 5) el ?_, by rw [e5]; exact Nat.le_refl _, fun id c hc => ?_⟩
  · intro p hpm
    simp only [montT, List.mem_cons, List.not_mem_nil, or_false] at hpm
    rcases hpm with rfl | rfl | rfl | rfl | rfl
    · rw [p2]; exact ALe.sc (SLe.ptr (by omega) _ _ _ _)
    · rw [p3]; exact ALe.sc (SLe.ptr (by omega) _ _ _ _)
    · rw [p4]; exact ALe.sc (SLe.ptr (by omega) _ _ _ _)
    · rw [p5]; exact ALe.sc (SLe.ptr (by omega) _ _ _ _)
    · rw [p6]; exact ALe.sc (SLe.ptr (by omega) _ _ _ _)
  · rw [e5]
    refine ⟨c, hc, ?_⟩
    match id with
    | 0 => simp only [montH, List.getElem?_cons_zero, Option.some.injEq] at hc; subst hc; exact BLe.ints fun _ _ _ _ => rfl
    | 1 => simp only [montH, List.getElem?_cons_succ, List.getElem?_cons_zero, Option.some.injEq] at hc; subst hc; exact BLe.ints fun _ _ _ _ => rfl
    | 2 => simp only [montH, List.getElem?_cons_succ, List.getElem?_cons_zero, Option.some.injEq] at hc; subst hc; exact BLe.ints fun _ _ _ _ => rfl
    | 3 => simp only [montH, List.getElem?_cons_succ, List.getElem?_cons_zero, Option.some.injEq] at hc; subst hc; exact BLe.ints fun _ _ _ _ => rfl
    | 4 => simp only [montH, List.getElem?_cons_succ, List.getElem?_cons_zero, Option.some.injEq] at hc; subst hc; exact BLe.ints fun _ _ _ _ => rfl
    | n + 5 => simp [montH] at hc
theorem l_mont : LRow prog f_scalar_mont 0 montF := by
  refine LRow.loop (L9.env []) mix (N := 20) (body := montB) l_mont_body mok (fun w0 own0 => accOK_none (fun id => rfl) montB) ?_
  intro s e s' h
  unfold montF at h
  split at h
  case h_2 => simp at h
  rename_i k0 s0 n0 fa k1 s1 n1 fb k2 s2 n2 fr k3 s3 n3 fo k4 s4 n4 ft hh
  simp only [Option.some.injEq, Prod.mk.injEq, Bool.and_eq_true, beq_t] at h
  obtain ⟨⟨⟨b0, b1, b2, b3, b4⟩, ⟨p2, p3, p4, p5, p6⟩, i14, hl, ho, ht, ha, hb⟩, rfl, rfl⟩ := h
  obtain ⟨rfl, rfl, rfl⟩ := isB4_t b0
  obtain ⟨rfl, rfl, rfl⟩ := isB4_t b1
  obtain ⟨rfl, rfl, rfl⟩ := isB4_t b2
  obtain ⟨rfl, rfl, rfl⟩ := isB4_t b3
  obtain ⟨rfl, rfl, rfl⟩ := isB4_t b4
  have ho := eqN_t ho
  have ht := eqN_t ht
  refine ⟨rfl, fun i hi => ?_, fun k => montS k (fa 0) (fb 0) (fr 0) (lf (tK (fa 0) (fb 0) k)), 4, ?_, by rw [hh]; rfl, fun _ _ => rfl, Nat.le_refl _, fun k hk => ?_, ?_⟩
  · rw [hh] at hi
    match i, hi with
    | 0, hi => simp at hi
    | 1, hi => simp at hi
    | 2, hi => simp at hi
    | 3, hi => simp at hi
    | 4, hi => simp at hi
    | n + 5, hi => simp at hi
  · refine ⟨tmOf_le (n := 5) hl ?_, by rw [hh]; exact Nat.le_refl _, fun id c hc => ?_⟩
    · intro p hpm
      simp only [montT, List.mem_cons, List.not_mem_nil, or_false] at hpm
      rcases hpm with rfl | rfl | rfl | rfl | rfl | rfl
      · rw [isI_t i14]; exact ALe.sc (SLe.int _ _ _)
      · rw [isP_t p2]; exact ALe.sc (SLe.ptr (by omega) _ _ _ _)
      · rw [isP_t p3]; exact ALe.sc (SLe.ptr (by omega) _ _ _ _)
      · rw [isP_t p4]; exact ALe.sc (SLe.ptr (by omega) _ _ _ _)
      · rw [isP_t p5]; exact ALe.sc (SLe.ptr (by omega) _ _ _ _)
      · rw [isP_t p6]; exact ALe.sc (SLe.ptr (by omega) _ _ _ _)
    · rw [hh]
      match id with
      | 0 => simp only [montS, montH, List.getElem?_cons_zero, Option.some.injEq] at hc; subst hc; exact ⟨_, rfl, BLe.ints fun r hr d hd => by obtain rfl : r = 0 := (by omega); rfl⟩
      | 1 => simp only [montS, montH, List.getElem?_cons_succ, List.getElem?_cons_zero, Option.some.injEq] at hc; subst hc; exact ⟨_, rfl, BLe.ints fun r hr d hd => by obtain rfl : r = 0 := (by omega); rfl⟩
      | 2 => simp only [montS, montH, List.getElem?_cons_succ, List.getElem?_cons_zero, Option.some.injEq] at hc; subst hc; exact ⟨_, rfl, BLe.ints fun r hr d hd => by obtain rfl : r = 0 := (by omega); rfl⟩
      | 3 => simp only [montS, montH, List.getElem?_cons_succ, List.getElem?_cons_zero, Option.some.injEq] at hc; subst hc; exact ⟨_, rfl, BLe.ints fun r hr d hd => by obtain rfl : r = 0 := (by omega); exact ho d hd⟩
      | 4 => simp only [montS, montH, List.getElem?_cons_succ, List.getElem?_cons_zero, Option.some.injEq] at hc; subst hc; exact ⟨_, rfl, BLe.ints fun r hr d hd => by obtain rfl : r = 0 := (by omega); exact ht d hd⟩
      | n + 5 => simp [montS, montH] at hc
  · exact m_step (fa 0) (fb 0) (fr 0) (lf (tK (fa 0) (fb 0) k)) k hk ha hb (tK_U ha hb k (by omega))
  · exact m_end _ _ _ _
end Go.Proofs.Ytgjnfabhjbadoab

namespace Go.Proofs.Ytgjnfabhjbadoab
open Go.Proofs.Try
open Go Go.AM
theorem c_mont : fnChk prog (envL tt ts9 [] [(0, montF)]) f_scalar_mont = true := by kernel_rfl
theorem k_mont (a b : Nat → Int) : ((outP (apFunc (envL tt ts9 [] [(0, montF)]) [] 50 f_scalar_mont [u4 a, u4 b] [])).map (·.2)) = some (n4 (low (val4 (lf [lf (tK a b 4) 0, lf (tK a b 4) 1, lf (tK a b 4) 2, lf (tK a b 4) 3])))) := by kernel_rfl
theorem ck_mont (a b : Nat → Int) : ((outP (apFunc (envL tt ts9 [] [(0, montF)]) [] 50 f_scalar_mont [u4 a, u4 b] [])).map (·.1)) = some (ckL [inU4 a && inU4 b, inU4 (lf [lf (tK a b 4) 0, lf (tK a b 4) 1, lf (tK a b 4) 2, lf (tK a b 4) 3])]) := by kernel_rfl
def tMont : TF := fun args => match args with
  | [.agg [.ints .u64 4 a], .agg [.ints .u64 4 b]] => some (inU4 a && (inU4 b && decide (val4 a * val4 b < ordL * 115792089237316195423570985008687907853269984665640564039457584007913129639936)), n4 (val4 a * val4 b * rInv % ordL))
  | _ => none
theorem r_mont : TRow prog F_scalar_mont tMont := by
  intro args r h
  unfold tMont at h
  split at h
  case h_2 => simp at h
  rename_i a b
  simp only [Option.some.injEq, Prod.mk.injEq, Bool.and_eq_true, decide_eq_true_eq] at h
  obtain ⟨⟨ha, hb, hlt⟩, rfl⟩ := h
  refine pure_of_outL L9 at_scalar_mont (LsOK.nil.cons l_mont) c_mont (N := 50) (gs := []) ?_
  have e := both (ck_mont a b) (k_mont a b)
  simp only [u4] at e
  rw [e]
  have hU := tK_U ha hb 4 (by omega)
  have h4 : inU4 (lf [lf (tK a b 4) 0, lf (tK a b 4) 1, lf (tK a b 4) 2, lf (tK a b 4) 3]) = true := by
    simp only [inU5, Bool.and_eq_true] at hU
    simp only [inU4, lf, hU, Bool.and_self]
  have hv : low (val4 (lf [lf (tK a b 4) 0, lf (tK a b 4) 1, lf (tK a b 4) 2, lf (tK a b 4) 3])) = val4 a * val4 b * rInv % ordL := mont_law ha hb hlt
  rw [hv]
  simp [ckL, ha, hb, h4]
end Go.Proofs.Ytgjnfabhjbadoab

namespace Go.Proofs.Ytgjnfabhjbadoab
open Go.Proofs.Try
open Go Go.AM
def ts10 : List (Nat × TF) := (F_scalar_Add, tAdd) :: (F_scalar_IsZero, tIsZero) :: (F_scalar_mont, tMont) :: ts9
theorem L10 : LibOK prog tt ts10 [] := ((L9.addT r_mont).addT r_isZero).addT r_add
def R2L : Nat → Int := lf [11819153939886771969, 14991950615390032711, 14910419812499177061, 259310039853996605]
def tTimes : TF := fun args => match args with
  | [.agg [.ints .u64 4 a], .agg [.ints .u64 4 b]] => some (inU4 a && (inU4 b && decide (val4 a * val4 b < ordL * 115792089237316195423570985008687907853269984665640564039457584007913129639936)), n4 (val4 a * val4 b % ordL))
  | _ => none
theorem c_times : fnChk prog (envP tt ts10 []) f_scalar_times = true := by kernel_rfl
theorem k_times (a b : Nat → Int) : outP (apFunc (envP tt ts10 []) [] 5 f_scalar_times [u4 a, u4 b] []) =
    some (ckL [inU4 a && (inU4 b && decide (val4 a * val4 b < ordL * 115792089237316195423570985008687907853269984665640564039457584007913129639936)),
      inU4 (limbs4 (val4 a * val4 b * rInv % ordL)) && (inU4 R2L && decide (val4 (limbs4 (val4 a * val4 b * rInv % ordL)) * val4 R2L < ordL * 115792089237316195423570985008687907853269984665640564039457584007913129639936))],
      n4 (val4 (limbs4 (val4 a * val4 b * rInv % ordL)) * val4 R2L * rInv % ordL)) := by kernel_rfl
theorem R2L_val : val4 R2L = 1627715501170711445284395025044413883736156588369414752970002579683115011841 := by decide
theorem r_times : TRow prog F_scalar_times tTimes := by
  intro args r h
  unfold tTimes at h
  split at h
  case h_2 => simp at h
  rename_i a b
  simp only [Option.some.injEq, Prod.mk.injEq] at h
  obtain ⟨hc, rfl⟩ := h
  refine pure_of_out L10 at_scalar_times c_times (N := 5) (gs := []) ?_
  have e := k_times a b
  have hm := modL_range (val4 a * val4 b * rInv)
  have hv : val4 (limbs4 (val4 a * val4 b * rInv % ordL)) = val4 a * val4 b * rInv % ordL := val4_limbs hm.1 (by omega)
  rw [hc, hv, R2L_val, rInv2, inU4_limbs, show inU4 R2L = true by decide] at e
  have hlt : val4 a * val4 b * rInv % ordL * 1627715501170711445284395025044413883736156588369414752970002579683115011841 < ordL * 115792089237316195423570985008687907853269984665640564039457584007913129639936 := by
    generalize val4 a * val4 b * rInv % ordL = x at *
    unfold ordL at *
    omega
  rw [decide_eq_true hlt] at e
  exact e
def ts11 : List (Nat × TF) := (F_scalar_times, tTimes) :: ts10
theorem L11 : LibOK prog tt ts11 [] := L10.addT r_times
/-! Reduce of 64 bytes -/
def CC : Int := hval (lf (byL 32 (val4 (lf [0, 0, 0, 1])))) 32 0
def pc (f : Nat → Nat → Int) (at_ n : Nat) : Nat → Int := fun c => bif Nat.ble (c + 1) n then f (at_ + c) 0 else 0
def stV (v : Int) (p : Nat → Int) : Int := low ((val4 (limbs4 (v * val4 (limbs4 CC) % ordL)) + val4 (limbs4 (hval p 32 0 % ordL))) % 115792089237316195423570985008687907853269984665640564039457584007913129639936)
def stCk (r p : Nat → Int) : List Bool := [areB (lf (byL 32 (val4 (lf [0, 0, 0, 1])))) 32 0, inU4 r && (inU4 (limbs4 CC) && decide (val4 r * val4 (limbs4 CC) < ordL * 115792089237316195423570985008687907853269984665640564039457584007913129639936)), areB p 32 0,
  inU4 (limbs4 (val4 r * val4 (limbs4 CC) % ordL)) && inU4 (limbs4 (hval p 32 0 % ordL))]
def r1L (f : Nat → Nat → Int) : Nat → Int := limbs4 (stV (val4 (fun _ => 0)) (pc f 48 16))
def r2L (f : Nat → Nat → Int) : Nat → Int := limbs4 (stV (val4 (r1L f)) (pc f 24 24))
def r3L (f : Nat → Nat → Int) : Nat → Int := limbs4 (stV (val4 (r2L f)) (pc f 0 24))
theorem c_reduce : fnChk prog (envP tt ts11 []) f_scalar_Reduce = true := by kernel_rfl
theorem k_reduce64 (t : Bool) (f : Nat → Nat → Int) : (outP (apFunc (envP tt ts11 []) [] 5 f_scalar_Reduce [.sc (.vints t .u8 1 64 f)] [])).map (·.2) = some (b32 (val4 (r3L f))) := by kernel_rfl
theorem ck_reduce64 (t : Bool) (f : Nat → Nat → Int) : (outP (apFunc (envP tt ts11 []) [] 5 f_scalar_Reduce [.sc (.vints t .u8 1 64 f)] [])).map (·.1) =
    some (ckL ([inU4 (lf [0, 0, 0, 1])] ++ (stCk (fun _ => 0) (pc f 48 16) ++ (stCk (r1L f) (pc f 24 24) ++ (stCk (r2L f) (pc f 0 24) ++ [inU4 (r3L f)]))))) := by kernel_rfl
theorem CC_eq : CC = 6277101735386680763835789423207666416102355444464034512896 := by decide
theorem CC_val : val4 (limbs4 CC) = 6277101735386680763835789423207666416102355444464034512896 := by rw [CC_eq]; exact val4_limbs (by decide) (by decide)
theorem stV_law (v : Int) (p : Nat → Int) : stV v p = (v * 6277101735386680763835789423207666416102355444464034512896 + hval p 32 0) % ordL := by
  unfold stV
  have h1 := modL_range (v * val4 (limbs4 CC))
  have h2 := modL_range (hval p 32 0)
  rw [val4_limbs h1.1 (by omega), val4_limbs h2.1 (by omega), low_add, CC_val]
theorem stV_range (v : Int) (p : Nat → Int) : 0 ≤ stV v p ∧ stV v p < ordL ∧ ordL < 115792089237316195423570985008687907853269984665640564039457584007913129639936 := by rw [stV_law]; exact modL_range _
theorem hval_congr2 {s t : Nat → Int} : ∀ {n j j' : Nat}, (∀ i, i < n → s (j + i) = t (j' + i)) → hval s n j = hval t n j'
  | 0, _, _, _ => rfl
  | n + 1, j, j', h => by
    have h0 : s j = t j' := h 0 (by omega)
    have e : hval s n (j + 1) = hval t n (j' + 1) := hval_congr2 fun i hi => by
      have := h (i + 1) (by omega)
      rw [show j + (i + 1) = j + 1 + i by omega, show j' + (i + 1) = j' + 1 + i by omega] at this
      exact this
    simp only [hval, h0, e]
theorem pc_hval (f : Nat → Nat → Int) (a n : Nat) (hn : n ≤ 32) : hval (pc f a n) 32 0 = hval (fun j => f j 0) n a := by
  rw [show (32 : Nat) = n + (32 - n) by omega, hval_add, hval_zero (n := 32 - n) fun i hi => by
    unfold pc
    have : Nat.ble (0 + n + i + 1) n = false := by cases hb : Nat.ble (0 + n + i + 1) n with | false => rfl | true => exact absurd (Nat.le_of_ble_eq_true hb) (by omega)
    rw [this]; rfl]
  rw [Int.mul_zero, Int.add_zero]
  exact hval_congr2 fun i hi => by
    unfold pc
    rw [show Nat.ble (0 + i + 1) n = true from Nat.ble_eq_true_of_le (by omega), Nat.zero_add]; rfl
theorem areB_of {s : Nat → Int} : ∀ {n j : Nat}, (∀ i, i < n → 0 ≤ s (j + i) ∧ s (j + i) < 256) → areB s n j = true
  | 0, _, _ => rfl
  | n + 1, j, h => by
    simp only [areB, Bool.and_eq_true]
    refine ⟨by have := h 0 (by omega); simpa [isB] using this, areB_of fun i hi => ?_⟩
    have := h (i + 1) (by omega)
    rw [show j + (i + 1) = j + 1 + i by omega] at this
    exact this
theorem pc_areB {f : Nat → Nat → Int} {m : Nat} (h : areB (fun j => f j 0) m 0 = true) (a n : Nat) (hn : a + n ≤ m) : areB (pc f a n) 32 0 = true := by
  refine areB_of fun i hi => ?_
  unfold pc
  cases hb : Nat.ble (0 + i + 1) n with
  | false => exact ⟨Int.le_refl 0, show (0 : Int) < 256 by decide⟩
  | true =>
    have := Nat.le_of_ble_eq_true hb
    have h2 := areB_t h (a + (0 + i)) (by omega)
    rw [Nat.zero_add] at h2
    exact h2
theorem red64 {f : Nat → Nat → Int} : r3L f = limbs4 (hval (fun j => f j 0) 64 0 % ordL) := by
  have v1 : val4 (r1L f) = stV (val4 (fun _ => 0)) (pc f 48 16) := val4_limbs (stV_range _ _).1 (by have := stV_range (val4 (fun _ => 0)) (pc f 48 16); omega)
  have v2 : val4 (r2L f) = stV (val4 (r1L f)) (pc f 24 24) := val4_limbs (stV_range _ _).1 (by have := stV_range (val4 (r1L f)) (pc f 24 24); omega)
  unfold r3L
  rw [stV_law, v2, stV_law, v1, stV_law, pc_hval f 48 16 (by omega), pc_hval f 24 24 (by omega), pc_hval f 0 24 (by omega)]
  have z : val4 (fun _ => (0 : Int)) = 0 := by decide
  rw [z]
  have e1 := hval_add (fun j => f j 0) 24 40 0
  have e2 := hval_add (fun j => f j 0) 24 16 24
  simp only [Nat.reduceAdd] at e1 e2
  rw [e1, e2, show (256 : Int) ^ 24 = 6277101735386680763835789423207666416102355444464034512896 by decide]
  generalize hval (fun j => f j 0) 24 0 = A
  generalize hval (fun j => f j 0) 24 24 = B
  generalize hval (fun j => f j 0) 16 48 = C
  refine congrArg limbs4 ?_
  unfold ordL
  omega
theorem z_val : val4 (fun _ => (0 : Int)) < ordL := by decide
theorem z_in : inU4 (fun _ => (0 : Int)) = true := by decide
theorem stCk_law {r p : Nat → Int} (hr : inU4 r = true) (hv : val4 r < ordL) (hp : areB p 32 0 = true) : ∀ b ∈ stCk r p, b = true := by
  have hlt : val4 r * val4 (limbs4 CC) < ordL * 115792089237316195423570985008687907853269984665640564039457584007913129639936 := by
    rw [CC_val]
    have := (val4_range hr).1
    unfold ordL at *
    omega
  intro b hb
  simp only [stCk, List.mem_cons, List.not_mem_nil, or_false] at hb
  rcases hb with rfl | rfl | rfl | rfl
  · decide
  · rw [hr, inU4_limbs, decide_eq_true hlt]; rfl
  · exact hp
  · rw [inU4_limbs, inU4_limbs]; rfl
def tReduce64 : TF := fun args => match args with
  | [.sc (.vints _ .u8 1 64 f)] => some (areB (fun j => f j 0) 64 0, b32 (hval (fun j => f j 0) 64 0 % ordL))
  | _ => none
theorem r_reduce64 : TRow prog F_scalar_Reduce tReduce64 := by
  intro args r h
  unfold tReduce64 at h
  split at h
  case h_2 => simp at h
  rename_i t f
  simp only [Option.some.injEq, Prod.mk.injEq] at h
  obtain ⟨ha, rfl⟩ := h
  refine pure_of_out L11 at_scalar_Reduce c_reduce (N := 5) (gs := []) ?_
  have hck : ckL ([inU4 (lf [0, 0, 0, 1])] ++ (stCk (fun _ => 0) (pc f 48 16) ++ (stCk (r1L f) (pc f 24 24) ++ (stCk (r2L f) (pc f 0 24) ++ [inU4 (r3L f)])))) = true := by
    refine ckL_t.2 fun b hb => ?_
    have b1 := stV_range (val4 (fun _ => 0)) (pc f 48 16)
    have b2 := stV_range (val4 (r1L f)) (pc f 24 24)
    have v1 : val4 (r1L f) = stV (val4 (fun _ => 0)) (pc f 48 16) := val4_limbs b1.1 (by omega)
    have v2 : val4 (r2L f) = stV (val4 (r1L f)) (pc f 24 24) := val4_limbs b2.1 (by omega)
    simp only [List.mem_append, List.mem_singleton] at hb
    rcases hb with hb | hb | hb | hb | hb
    · rw [hb]; exact (by decide : inU4 (lf [0, 0, 0, 1]) = true)
    · exact stCk_law z_in z_val (pc_areB ha 48 16 (by omega)) b hb
    · exact stCk_law (r := r1L f) (inU4_limbs _) (by rw [v1]; exact b1.2.1) (pc_areB ha 24 24 (by omega)) b hb
    · exact stCk_law (r := r2L f) (inU4_limbs _) (by rw [v2]; exact b2.2.1) (pc_areB ha 0 24 (by omega)) b hb
    · rw [hb]; exact inU4_limbs _
  have e := both (ck_reduce64 t f) (k_reduce64 t f)
  have hm := modL_range (hval (fun j => f j 0) 64 0)
  rw [hck, red64, val4_limbs hm.1 (by omega)] at e
  exact e
end Go.Proofs.Ytgjnfabhjbadoab
