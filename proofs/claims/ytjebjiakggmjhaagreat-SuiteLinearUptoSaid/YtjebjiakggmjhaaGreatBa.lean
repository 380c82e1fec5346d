/-
  Texts of the claim: DSc DMul DMont DMont2 DMont3 DScal DPlain DRef2 DMod DDig DSuite DAr2 DAr3 DFe DPt DFe2 DFe3 DRoot.
-/
import Derived.Test.YtjebjiakggmjhaaGreatAc
import Derived.Test.YtjebjiakggmjhaaGreatAd
import Derived.Test.YtjebjiakggmjhaaGreatAe
import Derived.Test.YtjebjiakggmjhaaGreatTy
namespace Go.Proofs.YtjebjiakggmjhaaGreat
open Go.Proofs.Tryz
open Go Go.AM
theorem L0 : LibOK prog tt [] [] := LibOK.nil mix tt_ok
def ts1 : List (Nat × TF) := [(F_bits_Sub64, tSub64), (F_bits_Add64, tAdd64)]
theorem L1 : LibOK prog tt ts1 [] :=
  (L0.addT (row_Add64 at_bits_Add64 (by kernel_rfl) (by kernel_rfl) (by kernel_rfl) (by kernel_rfl))).addT (row_Sub64 at_bits_Sub64 (by kernel_rfl) (by kernel_rfl) (by kernel_rfl) (by kernel_rfl))
def tLess : TF := fun args => match args with
  | [.agg [.ints .u64 4 a], .agg [.ints .u64 4 b]] => some (inU4 a && inU4 b, .tup [n4 (if val4 a < val4 b then val4 a - val4 b + 115792089237316195423570985008687907853269984665640564039457584007913129639936 else val4 a - val4 b), .sc (.bit (decide (val4 a < val4 b)))])
  | _ => none
def lessCk (a b : Nat → Int) : Bool := ckL [inU (a 0) && inU (b 0), inU (a 1) && inU (b 1), inU (a 2) && inU (b 2), inU (a 3) && inU (b 3)]
theorem c_less : fnChk prog (envP tt ts1 []) f_scalar_less = true := by kernel_rfl
theorem k_less (a b : Nat → Int) : outP (apFunc (envP tt ts1 []) [] 50 f_scalar_less [u4 a, u4 b] []) = some (lessCk a b, .tup [u4 (lf (lessL a b)), .sc (.bit (brK a b 4))]) := by kernel_rfl
theorem r_less : TRow prog F_scalar_less tLess := by
  intro args r h
  unfold tLess at h
  split at h
  case h_2 => simp at h
  rename_i a b
  simp only [Option.some.injEq, Prod.mk.injEq, Bool.and_eq_true] at h
  obtain ⟨⟨ha, hb⟩, rfl⟩ := h
  refine pure_of_out L1 at_scalar_less c_less (N := 50) (gs := []) ?_
  have := k_less a b
  simp only [u4] at this
  rw [this, (less_law ha hb).1, (less_law ha hb).2]
  have hc : lessCk a b = true := by
    simp only [inU4, Bool.and_eq_true] at ha hb
    simp [lessCk, ckL, ha, hb]
  rw [hc]; rfl
def tOrder : TF := fun args => match args with
  | [] => some (true, n4 ordL)
  | _ => none
theorem c_order : fnChk prog (envP tt ts1 []) f_scalar_order = true := by kernel_rfl
theorem r_order : TRow prog F_scalar_order tOrder := by
  intro args r h
  unfold tOrder at h
  split at h
  case h_2 => simp at h
  simp only [Option.some.injEq, Prod.mk.injEq, true_and] at h
  subst h
  exact pure_of_out L1 at_scalar_order c_order (N := 50) (gs := []) (by kernel_rfl)
def ts2 : List (Nat × TF) := (F_scalar_order, tOrder) :: (F_scalar_less, tLess) :: ts1
theorem L2 : LibOK prog tt ts2 [] := (L1.addT r_less).addT r_order
def tLowered : TF := fun args => match args with
  | [.agg [.ints .u64 4 a]] => some (inU4 a, n4 (low (val4 a)))
  | _ => none
theorem c_lowered : fnChk prog (envP tt ts2 []) f_scalar_lowered = true := by kernel_rfl
theorem k_low1 (a : Nat → Int) : outP (apFunc (envP tt ts2 []) [(12, true)] 50 f_scalar_lowered [u4 a] []) =
    some (ckL [inU4 a && inU4 (limbs4 ordL), (b2i (decide (val4 a < val4 (limbs4 ordL))) == 0) == true], n4 (if val4 a < val4 (limbs4 ordL) then val4 a - val4 (limbs4 ordL) + 115792089237316195423570985008687907853269984665640564039457584007913129639936 else val4 a - val4 (limbs4 ordL))) := by kernel_rfl
theorem k_low2 (a : Nat → Int) : outP (apFunc (envP tt ts2 []) [(12, false)] 50 f_scalar_lowered [u4 a] []) =
    some (ckL [inU4 a && inU4 (limbs4 ordL), (b2i (decide (val4 a < val4 (limbs4 ordL))) == 0) == false], u4 (lf [a 0, a 1, a 2, a 3])) := by kernel_rfl
theorem r_lowered : TRow prog F_scalar_lowered tLowered := by
  intro args r h
  unfold tLowered at h
  split at h
  case h_2 => simp at h
  rename_i a
  simp only [Option.some.injEq, Prod.mk.injEq] at h
  obtain ⟨ha, rfl⟩ := h
  have hr := val4_range ha
  have ho := inU4_limbs ordL
  by_cases hlt : val4 a < ordL
  · refine pure_of_out L2 at_scalar_lowered c_lowered (N := 50) (gs := [(12, false)]) ?_
    have := k_low2 a
    simp only [u4] at this
    rw [this, limbs_self ha, val4_ordL]
    simp [ckL, ha, ho, hlt, b2i, low, n4, u4]
  · refine pure_of_out L2 at_scalar_lowered c_lowered (N := 50) (gs := [(12, true)]) ?_
    have := k_low1 a
    simp only [u4] at this
    rw [this, val4_ordL]
    simp [ckL, ha, ho, hlt, b2i, low, n4, u4]
def ts3 : List (Nat × TF) := (F_scalar_lowered, tLowered) :: ts2
theorem L3 : LibOK prog tt ts3 [] := L2.addT r_lowered
def tPlus : TF := fun args => match args with
  | [.agg [.ints .u64 4 a], .agg [.ints .u64 4 b]] => some (inU4 a && inU4 b, n4 (low ((val4 a + val4 b) % 115792089237316195423570985008687907853269984665640564039457584007913129639936)))
  | _ => none
theorem c_plus : fnChk prog (envP tt ts3 []) f_scalar_plus = true := by kernel_rfl
theorem k_plus (a b : Nat → Int) : outP (apFunc (envP tt ts3 []) [] 50 f_scalar_plus [u4 a, u4 b] []) = some (ckL [inU (a 0) && inU (b 0), inU (a 1) && inU (b 1), inU (a 2) && inU (b 2), inU (a 3) && inU (b 3), inU4 (lf (plusL a b))], n4 (low (val4 (lf (plusL a b))))) := by kernel_rfl
theorem r_plus : TRow prog F_scalar_plus tPlus := by
  intro args r h
  unfold tPlus at h
  split at h
  case h_2 => simp at h
  rename_i a b
  simp only [Option.some.injEq, Prod.mk.injEq, Bool.and_eq_true] at h
  obtain ⟨⟨ha, hb⟩, rfl⟩ := h
  refine pure_of_out L3 at_scalar_plus c_plus (N := 50) (gs := []) ?_
  have := k_plus a b
  simp only [u4] at this
  rw [this, plus_law ha hb, val4_limbs (by omega) (by omega)]
  simp only [inU4, Bool.and_eq_true] at ha hb
  simp [ckL, ha, hb, inU4_limbs]
def ts4 : List (Nat × TF) := (F_scalar_plus, tPlus) :: ts3
theorem L4 : LibOK prog tt ts4 [] := L3.addT r_plus
def tFrom : TF := fun args => match args with
  | [.agg [.ints .u8 32 s]] => some (areB s 32 0, n4 (hval s 32 0))
  | _ => none
theorem c_from : fnChk prog (envP tt ts4 []) f_scalar_from = true := by kernel_rfl
theorem k_from (s : Nat → Int) : outP (apFunc (envP tt ts4 []) [] 50 f_scalar_from [u8s 32 s] []) = some (true, u4 (lf [orB s 0 8, orB s 1 8, orB s 2 8, orB s 3 8])) := by kernel_rfl
theorem r_from : TRow prog F_scalar_from tFrom := by
  intro args r h
  unfold tFrom at h
  split at h
  case h_2 => simp at h
  rename_i s
  simp only [Option.some.injEq, Prod.mk.injEq] at h
  obtain ⟨hs, rfl⟩ := h
  refine pure_of_out L4 at_scalar_from c_from (N := 50) (gs := []) ?_
  have := k_from s
  simp only [u8s] at this
  rw [this, from_law hs]; rfl
def tBack : TF := fun args => match args with
  | [.agg [.ints .u64 4 a]] => some (inU4 a, b32 (val4 a))
  | _ => none
theorem c_back : fnChk prog (envP tt ts4 []) f_scalar_back = true := by kernel_rfl
theorem k_back (a : Nat → Int) : outP (apFunc (envP tt ts4 []) [] 50 f_scalar_back [u4 a] []) = some (true, u8s 32 (lf (backL a))) := by kernel_rfl
theorem r_back : TRow prog F_scalar_back tBack := by
  intro args r h
  unfold tBack at h
  split at h
  case h_2 => simp at h
  rename_i a
  simp only [Option.some.injEq, Prod.mk.injEq] at h
  obtain ⟨hs, rfl⟩ := h
  refine pure_of_out L4 at_scalar_back c_back (N := 50) (gs := []) ?_
  have := k_back a
  simp only [u4] at this
  rw [this, back_law hs]; rfl
def ts5 : List (Nat × TF) := (F_scalar_back, tBack) :: (F_scalar_from, tFrom) :: ts4
theorem L5 : LibOK prog tt ts5 [] := (L4.addT r_from).addT r_back
def tValue : TF := fun args => match args with
  | [.agg [.ints .u8 32 s]] => some (areB s 32 0, n4 (hval s 32 0 % ordL))
  | _ => none
theorem c_value : fnChk prog (envP tt ts5 []) f_scalar_value = true := by kernel_rfl
theorem k_value (s : Nat → Int) : outP (apFunc (envP tt ts5 []) [] 50 f_scalar_value [u8s 32 s] []) = some (ckL (areB s 32 0 :: (List.range 16).map fun k => inU4 (limbs4 (wl s k))), u4 (lf [limbs4 (wl s 16) 0, limbs4 (wl s 16) 1, limbs4 (wl s 16) 2, limbs4 (wl s 16) 3])) := by kernel_rfl
theorem r_value : TRow prog F_scalar_value tValue := by
  intro args r h
  unfold tValue at h
  split at h
  case h_2 => simp at h
  rename_i s
  simp only [Option.some.injEq, Prod.mk.injEq] at h
  obtain ⟨hs, rfl⟩ := h
  refine pure_of_out L5 at_scalar_value c_value (N := 50) (gs := []) ?_
  have := k_value s
  simp only [u8s] at this
  rw [this, wl16 hs]
  have hc : ckL (areB s 32 0 :: (List.range 16).map fun k => inU4 (limbs4 (wl s k))) = true := by
    rw [ckL_t]
    intro b hb
    simp only [List.mem_cons, List.mem_map] at hb
    rcases hb with rfl | ⟨k, _, rfl⟩
    · exact hs
    · exact inU4_limbs _
  rw [hc]; rfl
def ts6 : List (Nat × TF) := (F_scalar_value, tValue) :: ts5
theorem L6 : LibOK prog tt ts6 [] := L5.addT r_value
def tIsZero : TF := fun args => match args with
  | [.agg [.ints .u8 32 s]] => some (areB s 32 0, .sc (.bool (decide (hval s 32 0 % ordL = 0))))
  | _ => none
theorem c_isZero : fnChk prog (envP tt ts6 []) f_scalar_IsZero = true := by kernel_rfl
theorem k_isZero (s : Nat → Int) : outP (apFunc (envP tt ts6 []) [] 50 f_scalar_IsZero [u8s 32 s] []) = some (ckL [areB s 32 0], .sc (.bool (eqN 4 (limbs4 (hval s 32 0 % ordL)) (fun _ => 0) && true))) := by kernel_rfl
theorem r_isZero : TRow prog F_scalar_IsZero tIsZero := by
  intro args r h
  unfold tIsZero at h
  split at h
  case h_2 => simp at h
  rename_i s
  simp only [Option.some.injEq, Prod.mk.injEq] at h
  obtain ⟨hs, rfl⟩ := h
  refine pure_of_out L6 at_scalar_IsZero c_isZero (N := 50) (gs := []) ?_
  have := k_isZero s
  simp only [u8s] at this
  have hr := modL_range (hval s 32 0)
  rw [this, eqN_zero hr.1 (by omega), Bool.and_true]
  simp [ckL, hs]
def tAdd : TF := fun args => match args with
  | [.agg [.ints .u8 32 s], .agg [.ints .u8 32 t]] => some (areB s 32 0 && areB t 32 0, b32 ((hval s 32 0 + hval t 32 0) % ordL))
  | _ => none
theorem c_add : fnChk prog (envP tt ts6 []) f_scalar_Add = true := by kernel_rfl
theorem k_add (s t : Nat → Int) : outP (apFunc (envP tt ts6 []) [] 50 f_scalar_Add [u8s 32 s, u8s 32 t] []) =
    some (ckL [areB s 32 0, areB t 32 0, inU4 (limbs4 (hval s 32 0 % ordL)) && inU4 (limbs4 (hval t 32 0 % ordL)), inU4 (limbs4 (low ((val4 (limbs4 (hval s 32 0 % ordL)) + val4 (limbs4 (hval t 32 0 % ordL))) % 115792089237316195423570985008687907853269984665640564039457584007913129639936)))],
      normA (b32 (val4 (limbs4 (low ((val4 (limbs4 (hval s 32 0 % ordL)) + val4 (limbs4 (hval t 32 0 % ordL))) % 115792089237316195423570985008687907853269984665640564039457584007913129639936)))))) := by kernel_rfl
theorem norm_b32 (x : Int) : normA (b32 x) = b32 x := rfl
theorem r_add : TRow prog F_scalar_Add tAdd := by
  intro args r h
  unfold tAdd at h
  split at h
  case h_2 => simp at h
  rename_i s t
  simp only [Option.some.injEq, Prod.mk.injEq, Bool.and_eq_true] at h
  obtain ⟨⟨hs, ht⟩, rfl⟩ := h
  refine pure_of_out L6 at_scalar_Add c_add (N := 50) (gs := []) ?_
  have := k_add s t
  simp only [u8s] at this
  have h1 := modL_range (hval s 32 0)
  have h2 := modL_range (hval t 32 0)
  have h3 := modL_range (hval s 32 0 + hval t 32 0)
  rw [this, val4_limbs h1.1 (by omega), val4_limbs h2.1 (by omega), low_add, val4_limbs h3.1 (by omega), norm_b32]
  simp [ckL, hs, ht, inU4_limbs]
end Go.Proofs.YtjebjiakggmjhaaGreat
namespace Go.Proofs.YtjebjiakggmjhaaGreat
open Go.Proofs.Tryz
open Go Go.AM
def tMul64 : TF := fun args => match args with
  | [.sc (.int .u64 x), .sc (.int .u64 y)] => some (inU x && inU y, .tup [.sc (.int .u64 (x * y / 18446744073709551616)), .sc (.int .u64 (x * y % 18446744073709551616))])
  | _ => none
theorem c_mul64 : fnChk prog (envP tt ts6 []) f_bits_Mul64 = true := by kernel_rfl
theorem k_mul64 (x y : Int) : outP (apFunc (envP tt ts6 []) [] 50 f_bits_Mul64 [.sc (.int .u64 x), .sc (.int .u64 y)] []) = some (true, .tup [.sc (.int .u64 (mHi x y)), .sc (.int .u64 (wr .u64 (x * y)))]) := by kernel_rfl
theorem r_mul64 : TRow prog F_bits_Mul64 tMul64 := by
  intro args r h
  unfold tMul64 at h
  split at h
  case h_2 => simp at h
  rename_i x y
  simp only [Option.some.injEq, Prod.mk.injEq, Bool.and_eq_true] at h
  obtain ⟨⟨hx, hy⟩, rfl⟩ := h
  refine pure_of_out L6 at_bits_Mul64 c_mul64 (N := 50) (gs := []) ?_
  rw [k_mul64 x y, mHi_law (inU_t hx) (inU_t hy), wr64]
def ts7 : List (Nat × TF) := (F_bits_Mul64, tMul64) :: ts6
theorem L7 : LibOK prog tt ts7 [] := L6.addT r_mul64
def tMuladd : TF := fun args => match args with
  | [.sc (.int .u64 a), .sc (.int .u64 b), .sc (.int .u64 x), .sc (.int .u64 c)] => some (inU a && (inU b && (inU x && inU c)), .tup [.sc (.int .u64 ((a * b + x + c) / 18446744073709551616)), .sc (.int .u64 ((a * b + x + c) % 18446744073709551616))])
  | _ => none
theorem c_muladd : fnChk prog (envP tt ts7 []) f_scalar_muladd = true := by kernel_rfl
def muladdV (a b x c : Int) : AV :=
  let lo := a * b % 18446744073709551616
  let lo2 := addLo lo x false
  .tup [.sc (.int .u64 (wr .u64 (wr .u64 (a * b / 18446744073709551616 + b2i (addC lo x false)) + b2i (addC lo2 c false)))), .sc (.int .u64 (addLo lo2 c false))]
theorem k_muladd (a b x c : Int) : outP (apFunc (envP tt ts7 []) [] 50 f_scalar_muladd [.sc (.int .u64 a), .sc (.int .u64 b), .sc (.int .u64 x), .sc (.int .u64 c)] []) =
    some (ckL [inU a && inU b, inU (a * b % 18446744073709551616) && inU x, inU (addLo (a * b % 18446744073709551616) x false) && inU c], muladdV a b x c) := by kernel_rfl
theorem r_muladd : TRow prog F_scalar_muladd tMuladd := by
  intro args r h
  unfold tMuladd at h
  split at h
  case h_2 => simp at h
  rename_i a b x c
  simp only [Option.some.injEq, Prod.mk.injEq, Bool.and_eq_true] at h
  obtain ⟨⟨ha, hb, hx, hc⟩, rfl⟩ := h
  refine pure_of_out L7 at_scalar_muladd c_muladd (N := 50) (gs := []) ?_
  obtain ⟨e1, e2⟩ := muladd_law (inU_t ha) (inU_t hb) (inU_t hx) (inU_t hc)
  rw [k_muladd a b x c]
  simp only [muladdV, e1, e2]
  simp [ckL, ha, hb, hx, hc, inU_mod, inU_addLo]
def ts8 : List (Nat × TF) := (F_scalar_muladd, tMuladd) :: ts7
theorem L8 : LibOK prog tt ts8 [] := L7.addT r_muladd
def tRadix : TF := fun args => match args with
  | [] => some (true, u4 (lf [11819153939886771969, 14991950615390032711, 14910419812499177061, 259310039853996605]))
  | _ => none
theorem c_radix : fnChk prog (envP tt ts8 []) f_scalar_radix = true := by kernel_rfl
theorem r_radix : TRow prog F_scalar_radix tRadix := by
  intro args r h
  unfold tRadix at h
  split at h
  case h_2 => simp at h
  simp only [Option.some.injEq, Prod.mk.injEq, true_and] at h
  subst h
  exact pure_of_out L8 at_scalar_radix c_radix (N := 50) (gs := []) (by kernel_rfl)
def ts9 : List (Nat × TF) := (F_scalar_radix, tRadix) :: ts8
theorem L9 : LibOK prog tt ts9 [] := L8.addT r_radix
end Go.Proofs.YtjebjiakggmjhaaGreat
namespace Go.Proofs.YtjebjiakggmjhaaGreat
open Go.Proofs.Tryz
open Go Go.AM
noncomputable def montB : Code := match f_scalar_mont.body with | some c => (match bodiesOf 0 c with | [.loop b] => b | _ => .skip) | none => .skip
def montT : List (Nat × AV) := [(2, .sc (.ptr 0 4 0 0 4)), (3, .sc (.ptr 1 4 0 0 4)), (4, .sc (.ptr 2 4 0 0 4)), (5, .sc (.ptr 3 4 0 0 4)), (6, .sc (.ptr 4 6 0 0 6))]
def montH (fa fb fr ft : Nat → Int) : Heap := [some (.ints .u64 4 1 (fun _ d => fa d)), some (.ints .u64 4 1 (fun _ d => fb d)), some (.ints .u64 4 1 (fun _ d => fr d)), some (.ints .u64 4 1 (fun _ d => limbs4 ordL d)), some (.ints .u64 6 1 (fun _ d => ft d))]
def montS (k : Nat) (fa fb fr ft : Nat → Int) : St := ⟨tmOf ((14, .sc (.int .i64 (k : Int))) :: montT) 101 0, montH fa fb fr ft⟩
abbrev mE : EnvP := envP tt ts9 []
noncomputable def mRun (k : Nat) (fa fb fr ft : Nat → Int) : Option (Ex × PS) := ap mE [] 20 montB ⟨true, montS k fa fb fr ft⟩
theorem m_c (fa fb fr ft : Nat → Int) (k : Nat) (hk : k < 4) : exP (mRun k fa fb fr ft) = some .normal ∧ (stP (mRun k fa fb fr ft)).ck = ckL (iterCk (fa k) fb ft) ∧ cells 6 (stP (mRun k fa fb fr ft)) 4 = iter (fa k) fb ft ∧
    cells 4 (stP (mRun k fa fb fr ft)) 0 = [fa 0, fa 1, fa 2, fa 3] ∧ cells 4 (stP (mRun k fa fb fr ft)) 1 = [fb 0, fb 1, fb 2, fb 3] ∧ cells 4 (stP (mRun k fa fb fr ft)) 2 = [fr 0, fr 1, fr 2, fr 3] ∧
    cells 4 (stP (mRun k fa fb fr ft)) 3 = [limbs4 ordL 0, limbs4 ordL 1, limbs4 ordL 2, limbs4 ordL 3] ∧ getA (stP (mRun k fa fb fr ft)).st.tm 14 = .sc (.int .i64 ((k + 1 : Nat) : Int)) ∧ (stP (mRun k fa fb fr ft)).st.tm.length = 101 := by
  match k, hk with
  | 0, _ => exact ⟨by kernel_rfl, by kernel_rfl, by kernel_rfl, by kernel_rfl, by kernel_rfl, by kernel_rfl, by kernel_rfl, by kernel_rfl, by kernel_rfl⟩
  | 1, _ => exact ⟨by kernel_rfl, by kernel_rfl, by kernel_rfl, by kernel_rfl, by kernel_rfl, by kernel_rfl, by kernel_rfl, by kernel_rfl, by kernel_rfl⟩
  | 2, _ => exact ⟨by kernel_rfl, by kernel_rfl, by kernel_rfl, by kernel_rfl, by kernel_rfl, by kernel_rfl, by kernel_rfl, by kernel_rfl, by kernel_rfl⟩
  | 3, _ => exact ⟨by kernel_rfl, by kernel_rfl, by kernel_rfl, by kernel_rfl, by kernel_rfl, by kernel_rfl, by kernel_rfl, by kernel_rfl, by kernel_rfl⟩
def mPlaces (x : PS) : Bool :=
  let p := fun (v : AV) (id sz : Nat) => match v with | .sc (.ptr a b i c e) => Nat.beq a id && (Nat.beq b sz && (Nat.beq i 0 && (Nat.beq c 0 && Nat.beq e sz))) | _ => false
  Nat.ble 5 x.st.hp.length && (p (getA x.st.tm 2) 0 4 && (p (getA x.st.tm 3) 1 4 && (p (getA x.st.tm 4) 2 4 && (p (getA x.st.tm 5) 3 4 && p (getA x.st.tm 6) 4 6))))
def mShape (x : PS) : List (Option (IntKind × (Nat × Nat))) := [AM.shape x 0, AM.shape x 1, AM.shape x 2, AM.shape x 3, AM.shape x 4]
theorem m_p (fa fb fr ft : Nat → Int) (k : Nat) (hk : k < 4) : mPlaces (stP (mRun k fa fb fr ft)) = true ∧ mShape (stP (mRun k fa fb fr ft)) = [some (.u64, 4, 1), some (.u64, 4, 1), some (.u64, 4, 1), some (.u64, 4, 1), some (.u64, 6, 1)] := by
  match k, hk with
  | 0, _ => exact ⟨by kernel_rfl, by kernel_rfl⟩
  | 1, _ => exact ⟨by kernel_rfl, by kernel_rfl⟩
  | 2, _ => exact ⟨by kernel_rfl, by kernel_rfl⟩
  | 3, _ => exact ⟨by kernel_rfl, by kernel_rfl⟩
theorem m_stop (fa fb fr ft : Nat → Int) : exP (mRun 4 fa fb fr ft) = some (.exit 0) ∧ (stP (mRun 4 fa fb fr ft)).ck = true ∧ mPlaces (stP (mRun 4 fa fb fr ft)) = true ∧
    mShape (stP (mRun 4 fa fb fr ft)) = [some (.u64, 4, 1), some (.u64, 4, 1), some (.u64, 4, 1), some (.u64, 4, 1), some (.u64, 6, 1)] ∧ (stP (mRun 4 fa fb fr ft)).st.hp = montH fa fb fr ft := by
  exact ⟨by kernel_rfl, by kernel_rfl, by kernel_rfl, by kernel_rfl, by kernel_rfl⟩
theorem mPlaces_t {x : PS} (h : mPlaces x = true) : 5 ≤ x.st.hp.length ∧ getA x.st.tm 2 = .sc (.ptr 0 4 0 0 4) ∧ getA x.st.tm 3 = .sc (.ptr 1 4 0 0 4) ∧ getA x.st.tm 4 = .sc (.ptr 2 4 0 0 4) ∧ getA x.st.tm 5 = .sc (.ptr 3 4 0 0 4) ∧ getA x.st.tm 6 = .sc (.ptr 4 6 0 0 6) := by
  have q : ∀ (v : AV) (id sz : Nat), (match v with | .sc (.ptr a b i c e) => Nat.beq a id && (Nat.beq b sz && (Nat.beq i 0 && (Nat.beq c 0 && Nat.beq e sz))) | _ => false) = true → v = .sc (.ptr id sz 0 0 sz) := by
    intro v id sz hv
    split at hv
    · simp only [Bool.and_eq_true, beq_t] at hv
      obtain ⟨rfl, rfl, rfl, rfl, rfl⟩ := hv; rfl
    · simp at hv
  simp only [mPlaces, Bool.and_eq_true, ble_t] at h
  obtain ⟨h0, h2, h3, h4, h5, h6⟩ := h
  exact ⟨h0, q _ _ _ h2, q _ _ _ h3, q _ _ _ h4, q _ _ _ h5, q _ _ _ h6⟩
theorem m_next {x : PS} {fa fb fr ft g : Nat → Int} {k : Nat} (hp : mPlaces x = true) (hs : mShape x = [some (.u64, 4, 1), some (.u64, 4, 1), some (.u64, 4, 1), some (.u64, 4, 1), some (.u64, 6, 1)])
    (h0 : cells 4 x 0 = tabL fa 4 0) (h1 : cells 4 x 1 = tabL fb 4 0) (h2 : cells 4 x 2 = tabL fr 4 0) (h3 : cells 4 x 3 = tabL (limbs4 ordL) 4 0) (h4 : cells 6 x 4 = tabL g 6 0)
    (ht : getA x.st.tm 14 = .sc (.int .i64 (k : Int))) (hl : x.st.tm.length = 101) : StLe x.st (montS k fa fb fr g) := by
  obtain ⟨p0, p2, p3, p4, p5, p6⟩ := mPlaces_t hp
  simp only [mShape, List.cons.injEq, and_true] at hs
  obtain ⟨s0, s1, s2, s3, s4⟩ := hs
  refine ⟨tmOf_le (n := 5) hl ?_, p0, fun id c hc => ?_⟩
  · intro p hpm
    simp only [montT, List.mem_cons, List.not_mem_nil, or_false] at hpm
    rcases hpm with rfl | rfl | rfl | rfl | rfl | rfl
    · rw [ht]; exact ALe.sc (SLe.int _ _ _)
    · rw [p2]; exact ALe.sc (SLe.ptr (by omega) _ _ _ _)
    · rw [p3]; exact ALe.sc (SLe.ptr (by omega) _ _ _ _)
    · rw [p4]; exact ALe.sc (SLe.ptr (by omega) _ _ _ _)
    · rw [p5]; exact ALe.sc (SLe.ptr (by omega) _ _ _ _)
    · rw [p6]; exact ALe.sc (SLe.ptr (by omega) _ _ _ _)
  · match id with
    | 0 => simp only [montS, montH, List.getElem?_cons_zero, Option.some.injEq] at hc; subst hc; exact cells_ble s0 h0
    | 1 => simp only [montS, montH, List.getElem?_cons_succ, List.getElem?_cons_zero, Option.some.injEq] at hc; subst hc; exact cells_ble s1 h1
    | 2 => simp only [montS, montH, List.getElem?_cons_succ, List.getElem?_cons_zero, Option.some.injEq] at hc; subst hc; exact cells_ble s2 h2
    | 3 => simp only [montS, montH, List.getElem?_cons_succ, List.getElem?_cons_zero, Option.some.injEq] at hc; subst hc; exact cells_ble s3 h3
    | 4 => simp only [montS, montH, List.getElem?_cons_succ, List.getElem?_cons_zero, Option.some.injEq] at hc; subst hc; exact cells_ble s4 h4
    | n + 5 => simp [montS, montH] at hc
theorem inU4_at {f : Nat → Int} (h : inU4 f = true) : ∀ k, k < 4 → 0 ≤ f k ∧ f k < 18446744073709551616
  | 0, _ => (inU4_t h).1
  | 1, _ => (inU4_t h).2.1
  | 2, _ => (inU4_t h).2.2.1
  | 3, _ => (inU4_t h).2.2.2
  | n + 4, h => by omega
theorem m_am {fa fb fr ft : Nat → Int} {k : Nat} {e : Ex} (he : exP (mRun k fa fb fr ft) = some e) (hck : (stP (mRun k fa fb fr ft)).ck = true) : am mE.env 20 montB (montS k fa fb fr ft) = some (e, (stP (mRun k fa fb fr ft)).st) := by
  unfold mRun at *
  exact am_of_ap he hck
theorem m_step (fa fb fr ft : Nat → Int) (k : Nat) (hk : k < 4) (ha : inU4 fa = true) (hb : inU4 fb = true) (ht : inU5 ft = true) :
    ∃ s1, am mE.env 20 montB (montS k fa fb fr ft) = some (.normal, s1) ∧ StLe s1 (montS (k + 1) fa fb fr (lf (iter (fa k) fb ft))) := by
  have hk' := inU4_at ha k hk
  have hc := iterCk_law hk' hb ht
  obtain ⟨e1, e2, e3, e4, e5, e6, e7, e8, e9⟩ := m_c fa fb fr ft k hk
  obtain ⟨q1, q2⟩ := m_p fa fb fr ft k hk
  generalize hx : mRun k fa fb fr ft = x at *
  rw [hc] at e2
  have := m_am (k := k) (fa := fa) (fb := fb) (fr := fr) (ft := ft) (e := .normal) (by rw [hx]; exact e1) (by rw [hx]; exact e2)
  rw [hx] at this
  refine ⟨_, this, m_next (ft := ft) q1 q2 e4 e5 e6 e7 ?_ e8 e9⟩
  rw [e3]; rfl
end Go.Proofs.YtjebjiakggmjhaaGreat
namespace Go.Proofs.YtjebjiakggmjhaaGreat
open Go.Proofs.Tryz
open Go Go.AM
def isP (v : AV) (id sz : Nat) : Bool := match v with | .sc (.ptr a b i c e) => Nat.beq a id && (Nat.beq b sz && (Nat.beq i 0 && (Nat.beq c 0 && Nat.beq e sz))) | _ => false
def isI (v : AV) (n : Int) : Bool := match v with | .sc (.int .i64 x) => decide (x = n) | _ => false
def isB4 (k : IntKind) (s n sz : Nat) : Bool := kEq k .u64 && (Nat.beq s sz && Nat.beq n 1)
def montF : LF := fun s => match s.hp with
  | [some (.ints k0 s0 n0 fa), some (.ints k1 s1 n1 fb), some (.ints k2 s2 n2 fr), some (.ints k3 s3 n3 fo), some (.ints k4 s4 n4 ft)] =>
    some ((isB4 k0 s0 n0 4 && (isB4 k1 s1 n1 4 && (isB4 k2 s2 n2 4 && (isB4 k3 s3 n3 4 && isB4 k4 s4 n4 6)))) &&
      ((isP (getA s.tm 2) 0 4 && (isP (getA s.tm 3) 1 4 && (isP (getA s.tm 4) 2 4 && (isP (getA s.tm 5) 3 4 && isP (getA s.tm 6) 4 6)))) &&
      (isI (getA s.tm 14) 0 && (Nat.beq s.tm.length 101 && (eqN 4 (fo 0) (limbs4 ordL) && (eqN 6 (ft 0) (lf [0, 0, 0, 0, 0, 0]) && (inU4 (fa 0) && inU4 (fb 0))))))),
      (.normal, ⟨tmOf montT 101 0, montH (fa 0) (fb 0) (fr 0) (lf (tK (fa 0) (fb 0) 4))⟩))
  | _ => none
theorem mb : f_scalar_mont.body.map (bodiesOf 0) = some [.loop montB] := by kernel_rfl
theorem mok : codeOK prog mE.env.isW montB = true := by kernel_rfl
theorem isP_t {v : AV} {id sz : Nat} (h : isP v id sz = true) : v = .sc (.ptr id sz 0 0 sz) := by
  unfold isP at h
  split at h
  · simp only [Bool.and_eq_true, beq_t] at h
    obtain ⟨rfl, rfl, rfl, rfl, rfl⟩ := h; rfl
  · simp at h
theorem isI_t {v : AV} {n : Int} (h : isI v n = true) : v = .sc (.int .i64 n) := by
  unfold isI at h
  split at h
  · rw [dec_t.1 h]
  · simp at h
theorem isB4_t {k : IntKind} {s n sz : Nat} (h : isB4 k s n sz = true) : k = .u64 ∧ s = sz ∧ n = 1 := by
  simpa only [isB4, Bool.and_eq_true, kEq_t, beq_t] using h
theorem eqN_t_mont2 {n : Nat} {f g : Nat → Int} (h : eqN n f g = true) : ∀ c, c < n → f c = g c := fun c hc => by
  have := List.all_eq_true.1 h c (by simpa using hc)
  simpa using this
theorem l_mont_body : ∀ c, f_scalar_mont.body = some c → ∀ b ∈ bodiesOf 0 c, b = .loop montB := by
  intro c hc b hb
  have := mb
  rw [hc] at this
  simp only [Option.map_some, Option.some.injEq] at this
  rw [this] at hb
  simpa using hb
theorem tK_U {a b : Nat → Int} (ha : inU4 a = true) (hb : inU4 b = true) : ∀ k, k ≤ 4 → inU5 (lf (tK a b k)) = true
  | 0, _ => rfl
  | k + 1, hk => by
    obtain ⟨m, _, _, _, h⟩ := iter_law (inU4_at ha k (by omega)) hb (tK_U ha hb k (by omega))
    exact h
theorem m_len (fa fb fr ft : Nat → Int) : (stP (mRun 4 fa fb fr ft)).st.tm.length = 101 := by kernel_rfl
theorem m_end (fa fb fr ft : Nat → Int) : ∃ s1, am mE.env 20 montB (montS 4 fa fb fr ft) = some (.exit 0, s1) ∧ StLe s1 ⟨tmOf montT 101 0, montH fa fb fr ft⟩ := by
  obtain ⟨e1, e2, e3, _, e5⟩ := m_stop fa fb fr ft
  have el := m_len fa fb fr ft
  have ha := m_am (k := 4) e1 e2
  generalize stP (mRun 4 fa fb fr ft) = x at *
  obtain ⟨p0, p2, p3, p4, p5, p6⟩ := mPlaces_t e3
  refine ⟨_, ha, tmOf_le (n := 5) el ?_, by rw [e5]; exact Nat.le_refl _, fun id c hc => ?_⟩
  · intro p hpm
    simp only [montT, List.mem_cons, List.not_mem_nil, or_false] at hpm
    rcases hpm with rfl | rfl | rfl | rfl | rfl
    · rw [p2]; exact ALe.sc (SLe.ptr (by omega) _ _ _ _)
    · rw [p3]; exact ALe.sc (SLe.ptr (by omega) _ _ _ _)
    · rw [p4]; exact ALe.sc (SLe.ptr (by omega) _ _ _ _)
    · rw [p5]; exact ALe.sc (SLe.ptr (by omega) _ _ _ _)
    · rw [p6]; exact ALe.sc (SLe.ptr (by omega) _ _ _ _)
  · rw [e5]
    refine ⟨c, hc, ?_⟩
    match id with
    | 0 => simp only [montH, List.getElem?_cons_zero, Option.some.injEq] at hc; subst hc; exact BLe.ints fun _ _ _ _ => rfl
    | 1 => simp only [montH, List.getElem?_cons_succ, List.getElem?_cons_zero, Option.some.injEq] at hc; subst hc; exact BLe.ints fun _ _ _ _ => rfl
    | 2 => simp only [montH, List.getElem?_cons_succ, List.getElem?_cons_zero, Option.some.injEq] at hc; subst hc; exact BLe.ints fun _ _ _ _ => rfl
    | 3 => simp only [montH, List.getElem?_cons_succ, List.getElem?_cons_zero, Option.some.injEq] at hc; subst hc; exact BLe.ints fun _ _ _ _ => rfl
    | 4 => simp only [montH, List.getElem?_cons_succ, List.getElem?_cons_zero, Option.some.injEq] at hc; subst hc; exact BLe.ints fun _ _ _ _ => rfl
    | n + 5 => simp [montH] at hc
theorem l_mont : LRow prog f_scalar_mont 0 montF := by
  refine LRow.loop (L9.env []) mix (N := 20) (body := montB) l_mont_body mok (fun w0 own0 => accOK_none (fun id => rfl) montB) ?_
  intro s e s' h
  unfold montF at h
  split at h
  case h_2 => simp at h
  rename_i k0 s0 n0 fa k1 s1 n1 fb k2 s2 n2 fr k3 s3 n3 fo k4 s4 n4 ft hh
  simp only [Option.some.injEq, Prod.mk.injEq, Bool.and_eq_true, beq_t] at h
  obtain ⟨⟨⟨b0, b1, b2, b3, b4⟩, ⟨p2, p3, p4, p5, p6⟩, i14, hl, ho, ht, ha, hb⟩, rfl, rfl⟩ := h
  obtain ⟨rfl, rfl, rfl⟩ := isB4_t b0
  obtain ⟨rfl, rfl, rfl⟩ := isB4_t b1
  obtain ⟨rfl, rfl, rfl⟩ := isB4_t b2
  obtain ⟨rfl, rfl, rfl⟩ := isB4_t b3
  obtain ⟨rfl, rfl, rfl⟩ := isB4_t b4
  have ho := eqN_t_mont2 ho
  have ht := eqN_t_mont2 ht
  refine ⟨rfl, fun i hi => ?_, fun k => montS k (fa 0) (fb 0) (fr 0) (lf (tK (fa 0) (fb 0) k)), 4, ?_, by rw [hh]; rfl, fun _ _ => rfl, Nat.le_refl _, fun k hk => ?_, ?_⟩
  · rw [hh] at hi
    match i, hi with
    | 0, hi => simp at hi
    | 1, hi => simp at hi
    | 2, hi => simp at hi
    | 3, hi => simp at hi
    | 4, hi => simp at hi
    | n + 5, hi => simp at hi
  · refine ⟨tmOf_le (n := 5) hl ?_, by rw [hh]; exact Nat.le_refl _, fun id c hc => ?_⟩
    · intro p hpm
      simp only [montT, List.mem_cons, List.not_mem_nil, or_false] at hpm
      rcases hpm with rfl | rfl | rfl | rfl | rfl | rfl
      · rw [isI_t i14]; exact ALe.sc (SLe.int _ _ _)
      · rw [isP_t p2]; exact ALe.sc (SLe.ptr (by omega) _ _ _ _)
      · rw [isP_t p3]; exact ALe.sc (SLe.ptr (by omega) _ _ _ _)
      · rw [isP_t p4]; exact ALe.sc (SLe.ptr (by omega) _ _ _ _)
      · rw [isP_t p5]; exact ALe.sc (SLe.ptr (by omega) _ _ _ _)
      · rw [isP_t p6]; exact ALe.sc (SLe.ptr (by omega) _ _ _ _)
    · rw [hh]
      match id with
      | 0 => simp only [montS, montH, List.getElem?_cons_zero, Option.some.injEq] at hc; subst hc; exact ⟨_, rfl, BLe.ints fun r hr d hd => by obtain rfl : r = 0 := (by omega); rfl⟩
      | 1 => simp only [montS, montH, List.getElem?_cons_succ, List.getElem?_cons_zero, Option.some.injEq] at hc; subst hc; exact ⟨_, rfl, BLe.ints fun r hr d hd => by obtain rfl : r = 0 := (by omega); rfl⟩
      | 2 => simp only [montS, montH, List.getElem?_cons_succ, List.getElem?_cons_zero, Option.some.injEq] at hc; subst hc; exact ⟨_, rfl, BLe.ints fun r hr d hd => by obtain rfl : r = 0 := (by omega); rfl⟩
      | 3 => simp only [montS, montH, List.getElem?_cons_succ, List.getElem?_cons_zero, Option.some.injEq] at hc; subst hc; exact ⟨_, rfl, BLe.ints fun r hr d hd => by obtain rfl : r = 0 := (by omega); exact ho d hd⟩
      | 4 => simp only [montS, montH, List.getElem?_cons_succ, List.getElem?_cons_zero, Option.some.injEq] at hc; subst hc; exact ⟨_, rfl, BLe.ints fun r hr d hd => by obtain rfl : r = 0 := (by omega); exact ht d hd⟩
      | n + 5 => simp [montS, montH] at hc
  · exact m_step (fa 0) (fb 0) (fr 0) (lf (tK (fa 0) (fb 0) k)) k hk ha hb (tK_U ha hb k (by omega))
  · exact m_end _ _ _ _
end Go.Proofs.YtjebjiakggmjhaaGreat
namespace Go.Proofs.YtjebjiakggmjhaaGreat
open Go.Proofs.Tryz
open Go Go.AM
theorem c_mont : fnChk prog (envL tt ts9 [] [(0, montF)]) f_scalar_mont = true := by kernel_rfl
theorem k_mont (a b : Nat → Int) : ((outP (apFunc (envL tt ts9 [] [(0, montF)]) [] 50 f_scalar_mont [u4 a, u4 b] [])).map (·.2)) = some (n4 (low (val4 (lf [lf (tK a b 4) 0, lf (tK a b 4) 1, lf (tK a b 4) 2, lf (tK a b 4) 3])))) := by kernel_rfl
theorem ck_mont (a b : Nat → Int) : ((outP (apFunc (envL tt ts9 [] [(0, montF)]) [] 50 f_scalar_mont [u4 a, u4 b] [])).map (·.1)) = some (ckL [inU4 a && inU4 b, inU4 (lf [lf (tK a b 4) 0, lf (tK a b 4) 1, lf (tK a b 4) 2, lf (tK a b 4) 3])]) := by kernel_rfl
def tMont : TF := fun args => match args with
  | [.agg [.ints .u64 4 a], .agg [.ints .u64 4 b]] => some (inU4 a && (inU4 b && decide (val4 a * val4 b < ordL * 115792089237316195423570985008687907853269984665640564039457584007913129639936)), n4 (val4 a * val4 b * rInv % ordL))
  | _ => none
theorem r_mont : TRow prog F_scalar_mont tMont := by
  intro args r h
  unfold tMont at h
  split at h
  case h_2 => simp at h
  rename_i a b
  simp only [Option.some.injEq, Prod.mk.injEq, Bool.and_eq_true, decide_eq_true_eq] at h
  obtain ⟨⟨ha, hb, hlt⟩, rfl⟩ := h
  refine pure_of_outL L9 at_scalar_mont (LsOK.nil.cons l_mont) c_mont (N := 50) (gs := []) ?_
  have e := both (ck_mont a b) (k_mont a b)
  simp only [u4] at e
  rw [e]
  have hU := tK_U ha hb 4 (by omega)
  have h4 : inU4 (lf [lf (tK a b 4) 0, lf (tK a b 4) 1, lf (tK a b 4) 2, lf (tK a b 4) 3]) = true := by
    simp only [inU5, Bool.and_eq_true] at hU
    simp only [inU4, lf, hU, Bool.and_self]
  have hv : low (val4 (lf [lf (tK a b 4) 0, lf (tK a b 4) 1, lf (tK a b 4) 2, lf (tK a b 4) 3])) = val4 a * val4 b * rInv % ordL := mont_law ha hb hlt
  rw [hv]
  simp [ckL, ha, hb, h4]
end Go.Proofs.YtjebjiakggmjhaaGreat
namespace Go.Proofs.YtjebjiakggmjhaaGreat
open Go.Proofs.Tryz
open Go Go.AM
def ts10 : List (Nat × TF) := (F_scalar_Add, tAdd) :: (F_scalar_IsZero, tIsZero) :: (F_scalar_mont, tMont) :: ts9
theorem L10 : LibOK prog tt ts10 [] := ((L9.addT r_mont).addT r_isZero).addT r_add
def R2L : Nat → Int := lf [11819153939886771969, 14991950615390032711, 14910419812499177061, 259310039853996605]
def tTimes : TF := fun args => match args with
  | [.agg [.ints .u64 4 a], .agg [.ints .u64 4 b]] => some (inU4 a && (inU4 b && decide (val4 a * val4 b < ordL * 115792089237316195423570985008687907853269984665640564039457584007913129639936)), n4 (val4 a * val4 b % ordL))
  | _ => none
theorem c_times : fnChk prog (envP tt ts10 []) f_scalar_times = true := by kernel_rfl
theorem k_times (a b : Nat → Int) : outP (apFunc (envP tt ts10 []) [] 5 f_scalar_times [u4 a, u4 b] []) =
    some (ckL [inU4 a && (inU4 b && decide (val4 a * val4 b < ordL * 115792089237316195423570985008687907853269984665640564039457584007913129639936)),
      inU4 (limbs4 (val4 a * val4 b * rInv % ordL)) && (inU4 R2L && decide (val4 (limbs4 (val4 a * val4 b * rInv % ordL)) * val4 R2L < ordL * 115792089237316195423570985008687907853269984665640564039457584007913129639936))],
      n4 (val4 (limbs4 (val4 a * val4 b * rInv % ordL)) * val4 R2L * rInv % ordL)) := by kernel_rfl
theorem R2L_val : val4 R2L = 1627715501170711445284395025044413883736156588369414752970002579683115011841 := by decide
theorem r_times : TRow prog F_scalar_times tTimes := by
  intro args r h
  unfold tTimes at h
  split at h
  case h_2 => simp at h
  rename_i a b
  simp only [Option.some.injEq, Prod.mk.injEq] at h
  obtain ⟨hc, rfl⟩ := h
  refine pure_of_out L10 at_scalar_times c_times (N := 5) (gs := []) ?_
  have e := k_times a b
  have hm := modL_range (val4 a * val4 b * rInv)
  have hv : val4 (limbs4 (val4 a * val4 b * rInv % ordL)) = val4 a * val4 b * rInv % ordL := val4_limbs hm.1 (by omega)
  rw [hc, hv, R2L_val, rInv2, inU4_limbs, show inU4 R2L = true by decide] at e
  have hlt : val4 a * val4 b * rInv % ordL * 1627715501170711445284395025044413883736156588369414752970002579683115011841 < ordL * 115792089237316195423570985008687907853269984665640564039457584007913129639936 := by
    generalize val4 a * val4 b * rInv % ordL = x at *
    unfold ordL at *
    omega
  rw [decide_eq_true hlt] at e
  exact e
def ts11 : List (Nat × TF) := (F_scalar_times, tTimes) :: ts10
theorem L11 : LibOK prog tt ts11 [] := L10.addT r_times
def CC : Int := hval (lf (byL 32 (val4 (lf [0, 0, 0, 1])))) 32 0
def pc (f : Nat → Nat → Int) (at_ n : Nat) : Nat → Int := fun c => bif Nat.ble (c + 1) n then f (at_ + c) 0 else 0
def stV (v : Int) (p : Nat → Int) : Int := low ((val4 (limbs4 (v * val4 (limbs4 CC) % ordL)) + val4 (limbs4 (hval p 32 0 % ordL))) % 115792089237316195423570985008687907853269984665640564039457584007913129639936)
def stCk (r p : Nat → Int) : List Bool := [areB (lf (byL 32 (val4 (lf [0, 0, 0, 1])))) 32 0, inU4 r && (inU4 (limbs4 CC) && decide (val4 r * val4 (limbs4 CC) < ordL * 115792089237316195423570985008687907853269984665640564039457584007913129639936)), areB p 32 0,
  inU4 (limbs4 (val4 r * val4 (limbs4 CC) % ordL)) && inU4 (limbs4 (hval p 32 0 % ordL))]
def r1L (f : Nat → Nat → Int) : Nat → Int := limbs4 (stV (val4 (fun _ => 0)) (pc f 48 16))
def r2L (f : Nat → Nat → Int) : Nat → Int := limbs4 (stV (val4 (r1L f)) (pc f 24 24))
def r3L (f : Nat → Nat → Int) : Nat → Int := limbs4 (stV (val4 (r2L f)) (pc f 0 24))
theorem c_reduce : fnChk prog (envP tt ts11 []) f_scalar_Reduce = true := by kernel_rfl
theorem k_reduce64 (t : Bool) (f : Nat → Nat → Int) : (outP (apFunc (envP tt ts11 []) [] 5 f_scalar_Reduce [.sc (.vints t .u8 1 64 f)] [])).map (·.2) = some (b32 (val4 (r3L f))) := by kernel_rfl
theorem ck_reduce64 (t : Bool) (f : Nat → Nat → Int) : (outP (apFunc (envP tt ts11 []) [] 5 f_scalar_Reduce [.sc (.vints t .u8 1 64 f)] [])).map (·.1) =
    some (ckL ([inU4 (lf [0, 0, 0, 1])] ++ (stCk (fun _ => 0) (pc f 48 16) ++ (stCk (r1L f) (pc f 24 24) ++ (stCk (r2L f) (pc f 0 24) ++ [inU4 (r3L f)]))))) := by kernel_rfl
theorem CC_eq : CC = 6277101735386680763835789423207666416102355444464034512896 := by decide
theorem CC_val : val4 (limbs4 CC) = 6277101735386680763835789423207666416102355444464034512896 := by rw [CC_eq]; exact val4_limbs (by decide) (by decide)
theorem stV_law (v : Int) (p : Nat → Int) : stV v p = (v * 6277101735386680763835789423207666416102355444464034512896 + hval p 32 0) % ordL := by
  unfold stV
  have h1 := modL_range (v * val4 (limbs4 CC))
  have h2 := modL_range (hval p 32 0)
  rw [val4_limbs h1.1 (by omega), val4_limbs h2.1 (by omega), low_add, CC_val]
theorem stV_range (v : Int) (p : Nat → Int) : 0 ≤ stV v p ∧ stV v p < ordL ∧ ordL < 115792089237316195423570985008687907853269984665640564039457584007913129639936 := by rw [stV_law]; exact modL_range _
theorem hval_congr2 {s t : Nat → Int} : ∀ {n j j' : Nat}, (∀ i, i < n → s (j + i) = t (j' + i)) → hval s n j = hval t n j'
  | 0, _, _, _ => rfl
  | n + 1, j, j', h => by
    have h0 : s j = t j' := h 0 (by omega)
    have e : hval s n (j + 1) = hval t n (j' + 1) := hval_congr2 fun i hi => by
      have := h (i + 1) (by omega)
      rw [show j + (i + 1) = j + 1 + i by omega, show j' + (i + 1) = j' + 1 + i by omega] at this
      exact this
    simp only [hval, h0, e]
theorem pc_hval (f : Nat → Nat → Int) (a n : Nat) (hn : n ≤ 32) : hval (pc f a n) 32 0 = hval (fun j => f j 0) n a := by
  rw [show (32 : Nat) = n + (32 - n) by omega, hval_add, hval_zero (n := 32 - n) fun i hi => by
    unfold pc
    have : Nat.ble (0 + n + i + 1) n = false := by cases hb : Nat.ble (0 + n + i + 1) n with | false => rfl | true => exact absurd (Nat.le_of_ble_eq_true hb) (by omega)
    rw [this]; rfl]
  rw [Int.mul_zero, Int.add_zero]
  exact hval_congr2 fun i hi => by
    unfold pc
    rw [show Nat.ble (0 + i + 1) n = true from Nat.ble_eq_true_of_le (by omega), Nat.zero_add]; rfl
theorem areB_of {s : Nat → Int} : ∀ {n j : Nat}, (∀ i, i < n → 0 ≤ s (j + i) ∧ s (j + i) < 256) → areB s n j = true
  | 0, _, _ => rfl
  | n + 1, j, h => by
    simp only [areB, Bool.and_eq_true]
    refine ⟨by have := h 0 (by omega); simpa [isB] using this, areB_of fun i hi => ?_⟩
    have := h (i + 1) (by omega)
    rw [show j + (i + 1) = j + 1 + i by omega] at this
    exact this
theorem pc_areB {f : Nat → Nat → Int} {m : Nat} (h : areB (fun j => f j 0) m 0 = true) (a n : Nat) (hn : a + n ≤ m) : areB (pc f a n) 32 0 = true := by
  refine areB_of fun i hi => ?_
  unfold pc
  cases hb : Nat.ble (0 + i + 1) n with
  | false => exact ⟨Int.le_refl 0, show (0 : Int) < 256 by decide⟩
  | true =>
    have := Nat.le_of_ble_eq_true hb
    have h2 := areB_t h (a + (0 + i)) (by omega)
    rw [Nat.zero_add] at h2
    exact h2
theorem red64 {f : Nat → Nat → Int} : r3L f = limbs4 (hval (fun j => f j 0) 64 0 % ordL) := by
  have v1 : val4 (r1L f) = stV (val4 (fun _ => 0)) (pc f 48 16) := val4_limbs (stV_range _ _).1 (by have := stV_range (val4 (fun _ => 0)) (pc f 48 16); omega)
  have v2 : val4 (r2L f) = stV (val4 (r1L f)) (pc f 24 24) := val4_limbs (stV_range _ _).1 (by have := stV_range (val4 (r1L f)) (pc f 24 24); omega)
  unfold r3L
  rw [stV_law, v2, stV_law, v1, stV_law, pc_hval f 48 16 (by omega), pc_hval f 24 24 (by omega), pc_hval f 0 24 (by omega)]
  have z : val4 (fun _ => (0 : Int)) = 0 := by decide
  rw [z]
  have e1 := hval_add (fun j => f j 0) 24 40 0
  have e2 := hval_add (fun j => f j 0) 24 16 24
  simp only [Nat.reduceAdd] at e1 e2
  rw [e1, e2, show (256 : Int) ^ 24 = 6277101735386680763835789423207666416102355444464034512896 by decide]
  generalize hval (fun j => f j 0) 24 0 = A
  generalize hval (fun j => f j 0) 24 24 = B
  generalize hval (fun j => f j 0) 16 48 = C
  refine congrArg limbs4 ?_
  unfold ordL
  omega
theorem z_val : val4 (fun _ => (0 : Int)) < ordL := by decide
theorem z_in : inU4 (fun _ => (0 : Int)) = true := by decide
theorem stCk_law {r p : Nat → Int} (hr : inU4 r = true) (hv : val4 r < ordL) (hp : areB p 32 0 = true) : ∀ b ∈ stCk r p, b = true := by
  have hlt : val4 r * val4 (limbs4 CC) < ordL * 115792089237316195423570985008687907853269984665640564039457584007913129639936 := by
    rw [CC_val]
    have := (val4_range hr).1
    unfold ordL at *
    omega
  intro b hb
  simp only [stCk, List.mem_cons, List.not_mem_nil, or_false] at hb
  rcases hb with rfl | rfl | rfl | rfl
  · decide
  · rw [hr, inU4_limbs, decide_eq_true hlt]; rfl
  · exact hp
  · rw [inU4_limbs, inU4_limbs]; rfl
def tReduce64 : TF := fun args => match args with
  | [.sc (.vints _ .u8 1 64 f)] => some (areB (fun j => f j 0) 64 0, b32 (hval (fun j => f j 0) 64 0 % ordL))
  | _ => none
theorem r_reduce64 : TRow prog F_scalar_Reduce tReduce64 := by
  intro args r h
  unfold tReduce64 at h
  split at h
  case h_2 => simp at h
  rename_i t f
  simp only [Option.some.injEq, Prod.mk.injEq] at h
  obtain ⟨ha, rfl⟩ := h
  refine pure_of_out L11 at_scalar_Reduce c_reduce (N := 5) (gs := []) ?_
  have hck : ckL ([inU4 (lf [0, 0, 0, 1])] ++ (stCk (fun _ => 0) (pc f 48 16) ++ (stCk (r1L f) (pc f 24 24) ++ (stCk (r2L f) (pc f 0 24) ++ [inU4 (r3L f)])))) = true := by
    refine ckL_t.2 fun b hb => ?_
    have b1 := stV_range (val4 (fun _ => 0)) (pc f 48 16)
    have b2 := stV_range (val4 (r1L f)) (pc f 24 24)
    have v1 : val4 (r1L f) = stV (val4 (fun _ => 0)) (pc f 48 16) := val4_limbs b1.1 (by omega)
    have v2 : val4 (r2L f) = stV (val4 (r1L f)) (pc f 24 24) := val4_limbs b2.1 (by omega)
    simp only [List.mem_append, List.mem_singleton] at hb
    rcases hb with hb | hb | hb | hb | hb
    · rw [hb]; exact (by decide : inU4 (lf [0, 0, 0, 1]) = true)
    · exact stCk_law z_in z_val (pc_areB ha 48 16 (by omega)) b hb
    · exact stCk_law (r := r1L f) (inU4_limbs _) (by rw [v1]; exact b1.2.1) (pc_areB ha 24 24 (by omega)) b hb
    · exact stCk_law (r := r2L f) (inU4_limbs _) (by rw [v2]; exact b2.2.1) (pc_areB ha 0 24 (by omega)) b hb
    · rw [hb]; exact inU4_limbs _
  have e := both (ck_reduce64 t f) (k_reduce64 t f)
  have hm := modL_range (hval (fun j => f j 0) 64 0)
  rw [hck, red64, val4_limbs hm.1 (by omega)] at e
  exact e
end Go.Proofs.YtjebjiakggmjhaaGreat
namespace Go.Proofs.YtjebjiakggmjhaaGreat
open Go.Proofs.Tryz
open Go Go.AM
noncomputable abbrev pE : EnvP := envP tt [] []
def big (n : Nat) : Bool := Nat.ble n 4611686018427387904
theorem body_of {fn : Func} {id : Nat} {B : Code} (h : fn.body.map (bodiesOf id) = some [.loop B]) : ∀ c, fn.body = some c → ∀ b ∈ bodiesOf id c, b = .loop B := by
  intro c hc b hb
  rw [hc] at h
  simp only [Option.map_some, Option.some.injEq] at h
  rw [h] at hb
  simpa using hb
theorem wr_small {x : Int} (h0 : 0 ≤ x) (h1 : x < 9223372036854775808) : wr .i64 x = x := by
  show IntKind.i64.wrap x = x
  rw [IntKind.wrap_i64]; omega
theorem inR_nat {k n : Nat} (h : k < n) : inR k n = true := by simp [inR]; omega
end Go.Proofs.YtjebjiakggmjhaaGreat
namespace Go.Proofs.YtjebjiakggmjhaaGreat
open Go.Proofs.Tryz
open Go Go.AM
def tTwice : TF := fun args => match args with
  | [.agg [.ints .u32 8 a], .sc (.int .u32 b)] => some (inW8 a && (decide (0 ≤ b) && (decide (b ≤ 1) && decide (val8 a < ordL))), n8 (2 * val8 a + b))
  | _ => none
theorem c_twice : fnChk prog pE f_rimeref02_twice = true := by kernel_rfl
theorem k_twice (a : Nat → Int) (b : Int) : outP (apFunc pE [] 10 f_rimeref02_twice [u8w a, .sc (.int .u32 b)] []) = some (true, u8w (lf (twiceL a b))) := by kernel_rfl
theorem r_twice : TRow prog F_rimeref02_twice tTwice := by
  intro args r h
  unfold tTwice at h
  split at h
  case h_2 => simp at h
  rename_i a b
  simp only [Option.some.injEq, Prod.mk.injEq, Bool.and_eq_true, decide_eq_true_eq] at h
  obtain ⟨⟨ha, hb0, hb1, hl⟩, rfl⟩ := h
  refine pure_of_out L0 at_rimeref02_twice c_twice (N := 10) (gs := []) ?_
  have := k_twice a b
  rw [twice_law ha ⟨hb0, hb1⟩ hl] at this
  exact this
def tMinus : TF := fun args => match args with
  | [.agg [.ints .u32 8 a], .agg [.ints .u32 8 b]] => some (inW8 a && (inW8 b && decide (val8 b ≤ val8 a)), n8 (val8 a - val8 b))
  | _ => none
theorem c_minus : fnChk prog pE f_rimeref02_minus = true := by kernel_rfl
theorem k_minus (a b : Nat → Int) : outP (apFunc pE [] 10 f_rimeref02_minus [u8w a, u8w b] []) = some (true, u8w (lf (minL a b))) := by kernel_rfl
theorem r_minus : TRow prog F_rimeref02_minus tMinus := by
  intro args r h
  unfold tMinus at h
  split at h
  case h_2 => simp at h
  rename_i a b
  simp only [Option.some.injEq, Prod.mk.injEq, Bool.and_eq_true, decide_eq_true_eq] at h
  obtain ⟨⟨ha, hb, hl⟩, rfl⟩ := h
  refine pure_of_out L0 at_rimeref02_minus c_minus (N := 10) (gs := []) ?_
  have := k_minus a b
  rw [min_law ha hb hl] at this
  exact this
noncomputable def blB : Code := match f_rimeref02_below.body with | some c => (match bodiesOf 0 c with | [.loop b] => b | _ => .skip) | none => .skip
def blH (a b : Nat → Int) : Heap := [some (.ints .u32 8 1 (fun _ d => a d)), some (.ints .u32 8 1 (fun _ d => b d))]
def blV (p : (Nat → Int) × (Nat → Int)) (v : Int) : St := ⟨tmOf [(2, .sc (.ptr 0 8 0 0 8)), (3, .sc (.ptr 1 8 0 0 8)), (5, .sc (.int .i64 v))] 24 0, blH p.1 p.2⟩
def blS (p : (Nat → Int) × (Nat → Int)) (k : Nat) : St := blV p (7 - (k : Int))
def blRd (s : St) : Option ((Nat → Int) × (Nat → Int)) := match s.hp with
  | [some (.ints _ _ _ a), some (.ints _ _ _ b)] => some (a 0, b 0)
  | _ => none
theorem bl_round (p : (Nat → Int) × (Nat → Int)) (v : Int) : roundB pE [(7, true), (16, false)] 5 blB (blV p v) .normal (blV p (v - 1)) =
    some (ckL [decide (v ≥ 0) == true, inR v 8, inR v 8, (p.1 (0 + v.toNat * 1) != p.2 (0 + v.toNat * 1)) == false] && stB (blV p (wr .i64 (v - 1))) (blV p (v - 1))) := by kernel_rfl
theorem bl_same (p : (Nat → Int) × (Nat → Int)) (v : Int) : stB (blV p v) (blV p v) = true := by
  simp [stB, blV, blH, tmOf, tmB, avB, svB, hpB, blkB, eqF_refl, kEq]
def blT1 (p : (Nat → Int) × (Nat → Int)) : St := ⟨tmOf [] 24 0, blH p.1 p.2⟩
def blT2 (p : (Nat → Int) × (Nat → Int)) (r : Bool) : St := ⟨tmOf [(4, .sc (.bool r))] 24 0, blH p.1 p.2⟩
theorem bl_stop1 (p : (Nat → Int) × (Nat → Int)) : roundB pE [] 5 blB (blV p (-1)) (.exit 0) (blT1 p) = some (true && stB (blT1 p) (blT1 p)) := by kernel_rfl
theorem bl_stop2 (p : (Nat → Int) × (Nat → Int)) (v : Int) (r : Bool) : roundB pE [(7, true), (16, true)] 5 blB (blV p v) .ret (blT2 p r) =
    some (ckL [decide (v ≥ 0) == true, inR v 8, inR v 8, (p.1 (0 + v.toNat * 1) != p.2 (0 + v.toNat * 1)) == true, inR v 8, inR v 8] && stB (blT2 p (decide (p.1 (0 + v.toNat * 1) < p.2 (0 + v.toNat * 1)))) (blT2 p r)) := by kernel_rfl
def blF1 : LF := famF blRd blS (fun p => Nat.beq (alike p.1 p.2 8 0) 8) (fun _ => .normal) blT1
def blF2 : LF := famF blRd blS (fun p => Nat.ble (alike p.1 p.2 8 0 + 1) 8) (fun _ => .ret) (fun p => blT2 p (decide (p.1 (7 - alike p.1 p.2 8 0) < p.2 (7 - alike p.1 p.2 8 0))))
theorem bl_body : f_rimeref02_below.body.map (bodiesOf 0) = some [.loop blB] := by kernel_rfl
theorem bl_ok : codeOK prog pE.env.isW blB = true := by kernel_rfl
theorem bl_rd {s : St} {p : (Nat → Int) × (Nat → Int)} (h : blRd s = some p) : ∃ k sz n f k' sz' n' g, s.hp = [some (.ints k sz n f), some (.ints k' sz' n' g)] := by
  unfold blRd at h
  split at h
  · rename_i hh; exact ⟨_, _, _, _, _, _, _, _, hh⟩
  · simp at h
theorem bl_hp {s : St} {p : (Nat → Int) × (Nat → Int)} (h : blRd s = some p) : (blS p 0).hp.length = s.hp.length ∧ ∀ (i : Nat) (t : Heap), s.hp[i]? = some none → t[i]? = some none := by
  obtain ⟨k, sz, n, f, k', sz', n', g, hh⟩ := bl_rd h
  refine ⟨by rw [hh]; rfl, fun i t hi => ?_⟩
  rw [hh] at hi
  match i, hi with
  | 0, hi => simp at hi
  | 1, hi => simp at hi
  | n + 2, hi => simp at hi
theorem bl_step (p : (Nat → Int) × (Nat → Int)) (k : Nat) (hk : k < 8) (he : p.1 (7 - k) = p.2 (7 - k)) : ∃ s1, am pE.env 5 blB (blS p k) = some (.normal, s1) ∧ StLe s1 (blS p (k + 1)) := by
  have e0 : (7 - ((k + 1 : Nat) : Int)) = 7 - (k : Int) - 1 := by omega
  unfold blS
  rw [e0]
  refine roundB_spec (bl_round p (7 - (k : Int))) ?_
  have e : wr .i64 (7 - (k : Int) - 1) = 7 - (k : Int) - 1 := by
    show IntKind.i64.wrap _ = _
    rw [IntKind.wrap_i64]; omega
  have et : 0 + (7 - (k : Int)).toNat * 1 = 7 - k := by omega
  rw [e, bl_same, et, he]
  simp [ckL, inR]; omega
theorem l_bl1 : LRow prog f_rimeref02_below 0 blF1 := by
  refine LRow.fam (N := 5) (L0.env []) mix (fun _ => 8) (body_of bl_body) bl_ok (fun w0 own0 => accOK_none (fun id => rfl) blB) (fun s a h => ⟨(bl_hp h).1, fun i hi => (bl_hp h).2 i _ hi⟩) (fun _ _ => rfl) (fun _ => Nat.le_refl _) ?_ ?_
  · intro p hp k hk
    have hp := Nat.eq_of_beq_eq_true hp
    obtain ⟨h1, h2, h3, h4⟩ := alike_spec p.1 p.2 8 0
    exact bl_step p k hk (h3 k (Nat.zero_le _) (by omega))
  · intro p hp
    obtain ⟨s1, h1, h2⟩ := roundB_spec (bl_stop1 p) (by simp [stB, blT1, blH, tmOf, tmB, avB, hpB, blkB, eqF_refl, kEq])
    exact ⟨_, s1, h1, rfl, h2⟩
theorem l_bl2 : LRow prog f_rimeref02_below 0 blF2 := by
  refine LRow.fam (N := 5) (L0.env []) mix (fun p => alike p.1 p.2 8 0) (body_of bl_body) bl_ok (fun w0 own0 => accOK_none (fun id => rfl) blB) (fun s a h => ⟨(bl_hp h).1, fun i hi => (bl_hp h).2 i _ hi⟩) (fun _ _ => rfl) (fun _ => Nat.le_refl _) ?_ ?_
  · intro p hp k hk
    have hp := Nat.le_of_ble_eq_true hp
    obtain ⟨h1, h2, h3, h4⟩ := alike_spec p.1 p.2 8 0
    exact bl_step p k (by omega) (h3 k (Nat.zero_le _) hk)
  · intro p hp
    have hp := Nat.le_of_ble_eq_true hp
    obtain ⟨h1, h2, h3, h4⟩ := alike_spec p.1 p.2 8 0
    have hne := h4 (by omega)
    have et : 0 + (7 - ((alike p.1 p.2 8 0 : Nat) : Int)).toNat * 1 = 7 - alike p.1 p.2 8 0 := by omega
    obtain ⟨s1, q1, q2⟩ := roundB_spec (bl_stop2 p (7 - (alike p.1 p.2 8 0 : Int)) (decide (p.1 (7 - alike p.1 p.2 8 0) < p.2 (7 - alike p.1 p.2 8 0)))) (by
      rw [et]
      have hs : stB (blT2 p (decide (p.1 (7 - alike p.1 p.2 8 0) < p.2 (7 - alike p.1 p.2 8 0)))) (blT2 p (decide (p.1 (7 - alike p.1 p.2 8 0) < p.2 (7 - alike p.1 p.2 8 0)))) = true := by
        simp [stB, blT2, blH, tmOf, tmB, avB, svB, hpB, blkB, eqF_refl, kEq]
      rw [hs]
      simp [ckL, inR, hne]; omega)
    exact ⟨_, s1, q1, rfl, q2⟩
def tBelow : TF := fun args => match args with
  | [.agg [.ints .u32 8 a], .agg [.ints .u32 8 b]] => some (inW8 a && inW8 b, .sc (.bool (decide (val8 a < val8 b))))
  | _ => none
def blI (p : (Nat → Int) × (Nat → Int)) : St := ⟨tmOf [(2, .sc (.ptr 0 8 0 0 8)), (3, .sc (.ptr 1 8 0 0 8)), (5, .sc (.int .i64 7))] 24 0, blH p.1 p.2⟩
theorem c_below1 : fnChk prog (envL tt [] [] [(0, blF1)]) f_rimeref02_below = true := by kernel_rfl
theorem c_below2 : fnChk prog (envL tt [] [] [(0, blF2)]) f_rimeref02_below = true := by kernel_rfl
theorem k_below1 (a b : Nat → Int) : outP (apFunc (envL tt [] [] [(0, blF1)]) [] 5 f_rimeref02_below [u8w a, u8w b] []) =
    some (ckL [Nat.beq (alike a b 8 0) 8 && stB (blI (a, b)) (blS (a, b) 0)], .sc (.bool false)) := by kernel_rfl
theorem k_below2 (a b : Nat → Int) : outP (apFunc (envL tt [] [] [(0, blF2)]) [] 5 f_rimeref02_below [u8w a, u8w b] []) =
    some (ckL [Nat.ble (alike a b 8 0 + 1) 8 && stB (blI (a, b)) (blS (a, b) 0)], .sc (.bool (decide (a (7 - alike a b 8 0) < b (7 - alike a b 8 0))))) := by kernel_rfl
theorem r_below : TRow prog F_rimeref02_below tBelow := by
  intro args r h
  unfold tBelow at h
  split at h
  case h_2 => simp at h
  rename_i a b
  simp only [Option.some.injEq, Prod.mk.injEq, Bool.and_eq_true] at h
  obtain ⟨⟨ha, hb⟩, rfl⟩ := h
  obtain ⟨q1, q2⟩ := below_law ha hb
  have hs : stB (blI (a, b)) (blS (a, b) 0) = true := bl_same (a, b) 7
  obtain ⟨h1, h2, _, _⟩ := alike_spec a b 8 0
  by_cases e : alike a b 8 0 = 8
  · rw [q1 e]
    refine pure_of_outL L0 at_rimeref02_below (LsOK.nil.cons l_bl1) c_below1 (N := 5) (gs := []) ?_
    have := k_below1 a b
    rw [e, hs] at this
    exact this
  · rw [(q2 (by omega)).1]
    refine pure_of_outL L0 at_rimeref02_below (LsOK.nil.cons l_bl2) c_below2 (N := 5) (gs := []) ?_
    have := k_below2 a b
    rw [hs, show Nat.ble (alike a b 8 0 + 1) 8 = true from Nat.ble_eq_true_of_le (by omega)] at this
    exact this
def tOrder2 : TF := fun args => match args with
  | [] => some (true, n8 ordL)
  | _ => none
theorem c_order2 : fnChk prog pE f_rimeref02_Order = true := by kernel_rfl
theorem r_order2 : TRow prog F_rimeref02_Order tOrder2 := by
  intro args r h
  unfold tOrder2 at h
  split at h
  case h_2 => simp at h
  simp only [Option.some.injEq, Prod.mk.injEq, true_and] at h
  subst h
  exact pure_of_out L0 at_rimeref02_Order c_order2 (N := 5) (gs := []) (by kernel_rfl)
def rs1 : List (Nat × TF) := [(F_rimeref02_Order, tOrder2), (F_rimeref02_below, tBelow), (F_rimeref02_minus, tMinus), (F_rimeref02_twice, tTwice)]
theorem R1 : LibOK prog tt rs1 [] := (((L0.addT r_twice).addT r_minus).addT r_below).addT r_order2
end Go.Proofs.YtjebjiakggmjhaaGreat
namespace Go.Proofs.YtjebjiakggmjhaaGreat
open Go.Proofs.Tryz
open Go Go.AM
structure MA where
  t : Bool
  n : Nat
  f : Nat → Nat → Int
  i : Nat
  r : Int
noncomputable abbrev qE : EnvP := envP tt rs1 []
noncomputable def miB : Code := match f_rimeref02_mod.body with | some c => (match bodiesOf 2 c with | [.loop b] => b | _ => .skip) | none => .skip
noncomputable def moB : Code := match f_rimeref02_mod.body with | some c => (match bodiesOf 0 c with | [.loop b] => b | _ => .skip) | none => .skip
def mdH (r : Int) : Heap := [some (.ints .u32 8 1 (fun _ _ => 0)), some (.ints .u32 8 1 (fun _ d => limbs8 r d)), some (.ints .u32 8 1 (fun _ d => limbs8 ordL d))]
def mdW (a : MA) (iv v r : Int) : St := ⟨tmOf [(0, .sc (.vints a.t .u32 1 a.n a.f)), (2, .sc (.ptr 0 8 0 0 8)), (3, .sc (.ptr 1 8 0 0 8)), (4, .sc (.ptr 2 8 0 0 8)), (5, .sc (.int .i64 iv)), (6, .sc (.int .i64 v))] 37 0, mdH r⟩
def mdV (a : MA) (v r : Int) : St := mdW a (a.i : Int) v r
def bitOf_mod (d v : Int) : Int := iand .u32 (ishr .u32 d (wr .u64 v)) 1
def twV (r b : Int) : Int := 2 * val8 (limbs8 r) + b
def twCk (r b : Int) : Bool := inW8 (limbs8 r) && (decide (0 ≤ b) && (decide (b ≤ 1) && decide (val8 (limbs8 r) < ordL)))
theorem mi_round1 (a : MA) (v r : Int) : roundB qE [(16, true), (32, false)] 5 miB (mdV a v r) .normal (mdV a (v - 1) (twV r (bitOf_mod (a.f (a.i : Int).toNat 0) v))) =
    some (ckL [decide (v ≥ 0) == true, inR a.i a.n, !decide (wr .u64 v < 0), twCk r (bitOf_mod (a.f (a.i : Int).toNat 0) v), inW8 (limbs8 (twV r (bitOf_mod (a.f (a.i : Int).toNat 0) v))) && inW8 (limbs8 ordL),
        (!decide (val8 (limbs8 (twV r (bitOf_mod (a.f (a.i : Int).toNat 0) v))) < val8 (limbs8 ordL))) == false] &&
      stB (mdV a (wr .i64 (v - 1)) (twV r (bitOf_mod (a.f (a.i : Int).toNat 0) v))) (mdV a (v - 1) (twV r (bitOf_mod (a.f (a.i : Int).toNat 0) v)))) := by kernel_rfl
theorem mi_round2 (a : MA) (v r : Int) : roundB qE [(16, true), (32, true)] 5 miB (mdV a v r) .normal (mdV a (v - 1) (val8 (limbs8 (twV r (bitOf_mod (a.f (a.i : Int).toNat 0) v))) - val8 (limbs8 ordL))) =
    some (ckL [decide (v ≥ 0) == true, inR a.i a.n, !decide (wr .u64 v < 0), twCk r (bitOf_mod (a.f (a.i : Int).toNat 0) v), inW8 (limbs8 (twV r (bitOf_mod (a.f (a.i : Int).toNat 0) v))) && inW8 (limbs8 ordL),
        (!decide (val8 (limbs8 (twV r (bitOf_mod (a.f (a.i : Int).toNat 0) v))) < val8 (limbs8 ordL))) == true,
        inW8 (limbs8 (twV r (bitOf_mod (a.f (a.i : Int).toNat 0) v))) && (inW8 (limbs8 ordL) && decide (val8 (limbs8 ordL) ≤ val8 (limbs8 (twV r (bitOf_mod (a.f (a.i : Int).toNat 0) v)))))] &&
      stB (mdV a (wr .i64 (v - 1)) (val8 (limbs8 (twV r (bitOf_mod (a.f (a.i : Int).toNat 0) v))) - val8 (limbs8 ordL))) (mdV a (v - 1) (val8 (limbs8 (twV r (bitOf_mod (a.f (a.i : Int).toNat 0) v))) - val8 (limbs8 ordL)))) := by kernel_rfl
theorem md_same (a : MA) (v r : Int) : stB (mdV a v r) (mdV a v r) = true := by
  simp [stB, mdV, mdW, mdH, tmOf, tmB, avB, svB, hpB, blkB, eqF_refl, kEq]
def miT (a : MA) (r : Int) : St := ⟨tmOf [(0, .sc (.vints a.t .u32 1 a.n a.f)), (2, .sc (.ptr 0 8 0 0 8)), (3, .sc (.ptr 1 8 0 0 8)), (4, .sc (.ptr 2 8 0 0 8)), (5, .sc (.int .i64 (a.i : Int)))] 37 0, mdH r⟩
theorem mi_stop (a : MA) (r : Int) : roundB qE [] 5 miB (mdV a (-1) r) (.exit 2) (miT a r) = some (true && stB (miT a r) (miT a r)) := by kernel_rfl
theorem miT_same (a : MA) (r : Int) : stB (miT a r) (miT a r) = true := by
  simp [stB, miT, mdH, tmOf, tmB, avB, svB, hpB, blkB, eqF_refl, kEq]
def miD (a : MA) : Int := a.f a.i 0
def miS (a : MA) (k : Nat) : St := mdV a (31 - (k : Int)) (rK a.r (miD a) k)
def miRd (s : St) : Option MA := match getA s.tm 0, getA s.tm 5, s.hp with
  | .sc (.vints t _ _ n f), .sc (.int _ i), [some (.ints ..), some (.ints _ _ _ g), some (.ints ..)] => some ⟨t, n, f, i.toNat, val8 (g 0)⟩
  | _, _, _ => none
def miCk (a : MA) : Bool := Nat.ble (a.i + 1) a.n && (in32 (miD a) && (decide (0 ≤ a.r) && decide (a.r < ordL)))
def miF : LF := famF miRd miS miCk (fun _ => .normal) (fun a => miT a (rK a.r (miD a) 32))
theorem mi_body : f_rimeref02_mod.body.map (bodiesOf 2) = some [.loop miB] := by kernel_rfl
theorem mi_ok : codeOK prog qE.env.isW miB = true := by kernel_rfl
theorem mi_hp {s : St} {a : MA} (h : miRd s = some a) : s.hp.length = 3 ∧ ∀ (i : Nat) (t : Heap), s.hp[i]? = some none → t[i]? = some none := by
  unfold miRd at h
  split at h
  · rename_i hh
    rw [hh]
    refine ⟨rfl, fun i t hi => ?_⟩
    match i, hi with
    | 0, hi => simp at hi
    | 1, hi => simp at hi
    | 2, hi => simp at hi
    | n + 3, hi => simp at hi
  · simp at h
theorem ordL_in : inW8 (limbs8 ordL) = true := inW8_limbs _
theorem ordL_val : val8 (limbs8 ordL) = ordL := val8_limbs (by decide) (by decide)
theorem mi_step (a : MA) (ha : miCk a = true) (k : Nat) (hk : k < 32) : ∃ s1, am qE.env 5 miB (miS a k) = some (.normal, s1) ∧ StLe s1 (miS a (k + 1)) := by
  simp only [miCk, Bool.and_eq_true, decide_eq_true_eq] at ha
  obtain ⟨h1, h2, h3, h4⟩ := ha
  have h1 := Nat.le_of_ble_eq_true h1
  have hd := in32_t h2
  obtain ⟨q1, q2⟩ := rK_range ⟨h3, h4⟩ (miD a) k
  have hb : bitOf_mod (a.f (a.i : Int).toNat 0) (31 - (k : Int)) = miD a / 2 ^ (31 - k) % 2 := by
    unfold bitOf_mod
    rw [Int.toNat_natCast]
    exact bit_law hd hk
  have hnext : rK a.r (miD a) (k + 1) = (2 * rK a.r (miD a) k + miD a / 2 ^ (31 - k) % 2) % ordL := rfl
  have ev : (31 - ((k + 1 : Nat) : Int)) = 31 - (k : Int) - 1 := by omega
  have ew : wr .i64 (31 - (k : Int) - 1) = 31 - (k : Int) - 1 := by
    show IntKind.i64.wrap _ = _
    rw [IntKind.wrap_i64]; omega
  have eu : (decide (wr .u64 (31 - (k : Int)) < 0)) = false := by rw [wr64]; simp; omega
  have hbit : 0 ≤ miD a / 2 ^ (31 - k) % 2 ∧ miD a / 2 ^ (31 - k) % 2 ≤ 1 := by omega
  unfold miS
  rw [hnext, ev]
  generalize hr : rK a.r (miD a) k = r at *
  have hv : val8 (limbs8 r) = r := val8_limbs q1 (by unfold ordL R256 at *; omega)
  have htw : twV r (miD a / 2 ^ (31 - k) % 2) = 2 * r + miD a / 2 ^ (31 - k) % 2 := by unfold twV; rw [hv]
  have hck : twCk r (miD a / 2 ^ (31 - k) % 2) = true := by
    unfold twCk
    rw [hv, inW8_limbs]
    simp [hbit, q2]
  generalize miD a / 2 ^ (31 - k) % 2 = b at *
  have hv2 : val8 (limbs8 (2 * r + b)) = 2 * r + b := val8_limbs (by omega) (by unfold ordL R256 at *; omega)
  have hir : inR (a.i : Int) a.n = true := inR_nat (by omega)
  by_cases e : 2 * r + b < ordL
  · have e2 : (2 * r + b) % ordL = 2 * r + b := Int.emod_eq_of_lt (by omega) e
    rw [e2]
    have hR := mi_round1 a (31 - (k : Int)) r
    rw [hb, htw] at hR
    refine roundB_spec hR ?_
    rw [ew, md_same, hck, hir, eu, inW8_limbs, ordL_in, hv2, ordL_val]
    simp [ckL, e]; omega
  · have e2 : (2 * r + b) % ordL = 2 * r + b - ordL := by unfold ordL at *; omega
    rw [e2]
    have hR := mi_round2 a (31 - (k : Int)) r
    rw [hb, htw, hv2, ordL_val] at hR
    refine roundB_spec hR ?_
    rw [ew, md_same, hck, hir, eu, inW8_limbs, ordL_in]
    have e3 : ordL ≤ 2 * r + b := by omega
    simp [ckL, e, e3]; omega
theorem mdH_len (r : Int) : (mdH r).length = 3 := rfl
theorem l_mi : LRow prog f_rimeref02_mod 2 miF := by
  refine LRow.fam (N := 5) (R1.env []) mix (fun _ => 32) (body_of mi_body) mi_ok (fun w0 own0 => accOK_none (fun id => rfl) miB) (fun s a h => ⟨by rw [(mi_hp h).1]; exact mdH_len _, fun i hi => (mi_hp h).2 i _ hi⟩) (fun a k => (mdH_len _).trans (mdH_len _).symm) (fun a => Nat.le_of_eq ((mdH_len _).trans (mdH_len _).symm)) (fun a ha k hk => mi_step a ha k hk) ?_
  intro a ha
  obtain ⟨s1, h1, h2⟩ := roundB_spec (mi_stop a (rK a.r (miD a) 32)) (by rw [miT_same]; rfl)
  exact ⟨_, s1, h1, rfl, h2⟩
noncomputable abbrev oE : EnvP := envL tt rs1 [] [(2, miF)]
def moV (a : MA) (v r : Int) : St := ⟨tmOf [(0, .sc (.vints a.t .u32 1 a.n a.f)), (2, .sc (.ptr 0 8 0 0 8)), (3, .sc (.ptr 1 8 0 0 8)), (4, .sc (.ptr 2 8 0 0 8)), (5, .sc (.int .i64 v))] 37 0, mdH r⟩
def moIn (a : MA) (v r : Int) : MA := ⟨a.t, a.n, a.f, v.toNat, val8 (limbs8 r)⟩
theorem mo_round (a : MA) (v r : Int) : roundB oE [(12, true)] 5 moB (moV a v r) .normal (moV a (v - 1) (rK (val8 (limbs8 r)) (a.f v.toNat 0) 32)) =
    some (ckL [decide (v ≥ 0) == true, miCk (moIn a v r) && stB (mdW a v 31 r) (miS (moIn a v r) 0)] && stB (moV a (wr .i64 ((v.toNat : Int) - 1)) (rK (val8 (limbs8 r)) (a.f v.toNat 0) 32)) (moV a (v - 1) (rK (val8 (limbs8 r)) (a.f v.toNat 0) 32))) := by kernel_rfl
def moT (a : MA) (r : Int) : St := ⟨tmOf [(2, .sc (.ptr 0 8 0 0 8)), (3, .sc (.ptr 1 8 0 0 8))] 37 0, mdH r⟩
theorem mo_stop (a : MA) (r : Int) : roundB oE [] 5 moB (moV a (-1) r) (.exit 0) (moT a r) = some (true && stB (moT a r) (moT a r)) := by kernel_rfl
theorem mo_inner : bodiesOf 2 moB = [.loop miB] := by kernel_rfl
theorem mo_acc : ∀ w0 own0, accOK prog oE.env w0 own0 moB := by
  intro w0 own0
  refine accOK_of moB fun id F hF b hb => ?_
  have h2 : id = 2 ∧ F = fun s => dropB (miF s) := by
    by_cases e : id = 2
    · subst e
      refine ⟨rfl, ?_⟩
      have : oE.env.L 2 = some (fun s => dropB (miF s)) := rfl
      rw [this] at hF
      exact (Option.some.inj hF).symm
    · have : getL [(2, miF)] id = none := by
        simp only [getL]
        cases hb2 : Nat.beq 2 id with
        | true => exact absurd (Nat.eq_of_beq_eq_true hb2).symm e
        | false => rfl
      have h3 : oE.env.L id = none := by
        show (match getL [(2, miF)] id with | some F => some (fun s => dropB (F s)) | none => none) = none
        rw [this]
      rw [h3] at hF; cases hF
  obtain ⟨rfl, rfl⟩ := h2
  rw [mo_inner] at hb
  have hc := mi_body
  cases hcc : f_rimeref02_mod.body with
  | none => rw [hcc] at hc; simp at hc
  | some c =>
    rw [hcc] at hc
    simp only [Option.map_some, Option.some.injEq] at hc
    exact l_mi.1 c hcc b (by rw [hc]; exact hb) w0 own0
def moS (a : MA) (k : Nat) : St := moV a ((a.n : Int) - 1 - (k : Int)) (dmod a.f a.n k)
def moRd (s : St) : Option MA := match getA s.tm 0, s.hp with
  | .sc (.vints t _ _ n f), [some (.ints ..), some (.ints ..), some (.ints ..)] => some ⟨t, n, f, 0, 0⟩
  | _, _ => none
def all32 (f : Nat → Nat → Int) (n : Nat) : Bool := (List.range n).all fun j => in32 (f j 0)
theorem all32_t {f : Nat → Nat → Int} {n : Nat} (h : all32 f n = true) : ∀ j, j < n → W32 (f j 0) := fun j hj => by
  simp only [all32, List.all_eq_true, List.mem_range] at h
  exact in32_t (h j hj)
def moCk (a : MA) : Bool := big a.n && all32 a.f a.n
def moF : LF := famF moRd moS moCk (fun _ => .normal) (fun a => moT a (dmod a.f a.n a.n))
theorem mo_body : f_rimeref02_mod.body.map (bodiesOf 0) = some [.loop moB] := by kernel_rfl
theorem mo_ok : codeOK prog oE.env.isW moB = true := by kernel_rfl
theorem mo_hp {s : St} {a : MA} (h : moRd s = some a) : s.hp.length = 3 ∧ ∀ (i : Nat) (t : Heap), s.hp[i]? = some none → t[i]? = some none := by
  unfold moRd at h
  split at h
  · rename_i hh
    rw [hh]
    refine ⟨rfl, fun i t hi => ?_⟩
    match i, hi with
    | 0, hi => simp at hi
    | 1, hi => simp at hi
    | 2, hi => simp at hi
    | n + 3, hi => simp at hi
  · simp at h
theorem mo_same (a : MA) (v r : Int) : stB (moV a v r) (moV a v r) = true := by
  simp [stB, moV, mdH, tmOf, tmB, avB, svB, hpB, blkB, eqF_refl, kEq]
theorem moT_same (a : MA) (r : Int) : stB (moT a r) (moT a r) = true := by
  simp [stB, moT, mdH, tmOf, tmB, avB, svB, hpB, blkB, eqF_refl, kEq]
theorem mo_step (a : MA) (ha : moCk a = true) (k : Nat) (hk : k < a.n) : ∃ s1, am oE.env 5 moB (moS a k) = some (.normal, s1) ∧ StLe s1 (moS a (k + 1)) := by
  simp only [moCk, Bool.and_eq_true] at ha
  obtain ⟨hbig, hall⟩ := ha
  have hb : a.n ≤ 4611686018427387904 := Nat.le_of_ble_eq_true hbig
  have hW := all32_t hall
  obtain ⟨q1, q2⟩ := dmod_range a.f a.n k
  have hnext : dmod a.f a.n (k + 1) = rK (dmod a.f a.n k) (a.f (a.n - 1 - k) 0) 32 := rfl
  have ev : ((a.n : Int) - 1 - ((k + 1 : Nat) : Int)) = (a.n : Int) - 1 - (k : Int) - 1 := by omega
  unfold moS
  rw [hnext, ev]
  generalize hr : dmod a.f a.n k = r at *
  have hv : val8 (limbs8 r) = r := val8_limbs q1 (by unfold ordL R256 at *; omega)
  have et : ((a.n : Int) - 1 - (k : Int)).toNat = a.n - 1 - k := by omega
  have hR := mo_round a ((a.n : Int) - 1 - (k : Int)) r
  rw [et, hv] at hR
  refine roundB_spec hR ?_
  have ec : (((a.n - 1 - k : Nat) : Int)) = (a.n : Int) - 1 - (k : Int) := by omega
  have ew : wr .i64 ((a.n : Int) - 1 - (k : Int) - 1) = (a.n : Int) - 1 - (k : Int) - 1 := by
    show IntKind.i64.wrap _ = _
    rw [IntKind.wrap_i64]; omega
  have hin : moIn a ((a.n : Int) - 1 - (k : Int)) r = ⟨a.t, a.n, a.f, a.n - 1 - k, r⟩ := by unfold moIn; rw [et, hv]
  rw [hin]
  have hs : stB (mdW a ((a.n : Int) - 1 - (k : Int)) 31 r) (miS ⟨a.t, a.n, a.f, a.n - 1 - k, r⟩ 0) = true := by
    have : miS ⟨a.t, a.n, a.f, a.n - 1 - k, r⟩ 0 = mdV ⟨a.t, a.n, a.f, a.n - 1 - k, r⟩ 31 r := rfl
    rw [this]
    have h2 := md_same ⟨a.t, a.n, a.f, a.n - 1 - k, r⟩ 31 r
    have h3 : mdV ⟨a.t, a.n, a.f, a.n - 1 - k, r⟩ 31 r = mdW a ((a.n : Int) - 1 - (k : Int)) 31 r := by
      show mdW ⟨a.t, a.n, a.f, a.n - 1 - k, r⟩ ((a.n - 1 - k : Nat) : Int) 31 r = _
      rw [ec]; rfl
    rw [h3] at h2 ⊢
    exact h2
  have hck : miCk ⟨a.t, a.n, a.f, a.n - 1 - k, r⟩ = true := by
    simp only [miCk, miD, Bool.and_eq_true, decide_eq_true_eq]
    exact ⟨Nat.ble_eq_true_of_le (by omega), in32_of (hW _ (by omega)), q1, q2⟩
  rw [hs, hck, ec, ew, mo_same]
  simp [ckL]; omega
theorem l_mo : LRow prog f_rimeref02_mod 0 moF := by
  refine LRow.fam (N := 5) (R1.env _) mix (fun a => a.n) (body_of mo_body) mo_ok mo_acc (fun s a h => ⟨by rw [(mo_hp h).1]; exact mdH_len _, fun i hi => (mo_hp h).2 i _ hi⟩) (fun a k => (mdH_len _).trans (mdH_len _).symm) (fun a => Nat.le_of_eq ((mdH_len _).trans (mdH_len _).symm)) (fun a ha k hk => mo_step a ha k hk) ?_
  intro a ha
  have e : moS a a.n = moV a (-1) (dmod a.f a.n a.n) := by
    unfold moS
    rw [show (a.n : Int) - 1 - (a.n : Int) = -1 by omega]
  rw [e]
  obtain ⟨s1, h1, h2⟩ := roundB_spec (mo_stop a (dmod a.f a.n a.n)) (by rw [moT_same]; rfl)
  exact ⟨_, s1, h1, rfl, h2⟩
def tMod : TF := fun args => match args with
  | [.sc (.vints _ .u32 1 n f)] => some (big n && all32 f n, n8 (dval f n n % ordL))
  | _ => none
def moI (t : Bool) (n : Nat) (f : Nat → Nat → Int) : St := ⟨tmOf [(0, .sc (.vints t .u32 1 n f)), (2, .sc (.ptr 0 8 0 0 8)), (3, .sc (.ptr 1 8 0 0 8)), (4, .sc (.ptr 2 8 0 0 8)), (5, .sc (.int .i64 (wr .i64 ((n : Int) - 1))))] 37 0, [some (.ints .u32 8 1 (fun _ _ => 0)), some (.ints .u32 8 1 (fun _ _ => 0)), some (.ints .u32 8 1 (fun _ d => limbs8 ordL d))]⟩
theorem c_mod : fnChk prog (envL tt rs1 [] [(0, moF)]) f_rimeref02_mod = true := by kernel_rfl
theorem k_mod (t : Bool) (n : Nat) (f : Nat → Nat → Int) : outP (apFunc (envL tt rs1 [] [(0, moF)]) [] 5 f_rimeref02_mod [.sc (.vints t .u32 1 n f)] []) =
    some (ckL [moCk ⟨t, n, f, 0, 0⟩ && stB (moI t n f) (moS ⟨t, n, f, 0, 0⟩ 0)], n8 (dmod f n n)) := by kernel_rfl
theorem r_mod : TRow prog F_rimeref02_mod tMod := by
  intro args r h
  unfold tMod at h
  split at h
  case h_2 => simp at h
  rename_i t n f
  simp only [Option.some.injEq, Prod.mk.injEq] at h
  obtain ⟨hb, rfl⟩ := h
  refine pure_of_outL R1 at_rimeref02_mod (LsOK.nil.cons l_mo) c_mod (N := 5) (gs := []) ?_
  have hb2 := hb
  simp only [Bool.and_eq_true] at hb2
  have hn : n ≤ 4611686018427387904 := Nat.le_of_ble_eq_true hb2.1
  have e1 : wr .i64 ((n : Int) - 1) = (n : Int) - 1 - ((0 : Nat) : Int) := by
    show IntKind.i64.wrap _ = _
    rw [IntKind.wrap_i64]; omega
  have hs : stB (moI t n f) (moS ⟨t, n, f, 0, 0⟩ 0) = true := by
    have h0 : eqF 1 8 (fun _ _ => 0) (fun _ d => limbs8 0 d) = true := by decide
    have hm : moS ⟨t, n, f, 0, 0⟩ 0 = moV ⟨t, n, f, 0, 0⟩ ((n : Int) - 1 - ((0 : Nat) : Int)) 0 := rfl
    rw [hm]
    simp only [moI, e1]
    simp [stB, moV, mdH, tmOf, tmB, avB, svB, hpB, blkB, eqF_refl, kEq, h0]
  rw [k_mod, hs, dmod_eq (all32_t hb2.2) n (Nat.le_refl _)]
  have : moCk ⟨t, n, f, 0, 0⟩ = true := hb
  rw [this]; rfl
end Go.Proofs.YtjebjiakggmjhaaGreat
namespace Go.Proofs.YtjebjiakggmjhaaGreat
open Go.Proofs.Tryz
open Go Go.AM
structure DA where
  t : Bool
  n : Nat
  f : Nat → Nat → Int
  m : Nat
noncomputable def dgB : Code := match f_rimeref02_digits.body with | some c => (match bodiesOf 0 c with | [.loop b] => b | _ => .skip) | none => .skip
def dgW (a : DA) (v : Int) (D : Nat → Nat → Int) : St := ⟨tmOf [(0, .sc (.vints a.t .u8 1 a.n a.f)), (3, .sc (.slice 0 1 0 0 1 a.m)), (4, .sc (.int .i64 v))] 37 0, [some (.ints .u32 1 a.m D)]⟩
def dgQ (v : Int) : Int := wr .i64 (v.tdiv 4)
def dgSh (v : Int) : Int := wr .u64 (wr .i64 (8 * v.tmod 4))
def dgVal (a : DA) (v : Int) (D : Nat → Nat → Int) : Int := ior .u32 (D (0 + (dgQ v).toNat) 0) (ishl .u32 (wr .u32 (a.f v.toNat 0)) (dgSh v))
theorem dg_round (a : DA) (v v' : Int) (D D' : Nat → Nat → Int) : roundB pE [(13, true)] 5 dgB (dgW a v D) .normal (dgW a v' D') =
    some (ckL [decide (v < (a.n : Int)) == true, inR (dgQ v) a.m, inR v a.n, !decide (dgSh v < 0), inR (dgQ v) a.m] &&
      stB (dgW a (wr .i64 (v + 1)) (fun r d => bif Nat.beq r (0 + (dgQ v).toNat) && Nat.beq d 0 then dgVal a v D else D r d)) (dgW a v' D')) := by kernel_rfl
theorem dg_same (a : DA) (v : Int) {D D' : Nat → Nat → Int} (h : eqF a.m 1 D D' = true) : stB (dgW a v D) (dgW a v D') = true := by
  simp [stB, dgW, tmOf, tmB, avB, svB, hpB, blkB, eqF_refl, kEq, h]
def dgT (a : DA) (D : Nat → Nat → Int) : St := ⟨tmOf [(3, .sc (.slice 0 1 0 0 1 a.m))] 37 0, [some (.ints .u32 1 a.m D)]⟩
theorem dg_stop (a : DA) (v : Int) (D : Nat → Nat → Int) : roundB pE [(13, false)] 5 dgB (dgW a v D) (.exit 0) (dgT a D) = some (ckL [decide (v < (a.n : Int)) == false] && stB (dgT a D) (dgT a D)) := by kernel_rfl
theorem dgT_same (a : DA) (D : Nat → Nat → Int) : stB (dgT a D) (dgT a D) = true := by
  simp [stB, dgT, tmOf, tmB, avB, svB, hpB, blkB, eqF_refl, kEq]
def dgS (a : DA) (k : Nat) : St := dgW a (k : Int) (fun r _ => dK (fun j => a.f j 0) k r)
def dgRd (s : St) : Option DA := match getA s.tm 0, s.hp with
  | .sc (.vints t _ _ n f), [some (.ints _ _ m _)] => some ⟨t, n, f, m⟩
  | _, _ => none
def dgCk (a : DA) : Bool := big a.n && (areB (fun j => a.f j 0) a.n 0 && Nat.beq a.m ((a.n + 3) / 4))
def dgF : LF := famF dgRd dgS dgCk (fun _ => .normal) (fun a => dgT a (fun r _ => dK (fun j => a.f j 0) a.n r))
theorem dg_body : f_rimeref02_digits.body.map (bodiesOf 0) = some [.loop dgB] := by kernel_rfl
theorem dg_ok : codeOK prog pE.env.isW dgB = true := by kernel_rfl
theorem dg_hp {s : St} {a : DA} (h : dgRd s = some a) : s.hp.length = 1 ∧ ∀ (i : Nat) (t : Heap), s.hp[i]? = some none → t[i]? = some none := by
  unfold dgRd at h
  split at h
  · rename_i hh
    rw [hh]
    refine ⟨rfl, fun i t hi => ?_⟩
    match i, hi with
    | 0, hi => simp at hi
    | n + 1, hi => simp at hi
  · simp at h
theorem dg_step (a : DA) (ha : dgCk a = true) (k : Nat) (hk : k < a.n) : ∃ s1, am pE.env 5 dgB (dgS a k) = some (.normal, s1) ∧ StLe s1 (dgS a (k + 1)) := by
  simp only [dgCk, Bool.and_eq_true] at ha
  obtain ⟨h1, h2, h3⟩ := ha
  have hn : a.n ≤ 4611686018427387904 := Nat.le_of_ble_eq_true h1
  have hm := Nat.eq_of_beq_eq_true h3
  have ew : wr .i64 ((k : Int) + 1) = ((k + 1 : Nat) : Int) := by rw [wr_small (by omega) (by omega)]; rfl
  have ed : ((k : Int).tdiv 4) = ((k / 4 : Nat) : Int) := by rw [Int.tdiv_eq_ediv_of_nonneg (by omega)]; omega
  have em : ((k : Int).tmod 4) = ((k % 4 : Nat) : Int) := by rw [Int.tmod_eq_emod_of_nonneg (by omega)]; omega
  have eq : dgQ (k : Int) = ((k / 4 : Nat) : Int) := by unfold dgQ; rw [ed, wr_small (by omega) (by omega)]
  have es : dgSh (k : Int) = ((8 * (k % 4) : Nat) : Int) := by
    unfold dgSh
    rw [em, wr_small (by omega) (by omega), wr64]; omega
  refine roundB_spec (dg_round a (k : Int) ((k + 1 : Nat) : Int) _ (fun r _ => dK (fun j => a.f j 0) (k + 1) r)) ?_
  have hstep := (dK_step h2 hk).1
  have hF : eqF a.m 1 (fun r d => bif Nat.beq r (0 + (dgQ (k : Int)).toNat) && Nat.beq d 0 then dgVal a (k : Int) (fun r _ => dK (fun j => a.f j 0) k r) else dK (fun j => a.f j 0) k r) (fun r _ => dK (fun j => a.f j 0) (k + 1) r) = true := by
    refine eqF_of fun r hr d hd => ?_
    obtain rfl : d = 0 := by omega
    rw [eq, Int.toNat_natCast, Nat.zero_add]
    by_cases e : r = k / 4
    · subst e
      have hbb : Nat.beq (k / 4) (k / 4) = true := beq_t.2 rfl
      have h00 : Nat.beq 0 0 = true := rfl
      rw [hbb, h00, Bool.and_self, cond_true, hstep]
      unfold dgVal
      rw [eq, es, Int.toNat_natCast, Int.toNat_natCast, Nat.zero_add]
    · have : Nat.beq r (k / 4) = false := by cases hb : Nat.beq r (k / 4) with | false => rfl | true => exact absurd (Nat.eq_of_beq_eq_true hb) e
      rw [this]
      simp only [Bool.false_and, cond_false]
      exact (dK_other e).symm
  rw [ew, dg_same a _ hF, eq, es]
  have hq : k / 4 < a.m := by omega
  have eN : (decide (((8 * (k % 4) : Nat) : Int) < 0)) = false := by simp; omega
  have e1 : inR (((k / 4 : Nat)) : Int) a.m = true := inR_nat hq
  rw [eN, e1, inR_nat hk]
  simp [ckL]; omega
theorem l_dg : LRow prog f_rimeref02_digits 0 dgF := by
  refine LRow.fam (N := 5) (L0.env []) mix (fun a => a.n) (body_of dg_body) dg_ok (fun w0 own0 => accOK_none (fun id => rfl) dgB) (fun s a h => ⟨by rw [(dg_hp h).1]; rfl, fun i hi => (dg_hp h).2 i _ hi⟩) (fun _ _ => rfl) (fun _ => Nat.le_refl _) (fun a ha k hk => dg_step a ha k hk) ?_
  intro a ha
  obtain ⟨s1, h1, h2⟩ := roundB_spec (dg_stop a (a.n : Int) (fun r _ => dK (fun j => a.f j 0) a.n r)) (by rw [dgT_same]; simp [ckL])
  exact ⟨_, s1, h1, rfl, h2⟩
def tDigits : TF := fun args => match args with
  | [.sc (.vints _ .u8 1 n f)] => some (Nat.ble n 1099511627776 && areB (fun j => f j 0) n 0, .sc (.vints true .u32 1 ((n + 3) / 4) (fun j _ => dK (fun j => f j 0) n (0 + j))))
  | _ => none
def dgM (n : Nat) : Int := wr .i64 ((wr .i64 ((n : Int) + 3)).tdiv 4)
def dgI (t : Bool) (n : Nat) (f : Nat → Nat → Int) : St := ⟨tmOf [(0, .sc (.vints t .u8 1 n f)), (3, .sc (.slice 0 1 0 0 1 (dgM n).toNat)), (4, .sc (.int .i64 0))] 37 0, [some (.ints .u32 1 (dgM n).toNat (fun _ _ => 0))]⟩
theorem c_digits : fnChk prog (envL tt [] [] [(0, dgF)]) f_rimeref02_digits = true := by kernel_rfl
theorem k_digits (t : Bool) (n : Nat) (f : Nat → Nat → Int) : outP (apFunc (envL tt [] [] [(0, dgF)]) [] 5 f_rimeref02_digits [.sc (.vints t .u8 1 n f)] []) =
    some (ckL [inB (dgM n) (dgM n) && fits (dgM n).toNat 4, dgCk ⟨t, n, f, (dgM n).toNat⟩ && stB (dgI t n f) (dgS ⟨t, n, f, (dgM n).toNat⟩ 0)], .sc (.vints true .u32 1 (dgM n).toNat (fun j _ => dK (fun j => f j 0) n (0 + j)))) := by kernel_rfl
theorem r_digits : TRow prog F_rimeref02_digits tDigits := by
  intro args r h
  unfold tDigits at h
  split at h
  case h_2 => simp at h
  rename_i t n f
  simp only [Option.some.injEq, Prod.mk.injEq, Bool.and_eq_true] at h
  obtain ⟨⟨hb, ha⟩, rfl⟩ := h
  have hn : n ≤ 1099511627776 := Nat.le_of_ble_eq_true hb
  refine pure_of_outL L0 at_rimeref02_digits (LsOK.nil.cons l_dg) c_digits (N := 5) (gs := []) ?_
  have eM : dgM n = (((n + 3) / 4 : Nat) : Int) := by
    unfold dgM
    rw [wr_small (x := (n : Int) + 3) (by omega) (by omega), Int.tdiv_eq_ediv_of_nonneg (by omega), wr_small (by omega) (by omega)]; omega
  have h0 : eqF ((n + 3) / 4) 1 (fun _ _ => (0 : Int)) (fun r _ => dK (fun j => f j 0) 0 r) = true := eqF_of fun r _ d _ => by
    unfold dK
    rw [hval_zero (n := 4) fun i hi => by unfold cutB; rw [if_neg (by omega)]]
  have hs : stB (dgI t n f) (dgS ⟨t, n, f, (dgM n).toNat⟩ 0) = true := by
    unfold dgI dgS
    rw [eM, Int.toNat_natCast]
    simp [stB, dgW, tmOf, tmB, avB, svB, hpB, blkB, eqF_refl, kEq, h0]
  have hc : dgCk ⟨t, n, f, (dgM n).toNat⟩ = true := by
    simp only [dgCk, Bool.and_eq_true]
    rw [eM, Int.toNat_natCast]
    exact ⟨Nat.ble_eq_true_of_le (by omega), ha, beq_t.2 rfl⟩
  have hi : (inB (dgM n) (dgM n) && fits (dgM n).toNat 4) = true := by
    rw [eM, Int.toNat_natCast]
    simp [inB, fits]; omega
  rw [k_digits, hs, hc, hi, eM, Int.toNat_natCast]; rfl
def rs2 : List (Nat × TF) := (F_rimeref02_digits, tDigits) :: (F_rimeref02_mod, tMod) :: rs1
theorem R2 : LibOK prog tt rs2 [] := (R1.addT r_mod).addT r_digits
def tBack8 : TF := fun args => match args with
  | [.agg [.ints .u32 8 a]] => some (inW8 a, b32 (val8 a))
  | _ => none
theorem c_back8 : fnChk prog (envP tt rs2 []) f_rimeref02_Back = true := by kernel_rfl
theorem k_back8 (a : Nat → Int) : outP (apFunc (envP tt rs2 []) [] 40 f_rimeref02_Back [u8w a] []) = some (true, u8s 32 (lf (back8 a))) := by kernel_rfl
theorem r_back8 : TRow prog F_rimeref02_Back tBack8 := by
  intro args r h
  unfold tBack8 at h
  split at h
  case h_2 => simp at h
  rename_i a
  simp only [Option.some.injEq, Prod.mk.injEq] at h
  obtain ⟨ha, rfl⟩ := h
  refine pure_of_out R2 at_rimeref02_Back c_back8 (N := 40) (gs := []) ?_
  have hr := val8_range ha
  have e : back8 a = byL 32 (val8 a) := by
    rw [← back8_law hr.1 hr.2, ← limbs8_self ha]; rfl
  rw [← show u8s 32 (lf (back8 a)) = b32 (val8 a) by unfold b32; rw [e]]
  exact k_back8 a
def dgs (n : Nat) (f : Nat → Nat → Int) : Nat → Nat → Int := fun j _ => dK (fun j => f j 0) n (0 + j)
theorem dgs_law {n : Nat} {f : Nat → Nat → Int} (ha : areB (fun j => f j 0) n 0 = true) : all32 (dgs n f) ((n + 3) / 4) = true ∧ dval (dgs n f) ((n + 3) / 4) ((n + 3) / 4) = hval (fun j => f j 0) n 0 := by
  refine ⟨?_, dval_all (fun j => f j 0) (by omega)⟩
  simp only [all32, List.all_eq_true, List.mem_range]
  exact fun j _ => in32_of (dK_W ha (0 + j))
end Go.Proofs.YtjebjiakggmjhaaGreat
namespace Go.Proofs.YtjebjiakggmjhaaGreat
open Go.Proofs.Tryz
open Go Go.AM
def su1 : List (Nat × TF) := (F_rimeref02_Back, tBack8) :: (F_rimeref02_mod, tMod) :: (F_rimeref02_digits, tDigits) :: (F_scalar_Reduce, tReduce64) :: ts11
theorem U1 : LibOK prog tt su1 [] := ((((L11.addT r_reduce64).addT r_digits).addT r_mod).addT r_back8)
def tValue2 : TF := fun args => match args with
  | [.agg [.ints .u8 32 s]] => some (areB s 32 0, n8 (hval s 32 0 % ordL))
  | _ => none
theorem c_value2 : fnChk prog (envP tt su1 []) f_rimeref02_Value = true := by kernel_rfl
def row1 (s : Nat → Int) : Nat → Nat → Int := fun j d => s (0 + j * 1 + d)
theorem k_value2 (s : Nat → Int) : outP (apFunc (envP tt su1 []) [] 5 f_rimeref02_Value [u8s 32 s] []) =
    some (ckL [areB s 32 0, all32 (dgs 32 (row1 s)) 8], n8 (dval (dgs 32 (row1 s)) 8 8 % ordL)) := by kernel_rfl
theorem row1_areB {s : Nat → Int} {n : Nat} (h : areB s n 0 = true) : areB (fun j => row1 s j 0) n 0 = true := areB_of fun i hi => by
  have := areB_t h i hi
  simpa [row1] using this
theorem row1_hval (s : Nat → Int) (n : Nat) : hval (fun j => row1 s j 0) n 0 = hval s n 0 := hval_congr fun i _ => by simp [row1]
theorem r_value2 : TRow prog F_rimeref02_Value tValue2 := by
  intro args r h
  unfold tValue2 at h
  split at h
  case h_2 => simp at h
  rename_i s
  simp only [Option.some.injEq, Prod.mk.injEq] at h
  obtain ⟨ha, rfl⟩ := h
  refine pure_of_out U1 at_rimeref02_Value c_value2 (N := 5) (gs := []) ?_
  obtain ⟨e1, e2⟩ := dgs_law (row1_areB ha)
  have e := k_value2 s
  rw [e1, e2, row1_hval, ha] at e
  exact e
def su2 : List (Nat × TF) := (F_rimeref02_Value, tValue2) :: su1
theorem U2 : LibOK prog tt su2 [] := U1.addT r_value2
end Go.Proofs.YtjebjiakggmjhaaGreat
namespace Go.Proofs.YtjebjiakggmjhaaGreat
open Go.Proofs.Tryz
open Go Go.AM
theorem wr64n {x : Int} (h0 : 0 ≤ x) (h1 : x < 18446744073709551616) : wr .u64 x = x := by
  rw [wr64]; omega
noncomputable def mzB : Code := match f_rimeref02_mul.body with | some c => (match bodiesOf 0 c with | [.loop b] => b | _ => .skip) | none => .skip
def mzC (x y : Nat → Int) (F : Nat → Nat → Int) (i : Nat) : Nat → Int
  | 0 => 0
  | k + 1 => ishr .u64 (wr .u64 (wr .u64 (mzC x y F i k + wr .u64 (F (i + k) 0)) + wr .u64 (wr .u64 (x i) * wr .u64 (y k)))) 32
def mzV (x y : Nat → Int) (F : Nat → Nat → Int) (i k : Nat) : Int := wr .u32 (wr .u64 (wr .u64 (mzC x y F i k + wr .u64 (F (i + k) 0)) + wr .u64 (wr .u64 (x i) * wr .u64 (y k))))
def mzN (x y : Nat → Int) (F : Nat → Nat → Int) (i : Nat) : Nat → Nat → Int := fun r d =>
  bif Nat.beq r (i + 8) && Nat.beq d 0 then wr .u32 (mzC x y F i 8)
  else bif Nat.beq r (i + 7) && Nat.beq d 0 then mzV x y F i 7
  else bif Nat.beq r (i + 6) && Nat.beq d 0 then mzV x y F i 6
  else bif Nat.beq r (i + 5) && Nat.beq d 0 then mzV x y F i 5
  else bif Nat.beq r (i + 4) && Nat.beq d 0 then mzV x y F i 4
  else bif Nat.beq r (i + 3) && Nat.beq d 0 then mzV x y F i 3
  else bif Nat.beq r (i + 2) && Nat.beq d 0 then mzV x y F i 2
  else bif Nat.beq r (i + 1) && Nat.beq d 0 then mzV x y F i 1
  else bif Nat.beq r (i + 0) && Nat.beq d 0 then mzV x y F i 0
  else F r d
def mzW (x y : Nat → Int) (v : Int) (F : Nat → Nat → Int) : St := ⟨tmOf [(2, .sc (.ptr 0 8 0 0 8)), (3, .sc (.ptr 1 8 0 0 8)), (4, .sc (.ptr 2 8 0 0 8)), (5, .sc (.slice 3 1 0 0 1 16)), (6, .sc (.int .i64 v))] 54 0,
  [some (.ints .u32 8 1 (fun _ d => x d)), some (.ints .u32 8 1 (fun _ d => y d)), some (.ints .u32 8 1 (fun _ _ => 0)), some (.ints .u32 1 16 F)]⟩
theorem mz_same (x y : Nat → Int) (v : Int) {F G : Nat → Nat → Int} (h : eqF 16 1 F G = true) : stB (mzW x y v F) (mzW x y v G) = true := by
  simp [stB, mzW, tmOf, tmB, avB, svB, hpB, blkB, eqF_refl, kEq, h]
def mzT (x y : Nat → Int) (F : Nat → Nat → Int) : St := ⟨tmOf [(4, .sc (.ptr 2 8 0 0 8)), (5, .sc (.slice 3 1 0 0 1 16))] 54 0, (mzW x y 0 F).hp⟩
theorem mzT_same (x y : Nat → Int) {F G : Nat → Nat → Int} (h : eqF 16 1 F G = true) : stB (mzT x y F) (mzT x y G) = true := by
  simp [stB, mzT, mzW, tmOf, tmB, avB, svB, hpB, blkB, eqF_refl, kEq, h]
theorem mz_stop (x y : Nat → Int) (F : Nat → Nat → Int) : roundB pE [] 20 mzB (mzW x y 8 F) (.exit 0) (mzT x y F) = some (ckL [] && stB (mzT x y F) (mzT x y F)) := by kernel_rfl
theorem mz_r0 (x y : Nat → Int) (F G : Nat → Nat → Int) : roundB pE [] 20 mzB (mzW x y 0 F) .normal (mzW x y 1 G) = some (ckL [] && stB (mzW x y 1 (mzN x y F 0)) (mzW x y 1 G)) := by kernel_rfl
theorem mz_r1 (x y : Nat → Int) (F G : Nat → Nat → Int) : roundB pE [] 20 mzB (mzW x y 1 F) .normal (mzW x y 2 G) = some (ckL [] && stB (mzW x y 2 (mzN x y F 1)) (mzW x y 2 G)) := by kernel_rfl
theorem mz_r2 (x y : Nat → Int) (F G : Nat → Nat → Int) : roundB pE [] 20 mzB (mzW x y 2 F) .normal (mzW x y 3 G) = some (ckL [] && stB (mzW x y 3 (mzN x y F 2)) (mzW x y 3 G)) := by kernel_rfl
theorem mz_r3 (x y : Nat → Int) (F G : Nat → Nat → Int) : roundB pE [] 20 mzB (mzW x y 3 F) .normal (mzW x y 4 G) = some (ckL [] && stB (mzW x y 4 (mzN x y F 3)) (mzW x y 4 G)) := by kernel_rfl
theorem mz_r4 (x y : Nat → Int) (F G : Nat → Nat → Int) : roundB pE [] 20 mzB (mzW x y 4 F) .normal (mzW x y 5 G) = some (ckL [] && stB (mzW x y 5 (mzN x y F 4)) (mzW x y 5 G)) := by kernel_rfl
theorem mz_r5 (x y : Nat → Int) (F G : Nat → Nat → Int) : roundB pE [] 20 mzB (mzW x y 5 F) .normal (mzW x y 6 G) = some (ckL [] && stB (mzW x y 6 (mzN x y F 5)) (mzW x y 6 G)) := by kernel_rfl
theorem mz_r6 (x y : Nat → Int) (F G : Nat → Nat → Int) : roundB pE [] 20 mzB (mzW x y 6 F) .normal (mzW x y 7 G) = some (ckL [] && stB (mzW x y 7 (mzN x y F 6)) (mzW x y 7 G)) := by kernel_rfl
theorem mz_r7 (x y : Nat → Int) (F G : Nat → Nat → Int) : roundB pE [] 20 mzB (mzW x y 7 F) .normal (mzW x y 8 G) = some (ckL [] && stB (mzW x y 8 (mzN x y F 7)) (mzW x y 8 G)) := by kernel_rfl
theorem mz_round (x y : Nat → Int) (F G : Nat → Nat → Int) : ∀ i : Nat, i < 8 → roundB pE [] 20 mzB (mzW x y (i : Int) F) .normal (mzW x y ((i + 1 : Nat) : Int) G) = some (ckL [] && stB (mzW x y ((i + 1 : Nat) : Int) (mzN x y F i)) (mzW x y ((i + 1 : Nat) : Int) G))
  | 0, _ => mz_r0 x y F G
  | 1, _ => mz_r1 x y F G
  | 2, _ => mz_r2 x y F G
  | 3, _ => mz_r3 x y F G
  | 4, _ => mz_r4 x y F G
  | 5, _ => mz_r5 x y F G
  | 6, _ => mz_r6 x y F G
  | 7, _ => mz_r7 x y F G
  | _ + 8, h => by omega
theorem dig_shift (P : Int) (i j : Nat) : dig (sh P i) j = dig P (i + j) := by rw [dig_sh, dig_sh, sh_add]
theorem mz_ca {x y : Nat → Int} {F : Nat → Nat → Int} {i : Nat} {Hi Y : Int} (hx : W32 (x i)) (hy : ∀ j, j < 8 → y j = dig Y j) (hF : ∀ j, j < 8 → F (i + j) 0 = dig Hi j) :
    ∀ k, k ≤ 8 → mzC x y F i k = caC (dig Hi) (dig Y) (x i) k ∧ (k < 8 → mzV x y F i k = dig (Hi + x i * Y) k)
  | k, hk => by
    have hc : mzC x y F i k = caC (dig Hi) (dig Y) (x i) k := by
      cases k with
      | zero => rfl
      | succ k =>
        have e := (mz_ca (F := F) (Hi := Hi) hx hy hF k (by omega)).1
        obtain ⟨_, c0, c1⟩ := ca_law (f := dig Hi) (g := dig Y) (F := Hi) (G := Y) hx (fun _ => rfl) (fun _ => rfl) k
        obtain ⟨_, s0, s1⟩ := ca_dig (f := dig Hi) (g := dig Y) (F := Hi) (G := Y) hx (fun _ => rfl) (fun _ => rfl) k
        rw [caS_eq] at s0 s1
        have d0 := dig_W k Hi
        have d1 := dig_W k Y
        unfold W32 at hx d0 d1
        have hp : 0 ≤ x i * dig Y k ∧ x i * dig Y k ≤ 4294967295 * 4294967295 := ⟨Int.mul_nonneg hx.1 d1.1, Int.mul_le_mul (by omega) (by omega) (by omega) (by omega)⟩
        show ishr .u64 (wr .u64 (wr .u64 (mzC x y F i k + wr .u64 (F (i + k) 0)) + wr .u64 (wr .u64 (x i) * wr .u64 (y k)))) 32 = caS (dig Hi) (dig Y) (x i) k / 4294967296
        rw [e, hF k (by omega), hy k (by omega), caS_eq]
        generalize caC (dig Hi) (dig Y) (x i) k = c at *
        generalize dig Hi k = f at *
        generalize dig Y k = g at *
        generalize x i = u at *
        rw [wr64n (x := f) (by omega) (by omega), wr64n (x := u) (by omega) (by omega), wr64n (x := g) (by omega) (by omega), wr64n (x := u * g) (by omega) (by omega), wr64n (x := c + f) (by omega) (by omega), wr64n (by omega) (by omega)]
        exact ishr32
    refine ⟨hc, fun hk8 => ?_⟩
    obtain ⟨_, c0, c1⟩ := ca_law (f := dig Hi) (g := dig Y) (F := Hi) (G := Y) hx (fun _ => rfl) (fun _ => rfl) k
    obtain ⟨sd, s0, s1⟩ := ca_dig (f := dig Hi) (g := dig Y) (F := Hi) (G := Y) hx (fun _ => rfl) (fun _ => rfl) k
    rw [caS_eq] at s0 s1 sd
    have d0 := dig_W k Hi
    have d1 := dig_W k Y
    unfold W32 at hx d0 d1
    have hp : 0 ≤ x i * dig Y k ∧ x i * dig Y k ≤ 4294967295 * 4294967295 := ⟨Int.mul_nonneg hx.1 d1.1, Int.mul_le_mul (by omega) (by omega) (by omega) (by omega)⟩
    unfold mzV
    rw [hc, hF k (by omega), hy k (by omega), ← sd, wr32]
    generalize caC (dig Hi) (dig Y) (x i) k = c at *
    generalize dig Hi k = f at *
    generalize dig Y k = g at *
    generalize x i = u at *
    rw [wr64n (x := f) (by omega) (by omega), wr64n (x := u) (by omega) (by omega), wr64n (x := g) (by omega) (by omega), wr64n (x := u * g) (by omega) (by omega), wr64n (x := c + f) (by omega) (by omega), wr64n (by omega) (by omega)]
def pK (x : Nat → Int) (Y : Int) : Nat → Int
  | 0 => 0
  | k + 1 => pK x Y k + 4294967296 ^ k * (x k * Y)
theorem pK_range {x : Nat → Int} {Y : Int} (hx : ∀ j, j < 8 → W32 (x j)) (h0 : 0 ≤ Y) : ∀ k, k ≤ 8 → 0 ≤ pK x Y k ∧ pK x Y k ≤ (4294967296 ^ k - 1) * Y
  | 0, _ => by
    show (0 : Int) ≤ 0 ∧ (0 : Int) ≤ (4294967296 ^ 0 - 1) * Y
    rw [Int.pow_zero]; omega
  | k + 1, hk => by
    obtain ⟨a, b⟩ := pK_range hx h0 k (by omega)
    have hw := hx k (by omega)
    unfold W32 at hw
    have hp : (0 : Int) < 4294967296 ^ k := Int.pow_pos (by omega)
    show 0 ≤ pK x Y k + 4294967296 ^ k * (x k * Y) ∧ pK x Y k + 4294967296 ^ k * (x k * Y) ≤ (4294967296 ^ (k + 1) - 1) * Y
    rw [Int.pow_succ]
    generalize (4294967296 : Int) ^ k = B at *
    have h1 : 0 ≤ x k * Y := Int.mul_nonneg hw.1 h0
    have h2 : x k * Y ≤ 4294967295 * Y := Int.mul_le_mul_of_nonneg_right (by omega) h0
    have h3 : 0 ≤ B * (x k * Y) := Int.mul_nonneg (by omega) h1
    have h4 : B * (x k * Y) ≤ B * (4294967295 * Y) := Int.mul_le_mul_of_nonneg_left h2 (by omega)
    refine ⟨by omega, ?_⟩
    have e1 : (B * 4294967296 - 1) * Y = (B - 1) * Y + B * (4294967295 * Y) := by
      generalize x k = xx at *
      clear a b h1 h2 h3 h4 hp hw
      grind
    rw [e1]; omega
theorem pow_lt {Y : Int} {k : Nat} (h0 : 0 ≤ Y) (h1 : Y < 4294967296 ^ 8) : (4294967296 ^ k - 1) * Y < 4294967296 ^ (k + 8) := by
  have hp : (0 : Int) < 4294967296 ^ k := Int.pow_pos (by omega)
  rw [Int.pow_add]
  generalize (4294967296 : Int) ^ k = B at *
  have e1 : (B - 1) * Y ≤ (B - 1) * 4294967296 ^ 8 := Int.mul_le_mul_of_nonneg_left (by omega) (by omega)
  have e2 : (B - 1) * (4294967296 : Int) ^ 8 = B * 4294967296 ^ 8 - 4294967296 ^ 8 := by rw [Int.sub_mul, Int.one_mul]
  have : (0 : Int) < 4294967296 ^ 8 := by decide
  omega
theorem nbd (a b : Nat) : Nat.beq a b = decide (a = b) := by
  by_cases h : a = b
  · rw [decide_eq_true h]; exact beq_t.2 h
  · rw [decide_eq_false h]
    cases hb : Nat.beq a b with
    | false => rfl
    | true => exact absurd (Nat.eq_of_beq_eq_true hb) h
theorem mz_digits {x y : Nat → Int} {i : Nat} {P Y : Int} (hx : W32 (x i)) (hy : ∀ j, j < 8 → y j = dig Y j) (hY : 0 ≤ Y ∧ Y < 4294967296 ^ 8) (hP : 0 ≤ P ∧ P < 4294967296 ^ (i + 8))
    (hP2 : P + 4294967296 ^ i * (x i * Y) < 4294967296 ^ (i + 9)) : ∀ r, mzN x y (fun r _ => dig P r) i r 0 = dig (P + 4294967296 ^ i * (x i * Y)) r := by
  intro r
  have hca := mz_ca (x := x) (y := y) (F := fun r _ => dig P r) (i := i) (Hi := sh P i) hx hy (fun j _ => (dig_shift P i j).symm)
  have hh := sh_high P (x i * Y) i
  have hnn : 0 ≤ P + 4294967296 ^ i * (x i * Y) := by
    have hp : (0 : Int) < 4294967296 ^ i := Int.pow_pos (by omega)
    have h1 : 0 ≤ x i * Y := Int.mul_nonneg hx.1 hY.1
    have h3 : 0 ≤ 4294967296 ^ i * (x i * Y) := Int.mul_nonneg (by omega) h1
    omega
  by_cases h1 : r < i
  · rw [dig_low P (x i * Y) i r h1]
    simp only [mzN, nbd, decide_eq_false (show ¬ r = i + 8 by omega), decide_eq_false (show ¬ r = i + 7 by omega), decide_eq_false (show ¬ r = i + 6 by omega), decide_eq_false (show ¬ r = i + 5 by omega), decide_eq_false (show ¬ r = i + 4 by omega), decide_eq_false (show ¬ r = i + 3 by omega), decide_eq_false (show ¬ r = i + 2 by omega), decide_eq_false (show ¬ r = i + 1 by omega), decide_eq_false (show ¬ r = i + 0 by omega), Bool.false_and, cond_false]
  · by_cases h2 : i + 8 < r
    · rw [dig_zero hnn hP2 (by omega)]
      simp only [mzN, nbd, decide_eq_false (show ¬ r = i + 8 by omega), decide_eq_false (show ¬ r = i + 7 by omega), decide_eq_false (show ¬ r = i + 6 by omega), decide_eq_false (show ¬ r = i + 5 by omega), decide_eq_false (show ¬ r = i + 4 by omega), decide_eq_false (show ¬ r = i + 3 by omega), decide_eq_false (show ¬ r = i + 2 by omega), decide_eq_false (show ¬ r = i + 1 by omega), decide_eq_false (show ¬ r = i + 0 by omega), Bool.false_and, cond_false]
      exact dig_zero hP.1 hP.2 (by omega)
    · obtain ⟨j, rfl⟩ : ∃ j, r = i + j := ⟨r - i, by omega⟩
      rw [← dig_shift (P + 4294967296 ^ i * (x i * Y)) i j, hh]
      have hj : j < 9 := by omega
      match j, hj with
      | 0, _ => simp only [mzN, nbd, decide_eq_false (show ¬ i + 0 = i + 8 by omega), decide_eq_false (show ¬ i + 0 = i + 7 by omega), decide_eq_false (show ¬ i + 0 = i + 6 by omega), decide_eq_false (show ¬ i + 0 = i + 5 by omega), decide_eq_false (show ¬ i + 0 = i + 4 by omega), decide_eq_false (show ¬ i + 0 = i + 3 by omega), decide_eq_false (show ¬ i + 0 = i + 2 by omega), decide_eq_false (show ¬ i + 0 = i + 1 by omega), decide_true, Bool.false_and, Bool.true_and, cond_false, cond_true]; exact (hca 0 (by omega)).2 (by omega)
      | 1, _ => simp only [mzN, nbd, decide_eq_false (show ¬ i + 1 = i + 8 by omega), decide_eq_false (show ¬ i + 1 = i + 7 by omega), decide_eq_false (show ¬ i + 1 = i + 6 by omega), decide_eq_false (show ¬ i + 1 = i + 5 by omega), decide_eq_false (show ¬ i + 1 = i + 4 by omega), decide_eq_false (show ¬ i + 1 = i + 3 by omega), decide_eq_false (show ¬ i + 1 = i + 2 by omega), decide_true, Bool.false_and, Bool.true_and, cond_false, cond_true]; exact (hca 1 (by omega)).2 (by omega)
      | 2, _ => simp only [mzN, nbd, decide_eq_false (show ¬ i + 2 = i + 8 by omega), decide_eq_false (show ¬ i + 2 = i + 7 by omega), decide_eq_false (show ¬ i + 2 = i + 6 by omega), decide_eq_false (show ¬ i + 2 = i + 5 by omega), decide_eq_false (show ¬ i + 2 = i + 4 by omega), decide_eq_false (show ¬ i + 2 = i + 3 by omega), decide_true, Bool.false_and, Bool.true_and, cond_false, cond_true]; exact (hca 2 (by omega)).2 (by omega)
      | 3, _ => simp only [mzN, nbd, decide_eq_false (show ¬ i + 3 = i + 8 by omega), decide_eq_false (show ¬ i + 3 = i + 7 by omega), decide_eq_false (show ¬ i + 3 = i + 6 by omega), decide_eq_false (show ¬ i + 3 = i + 5 by omega), decide_eq_false (show ¬ i + 3 = i + 4 by omega), decide_true, Bool.false_and, Bool.true_and, cond_false, cond_true]; exact (hca 3 (by omega)).2 (by omega)
      | 4, _ => simp only [mzN, nbd, decide_eq_false (show ¬ i + 4 = i + 8 by omega), decide_eq_false (show ¬ i + 4 = i + 7 by omega), decide_eq_false (show ¬ i + 4 = i + 6 by omega), decide_eq_false (show ¬ i + 4 = i + 5 by omega), decide_true, Bool.false_and, Bool.true_and, cond_false, cond_true]; exact (hca 4 (by omega)).2 (by omega)
      | 5, _ => simp only [mzN, nbd, decide_eq_false (show ¬ i + 5 = i + 8 by omega), decide_eq_false (show ¬ i + 5 = i + 7 by omega), decide_eq_false (show ¬ i + 5 = i + 6 by omega), decide_true, Bool.false_and, Bool.true_and, cond_false, cond_true]; exact (hca 5 (by omega)).2 (by omega)
      | 6, _ => simp only [mzN, nbd, decide_eq_false (show ¬ i + 6 = i + 8 by omega), decide_eq_false (show ¬ i + 6 = i + 7 by omega), decide_true, Bool.false_and, Bool.true_and, cond_false, cond_true]; exact (hca 6 (by omega)).2 (by omega)
      | 7, _ => simp only [mzN, nbd, decide_eq_false (show ¬ i + 7 = i + 8 by omega), decide_true, Bool.false_and, Bool.true_and, cond_false, cond_true]; exact (hca 7 (by omega)).2 (by omega)
      | 8, _ =>
        simp only [mzN, nbd, decide_true, Bool.true_and, cond_true]
        rw [(hca 8 (by omega)).1, wr32, dig_sh]
        have e := (ca_law (f := dig (sh P i)) (g := dig Y) (F := sh P i) (G := Y) hx (fun _ => rfl) (fun _ => rfl) 8).1
        have z1 := sh_range hP.1 (k := i + 8) (m := 0) (by rw [Nat.add_zero]; exact hP.2)
        have z2 := sh_range hY.1 (k := 8) (m := 0) (by rw [Nat.add_zero]; exact hY.2)
        rw [← sh_add, Int.pow_zero] at z1
        rw [Int.pow_zero] at z2
        rw [show sh (sh P i) 8 = 0 by omega, show sh Y 8 = 0 by omega] at e
        rw [← e]
        simp
      | _ + 9, h => omega
end Go.Proofs.YtjebjiakggmjhaaGreat
namespace Go.Proofs.YtjebjiakggmjhaaGreat
open Go.Proofs.Tryz
open Go Go.AM
def mzS (p : (Nat → Int) × (Nat → Int)) (k : Nat) : St := mzW p.1 p.2 (k : Int) (fun r _ => dig (pK p.1 (val8 p.2) k) r)
def mzRd (s : St) : Option ((Nat → Int) × (Nat → Int)) := match s.hp with
  | [some (.ints _ _ _ f), some (.ints _ _ _ g), some (.ints _ _ _ _), some (.ints _ _ _ _)] => some (fun d => f 0 d, fun d => g 0 d)
  | _ => none
def mzCk (p : (Nat → Int) × (Nat → Int)) : Bool := inW8 p.1 && inW8 p.2
def mzF : LF := famF mzRd mzS mzCk (fun _ => .normal) (fun p => mzT p.1 p.2 (fun r _ => dig (pK p.1 (val8 p.2) 8) r))
theorem mz_body : f_rimeref02_mul.body.map (bodiesOf 0) = some [.loop mzB] := by kernel_rfl
theorem mz_ok : codeOK prog pE.env.isW mzB = true := by kernel_rfl
theorem mz_hp {s : St} {p : (Nat → Int) × (Nat → Int)} (h : mzRd s = some p) : s.hp.length = 4 ∧ ∀ (i : Nat) (t : Heap), s.hp[i]? = some none → t[i]? = some none := by
  unfold mzRd at h
  split at h
  · rename_i hh
    rw [hh]
    refine ⟨rfl, fun i t hi => ?_⟩
    match i, hi with
    | 0, hi => simp at hi
    | 1, hi => simp at hi
    | 2, hi => simp at hi
    | 3, hi => simp at hi
    | n + 4, hi => simp at hi
  · simp at h
theorem inW8_at {a : Nat → Int} (h : inW8 a = true) : ∀ j, j < 8 → W32 (a j) ∧ a j = dig (val8 a) j := by
  have e := limbs8_self h
  obtain ⟨h0, h1, h2, h3, h4, h5, h6, h7⟩ := inW8_t h
  intro j hj
  have q : a j = limbs8 (val8 a) j := by
    rw [← e]
    match j, hj with
    | 0, _ | 1, _ | 2, _ | 3, _ | 4, _ | 5, _ | 6, _ | 7, _ => rfl
    | _ + 8, h => omega
  rw [limbs_dig _ j hj] at q
  exact ⟨by rw [q]; exact dig_W j _, q⟩
theorem R256_pow : R256 = (4294967296 : Int) ^ 8 := by decide
theorem pK_bound {x y : Nat → Int} (hx : inW8 x = true) (hy : inW8 y = true) {k : Nat} (hk : k ≤ 8) : 0 ≤ pK x (val8 y) k ∧ pK x (val8 y) k < 4294967296 ^ (k + 8) := by
  have hr := val8_range hy
  obtain ⟨a, b⟩ := pK_range (fun j hj => (inW8_at hx j hj).1) hr.1 k hk
  exact ⟨a, Int.lt_of_le_of_lt b (pow_lt hr.1 (by rw [← R256_pow]; exact hr.2))⟩
theorem mz_step (p : (Nat → Int) × (Nat → Int)) (hp : mzCk p = true) (k : Nat) (hk : k < 8) : ∃ s1, am pE.env 20 mzB (mzS p k) = some (.normal, s1) ∧ StLe s1 (mzS p (k + 1)) := by
  simp only [mzCk, Bool.and_eq_true] at hp
  refine roundB_spec (mz_round p.1 p.2 _ (fun r _ => dig (pK p.1 (val8 p.2) (k + 1)) r) k hk) ?_
  have hF : eqF 16 1 (mzN p.1 p.2 (fun r _ => dig (pK p.1 (val8 p.2) k) r) k) (fun r _ => dig (pK p.1 (val8 p.2) (k + 1)) r) = true := by
    refine eqF_of fun r _ d hd => ?_
    obtain rfl : d = 0 := by omega
    have hr := val8_range hp.2
    exact mz_digits (inW8_at hp.1 k hk).1 (fun j hj => (inW8_at hp.2 j hj).2) ⟨hr.1, by rw [← R256_pow]; exact hr.2⟩ (pK_bound hp.1 hp.2 (by omega)) (pK_bound hp.1 hp.2 (k := k + 1) (by omega)).2 r
  rw [mz_same _ _ _ hF]; rfl
theorem l_mz : LRow prog f_rimeref02_mul 0 mzF := by
  refine LRow.fam (N := 20) (L0.env []) mix (fun _ => 8) (body_of mz_body) mz_ok (fun w0 own0 => accOK_none (fun id => rfl) mzB) (fun s a h => ⟨by rw [(mz_hp h).1]; rfl, fun i hi => (mz_hp h).2 i _ hi⟩) (fun _ _ => rfl) (fun _ => Nat.le_refl _) (fun a ha k hk => mz_step a ha k hk) ?_
  intro p hp
  obtain ⟨s1, h1, h2⟩ := roundB_spec (mz_stop p.1 p.2 (fun r _ => dig (pK p.1 (val8 p.2) 8) r)) (by rw [mzT_same _ _ (eqF_refl _ _ _)]; simp [ckL])
  exact ⟨_, s1, h1, rfl, h2⟩
def tMulN : TF := fun args => match args with
  | [.agg [.ints .u32 8 x], .agg [.ints .u32 8 y]] => some (inW8 x && inW8 y, n8 (val8 x * val8 y % ordL))
  | _ => none
def mzI (x y : Nat → Int) : St := ⟨tmOf [(0, u8w x), (1, u8w y), (2, .sc (.ptr 0 8 0 0 8)), (3, .sc (.ptr 1 8 0 0 8)), (4, .sc (.ptr 2 8 0 0 8)), (5, .sc (.slice 3 1 0 0 1 16)), (6, .sc (.int .i64 0)), (9, .sc (.slice 3 1 0 0 1 16))] 54 0,
  [some (.ints .u32 8 1 (fun _ d => x d)), some (.ints .u32 8 1 (fun _ d => y d)), some (.ints .u32 8 1 (fun _ _ => 0)), some (.ints .u32 1 16 (fun _ _ => 0))]⟩
def mzL (x y : Nat → Int) : Nat → Nat → Int := fun j _ => dig (pK x (val8 y) 8) (0 + j)
theorem c_mulN : fnChk prog (envL tt su2 [] [(0, mzF)]) f_rimeref02_mul = true := by kernel_rfl
theorem k_mulN (x y : Nat → Int) : outP (apFunc (envL tt su2 [] [(0, mzF)]) [] 7 f_rimeref02_mul [u8w x, u8w y] []) =
    some (ckL [mzCk (x, y) && stB (mzI x y) (mzS (x, y) 0), all32 (mzL x y) 16], n8 (dval (mzL x y) 16 16 % ordL)) := by kernel_rfl
theorem pK8 {x y : Nat → Int} : pK x (val8 y) 8 = val8 x * val8 y := by
  generalize val8 y = Y
  simp only [pK, val8]
  generalize x 0 = a0
  generalize x 1 = a1
  generalize x 2 = a2
  generalize x 3 = a3
  generalize x 4 = a4
  generalize x 5 = a5
  generalize x 6 = a6
  generalize x 7 = a7
  grind
theorem r_mulN : TRow prog F_rimeref02_mul tMulN := by
  intro args r h
  unfold tMulN at h
  split at h
  case h_2 => simp at h
  rename_i x y
  simp only [Option.some.injEq, Prod.mk.injEq] at h
  obtain ⟨hb, rfl⟩ := h
  refine pure_of_outL U2 at_rimeref02_mul (LsOK.nil.cons l_mz) c_mulN (N := 7) (gs := []) ?_
  have hc : mzCk (x, y) = true := hb
  simp only [Bool.and_eq_true] at hb
  have hs : stB (mzI x y) (mzS (x, y) 0) = true := by
    have h0 : eqF 16 1 (fun _ _ => 0) (fun r _ => dig (pK x (val8 y) 0) r) = true := eqF_of fun r _ d _ => by
      show 0 = dig 0 r
      exact (dig_zero (k := 0) (by omega) (by decide) (by omega)).symm
    unfold mzI mzS
    simp [stB, mzW, tmOf, tmB, avB, svB, hpB, blkB, eqF_refl, kEq, h0]
  have ha : all32 (mzL x y) 16 = true := by
    simp only [all32, List.all_eq_true, List.mem_range]
    exact fun j _ => in32_of (dig_W _ _)
  have hv : dval (mzL x y) 16 16 = val8 x * val8 y := by
    rw [dval_congr (g := fun r _ => dig (val8 x * val8 y) r) (fun r _ => by show dig (pK x (val8 y) 8) (0 + r) = _; rw [Nat.zero_add, pK8]) 16 (by omega)]
    have hbd := pK_bound hb.1 hb.2 (k := 8) (by omega)
    rw [pK8] at hbd
    exact dval_dig_all hbd.1 hbd.2
  have e := k_mulN x y
  rw [hs, hc, ha, hv] at e
  exact e
def sv5 : List (Nat × TF) := (F_rimeref02_mul, tMulN) :: su2
theorem V5 : LibOK prog tt sv5 [] := U2.addT r_mulN
def tMul2 : TF := fun args => match args with
  | [.agg [.ints .u8 32 a], .agg [.ints .u8 32 b]] => some (areB a 32 0 && areB b 32 0, b32 (hval a 32 0 * hval b 32 0 % ordL))
  | _ => none
theorem c_mul2 : fnChk prog (envP tt sv5 []) f_rimeref02_Mul = true := by kernel_rfl
theorem k_mul2 (a b : Nat → Int) : outP (apFunc (envP tt sv5 []) [] 5 f_rimeref02_Mul [u8s 32 a, u8s 32 b] []) =
    some (ckL [areB a 32 0, areB b 32 0, inW8 (limbs8 (hval a 32 0 % ordL)) && inW8 (limbs8 (hval b 32 0 % ordL)), inW8 (limbs8 (val8 (limbs8 (hval a 32 0 % ordL)) * val8 (limbs8 (hval b 32 0 % ordL)) % ordL))],
      b32 (val8 (limbs8 (val8 (limbs8 (hval a 32 0 % ordL)) * val8 (limbs8 (hval b 32 0 % ordL)) % ordL)))) := by kernel_rfl
theorem v8_mod (x : Int) : val8 (limbs8 (x % ordL)) = x % ordL := by
  have hm := modL_range x
  exact val8_limbs hm.1 (by unfold R256; omega)
theorem r_mul2 : TRow prog F_rimeref02_Mul tMul2 := by
  intro args r h
  unfold tMul2 at h
  split at h
  case h_2 => simp at h
  rename_i a b
  simp only [Option.some.injEq, Prod.mk.injEq] at h
  obtain ⟨hb, rfl⟩ := h
  refine pure_of_out V5 at_rimeref02_Mul c_mul2 (N := 5) (gs := []) ?_
  simp only [Bool.and_eq_true] at hb
  have e := k_mul2 a b
  rw [hb.1, hb.2] at e
  simp only [inW8_limbs, v8_mod, ← Int.mul_emod] at e
  exact e
def adC (x y : Nat → Int) : Nat → Int
  | 0 => 0
  | k + 1 => ishr .u64 (wr .u64 (wr .u64 (adC x y k + wr .u64 (x k)) + wr .u64 (y k))) 32
def adV (x y : Nat → Int) (k : Nat) : Int := wr .u32 (wr .u64 (wr .u64 (adC x y k + wr .u64 (x k)) + wr .u64 (y k)))
def adL (x y : Nat → Int) : Nat → Nat → Int := fun j d => bif Nat.beq (0 + j) 8 && Nat.beq (0 + d) 0 then wr .u32 (adC x y 8)
  else bif Nat.beq (0 + j) 7 && Nat.beq (0 + d) 0 then adV x y 7
  else bif Nat.beq (0 + j) 6 && Nat.beq (0 + d) 0 then adV x y 6
  else bif Nat.beq (0 + j) 5 && Nat.beq (0 + d) 0 then adV x y 5
  else bif Nat.beq (0 + j) 4 && Nat.beq (0 + d) 0 then adV x y 4
  else bif Nat.beq (0 + j) 3 && Nat.beq (0 + d) 0 then adV x y 3
  else bif Nat.beq (0 + j) 2 && Nat.beq (0 + d) 0 then adV x y 2
  else bif Nat.beq (0 + j) 1 && Nat.beq (0 + d) 0 then adV x y 1
  else bif Nat.beq (0 + j) 0 && Nat.beq (0 + d) 0 then adV x y 0
  else 0
def tAdd2 : TF := fun args => match args with
  | [.agg [.ints .u8 32 a], .agg [.ints .u8 32 b]] => some (areB a 32 0 && areB b 32 0, b32 ((hval a 32 0 + hval b 32 0) % ordL))
  | _ => none
theorem c_add2 : fnChk prog (envP tt sv5 []) f_rimeref02_Add = true := by kernel_rfl
theorem k_add2 (a b : Nat → Int) : outP (apFunc (envP tt sv5 []) [] 20 f_rimeref02_Add [u8s 32 a, u8s 32 b] []) =
    some (ckL [areB a 32 0, areB b 32 0, all32 (adL (limbs8 (hval a 32 0 % ordL)) (limbs8 (hval b 32 0 % ordL))) 9,
      inW8 (limbs8 (dval (adL (limbs8 (hval a 32 0 % ordL)) (limbs8 (hval b 32 0 % ordL))) 9 9 % ordL))], b32 (val8 (limbs8 (dval (adL (limbs8 (hval a 32 0 % ordL)) (limbs8 (hval b 32 0 % ordL))) 9 9 % ordL)))) := by kernel_rfl
theorem ad_ca {x y : Nat → Int} {X Y : Int} (hx : ∀ j, j < 8 → x j = dig X j) (hy : ∀ j, j < 8 → y j = dig Y j) :
    ∀ k, k ≤ 8 → adC x y k = caC (dig X) (dig Y) 1 k ∧ (k < 8 → adV x y k = dig (X + 1 * Y) k)
  | k, hk => by
    have h1 : W32 1 := ⟨by omega, by omega⟩
    have hc : adC x y k = caC (dig X) (dig Y) 1 k := by
      cases k with
      | zero => rfl
      | succ k =>
        have e := (ad_ca hx hy k (by omega)).1
        obtain ⟨_, c0, c1⟩ := ca_law (f := dig X) (g := dig Y) (F := X) (G := Y) h1 (fun _ => rfl) (fun _ => rfl) k
        have d0 := dig_W k X
        have d1 := dig_W k Y
        unfold W32 at d0 d1
        show ishr .u64 (wr .u64 (wr .u64 (adC x y k + wr .u64 (x k)) + wr .u64 (y k))) 32 = caS (dig X) (dig Y) 1 k / 4294967296
        rw [e, hx k (by omega), hy k (by omega), caS_eq, Int.one_mul]
        generalize caC (dig X) (dig Y) 1 k = c at *
        generalize dig X k = f at *
        generalize dig Y k = g at *
        rw [wr64n (x := f) (by omega) (by omega), wr64n (x := g) (by omega) (by omega), wr64n (x := c + f) (by omega) (by omega), wr64n (by omega) (by omega)]
        exact ishr32
    refine ⟨hc, fun hk8 => ?_⟩
    obtain ⟨_, c0, c1⟩ := ca_law (f := dig X) (g := dig Y) (F := X) (G := Y) h1 (fun _ => rfl) (fun _ => rfl) k
    obtain ⟨sd, _, _⟩ := ca_dig (f := dig X) (g := dig Y) (F := X) (G := Y) h1 (fun _ => rfl) (fun _ => rfl) k
    rw [caS_eq] at sd
    have d0 := dig_W k X
    have d1 := dig_W k Y
    unfold W32 at d0 d1
    unfold adV
    rw [hc, hx k (by omega), hy k (by omega), ← sd, wr32, Int.one_mul]
    generalize caC (dig X) (dig Y) 1 k = c at *
    generalize dig X k = f at *
    generalize dig Y k = g at *
    rw [wr64n (x := f) (by omega) (by omega), wr64n (x := g) (by omega) (by omega), wr64n (x := c + f) (by omega) (by omega), wr64n (by omega) (by omega)]
theorem adL_0 (x y : Nat → Int) : adL x y 0 0 = adV x y 0 := by kernel_rfl
theorem adL_1 (x y : Nat → Int) : adL x y 1 0 = adV x y 1 := by kernel_rfl
theorem adL_2 (x y : Nat → Int) : adL x y 2 0 = adV x y 2 := by kernel_rfl
theorem adL_3 (x y : Nat → Int) : adL x y 3 0 = adV x y 3 := by kernel_rfl
theorem adL_4 (x y : Nat → Int) : adL x y 4 0 = adV x y 4 := by kernel_rfl
theorem adL_5 (x y : Nat → Int) : adL x y 5 0 = adV x y 5 := by kernel_rfl
theorem adL_6 (x y : Nat → Int) : adL x y 6 0 = adV x y 6 := by kernel_rfl
theorem adL_7 (x y : Nat → Int) : adL x y 7 0 = adV x y 7 := by kernel_rfl
theorem adL_8 (x y : Nat → Int) : adL x y 8 0 = wr .u32 (adC x y 8) := by kernel_rfl
theorem adL_law {X Y : Int} (hX : 0 ≤ X ∧ X < ordL) (hY : 0 ≤ Y ∧ Y < ordL) : all32 (adL (limbs8 X) (limbs8 Y)) 9 = true ∧ dval (adL (limbs8 X) (limbs8 Y)) 9 9 = X + Y := by
  have hca := ad_ca (fun j hj => limbs_dig X j hj) (fun j hj => limbs_dig Y j hj)
  have hd : ∀ r, r < 9 → adL (limbs8 X) (limbs8 Y) r 0 = dig (X + Y) r := fun r hr => by
    match r, hr with
    | 0, _ => rw [adL_0, (hca 0 (by omega)).2 (by omega), Int.one_mul]
    | 1, _ => rw [adL_1, (hca 1 (by omega)).2 (by omega), Int.one_mul]
    | 2, _ => rw [adL_2, (hca 2 (by omega)).2 (by omega), Int.one_mul]
    | 3, _ => rw [adL_3, (hca 3 (by omega)).2 (by omega), Int.one_mul]
    | 4, _ => rw [adL_4, (hca 4 (by omega)).2 (by omega), Int.one_mul]
    | 5, _ => rw [adL_5, (hca 5 (by omega)).2 (by omega), Int.one_mul]
    | 6, _ => rw [adL_6, (hca 6 (by omega)).2 (by omega), Int.one_mul]
    | 7, _ => rw [adL_7, (hca 7 (by omega)).2 (by omega), Int.one_mul]
    | 8, _ =>
      rw [adL_8, (hca 8 (by omega)).1, wr32, dig_sh]
      have e := (ca_law (f := dig X) (g := dig Y) (F := X) (G := Y) (x := 1) ⟨by omega, by omega⟩ (fun _ => rfl) (fun _ => rfl) 8).1
      have z1 := sh_range hX.1 (k := 8) (m := 0) (Int.lt_trans hX.2 (by decide))
      have z2 := sh_range hY.1 (k := 8) (m := 0) (Int.lt_trans hY.2 (by decide))
      rw [Int.pow_zero] at z1 z2
      rw [show sh X 8 = 0 by omega, show sh Y 8 = 0 by omega] at e
      rw [Int.mul_zero, Int.add_zero, Int.add_zero, Int.one_mul] at e
      rw [e]
    | _ + 9, h => omega
  refine ⟨?_, ?_⟩
  · simp only [all32, List.all_eq_true, List.mem_range]
    exact fun j hj => in32_of (by rw [hd j hj]; exact dig_W _ _)
  · rw [dval_congr (g := fun r _ => dig (X + Y) r) hd 9 (by omega)]
    have h1 := hX.2
    have h2 := hY.2
    unfold ordL at h1 h2
    exact dval_dig_all (by omega) (by omega)
theorem r_add2 : TRow prog F_rimeref02_Add tAdd2 := by
  intro args r h
  unfold tAdd2 at h
  split at h
  case h_2 => simp at h
  rename_i a b
  simp only [Option.some.injEq, Prod.mk.injEq] at h
  obtain ⟨hb, rfl⟩ := h
  refine pure_of_out V5 at_rimeref02_Add c_add2 (N := 20) (gs := []) ?_
  simp only [Bool.and_eq_true] at hb
  obtain ⟨e1, e2⟩ := adL_law (X := hval a 32 0 % ordL) (Y := hval b 32 0 % ordL) ⟨(modL_range _).1, (modL_range _).2.1⟩ ⟨(modL_range _).1, (modL_range _).2.1⟩
  have e := k_add2 a b
  rw [hb.1, hb.2, e1, e2] at e
  simp only [inW8_limbs, v8_mod, ← Int.add_emod] at e
  exact e
end Go.Proofs.YtjebjiakggmjhaaGreat
namespace Go.Proofs.YtjebjiakggmjhaaGreat
open Go.Proofs.Tryz
open Go Go.AM
def tCarried : TF := fun args => match args with
  | [.agg [.ints .u64 5 a]] => some (inU5 a, u5 (lf (carL a)))
  | _ => none
theorem c_carried : fnChk prog (envP tt ts8 []) f_edwards_carried = true := by kernel_rfl
theorem k_carried (a : Nat → Int) : outP (apFunc (envP tt ts8 []) [] 50 f_edwards_carried [u5 a] []) = some (true, u5 (lf (carRaw a))) := by kernel_rfl
theorem r_carried : TRow prog F_edwards_carried tCarried := by
  intro args r h
  unfold tCarried at h
  split at h
  case h_2 => simp at h
  rename_i a
  simp only [Option.some.injEq, Prod.mk.injEq] at h
  obtain ⟨ha, rfl⟩ := h
  refine pure_of_out L8 at_edwards_carried c_carried (N := 50) (gs := []) ?_
  rw [← car_law ha]
  exact k_carried a
def tf1 : List (Nat × TF) := (F_edwards_carried, tCarried) :: ts8
theorem M1 : LibOK prog tt tf1 [] := L8.addT r_carried
def tFeMinus : TF := fun args => match args with
  | [.agg [.ints .u64 5 a], .agg [.ints .u64 5 b]] => some (true, u5 (lf (subV (l5 a) (l5 b))))
  | _ => none
def tFePlus : TF := fun args => match args with
  | [.agg [.ints .u64 5 a], .agg [.ints .u64 5 b]] => some (true, u5 (lf (addV (l5 a) (l5 b))))
  | _ => none
theorem c_fePlus : fnChk prog (envP tt tf1 []) f_edwards_fe_plus = true := by kernel_rfl
theorem c_feMinus : fnChk prog (envP tt tf1 []) f_edwards_fe_minus = true := by kernel_rfl
def plusRaw (a b : Nat → Int) : List Int := [wr .u64 (a 0 + b 0), wr .u64 (a 1 + b 1), wr .u64 (a 2 + b 2), wr .u64 (a 3 + b 3), wr .u64 (a 4 + b 4)]
theorem k_fePlus (a b : Nat → Int) : outP (apFunc (envP tt tf1 []) [] 50 f_edwards_fe_plus [u5 a, u5 b] []) = some (ckL [inU5 (lf (plusRaw a b))], u5 (lf (carL (lf (plusRaw a b))))) := by kernel_rfl
def minusRaw (a b : Nat → Int) : List Int := [wr .u64 (a 0 + wr .u64 (4503599627370458 - b 0)), wr .u64 (a 1 + wr .u64 (4503599627370494 - b 1)), wr .u64 (a 2 + wr .u64 (4503599627370494 - b 2)), wr .u64 (a 3 + wr .u64 (4503599627370494 - b 3)), wr .u64 (a 4 + wr .u64 (4503599627370494 - b 4))]
theorem k_feMinus (a b : Nat → Int) : outP (apFunc (envP tt tf1 []) [] 50 f_edwards_fe_minus [u5 a, u5 b] []) = some (ckL [inU5 (lf (minusRaw a b))], u5 (lf (carL (lf (minusRaw a b))))) := by kernel_rfl
theorem r_fePlus : TRow prog F_edwards_fe_plus tFePlus := by
  intro args r h
  unfold tFePlus at h
  split at h
  case h_2 => simp at h
  rename_i a b
  simp only [Option.some.injEq, Prod.mk.injEq, true_and] at h
  subst h
  refine pure_of_out M1 at_edwards_fe_plus c_fePlus (N := 50) (gs := []) ?_
  have e : plusRaw a b = addL a b := by simp only [plusRaw, addL, wr64]
  have := k_fePlus a b
  simp only [u5] at this ⊢
  rw [this, e]
  simp [ckL, inU5_addL, addV_l5, feAdd]
theorem r_feMinus : TRow prog F_edwards_fe_minus tFeMinus := by
  intro args r h
  unfold tFeMinus at h
  split at h
  case h_2 => simp at h
  rename_i a b
  simp only [Option.some.injEq, Prod.mk.injEq, true_and] at h
  subst h
  refine pure_of_out M1 at_edwards_fe_minus c_feMinus (N := 50) (gs := []) ?_
  have e : minusRaw a b = subL a b := by
    have h : ∀ x c y : Int, (x + (c - y) % 18446744073709551616) % 18446744073709551616 = (x + c - y) % 18446744073709551616 := fun x c y => by omega
    simp only [minusRaw, subL, wr64, h]
  have := k_feMinus a b
  simp only [u5] at this ⊢
  rw [this, e]
  simp [ckL, inU5_subL, subV_l5, feSub]
def tf2 : List (Nat × TF) := (F_edwards_fe_minus, tFeMinus) :: (F_edwards_fe_plus, tFePlus) :: tf1
theorem M2 : LibOK prog tt tf2 [] := (M1.addT r_fePlus).addT r_feMinus
noncomputable def wf1 : List (Nat × WF) := [(F_edwards_wide_add, AM.sW (envP tt tf2 []) [] 50 f_edwards_wide_add)]
theorem M3 : LibOK prog tt tf2 wf1 := M2.sW at_edwards_wide_add [] 50 (by kernel_rfl)
theorem c_feTimes : fnChk prog (envP tt tf2 wf1) f_edwards_fe_times = true := by kernel_rfl
theorem k_feTimes (a b : Nat → Int) : (outP (apFunc (envP tt tf2 wf1) [] 50 f_edwards_fe_times [u5 a, u5 b] [])).map (·.2) = some (u5 (lf (carL (lf (mulRaw a b))))) := by kernel_rfl
theorem ck_feTimes (a b : Nat → Int) : (outP (apFunc (envP tt tf2 wf1) [] 50 f_edwards_fe_times [u5 a, u5 b] [])).map (·.1) = some (ckL (mulCk a b)) := by kernel_rfl
def tFeTimes : TF := fun args => match args with
  | [.agg [.ints .u64 5 a], .agg [.ints .u64 5 b]] => some (chk5 (l5 a) && chk5 (l5 b), u5 (lf (mulV (l5 a) (l5 b))))
  | _ => none
theorem r_feTimes : TRow prog F_edwards_fe_times tFeTimes := by
  intro args r h
  unfold tFeTimes at h
  split at h
  case h_2 => simp at h
  rename_i a b
  simp only [Option.some.injEq, Prod.mk.injEq, Bool.and_eq_true] at h
  obtain ⟨⟨ha, hb⟩, rfl⟩ := h
  refine pure_of_out M3 at_edwards_fe_times c_feTimes (N := 50) (gs := []) ?_
  have e := both (ck_feTimes a b) (k_feTimes a b)
  rw [mulCk_law (a := a) (b := b) ha hb, mul_law (a := a) (b := b) ha hb] at e
  exact e
noncomputable def tf3 : List (Nat × TF) := (F_edwards_fe_times, tFeTimes) :: tf2
theorem M4 : LibOK prog tt tf3 wf1 := M3.addT r_feTimes
end Go.Proofs.YtjebjiakggmjhaaGreat
namespace Go.Proofs.YtjebjiakggmjhaaGreat
open Go.Proofs.Tryz
open Go Go.AM
-- the curve's number
noncomputable def tl0 : List (Nat × TF) := (F_edwards_load, cT (envP tt tf3 wf1) 50 f_edwards_load) :: tf3
theorem N0 : LibOK prog tt tl0 wf1 := M4.cT at_edwards_load 50 (by kernel_rfl)
theorem c_curve : fnChk prog (envP tt tl0 wf1) f_edwards_curve = true := by kernel_rfl
def tCurve : TF := fun args => match args with
  | [] => some (true, u5 (lf cvL))
  | _ => none
theorem k_curve : cT (envP tt tl0 wf1) 50 f_edwards_curve [] = some (true, u5 (lf cvL)) := by kernel_rfl
theorem r_curve : TRow prog F_edwards_curve tCurve := by
  intro args r h
  unfold tCurve at h
  split at h
  case h_2 => simp at h
  exact cT_row N0 at_edwards_curve 50 c_curve _ _ (k_curve.trans h)
noncomputable def tg0 : List (Nat × TF) := (F_edwards_curve, tCurve) :: tf3
theorem N1 : LibOK prog tt tg0 wf1 := M4.addT r_curve
def tSmall : TF := fun args => match args with
  | [.sc (.int .u64 n)] => some (true, u5 (lf [n, 0, 0, 0, 0]))
  | _ => none
theorem c_small : fnChk prog (envP tt tg0 wf1) f_edwards_small = true := by kernel_rfl
theorem r_small : TRow prog F_edwards_small tSmall := by
  intro args r h
  unfold tSmall at h
  split at h
  case h_2 => simp at h
  rename_i n
  simp only [Option.some.injEq, Prod.mk.injEq, true_and] at h
  subst h
  exact pure_of_out N1 at_edwards_small c_small (N := 50) (gs := []) (by kernel_rfl)
def tSquare : TF := fun args => match args with
  | [.agg [.ints .u64 5 a]] => some (chk5 (l5 a), u5 (lf (mulV (l5 a) (l5 a))))
  | _ => none
theorem c_square : fnChk prog (envP tt tg0 wf1) f_edwards_fe_square = true := by kernel_rfl
theorem k_square (a : Nat → Int) : outP (apFunc (envP tt tg0 wf1) [] 50 f_edwards_fe_square [u5 a] []) = some (ckL [chk5 (l5 a) && chk5 (l5 a)], u5 (lf (r5 (mulV (l5 a) (l5 a))))) := by kernel_rfl
theorem r_square : TRow prog F_edwards_fe_square tSquare := by
  intro args r h
  unfold tSquare at h
  split at h
  case h_2 => simp at h
  rename_i a
  simp only [Option.some.injEq, Prod.mk.injEq] at h
  obtain ⟨ha, rfl⟩ := h
  refine pure_of_out N1 at_edwards_fe_square c_square (N := 50) (gs := []) ?_
  have := k_square a
  rw [show ckL [chk5 (l5 a) && chk5 (l5 a)] = true by simp [ckL, ha]] at this
  exact this
noncomputable def tg1 : List (Nat × TF) := (F_edwards_fe_square, tSquare) :: (F_edwards_small, tSmall) :: tg0
theorem N2 : LibOK prog tt tg1 wf1 := (N1.addT r_small).addT r_square
theorem c_ptPlus : fnChk prog (envP tt tg1 wf1) f_edwards_point_plus = true := by kernel_rfl
theorem c_ptTwice : fnChk prog (envP tt tg1 wf1) f_edwards_point_twice = true := by kernel_rfl
theorem k_ptTwice (p : Nat → Int) : (outP (apFunc (envP tt tg1 wf1) [] 50 f_edwards_point_twice [pt p] [])).map (·.2) = some (pt (lf (ptDbl p))) := by kernel_rfl
theorem k_ptPlus (p q : Nat → Int) : (outP (apFunc (envP tt tg1 wf1) [] 50 f_edwards_point_plus [pt p, pt q] [])).map (·.2) = some (pt (lf (ptAdd p q))) := by kernel_rfl
theorem ck_ptTwice (p : Nat → Int) : (outP (apFunc (envP tt tg1 wf1) [] 50 f_edwards_point_twice [pt p] [])).map (·.1) = some (ckL (ptDblCk p)) := by kernel_rfl
theorem ck_ptPlus (p q : Nat → Int) : (outP (apFunc (envP tt tg1 wf1) [] 50 f_edwards_point_plus [pt p, pt q] [])).map (·.1) = some (ckL (ptAddCk p q)) := by kernel_rfl
def tPtPlus : TF := fun args => match args with
  | [.agg [.ints .u64 20 p], .agg [.ints .u64 20 q]] => some (chkP p && chkP q, pt (lf (ptAdd p q)))
  | _ => none
def tPtTwice : TF := fun args => match args with
  | [.agg [.ints .u64 20 p]] => some (chkP p, pt (lf (ptDbl p)))
  | _ => none
theorem r_ptPlus : TRow prog F_edwards_point_plus tPtPlus := by
  intro args r h
  unfold tPtPlus at h
  split at h
  case h_2 => simp at h
  rename_i p q
  simp only [Option.some.injEq, Prod.mk.injEq, Bool.and_eq_true] at h
  obtain ⟨⟨hp, hq⟩, rfl⟩ := h
  refine pure_of_out N2 at_edwards_point_plus c_ptPlus (N := 50) (gs := []) ?_
  have e := both (ck_ptPlus p q) (k_ptPlus p q)
  rw [ptAddCk_law hp hq] at e
  exact e
theorem r_ptTwice : TRow prog F_edwards_point_twice tPtTwice := by
  intro args r h
  unfold tPtTwice at h
  split at h
  case h_2 => simp at h
  rename_i p
  simp only [Option.some.injEq, Prod.mk.injEq] at h
  obtain ⟨hp, rfl⟩ := h
  refine pure_of_out N2 at_edwards_point_twice c_ptTwice (N := 50) (gs := []) ?_
  have e := both (ck_ptTwice p) (k_ptTwice p)
  rw [ptDblCk_law hp] at e
  exact e
noncomputable def tc1 : List (Nat × TF) := (F_edwards_point_twice, told tPtTwice) :: (F_edwards_point_plus, told tPtPlus) :: (F_edwards_curve, tCurve) :: (F_edwards_small, tSmall) :: (F_edwards_fe_square, told tSquare) :: (F_edwards_fe_times, told tFeTimes) :: (F_edwards_fe_minus, told tFeMinus) :: (F_edwards_fe_plus, told tFePlus) :: (F_edwards_carried, told tCarried) :: ts8
theorem N3 : LibOK prog tt tc1 [] := ((((((((L8.addT r_carried.told).addT r_fePlus.told).addT r_feMinus.told).addT r_feTimes.told).addT r_square.told).addT r_small).addT r_curve).addT r_ptPlus.told).addT r_ptTwice.told
end Go.Proofs.YtjebjiakggmjhaaGreat
namespace Go.Proofs.YtjebjiakggmjhaaGreat
open Go.Proofs.Tryz
open Go Go.AM
noncomputable def ex1 : List (Nat × TF) := (F_edwards_point_twice, tPtTwice) :: (F_edwards_point_plus, tPtPlus) :: (F_edwards_fe_square, tSquare) :: (F_edwards_small, tSmall) :: (F_edwards_curve, tCurve) :: (F_edwards_fe_times, tFeTimes) :: tf2
theorem X1 : LibOK prog tt ex1 [] := (((((M2.addT r_feTimes).addT r_curve).addT r_small).addT r_square).addT r_ptPlus).addT r_ptTwice
def tLoad : TF := fun args => match args with
  | [.agg [.ints .u8 32 b]] => some (areB b 32 0, u5 (lf (loadL (hval b 32 0))))
  | _ => none
theorem c_load : fnChk prog (envP tt ex1 []) f_edwards_load = true := by kernel_rfl
theorem k_load (b : Nat → Int) : outP (apFunc (envP tt ex1 []) [] 60 f_edwards_load [u8s 32 b] []) = some (true, u5 (lf (loadRaw b))) := by kernel_rfl
theorem r_load : TRow prog F_edwards_load tLoad := by
  intro args r h
  unfold tLoad at h
  split at h
  case h_2 => simp at h
  rename_i b
  simp only [Option.some.injEq, Prod.mk.injEq] at h
  obtain ⟨hb, rfl⟩ := h
  refine pure_of_out X1 at_edwards_load c_load (N := 60) (gs := []) ?_
  rw [← load_law hb]
  exact k_load b
def tFeBytes : TF := fun args => match args with
  | [.agg [.ints .u64 5 a]] => some (bd5 (l5 a), b32 (fm (l5 a)))
  | _ => none
theorem c_feBytes : fnChk prog (envP tt ex1 []) f_edwards_fe_bytes = true := by kernel_rfl
theorem k_feBytes (a : Nat → Int) : outP (apFunc (envP tt ex1 []) [] 60 f_edwards_fe_bytes [u5 a] []) = some (ckL [inU5 (lf (l5 a)), inU5 (lf (carL (lf (l5 a))))], u8s 32 (lf (bytesRaw (lf (l5 a))))) := by kernel_rfl
theorem r_feBytes : TRow prog F_edwards_fe_bytes tFeBytes := by
  intro args r h
  unfold tFeBytes at h
  split at h
  case h_2 => simp at h
  rename_i a
  simp only [Option.some.injEq, Prod.mk.injEq] at h
  obtain ⟨ha, rfl⟩ := h
  refine pure_of_out X1 at_edwards_fe_bytes c_feBytes (N := 60) (gs := []) ?_
  have e := k_feBytes a
  have h1 : inU5 (lf (l5 a)) = true := bd5_chk ha
  rw [bytes_law ha, h1, inU5_carL h1] at e
  exact e
noncomputable def ex2 : List (Nat × TF) := (F_edwards_fe_bytes, tFeBytes) :: (F_edwards_load, tLoad) :: ex1
theorem X2 : LibOK prog tt ex2 [] := (X1.addT r_load).addT r_feBytes
def tFeSame : TF := fun args => match args with
  | [.agg [.ints .u64 5 a], .agg [.ints .u64 5 b]] => some (bd5 (l5 a) && bd5 (l5 b), .sc (.bool (decide (fm (l5 a) = fm (l5 b)))))
  | _ => none
theorem c_feSame : fnChk prog (envP tt ex2 []) f_edwards_fe_same = true := by kernel_rfl
theorem k_feSame (a b : Nat → Int) : outP (apFunc (envP tt ex2 []) [] 60 f_edwards_fe_same [u5 a, u5 b] []) = some (ckL [bd5 (l5 a), bd5 (l5 b)], .sc (.bool (eqN 32 (lf (byL 32 (fm (l5 a)))) (lf (byL 32 (fm (l5 b)))) && true))) := by kernel_rfl
theorem pP_256 : pP < R256 := by decide
theorem eqN_by {x y : Int} (hx : 0 ≤ x ∧ x < R256) (hy : 0 ≤ y ∧ y < R256) : eqN 32 (lf (byL 32 x)) (lf (byL 32 y)) = decide (x = y) := by
  rw [eqB_law (areB_b32 y) hx.1 hx.2, hval_b32 hy.1 hy.2]
  by_cases e : x = y
  · rw [decide_eq_true e, decide_eq_true e.symm]
  · rw [decide_eq_false e, decide_eq_false (fun h => e h.symm)]
theorem fm_256 (l : List Int) : 0 ≤ fm l ∧ fm l < R256 := ⟨(fm_range l).1, Int.lt_trans (fm_range l).2 pP_256⟩
theorem r_feSame : TRow prog F_edwards_fe_same tFeSame := by
  intro args r h
  unfold tFeSame at h
  split at h
  case h_2 => simp at h
  rename_i a b
  simp only [Option.some.injEq, Prod.mk.injEq, Bool.and_eq_true] at h
  obtain ⟨⟨ha, hb⟩, rfl⟩ := h
  refine pure_of_out X2 at_edwards_fe_same c_feSame (N := 60) (gs := []) ?_
  have e := k_feSame a b
  rw [ha, hb, eqN_by (fm_256 _) (fm_256 _), Bool.and_true] at e
  exact e
def tFeOdd : TF := fun args => match args with
  | [.agg [.ints .u64 5 a]] => some (bd5 (l5 a), .sc (.bool (decide (fm (l5 a) % 2 = 1))))
  | _ => none
theorem c_feOdd : fnChk prog (envP tt ex2 []) f_edwards_fe_odd = true := by kernel_rfl
theorem k_feOdd (a : Nat → Int) : outP (apFunc (envP tt ex2 []) [] 60 f_edwards_fe_odd [u5 a] []) = some (ckL [bd5 (l5 a)], .sc (.bool (iand .u8 (lf (byL 32 (fm (l5 a))) 0) 1 == 1))) := by kernel_rfl
set_option maxRecDepth 100000 in
theorem iand1_fe2 {x : Int} (h : 0 ≤ x ∧ x < 256) : iand .u8 x 1 = x % 2 := by
  have key : ∀ n : Nat, n < 256 → iand .u8 (n : Int) 1 = (n : Int) % 2 := by decide
  have := key x.toNat (by omega)
  rwa [Int.toNat_of_nonneg h.1] at this
theorem odd_law {v : Int} (h : 0 ≤ v) : (iand .u8 (lf (byL 32 v) 0) 1 == 1) = decide (v % 2 = 1) := by
  have e : lf (byL 32 v) 0 = v % 256 := rfl
  rw [e, iand1_fe2 ⟨by omega, by omega⟩]
  have : v % 256 % 2 = v % 2 := by omega
  rw [this]
  rfl
theorem r_feOdd : TRow prog F_edwards_fe_odd tFeOdd := by
  intro args r h
  unfold tFeOdd at h
  split at h
  case h_2 => simp at h
  rename_i a
  simp only [Option.some.injEq, Prod.mk.injEq] at h
  obtain ⟨ha, rfl⟩ := h
  refine pure_of_out X2 at_edwards_fe_odd c_feOdd (N := 60) (gs := []) ?_
  have e := k_feOdd a
  rw [ha, odd_law (fm_range _).1] at e
  exact e
noncomputable def ex3 : List (Nat × TF) := (F_edwards_fe_odd, tFeOdd) :: (F_edwards_fe_same, tFeSame) :: ex2
theorem X3 : LibOK prog tt ex3 [] := (X2.addT r_feSame).addT r_feOdd
def sqV : Nat → List Int → List Int
  | 0, l => l
  | n + 1, l => mulV (r5 (sqV n l)) (r5 (sqV n l))
theorem sqV_bd {l : List Int} (h : bd5 l = true) : ∀ n, bd5 (sqV n l) = true
  | 0 => h
  | n + 1 => mulV_bd (sqV_bd h n) (sqV_bd h n)
theorem sqV_fm {l : List Int} (h : bd5 l = true) {x : Int} {a : Nat} (hx : fm l = powM x a) : ∀ n, fm (sqV n l) = powM x (a * 2 ^ n)
  | 0 => by simpa [sqV] using hx
  | n + 1 => by
    have ih := sqV_fm h hx n
    show fm (mulV (r5 (sqV n l)) (r5 (sqV n l))) = _
    rw [mulV_fm (by rw [r5_bd]; exact sqV_bd h n) (by rw [r5_bd]; exact sqV_bd h n), r5_fm, ih, powM_mul]
    congr 1
    rw [Nat.pow_succ]; grind
theorem and_t {a b : Bool} : (a && b) = true ↔ a = true ∧ b = true := by rw [Bool.and_eq_true]
noncomputable abbrev xE_fe2 : EnvP := envP tt ex3 []
noncomputable def sqB : Code := match f_edwards_fe_squares.body with | some c => (match bodiesOf 0 c with | [.loop b] => b | _ => .skip) | none => .skip
def sqS (n v : Int) (f : Nat → Int) : St := ⟨tmOf [(2, .sc (.ptr 0 5 0 0 5)), (4, .sc (.ptr 1 5 0 0 5)), (5, .sc (.int .i64 n)), (6, .sc (.int .i64 v))] 12 0, [some (.ints .u64 5 1 (fun _ d => f d)), some (.ints .u64 5 1 (fun _ _ => 0))]⟩
theorem sq_round (n v v' : Int) (f f' : Nat → Int) : roundR xE_fe2 [(7, true)] 5 2 [] sqB (sqS n v f) .normal (sqS n v' f') =
    some (ckL [decide (v < n) == true, chk5 (l5 f)] && stR (rnm 2 []) (sqS n (wr .i64 (v + 1)) (lf (mulV (l5 f) (l5 f)))) (sqS n v' f')) := by kernel_rfl
theorem sq_stop (n v v' : Int) (f f' : Nat → Int) : roundR xE_fe2 [(7, false)] 5 2 [] sqB (sqS n v f) (.exit 0) (sqS n v' f') = some (ckL [decide (v < n) == false] && stR (rnm 2 []) (sqS n v f) (sqS n v' f')) := by kernel_rfl
theorem sq_same {n v v' : Int} {f g : Nat → Int} (hv : v = v') (h : ∀ d, d < 5 → f d = g d) : stR (rnm 2 []) (sqS n v f) (sqS n v' g) = true := by
  subst hv
  have e : eqF 1 5 (fun _ d => f d) (fun _ d => g d) = true := eqF_of fun r _ d hd => h d hd
  simp [stR, sqS, tmOf, tmR, avR, svR, rIs, rnm, kEq_refl, eqF_refl, hpR, blkR, ndR, e]
  rfl
def sqN (n : Int) : Bool := decide (0 ≤ n) && decide (n < 4611686018427387904)
def sqW (a : Nat → Int) (n : Int) (k : Nat) : St := sqS n k (lf (sqV k (l5 a)))
def sqF (a : Nat → Int) (n : Int) : LF := famA 2 [] (sqW a n 0) (bd5 (l5 a) && sqN n) .normal (sqS n n (lf (sqV n.toNat (l5 a))))
theorem sq_body : f_edwards_fe_squares.body.map (bodiesOf 0) = some [.loop sqB] := by kernel_rfl
theorem sq_ok : codeOK prog xE_fe2.env.isW sqB = true := by kernel_rfl
theorem l_sq (a : Nat → Int) (n : Int) : LRow prog f_edwards_fe_squares 0 (sqF a n) := by
  refine LRow.famA (N := 5) (S := sqW a n) (X3.env []) mix n.toNat (loop_of sq_body) sq_ok (fun w0 own0 => accOK_none (fun id => rfl) sqB) (fun _ _ => Nat.le_refl _) (Nat.le_refl _) fun hck => ?_
  simp only [Bool.and_eq_true, sqN, decide_eq_true_eq] at hck
  obtain ⟨hb, h0, h1⟩ := hck
  refine ⟨fun k hk => ?_, ?_⟩
  · refine roundR_toR (sq_round n k ((k + 1 : Nat) : Int) (lf (sqV k (l5 a))) (lf (sqV (k + 1) (l5 a)))) ?_
    refine and_t.2 ⟨?_, sq_same ((wr_i64 (by omega) (by omega)).trans (by omega)) fun d _ => rfl⟩
    rw [show chk5 (l5 (lf (sqV k (l5 a)))) = true from bd5_chk (sqV_bd hb k), decide_eq_true (show (k : Int) < n by omega)]
    rfl
  · obtain ⟨s1, r, q1, q2, q3⟩ := roundR_toR (n := 2) (sq_stop n n.toNat n (lf (sqV n.toNat (l5 a))) (lf (sqV n.toNat (l5 a)))) (by
      rw [sq_same (by omega) (fun d _ => rfl), decide_eq_false (show ¬ ((n.toNat : Nat) : Int) < n by omega)]; rfl)
    exact ⟨_, s1, r, q1, rfl, q2, q3⟩
theorem c_sq (a : Nat → Int) (n : Int) : fnChk prog (envL tt ex3 [] [(0, sqF a n)]) f_edwards_fe_squares = true := by kernel_rfl
theorem k_sq (a : Nat → Int) (n : Int) : outP (apFunc (envL tt ex3 [] [(0, sqF a n)]) [] 5 f_edwards_fe_squares [u5 a, .sc (.int .i64 n)] []) =
    some (ckL [(bd5 (l5 a) && sqN n) && stR (rnm 2 []) (sqS n 0 a) (sqW a n 0)], u5 (lf (r5 (sqV n.toNat (l5 a))))) := by kernel_rfl
def tSquares : TF := fun args => match args with
  | [.agg [.ints .u64 5 a], .sc (.int .i64 n)] => some (bd5 (l5 a) && sqN n, u5 (lf (r5 (sqV n.toNat (l5 a)))))
  | _ => none
theorem lf_l5 (a : Nat → Int) : ∀ d, d < 5 → a d = lf (l5 a) d
  | 0, _ => rfl
  | 1, _ => rfl
  | 2, _ => rfl
  | 3, _ => rfl
  | 4, _ => rfl
  | n + 5, h => by omega
theorem r_squares : TRow prog F_edwards_fe_squares tSquares := by
  intro args r h
  unfold tSquares at h
  split at h
  case h_2 => simp at h
  rename_i a n
  simp only [Option.some.injEq, Prod.mk.injEq] at h
  obtain ⟨ha, rfl⟩ := h
  refine pure_of_outL X3 at_edwards_fe_squares (LsOK.nil.cons (l_sq a n)) (c_sq a n) (N := 5) (gs := []) ?_
  have e := k_sq a n
  rw [ha, show stR (rnm 2 []) (sqS n 0 a) (sqW a n 0) = true from sq_same rfl (lf_l5 a)] at e
  exact e
noncomputable def ex4 : List (Nat × TF) := (F_edwards_fe_squares, tSquares) :: ex3
theorem X4 : LibOK prog tt ex4 [] := X3.addT r_squares
def mR (a b : List Int) : List Int := mulV (r5 a) (r5 b)
theorem mR_bd {a b : List Int} (ha : bd5 a = true) (hb : bd5 b = true) : bd5 (mR a b) = true := mulV_bd (a := r5 a) (b := r5 b) ha hb
theorem mR_fm {a b : List Int} (ha : bd5 a = true) (hb : bd5 b = true) : fm (mR a b) = mM (fm a) (fm b) := mulV_fm (a := r5 a) (b := r5 b) ha hb
def sqR (n : Nat) (a : List Int) : List Int := r5 (sqV n (r5 a))
theorem sqR_bd {a : List Int} (n : Nat) (ha : bd5 a = true) : bd5 (sqR n a) = true := sqV_bd (l := r5 a) ha n
end Go.Proofs.YtjebjiakggmjhaaGreat
namespace Go.Proofs.YtjebjiakggmjhaaGreat
open Go.Proofs.Tryz
open Go Go.AM
def cS_fe3 (n : Int) (a : List Int) : Bool := bd5 (r5 a) && sqN n
def cM (a b : List Int) : Bool := chk5 (r5 a) && chk5 (r5 b)
def cQ (a : List Int) : Bool := chk5 (r5 a)
theorem cS_t {n : Int} {a : List Int} (h : bd5 a = true) (hn : sqN n = true) : cS_fe3 n a = true := by unfold cS_fe3; rw [show bd5 (r5 a) = true from h, hn]; rfl
theorem cM_t {a b : List Int} (ha : bd5 a = true) (hb : bd5 b = true) : cM a b = true := by unfold cM; rw [show chk5 (r5 a) = true from bd5_chk ha, show chk5 (r5 b) = true from bd5_chk hb]; rfl
theorem cQ_t {a : List Int} (ha : bd5 a = true) : cQ a = true := bd5_chk ha
def ch2 (a : List Int) : List Int := mR a a
def ch9 (a : List Int) : List Int := mR a (sqR 2 (ch2 a))
def ch11 (a : List Int) : List Int := mR (ch9 a) (ch2 a)
def ch5x (a : List Int) : List Int := mR (ch9 a) (mR (ch11 a) (ch11 a))
def ch10x (a : List Int) : List Int := mR (ch5x a) (sqR 5 (ch5x a))
def ch20x (a : List Int) : List Int := mR (ch10x a) (sqR 10 (ch10x a))
def ch40x (a : List Int) : List Int := mR (ch20x a) (sqR 20 (ch20x a))
def ch50x (a : List Int) : List Int := mR (ch10x a) (sqR 10 (ch40x a))
def ch100x (a : List Int) : List Int := mR (ch50x a) (sqR 50 (ch50x a))
def ch200x (a : List Int) : List Int := mR (ch100x a) (sqR 100 (ch100x a))
def ch250x (a : List Int) : List Int := mR (ch50x a) (sqR 50 (ch200x a))
def chCk (a : List Int) : List Bool :=
  [cQ a, cS_fe3 2 (ch2 a), cM a (sqR 2 (ch2 a)), cM (ch9 a) (ch2 a), cQ (ch11 a), cM (ch9 a) (mR (ch11 a) (ch11 a)), cS_fe3 5 (ch5x a), cM (ch5x a) (sqR 5 (ch5x a)), cS_fe3 10 (ch10x a), cM (ch10x a) (sqR 10 (ch10x a)), cS_fe3 20 (ch20x a), cM (ch20x a) (sqR 20 (ch20x a)),
   cS_fe3 10 (ch40x a), cM (ch10x a) (sqR 10 (ch40x a)), cS_fe3 50 (ch50x a), cM (ch50x a) (sqR 50 (ch50x a)), cS_fe3 100 (ch100x a), cM (ch100x a) (sqR 100 (ch100x a)), cS_fe3 50 (ch200x a), cM (ch50x a) (sqR 50 (ch200x a))]
theorem ch_bd {a : List Int} (h : bd5 a = true) : bd5 (ch2 a) = true ∧ bd5 (ch9 a) = true ∧ bd5 (ch11 a) = true ∧ bd5 (ch5x a) = true ∧ bd5 (ch10x a) = true ∧ bd5 (ch20x a) = true ∧ bd5 (ch40x a) = true ∧ bd5 (ch50x a) = true ∧ bd5 (ch100x a) = true ∧ bd5 (ch200x a) = true ∧ bd5 (ch250x a) = true := by
  have h2 := mR_bd h h
  have h9 := mR_bd h (sqR_bd 2 h2)
  have h11 := mR_bd h9 h2
  have h5 := mR_bd h9 (mR_bd h11 h11)
  have h10 := mR_bd h5 (sqR_bd 5 h5)
  have h20 := mR_bd h10 (sqR_bd 10 h10)
  have h40 := mR_bd h20 (sqR_bd 20 h20)
  have h50 := mR_bd h10 (sqR_bd 10 h40)
  have h100 := mR_bd h50 (sqR_bd 50 h50)
  have h200 := mR_bd h100 (sqR_bd 100 h100)
  exact ⟨h2, h9, h11, h5, h10, h20, h40, h50, h100, h200, mR_bd h50 (sqR_bd 50 h200)⟩
theorem chCk_law {a : List Int} (h : bd5 a = true) : ckL (chCk a) = true := by
  obtain ⟨h2, h9, h11, h5, h10, h20, h40, h50, h100, h200, h250⟩ := ch_bd h
  unfold chCk
  rw [cQ_t h, cS_t h2 (by decide), cM_t h (sqR_bd 2 h2), cM_t h9 h2, cQ_t h11, cM_t h9 (mR_bd h11 h11), cS_t h5 (by decide), cM_t h5 (sqR_bd 5 h5), cS_t h10 (by decide), cM_t h10 (sqR_bd 10 h10), cS_t h20 (by decide), cM_t h20 (sqR_bd 20 h20),
    cS_t h40 (by decide), cM_t h10 (sqR_bd 10 h40), cS_t h50 (by decide), cM_t h50 (sqR_bd 50 h50), cS_t h100 (by decide), cM_t h100 (sqR_bd 100 h100), cS_t h200 (by decide), cM_t h50 (sqR_bd 50 h200)]
  rfl
theorem mR_pow {a b : List Int} {x : Int} {m n k : Nat} (ha : bd5 a = true) (hb : bd5 b = true) (e1 : fm a = powM x m) (e2 : fm b = powM x n) (hk : m + n = k) : fm (mR a b) = powM x k := by
  rw [mR_fm ha hb, e1, e2, powM_mul, hk]
theorem sqR_pow {a : List Int} {x : Int} {m k : Nat} (n : Nat) (ha : bd5 a = true) (e1 : fm a = powM x m) (hk : m * 2 ^ n = k) : fm (sqR n a) = powM x k := by
  have := sqV_fm (l := r5 a) ha (x := x) (a := m) e1 n
  rw [hk] at this
  exact this
theorem ch_pow {a : List Int} (h : bd5 a = true) : fm (ch11 a) = powM (fm a) 11 ∧ fm (ch250x a) = powM (fm a) (2 ^ 250 - 1) := by
  obtain ⟨h2, h9, h11, h5, h10, h20, h40, h50, h100, h200, h250⟩ := ch_bd h
  have e : fm a = powM (fm a) 1 := (powM_one (fm_range a)).symm
  have e2 : fm (ch2 a) = powM (fm a) 2 := mR_pow h h e e rfl
  have e9 : fm (ch9 a) = powM (fm a) 9 := mR_pow h (sqR_bd 2 h2) e (sqR_pow 2 h2 e2 rfl) rfl
  have e11 : fm (ch11 a) = powM (fm a) 11 := mR_pow h9 h2 e9 e2 rfl
  have e5 : fm (ch5x a) = powM (fm a) (2 ^ 5 - 1) := mR_pow h9 (mR_bd h11 h11) e9 (mR_pow h11 h11 e11 e11 rfl) (by decide)
  have e10 : fm (ch10x a) = powM (fm a) (2 ^ 10 - 1) := mR_pow h5 (sqR_bd 5 h5) e5 (sqR_pow 5 h5 e5 rfl) (by decide)
  have e20 : fm (ch20x a) = powM (fm a) (2 ^ 20 - 1) := mR_pow h10 (sqR_bd 10 h10) e10 (sqR_pow 10 h10 e10 rfl) (by decide)
  have e40 : fm (ch40x a) = powM (fm a) (2 ^ 40 - 1) := mR_pow h20 (sqR_bd 20 h20) e20 (sqR_pow 20 h20 e20 rfl) (by decide)
  have e50 : fm (ch50x a) = powM (fm a) (2 ^ 50 - 1) := mR_pow h10 (sqR_bd 10 h40) e10 (sqR_pow 10 h40 e40 rfl) (by decide)
  have e100 : fm (ch100x a) = powM (fm a) (2 ^ 100 - 1) := mR_pow h50 (sqR_bd 50 h50) e50 (sqR_pow 50 h50 e50 rfl) (by decide)
  have e200 : fm (ch200x a) = powM (fm a) (2 ^ 200 - 1) := mR_pow h100 (sqR_bd 100 h100) e100 (sqR_pow 100 h100 e100 rfl) (by decide)
  exact ⟨e11, mR_pow h50 (sqR_bd 50 h200) e50 (sqR_pow 50 h200 e200 rfl) (by decide)⟩
theorem c_chain : fnChk prog (envP tt ex4 []) f_edwards_fe_chain = true := by kernel_rfl
theorem k_chain (a : Nat → Int) : (outP (apFunc (envP tt ex4 []) [] 60 f_edwards_fe_chain [u5 a] [])).map (·.2) = some (.tup [u5 (lf (r5 (ch250x (l5 a)))), u5 (lf (r5 (ch11 (l5 a))))]) := by kernel_rfl
theorem ck_chain (a : Nat → Int) : (outP (apFunc (envP tt ex4 []) [] 60 f_edwards_fe_chain [u5 a] [])).map (·.1) = some (ckL (chCk (l5 a))) := by kernel_rfl
def tChain : TF := fun args => match args with
  | [.agg [.ints .u64 5 a]] => some (bd5 (l5 a), .tup [u5 (lf (r5 (ch250x (l5 a)))), u5 (lf (r5 (ch11 (l5 a))))])
  | _ => none
theorem r_chain : TRow prog F_edwards_fe_chain tChain := by
  intro args r h
  unfold tChain at h
  split at h
  case h_2 => simp at h
  rename_i a
  simp only [Option.some.injEq, Prod.mk.injEq] at h
  obtain ⟨ha, rfl⟩ := h
  refine pure_of_out X4 at_edwards_fe_chain c_chain (N := 60) (gs := []) ?_
  have e := both (ck_chain a) (k_chain a)
  rw [chCk_law ha] at e
  exact e
noncomputable def ex5 : List (Nat × TF) := (F_edwards_fe_chain, tChain) :: ex4
theorem X5 : LibOK prog tt ex5 [] := X4.addT r_chain
def invV (a : List Int) : List Int := mR (sqR 5 (r5 (ch250x a))) (r5 (ch11 a))
def e8V (a : List Int) : List Int := mR (sqR 2 (r5 (ch250x a))) a
theorem invV_law {a : List Int} (h : bd5 a = true) : bd5 (invV a) = true ∧ fm (invV a) = powM (fm a) 57896044618658097711785492504343953926634992332820282019728792003956564819947 := by
  obtain ⟨h2, h9, h11, h5, h10, h20, h40, h50, h100, h200, h250⟩ := ch_bd h
  obtain ⟨e11, e250⟩ := ch_pow h
  exact ⟨mR_bd (sqR_bd 5 (a := r5 (ch250x a)) h250) (b := r5 (ch11 a)) h11, mR_pow (sqR_bd 5 (a := r5 (ch250x a)) h250) (b := r5 (ch11 a)) h11 (sqR_pow 5 (a := r5 (ch250x a)) h250 e250 rfl) e11 (by decide)⟩
theorem e8V_law {a : List Int} (h : bd5 a = true) : bd5 (e8V a) = true ∧ fm (e8V a) = powM (fm a) 7237005577332262213973186563042994240829374041602535252466099000494570602493 := by
  obtain ⟨h2, h9, h11, h5, h10, h20, h40, h50, h100, h200, h250⟩ := ch_bd h
  obtain ⟨e11, e250⟩ := ch_pow h
  exact ⟨mR_bd (sqR_bd 2 (a := r5 (ch250x a)) h250) h, mR_pow (sqR_bd 2 (a := r5 (ch250x a)) h250) h (sqR_pow 2 (a := r5 (ch250x a)) h250 e250 rfl) (powM_one (fm_range a)).symm (by decide)⟩
theorem c_inv : fnChk prog (envP tt ex5 []) f_edwards_fe_inverse = true := by kernel_rfl
theorem c_e8 : fnChk prog (envP tt ex5 []) f_edwards_fe_eighth = true := by kernel_rfl
theorem k_inv (a : Nat → Int) : outP (apFunc (envP tt ex5 []) [] 60 f_edwards_fe_inverse [u5 a] []) = some (ckL [bd5 (l5 a), cS_fe3 5 (r5 (ch250x (l5 a))), cM (sqR 5 (r5 (ch250x (l5 a)))) (r5 (ch11 (l5 a)))], u5 (lf (r5 (invV (l5 a))))) := by kernel_rfl
theorem k_e8 (a : Nat → Int) : outP (apFunc (envP tt ex5 []) [] 60 f_edwards_fe_eighth [u5 a] []) = some (ckL [bd5 (l5 a), cS_fe3 2 (r5 (ch250x (l5 a))), cM (sqR 2 (r5 (ch250x (l5 a)))) (l5 a)], u5 (lf (r5 (e8V (l5 a))))) := by kernel_rfl
def tInv : TF := fun args => match args with
  | [.agg [.ints .u64 5 a]] => some (bd5 (l5 a), u5 (lf (r5 (invV (l5 a)))))
  | _ => none
def tE8 : TF := fun args => match args with
  | [.agg [.ints .u64 5 a]] => some (bd5 (l5 a), u5 (lf (r5 (e8V (l5 a)))))
  | _ => none
theorem r_inv : TRow prog F_edwards_fe_inverse tInv := by
  intro args r h
  unfold tInv at h
  split at h
  case h_2 => simp at h
  rename_i a
  simp only [Option.some.injEq, Prod.mk.injEq] at h
  obtain ⟨ha, rfl⟩ := h
  obtain ⟨h2, h9, h11, h5, h10, h20, h40, h50, h100, h200, h250⟩ := ch_bd ha
  refine pure_of_out X5 at_edwards_fe_inverse c_inv (N := 60) (gs := []) ?_
  have e := k_inv a
  rw [ha, cS_t (a := r5 (ch250x (l5 a))) h250 (by decide), cM_t (sqR_bd 5 (a := r5 (ch250x (l5 a))) h250) (b := r5 (ch11 (l5 a))) h11] at e
  exact e
theorem r_e8 : TRow prog F_edwards_fe_eighth tE8 := by
  intro args r h
  unfold tE8 at h
  split at h
  case h_2 => simp at h
  rename_i a
  simp only [Option.some.injEq, Prod.mk.injEq] at h
  obtain ⟨ha, rfl⟩ := h
  obtain ⟨h2, h9, h11, h5, h10, h20, h40, h50, h100, h200, h250⟩ := ch_bd ha
  refine pure_of_out X5 at_edwards_fe_eighth c_e8 (N := 60) (gs := []) ?_
  have e := k_e8 a
  rw [ha, cS_t (a := r5 (ch250x (l5 a))) h250 (by decide), cM_t (sqR_bd 2 (a := r5 (ch250x (l5 a))) h250) ha] at e
  exact e
noncomputable def ex6 : List (Nat × TF) := (F_edwards_fe_eighth, tE8) :: (F_edwards_fe_inverse, tInv) :: ex5
theorem X6 : LibOK prog tt ex6 [] := (X5.addT r_inv).addT r_e8
end Go.Proofs.YtjebjiakggmjhaaGreat
namespace Go.Proofs.YtjebjiakggmjhaaGreat
open Go.Proofs.Tryz
open Go Go.AM
def rmL : List Int := loadL 19681161376707505956807079304988542015446066515923890162744021073123829784752
def tRm : TF := fun args => match args with
  | [] => some (true, u5 (lf rmL))
  | _ => none
theorem c_rm : fnChk prog (envP tt ex6 []) f_edwards_rootOfMinus1 = true := by kernel_rfl
theorem r_rm : TRow prog F_edwards_rootOfMinus1 tRm := by
  intro args r h
  unfold tRm at h
  split at h
  case h_2 => simp at h
  simp only [Option.some.injEq, Prod.mk.injEq, true_and] at h
  subst h
  exact pure_of_out X6 at_edwards_rootOfMinus1 c_rm (N := 60) (gs := []) (by kernel_rfl)
noncomputable def ex7 : List (Nat × TF) := (F_edwards_rootOfMinus1, tRm) :: ex6
theorem X7 : LibOK prog tt ex7 [] := X6.addT r_rm
def iM : Int := 19681161376707505956807079304988542015446066515923890162744021073123829784752
theorem rm_law : bd5 rmL = true ∧ fm rmL = iM := by
  obtain ⟨h1, h2⟩ := loadL_law (v := iM) (by decide)
  exact ⟨h1, h2.trans (by decide)⟩
def rv3 (V : List Int) : List Int := mR (mR V V) V
def rw7 (U V : List Int) : List Int := mR U (mR (mR (rv3 V) (rv3 V)) V)
def rx0 (U V : List Int) : List Int := mR (mR U (rv3 V)) (r5 (e8V (r5 (rw7 U V))))
def rxk (U V : List Int) : Nat → List Int
  | 0 => rx0 U V
  | k + 1 => mR (rxk U V k) rmL
def rok (U V x : List Int) : Bool := decide (fm (r5 (mR V (mR x x))) = fm (r5 U))
theorem rx0_bd {U V : List Int} (hu : bd5 U = true) (hv : bd5 V = true) : bd5 (rv3 V) = true ∧ bd5 (rw7 U V) = true ∧ bd5 (rx0 U V) = true := by
  have h3 := mR_bd (mR_bd hv hv) hv
  have h7 := mR_bd hu (mR_bd (mR_bd h3 h3) hv)
  exact ⟨h3, h7, mR_bd (mR_bd hu h3) (b := r5 (e8V (r5 (rw7 U V)))) (e8V_law (a := r5 (rw7 U V)) h7).1⟩
theorem rxk_bd {U V : List Int} (hu : bd5 U = true) (hv : bd5 V = true) : ∀ k, bd5 (rxk U V k) = true
  | 0 => (rx0_bd hu hv).2.2
  | k + 1 => mR_bd (rxk_bd hu hv k) rm_law.1
noncomputable abbrev rtE : EnvP := envP tt ex7 []
noncomputable def rtB : Code := match f_edwards_root.body with | some c => (match bodiesOf 0 c with | [.loop b] => b | _ => .skip) | none => .skip
def rtS (u v : Nat → Int) (i : Int) (x : Nat → Int) : St := ⟨tmOf [(2, .sc (.ptr 0 5 0 0 5)), (3, .sc (.ptr 1 5 0 0 5)), (4, .sc (.ptr 2 5 0 0 5)), (7, .sc (.ptr 4 5 0 0 5)), (23, .sc (.int .i64 i))] 37 0,
  [some (.ints .u64 5 1 (fun _ d => u d)), some (.ints .u64 5 1 (fun _ d => v d)), some (.ints .u64 5 1 (fun _ _ => 0)), none, some (.ints .u64 5 1 (fun _ d => x d))]⟩
def rtT1 (x : Nat → Int) : St := ⟨tmOf [(4, .sc (.ptr 2 5 0 0 5)), (5, .sc (.bool true))] 37 0, [none, none, some (.ints .u64 5 1 (fun _ d => x d)), none, none]⟩
def rtT2 (x : Nat → Int) : St := ⟨tmOf [(4, .sc (.ptr 2 5 0 0 5)), (7, .sc (.ptr 4 5 0 0 5))] 37 0, [none, none, some (.ints .u64 5 1 (fun _ _ => 0)), none, some (.ints .u64 5 1 (fun _ d => x d))]⟩
def rtCk (U V X : List Int) (g : Bool) : List Bool := [cQ X, cM V (mR X X), (bd5 (r5 (mR V (mR X X))) && bd5 (r5 U)) && (rok U V X == g)]
theorem rt_round (u v : Nat → Int) (i i' : Int) (x x' : Nat → Int) : roundR rtE [(24, true), (30, false)] 5 5 [] rtB (rtS u v i x) .normal (rtS u v i' x') =
    some (ckL ([decide (i < 2) == true] ++ rtCk (l5 u) (l5 v) (l5 x) false ++ [cM (l5 x) rmL]) && stR (rnm 5 []) (rtS u v (wr .i64 (i + 1)) (lf (mR (l5 x) rmL))) (rtS u v i' x')) := by kernel_rfl
theorem rt_ret (u v : Nat → Int) (i : Int) (x x' : Nat → Int) : roundR rtE [(24, true), (30, true)] 5 5 [] rtB (rtS u v i x) .ret (rtT1 x') =
    some (ckL ([decide (i < 2) == true] ++ rtCk (l5 u) (l5 v) (l5 x) true) && stR (rnm 5 []) (rtT1 x) (rtT1 x')) := by kernel_rfl
theorem rt_exit (u v : Nat → Int) (i : Int) (x x' : Nat → Int) : roundR rtE [(24, false)] 5 5 [] rtB (rtS u v i x) (.exit 0) (rtT2 x') =
    some (ckL [decide (i < 2) == false] && stR (rnm 5 []) (rtT2 x) (rtT2 x')) := by kernel_rfl
theorem rt_same {u v : Nat → Int} {i i' : Int} {f g : Nat → Int} (hv : i = i') (h : ∀ d, d < 5 → f d = g d) : stR (rnm 5 []) (rtS u v i f) (rtS u v i' g) = true := by
  subst hv
  have e : eqF 1 5 (fun _ d => f d) (fun _ d => g d) = true := eqF_of fun r _ d hd => h d hd
  simp [stR, rtS, tmOf, tmR, avR, svR, rIs, rnm, kEq_refl, eqF_refl, hpR, blkR, ndR, e]
  decide
theorem rt_same1 {f g : Nat → Int} (h : ∀ d, d < 5 → f d = g d) : stR (rnm 5 []) (rtT1 f) (rtT1 g) = true := by
  have e : eqF 1 5 (fun _ d => f d) (fun _ d => g d) = true := eqF_of fun r _ d hd => h d hd
  simp [stR, rtT1, tmOf, tmR, avR, svR, rIs, rnm, kEq_refl, eqF_refl, hpR, blkR, ndR, e]
theorem rt_same2 {f g : Nat → Int} (h : ∀ d, d < 5 → f d = g d) : stR (rnm 5 []) (rtT2 f) (rtT2 g) = true := by
  have e : eqF 1 5 (fun _ d => f d) (fun _ d => g d) = true := eqF_of fun r _ d hd => h d hd
  simp [stR, rtT2, tmOf, tmR, avR, svR, rIs, rnm, kEq_refl, eqF_refl, hpR, blkR, ndR, e]
  decide
def rtW (u v : Nat → Int) (k : Nat) : St := rtS u v k (lf (rxk (l5 u) (l5 v) k))
def rtCd (u v : Nat → Int) : Bool := bd5 (l5 u) && bd5 (l5 v)
def rtM (u v : Nat → Int) : Nat := bif rok (l5 u) (l5 v) (r5 (rxk (l5 u) (l5 v) 0)) then 0 else bif rok (l5 u) (l5 v) (r5 (rxk (l5 u) (l5 v) 1)) then 1 else 2
def rtFr (u v : Nat → Int) : LF := famA 5 [] (rtW u v 0) (rtCd u v && Nat.ble (rtM u v) 1) .ret (rtT1 (lf (rxk (l5 u) (l5 v) (rtM u v))))
def rtFx (u v : Nat → Int) : LF := famA 5 [] (rtW u v 0) (rtCd u v && Nat.beq (rtM u v) 2) .normal (rtT2 (lf (rxk (l5 u) (l5 v) 2)))
theorem rt_body : f_edwards_root.body.map (bodiesOf 0) = some [.loop rtB] := by kernel_rfl
theorem rt_ok : codeOK prog rtE.env.isW rtB = true := by kernel_rfl
theorem rtCk_law {U V X : List Int} {g : Bool} (hu : bd5 U = true) (hv : bd5 V = true) (hx : bd5 X = true) (hg : rok U V X = g) : rtCk U V X g = [true, true, true] := by
  subst hg
  have h := mR_bd hv (mR_bd hx hx)
  unfold rtCk
  rw [cQ_t hx, cM_t hv (mR_bd hx hx), show bd5 (r5 (mR V (mR X X))) = true from h, show bd5 (r5 U) = true from hu, beq_self_eq_true]; rfl
theorem rt_not (u v : Nat → Int) (k : Nat) (hk : k < rtM u v) : rok (l5 u) (l5 v) (r5 (rxk (l5 u) (l5 v) k)) = false := by
  unfold rtM at hk
  cases h0 : rok (l5 u) (l5 v) (r5 (rxk (l5 u) (l5 v) 0)) with
  | true => rw [h0] at hk; exact absurd hk (Nat.not_lt_zero _)
  | false =>
    rw [h0] at hk
    cases h1 : rok (l5 u) (l5 v) (r5 (rxk (l5 u) (l5 v) 1)) with
    | true =>
      rw [h1] at hk
      obtain rfl : k = 0 := by have : k < 1 := hk; omega
      exact h0
    | false =>
      rw [h1] at hk
      have : k < 2 := hk
      match k, this with
      | 0, _ => exact h0
      | 1, _ => exact h1
theorem rtM_le (u v : Nat → Int) : rtM u v ≤ 2 := by
  unfold rtM
  cases rok (l5 u) (l5 v) (r5 (rxk (l5 u) (l5 v) 0)) <;> cases rok (l5 u) (l5 v) (r5 (rxk (l5 u) (l5 v) 1)) <;> decide
theorem rt_yes (u v : Nat → Int) (h : rtM u v ≤ 1) : rok (l5 u) (l5 v) (r5 (rxk (l5 u) (l5 v) (rtM u v))) = true := by
  unfold rtM at h ⊢
  cases h0 : rok (l5 u) (l5 v) (r5 (rxk (l5 u) (l5 v) 0)) with
  | true => exact h0
  | false =>
    rw [h0] at h
    cases h1 : rok (l5 u) (l5 v) (r5 (rxk (l5 u) (l5 v) 1)) with
    | true => exact h1
    | false => rw [h1] at h; exact absurd h (by decide)
theorem rt_step {u v : Nat → Int} (hu : bd5 (l5 u) = true) (hv : bd5 (l5 v) = true) (k : Nat) (hk : k < rtM u v) : ∃ s1 r, am rtE.env 5 rtB (rtW u v k) = some (.normal, s1) ∧ StLeR r s1 (rtW u v (k + 1)) ∧ ∀ i, i < 5 → r i = some i := by
  have hm := rtM_le u v
  refine roundR_toR (rt_round u v k ((k + 1 : Nat) : Int) (lf (rxk (l5 u) (l5 v) k)) (lf (rxk (l5 u) (l5 v) (k + 1)))) ?_
  refine and_t.2 ⟨?_, rt_same ((wr_i64 (by omega) (by omega)).trans (by omega)) fun d _ => rfl⟩
  have hx : bd5 (r5 (rxk (l5 u) (l5 v) k)) = true := rxk_bd hu hv k
  rw [show l5 (lf (rxk (l5 u) (l5 v) k)) = r5 (rxk (l5 u) (l5 v) k) from rfl, rtCk_law hu hv hx (rt_not u v k hk), cM_t hx rm_law.1, decide_eq_true (show (k : Int) < 2 by omega)]
  rfl
theorem l_rtr (u v : Nat → Int) : LRow prog f_edwards_root 0 (rtFr u v) := by
  refine LRow.famA (N := 5) (S := rtW u v) (X7.env []) mix (rtM u v) (loop_of rt_body) rt_ok (fun w0 own0 => accOK_none (fun id => rfl) rtB) (fun _ _ => Nat.le_refl _) (Nat.le_refl _) fun hck => ?_
  simp only [Bool.and_eq_true, rtCd, ble_t] at hck
  obtain ⟨⟨hu, hv⟩, hm⟩ := hck
  refine ⟨fun k hk => rt_step hu hv k hk, ?_⟩
  have hx : bd5 (r5 (rxk (l5 u) (l5 v) (rtM u v))) = true := rxk_bd hu hv _
  obtain ⟨s1, r, q1, q2, q3⟩ := roundR_toR (n := 5) (rt_ret u v (rtM u v) (lf (rxk (l5 u) (l5 v) (rtM u v))) (lf (rxk (l5 u) (l5 v) (rtM u v)))) (by
    refine and_t.2 ⟨?_, rt_same1 fun d _ => rfl⟩
    rw [show l5 (lf (rxk (l5 u) (l5 v) (rtM u v))) = r5 (rxk (l5 u) (l5 v) (rtM u v)) from rfl, rtCk_law hu hv hx (rt_yes u v hm), decide_eq_true (show ((rtM u v : Nat) : Int) < 2 by omega)]
    rfl)
  exact ⟨_, s1, r, q1, rfl, q2, q3⟩
theorem l_rtx (u v : Nat → Int) : LRow prog f_edwards_root 0 (rtFx u v) := by
  refine LRow.famA (N := 5) (S := rtW u v) (X7.env []) mix (rtM u v) (loop_of rt_body) rt_ok (fun w0 own0 => accOK_none (fun id => rfl) rtB) (fun _ _ => Nat.le_refl _) (Nat.le_refl _) fun hck => ?_
  simp only [Bool.and_eq_true, rtCd, beq_t] at hck
  obtain ⟨⟨hu, hv⟩, hm⟩ := hck
  refine ⟨fun k hk => rt_step hu hv k hk, ?_⟩
  rw [hm]
  obtain ⟨s1, r, q1, q2, q3⟩ := roundR_toR (n := 5) (rt_exit u v 2 (lf (rxk (l5 u) (l5 v) 2)) (lf (rxk (l5 u) (l5 v) 2))) (by
    refine and_t.2 ⟨rfl, rt_same2 fun d _ => rfl⟩)
  exact ⟨_, s1, r, q1, rfl, q2, q3⟩
def rtCk0 (U V : List Int) : List Bool := [cQ V, cM (mR V V) V, cM U (rv3 V), cQ (rv3 V), cM (mR (rv3 V) (rv3 V)) V, cM U (mR (mR (rv3 V) (rv3 V)) V), bd5 (r5 (rw7 U V)), cM (mR U (rv3 V)) (r5 (e8V (r5 (rw7 U V))))]
theorem c_rtr (u v : Nat → Int) : fnChk prog (envL tt ex7 [] [(0, rtFr u v)]) f_edwards_root = true := by kernel_rfl
theorem c_rtx (u v : Nat → Int) : fnChk prog (envL tt ex7 [] [(0, rtFx u v)]) f_edwards_root = true := by kernel_rfl
theorem k_rtr (u v : Nat → Int) : outP (apFunc (envL tt ex7 [] [(0, rtFr u v)]) [] 5 f_edwards_root [u5 u, u5 v] []) =
    some (ckL (rtCk0 (l5 u) (l5 v) ++ [(rtCd u v && Nat.ble (rtM u v) 1) && stR (rnm 5 []) (rtS u v 0 (lf (rx0 (l5 u) (l5 v)))) (rtW u v 0)]), .tup [u5 (lf (r5 (rxk (l5 u) (l5 v) (rtM u v)))), .sc (.bool true)]) := by kernel_rfl
theorem k_rtx (u v : Nat → Int) : outP (apFunc (envL tt ex7 [] [(0, rtFx u v)]) [] 5 f_edwards_root [u5 u, u5 v] []) =
    some (ckL (rtCk0 (l5 u) (l5 v) ++ [(rtCd u v && Nat.beq (rtM u v) 2) && stR (rnm 5 []) (rtS u v 0 (lf (rx0 (l5 u) (l5 v)))) (rtW u v 0)]), .tup [u5 (lf (r5 (rxk (l5 u) (l5 v) 2))), .sc (.bool false)]) := by kernel_rfl
theorem rtCk0_law {U V : List Int} (hu : bd5 U = true) (hv : bd5 V = true) : rtCk0 U V = List.replicate 8 true := by
  obtain ⟨h3, h7, hx⟩ := rx0_bd hu hv
  unfold rtCk0
  rw [cQ_t hv, cM_t (mR_bd hv hv) hv, cM_t hu h3, cQ_t h3, cM_t (mR_bd h3 h3) hv, cM_t hu (mR_bd (mR_bd h3 h3) hv), show bd5 (r5 (rw7 U V)) = true from h7, cM_t (mR_bd hu h3) (b := r5 (e8V (r5 (rw7 U V)))) (e8V_law (a := r5 (rw7 U V)) h7).1]
  rfl
def tRoot : TF := fun args => match args with
  | [.agg [.ints .u64 5 u], .agg [.ints .u64 5 v]] => some (rtCd u v, .tup [u5 (lf (r5 (rxk (l5 u) (l5 v) (rtM u v)))), .sc (.bool (Nat.ble (rtM u v) 1))])
  | _ => none
theorem r_root : TRow prog F_edwards_root tRoot := by
  intro args r h
  unfold tRoot at h
  split at h
  case h_2 => simp at h
  rename_i u v
  simp only [Option.some.injEq, Prod.mk.injEq] at h
  obtain ⟨hc, rfl⟩ := h
  have hc' := hc
  simp only [Bool.and_eq_true, rtCd] at hc'
  obtain ⟨hu, hv⟩ := hc'
  have hs : stR (rnm 5 []) (rtS u v 0 (lf (rx0 (l5 u) (l5 v)))) (rtW u v 0) = true := rt_same rfl fun d _ => rfl
  have hm := rtM_le u v
  by_cases e : rtM u v ≤ 1
  · refine pure_of_outL X7 at_edwards_root (LsOK.nil.cons (l_rtr u v)) (c_rtr u v) (N := 5) (gs := []) ?_
    have k := k_rtr u v
    have hb : Nat.ble (rtM u v) 1 = true := Nat.ble_eq_true_of_le e
    rw [rtCk0_law hu hv, hc, hb, hs] at k
    rw [hb]
    exact k
  · have e2 : rtM u v = 2 := by omega
    refine pure_of_outL X7 at_edwards_root (LsOK.nil.cons (l_rtx u v)) (c_rtx u v) (N := 5) (gs := []) ?_
    have k := k_rtx u v
    rw [rtCk0_law hu hv, hc, e2, hs] at k
    rw [e2]
    exact k
noncomputable def ex8 : List (Nat × TF) := (F_edwards_root, tRoot) :: ex7
theorem X8 : LibOK prog tt ex8 [] := X7.addT r_root
end Go.Proofs.YtjebjiakggmjhaaGreat
