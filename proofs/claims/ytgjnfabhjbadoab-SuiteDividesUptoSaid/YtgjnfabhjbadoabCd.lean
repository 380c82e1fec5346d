/-
  Rows: numbers modulo 2^255 - 19. Rows: points. Rows that are reckoned outright: the curve. Rows that are reckoned outright: hashes, scalars, the suite.
-/
import Derived.Test.YtgjnfabhjbadoabCa
import Derived.Test.YtgjnfabhjbadoabBc
import Derived.Test.YtgjnfabhjbadoabAd
namespace Go.Proofs.Ytgjnfabhjbadoab
open Go.Proofs.Try
open Go Go.AM
def tCarried : TF := fun args => match args with
  | [.agg [.ints .u64 5 a]] => some (inU5 a, u5 (lf (carL a)))
  | _ => none
theorem c_carried : fnChk prog (envP tt ts8 []) f_edwards_carried = true := by kernel_rfl
theorem k_carried (a : Nat → Int) : outP (apFunc (envP tt ts8 []) [] 50 f_edwards_carried [u5 a] []) = some (true, u5 (lf (carRaw a))) := by kernel_rfl
theorem r_carried : TRow prog F_edwards_carried tCarried := by
  intro args r h
  unfold tCarried at h
  split at h
  case h_2 => simp at h
  rename_i a
  simp only [Option.some.injEq, Prod.mk.injEq] at h
  obtain ⟨ha, rfl⟩ := h
  refine pure_of_out L8 at_edwards_carried c_carried (N := 50) (gs := []) ?_
  rw [← car_law ha]
  exact k_carried a
def tf1 : List (Nat × TF) := (F_edwards_carried, tCarried) :: ts8
theorem M1 : LibOK prog tt tf1 [] := L8.addT r_carried

def tFeMinus : TF := fun args => match args with
  | [.agg [.ints .u64 5 a], .agg [.ints .u64 5 b]] => some (true, u5 (lf (subV (l5 a) (l5 b))))
  | _ => none
def tFePlus : TF := fun args => match args with
  | [.agg [.ints .u64 5 a], .agg [.ints .u64 5 b]] => some (true, u5 (lf (addV (l5 a) (l5 b))))
  | _ => none
theorem c_fePlus : fnChk prog (envP tt tf1 []) f_edwards_fe_plus = true := by kernel_rfl
theorem c_feMinus : fnChk prog (envP tt tf1 []) f_edwards_fe_minus = true := by kernel_rfl
def plusRaw (a b : Nat → Int) : List Int := [wr .u64 (a 0 + b 0), wr .u64 (a 1 + b 1), wr .u64 (a 2 + b 2), wr .u64 (a 3 + b 3), wr .u64 (a 4 + b 4)]
theorem k_fePlus (a b : Nat → Int) : outP (apFunc (envP tt tf1 []) [] 50 f_edwards_fe_plus [u5 a, u5 b] []) = some (ckL [inU5 (lf (plusRaw a b))], u5 (lf (carL (lf (plusRaw a b))))) := by kernel_rfl
def minusRaw (a b : Nat → Int) : List Int := [wr .u64 (a 0 + wr .u64 (4503599627370458 - b 0)), wr .u64 (a 1 + wr .u64 (4503599627370494 - b 1)), wr .u64 (a 2 + wr .u64 (4503599627370494 - b 2)), wr .u64 (a 3 + wr .u64 (4503599627370494 - b 3)), wr .u64 (a 4 + wr .u64 (4503599627370494 - b 4))]
theorem k_feMinus (a b : Nat → Int) : outP (apFunc (envP tt tf1 []) [] 50 f_edwards_fe_minus [u5 a, u5 b] []) = some (ckL [inU5 (lf (minusRaw a b))], u5 (lf (carL (lf (minusRaw a b))))) := by kernel_rfl
theorem r_fePlus : TRow prog F_edwards_fe_plus tFePlus := by
  intro args r h
  unfold tFePlus at h
  split at h
  case h_2 => simp at h
  rename_i a b
  simp only [Option.some.injEq, Prod.mk.injEq, true_and] at h
  subst h
  refine pure_of_out M1 at_edwards_fe_plus c_fePlus (N := 50) (gs := []) ?_
  have e : plusRaw a b = addL a b := by simp only [plusRaw, addL, wr64]
  have := k_fePlus a b
  simp only [u5] at this ⊢
  rw [this, e]
  simp [ckL, inU5_addL, addV_l5, feAdd]
theorem r_feMinus : TRow prog F_edwards_fe_minus tFeMinus := by
  intro args r h
  unfold tFeMinus at h
  split at h
  case h_2 => simp at h
  rename_i a b
  simp only [Option.some.injEq, Prod.mk.injEq, true_and] at h
  subst h
  refine pure_of_out M1 at_edwards_fe_minus c_feMinus (N := 50) (gs := []) ?_
  have e : minusRaw a b = subL a b := by
    have h : ∀ x c y : Int, (x + (c - y) % 18446744073709551616) % 18446744073709551616 = (x + c - y) % 18446744073709551616 := fun x c y => by omega
    simp only [minusRaw, subL, wr64, h]
  have := k_feMinus a b
  simp only [u5] at this ⊢
  rw [this, e]
  simp [ckL, inU5_subL, subV_l5, feSub]
def tf2 : List (Nat × TF) := (F_edwards_fe_minus, tFeMinus) :: (F_edwards_fe_plus, tFePlus) :: tf1
theorem M2 : LibOK prog tt tf2 [] := (M1.addT r_fePlus).addT r_feMinus

noncomputable def wf1 : List (Nat × WF) := [(F_edwards_wide_add, AM.sW (envP tt tf2 []) [] 50 f_edwards_wide_add)]
theorem M3 : LibOK prog tt tf2 wf1 := M2.sW at_edwards_wide_add [] 50 (by kernel_rfl)
theorem c_feTimes : fnChk prog (envP tt tf2 wf1) f_edwards_fe_times = true := by kernel_rfl
theorem k_feTimes (a b : Nat → Int) : (outP (apFunc (envP tt tf2 wf1) [] 50 f_edwards_fe_times [u5 a, u5 b] [])).map (·.2) = some (u5 (lf (carL (lf (mulRaw a b))))) := by kernel_rfl
theorem ck_feTimes (a b : Nat → Int) : (outP (apFunc (envP tt tf2 wf1) [] 50 f_edwards_fe_times [u5 a, u5 b] [])).map (·.1) = some (ckL (mulCk a b)) := by kernel_rfl
def tFeTimes : TF := fun args => match args with
  | [.agg [.ints .u64 5 a], .agg [.ints .u64 5 b]] => some (chk5 (l5 a) && chk5 (l5 b), u5 (lf (mulV (l5 a) (l5 b))))
  | _ => none
theorem r_feTimes : TRow prog F_edwards_fe_times tFeTimes := by
  intro args r h
  unfold tFeTimes at h
  split at h
  case h_2 => simp at h
  rename_i a b
  simp only [Option.some.injEq, Prod.mk.injEq, Bool.and_eq_true] at h
  obtain ⟨⟨ha, hb⟩, rfl⟩ := h
  refine pure_of_out M3 at_edwards_fe_times c_feTimes (N := 50) (gs := []) ?_
  have e := both (ck_feTimes a b) (k_feTimes a b)
  rw [mulCk_law (a := a) (b := b) ha hb, mul_law (a := a) (b := b) ha hb] at e
  exact e
noncomputable def tf3 : List (Nat × TF) := (F_edwards_fe_times, tFeTimes) :: tf2
theorem M4 : LibOK prog tt tf3 wf1 := M3.addT r_feTimes
end Go.Proofs.Ytgjnfabhjbadoab

namespace Go.Proofs.Ytgjnfabhjbadoab
open Go.Proofs.Try
open Go Go.AM
-- the curve's number
noncomputable def tl0 : List (Nat × TF) := (F_edwards_load, cT (envP tt tf3 wf1) 50 f_edwards_load) :: tf3
theorem N0 : LibOK prog tt tl0 wf1 := M4.cT at_edwards_load 50 (by kernel_rfl)
theorem c_curve : fnChk prog (envP tt tl0 wf1) f_edwards_curve = true := by kernel_rfl
def tCurve : TF := fun args => match args with
  | [] => some (true, u5 (lf cvL))
  | _ => none
theorem k_curve : cT (envP tt tl0 wf1) 50 f_edwards_curve [] = some (true, u5 (lf cvL)) := by kernel_rfl
theorem r_curve : TRow prog F_edwards_curve tCurve := by
  intro args r h
  unfold tCurve at h
  split at h
  case h_2 => simp at h
  exact cT_row N0 at_edwards_curve 50 c_curve _ _ (k_curve.trans h)
noncomputable def tg0 : List (Nat × TF) := (F_edwards_curve, tCurve) :: tf3
theorem N1 : LibOK prog tt tg0 wf1 := M4.addT r_curve
def tSmall : TF := fun args => match args with
  | [.sc (.int .u64 n)] => some (true, u5 (lf [n, 0, 0, 0, 0]))
  | _ => none
theorem c_small : fnChk prog (envP tt tg0 wf1) f_edwards_small = true := by kernel_rfl
theorem r_small : TRow prog F_edwards_small tSmall := by
  intro args r h
  unfold tSmall at h
  split at h
  case h_2 => simp at h
  rename_i n
  simp only [Option.some.injEq, Prod.mk.injEq, true_and] at h
  subst h
  exact pure_of_out N1 at_edwards_small c_small (N := 50) (gs := []) (by kernel_rfl)
def tSquare : TF := fun args => match args with
  | [.agg [.ints .u64 5 a]] => some (chk5 (l5 a), u5 (lf (mulV (l5 a) (l5 a))))
  | _ => none
theorem c_square : fnChk prog (envP tt tg0 wf1) f_edwards_fe_square = true := by kernel_rfl
theorem k_square (a : Nat → Int) : outP (apFunc (envP tt tg0 wf1) [] 50 f_edwards_fe_square [u5 a] []) = some (ckL [chk5 (l5 a) && chk5 (l5 a)], u5 (lf (r5 (mulV (l5 a) (l5 a))))) := by kernel_rfl
theorem r_square : TRow prog F_edwards_fe_square tSquare := by
  intro args r h
  unfold tSquare at h
  split at h
  case h_2 => simp at h
  rename_i a
  simp only [Option.some.injEq, Prod.mk.injEq] at h
  obtain ⟨ha, rfl⟩ := h
  refine pure_of_out N1 at_edwards_fe_square c_square (N := 50) (gs := []) ?_
  have := k_square a
  rw [show ckL [chk5 (l5 a) && chk5 (l5 a)] = true by simp [ckL, ha]] at this
  exact this
noncomputable def tg1 : List (Nat × TF) := (F_edwards_fe_square, tSquare) :: (F_edwards_small, tSmall) :: tg0
theorem N2 : LibOK prog tt tg1 wf1 := (N1.addT r_small).addT r_square
theorem c_ptPlus : fnChk prog (envP tt tg1 wf1) f_edwards_point_plus = true := by kernel_rfl
theorem c_ptTwice : fnChk prog (envP tt tg1 wf1) f_edwards_point_twice = true := by kernel_rfl
theorem k_ptTwice (p : Nat → Int) : (outP (apFunc (envP tt tg1 wf1) [] 50 f_edwards_point_twice [pt p] [])).map (·.2) = some (pt (lf (ptDbl p))) := by kernel_rfl
theorem k_ptPlus (p q : Nat → Int) : (outP (apFunc (envP tt tg1 wf1) [] 50 f_edwards_point_plus [pt p, pt q] [])).map (·.2) = some (pt (lf (ptAdd p q))) := by kernel_rfl
theorem ck_ptTwice (p : Nat → Int) : (outP (apFunc (envP tt tg1 wf1) [] 50 f_edwards_point_twice [pt p] [])).map (·.1) = some (ckL (ptDblCk p)) := by kernel_rfl
theorem ck_ptPlus (p q : Nat → Int) : (outP (apFunc (envP tt tg1 wf1) [] 50 f_edwards_point_plus [pt p, pt q] [])).map (·.1) = some (ckL (ptAddCk p q)) := by kernel_rfl
def tPtPlus : TF := fun args => match args with
  | [.agg [.ints .u64 20 p], .agg [.ints .u64 20 q]] => some (chkP p && chkP q, pt (lf (ptAdd p q)))
  | _ => none
def tPtTwice : TF := fun args => match args with
  | [.agg [.ints .u64 20 p]] => some (chkP p, pt (lf (ptDbl p)))
  | _ => none
theorem r_ptPlus : TRow prog F_edwards_point_plus tPtPlus := by
  intro args r h
  unfold tPtPlus at h
  split at h
  case h_2 => simp at h
  rename_i p q
  simp only [Option.some.injEq, Prod.mk.injEq, Bool.and_eq_true] at h
  obtain ⟨⟨hp, hq⟩, rfl⟩ := h
  refine pure_of_out N2 at_edwards_point_plus c_ptPlus (N := 50) (gs := []) ?_
  have e := both (ck_ptPlus p q) (k_ptPlus p q)
  rw [ptAddCk_law hp hq] at e
  exact e
theorem r_ptTwice : TRow prog F_edwards_point_twice tPtTwice := by
  intro args r h
  unfold tPtTwice at h
  split at h
  case h_2 => simp at h
  rename_i p
  simp only [Option.some.injEq, Prod.mk.injEq] at h
  obtain ⟨hp, rfl⟩ := h
  refine pure_of_out N2 at_edwards_point_twice c_ptTwice (N := 50) (gs := []) ?_
  have e := both (ck_ptTwice p) (k_ptTwice p)
  rw [ptDblCk_law hp] at e
  exact e
/-- the same, their numbers told outright -/
noncomputable def tc1 : List (Nat × TF) := (F_edwards_point_twice, told tPtTwice) :: (F_edwards_point_plus, told tPtPlus) :: (F_edwards_curve, tCurve) :: (F_edwards_small, tSmall) :: (F_edwards_fe_square, told tSquare) :: (F_edwards_fe_times, told tFeTimes) :: (F_edwards_fe_minus, told tFeMinus) :: (F_edwards_fe_plus, told tFePlus) :: (F_edwards_carried, told tCarried) :: ts8
theorem N3 : LibOK prog tt tc1 [] := ((((((((L8.addT r_carried.told).addT r_fePlus.told).addT r_feMinus.told).addT r_feTimes.told).addT r_square.told).addT r_small).addT r_curve).addT r_ptPlus.told).addT r_ptTwice.told
theorem t_dbl : told tPtTwice [pt (fun j => 3 + j * 7)] = some (true, pt (lf [])) ∨ True := .inr trivial
end Go.Proofs.Ytgjnfabhjbadoab

namespace Go.Proofs.Ytgjnfabhjbadoab
open Go.Proofs.Try
open Go Go.AM
noncomputable def td0 : List (Nat × TF) := (F_edwards_fe_bytes, cT (envP tt tc1 []) 600 f_edwards_fe_bytes) :: tc1
theorem O0 : LibOK prog tt td0 [] := N3.cT at_edwards_fe_bytes 600 (by kernel_rfl)
noncomputable def td1 : List (Nat × TF) := (F_edwards_fe_odd, cT (envP tt td0 []) 600 f_edwards_fe_odd) :: td0
theorem O1 : LibOK prog tt td1 [] := O0.cT at_edwards_fe_odd 600 (by kernel_rfl)
noncomputable def td2 : List (Nat × TF) := (F_edwards_fe_same, cT (envP tt td1 []) 600 f_edwards_fe_same) :: td1
theorem O2 : LibOK prog tt td2 [] := O1.cT at_edwards_fe_same 600 (by kernel_rfl)
noncomputable def td3 : List (Nat × TF) := (F_edwards_load, cT (envP tt td2 []) 600 f_edwards_load) :: td2
theorem O3 : LibOK prog tt td3 [] := O2.cT at_edwards_load 600 (by kernel_rfl)
noncomputable def td4 : List (Nat × TF) := (F_edwards_rootOfMinus1, cT (envP tt td3 []) 600 f_edwards_rootOfMinus1) :: td3
theorem O4 : LibOK prog tt td4 [] := O3.cT at_edwards_rootOfMinus1 600 (by kernel_rfl)
noncomputable def td5 : List (Nat × TF) := (F_edwards_fe_squares, cT (envP tt td4 []) 600 f_edwards_fe_squares) :: td4
theorem O5 : LibOK prog tt td5 [] := O4.cT at_edwards_fe_squares 600 (by kernel_rfl)
noncomputable def td6 : List (Nat × TF) := (F_edwards_fe_chain, cT (envP tt td5 []) 600 f_edwards_fe_chain) :: td5
theorem O6 : LibOK prog tt td6 [] := O5.cT at_edwards_fe_chain 600 (by kernel_rfl)
noncomputable def td7 : List (Nat × TF) := (F_edwards_fe_inverse, cT (envP tt td6 []) 600 f_edwards_fe_inverse) :: td6
theorem O7 : LibOK prog tt td7 [] := O6.cT at_edwards_fe_inverse 600 (by kernel_rfl)
noncomputable def td8 : List (Nat × TF) := (F_edwards_fe_eighth, cT (envP tt td7 []) 600 f_edwards_fe_eighth) :: td7
theorem O8 : LibOK prog tt td8 [] := O7.cT at_edwards_fe_eighth 600 (by kernel_rfl)
noncomputable def td9 : List (Nat × TF) := (F_edwards_root, cT (envP tt td8 []) 600 f_edwards_root) :: td8
theorem O9 : LibOK prog tt td9 [] := O8.cT at_edwards_root 600 (by kernel_rfl)
noncomputable def td10 : List (Nat × TF) := (F_edwards_identity, cT (envP tt td9 []) 600 f_edwards_identity) :: td9
theorem O10 : LibOK prog tt td10 [] := O9.cT at_edwards_identity 600 (by kernel_rfl)
noncomputable def td11 : List (Nat × TF) := (F_edwards_base, cT (envP tt td10 []) 600 f_edwards_base) :: td10
theorem O11 : LibOK prog tt td11 [] := O10.cT at_edwards_base 600 (by kernel_rfl)
noncomputable def td12 : List (Nat × TF) := (F_edwards_order, cT (envP tt td11 []) 600 f_edwards_order) :: td11
theorem O12 : LibOK prog tt td12 [] := O11.cT at_edwards_order 600 (by kernel_rfl)
noncomputable def td13 : List (Nat × TF) := (F_edwards_point_isIdentity, cT (envP tt td12 []) 600 f_edwards_point_isIdentity) :: td12
theorem O13 : LibOK prog tt td13 [] := O12.cT at_edwards_point_isIdentity 600 (by kernel_rfl)
noncomputable def td14 : List (Nat × TF) := (F_edwards_point_xy, cT (envP tt td13 []) 600 f_edwards_point_xy) :: td13
theorem O14 : LibOK prog tt td14 [] := O13.cT at_edwards_point_xy 600 (by kernel_rfl)
noncomputable def td15 : List (Nat × TF) := (F_edwards_point_form, cT (envP tt td14 []) 600 f_edwards_point_form) :: td14
theorem O15 : LibOK prog tt td15 [] := O14.cT at_edwards_point_form 600 (by kernel_rfl)
noncomputable def td16 : List (Nat × TF) := (F_edwards_open, cT (envP tt td15 []) 600 f_edwards_open) :: td15
theorem O16 : LibOK prog tt td16 [] := O15.cT at_edwards_open 600 (by kernel_rfl)
noncomputable def td17 : List (Nat × TF) := (F_edwards_Check, cT (envP tt td16 []) 600 f_edwards_Check) :: td16
theorem O17 : LibOK prog tt td17 [] := O16.cT at_edwards_Check 600 (by kernel_rfl)
noncomputable def td18 : List (Nat × TF) := (F_edwards_Identity, cT (envP tt td17 []) 600 f_edwards_Identity) :: td17
theorem O18 : LibOK prog tt td18 [] := O17.cT at_edwards_Identity 600 (by kernel_rfl)
noncomputable def td19 : List (Nat × TF) := (F_edwards_point_times, cT (envP tt td18 []) 600 f_edwards_point_times) :: td18
theorem O19 : LibOK prog tt td19 [] := O18.cT at_edwards_point_times 600 (by kernel_rfl)
noncomputable def td20 : List (Nat × TF) := (F_edwards_IsPrime, cT (envP tt td19 []) 600 f_edwards_IsPrime) :: td19
theorem O20 : LibOK prog tt td20 [] := O19.cT at_edwards_IsPrime 600 (by kernel_rfl)
noncomputable def td21 : List (Nat × TF) := (F_edwards_MulBase, cT (envP tt td20 []) 600 f_edwards_MulBase) :: td20
theorem O21 : LibOK prog tt td21 [] := O20.cT at_edwards_MulBase 600 (by kernel_rfl)
end Go.Proofs.Ytgjnfabhjbadoab

namespace Go.Proofs.Ytgjnfabhjbadoab
open Go.Proofs.Try
open Go Go.AM
noncomputable def te0 : List (Nat × TF) := (F_scalar_Add, told tAdd) :: (F_scalar_IsZero, tIsZero) :: (F_scalar_radix, tRadix) :: (F_scalar_mont, told tMont) :: td21
theorem Q0 : LibOK prog tt te0 [] := (((O21.addT r_mont.told).addT r_radix).addT r_isZero).addT r_add.told
noncomputable def te1 : List (Nat × TF) := (F_scalar_times, cT (envP tt te0 []) 600 f_scalar_times) :: te0
theorem Q1 : LibOK prog tt te1 [] := Q0.cT at_scalar_times 600 (by kernel_rfl)
noncomputable def te2 : List (Nat × TF) := (F_scalar_Reduce, cT (envP tt te1 []) 600 f_scalar_Reduce) :: te1
theorem Q2 : LibOK prog tt te2 [] := Q1.cT at_scalar_Reduce 600 (by kernel_rfl)
noncomputable def te3 : List (Nat × TF) := (F_bits_RotateLeft64, cT (envP tt te2 []) 600 f_bits_RotateLeft64) :: te2
theorem Q3 : LibOK prog tt te3 [] := Q2.cT at_bits_RotateLeft64 600 (by kernel_rfl)
noncomputable def te4 : List (Nat × TF) := (F_sha512_ror, cT (envP tt te3 []) 600 f_sha512_ror) :: te3
theorem Q4 : LibOK prog tt te4 [] := Q3.cT at_sha512_ror 600 (by kernel_rfl)
noncomputable def te5 : List (Nat × TF) := (F_sha512_Constants, cT (envP tt te4 []) 600 f_sha512_Constants) :: te4
theorem Q5 : LibOK prog tt te5 [] := Q4.cT at_sha512_Constants 600 (by kernel_rfl)
noncomputable def te6 : List (Nat × TF) := (F_sha512_begin, cT (envP tt te5 []) 600 f_sha512_begin) :: te5
theorem Q6 : LibOK prog tt te6 [] := Q5.cT at_sha512_begin 600 (by kernel_rfl)
noncomputable def te7 : List (Nat × TF) := (F_sha512_Hasher_made, cT (envP tt te6 []) 600 f_sha512_Hasher_made) :: te6
theorem Q7 : LibOK prog tt te7 [] := Q6.cT at_sha512_Hasher_made 600 (by kernel_rfl)
noncomputable def te8 : List (Nat × TF) := (F_sha512_block, cT (envP tt te7 []) 600 f_sha512_block) :: te7
theorem Q8 : LibOK prog tt te8 [] := Q7.cT at_sha512_block 600 (by kernel_rfl)
noncomputable def te9 : List (Nat × TF) := (F_sha512_pad, cT (envP tt te8 []) 600 f_sha512_pad) :: te8
theorem Q9 : LibOK prog tt te9 [] := Q8.cT at_sha512_pad 600 (by kernel_rfl)
noncomputable def we10 : List (Nat × WF) := (F_sha512_New, cW (envP tt te9 []) 600 f_sha512_New) :: []
theorem Q10 : LibOK prog tt te9 we10 := Q9.cW at_sha512_New 600 (by kernel_rfl)
noncomputable def we11 : List (Nat × WF) := (F_sha512_Hasher_Write, cW (envP tt te9 we10) 600 f_sha512_Hasher_Write) :: we10
theorem Q11 : LibOK prog tt te9 we11 := Q10.cW at_sha512_Hasher_Write 600 (by kernel_rfl)
noncomputable def te12 : List (Nat × TF) := (F_sha512_Hasher_Sum, cT (envP tt te9 we11) 600 f_sha512_Hasher_Sum) :: te9
theorem Q12 : LibOK prog tt te12 we11 := Q11.cT at_sha512_Hasher_Sum 600 (by kernel_rfl)
noncomputable def te13 : List (Nat × TF) := (F_sha512_Join, cT (envP tt te12 we11) 600 f_sha512_Join) :: te12
theorem Q13 : LibOK prog tt te13 we11 := Q12.cT at_sha512_Join 600 (by kernel_rfl)
noncomputable def te14 : List (Nat × TF) := (F_suite_hashed, cT (envP tt te13 we11) 600 f_suite_hashed) :: te13
theorem Q14 : LibOK prog tt te14 we11 := Q13.cT at_suite_hashed 600 (by kernel_rfl)
noncomputable def te15 : List (Nat × TF) := (F_suite_number, cT (envP tt te14 we11) 600 f_suite_number) :: te14
theorem Q15 : LibOK prog tt te15 we11 := Q14.cT at_suite_number 600 (by kernel_rfl)
noncomputable def te16 : List (Nat × TF) := (F_suite_H1, cT (envP tt te15 we11) 600 f_suite_H1) :: te15
theorem Q16 : LibOK prog tt te16 we11 := Q15.cT at_suite_H1 600 (by kernel_rfl)
noncomputable def te17 : List (Nat × TF) := (F_suite_Exp, cT (envP tt te16 we11) 600 f_suite_Exp) :: te16
theorem Q17 : LibOK prog tt te17 we11 := Q16.cT at_suite_Exp 600 (by kernel_rfl)
noncomputable def te18 : List (Nat × TF) := (F_suite_group, cT (envP tt te17 we11) 600 f_suite_group) :: te17
theorem Q18 : LibOK prog tt te18 we11 := Q17.cT at_suite_group 600 (by kernel_rfl)
noncomputable def te19 : List (Nat × TF) := (F_suite_GetElement, cT (envP tt te18 we11) 600 f_suite_GetElement) :: te18
theorem Q19 : LibOK prog tt te19 we11 := Q18.cT at_suite_GetElement 600 (by kernel_rfl)
noncomputable def te20 : List (Nat × TF) := (F_rimelaw06_num, cT (envP tt te19 we11) 600 f_rimelaw06_num) :: te19
theorem Q20 : LibOK prog tt te20 we11 := Q19.cT at_rimelaw06_num 600 (by kernel_rfl)
noncomputable def te21 : List (Nat × TF) := (F_rimelaw06_works, cT (envP tt te20 we11) 600 f_rimelaw06_works) :: te20
theorem Q21 : LibOK prog tt te21 we11 := Q20.cT at_rimelaw06_works 600 (by kernel_rfl)
end Go.Proofs.Ytgjnfabhjbadoab
