/-
  Rows: numbers modulo 2^255 - 19.
-/
import Derived.Test.YtkifoidhmipacaaGreatCa
import Derived.Test.YtkifoidhmipacaaGreatBa
import Derived.Test.YtkifoidhmipacaaGreatAd
namespace Go.Proofs.YtkifoidhmipacaaGreat
open Go.Proofs.Tryz
open Go Go.AM
def tCarried : TF := fun args => match args with
  | [.agg [.ints .u64 5 a]] => some (inU5 a, u5 (lf (carL a)))
  | _ => none
theorem c_carried : fnChk prog (envP tt ts8 []) f_edwards_carried = true := by kernel_rfl
theorem k_carried (a : Nat → Int) : outP (apFunc (envP tt ts8 []) [] 50 f_edwards_carried [u5 a] []) = some (true, u5 (lf (carRaw a))) := by kernel_rfl
theorem r_carried : TRow prog F_edwards_carried tCarried := by
  intro args r h
  unfold tCarried at h
  split at h
  case h_2 => simp at h
  rename_i a
  simp only [Option.some.injEq, Prod.mk.injEq] at h
  obtain ⟨ha, rfl⟩ := h
  refine pure_of_out L8 at_edwards_carried c_carried (N := 50) (gs := []) ?_
  rw [← car_law ha]
  exact k_carried a
def tf1 : List (Nat × TF) := (F_edwards_carried, tCarried) :: ts8
theorem M1 : LibOK prog tt tf1 [] := L8.addT r_carried

def tFeMinus : TF := fun args => match args with
  | [.agg [.ints .u64 5 a], .agg [.ints .u64 5 b]] => some (true, u5 (lf (subV (l5 a) (l5 b))))
  | _ => none
def tFePlus : TF := fun args => match args with
  | [.agg [.ints .u64 5 a], .agg [.ints .u64 5 b]] => some (true, u5 (lf (addV (l5 a) (l5 b))))
  | _ => none
theorem c_fePlus : fnChk prog (envP tt tf1 []) f_edwards_fe_plus = true := by kernel_rfl
theorem c_feMinus : fnChk prog (envP tt tf1 []) f_edwards_fe_minus = true := by kernel_rfl
def plusRaw (a b : Nat → Int) : List Int := [wr .u64 (a 0 + b 0), wr .u64 (a 1 + b 1), wr .u64 (a 2 + b 2), wr .u64 (a 3 + b 3), wr .u64 (a 4 + b 4)]
theorem k_fePlus (a b : Nat → Int) : outP (apFunc (envP tt tf1 []) [] 50 f_edwards_fe_plus [u5 a, u5 b] []) = some (ckL [inU5 (lf (plusRaw a b))], u5 (lf (carL (lf (plusRaw a b))))) := by kernel_rfl
def minusRaw (a b : Nat → Int) : List Int := [wr .u64 (a 0 + wr .u64 (4503599627370458 - b 0)), wr .u64 (a 1 + wr .u64 (4503599627370494 - b 1)), wr .u64 (a 2 + wr .u64 (4503599627370494 - b 2)), wr .u64 (a 3 + wr .u64 (4503599627370494 - b 3)), wr .u64 (a 4 + wr .u64 (4503599627370494 - b 4))]
theorem k_feMinus (a b : Nat → Int) : outP (apFunc (envP tt tf1 []) [] 50 f_edwards_fe_minus [u5 a, u5 b] []) = some (ckL [inU5 (lf (minusRaw a b))], u5 (lf (carL (lf (minusRaw a b))))) := by kernel_rfl
theorem r_fePlus : TRow prog F_edwards_fe_plus tFePlus := by
  intro args r h
  unfold tFePlus at h
  split at h
  case h_2 => simp at h
  rename_i a b
  simp only [Option.some.injEq, Prod.mk.injEq, true_and] at h
  subst h
  refine pure_of_out M1 at_edwards_fe_plus c_fePlus (N := 50) (gs := []) ?_
  have e : plusRaw a b = addL a b := by simp only [plusRaw, addL, wr64]
  have := k_fePlus a b
  simp only [u5] at this ⊢
  rw [this, e]
  simp [ckL, inU5_addL, addV_l5, feAdd]
theorem r_feMinus : TRow prog F_edwards_fe_minus tFeMinus := by
  intro args r h
  unfold tFeMinus at h
  split at h
  case h_2 => simp at h
  rename_i a b
  simp only [Option.some.injEq, Prod.mk.injEq, true_and] at h
  subst h
  refine pure_of_out M1 at_edwards_fe_minus c_feMinus (N := 50) (gs := []) ?_
  have e : minusRaw a b = subL a b := by
    have h : ∀ x c y : Int, (x + (c - y) % 18446744073709551616) % 18446744073709551616 = (x + c - y) % 18446744073709551616 := fun x c y => by omega
    simp only [minusRaw, subL, wr64, h]
  have := k_feMinus a b
  simp only [u5] at this ⊢
  rw [this, e]
  simp [ckL, inU5_subL, subV_l5, feSub]
def tf2 : List (Nat × TF) := (F_edwards_fe_minus, tFeMinus) :: (F_edwards_fe_plus, tFePlus) :: tf1
theorem M2 : LibOK prog tt tf2 [] := (M1.addT r_fePlus).addT r_feMinus

noncomputable def wf1 : List (Nat × WF) := [(F_edwards_wide_add, AM.sW (envP tt tf2 []) [] 50 f_edwards_wide_add)]
theorem M3 : LibOK prog tt tf2 wf1 := M2.sW at_edwards_wide_add [] 50 (by kernel_rfl)
theorem c_feTimes : fnChk prog (envP tt tf2 wf1) f_edwards_fe_times = true := by kernel_rfl
theorem k_feTimes (a b : Nat → Int) : (outP (apFunc (envP tt tf2 wf1) [] 50 f_edwards_fe_times [u5 a, u5 b] [])).map (·.2) = some (u5 (lf (carL (lf (mulRaw a b))))) := by kernel_rfl
theorem ck_feTimes (a b : Nat → Int) : (outP (apFunc (envP tt tf2 wf1) [] 50 f_edwards_fe_times [u5 a, u5 b] [])).map (·.1) = some (ckL (mulCk a b)) := by kernel_rfl
def tFeTimes : TF := fun args => match args with
  | [.agg [.ints .u64 5 a], .agg [.ints .u64 5 b]] => some (chk5 (l5 a) && chk5 (l5 b), u5 (lf (mulV (l5 a) (l5 b))))
  | _ => none
theorem r_feTimes : TRow prog F_edwards_fe_times tFeTimes := by
  intro args r h
  unfold tFeTimes at h
  split at h
  case h_2 => simp at h
  rename_i a b
  simp only [Option.some.injEq, Prod.mk.injEq, Bool.and_eq_true] at h
  obtain ⟨⟨ha, hb⟩, rfl⟩ := h
  refine pure_of_out M3 at_edwards_fe_times c_feTimes (N := 50) (gs := []) ?_
  have e := both (ck_feTimes a b) (k_feTimes a b)
  rw [mulCk_law (a := a) (b := b) ha hb, mul_law (a := a) (b := b) ha hb] at e
  exact e
noncomputable def tf3 : List (Nat × TF) := (F_edwards_fe_times, tFeTimes) :: tf2
theorem M4 : LibOK prog tt tf3 wf1 := M3.addT r_feTimes
end Go.Proofs.YtkifoidhmipacaaGreat
