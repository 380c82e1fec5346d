/-
  Texts of the claim: DWk4.
-/
import Derived.Test.YtjebjiakggmjhaaGreatCa
import Derived.Test.YtjebjiakggmjhaaGreatCb
namespace Go.Proofs.YtjebjiakggmjhaaGreat
open Go.Proofs.Tryz
open Go Go.AM
theorem cT_pure {P : Program} {tt : TT} {ts : List (Nat × TF)} {ws : List (Nat × WF)} (L : LibOK P tt ts ws) {f : FuncId} {fn : Func} (hf : P.funcs[f]? = some fn) {N : Nat} (hc : fnChk P (envP tt ts ws) fn = true) {args : List AV} {r : AV} (h : cT (envP tt ts ws) N fn args = some (true, r)) : Pure P f args r := cT_row L hf N hc args r h
noncomputable def tw0 : List (Nat × TF) := (F_edwards_MulBase, kT .u8 32 oneL (u8s 32 (lf baseL))) :: (F_edwards_IsPrime, kT .u8 32 baseL (.tup [.sc (.bool true), .sc (.int .i64 0)])) :: (F_edwards_Identity, k0T (u8s 32 (lf oneL))) ::
  (F_edwards_Check, orT (kT .u8 32 baseL (.sc (.int .i64 0))) (kT .u8 32 oneL (.sc (.int .i64 0)))) :: te16
theorem W0 : LibOK prog tt tw0 we11 :=
  (((Q16.addT (TRow.orT (TRow.kT (cT_pure O16 at_edwards_Check (by kernel_rfl) e_check1)) (TRow.kT (cT_pure O16 at_edwards_Check (by kernel_rfl) e_check2)))).addT
    (TRow.k0T (cT_pure O17 at_edwards_Identity (by kernel_rfl) e_ident))).addT
    (TRow.kT (cT_pure O19 at_edwards_IsPrime (by kernel_rfl) e_prime))).addT (TRow.kT (cT_pure O20 at_edwards_MulBase (by kernel_rfl) e_mulBase))
noncomputable def tw1 : List (Nat × TF) := (F_suite_Exp, cT (envP tt tw0 we11) 600 f_suite_Exp) :: tw0
theorem W1 : LibOK prog tt tw1 we11 := W0.cT at_suite_Exp 600 (by kernel_rfl)
noncomputable def tw2 : List (Nat × TF) := (F_suite_group, cT (envP tt tw1 we11) 600 f_suite_group) :: tw1
theorem W2 : LibOK prog tt tw2 we11 := W1.cT at_suite_group 600 (by kernel_rfl)
noncomputable def tw3 : List (Nat × TF) := (F_suite_GetElement, cT (envP tt tw2 we11) 600 f_suite_GetElement) :: tw2
theorem W3 : LibOK prog tt tw3 we11 := W2.cT at_suite_GetElement 600 (by kernel_rfl)
noncomputable def tw4 : List (Nat × TF) := (F_rimelaw06_num, cT (envP tt tw3 we11) 600 f_rimelaw06_num) :: tw3
theorem W4 : LibOK prog tt tw4 we11 := W3.cT at_rimelaw06_num 600 (by kernel_rfl)
theorem e_works : cT (envP tt tw4 we11) 600 f_rimelaw06_works [] = some (true, .sc (.bool true)) := by kernel_rfl
theorem r_works : TRow prog F_rimelaw06_works (k0T (.sc (.bool true))) := TRow.k0T (cT_pure W4 at_rimelaw06_works (by kernel_rfl) e_works)
end Go.Proofs.YtjebjiakggmjhaaGreat
