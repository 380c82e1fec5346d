/-
  Texts of the claim: DWk1.
-/
import Derived.Test.YtjebjiakggmjhaaGreatAd
import Derived.Test.YtjebjiakggmjhaaGreatBe
namespace Go.Proofs.YtjebjiakggmjhaaGreat
open Go.Proofs.Tryz
open Go Go.AM
def oneL : List Int := 1 :: List.replicate 31 0
def baseL : List Int := 88 :: List.replicate 31 102
theorem e_check1 : cT (envP tt td16 []) 600 f_edwards_Check [u8s 32 (lf baseL)] = some (true, .sc (.int .i64 0)) := by kernel_rfl
theorem e_check2 : cT (envP tt td16 []) 600 f_edwards_Check [u8s 32 (lf oneL)] = some (true, .sc (.int .i64 0)) := by kernel_rfl
theorem e_ident : cT (envP tt td17 []) 600 f_edwards_Identity [] = some (true, u8s 32 (lf oneL)) := by kernel_rfl
end Go.Proofs.YtjebjiakggmjhaaGreat
