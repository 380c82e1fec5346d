/-
  Texts of the claim: DWk3.
-/
import Derived.Test.YtjebjiakggmjhaaGreatBf
namespace Go.Proofs.YtjebjiakggmjhaaGreat
open Go.Proofs.Tryz
open Go Go.AM
theorem e_mulBase : cT (envP tt td20 []) 600 f_edwards_MulBase [u8s 32 (lf oneL)] = some (true, u8s 32 (lf baseL)) := by kernel_rfl
end Go.Proofs.YtjebjiakggmjhaaGreat
