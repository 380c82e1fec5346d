/-
  Texts of the claim: DWk2.
-/
import Derived.Test.YtjebjiakggmjhaaGreatBf
namespace Go.Proofs.YtjebjiakggmjhaaGreat
open Go.Proofs.Tryz
open Go Go.AM
theorem e_prime : cT (envP tt td19 []) 600 f_edwards_IsPrime [u8s 32 (lf baseL)] = some (true, .tup [.sc (.bool true), .sc (.int .i64 0)]) := by kernel_rfl
end Go.Proofs.YtjebjiakggmjhaaGreat
