/-
  The small example: the base point's order, reckoned outright.
-/
import Derived.Test.YtgjnfabhjbadoabDa
namespace Go.Proofs.Ytgjnfabhjbadoab
open Go.Proofs.Try
open Go Go.AM
theorem e_prime : cT (envP tt td19 []) 600 f_edwards_IsPrime [u8s 32 (lf baseL)] = some (true, .tup [.sc (.bool true), .sc (.int .i64 0)]) := by kernel_rfl
end Go.Proofs.Ytgjnfabhjbadoab
