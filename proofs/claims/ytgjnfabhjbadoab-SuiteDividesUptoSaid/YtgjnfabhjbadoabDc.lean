/-
  The small example: once the base point, reckoned outright.
-/
import Derived.Test.YtgjnfabhjbadoabDa
namespace Go.Proofs.Ytgjnfabhjbadoab
open Go.Proofs.Try
open Go Go.AM
theorem e_mulBase : cT (envP tt td20 []) 600 f_edwards_MulBase [u8s 32 (lf oneL)] = some (true, u8s 32 (lf baseL)) := by kernel_rfl
end Go.Proofs.Ytgjnfabhjbadoab
