/-
  Texts of the claim: Grp Grp2 Am46 Am47 Am48 PrL Am49 Am50.
-/
import Derived.Test.YtjebjiakggmjhaaGreatAe
import Derived.Deep.Slices
namespace Go.AM
open Go
theorem assoc_xi (x1 y1 x2 y2 x3 y3 d : FF) : ((x1 * y2 + x2 * y1) * (1 - (d * x1 * x2 * y1 * y2)) * y3 + x3 * (y1 * y2 + x1 * x2) * (1 + (d * x1 * x2 * y1 * y2))) * (1 - (d * x3 * x2 * y3 * y2) * (d * x3 * x2 * y3 * y2) + d * x1 * y1 * (x3 * y2 + x2 * y3) * (y3 * y2 + x3 * x2)) - ((x3 * y2 + x2 * y3) * (1 - (d * x3 * x2 * y3 * y2)) * y1 + x1 * (y3 * y2 + x3 * x2) * (1 + (d * x3 * x2 * y3 * y2))) * (1 - (d * x1 * x2 * y1 * y2) * (d * x1 * x2 * y1 * y2) + d * x3 * y3 * (x1 * y2 + x2 * y1) * (y1 * y2 + x1 * x2)) = (y1 * x2 * y2 * y2 * y2 * y2 * x3 * x3 * y3 * d + y1 * x2 * x2 * y2 * y2 * y2 * x3 * d + y1 * x2 * x2 * y2 * y2 * y2 * x3 * x3 * x3 * d + y1 * x2 * x2 * x2 * y2 * y2 * y3 * d - y1 * x2 * x2 * x2 * y2 * y2 * y3 * y3 * y3 * d - y1 * x2 * x2 * x2 * y2 * y2 * y2 * y2 * x3 * x3 * y3 * d * d - y1 * x2 * x2 * x2 * x2 * y2 * x3 * y3 * y3 * d - y1 * x2 * x2 * x2 * x2 * y2 * y2 * y2 * x3 * y3 * y3 * d * d - x1 * x2 * y2 * y2 * y2 * y2 * x3 * y3 * y3 * d + x1 * x2 * x2 * y2 * y2 * y2 * y3 * d - x1 * x2 * x2 * y2 * y2 * y2 * y3 * y3 * y3 * d + x1 * x2 * x2 * x2 * y2 * y2 * x3 * d + x1 * x2 * x2 * x2 * y2 * y2 * x3 * x3 * x3 * d + x1 * x2 * x2 * x2 * y2 * y2 * y2 * y2 * x3 * y3 * y3 * d * d + x1 * x2 * x2 * x2 * x2 * y2 * x3 * x3 * y3 * d + x1 * x2 * x2 * x2 * x2 * y2 * y2 * y2 * x3 * x3 * y3 * d * d) * (d * x1 * x1 * y1 * y1 - (y1 * y1 - x1 * x1 - 1)) + (0 - y1 * y2 * x3 + y1 * y2 * x3 * y3 * y3 - y1 * y2 * x3 * x3 * x3 - y1 * y2 * x3 * x3 * x3 * y3 * y3 * d - y1 * x2 * y3 + y1 * x2 * y3 * y3 * y3 - y1 * x2 * x3 * x3 * y3 - y1 * x2 * x3 * x3 * y3 * y3 * y3 * d + y1 * x2 * y2 * y2 * x3 * x3 * y3 * d + y1 * x2 * x2 * y2 * x3 * y3 * y3 * d + y1 * y1 * y1 * y2 * x3 - y1 * y1 * y1 * y2 * x3 * y3 * y3 + y1 * y1 * y1 * y2 * x3 * x3 * x3 + y1 * y1 * y1 * y2 * x3 * x3 * x3 * y3 * y3 * d + y1 * y1 * y1 * x2 * y3 - y1 * y1 * y1 * x2 * y3 * y3 * y3 + y1 * y1 * y1 * x2 * x3 * x3 * y3 + y1 * y1 * y1 * x2 * x3 * x3 * y3 * y3 * y3 * d - y1 * y1 * y1 * x2 * y2 * y2 * x3 * x3 * y3 * d - y1 * y1 * y1 * x2 * x2 * y2 * x3 * y3 * y3 * d - x1 * y2 * y3 + x1 * y2 * y3 * y3 * y3 - x1 * y2 * x3 * x3 * y3 - x1 * y2 * x3 * x3 * y3 * y3 * y3 * d - x1 * x2 * x3 + x1 * x2 * x3 * y3 * y3 - x1 * x2 * x3 * x3 * x3 - x1 * x2 * x3 * x3 * x3 * y3 * y3 * d - x1 * x2 * y2 * y2 * x3 * y3 * y3 * d - x1 * x2 * x2 * y2 * x3 * x3 * y3 * d + x1 * y1 * y1 * x2 * y2 * y2 * x3 * y3 * y3 * d - x1 * y1 * y1 * x2 * y2 * y2 * x3 * x3 * x3 * y3 * y3 * d * d + x1 * y1 * y1 * x2 * x2 * y2 * x3 * x3 * y3 * d + x1 * y1 * y1 * x2 * x2 * y2 * x3 * x3 * y3 * y3 * y3 * d * d + x1 * x1 * y1 * x2 * y2 * y2 * x3 * x3 * y3 * d + x1 * x1 * y1 * x2 * y2 * y2 * x3 * x3 * y3 * y3 * y3 * d * d + x1 * x1 * y1 * x2 * x2 * y2 * x3 * y3 * y3 * d - x1 * x1 * y1 * x2 * x2 * y2 * x3 * x3 * x3 * y3 * y3 * d * d - x1 * x1 * x1 * y2 * y3 + x1 * x1 * x1 * y2 * y3 * y3 * y3 - x1 * x1 * x1 * y2 * x3 * x3 * y3 - x1 * x1 * x1 * y2 * x3 * x3 * y3 * y3 * y3 * d - x1 * x1 * x1 * x2 * x3 + x1 * x1 * x1 * x2 * x3 * y3 * y3 - x1 * x1 * x1 * x2 * x3 * x3 * x3 - x1 * x1 * x1 * x2 * x3 * x3 * x3 * y3 * y3 * d - x1 * x1 * x1 * x2 * y2 * y2 * x3 * y3 * y3 * d - x1 * x1 * x1 * x2 * x2 * y2 * x3 * x3 * y3 * d) * (d * x2 * x2 * y2 * y2 - (y2 * y2 - x2 * x2 - 1)) + (y1 * y2 * x3 - y1 * y2 * y2 * y2 * x3 + y1 * x2 * y3 - y1 * x2 * y2 * y2 * y3 + y1 * x2 * x2 * y2 * x3 + y1 * x2 * x2 * x2 * y3 - y1 * y1 * y1 * y2 * x3 + y1 * y1 * y1 * y2 * y2 * y2 * x3 - y1 * y1 * y1 * x2 * y3 + y1 * y1 * y1 * x2 * y2 * y2 * y3 - y1 * y1 * y1 * x2 * x2 * y2 * x3 - y1 * y1 * y1 * x2 * x2 * x2 * y3 + x1 * y2 * y3 - x1 * y2 * y2 * y2 * y3 + x1 * x2 * x3 - x1 * x2 * y2 * y2 * x3 + x1 * x2 * x2 * y2 * y3 + x1 * x2 * x2 * x2 * x3 + x1 * y1 * y1 * x2 * y2 * y2 * x3 * d - x1 * y1 * y1 * x2 * x2 * y2 * y3 * d + x1 * y1 * y1 * x2 * x2 * y2 * y2 * y2 * y3 * d + x1 * y1 * y1 * x2 * x2 * x2 * y2 * y2 * x3 * d - x1 * x1 * y1 * x2 * y2 * y2 * y3 * d + x1 * x1 * y1 * x2 * x2 * y2 * x3 * d - x1 * x1 * y1 * x2 * x2 * y2 * y2 * y2 * x3 * d - x1 * x1 * y1 * x2 * x2 * x2 * y2 * y2 * y3 * d + x1 * x1 * x1 * y2 * y3 - x1 * x1 * x1 * y2 * y2 * y2 * y3 + x1 * x1 * x1 * x2 * x3 - x1 * x1 * x1 * x2 * y2 * y2 * x3 + x1 * x1 * x1 * x2 * x2 * y2 * y3 + x1 * x1 * x1 * x2 * x2 * x2 * x3) * (d * x3 * x3 * y3 * y3 - (y3 * y3 - x3 * x3 - 1)) := by grind
theorem assoc_x {x1 y1 x2 y2 x3 y3 d : FF} (c1 : y1 * y1 - x1 * x1 = 1 + d * (x1 * x1) * (y1 * y1)) (c2 : y2 * y2 - x2 * x2 = 1 + d * (x2 * x2) * (y2 * y2)) (c3 : y3 * y3 - x3 * x3 = 1 + d * (x3 * x3) * (y3 * y3)) :
    ((x1 * y2 + x2 * y1) * (1 - (d * x1 * x2 * y1 * y2)) * y3 + x3 * (y1 * y2 + x1 * x2) * (1 + (d * x1 * x2 * y1 * y2))) * (1 - (d * x3 * x2 * y3 * y2) * (d * x3 * x2 * y3 * y2) + d * x1 * y1 * (x3 * y2 + x2 * y3) * (y3 * y2 + x3 * x2)) = ((x3 * y2 + x2 * y3) * (1 - (d * x3 * x2 * y3 * y2)) * y1 + x1 * (y3 * y2 + x3 * x2) * (1 + (d * x3 * x2 * y3 * y2))) * (1 - (d * x1 * x2 * y1 * y2) * (d * x1 * x2 * y1 * y2) + d * x3 * y3 * (x1 * y2 + x2 * y1) * (y1 * y2 + x1 * x2)) := by
  have h := assoc_xi x1 y1 x2 y2 x3 y3 d
  have z1 : (d * x1 * x1 * y1 * y1 - (y1 * y1 - x1 * x1 - 1)) = 0 := by grind
  have z2 : (d * x2 * x2 * y2 * y2 - (y2 * y2 - x2 * x2 - 1)) = 0 := by grind
  have z3 : (d * x3 * x3 * y3 * y3 - (y3 * y3 - x3 * x3 - 1)) = 0 := by grind
  rw [z1, z2, z3] at h
  grind
theorem assoc_yi (x1 y1 x2 y2 x3 y3 d : FF) : ((y1 * y2 + x1 * x2) * (1 + (d * x1 * x2 * y1 * y2)) * y3 + (x1 * y2 + x2 * y1) * (1 - (d * x1 * x2 * y1 * y2)) * x3) * (1 - (d * x3 * x2 * y3 * y2) * (d * x3 * x2 * y3 * y2) - d * x1 * y1 * (x3 * y2 + x2 * y3) * (y3 * y2 + x3 * x2)) - ((y3 * y2 + x3 * x2) * (1 + (d * x3 * x2 * y3 * y2)) * y1 + (x3 * y2 + x2 * y3) * (1 - (d * x3 * x2 * y3 * y2)) * x1) * (1 - (d * x1 * x2 * y1 * y2) * (d * x1 * x2 * y1 * y2) - d * x3 * y3 * (x1 * y2 + x2 * y1) * (y1 * y2 + x1 * x2)) = (0 - y1 * x2 * y2 * y2 * y2 * y2 * x3 * y3 * y3 * d + y1 * x2 * x2 * y2 * y2 * y2 * y3 * d - y1 * x2 * x2 * y2 * y2 * y2 * y3 * y3 * y3 * d + y1 * x2 * x2 * x2 * y2 * y2 * x3 * d + y1 * x2 * x2 * x2 * y2 * y2 * x3 * x3 * x3 * d + y1 * x2 * x2 * x2 * y2 * y2 * y2 * y2 * x3 * y3 * y3 * d * d + y1 * x2 * x2 * x2 * x2 * y2 * x3 * x3 * y3 * d + y1 * x2 * x2 * x2 * x2 * y2 * y2 * y2 * x3 * x3 * y3 * d * d + x1 * x2 * y2 * y2 * y2 * y2 * x3 * x3 * y3 * d + x1 * x2 * x2 * y2 * y2 * y2 * x3 * d + x1 * x2 * x2 * y2 * y2 * y2 * x3 * x3 * x3 * d + x1 * x2 * x2 * x2 * y2 * y2 * y3 * d - x1 * x2 * x2 * x2 * y2 * y2 * y3 * y3 * y3 * d - x1 * x2 * x2 * x2 * y2 * y2 * y2 * y2 * x3 * x3 * y3 * d * d - x1 * x2 * x2 * x2 * x2 * y2 * x3 * y3 * y3 * d - x1 * x2 * x2 * x2 * x2 * y2 * y2 * y2 * x3 * y3 * y3 * d * d) * (d * x1 * x1 * y1 * y1 - (y1 * y1 - x1 * x1 - 1)) + (0 - y1 * y2 * y3 + y1 * y2 * y3 * y3 * y3 - y1 * y2 * x3 * x3 * y3 - y1 * y2 * x3 * x3 * y3 * y3 * y3 * d - y1 * x2 * x3 + y1 * x2 * x3 * y3 * y3 - y1 * x2 * x3 * x3 * x3 - y1 * x2 * x3 * x3 * x3 * y3 * y3 * d - y1 * x2 * y2 * y2 * x3 * y3 * y3 * d - y1 * x2 * x2 * y2 * x3 * x3 * y3 * d + y1 * y1 * y1 * y2 * y3 - y1 * y1 * y1 * y2 * y3 * y3 * y3 + y1 * y1 * y1 * y2 * x3 * x3 * y3 + y1 * y1 * y1 * y2 * x3 * x3 * y3 * y3 * y3 * d + y1 * y1 * y1 * x2 * x3 - y1 * y1 * y1 * x2 * x3 * y3 * y3 + y1 * y1 * y1 * x2 * x3 * x3 * x3 + y1 * y1 * y1 * x2 * x3 * x3 * x3 * y3 * y3 * d + y1 * y1 * y1 * x2 * y2 * y2 * x3 * y3 * y3 * d + y1 * y1 * y1 * x2 * x2 * y2 * x3 * x3 * y3 * d - x1 * y2 * x3 + x1 * y2 * x3 * y3 * y3 - x1 * y2 * x3 * x3 * x3 - x1 * y2 * x3 * x3 * x3 * y3 * y3 * d - x1 * x2 * y3 + x1 * x2 * y3 * y3 * y3 - x1 * x2 * x3 * x3 * y3 - x1 * x2 * x3 * x3 * y3 * y3 * y3 * d + x1 * x2 * y2 * y2 * x3 * x3 * y3 * d + x1 * x2 * x2 * y2 * x3 * y3 * y3 * d - x1 * y1 * y1 * x2 * y2 * y2 * x3 * x3 * y3 * d - x1 * y1 * y1 * x2 * y2 * y2 * x3 * x3 * y3 * y3 * y3 * d * d - x1 * y1 * y1 * x2 * x2 * y2 * x3 * y3 * y3 * d + x1 * y1 * y1 * x2 * x2 * y2 * x3 * x3 * x3 * y3 * y3 * d * d - x1 * x1 * y1 * x2 * y2 * y2 * x3 * y3 * y3 * d + x1 * x1 * y1 * x2 * y2 * y2 * x3 * x3 * x3 * y3 * y3 * d * d - x1 * x1 * y1 * x2 * x2 * y2 * x3 * x3 * y3 * d - x1 * x1 * y1 * x2 * x2 * y2 * x3 * x3 * y3 * y3 * y3 * d * d - x1 * x1 * x1 * y2 * x3 + x1 * x1 * x1 * y2 * x3 * y3 * y3 - x1 * x1 * x1 * y2 * x3 * x3 * x3 - x1 * x1 * x1 * y2 * x3 * x3 * x3 * y3 * y3 * d - x1 * x1 * x1 * x2 * y3 + x1 * x1 * x1 * x2 * y3 * y3 * y3 - x1 * x1 * x1 * x2 * x3 * x3 * y3 - x1 * x1 * x1 * x2 * x3 * x3 * y3 * y3 * y3 * d + x1 * x1 * x1 * x2 * y2 * y2 * x3 * x3 * y3 * d + x1 * x1 * x1 * x2 * x2 * y2 * x3 * y3 * y3 * d) * (d * x2 * x2 * y2 * y2 - (y2 * y2 - x2 * x2 - 1)) + (y1 * y2 * y3 - y1 * y2 * y2 * y2 * y3 + y1 * x2 * x3 - y1 * x2 * y2 * y2 * x3 + y1 * x2 * x2 * y2 * y3 + y1 * x2 * x2 * x2 * x3 - y1 * y1 * y1 * y2 * y3 + y1 * y1 * y1 * y2 * y2 * y2 * y3 - y1 * y1 * y1 * x2 * x3 + y1 * y1 * y1 * x2 * y2 * y2 * x3 - y1 * y1 * y1 * x2 * x2 * y2 * y3 - y1 * y1 * y1 * x2 * x2 * x2 * x3 + x1 * y2 * x3 - x1 * y2 * y2 * y2 * x3 + x1 * x2 * y3 - x1 * x2 * y2 * y2 * y3 + x1 * x2 * x2 * y2 * x3 + x1 * x2 * x2 * x2 * y3 + x1 * y1 * y1 * x2 * y2 * y2 * y3 * d - x1 * y1 * y1 * x2 * x2 * y2 * x3 * d + x1 * y1 * y1 * x2 * x2 * y2 * y2 * y2 * x3 * d + x1 * y1 * y1 * x2 * x2 * x2 * y2 * y2 * y3 * d - x1 * x1 * y1 * x2 * y2 * y2 * x3 * d + x1 * x1 * y1 * x2 * x2 * y2 * y3 * d - x1 * x1 * y1 * x2 * x2 * y2 * y2 * y2 * y3 * d - x1 * x1 * y1 * x2 * x2 * x2 * y2 * y2 * x3 * d + x1 * x1 * x1 * y2 * x3 - x1 * x1 * x1 * y2 * y2 * y2 * x3 + x1 * x1 * x1 * x2 * y3 - x1 * x1 * x1 * x2 * y2 * y2 * y3 + x1 * x1 * x1 * x2 * x2 * y2 * x3 + x1 * x1 * x1 * x2 * x2 * x2 * y3) * (d * x3 * x3 * y3 * y3 - (y3 * y3 - x3 * x3 - 1)) := by grind
theorem assoc_y {x1 y1 x2 y2 x3 y3 d : FF} (c1 : y1 * y1 - x1 * x1 = 1 + d * (x1 * x1) * (y1 * y1)) (c2 : y2 * y2 - x2 * x2 = 1 + d * (x2 * x2) * (y2 * y2)) (c3 : y3 * y3 - x3 * x3 = 1 + d * (x3 * x3) * (y3 * y3)) :
    ((y1 * y2 + x1 * x2) * (1 + (d * x1 * x2 * y1 * y2)) * y3 + (x1 * y2 + x2 * y1) * (1 - (d * x1 * x2 * y1 * y2)) * x3) * (1 - (d * x3 * x2 * y3 * y2) * (d * x3 * x2 * y3 * y2) - d * x1 * y1 * (x3 * y2 + x2 * y3) * (y3 * y2 + x3 * x2)) = ((y3 * y2 + x3 * x2) * (1 + (d * x3 * x2 * y3 * y2)) * y1 + (x3 * y2 + x2 * y3) * (1 - (d * x3 * x2 * y3 * y2)) * x1) * (1 - (d * x1 * x2 * y1 * y2) * (d * x1 * x2 * y1 * y2) - d * x3 * y3 * (x1 * y2 + x2 * y1) * (y1 * y2 + x1 * x2)) := by
  have h := assoc_yi x1 y1 x2 y2 x3 y3 d
  have z1 : (d * x1 * x1 * y1 * y1 - (y1 * y1 - x1 * x1 - 1)) = 0 := by grind
  have z2 : (d * x2 * x2 * y2 * y2 - (y2 * y2 - x2 * x2 - 1)) = 0 := by grind
  have z3 : (d * x3 * x3 * y3 * y3 - (y3 * y3 - x3 * x3 - 1)) = 0 := by grind
  rw [z1, z2, z3] at h
  grind
end Go.AM
namespace Go.AM
open Go
structure EP where
  x : FF
  y : FF
  c : y * y - x * x = 1 + dF * (x * x) * (y * y)
theorem EP.ext' {p q : EP} (h1 : p.x = q.x) (h2 : p.y = q.y) : p = q := by cases p; cases q; cases h1; cases h2; rfl
def fi (a : FF) : FF := fpow a pm2
theorem fi_mul {a : FF} (h : a ≠ 0) : a * fi a = 1 := inv_mul h
theorem fi_unique {a b : FF} (h : a * b = 1) : b = fi a := by
  have ha : a ≠ 0 := fun e => f01 (by rw [← h, e]; grind)
  have := fi_mul ha
  have e : b * (a * fi a) = (a * b) * fi a := by grind
  rw [this, h] at e
  grind
theorem fi_one : fi 1 = 1 := (fi_unique (by grind)).symm
theorem div_eq {a b a' b' : FF} (hb : b ≠ 0) (hb' : b' ≠ 0) (h : a * b' = a' * b) : a * fi b = a' * fi b' := by
  have h1 := fi_mul hb
  have h2 := fi_mul hb'
  generalize fi b = u at *
  generalize fi b' = u' at *
  have e1 : a * u = a * u * (b' * u') := by rw [h2]; grind
  have e2 : a * u * (b' * u') = (a * b') * (u * u') := by grind
  have e3 : (a' * b) * (u * u') = a' * u' * (b * u) := by grind
  rw [e1, e2, h, e3, h1]
  grind
theorem den_p (p q : EP) : 1 + dF * p.x * q.x * p.y * q.y ≠ 0 := fun h => complete p.c q.c (e := -1) (by grind) (by
  generalize dF * p.x * q.x * p.y * q.y = e at *
  grind)
theorem den_m (p q : EP) : 1 - dF * p.x * q.x * p.y * q.y ≠ 0 := fun h => complete p.c q.c (e := 1) (by grind) (by
  generalize dF * p.x * q.x * p.y * q.y = e at *
  grind)
theorem OnF.of (p : EP) : OnF p.x p.y 1 (p.x * p.y) := ⟨by
  have := p.c
  generalize p.x = x at *
  generalize p.y = y at *
  generalize dF = d at *
  grind, by grind, f01⟩
theorem close_i {N M F G f g d : FF} (c : (G * M) * (G * M) - (N * F) * (N * F) = (F * G) * (F * G) + d * ((N * M) * (N * M))) (hf : F * f = 1) (hg : G * g = 1) :
    (M * f) * (M * f) - (N * g) * (N * g) = 1 + d * ((N * g) * (N * g)) * ((M * f) * (M * f)) := by
  have e1 : ((G * M) * (G * M) - (N * F) * (N * F)) * ((f * g) * (f * g)) = ((G * g) * (G * g)) * ((M * f) * (M * f)) - ((F * f) * (F * f)) * ((N * g) * (N * g)) := by grind
  have e2 : ((F * G) * (F * G) + d * ((N * M) * (N * M))) * ((f * g) * (f * g)) = ((F * f) * (F * f)) * ((G * g) * (G * g)) + d * ((N * g) * (N * g)) * ((M * f) * (M * f)) := by grind
  rw [c, e2, hf, hg] at e1
  grind
def EP.add (p q : EP) : EP := ⟨(p.x * q.y + q.x * p.y) * fi (1 + dF * p.x * q.x * p.y * q.y), (p.y * q.y + p.x * q.x) * fi (1 - dF * p.x * q.x * p.y * q.y), by
  have on := sum_on (OnF.of p) (OnF.of q) (E := p.x * q.y + q.x * p.y) (F := 1 - dF * p.x * q.x * p.y * q.y) (G := 1 + dF * p.x * q.x * p.y * q.y) (H := p.y * q.y + p.x * q.x) rfl (by generalize dF = d; grind) (by generalize dF = d; grind) rfl
  exact close_i on.c (fi_mul (den_m p q)) (fi_mul (den_p p q))⟩
def EP.zero : EP := ⟨0, 1, by grind⟩
def EP.neg (p : EP) : EP := ⟨0 - p.x, p.y, by have := p.c; generalize dF = d at *; grind⟩
theorem EP.add_comm (p q : EP) : p.add q = q.add p := by
  refine EP.ext' ?_ ?_
  · show (p.x * q.y + q.x * p.y) * fi (1 + dF * p.x * q.x * p.y * q.y) = (q.x * p.y + p.x * q.y) * fi (1 + dF * q.x * p.x * q.y * p.y)
    rw [show dF * q.x * p.x * q.y * p.y = dF * p.x * q.x * p.y * q.y by generalize dF = d; grind]
    grind
  · show (p.y * q.y + p.x * q.x) * fi (1 - dF * p.x * q.x * p.y * q.y) = (q.y * p.y + q.x * p.x) * fi (1 - dF * q.x * p.x * q.y * p.y)
    rw [show dF * q.x * p.x * q.y * p.y = dF * p.x * q.x * p.y * q.y by generalize dF = d; grind]
    grind
theorem EP.add_zero (p : EP) : p.add EP.zero = p := by
  have e : dF * p.x * 0 * p.y * 1 = 0 := by grind
  refine EP.ext' ?_ ?_
  · show (p.x * 1 + 0 * p.y) * fi (1 + dF * p.x * 0 * p.y * 1) = p.x
    rw [e, show (1 : FF) + 0 = 1 by decide, fi_one]
    generalize p.x = x
    generalize p.y = y
    grind
  · show (p.y * 1 + p.x * 0) * fi (1 - dF * p.x * 0 * p.y * 1) = p.y
    rw [e, show (1 : FF) - 0 = 1 by decide, fi_one]
    generalize p.x = x
    generalize p.y = y
    grind
theorem EP.zero_add (p : EP) : EP.zero.add p = p := by rw [EP.add_comm, EP.add_zero]
theorem tri_i {N M e f g d x3 y3 : FF} (hG : (1 + e) * g = 1) (hF : (1 - e) * f = 1) :
    (N * g * y3 + x3 * (M * f)) * (1 - e * e) = N * (1 - e) * y3 + x3 * M * (1 + e) ∧ (M * f * y3 + N * g * x3) * (1 - e * e) = M * (1 + e) * y3 + N * (1 - e) * x3 ∧
    (1 + d * (N * g) * x3 * (M * f) * y3) * (1 - e * e) = 1 - e * e + d * x3 * y3 * N * M ∧ (1 - d * (N * g) * x3 * (M * f) * y3) * (1 - e * e) = 1 - e * e - d * x3 * y3 * N * M := by
  have k : (1 - e * e) = (1 + e) * (1 - e) := by grind
  rw [k]
  generalize 1 + e = G at *
  generalize 1 - e = F at *
  refine ⟨?_, ?_, ?_, ?_⟩
  · have : (N * g * y3 + x3 * (M * f)) * (G * F) = N * F * y3 * (G * g) + x3 * M * G * (F * f) := by grind
    rw [this, hG, hF]; grind
  · have : (M * f * y3 + N * g * x3) * (G * F) = M * G * y3 * (F * f) + N * F * x3 * (G * g) := by grind
    rw [this, hG, hF]; grind
  · have : (1 + d * (N * g) * x3 * (M * f) * y3) * (G * F) = G * F + d * x3 * y3 * N * M * ((G * g) * (F * f)) := by grind
    rw [this, hG, hF]; grind
  · have : (1 - d * (N * g) * x3 * (M * f) * y3) * (G * F) = G * F - d * x3 * y3 * N * M * ((G * g) * (F * f)) := by grind
    rw [this, hG, hF]; grind
theorem frac {n m D A B : FF} (hm : m ≠ 0) (hD : D ≠ 0) (h1 : n * D = A) (h2 : m * D = B) : B ≠ 0 ∧ n * fi m = A * fi B := by
  have hB : B ≠ 0 := by rw [← h2]; exact mul_ne hm hD
  exact ⟨hB, div_eq hm hB (by rw [← h1, ← h2]; grind)⟩
theorem tri (p q r : EP) : ∃ b g, b ≠ 0 ∧ g ≠ 0 ∧
    b = 1 - (dF * p.x * q.x * p.y * q.y) * (dF * p.x * q.x * p.y * q.y) + dF * r.x * r.y * (p.x * q.y + q.x * p.y) * (p.y * q.y + p.x * q.x) ∧
    g = 1 - (dF * p.x * q.x * p.y * q.y) * (dF * p.x * q.x * p.y * q.y) - dF * r.x * r.y * (p.x * q.y + q.x * p.y) * (p.y * q.y + p.x * q.x) ∧
    ((p.add q).add r).x = ((p.x * q.y + q.x * p.y) * (1 - dF * p.x * q.x * p.y * q.y) * r.y + r.x * (p.y * q.y + p.x * q.x) * (1 + dF * p.x * q.x * p.y * q.y)) * fi b ∧
    ((p.add q).add r).y = ((p.y * q.y + p.x * q.x) * (1 + dF * p.x * q.x * p.y * q.y) * r.y + (p.x * q.y + q.x * p.y) * (1 - dF * p.x * q.x * p.y * q.y) * r.x) * fi g := by
  have hD : 1 - (dF * p.x * q.x * p.y * q.y) * (dF * p.x * q.x * p.y * q.y) ≠ 0 := by
    have k : 1 - (dF * p.x * q.x * p.y * q.y) * (dF * p.x * q.x * p.y * q.y) = (1 + dF * p.x * q.x * p.y * q.y) * (1 - dF * p.x * q.x * p.y * q.y) := by
      generalize dF * p.x * q.x * p.y * q.y = e
      grind
    rw [k]
    exact mul_ne (den_p p q) (den_m p q)
  obtain ⟨t1, t2, t3, t4⟩ := tri_i (N := p.x * q.y + q.x * p.y) (M := p.y * q.y + p.x * q.x) (d := dF) (x3 := r.x) (y3 := r.y) (fi_mul (den_p p q)) (fi_mul (den_m p q))
  obtain ⟨b1, b2⟩ := frac (den_p (p.add q) r) hD t1 t3
  obtain ⟨g1, g2⟩ := frac (den_m (p.add q) r) hD t2 t4
  exact ⟨_, _, b1, g1, rfl, rfl, b2, g2⟩
theorem EP.add_assoc (p q r : EP) : (p.add q).add r = p.add (q.add r) := by
  rw [EP.add_comm p (q.add r), EP.add_comm q r]
  obtain ⟨b, g, hb, hg, eb, eg, lx, ly⟩ := tri p q r
  obtain ⟨b', g', hb', hg', eb', eg', lx', ly'⟩ := tri r q p
  refine EP.ext' ?_ ?_
  · rw [lx, lx']
    refine div_eq hb hb' ?_
    have := assoc_x p.c q.c r.c
    rw [eb, eb']
    exact this
  · rw [ly, ly']
    refine div_eq hg hg' ?_
    have := assoc_y p.c q.c r.c
    rw [eg, eg']
    exact this
def EP.nsm : Nat → EP → EP
  | 0, _ => EP.zero
  | n + 1, p => (EP.nsm n p).add p
theorem EP.nsm_succ (n : Nat) (p : EP) : EP.nsm (n + 1) p = (EP.nsm n p).add p := rfl
theorem EP.nsm_add (p : EP) (m : Nat) : ∀ n, EP.nsm (m + n) p = (EP.nsm m p).add (EP.nsm n p)
  | 0 => (EP.add_zero _).symm
  | n + 1 => by rw [← Nat.add_assoc, EP.nsm_succ, EP.nsm_succ, EP.nsm_add p m n, EP.add_assoc]
theorem EP.nsm_zero : ∀ n, EP.nsm n EP.zero = EP.zero
  | 0 => rfl
  | n + 1 => by rw [EP.nsm_succ, EP.add_zero, EP.nsm_zero n]
theorem EP.nsm_one (p : EP) : EP.nsm 1 p = p := EP.zero_add p
theorem EP.nsm_mul (p : EP) (m : Nat) : ∀ n, EP.nsm (m * n) p = EP.nsm n (EP.nsm m p)
  | 0 => rfl
  | n + 1 => by rw [Nat.mul_succ, EP.nsm_add, EP.nsm_mul p m n, EP.nsm_succ]
theorem EP.add4 (p q r s : EP) : (p.add q).add (r.add s) = (p.add r).add (q.add s) := by
  rw [EP.add_assoc, EP.add_assoc, ← EP.add_assoc q, EP.add_comm q r, EP.add_assoc r]
theorem EP.nsm_mod {p : EP} {L : Nat} (h : EP.nsm L p = EP.zero) (n : Nat) : EP.nsm (n % L) p = EP.nsm n p := by
  have e : EP.nsm n p = EP.nsm (L * (n / L) + n % L) p := by rw [Nat.div_add_mod]
  rw [e, EP.nsm_add, EP.nsm_mul, h, EP.nsm_zero, EP.zero_add]
structure Is (q : Q4) (p : EP) : Prop where
  on : On4 q
  x : fq q.1 = p.x * fq q.2.2.1
  y : fq q.2.1 = p.y * fq q.2.2.1
theorem Is.t {q : Q4} {p : EP} (h : Is q p) : fq q.2.2.2 = p.x * p.y * fq q.2.2.1 := by
  have ht := h.on.on.t
  have hz := fi_mul h.on.on.z
  have h1 := h.x
  have h2 := h.y
  generalize fq q.2.2.1 = Z at *
  generalize fi Z = z at *
  generalize fq q.2.2.2 = T at *
  generalize fq q.1 = X at *
  generalize fq q.2.1 = Y at *
  subst h1 h2
  have e : T = (Z * T) * z := by
    have : (Z * T) * z = T * (Z * z) := by grind
    rw [this, hz]; grind
  rw [e, ← ht]
  have : p.x * Z * (p.y * Z) * z = p.x * p.y * Z * (Z * z) := by grind
  rw [this, hz]; grind
theorem Is.ex {q : Q4} (h : On4 q) : ∃ p, Is q p := by
  obtain ⟨z, h1, h2, h3⟩ := h.on.aff
  refine ⟨⟨fq q.1 * z, fq q.2.1 * z, h2⟩, h, ?_, ?_⟩
  · show fq q.1 = fq q.1 * z * fq q.2.2.1
    have : fq q.1 * z * fq q.2.2.1 = fq q.1 * (fq q.2.2.1 * z) := by grind
    rw [this, h1]; grind
  · show fq q.2.1 = fq q.2.1 * z * fq q.2.2.1
    have : fq q.2.1 * z * fq q.2.2.1 = fq q.2.1 * (fq q.2.2.1 * z) := by grind
    rw [this, h1]; grind
theorem mul_cancel {a b c : FF} (hc : c ≠ 0) (h : a * c = b * c) : a = b := by
  have e := fi_mul hc
  have e1 : a * (c * fi c) = (a * c) * fi c := by grind
  have e2 : (b * c) * fi c = b * (c * fi c) := by grind
  rw [h, e2, e] at e1
  grind
theorem Is.unique {q : Q4} {p p' : EP} (h : Is q p) (h' : Is q p') : p = p' :=
  EP.ext' (mul_cancel h.on.on.z (by rw [← h.x, ← h'.x])) (mul_cancel h.on.on.z (by rw [← h.y, ← h'.y]))
theorem is_id : Is idS4 EP.zero := ⟨id_on, by decide, by decide⟩
theorem is_sum_i {x1 y1 Z1 x2 y2 Z2 d G F g f : FF} (hG : G = 1 + d * x1 * x2 * y1 * y2) (hF : F = 1 - d * x1 * x2 * y1 * y2) (hg : G * g = 1) (hf : F * f = 1) :
    ((x1 * Z1) * (y2 * Z2) + (x2 * Z2) * (y1 * Z1)) * (Z1 * Z2 - d * (x1 * y1 * Z1) * (x2 * y2 * Z2)) = (x1 * y2 + x2 * y1) * g * ((Z1 * Z2 - d * (x1 * y1 * Z1) * (x2 * y2 * Z2)) * (Z1 * Z2 + d * (x1 * y1 * Z1) * (x2 * y2 * Z2))) ∧
    (Z1 * Z2 + d * (x1 * y1 * Z1) * (x2 * y2 * Z2)) * ((y1 * Z1) * (y2 * Z2) + (x1 * Z1) * (x2 * Z2)) = (y1 * y2 + x1 * x2) * f * ((Z1 * Z2 - d * (x1 * y1 * Z1) * (x2 * y2 * Z2)) * (Z1 * Z2 + d * (x1 * y1 * Z1) * (x2 * y2 * Z2))) := by
  have e1 : Z1 * Z2 - d * (x1 * y1 * Z1) * (x2 * y2 * Z2) = Z1 * Z2 * F := by rw [hF]; grind
  have e2 : Z1 * Z2 + d * (x1 * y1 * Z1) * (x2 * y2 * Z2) = Z1 * Z2 * G := by rw [hG]; grind
  rw [e1, e2]
  clear e1 e2 hG hF
  refine ⟨?_, ?_⟩
  · have : (x1 * y2 + x2 * y1) * g * (Z1 * Z2 * F * (Z1 * Z2 * G)) = (x1 * y2 + x2 * y1) * (Z1 * Z2 * F * (Z1 * Z2)) * (G * g) := by grind
    rw [this, hg]; grind
  · have : (y1 * y2 + x1 * x2) * f * (Z1 * Z2 * F * (Z1 * Z2 * G)) = (y1 * y2 + x1 * x2) * (Z1 * Z2 * G * (Z1 * Z2)) * (F * f) := by grind
    rw [this, hf]; grind
theorem is_add {q q' : Q4} {p p' : EP} (h : Is q p) (h' : Is q' p') : Is (addS q q') (p.add p') := by
  obtain ⟨i1, i2⟩ := is_sum_i (x1 := p.x) (y1 := p.y) (Z1 := fq q.2.2.1) (x2 := p'.x) (y2 := p'.y) (Z2 := fq q'.2.2.1) (d := dF) rfl rfl (fi_mul (den_p p p')) (fi_mul (den_m p p'))
  have hx := h.x
  have hy := h.y
  have ht := h.t
  have hx' := h'.x
  have hy' := h'.y
  have ht' := h'.t
  have ax : (p.add p').x = (p.x * p'.y + p'.x * p.y) * fi (1 + dF * p.x * p'.x * p.y * p'.y) := rfl
  have ay : (p.add p').y = (p.y * p'.y + p.x * p'.x) * fi (1 - dF * p.x * p'.x * p.y * p'.y) := rfl
  rw [← ax] at i1
  rw [← ay] at i2
  rw [← hx, ← hy, ← ht, ← hx', ← hy', ← ht'] at i1 i2
  refine ⟨add_on h.on h'.on, ?_, ?_⟩
  · unfold addS
    simp only [fq_mul, fq_sub, fq_add]
    rw [show fq eD = dF from rfl, show (fq q.1 + fq q.2.1) * (fq q'.1 + fq q'.2.1) - fq q.1 * fq q'.1 - fq q.2.1 * fq q'.2.1 = fq q.1 * fq q'.2.1 + fq q'.1 * fq q.2.1 by grind]
    exact i1
  · unfold addS
    simp only [fq_mul, fq_sub, fq_add]
    rw [show fq eD = dF from rfl]
    exact i2
theorem is_neg {X Y Z x y : FF} (h1 : X = x * Z) (h2 : Y = y * Z) : (-1) * X = x * ((-1) * Z) ∧ (-1) * Y = y * ((-1) * Z) := by subst h1 h2; constructor <;> grind
theorem is_dbl {q : Q4} {p : EP} (h : Is q p) : Is (dblS q) (p.add p) := by
  have ha := is_add h h
  have hx := ha.x
  have hy := ha.y
  unfold addS at hx hy
  simp only [fq_mul, fq_sub, fq_add] at hx hy
  rw [show fq eD = dF from rfl] at hx hy
  obtain ⟨e1, e2, e3, e4⟩ := dbl_same h.on.on
  refine ⟨dbl_on h.on, ?_, ?_⟩
  · unfold dblS
    simp only [fq_mul, fq_sub, fq_add]
    rw [e1, e3]
    refine (is_neg (Y := 0) (y := 0) ?_ (by grind)).1
    rw [← hx]
    clear hx hy e1 e2 e3 e4 ha
    generalize dF = d
    grind
  · unfold dblS
    simp only [fq_mul, fq_sub, fq_add]
    rw [e2, e3]
    refine (is_neg (X := 0) (x := 0) (by grind) ?_).2
    rw [← hy]
end Go.AM
namespace Go.AM
open Go
theorem eqN_congr {n : Nat} {f f' g : Nat → Int} (h : ∀ d, d < n → f d = f' d) : eqN n f g = eqN n f' g := by
  unfold eqN
  rw [Bool.eq_iff_iff]
  simp only [List.all_eq_true, List.mem_range, beq_iff_eq]
  exact ⟨fun q d hd => by rw [← h d hd]; exact q d hd, fun q d hd => by rw [h d hd]; exact q d hd⟩
end Go.AM
namespace Go.AM
open Go Go.RowKit
def ST (n : Nat) (s t : St) : Prop := ∀ (n0 : Nat), n0 ≤ n → n ≤ s.hp.length → ∀ (w0 : World) (own0 : Own) (σ : Sg) (pr : Pr) (a : Act) (w : World), SJ n0 w0 own0 σ pr s a w →
  ∃ σ' pr', SJ n0 w0 own0 σ' pr' t a w ∧ (∀ id, id < n → σ' id = σ id) ∧ ∀ t b, pr t b → pr' t b
theorem ST.trans {n : Nat} {s t u : St} (h1 : ST n s t) (hl : n ≤ t.hp.length) (h2 : ST n t u) : ST n s u := fun n0 hn hs w0 own0 σ pr a w H => by
  obtain ⟨σ1, pr1, H1, e1, p1⟩ := h1 n0 hn hs w0 own0 σ pr a w H
  obtain ⟨σ2, pr2, H2, e2, p2⟩ := h2 n0 hn hl w0 own0 σ1 pr1 a w H1
  exact ⟨σ2, pr2, H2, fun id hid => (e2 id hid).trans (e1 id hid), fun t b h => p2 t b (p1 t b h)⟩
theorem ST.le {n n0 : Nat} {w w' : World} {σ σ1 σ' : Sg} {pr pr1 pr' : Pr} (hf : ∀ id, n ≤ id → σ id = none) (L : Le2 n0 σ pr w σ1 pr1 w') (hn : n0 ≤ n) (e : ∀ id, id < n → σ' id = σ1 id) (p : ∀ t b, pr1 t b → pr' t b) : Le2 n0 σ pr w σ' pr' w' :=
  ⟨⟨fun id x hx => by
    have hi : id < n := by
      rcases Nat.lt_or_ge id n with h | h
      · exact h
      · rw [hf id h] at hx; cases hx
    rw [e id hi]; exact L.le.sg id x hx, fun t b h => p t b (L.le.mo t b h), L.le.same, L.le.shape, L.le.size⟩, fun id hid => (e id (by omega)).trans (L.keep id hid)⟩
end Go.AM
namespace Go.AM
open Go Go.RowKit
def BSame (b c : Blk) : Prop := c.sz = b.sz ∧ c.n = b.n ∧ ∀ i, i < b.n → c.segs i = b.segs i
def HSame (s t : Heap) : Prop := t.length = s.length ∧ ∀ (id : Nat) (c : Blk), t[id]? = some (some c) → ∃ b, s[id]? = some (some b) ∧ BSame b c
theorem BSame.refl (b : Blk) : BSame b b := ⟨rfl, rfl, fun _ _ => rfl⟩
section
variable {P : Program} {w0 w : World} {own0 : Own} {σ : Sg} {pr : Pr}
theorem HI.same {s t : Heap} (H : HI w0 own0 σ pr s w) (h : HSame s t) : HI w0 own0 σ pr t w := by
  refine ⟨fun id hid => H.fresh id (by rw [← h.1]; exact hid), fun id c hc => ?_, fun id id' c c' g x x' h1 h2 h3 h4 => ?_, fun id c hc i hi => ?_, H.ev, H.prlt, H.prnew⟩
  · obtain ⟨b, hb, e1, e2, e3⟩ := h.2 id c hc
    rcases H.blk id b hb with ⟨q1, q2⟩ | ⟨g, q1, q2⟩
    · exact .inl ⟨q1, by rw [e2]; exact q2⟩
    · refine .inr ⟨g, by rw [e1, e2]; exact q1, q2.free, q2.own, ?_⟩
      obtain ⟨cells, T, fz, r1, r2, r3, r4⟩ := q2.cells
      refine ⟨cells, T, fz, r1, r2, by rw [e1, e2]; exact r3, fun i hi d hd => ?_⟩
      rw [e2] at hi
      rw [e1] at hd ⊢
      rw [e3 i hi]
      exact r4 i hi d hd
  · obtain ⟨b, hb, _⟩ := h.2 id c h1
    obtain ⟨b', hb', _⟩ := h.2 id' c' h2
    exact H.inj id id' b b' g x x' hb hb' h3 h4
  · obtain ⟨b, hb, e1, e2, e3⟩ := h.2 id c hc
    rw [e2] at hi
    rw [e1, e3 i hi]
    exact H.lens id b hb i hi
end
end Go.AM
namespace Go.AM
theorem pr_2551 : IsPr 2551 := (lucas_by (a := 6) (L := [2, 3, 5, 5, 17]) (prs_cons pr_2 (prs_cons pr_3 (prs_cons pr_5 (prs_cons pr_5 (prs_cons pr_17 (prs_nil)))))) (by decide +kernel)).1
theorem pr_1224481 : IsPr 1224481 := (lucas_by (a := 13) (L := [2, 2, 2, 2, 2, 3, 5, 2551]) (prs_cons pr_2 (prs_cons pr_2 (prs_cons pr_2 (prs_cons pr_2 (prs_cons pr_2 (prs_cons pr_3 (prs_cons pr_5 (prs_cons pr_2551 (prs_nil))))))))) (by decide +kernel)).1
theorem pr_73 : IsPr 73 := pr_small (by decide +kernel)
theorem pr_3797 : IsPr 3797 := (lucas_by (a := 2) (L := [2, 2, 13, 73]) (prs_cons pr_2 (prs_cons pr_2 (prs_cons pr_13 (prs_cons pr_73 (prs_nil))))) (by decide +kernel)).1
theorem pr_531581 : IsPr 531581 := (lucas_by (a := 2) (L := [2, 2, 5, 7, 3797]) (prs_cons pr_2 (prs_cons pr_2 (prs_cons pr_5 (prs_cons pr_7 (prs_cons pr_3797 (prs_nil)))))) (by decide +kernel)).1
theorem pr_1257559732178653 : IsPr 1257559732178653 := (lucas_by (a := 2) (L := [2, 2, 3, 7, 23, 531581, 1224481]) (prs_cons pr_2 (prs_cons pr_2 (prs_cons pr_3 (prs_cons pr_7 (prs_cons pr_23 (prs_cons pr_531581 (prs_cons pr_1224481 (prs_nil)))))))) (by decide +kernel)).1
theorem pr_4434155615661930479 : IsPr 4434155615661930479 := (lucas_by (a := 17) (L := [2, 41, 43, 1257559732178653]) (prs_cons pr_2 (prs_cons pr_41 (prs_cons pr_43 (prs_cons pr_1257559732178653 (prs_nil))))) (by decide +kernel)).1
theorem pr_2851 : IsPr 2851 := (lucas_by (a := 2) (L := [2, 3, 5, 5, 19]) (prs_cons pr_2 (prs_cons pr_3 (prs_cons pr_5 (prs_cons pr_5 (prs_cons pr_19 (prs_nil)))))) (by decide +kernel)).1
theorem pr_1361 : IsPr 1361 := (lucas_by (a := 3) (L := [2, 2, 2, 2, 5, 17]) (prs_cons pr_2 (prs_cons pr_2 (prs_cons pr_2 (prs_cons pr_2 (prs_cons pr_5 (prs_cons pr_17 (prs_nil))))))) (by decide +kernel)).1
theorem pr_172054593956031949258510691 : IsPr 172054593956031949258510691 := (lucas_by (a := 2) (L := [2, 5, 1361, 2851, 4434155615661930479]) (prs_cons pr_2 (prs_cons pr_5 (prs_cons pr_1361 (prs_cons pr_2851 (prs_cons pr_4434155615661930479 (prs_nil)))))) (by decide +kernel)).1
theorem pr_113 : IsPr 113 := pr_small (by decide +kernel)
theorem pr_2939 : IsPr 2939 := (lucas_by (a := 2) (L := [2, 13, 113]) (prs_cons pr_2 (prs_cons pr_13 (prs_cons pr_113 (prs_nil)))) (by decide +kernel)).1
theorem pr_5879 : IsPr 5879 := (lucas_by (a := 11) (L := [2, 2939]) (prs_cons pr_2 (prs_cons pr_2939 (prs_nil))) (by decide +kernel)).1
theorem pr_307 : IsPr 307 := pr_small (by decide +kernel)
theorem pr_292386187 : IsPr 292386187 := (lucas_by (a := 2) (L := [2, 3, 3, 3, 3, 307, 5879]) (prs_cons pr_2 (prs_cons pr_3 (prs_cons pr_3 (prs_cons pr_3 (prs_cons pr_3 (prs_cons pr_307 (prs_cons pr_5879 (prs_nil)))))))) (by decide +kernel)).1
theorem pr_213441916511 : IsPr 213441916511 := (lucas_by (a := 13) (L := [2, 5, 73, 292386187]) (prs_cons pr_2 (prs_cons pr_5 (prs_cons pr_73 (prs_cons pr_292386187 (prs_nil))))) (by decide +kernel)).1
theorem pr_269 : IsPr 269 := pr_small (by decide +kernel)
theorem pr_19757330305831588566944191468367130476339 : IsPr 19757330305831588566944191468367130476339 := (lucas_by (a := 2) (L := [2, 269, 213441916511, 172054593956031949258510691]) (prs_cons pr_2 (prs_cons pr_269 (prs_cons pr_213441916511 (prs_cons pr_172054593956031949258510691 (prs_nil))))) (by decide +kernel)).1
theorem pr_276602624281642239937218680557139826668747 : IsPr 276602624281642239937218680557139826668747 := (lucas_by (a := 2) (L := [2, 7, 19757330305831588566944191468367130476339]) (prs_cons pr_2 (prs_cons pr_7 (prs_cons pr_19757330305831588566944191468367130476339 (prs_nil)))) (by decide +kernel)).1
theorem pr_17231 : IsPr 17231 := (lucas_by (a := 13) (L := [2, 5, 1723]) (prs_cons pr_2 (prs_cons pr_5 (prs_cons pr_1723 (prs_nil)))) (by decide +kernel)).1
theorem pr_137849 : IsPr 137849 := (lucas_by (a := 3) (L := [2, 2, 2, 17231]) (prs_cons pr_2 (prs_cons pr_2 (prs_cons pr_2 (prs_cons pr_17231 (prs_nil))))) (by decide +kernel)).1
theorem pr_67 : IsPr 67 := pr_small (by decide +kernel)
theorem pr_11 : IsPr 11 := pr_small (by decide +kernel)
theorem pr_22111 : IsPr 22111 := (lucas_by (a := 6) (L := [2, 3, 5, 11, 67]) (prs_cons pr_2 (prs_cons pr_3 (prs_cons pr_5 (prs_cons pr_11 (prs_cons pr_67 (prs_nil)))))) (by decide +kernel)).1
theorem pr_132667 : IsPr 132667 := (lucas_by (a := 5) (L := [2, 3, 22111]) (prs_cons pr_2 (prs_cons pr_3 (prs_cons pr_22111 (prs_nil)))) (by decide +kernel)).1
theorem pr_79 : IsPr 79 := pr_small (by decide +kernel)
theorem pr_41081 : IsPr 41081 := (lucas_by (a := 3) (L := [2, 2, 2, 5, 13, 79]) (prs_cons pr_2 (prs_cons pr_2 (prs_cons pr_2 (prs_cons pr_5 (prs_cons pr_13 (prs_cons pr_79 (prs_nil))))))) (by decide +kernel)).1
theorem pr_82163 : IsPr 82163 := (lucas_by (a := 2) (L := [2, 41081]) (prs_cons pr_2 (prs_cons pr_41081 (prs_nil))) (by decide +kernel)).1
theorem pr_30703 : IsPr 30703 := (lucas_by (a := 3) (L := [2, 3, 7, 17, 43]) (prs_cons pr_2 (prs_cons pr_3 (prs_cons pr_7 (prs_cons pr_17 (prs_cons pr_43 (prs_nil)))))) (by decide +kernel)).1
theorem pr_3044861653679985063343 : IsPr 3044861653679985063343 := (lucas_by (a := 5) (L := [2, 3, 11, 30703, 82163, 132667, 137849]) (prs_cons pr_2 (prs_cons pr_3 (prs_cons pr_11 (prs_cons pr_30703 (prs_cons pr_82163 (prs_cons pr_132667 (prs_cons pr_137849 (prs_nil)))))))) (by decide +kernel)).1
theorem pr_34123 : IsPr 34123 := (lucas_by (a := 2) (L := [2, 3, 11, 11, 47]) (prs_cons pr_2 (prs_cons pr_3 (prs_cons pr_11 (prs_cons pr_11 (prs_cons pr_47 (prs_nil)))))) (by decide +kernel)).1
theorem pr_409477 : IsPr 409477 := (lucas_by (a := 2) (L := [2, 2, 3, 34123]) (prs_cons pr_2 (prs_cons pr_2 (prs_cons pr_3 (prs_cons pr_34123 (prs_nil))))) (by decide +kernel)).1
theorem pr_14741173 : IsPr 14741173 := (lucas_by (a := 2) (L := [2, 2, 3, 3, 409477]) (prs_cons pr_2 (prs_cons pr_2 (prs_cons pr_3 (prs_cons pr_3 (prs_cons pr_409477 (prs_nil)))))) (by decide +kernel)).1
theorem pr_58964693 : IsPr 58964693 := (lucas_by (a := 2) (L := [2, 2, 14741173]) (prs_cons pr_2 (prs_cons pr_2 (prs_cons pr_14741173 (prs_nil)))) (by decide +kernel)).1
theorem pr_198211423230930754013084525763697 : IsPr 198211423230930754013084525763697 := (lucas_by (a := 5) (L := [2, 2, 2, 2, 3, 23, 58964693, 3044861653679985063343]) (prs_cons pr_2 (prs_cons pr_2 (prs_cons pr_2 (prs_cons pr_2 (prs_cons pr_3 (prs_cons pr_23 (prs_cons pr_58964693 (prs_cons pr_3044861653679985063343 (prs_nil))))))))) (by decide +kernel)).1
theorem full_L : Full 7237005577332262213973186563042994240857116359379907606001950938285454250989 2 := lucas_by (L := [2, 2, 3, 11, 198211423230930754013084525763697, 276602624281642239937218680557139826668747]) (prs_cons pr_2 (prs_cons pr_2 (prs_cons pr_3 (prs_cons pr_11 (prs_cons pr_198211423230930754013084525763697 (prs_cons pr_276602624281642239937218680557139826668747 (prs_nil))))))) (by decide +kernel)
end Go.AM
namespace Go.AM
open Go Go.RowKit Go.ChangeShapes Go.WideShapes
inductive Ds where
  | run (k : IntKind) (n : Nat)
  | str
  | bool
  | sl (z : Nat) (e : List Ds)
def szD : Ds → Nat
  | .run _ n => n
  | _ => 1
def szL : List Ds → Nat
  | [] => 0
  | d :: l => szD d + szL l
theorem szL_append : ∀ (a b : List Ds), szL (a ++ b) = szL a + szL b
  | [], b => by simp [szL]
  | d :: a, b => by simp only [List.cons_append, szL, szL_append a b]; omega
def splitD : Nat → Nat → List Ds → Option (List Ds × List Ds)
  | 0, _, _ => none
  | f + 1, n, l => match Nat.beq n 0 with
    | true => some ([], l)
    | false => (match l with
      | d :: r => (match Nat.ble (szD d) n && Nat.ble 1 (szD d) with
        | true => (match splitD f (n - szD d) r with | some (a, b) => some (d :: a, b) | none => none)
        | false => none)
      | [] => none)
theorem splitD_spec : ∀ (f n : Nat) (l a b : List Ds), splitD f n l = some (a, b) → l = a ++ b ∧ szL a = n
  | 0, n, l, a, b, h => by simp [splitD] at h
  | f + 1, n, l, a, b, h => by
    unfold splitD at h
    split at h
    · rename_i hn
      simp only [Option.some.injEq, Prod.mk.injEq] at h
      obtain ⟨rfl, rfl⟩ := h
      exact ⟨rfl, (beq_t.1 hn).symm⟩
    · split at h
      case h_2 => simp at h
      rename_i d r
      split at h
      case h_2 => simp at h
      rename_i hd
      simp only [Bool.and_eq_true, ble_t] at hd
      split at h
      case h_2 => simp at h
      rename_i a' b' hs
      simp only [Option.some.injEq, Prod.mk.injEq] at h
      obtain ⟨rfl, rfl⟩ := h
      obtain ⟨rfl, e⟩ := splitD_spec f _ _ _ _ hs
      exact ⟨rfl, by simp only [szL, e]; omega⟩
def fldB (c : TypeId → Nat) (g : TypeId → List Ds → Bool) : List Field → List Ds → Nat → Bool
  | [], [], _ => true
  | f :: r, l, off => match splitD 100 (c f.type) l with
    | some (a, b) => (Nat.beq f.offset off && g f.type a) && fldB c g r b (off + c f.type)
    | none => false
  | _, _, _ => false
def tyB (P : Program) : Nat → TypeId → List Ds → Bool
  | 0, _, _ => false
  | fuel + 1, t, l => match P.underlying t with
    | some (.int k) => (match l with | [.run k' n] => kEq k k' && Nat.beq n 1 | _ => false)
    | some .bool => (match l with | [.bool] => true | _ => false)
    | some .string => (match l with | [.str] => true | _ => false)
    | some (.array n e) => (match l with | [.run k m] => (match P.underlying e with | some (.int k') => kEq k' k && (Nat.beq n m && (Nat.beq (P.cellsOf e) 1 && Nat.beq (P.cellsOf t) n)) | _ => false) | _ => false)
    | some (.slice e) => (match l with | [.sl z d] => (Nat.beq (P.cellsOf e) z && Nat.beq (szL d) z) && (Nat.ble 1 z && tyB P fuel e d) | _ => false)
    | some (.struct fs) => Nat.beq (P.cellsOf t) (szL l) && fldB P.cellsOf (tyB P fuel) fs.toList l 0
    | _ => false
mutual
def bk {H : Type} : DataW H → Nat
  | .slice elems _ => bkA elems + 1
  | .agg parts => bkA parts + 1
  | _ => 1
def bkA {H : Type} : List (DataW H) → Nat
  | [] => 0
  | d :: r => bk d + bkA r
end
theorem bk_pos {H : Type} (d : DataW H) : 1 ≤ bk d := by cases d <;> simp [bk]
theorem bk_len {H : Type} : ∀ (l : List (DataW H)), l.length ≤ bkA l
  | [] => Nat.zero_le _
  | d :: r => by
    have h1 := bk_pos d
    have h2 := bk_len r
    simp only [List.length_cons, bkA]
    omega
theorem bk_mem {H : Type} : ∀ {l : List (DataW H)} {d : DataW H}, d ∈ l → bk d ≤ bkA l
  | [], d, h => by simp at h
  | e :: r, d, h => by
    simp only [bkA]
    rcases List.mem_cons.1 h with h | h
    · subst h; omega
    · have := bk_mem h; omega
mutual
def mD (N : Nat) : Ds → Seg → Prop
  | .run k n, s => ∃ f, s = .ints k n f ∧ ∀ c, c < n → (Lit.int k (f c)).wf = true
  | .str, s => ∃ b, s = .one (.str b)
  | .bool, s => ∃ b, s = .one (.bool b)
  | .sl z e, s => ∃ len row, len ≤ N ∧ s = .one (.vrows true z len row) ∧ ∀ j, j < len → mL N e (row j)
def mL (N : Nat) : List Ds → List Seg → Prop
  | [], l => l = []
  | d :: r, l => ∃ s t, l = s :: t ∧ mD N d s ∧ mL N r t
end
theorem mD_len {N : Nat} {d : Ds} {s : Seg} (h : mD N d s) : lenS [s] = szD d := by
  cases d with
  | run k n => simp only [mD] at h; obtain ⟨f, rfl, _⟩ := h; rfl
  | str => simp only [mD] at h; obtain ⟨b, rfl⟩ := h; rfl
  | bool => simp only [mD] at h; obtain ⟨b, rfl⟩ := h; rfl
  | sl z e => simp only [mD] at h; obtain ⟨len, row, _, rfl, _⟩ := h; rfl
theorem mL_len {N : Nat} : ∀ {l : List Ds} {s : List Seg}, mL N l s → lenS s = szL l
  | [], s, h => by simp only [mL] at h; subst h; rfl
  | d :: r, l, h => by
    simp only [mL] at h
    obtain ⟨s, t, rfl, h1, h2⟩ := h
    rw [lenS_cons, mD_len h1, mL_len h2]; rfl
theorem mL_append {N : Nat} : ∀ {a b : List Ds} {s t : List Seg}, mL N a s → mL N b t → mL N (a ++ b) (s ++ t)
  | [], b, s, t, h1, h2 => by simp only [mL] at h1; subst h1; exact h2
  | d :: a, b, l, t, h1, h2 => by
    simp only [mL] at h1
    obtain ⟨s, t', rfl, q1, q2⟩ := h1
    simp only [List.cons_append, mL]
    exact ⟨s, t' ++ t, rfl, q1, mL_append q2 h2⟩
theorem cell_append : ∀ (s t : List Seg) (c : Nat), c < lenS s + lenS t → cellAt (s ++ t) c = if c < lenS s then cellAt s c else cellAt t (c - lenS s)
  | [], t, c, h => by simp [lenS]
  | .ints k n f :: s, t, c, h => by
    rw [lenS_ints] at h ⊢
    rw [List.cons_append]
    by_cases e : c < n
    · rw [cellAt_ints_lt e, cellAt_ints_lt e, if_pos (by omega)]
    · have hl : c < n + lenS (s ++ t) := by
        have : lenS (s ++ t) = lenS s + lenS t := by
          clear e h
          induction s with
          | nil => simp [lenS]
          | cons x r ih => rw [List.cons_append, lenS_cons, lenS_cons x r, ih]; omega
        omega
      rw [cellAt_ints_ge (by omega) hl, cell_append s t (c - n) (by omega)]
      by_cases e2 : c < n + lenS s
      · rw [if_pos (by omega), if_pos e2, cellAt_ints_ge (by omega) e2]
      · rw [if_neg (by omega), if_neg e2]
        congr 1; omega
  | .one v :: s, t, c, h => by
    rw [lenS_one] at h ⊢
    rw [List.cons_append]
    cases c with
    | zero => rw [if_pos (by omega)]; cases s <;> cases t <;> rfl
    | succ c =>
      rw [cellAt_one_succ, cell_append s t c (by omega)]
      by_cases e2 : c < lenS s
      · rw [if_pos e2, if_pos (by omega), cellAt_one_succ]
      · rw [if_neg e2, if_neg (by omega)]
        congr 1; omega
theorem lenS_app (s t : List Seg) : lenS (s ++ t) = lenS s + lenS t := by
  induction s with
  | nil => simp [lenS]
  | cons x r ih => rw [List.cons_append, lenS_cons, lenS_cons x r, ih]; omega
theorem RG.append {σ : Sg} {pr : Pr} {w : World} {s t : List Seg} {a b : List Value} (h1 : RG σ pr w s a) (h2 : RG σ pr w t b) : RG σ pr w (s ++ t) (a ++ b) := by
  refine ⟨by rw [List.length_append, h1.1, h2.1, lenS_app], fun c v hv => ?_⟩
  have hc : c < lenS s + lenS t := by
    have := (List.getElem?_eq_some_iff.1 hv).1
    rw [List.length_append, h1.1, h2.1] at this
    exact this
  rw [cell_append s t c hc]
  by_cases e : c < lenS s
  · rw [if_pos e]
    rw [List.getElem?_append_left (by rw [h1.1]; exact e)] at hv
    exact h1.2 c v hv
  · rw [if_neg e]
    rw [List.getElem?_append_right (by rw [h1.1]; omega), h1.1] at hv
    exact h2.2 _ v hv
section
variable {H : Type} {enc : TypeId × Value → H} {P : Program} {W : World}
theorem rg_one {σ : Sg} {pr : Pr} {w : World} {s : SV} {v : Value} (h : RS σ pr w s v) : RG σ pr w [.one s] [v] :=
  ⟨rfl, fun c x hx => by
    cases c with
    | zero => simp only [List.getElem?_cons_zero, Option.some.injEq] at hx; subst hx; exact h
    | succ c => simp at hx⟩
theorem fld_open {N : Nat} {c : TypeId → Nat} {g : TypeId → List Ds → Bool} {cs : List Value} {R : TypeId → List Value → Prop}
    (hg : ∀ t l v, g t l = true → R t v → v.length = szL l → ∃ s, mL N l s ∧ RG noσ (prOf W) W s v) :
    ∀ (fs : List Field) (l : List Ds) (off : Nat), fldB c g fs l off = true → (∀ (i : Nat) (f : Field), fs[i]? = some f → R f.type ((cs.drop f.offset).take (c f.type))) → cs.length = off + szL l → ∃ s, mL N l s ∧ RG noσ (prOf W) W s (cs.drop off)
  | [], [], off, _, _, hl => ⟨[], by simp only [mL], by
      rw [List.drop_eq_nil_of_le (by simp only [szL] at hl; omega)]
      exact ⟨rfl, fun i v h => by simp at h⟩⟩
  | [], _ :: _, off, h, _, _ => by simp [fldB] at h
  | f :: r, l, off, h, hR, hl => by
    simp only [fldB] at h
    split at h
    case h_2 => simp at h
    rename_i a b hs
    simp only [Bool.and_eq_true, beq_t] at h
    obtain ⟨⟨h1, h2⟩, h3⟩ := h
    obtain ⟨rfl, hsz⟩ := splitD_spec _ _ _ _ _ hs
    rw [szL_append] at hl
    have h0 := hR 0 f rfl
    rw [h1] at h0
    have hlen : ((cs.drop off).take (c f.type)).length = szL a := by rw [List.length_take, List.length_drop]; omega
    obtain ⟨s1, m1, r1⟩ := hg f.type a _ h2 h0 hlen
    obtain ⟨s2, m2, r2⟩ := fld_open hg r b (off + c f.type) h3 (fun i g' e => hR (i + 1) g' (by simpa using e)) (by omega)
    refine ⟨s1 ++ s2, mL_append m1 m2, ?_⟩
    have e : cs.drop off = (cs.drop off).take (c f.type) ++ cs.drop (off + c f.type) := by
      rw [← List.drop_drop, List.take_append_drop]
    rw [e]
    exact r1.append r2
theorem open_ds {N : Nat} : ∀ (fuel : Nat) (t : TypeId) (l : List Ds), tyB P fuel t l = true → ∀ (tf : Nat) (cs : List Value) (x : DataW H × List MemPlace),
    DataW.trod enc P W 0 (fun _ => true) true tf t cs = some x → bk x.1 ≤ N → ∃ s, mL N l s ∧ RG noσ (prOf W) W s cs
  | 0, t, l, h, _, _, _, _, _ => by simp [tyB] at h
  | fuel + 1, t, l, h, tf, cs, x, hx, hb => by
    unfold tyB at h
    split at h
    · rename_i k hk
      split at h
      case h_2 => simp at h
      rename_i k' n
      simp only [Bool.and_eq_true, beq_t] at h
      obtain ⟨h1, rfl⟩ := h
      obtain ⟨v, rfl, _, hw⟩ := DataW.trod_int hk hx
      rw [← kEq_spec h1]
      refine ⟨[.ints k 1 (fun _ => v)], by simp only [mL]; exact ⟨_, _, rfl, by simp only [mD]; exact ⟨_, rfl, fun _ _ => hw⟩, rfl⟩, rfl, fun c y hy => ?_⟩
      cases c with
      | zero => simp only [List.getElem?_cons_zero, Option.some.injEq] at hy; subst hy; exact .int
      | succ c => simp at hy
    · rename_i hk
      split at h
      case h_2 => simp at h
      obtain ⟨b, rfl, _⟩ := DataW.trod_bool hk hx
      exact ⟨[.one (.bool b)], by simp only [mL]; exact ⟨_, _, rfl, by simp only [mD]; exact ⟨b, rfl⟩, rfl⟩, rg_one .bool⟩
    · rename_i hk
      split at h
      case h_2 => simp at h
      obtain ⟨b, rfl, _⟩ := DataW.trod_string hk hx
      exact ⟨[.one (.str b)], by simp only [mL]; exact ⟨_, _, rfl, by simp only [mD]; exact ⟨b, rfl⟩, rfl⟩, rg_one .str⟩
    · rename_i n e hk
      split at h
      case h_2 => simp at h
      rename_i k m
      split at h
      case h_2 => simp at h
      rename_i k' he
      simp only [Bool.and_eq_true, beq_t] at h
      obtain ⟨h1, rfl, hc, hct⟩ := h
      obtain rfl := kEq_spec h1
      obtain ⟨xs, q, _, _, hlen, hxl, hel⟩ := DataW.trod_array hk hx
      have each : ∀ i, i < n → ∃ v, cs[i]? = some (.int k' v) ∧ (Lit.int k' v).wf = true := fun i hi => by
        have h1 := hel i hi
        rw [hc, Nat.mul_one, List.getElem?_eq_getElem (by omega)] at h1
        obtain ⟨v, h2, _, h3⟩ := DataW.trod_int he h1
        refine ⟨v, ?_, h3⟩
        have h4 := congrArg (fun l => l[0]?) h2
        simp only [List.getElem?_cons_zero, List.getElem?_take, List.getElem?_drop, Nat.lt_one_iff, if_true, Nat.add_zero] at h4
        exact h4
      refine ⟨[.ints k' n (fun i => match cs[i]? with | some (.int _ v) => v | _ => 0)], by
        simp only [mL]
        refine ⟨_, _, rfl, ?_, rfl⟩
        simp only [mD]
        refine ⟨_, rfl, fun c hc => ?_⟩
        obtain ⟨v, h1, h2⟩ := each c hc
        rw [h1]; exact h2, by rw [hlen, hct]; rfl, fun c y hy => ?_⟩
      have hcn : c < n := by
        have := (List.getElem?_eq_some_iff.1 hy).1
        omega
      obtain ⟨v, h1, _⟩ := each c hcn
      rw [cellAt_ints_lt hcn]
      rw [hy] at h1
      simp only [Option.some.injEq] at h1
      subst h1
      rw [hy]; exact .int
    · rename_i e hk
      split at h
      case h_2 => simp at h
      rename_i z d
      simp only [Bool.and_eq_true, beq_t, ble_t] at h
      obtain ⟨⟨hz, hzd⟩, hz1, hd⟩ := h
      rcases Go.Deep.open_slice hk hx with ⟨rfl, _⟩ | ⟨a, len, cap, m, n, D, Pl, rfl, hab, hlc, _, hm, rfl, hel⟩
      · exact ⟨[.one (.vrows true z 0 (fun _ => []))], by simp only [mL]; exact ⟨_, _, rfl, by simp only [mD]; exact ⟨0, _, Nat.zero_le _, rfl, fun j hj => by omega⟩, rfl⟩, rg_one .vrows0⟩
      · simp only [if_true] at hm
        subst hm
        have hbk : bkA ((List.range len).map D) + 1 ≤ N := hb
        have hlenN : len ≤ N := by
          have := bk_len ((List.range len).map D)
          simp only [List.length_map, List.length_range] at this
          omega
        rw [hz] at hel
        have each : ∀ j, j < len → ∃ s, mL N d s ∧ ∃ cs', W.cells? 0 (a.add (j * z)) z = some cs' ∧ RG noσ (prOf W) W s cs' := fun j hj => by
          obtain ⟨cs', h1, h2⟩ := hel j (by omega)
          have hbj : bk (D j) ≤ N := by
            have := bk_mem (l := (List.range len).map D) (d := D j) (List.mem_map.2 ⟨j, List.mem_range.2 hj, rfl⟩)
            omega
          obtain ⟨s, m1, r1⟩ := open_ds fuel e d hd n cs' _ h2 hbj
          exact ⟨s, m1, cs', h1, r1⟩
        obtain ⟨row, hrow⟩ := Go.Deep.choose_lt (α := List Seg) each
        refine ⟨[.one (.vrows true z len row)], by simp only [mL]; exact ⟨_, _, rfl, by simp only [mD]; exact ⟨len, row, hlenN, rfl, fun j hj => (hrow j hj).1⟩, rfl⟩, rg_one ?_⟩
        by_cases h0 : len = 0
        · subst h0; exact .vrows0
        · have hcell : ∀ j, j < len → ∀ c, c < z → ∃ v, W.cell? ((a.add (j * z)).add c) = some v ∧ RS noσ (prOf W) W (cellAt (row j) c) v := fun j hj c hc => by
            obtain ⟨_, cs', h1, h2⟩ := hrow j hj
            obtain ⟨_, hl, hg⟩ := World.cells?_some h1
            have h3 := hg c hc
            rw [List.getElem?_eq_getElem (by omega)] at h3
            exact ⟨_, h3, h2.2 c _ (List.getElem?_eq_getElem (by omega))⟩
          obtain ⟨b, off, spot⟩ := a
          have hspot : spot = none := by
            obtain ⟨v, h1, _⟩ := hcell 0 (by omega) 0 (by omega)
            simpa [Addr.add] using World.cell?_spot h1
          subst hspot
          have hadd : ∀ j c, ((⟨b, off, none⟩ : Addr).add (j * z)).add c = ⟨b, off + j * z + c, none⟩ := fun j c => by rw [add_plain, add_plain]
          refine .vrows (fun j c => (W.cell? ⟨b, off + j * z + c, none⟩).getD undef) ?_ (fun j hj c hc => ?_) (fun j hj c hc => ?_) (fun j hj => ?_) hlc
          · obtain ⟨v, h1, _⟩ := hcell 0 (by omega) 0 (by omega)
            rw [hadd] at h1
            exact cell_lt h1
          · obtain ⟨v, h1, _⟩ := hcell j hj c hc
            rw [hadd] at h1
            rw [h1]; rfl
          · obtain ⟨v, h1, h2⟩ := hcell j hj c hc
            rw [hadd] at h1
            rw [h1]; exact h2
          · rw [mL_len (hrow j hj).1, hzd]; exact Nat.le_refl _
    · rename_i fs hk
      simp only [Bool.and_eq_true, beq_t] at h
      obtain ⟨hc, hf⟩ := h
      obtain ⟨xs, n, _, rfl, hlen, hxl, hel⟩ := DataW.trod_struct hk hx
      have hbk : bkA (xs.map (·.1)) + 1 ≤ N := hb
      obtain ⟨s, m1, r1⟩ := fld_open (N := N) (W := W) (c := P.cellsOf) (g := tyB P fuel) (cs := cs) (R := fun t v => ∃ y, DataW.trod enc P W 0 (fun _ => true) true n t v = some y ∧ bk y.1 ≤ N)
        (fun t l v h1 ⟨y, h2, h3⟩ _ => open_ds fuel t l h1 n v y h2 h3) fs.toList l 0 hf (fun i f hi => by
          have hi' : fs[i]? = some f := by simpa using hi
          have h1 := hel i f hi'
          have hlt : i < xs.length := by rw [hxl]; exact (Array.getElem?_eq_some_iff.1 hi').1
          rw [List.getElem?_eq_getElem hlt] at h1
          refine ⟨_, h1, ?_⟩
          have := bk_mem (l := xs.map (·.1)) (d := xs[i].1) (List.mem_map.2 ⟨_, List.getElem_mem hlt, rfl⟩)
          omega) (by rw [hlen, hc]; omega)
      exact ⟨s, m1, by simpa using r1⟩
    · simp at h
end
end Go.AM
namespace Go.AM
open Go Go.RowKit Go.ChangeShapes Go.WideShapes
def cellN (s : List Seg) (i c : Nat) : Int := match s[i]? with
  | some (.ints _ _ f) => f c
  | _ => 0
theorem run_of {N : Nat} {k : IntKind} {z : Nat} {s : List Seg} (h : mL N [.run k z] s) : s = [.ints k z (cellN s 0)] ∧ ∀ c, c < z → (Lit.int k (cellN s 0 c)).wf = true := by
  simp only [mL] at h
  obtain ⟨a, b, rfl, h1, rfl⟩ := h
  simp only [mD] at h1
  obtain ⟨f, rfl, h2⟩ := h1
  exact ⟨rfl, h2⟩
section
variable {H : Type} {enc : TypeId × Value → H} {P : Program} {W : World}
theorem rows_runs {σ : Sg} {pr : Pr} {w : World} {N : Nat} {k : IntKind} {z len : Nat} {row : Nat → List Seg} {v : Value} (h : RS σ pr w (.vrows true z len row) v) (hr : ∀ j, j < len → mL N [.run k z] (row j)) :
    RS σ pr w (.vints true k z len (fun j c => cellN (row j) 0 c)) v := by
  cases h with
  | vrows0 => exact .vints0
  | vrows vs h1 h2 h3 h4 h5 =>
    refine .vints h1 (fun j hj c hc => ?_) h5
    rw [h2 j hj c hc]
    have e := h3 j hj c hc
    obtain ⟨e1, _⟩ := run_of (hr j hj)
    rw [e1, cellAt_ints_lt hc] at e
    rw [RS.int_inv e]
theorem arg_list {N fuel z : Nat} {t : TypeId} {e : List Ds} {r : Reach} {b0 : Nat} {v : Value} {d : DataW H} {ps : List MemPlace} {q : TypeId} (ht : P.underlying t = some (.slice q)) (hty : tyB P fuel t [.sl z e] = true)
    (hval : Value.okWide P W r b0 t v) (h : DataW.Trod enc P W 0 (fun _ => true) true t v d ps) (hb : bk d ≤ N) :
    ∃ (n : Nat) (row : Nat → List Seg), n ≤ N ∧ RV noσ (prOf W) W (.sc (.vrows true z n row)) v ∧ ∀ j, j < n → mL N e (row j) := by
  obtain ⟨a, len, cap, rfl⟩ := okWide_slice ht hval
  obtain ⟨tf, hf⟩ := h
  have hcells : (Value.slice a len cap).cells.toList = [.slice a len cap] := rfl
  rw [hcells] at hf
  obtain ⟨s, m, rg⟩ := open_ds fuel t _ hty tf _ _ hf hb
  simp only [mL] at m
  obtain ⟨s0, s1, rfl, m0, rfl⟩ := m
  simp only [mD] at m0
  obtain ⟨n, row, hn, rfl, hr⟩ := m0
  exact ⟨n, row, hn, rg.2 0 _ rfl, hr⟩
theorem arg_runs {N fuel z : Nat} {t : TypeId} {k : IntKind} {r : Reach} {b0 : Nat} {v : Value} {d : DataW H} {ps : List MemPlace} {q : TypeId} (ht : P.underlying t = some (.slice q)) (hty : tyB P fuel t [.sl z [.run k z]] = true)
    (hval : Value.okWide P W r b0 t v) (h : DataW.Trod enc P W 0 (fun _ => true) true t v d ps) (hb : bk d ≤ N) :
    ∃ (n : Nat) (f : Nat → Nat → Int), n ≤ N ∧ RV noσ (prOf W) W (.sc (.vints true k z n f)) v ∧ ∀ j, j < n → ∀ c, c < z → (Lit.int k (f j c)).wf = true := by
  obtain ⟨n, row, hn, hv, hr⟩ := arg_list ht hty hval h hb
  exact ⟨n, _, hn, RV.of_sc (rows_runs hv hr), fun j hj => (run_of (hr j hj)).2⟩
theorem arg_rows {N fuel : Nat} {t : TypeId} {r : Reach} {b0 : Nat} {v : Value} {d : DataW H} {ps : List MemPlace} {q : TypeId} (ht : P.underlying t = some (.slice q)) (hty : tyB P fuel t [.sl 32 [.run .u8 32]] = true)
    (hval : Value.okWide P W r b0 t v) (h : DataW.Trod enc P W 0 (fun _ => true) true t v d ps) (hb : bk d ≤ N) :
    ∃ (n : Nat) (f : Nat → Nat → Int), n ≤ N ∧ RV noσ (prOf W) W (.sc (.vints true .u8 32 n f)) v ∧ ∀ j, j < n → areB (f j) 32 0 = true := by
  obtain ⟨n, f, hn, hv, hw⟩ := arg_runs ht hty hval h hb
  exact ⟨n, f, hn, hv, fun j hj => areB_mk fun i hi => by rw [Nat.zero_add]; exact wf_u8 (hw j hj i hi)⟩
end
end Go.AM
