/-
  The law SuiteDivides, reckoned.
-/
import Derived.Test.YtgjnfabhjbadoabCc
import Derived.Test.YtgjnfabhjbadoabDd
import Derived.Test.YtgjnfabhjbadoabBc
namespace Go.Proofs.Ytgjnfabhjbadoab
open Go.Proofs.Try
open Go Go.AM
noncomputable def dl1 : List (Nat × TF) := (F_rimelaw06_works, k0T (.sc (.bool true))) :: (F_suite_H1, tHn rhoB) :: (F_suite_H2, tHn []) :: (F_suite_H3, tHn nonB) :: (F_suite_H4, tHd msgB) :: (F_suite_H5, tHd comB) :: []
theorem DL1 : LibOK prog tt dl1 [] := ((((((L0.addT r_H5).addT r_H4).addT r_H3).addT r_H2).addT r_H1).addT r_works)
def dvM (n : Nat) : Int := wr .i64 ((n : Int) + 1)
def dvR (i : Int) (n : Nat) : Int := Int.tmod i (dvM n)
def dvX (neg : Bool) (i : Int) (n : Nat) : Int := bif neg then wr .i64 (wr .i64 (dvR i n + (n : Int)) + 1) else dvR i n
def qB (n : Nat) (b : Nat → Nat → Int) : Nat × (Nat → Int) := (n, fun i => b i 0)
def qL (x : Int) (b : Nat → Nat → Int) : Nat × (Nat → Int) := (x.toNat - 0, fun i => b (0 + i) 0)
def qR (x : Int) (n : Nat) (b : Nat → Nat → Int) : Nat × (Nat → Int) := (n - x.toNat, fun i => b (x.toNat + i) 0)
def qN : Nat × (Nat → Int) := (0, fun _ => 0)
def qW (l : List Int) : Nat × (Nat → Int) := (l.length, fun i => svInt (cellAt ((l.map fun x => [Seg.ints .u8 1 (fun _ => x)]).getD (0 + i) []) 0))
def ctxI : List Int := [70, 82, 79, 83, 84, 45, 69, 68, 50, 53, 53, 49, 57, 45, 83, 72, 65, 53, 49, 50, 45, 118, 49]
def rhoI : List Int := [114, 104, 111]
def nonI : List Int := [110, 111, 110, 99, 101]
def rhoxI : List Int := [114, 104, 111, 120]
def xI : List Int := [120]
theorem c_div : fnChk prog (envP tt dl1 []) f_rimelaw06_SuiteDivides = true := by kernel_rfl
noncomputable def dCkt (n m : Nat) (b c : Nat → Nat → Int) (i : Int) : List Bool :=
  [!decide (dvM n = 0),
   decide (dvR i n < 0) == true,
   okTot (catL (wP rhoB :: [qB n b])).1 && true,
   inB (dvX true i n) (n : Int),
   inB (dvX true i n) (n : Int),
   okTot (catL (wP rhoB :: [qL (dvX true i n) b, qR (dvX true i n) n b])).1 && true,
   (!(eqN 32 (lf (byL 32 (hNum rhoB [qB n b]))) (lf (byL 32 (hNum rhoB [qL (dvX true i n) b, qR (dvX true i n) n b]))) && true)) == false,
   okTot (catL (wP [] :: [qB n b])).1 && true,
   inB (dvX true i n) (n : Int),
   inB (dvX true i n) (n : Int),
   okTot (catL (wP [] :: [qL (dvX true i n) b, qN, qR (dvX true i n) n b])).1 && true,
   (!(eqN 32 (lf (byL 32 (hNum [] [qB n b]))) (lf (byL 32 (hNum [] [qL (dvX true i n) b, qN, qR (dvX true i n) n b]))) && true)) == false,
   inB (dvX true i n) (n : Int),
   inB (dvX true i n) (n : Int),
   okTot (catL (wP nonB :: [qL (dvX true i n) b, qR (dvX true i n) n b, qB m c])).1 && true,
   okTot (catL (wP nonB :: [qB n b, qB m c])).1 && true,
   (!(eqN 32 (lf (byL 32 (hNum nonB [qL (dvX true i n) b, qR (dvX true i n) n b, qB m c]))) (lf (byL 32 (hNum nonB [qB n b, qB m c]))) && true)) == false,
   okTot (catL (wP msgB :: [qB n b, qB m c])).1 && true,
   inB (dvX true i n) (n : Int),
   inB (dvX true i n) (n : Int),
   okTot (catL (wP msgB :: [qL (dvX true i n) b, qR (dvX true i n) n b, qB m c])).1 && true,
   (!(eqN 64 (lf (tabL (hDig msgB [qB n b, qB m c]) 64 0)) (lf (tabL (hDig msgB [qL (dvX true i n) b, qR (dvX true i n) n b, qB m c]) 64 0)) && true)) == false,
   okTot (catL (wP comB :: [qB n b])).1 && true,
   inB (dvX true i n) (n : Int),
   inB (dvX true i n) (n : Int),
   okTot (catL (wP comB :: [qL (dvX true i n) b, qR (dvX true i n) n b])).1 && true,
   (!(eqN 64 (lf (tabL (hDig comB [qB n b]) 64 0)) (lf (tabL (hDig comB [qL (dvX true i n) b, qR (dvX true i n) n b]) 64 0)) && true)) == false,
   okTot (catL (wP rhoB :: [qB n b])).1 && true,
   okTot (catL (wP [] :: [qW ctxI, qW rhoI, qB n b])).1 && true,
   (eqN 32 (lf (byL 32 (hNum rhoB [qB n b]))) (lf (byL 32 (hNum [] [qW ctxI, qW rhoI, qB n b]))) && true) == true,
   okTot (catL (wP nonB :: [qB n b])).1 && true,
   okTot (catL (wP [] :: [qW ctxI, qW nonI, qB n b])).1 && true,
   (eqN 32 (lf (byL 32 (hNum nonB [qB n b]))) (lf (byL 32 (hNum [] [qW ctxI, qW nonI, qB n b]))) && true) == true,
   okTot (catL (wP rhoB :: [qW xI, qB n b])).1 && true,
   okTot (catL (wP [] :: [qW ctxI, qW rhoxI, qB n b])).1 && true]
noncomputable def dValt (n : Nat) (b : Nat → Nat → Int) : Bool := eqN 32 (lf (byL 32 (hNum rhoB [qW xI, qB n b]))) (lf (byL 32 (hNum [] [qW ctxI, qW rhoxI, qB n b]))) && true
noncomputable def dRunt (t t' : Bool) (n m : Nat) (b c : Nat → Nat → Int) (i : Int) : Option (Bool × AV) :=
  outP (apFunc (envP tt dl1 []) [(17, true), (37, false), (51, false), (67, false), (83, false), (96, false), (107, true), (119, true)] 5 f_rimelaw06_SuiteDivides [.sc (.vints t .u8 1 n b), .sc (.int .i64 i), .sc (.vints t' .u8 1 m c)] [])
theorem k_divt1 (t t' : Bool) (n m : Nat) (b c : Nat → Nat → Int) (i : Int) : (dRunt t t' n m b c i).map (·.2) = some (.sc (.bool (dValt n b))) := by kernel_rfl
theorem k_divt2 (t t' : Bool) (n m : Nat) (b c : Nat → Nat → Int) (i : Int) : (dRunt t t' n m b c i).map (·.1) = some (ckL (dCkt n m b c i)) := by kernel_rfl
noncomputable def dCkf (n m : Nat) (b c : Nat → Nat → Int) (i : Int) : List Bool :=
  [!decide (dvM n = 0),
   decide (dvR i n < 0) == false,
   okTot (catL (wP rhoB :: [qB n b])).1 && true,
   inB (dvX false i n) (n : Int),
   inB (dvX false i n) (n : Int),
   okTot (catL (wP rhoB :: [qL (dvX false i n) b, qR (dvX false i n) n b])).1 && true,
   (!(eqN 32 (lf (byL 32 (hNum rhoB [qB n b]))) (lf (byL 32 (hNum rhoB [qL (dvX false i n) b, qR (dvX false i n) n b]))) && true)) == false,
   okTot (catL (wP [] :: [qB n b])).1 && true,
   inB (dvX false i n) (n : Int),
   inB (dvX false i n) (n : Int),
   okTot (catL (wP [] :: [qL (dvX false i n) b, qN, qR (dvX false i n) n b])).1 && true,
   (!(eqN 32 (lf (byL 32 (hNum [] [qB n b]))) (lf (byL 32 (hNum [] [qL (dvX false i n) b, qN, qR (dvX false i n) n b]))) && true)) == false,
   inB (dvX false i n) (n : Int),
   inB (dvX false i n) (n : Int),
   okTot (catL (wP nonB :: [qL (dvX false i n) b, qR (dvX false i n) n b, qB m c])).1 && true,
   okTot (catL (wP nonB :: [qB n b, qB m c])).1 && true,
   (!(eqN 32 (lf (byL 32 (hNum nonB [qL (dvX false i n) b, qR (dvX false i n) n b, qB m c]))) (lf (byL 32 (hNum nonB [qB n b, qB m c]))) && true)) == false,
   okTot (catL (wP msgB :: [qB n b, qB m c])).1 && true,
   inB (dvX false i n) (n : Int),
   inB (dvX false i n) (n : Int),
   okTot (catL (wP msgB :: [qL (dvX false i n) b, qR (dvX false i n) n b, qB m c])).1 && true,
   (!(eqN 64 (lf (tabL (hDig msgB [qB n b, qB m c]) 64 0)) (lf (tabL (hDig msgB [qL (dvX false i n) b, qR (dvX false i n) n b, qB m c]) 64 0)) && true)) == false,
   okTot (catL (wP comB :: [qB n b])).1 && true,
   inB (dvX false i n) (n : Int),
   inB (dvX false i n) (n : Int),
   okTot (catL (wP comB :: [qL (dvX false i n) b, qR (dvX false i n) n b])).1 && true,
   (!(eqN 64 (lf (tabL (hDig comB [qB n b]) 64 0)) (lf (tabL (hDig comB [qL (dvX false i n) b, qR (dvX false i n) n b]) 64 0)) && true)) == false,
   okTot (catL (wP rhoB :: [qB n b])).1 && true,
   okTot (catL (wP [] :: [qW ctxI, qW rhoI, qB n b])).1 && true,
   (eqN 32 (lf (byL 32 (hNum rhoB [qB n b]))) (lf (byL 32 (hNum [] [qW ctxI, qW rhoI, qB n b]))) && true) == true,
   okTot (catL (wP nonB :: [qB n b])).1 && true,
   okTot (catL (wP [] :: [qW ctxI, qW nonI, qB n b])).1 && true,
   (eqN 32 (lf (byL 32 (hNum nonB [qB n b]))) (lf (byL 32 (hNum [] [qW ctxI, qW nonI, qB n b]))) && true) == true,
   okTot (catL (wP rhoB :: [qW xI, qB n b])).1 && true,
   okTot (catL (wP [] :: [qW ctxI, qW rhoxI, qB n b])).1 && true]
noncomputable def dValf (n : Nat) (b : Nat → Nat → Int) : Bool := eqN 32 (lf (byL 32 (hNum rhoB [qW xI, qB n b]))) (lf (byL 32 (hNum [] [qW ctxI, qW rhoxI, qB n b]))) && true
noncomputable def dRunf (t t' : Bool) (n m : Nat) (b c : Nat → Nat → Int) (i : Int) : Option (Bool × AV) :=
  outP (apFunc (envP tt dl1 []) [(17, false), (37, false), (51, false), (67, false), (83, false), (96, false), (107, true), (119, true)] 5 f_rimelaw06_SuiteDivides [.sc (.vints t .u8 1 n b), .sc (.int .i64 i), .sc (.vints t' .u8 1 m c)] [])
theorem k_divf1 (t t' : Bool) (n m : Nat) (b c : Nat → Nat → Int) (i : Int) : (dRunf t t' n m b c i).map (·.2) = some (.sc (.bool (dValf n b))) := by kernel_rfl
theorem k_divf2 (t t' : Bool) (n m : Nat) (b c : Nat → Nat → Int) (i : Int) : (dRunf t t' n m b c i).map (·.1) = some (ckL (dCkf n m b c i)) := by kernel_rfl
end Go.Proofs.Ytgjnfabhjbadoab
