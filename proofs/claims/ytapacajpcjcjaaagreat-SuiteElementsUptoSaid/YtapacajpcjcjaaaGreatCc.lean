/-
  Texts of the claim: DLEl.
-/
import Derived.Test.YtapacajpcjcjaaaGreatBd
import Derived.Test.YtapacajpcjcjaaaGreatCb
namespace Go.Proofs.YtapacajpcjcjaaaGreat
open Go.Proofs.Tryz
open Go Go.AM
noncomputable def le0 : List (Nat × TF) := (F_rimeplain_SameBytes, tSame) :: gsBytes
theorem LE0 : LibOK prog tt le0 [] := GBytes.addT r_same
noncomputable def le1 : List (Nat × TF) := (F_rimelaw06_num, sT (envP tt le0 []) [] 5 f_rimelaw06_num) :: (F_rimelaw06_works, k0T (.sc (.bool true))) :: (F_rimeplain_Given_Intact, sT (envP tt le0 []) [(42, false)] 5 f_rimeplain_Given_Intact) ::
  (F_suite_PutElement, tPutE) :: (F_rimeref06_PutElement, tPutE) :: (F_suite_GetElement, tGetE) :: (F_rimeref06_GetElement, tGetE) :: (F_suite_Exp, tExp) :: (F_rimeref06_Exp, tExp) :: le0
noncomputable def le2 : List (Nat × AM.WF) := [(F_rimeplain_Given_Bytes, wgBytes)]
theorem c_leNum : fnChk prog (envP tt le0 []) f_rimelaw06_num = true := by kernel_rfl
theorem c_leInt : fnChk prog (envP tt le0 []) f_rimeplain_Given_Intact = true := by kernel_rfl
theorem LE : LibOK prog tt le1 le2 := (((((((((LE0.addW r_wgBytes).addT r_expR).addT r_exp).addT r_getEG).addT r_getE).addT r_putEG).addT r_putE).addT (sT_row LE0 at_rimeplain_Given_Intact [(42, false)] 5 c_leInt)).addT r_works).addT (sT_row LE0 at_rimelaw06_num [] 5 c_leNum)
theorem c_el : fnChk prog (envP tt le1 le2) f_rimelaw06_SuiteElements = true := by kernel_rfl
def leW (n : Nat) (b : Nat → Nat → Int) : Int := hval (fun j => b j 0) n 0
def leV (n : Nat) (b : Nat → Nat → Int) : Int := hval (fun j => gwFBytes n b (0 + j) 0) n 0
def leG (e : Nat → Int) : Nat := bif decide (grpS (hval (ld0 e) 32 0) = 0) then 32 else 0
def leK (k : Nat → Int) : Int := hval (ld0 k) 32 0 % ordL
def leCk (e k : Nat → Int) (n : Nat) (b : Nat → Nat → Int) : List Bool :=
  [areB (ld0 e) 32 0, areB (ld0 e) 32 0, Nat.ble n 1073741824, areB (fun j => gwFBytes n b (0 + j) 0) n 0, areB (fun j => b j 0) n 0, areB (ld0 k) 32 0, areB (ld0 k) 32 0,
   big (leG e) && ((Nat.beq (leG e) (leG e) && eqF (leG e) 1 (fun j _ => ld0 e j) (fun j _ => ld0 e j)) == true), (grpS (hval (ld0 e) 32 0) == grpS (hval (ld0 e) 32 0)) == true,
   (eqN 32 (lf (byL 32 (getS n (leV n b)).1)) (lf (byL 32 (getS n (leW n b)).1)) && true) == true, ((getS n (leV n b)).2 == (getS n (leW n b)).2) == true,
   (eqN 32 (lf (byL 32 (expS (leK k)))) (lf (byL 32 (expS (leK k)))) && true) == true, ((bif decide (leK k = 0) then 9 else 0 : Int) == (bif decide (leK k = 0) then 9 else 0 : Int)) == true,
   ckL [big (n + 3), (!(Nat.beq (n + 3) (n + 3) && eqF (n + 3) 1 (fun j d => gwFBytes n b (0 + j) (0 + d)) (gwFBytes n b))) == false] && true]
noncomputable def leRun (e k : Nat → Int) (n : Nat) (b : Nat → Nat → Int) : Option (Bool × AV) :=
  outP (apFunc (envP tt le1 le2) [(53, true), (58, true), (63, true), (69, true), (74, true), (80, true), (83, true), (86, true)] 5 f_rimelaw06_SuiteElements [u8s 32 e, .sc (.vints true .u8 1 n b), u8s 32 k] [])
theorem k_el1 (e k : Nat → Int) (n : Nat) (b : Nat → Nat → Int) : (leRun e k n b).map (·.2) = some (.sc (.bool true)) := by kernel_rfl
theorem k_el2 (e k : Nat → Int) (n : Nat) (b : Nat → Nat → Int) : (leRun e k n b).map (·.1) = some (ckL (leCk e k n b)) := by kernel_rfl
theorem gwF_at {n : Nat} {b : Nat → Nat → Int} {j d : Nat} (h : j < n) : gwFBytes n b j d = b j d := upto_lt h d
theorem el_ck {e k : Nat → Int} {n : Nat} {b : Nat → Nat → Int} (he : areB e 32 0 = true) (hk : areB k 32 0 = true) (hb : areB (fun j => b j 0) n 0 = true) (hn : n ≤ 1048576) : ckL (leCk e k n b) = true := by
  have hv : areB (fun j => gwFBytes n b (0 + j) 0) n 0 = true := areB_mk fun j hj => by
    rw [Nat.zero_add, Nat.zero_add, gwF_at hj]
    have := areB_t hb j hj
    rwa [Nat.zero_add] at this
  have hw : leV n b = leW n b := hval_congr fun i hi => by rw [Nat.zero_add, Nat.zero_add, gwF_at hi]
  have bg : big (leG e) = true := by unfold leG; cases decide (grpS (hval (ld0 e) 32 0) = 0) <;> rfl
  have bn : big (n + 3) = true := Nat.ble_eq_true_of_le (by omega)
  have eZ : eqF (n + 3) 1 (fun j d => gwFBytes n b (0 + j) (0 + d)) (gwFBytes n b) = true := eqF_of fun r _ d _ => by rw [Nat.zero_add, Nat.zero_add]
  have b1 : Nat.ble n 1073741824 = true := Nat.ble_eq_true_of_le (by omega)
  refine ckL_t.2 fun c hc => ?_
  unfold leCk at hc
  rw [hw, hv, hb, bg, bn, eZ, b1, ld0_eq, ld0_eq, he, hk] at hc
  simp only [eqN_refl, eqF_refl, nbeq_refl, beq_self_eq_true, Bool.and_self, List.mem_cons, List.not_mem_nil, or_false] at hc
  rcases hc with h | h | h | h | h | h | h | h | h | h | h | h | h | h <;> rw [h] <;> rfl
theorem law_pure_lel {e k : Nat → Int} {n : Nat} {b : Nat → Nat → Int} (he : areB e 32 0 = true) (hb : areB (fun j => b j 0) n 0 = true) (hn : n ≤ 1048576) (hk : areB k 32 0 = true) :
    Pure prog F_rimelaw06_SuiteElements [u8s 32 e, .sc (.vints true .u8 1 n b), u8s 32 k] (.sc (.bool true)) := by
  have h := both (k_el2 e k n b) (k_el1 e k n b)
  rw [el_ck he hk hb hn] at h
  exact pure_of_out LE at_rimelaw06_SuiteElements c_el h
end Go.Proofs.YtapacajpcjcjaaaGreat
