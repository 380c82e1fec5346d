/-
  Texts of the claim: DLComb.
-/
import Derived.Test.YtbogcehngfjlkabGreatBe
import Derived.Test.YtbogcehngfjlkabGreatCc
namespace Go.Proofs.YtbogcehngfjlkabGreat
open Go.Proofs.Tryz
open Go Go.AM
noncomputable def lc0 : List (Nat × TF) := (F_rimeplain_SameScalars, tSameScalars) :: (F_rimeplain_SameElements, tSameElements) :: []
theorem LC0 : LibOK prog tt lc0 [] := (L0.addT r_sameElements).addT r_sameScalars
noncomputable def lc1 : List (Nat × TF) := (F_rimelaw06_num, sT (envP tt lc0 []) [] 5 f_rimelaw06_num) :: (F_rimelaw06_works, k0T (.sc (.bool true))) :: (F_rimeplain_Given_Intact, sT (envP tt lc0 []) [(142, false), (167, false)] 5 f_rimeplain_Given_Intact) ::
  (F_suite_Combine, tCombine) :: (F_rimeref06_Combine, tCombine) :: lc0
noncomputable def lc2 : List (Nat × AM.WF) := [(F_rimeplain_Given_Scalars, wgScalars), (F_rimeplain_Given_Elements, wgElements)]
theorem c_lcNum : fnChk prog (envP tt lc0 []) f_rimelaw06_num = true := by kernel_rfl
theorem c_lcInt : fnChk prog (envP tt lc0 []) f_rimeplain_Given_Intact = true := by kernel_rfl
theorem LC : LibOK prog tt lc1 lc2 := ((((((LC0.addW r_wgElements).addW r_wgScalars).addT r_combineG).addT r_combine).addT (sT_row LC0 at_rimeplain_Given_Intact [(142, false), (167, false)] 5 c_lcInt)).addT r_works).addT (sT_row LC0 at_rimelaw06_num [] 5 c_lcNum)
theorem c_lc : fnChk prog (envP tt lc1 lc2) f_rimelaw06_SuiteCombines = true := by kernel_rfl
def lcF (n : Nat) (f : Nat → Nat → Int) : Nat → Nat → Int := fun j d => gwFScalars n f (0 + j) (0 + d)
def lcG (n : Nat) (f : Nat → Nat → Int) : Nat → Nat → Int := fun j d => gwFElements n f (0 + j) (0 + d)
def lcCk (n m : Nat) (f g : Nat → Nat → Int) : List Bool :=
  [Nat.ble n 1073741824, Nat.ble m 1073741824, (lim n && rowsB (lcF n f) n) && rowsB (lcG m g) m, (lim n && rowsB f n) && rowsB g m,
   (eqN 32 (lf (byL 32 (cmbS (lcF n f) n (lcG m g) m).1)) (lf (byL 32 (cmbS f n g m).1)) && true) == true, ((cmbS (lcF n f) n (lcG m g) m).2 == (cmbS f n g m).2) == true,
   ckL [big (n + 3), (!(Nat.beq (n + 3) (n + 3) && eqF (n + 3) 32 (lcF n f) (gwFScalars n f))) == false, big (m + 3), (!(Nat.beq (m + 3) (m + 3) && eqF (m + 3) 32 (lcG m g) (gwFElements m g))) == false]]
noncomputable def lcRun (n m : Nat) (f g : Nat → Nat → Int) : Option (Bool × AV) := outP (apFunc (envP tt lc1 lc2) [(27, true), (32, true)] 5 f_rimelaw06_SuiteCombines [.sc (.vints true .u8 32 n f), .sc (.vints true .u8 32 m g)] [])
theorem k_lc1 (n m : Nat) (f g : Nat → Nat → Int) : (lcRun n m f g).map (·.2) = some (.sc (.bool true)) := by kernel_rfl
theorem k_lc2 (n m : Nat) (f g : Nat → Nat → Int) : (lcRun n m f g).map (·.1) = some (ckL (lcCk n m f g)) := by kernel_rfl
theorem combS_ext {f g f' g' : Nat → Nat → Int} {n : Nat} (hf : ∀ j, j < n → hval (f j) 32 0 = hval (f' j) 32 0) (hg : ∀ j, j < n → hval (g j) 32 0 = hval (g' j) 32 0) : combS f n g = combS f' n g' := by
  have hp : firstF (grp0 g) n 0 = firstF (grp0 g') n 0 := firstF_ext fun k _ hk => by unfold grp0; rw [hg k (by omega)]
  have hm : msS (cnF f) g n = msS (cnF f') g' n := msS_ext (fun j hj => by rw [cn_hval, cn_hval, hf j hj]) hg
  unfold combS
  rw [hp, hm]
  cases hb : Nat.beq (firstF (grp0 g') n 0) n with
  | true => rfl
  | false =>
    have hlt : firstF (grp0 g') n 0 < n := by
      have := (firstF_spec (grp0 g') n 0).2.1
      have := beq_f.1 hb
      omega
    rw [hg _ hlt]
theorem cmbS_ext {f g f' g' : Nat → Nat → Int} {n m : Nat} (hf : ∀ j, j < n → hval (f j) 32 0 = hval (f' j) 32 0) (hg : ∀ j, j < m → hval (g j) 32 0 = hval (g' j) 32 0) : cmbS f n g m = cmbS f' n g' m := by
  unfold cmbS
  by_cases e : n = m
  · subst e; rw [if_pos rfl, if_pos rfl, combS_ext hf hg]
  · rw [if_neg e, if_neg e]
theorem row_hval {f g : Nat → Int} (h : ∀ d, d < 32 → f d = g d) : hval f 32 0 = hval g 32 0 := hval_congr fun i hi => by rw [Nat.zero_add]; exact h i hi
theorem row_areB {f g : Nat → Int} (h : ∀ d, d < 32 → f d = g d) (hg : areB g 32 0 = true) : areB f 32 0 = true := areB_mk fun i hi => by
  rw [Nat.zero_add, h i hi]
  have := areB_t hg i hi
  rwa [Nat.zero_add] at this
theorem lc_ck {n m : Nat} {f g : Nat → Nat → Int} (hf : rowsB f n = true) (hn : n ≤ 1048576) (hg : rowsB g m = true) (hm : m ≤ 1048576) : ckL (lcCk n m f g) = true := by
  have eF : ∀ j, j < n → ∀ d, d < 32 → lcF n f j d = f j d := fun j hj d _ => by unfold lcF; rw [Nat.zero_add, Nat.zero_add]; exact upto_lt hj d
  have eG : ∀ j, j < m → ∀ d, d < 32 → lcG m g j d = g j d := fun j hj d _ => by unfold lcG; rw [Nat.zero_add, Nat.zero_add]; exact upto_lt hj d
  have b1 : Nat.ble n 1073741824 = true := Nat.ble_eq_true_of_le (by omega)
  have b2 : Nat.ble m 1073741824 = true := Nat.ble_eq_true_of_le (by omega)
  have b3 : lim n = true := b1
  have b4 : big (n + 3) = true := Nat.ble_eq_true_of_le (by omega)
  have b5 : big (m + 3) = true := Nat.ble_eq_true_of_le (by omega)
  have r1 : rowsB (lcF n f) n = true := rowsB_t.2 fun j hj => row_areB (eF j hj) (rowsB_t.1 hf j hj)
  have r2 : rowsB (lcG m g) m = true := rowsB_t.2 fun j hj => row_areB (eG j hj) (rowsB_t.1 hg j hj)
  have ec : cmbS (lcF n f) n (lcG m g) m = cmbS f n g m := cmbS_ext (fun j hj => row_hval (eF j hj)) fun j hj => row_hval (eG j hj)
  have z1 : eqF (n + 3) 32 (lcF n f) (gwFScalars n f) = true := eqF_of fun r _ d _ => by unfold lcF; rw [Nat.zero_add, Nat.zero_add]
  have z2 : eqF (m + 3) 32 (lcG m g) (gwFElements m g) = true := eqF_of fun r _ d _ => by unfold lcG; rw [Nat.zero_add, Nat.zero_add]
  refine ckL_t.2 fun c hc => ?_
  unfold lcCk at hc
  rw [ec, b1, b2, b3, b4, b5, r1, r2, hf, hg, z1, z2] at hc
  simp only [eqN_refl, nbeq_refl, beq_self_eq_true, Bool.and_self, List.mem_cons, List.not_mem_nil, or_false] at hc
  rcases hc with h | h | h | h | h | h | h <;> rw [h] <;> rfl
theorem lc_pure {n m : Nat} {f g : Nat → Nat → Int} (hf : rowsB f n = true) (hn : n ≤ 1048576) (hg : rowsB g m = true) (hm : m ≤ 1048576) :
    Pure prog F_rimelaw06_SuiteCombines [.sc (.vints true .u8 32 n f), .sc (.vints true .u8 32 m g)] (.sc (.bool true)) := by
  have h := both (k_lc2 n m f g) (k_lc1 n m f g)
  rw [lc_ck hf hn hg hm] at h
  exact pure_of_out LC at_rimelaw06_SuiteCombines c_lc h
end Go.Proofs.YtbogcehngfjlkabGreat
