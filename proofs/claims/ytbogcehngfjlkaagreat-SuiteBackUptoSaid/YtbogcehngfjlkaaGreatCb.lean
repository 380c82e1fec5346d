/-
  Texts of the claim: DLEl DLBack.
-/
import Derived.Test.YtbogcehngfjlkaaGreatBc
import Derived.Test.YtbogcehngfjlkaaGreatCa
namespace Go.Proofs.YtbogcehngfjlkaaGreat
open Go.Proofs.Tryz
open Go Go.AM
def leW (n : Nat) (b : Nat → Nat → Int) : Int := hval (fun j => b j 0) n 0
def leG (e : Nat → Int) : Nat := bif decide (grpS (hval (ld0 e) 32 0) = 0) then 32 else 0
def leK (k : Nat → Int) : Int := hval (ld0 k) 32 0 % ordL
end Go.Proofs.YtbogcehngfjlkaaGreat
namespace Go.Proofs.YtbogcehngfjlkaaGreat
open Go.Proofs.Tryz
open Go Go.AM
noncomputable def lb1 : List (Nat × TF) := (F_rimelaw06_works, k0T (.sc (.bool true))) :: (F_suite_PutScalar, tPut) :: (F_suite_GetScalar, tDecode) :: (F_rimeref04_IsPrime, tIsPrime) :: (F_rimeref04_Identity, tIdentG) :: (F_suite_PutElement, tPutE) :: (F_suite_GetElement, tGetE) :: (F_rimeplain_SameBytes, tSame) :: []
theorem LB : LibOK prog tt lb1 [] := (((((((L0.addT r_same).addT r_getE).addT r_putE).addT r_identG).addT r_isPrG').addT r_getS).addT r_put).addT r_works
theorem c_bk : fnChk prog (envP tt lb1 []) f_rimelaw06_SuiteBack = true := by kernel_rfl
def bgA : Nat → Guess
  | 0 => [(26, true), (33, false), (37, false), (42, true), (54, true), (56, true), (58, true), (63, true)]
  | 1 => [(26, false), (47, false), (54, false), (56, false)]
  | 2 => [(26, false), (47, false), (54, false), (56, true), (58, false)]
  | _ => [(26, false), (47, false), (54, false), (56, true), (58, true), (63, false)]
def bgB : Bool → Guess
  | true => [(72, true), (79, false), (83, true), (97, false), (107, true)]
  | false => [(72, false), (88, false), (97, false), (107, true)]
def bgD : Bool → Guess
  | true => [(116, false), (124, true), (129, true)]
  | false => [(116, true), (120, true)]
def bkE (e : Nat → Int) : Int := hval (ld0 e) 32 0
def bkGe (e : Nat → Int) : Int × Int := getS (leG e) (hval (fun j => ld0 e j) (leG e) 0)
def bkGb (n : Nat) (b : Nat → Nat → Int) : Int × Int := getS n (leW n b)
def bkP (e : Nat → Int) : List Bool := [areB (ld0 e) 32 0, (grpS (bkE e) == 0) == false, (((leG e : Nat) : Int) != 0) == false, areB (ld0 e) 32 0, (grpS (bkE e) == 0) == false]
def bkA (e : Nat → Int) : Nat → List Bool
  | 0 => [areB (ld0 e) 32 0, (grpS (bkE e) == 0) == true, areB (fun j => ld0 e j) (leG e) 0, ((bkGe e).2 != 0) == false, (!(eqN 32 (lf (byL 32 (bkGe e).1)) (ld0 e) && true)) == false,
     big (leG e) && ((Nat.beq (leG e) 32 && eqF (leG e) 1 (fun j _ => ld0 e j) (fun j d => e (0 + j * 1 + d))) == true), areB (ld0 e) 32 0, (grpS (bkE e) == 0) == true, (chkI (bkE e) == 0) == true, prS (bkE e) == true, (!(eqN 32 (ld0 e) (lf (byL 32 1)) && true)) == true]
  | 1 => bkP e ++ [(chkI (bkE e) == 0) == false]
  | 2 => bkP e ++ [(chkI (bkE e) == 0) == true, prS (bkE e) == false]
  | _ => bkP e ++ [(chkI (bkE e) == 0) == true, prS (bkE e) == true, (!(eqN 32 (ld0 e) (lf (byL 32 1)) && true)) == false]
def bkL (n : Nat) (b : Nat → Nat → Int) : Nat := bif decide (grpS (hval (lf (byL 32 (bkGb n b).1)) 32 0) = 0) then 32 else 0
def bkF (n : Nat) (b : Nat → Nat → Int) : Nat → Int := fun j => bif Nat.ble 0 (0 + j) && Nat.ble (0 + j + 1) 32 then lf (byL 32 (bkGb n b).1) (0 + j - 0) else 0
def bkB (n : Nat) (b : Nat → Nat → Int) : Bool → List Bool
  | true => [areB (fun j => b j 0) n 0, ((bkGb n b).2 == 0) == true, areB (lf (byL 32 (bkGb n b).1)) 32 0, (grpS (hval (lf (byL 32 (bkGb n b).1)) 32 0) != 0) == false, big (bkL n b) && ((Nat.beq (bkL n b) n && eqF (bkL n b) 1 (fun j _ => bkF n b j) b) == true)]
  | false => [areB (fun j => b j 0) n 0, ((bkGb n b).2 == 0) == false, (!(eqN 32 (lf (byL 32 (bkGb n b).1)) (fun _ => 0) && true)) == false]
def bkS (k : Nat → Int) : List Int × Int := decS 32 (fun j _ => lf (byL 32 (leK k)) j)
def bkCk (k : Nat → Int) : List Bool := [areB (ld0 k) 32 0, areB (lf (byL 32 (leK k))) 32 0, ((bkS k).2 != 0) == false, areB (lf (bkS k).1) 32 0, (Nat.beq 32 32 && eqF 32 1 (fun j _ => lf (byL 32 (hval (lf (bkS k).1) 32 0 % ordL)) j) (fun j _ => lf (byL 32 (leK k)) j)) == true]
def bkD (n : Nat) (b : Nat → Nat → Int) : Bool → List Bool
  | true => [big n && areB (fun j => b j 0) n 0, ((decS n b).2 != 0) == false, ((decS n b).2 == 0) == true, areB (lf (decS n b).1) 32 0, (Nat.beq 32 n && eqF 32 1 (fun j _ => lf (byL 32 (hval (lf (decS n b).1) 32 0 % ordL)) j) b) == true]
  | false => [big n && areB (fun j => b j 0) n 0, ((decS n b).2 != 0) == true, (eqN 32 (lf (decS n b).1) (fun _ => 0) && true) == true]
theorem k_bk (e k : Nat → Int) (n : Nat) (b : Nat → Nat → Int) : ∀ i, i < 4 → ∀ j l, outP (apFunc (envP tt lb1 []) (bgA i ++ (bgB j ++ bgD l)) 5 f_rimelaw06_SuiteBack [u8s 32 e, .sc (.vints true .u8 1 n b), u8s 32 k] []) =
    some (ckL (bkA e i ++ (bkB n b j ++ (bkCk k ++ bkD n b l))), .sc (.bool true))
  | 0, _, true, true => by kernel_rfl
  | 0, _, true, false => by kernel_rfl
  | 0, _, false, true => by kernel_rfl
  | 0, _, false, false => by kernel_rfl
  | 1, _, true, true => by kernel_rfl
  | 1, _, true, false => by kernel_rfl
  | 1, _, false, true => by kernel_rfl
  | 1, _, false, false => by kernel_rfl
  | 2, _, true, true => by kernel_rfl
  | 2, _, true, false => by kernel_rfl
  | 2, _, false, true => by kernel_rfl
  | 2, _, false, false => by kernel_rfl
  | 3, _, true, true => by kernel_rfl
  | 3, _, true, false => by kernel_rfl
  | 3, _, false, true => by kernel_rfl
  | 3, _, false, false => by kernel_rfl
  | i + 4, h, _, _ => by omega
theorem grp_1 {w : Int} (h : grpS w ≠ 0) (ho : opOk w = true) (hp : prS w = true) : w = 1 := by
  by_cases h1 : w = 1
  · exact h1
  · exact absurd (by unfold grpS; rw [ho, decide_eq_false h1, hp]; rfl) h
theorem eqN_self {b : Nat → Int} (hb : areB b 32 0 = true) : eqN 32 (lf (byL 32 (hval b 32 0))) b = true := by
  rw [eqN_symm, eqN_num hb (hval_range hb)]
  exact decide_eq_true rfl
theorem eqF_self {b : Nat → Nat → Int} {g : Nat → Int} (hb : areB (fun j => b j 0) 32 0 = true) (hg : ∀ j, j < 32 → g j = lf (byL 32 (hval (fun j => b j 0) 32 0)) j) : eqF 32 1 (fun j _ => g j) b = true := eqF_of fun r hr d hd => by
  obtain rfl : d = 0 := by omega
  rw [hg r hr]
  exact AM.eqN_t (eqN_self hb) r hr
theorem bkA_t {e : Nat → Int} (he : areB e 32 0 = true) : ∃ i, i < 4 ∧ ∀ c ∈ bkA e i, c = true := by
  have e0 : ld0 e = e := ld0_eq e
  by_cases hg : grpS (bkE e) = 0
  · refine ⟨0, by decide, fun c hc => ?_⟩
    obtain ⟨h1, h2, h3⟩ := grp_0 hg
    have hL : leG e = 32 := by
      show (bif decide (grpS (bkE e) = 0) then 32 else 0) = 32
      rw [decide_eq_true hg]; rfl
    have hG : bkGe e = (bkE e, 0) := by
      unfold bkGe
      rw [hL]
      show getS 32 (bkE e) = _
      unfold getS
      rw [if_pos rfl, hg]; rfl
    have hE : bkE e = hval e 32 0 := by unfold bkE; rw [e0]
    have hF : eqF 32 1 (fun j _ => ld0 e j) (fun j d => e (0 + j * 1 + d)) = true := eqF_of fun r hr d hd => by
      obtain rfl : d = 0 := by omega
      show e (0 + r) = e (0 + r * 1 + 0)
      rw [Nat.mul_one, Nat.add_zero]
    have hN : eqN 32 (lf (byL 32 (bkE e))) (ld0 e) = true := by rw [hE, e0]; exact eqN_self he
    have hO : eqN 32 (ld0 e) (lf (byL 32 1)) = false := by
      rw [e0, eqN_one he, ← hE]; exact decide_eq_false h2
    have hc2 : chkI (bkE e) = 0 := by unfold chkI; rw [h1]; rfl
    have hA : areB (fun j => ld0 e j) 32 0 = true := by show areB (ld0 e) 32 0 = true; rw [e0]; exact he
    unfold bkA at hc
    rw [hL, hG, hF, hN, hO, hc2, hg, h3, hA] at hc
    simp only [List.mem_cons, List.not_mem_nil, or_false] at hc
    rcases hc with h | h | h | h | h | h | h | h | h | h | h <;> rw [h] <;> rfl
  · have hL : leG e = 0 := by
      show (bif decide (grpS (bkE e) = 0) then 32 else 0) = 0
      rw [decide_eq_false hg]; rfl
    have hb : (grpS (bkE e) == 0) = false := by simpa using hg
    have hP : ∀ c ∈ bkP e, c = true := fun c hc => by
      unfold bkP at hc
      rw [hL, hb, e0, he] at hc
      simp only [List.mem_cons, List.not_mem_nil, or_false] at hc
      rcases hc with h | h | h | h | h <;> rw [h] <;> rfl
    cases ho : opOk (bkE e) with
    | false =>
      refine ⟨1, by decide, fun c hc => ?_⟩
      have hc2 : chkI (bkE e) = 41 := by unfold chkI; rw [ho]; rfl
      unfold bkA at hc
      rw [hc2] at hc
      rcases List.mem_append.1 hc with h | h
      · exact hP c h
      · simp only [List.mem_cons, List.not_mem_nil, or_false] at h
        rw [h]; rfl
    | true =>
      have hc2 : chkI (bkE e) = 0 := by unfold chkI; rw [ho]; rfl
      cases hp : prS (bkE e) with
      | false =>
        refine ⟨2, by decide, fun c hc => ?_⟩
        unfold bkA at hc
        rw [hc2, hp] at hc
        rcases List.mem_append.1 hc with h | h
        · exact hP c h
        · simp only [List.mem_cons, List.not_mem_nil, or_false] at h
          rcases h with h | h <;> rw [h] <;> rfl
      | true =>
        refine ⟨3, by decide, fun c hc => ?_⟩
        have h1 := grp_1 hg ho hp
        have hO : eqN 32 (ld0 e) (lf (byL 32 1)) = true := by
          rw [e0, eqN_one he]
          exact decide_eq_true (by rw [← h1]; unfold bkE; rw [e0])
        unfold bkA at hc
        rw [hc2, hp, hO] at hc
        rcases List.mem_append.1 hc with h | h
        · exact hP c h
        · simp only [List.mem_cons, List.not_mem_nil, or_false] at h
          rcases h with h | h | h <;> rw [h] <;> rfl
theorem bkB_t {n : Nat} {b : Nat → Nat → Int} (hb : areB (fun j => b j 0) n 0 = true) : ∃ j, ∀ c ∈ bkB n b j, c = true := by
  by_cases hn : n = 32
  · subst hn
    have hG : bkGb 32 b = (bif decide (grpS (leW 32 b) = 0) then leW 32 b else 0, grpS (leW 32 b)) := by unfold bkGb getS; rw [if_pos rfl]
    by_cases hg : grpS (leW 32 b) = 0
    · refine ⟨true, fun c hc => ?_⟩
      have hG2 : bkGb 32 b = (leW 32 b, 0) := by rw [hG, hg]; rfl
      have hr : 0 ≤ leW 32 b ∧ leW 32 b < R256 := hval_range hb
      have hL : bkL 32 b = 32 := by
        unfold bkL
        rw [hG2, hval_b32 hr.1 hr.2, decide_eq_true hg]; rfl
      have hF : eqF 32 1 (fun j _ => bkF 32 b j) b = true := eqF_self hb fun j hj => by
        unfold bkF
        rw [hG2, show Nat.ble 0 (0 + j) = true from Nat.ble_eq_true_of_le (Nat.zero_le _), show Nat.ble (0 + j + 1) 32 = true from Nat.ble_eq_true_of_le (by omega)]
        show lf (byL 32 (leW 32 b)) (0 + j - 0) = _
        rw [Nat.zero_add, Nat.sub_zero]; rfl
      unfold bkB at hc
      rw [hL, hF, hG2, areB_b32, hval_b32 hr.1 hr.2, hb, hg] at hc
      simp only [List.mem_cons, List.not_mem_nil, or_false] at hc
      rcases hc with h | h | h | h | h <;> rw [h] <;> rfl
    · refine ⟨false, fun c hc => ?_⟩
      have hG1 : (bkGb 32 b).1 = 0 := by rw [hG]; show (bif decide (grpS (leW 32 b) = 0) then leW 32 b else 0) = 0; rw [decide_eq_false hg]; rfl
      have hG2 : ((bkGb 32 b).2 == 0) = false := by rw [hG]; simpa using hg
      unfold bkB at hc
      rw [hG1, hG2, eqN_zero_el (by decide), hb] at hc
      simp only [List.mem_cons, List.not_mem_nil, or_false] at hc
      rcases hc with h | h | h <;> rw [h] <;> rfl
  · refine ⟨false, fun c hc => ?_⟩
    have hG : bkGb n b = (0, 3) := by unfold bkGb getS; rw [if_neg hn]
    unfold bkB at hc
    rw [hG, eqN_zero_el (by decide), hb] at hc
    simp only [List.mem_cons, List.not_mem_nil, or_false] at hc
    rcases hc with h | h | h <;> rw [h] <;> rfl
theorem bkC_t {k : Nat → Int} (hk : areB k 32 0 = true) : ∀ c ∈ bkCk k, c = true := fun c hc => by
  have hr := ord_mod (hval (ld0 k) 32 0)
  have hr : 0 ≤ leK k ∧ leK k < R256 := hr
  have hl : leK k < ordL := Int.emod_lt_of_pos _ (by decide)
  have hm : leK k % ordL = leK k := ord_ord _
  have hS : bkS k = (byL 32 (leK k), 0) := by
    unfold bkS decS
    have e : hval (fun j => lf (byL 32 (leK k)) j) 32 0 = leK k := hval_b32 hr.1 hr.2
    rw [if_pos rfl, e, if_pos hl]
    have e2 : tabL (fun j => lf (byL 32 (leK k)) j) 32 0 = byL 32 (leK k) := by
      show tabL (lf (byL 32 (leK k))) 32 0 = _
      rw [← byL_self (areB_b32 _), hval_b32 hr.1 hr.2]
    rw [e2]
  have hF : eqF 32 1 (fun j _ => lf (byL 32 (leK k)) j) (fun j _ => lf (byL 32 (leK k)) j) = true := eqF_refl _ _ _
  unfold bkCk at hc
  rw [hS, hval_b32 hr.1 hr.2, hm, areB_b32, hF, ld0_eq, hk] at hc
  simp only [List.mem_cons, List.not_mem_nil, or_false] at hc
  rcases hc with h | h | h | h | h <;> rw [h] <;> rfl
theorem bkD_t {n : Nat} {b : Nat → Nat → Int} (hb : areB (fun j => b j 0) n 0 = true) (hn : n ≤ 1048576) : ∃ l, ∀ c ∈ bkD n b l, c = true := by
  have bn : big n = true := Nat.ble_eq_true_of_le (by omega)
  by_cases h1 : n = 32 ∧ hval (fun j => b j 0) 32 0 < ordL
  · obtain ⟨rfl, h2⟩ := h1
    refine ⟨true, fun c hc => ?_⟩
    have hS : decS 32 b = (tabL (fun j => b j 0) 32 0, 0) := by unfold decS; rw [if_pos rfl, if_pos h2]
    have hr : 0 ≤ hval (fun j => b j 0) 32 0 ∧ hval (fun j => b j 0) 32 0 < R256 := hval_range hb
    have ht : tabL (fun j => b j 0) 32 0 = byL 32 (hval (fun j => b j 0) 32 0) := (byL_self hb).symm
    have hm : hval (fun j => b j 0) 32 0 % ordL = hval (fun j => b j 0) 32 0 := Int.emod_eq_of_lt hr.1 h2
    have hF : eqF 32 1 (fun j _ => lf (byL 32 (hval (fun j => b j 0) 32 0)) j) b = true := eqF_self hb fun _ _ => rfl
    unfold bkD at hc
    rw [hS, ht, hval_b32 hr.1 hr.2, hm, hF, areB_b32, bn, hb] at hc
    simp only [List.mem_cons, List.not_mem_nil, or_false] at hc
    rcases hc with h | h | h | h | h <;> rw [h] <;> rfl
  · refine ⟨false, fun c hc => ?_⟩
    have hS : (decS n b).1 = zero32 ∧ ((decS n b).2 != 0) = true := by
      unfold decS
      by_cases hn : n = 32
      · rw [if_pos hn, if_neg (fun h => h1 ⟨hn, h⟩)]; exact ⟨rfl, rfl⟩
      · rw [if_neg hn]; exact ⟨rfl, rfl⟩
    unfold bkD at hc
    rw [hS.1, hS.2, bn, hb, show eqN 32 (lf zero32) (fun _ => 0) = true by decide] at hc
    simp only [List.mem_cons, List.not_mem_nil, or_false] at hc
    rcases hc with h | h | h <;> rw [h] <;> rfl
theorem bk_pure {e k : Nat → Int} {n : Nat} {b : Nat → Nat → Int} (he : areB e 32 0 = true) (hb : areB (fun j => b j 0) n 0 = true) (hn : n ≤ 1048576) (hk : areB k 32 0 = true) :
    Pure prog F_rimelaw06_SuiteBack [u8s 32 e, .sc (.vints true .u8 1 n b), u8s 32 k] (.sc (.bool true)) := by
  obtain ⟨i, hi, a1⟩ := bkA_t he
  obtain ⟨j, a2⟩ := bkB_t hb
  obtain ⟨l, a4⟩ := bkD_t hb hn
  have h := k_bk e k n b i hi j l
  rw [ckL_t.2 fun c hc => by
    rcases List.mem_append.1 hc with h | h
    · exact a1 c h
    rcases List.mem_append.1 h with h | h
    · exact a2 c h
    rcases List.mem_append.1 h with h | h
    · exact bkC_t hk c h
    · exact a4 c h] at h
  exact pure_of_out LB at_rimelaw06_SuiteBack c_bk h
end Go.Proofs.YtbogcehngfjlkaaGreat
