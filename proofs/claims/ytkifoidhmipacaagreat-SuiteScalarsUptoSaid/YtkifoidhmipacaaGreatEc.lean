/-
  The law SuiteScalars, reckoned.
-/
import Derived.Test.YtkifoidhmipacaaGreatEb
import Derived.Test.YtkifoidhmipacaaGreatDd
namespace Go.Proofs.YtkifoidhmipacaaGreat
open Go.Proofs.Tryz
open Go Go.AM
def sT (E : EnvP) (gs : Guess) (N : Nat) (fn : Func) : TF := fun args => outP (apFunc E gs N fn args [])
theorem sT_row {ts : List (Nat × TF)} {ws : List (Nat × WF)} (L : LibOK prog tt ts ws) {f : FuncId} {fn : Func} (hf : prog.funcs[f]? = some fn) (gs : Guess) (N : Nat) (hc : fnChk prog (envP tt ts ws) fn = true) : TRow prog f (sT (envP tt ts ws) gs N fn) := fun args r h => pure_of_out L hf hc h
noncomputable def lw1 : List (Nat × TF) := (F_rimelaw06_num, sT gE [] 5 f_rimelaw06_num) :: (F_rimelaw06_works, k0T (.sc (.bool true))) :: (F_rimeplain_Given_Intact, sT gE [(42, false)] 5 f_rimeplain_Given_Intact) ::
  (F_rimeref06_PutScalar, tPut) :: (F_suite_PutScalar, tPut) :: (F_rimeref06_Random, tRandom) :: (F_suite_Random, tRandom) :: (F_rimeref06_ID, tID) :: (F_suite_ID, tID) :: (F_rimeref06_GetScalar, tDecode) :: (F_suite_GetScalar, tDecode) :: gs1
noncomputable def lw2 : List (Nat × WF) := [(F_rimeplain_Given_Bytes, wGiven)]
theorem c_intact : fnChk prog gE f_rimeplain_Given_Intact = true := by kernel_rfl
theorem c_num : fnChk prog gE f_rimelaw06_num = true := by kernel_rfl
theorem LW : LibOK prog tt lw1 lw2 :=
  ((((((((((((G1.addW r_given).addT r_getS).addT r_getS2).addT r_id).addT r_id2).addT r_rnd).addT r_rnd2).addT r_put).addT r_put2).addT (sT_row G1 at_rimeplain_Given_Intact [(42, false)] 5 c_intact)).addT r_works).addT (sT_row G1 at_rimelaw06_num [] 5 c_num))
theorem c_law : fnChk prog (envP tt lw1 lw2) f_rimelaw06_SuiteScalars = true := by kernel_rfl
def lM (n : Nat) : Nat := (wr .i64 ((n : Int) + 3)).toNat
def lA (s : Nat → Int) (n : Nat) (b : Nat → Nat → Int) : GA := ⟨some (.ints .u8 32 1 (fun _ d => s d)), some (.mix 30 1 (fun _ => List.replicate 30 (.one .nils))), true, n, b, lM n⟩
def lN (n : Nat) : Nat := (n : Int).toNat
def lW (s : Nat → Int) (n : Nat) (b : Nat → Nat → Int) : Nat → Nat → Int := fun j d => gG (lA s n b) n (0 + j) (0 + d)
def lX (s : Nat → Int) (n : Nat) (b : Nat → Nat → Int) : Nat → Nat → Int := fun j d => gG (lA s n b) n (0 + j) (0 + d)
def lY (s : Nat → Int) (n : Nat) (b : Nat → Nat → Int) : Nat → Nat → Int := fun j d => lX s n b (0 + j) (0 + d)
def lP (s : Nat → Int) : Nat → Nat → Int := fun j _ => lf (byL 32 (hval s 32 0 % ordL)) j
def lCk1 (s : Nat → Int) (n : Nat) (b : Nat → Nat → Int) : Bool := ckL [inB (wr .i64 ((n : Int) + 3)) (wr .i64 ((n : Int) + 3)) && fits (lM n) 1, big (lM n) && stBp 2 (g0V (lA s n b) 0 (fun _ _ => 0)) (g0S (lA s n b) 0),
  (big (lM n) && Nat.ble n (lM n)) && stBp 2 (g2V (lA s n b) 0 (gD (lM n))) (g2S (lA s n b) 0), fits (0 + lM n) 1, inB (n : Int) (lM n)]
def lCk (s : Nat → Int) (n : Nat) (b : Nat → Nat → Int) (i : Int) : List Bool :=
  [lCk1 s n b, big (lN n) && areB (fun j => lW s n b j 0) (lN n) 0, big n && areB (fun j => b j 0) n 0, big (lN n) && areB (fun j => lW s n b j 0) (lN n) 0, big n && areB (fun j => b j 0) n 0,
   areB s 32 0, areB s 32 0, (Nat.beq 32 32 && eqF 32 1 (lP s) (lP s)) == true, (eqN 32 (lf (decS (lN n) (lW s n b)).1) (lf (decS n b).1) && true) == true, ((decS (lN n) (lW s n b)).2 == (decS n b).2) == true,
   (eqN 32 (lf (idS i).1) (lf (idS i).1) && true) == true, ((idS i).2 == (idS i).2) == true, (eqN 32 (lf (rndS (lN n) (lW s n b)).1) (lf (rndS n b).1) && true) == true, ((rndS (lN n) (lW s n b)).2 == (rndS n b).2) == true,
   ckL [big (lM n), (!(Nat.beq (lM n) (0 + lM n) && eqF (lM n) 1 (lX s n b) (lY s n b))) == false] && true]
noncomputable def lRun (s : Nat → Int) (n : Nat) (b : Nat → Nat → Int) (i : Int) : Option (Bool × AV) :=
  outP (apFunc (envP tt lw1 lw2) [(57, true), (61, true), (67, true), (72, true), (78, true), (83, true), (89, true), (92, true)] 5 f_rimelaw06_SuiteScalars [u8s 32 s, .sc (.vints true .u8 1 n b), .sc (.int .i64 i)] [])
theorem k_law1 (s : Nat → Int) (n : Nat) (b : Nat → Nat → Int) (i : Int) : (lRun s n b i).map (·.2) = some (.sc (.bool true)) := by kernel_rfl
theorem k_law2 (s : Nat → Int) (n : Nat) (b : Nat → Nat → Int) (i : Int) : (lRun s n b i).map (·.1) = some (ckL (lCk s n b i)) := by kernel_rfl
theorem hval_of {f g : Nat → Nat → Int} {n : Nat} (h : ∀ j, j < n → f j 0 = g j 0) : hval (fun j => f j 0) n 0 = hval (fun j => g j 0) n 0 := hval_congr fun i hi => by rw [Nat.zero_add]; exact h i hi
theorem tabL_of {f g : Nat → Int} : ∀ {n j : Nat}, (∀ i, i < n → f (j + i) = g (j + i)) → tabL f n j = tabL g n j
  | 0, _, _ => rfl
  | n + 1, j, h => by
    simp only [tabL]
    have h0 : f j = g j := h 0 (by omega)
    have e : tabL f n (j + 1) = tabL g n (j + 1) := tabL_of fun i hi => by
      have := h (i + 1) (by omega)
      rw [show j + (i + 1) = j + 1 + i by omega] at this
      exact this
    rw [h0, e]
theorem decS_of {f g : Nat → Nat → Int} {n : Nat} (h : ∀ j, j < n → f j 0 = g j 0) : decS n f = decS n g := by
  unfold decS
  by_cases e : n = 32
  · subst e
    rw [if_pos rfl, if_pos rfl, hval_of h, tabL_of (f := fun j => f j 0) (g := fun j => g j 0) fun i hi => by rw [Nat.zero_add]; exact h i hi]
  · rw [if_neg e, if_neg e]
theorem rndS_of {f g : Nat → Nat → Int} {n : Nat} (h : ∀ j, j < n → f j 0 = g j 0) : rndS n f = rndS n g := by
  unfold rndS
  by_cases e : n = 64
  · subst e
    rw [if_pos rfl, if_pos rfl, hval_of h]
  · rw [if_neg e, if_neg e]
theorem eqN_self (n : Nat) (f : Nat → Int) : eqN n f f = true := eqN_refl n f
theorem law_ck {s : Nat → Int} {n : Nat} {b : Nat → Nat → Int} (i : Int) (hs : areB s 32 0 = true) (hb : areB (fun j => b j 0) n 0 = true) (hn : n ≤ 1048576) : ckL (lCk s n b i) = true := by
  have eM : wr .i64 ((n : Int) + 3) = ((n + 3 : Nat) : Int) := by rw [wr_small (by omega) (by omega)]; omega
  have eM2 : lM n = n + 3 := by unfold lM; rw [eM, Int.toNat_natCast]
  have eN : lN n = n := Int.toNat_natCast n
  have hW : ∀ j, j < n → lW s n b j 0 = b j 0 := fun j hj => by
    unfold lW gG
    rw [Nat.zero_add, show Nat.ble (j + 1) n = true from Nat.ble_eq_true_of_le hj]; rfl
  have hWb : areB (fun j => lW s n b j 0) n 0 = true := areB_mk fun j hj => by
    rw [Nat.zero_add, hW j hj]
    have := areB_t hb j hj
    rwa [Nat.zero_add] at this
  have bigN : big n = true := Nat.ble_eq_true_of_le (by omega)
  have bigM : big (n + 3) = true := Nat.ble_eq_true_of_le (by omega)
  have e0 : stBp 2 (g0V (lA s n b) 0 (fun _ _ => 0)) (g0S (lA s n b) 0) = true := g0_same _ _ (eqF_of fun r _ d _ => rfl)
  have e2 : stBp 2 (g2V (lA s n b) 0 (gD (lM n))) (g2S (lA s n b) 0) = true := g2_same _ _ (eqF_of fun r hr d _ => by
    have hr : r < lM n := hr
    unfold gD gG
    rw [show Nat.ble (r + 1) (lM n) = true from Nat.ble_eq_true_of_le hr]; rfl)
  have eXY : eqF (n + 3) 1 (lX s n b) (lY s n b) = true := eqF_of fun r _ d _ => by
    unfold lY; rw [Nat.zero_add, Nat.zero_add]
  have hck1 : lCk1 s n b = true := by
    unfold lCk1
    rw [e0, e2, eM, eM2, bigM]
    have f1 : fits (n + 3) 1 = true := by simp [fits]; omega
    have f2 : fits (0 + (n + 3)) 1 = true := by rw [Nat.zero_add]; exact f1
    have f3 : inB (((n + 3 : Nat)) : Int) ((n + 3 : Nat) : Int) = true := by simp [inB]; omega
    have f4 : inB (n : Int) ((n + 3 : Nat) : Int) = true := by simp [inB]; omega
    rw [f1, f2, f3, f4, show Nat.ble n (n + 3) = true from Nat.ble_eq_true_of_le (by omega)]; rfl
  have hbb : Nat.beq (n + 3) (0 + (n + 3)) = true := by rw [Nat.zero_add]; exact beq_t.2 rfl
  refine ckL_t.2 fun c hc => ?_
  unfold lCk at hc
  rw [eN, decS_of hW, rndS_of hW, hck1, hWb, hb, hs, bigN, eM2, bigM, hbb, eXY] at hc
  simp only [eqN_self, eqF_refl, beq_self_eq_true, Bool.and_self, List.mem_cons, List.not_mem_nil, or_false] at hc
  rcases hc with h | h | h | h | h | h | h | h | h | h | h | h | h | h | h <;> rw [h] <;> rfl
theorem law_pure {s : Nat → Int} {n : Nat} {b : Nat → Nat → Int} (i : Int) (hs : areB s 32 0 = true) (hb : areB (fun j => b j 0) n 0 = true) (hn : n ≤ 1048576) :
    Pure prog F_rimelaw06_SuiteScalars [u8s 32 s, .sc (.vints true .u8 1 n b), .sc (.int .i64 i)] (.sc (.bool true)) := by
  have e := both (k_law2 s n b i) (k_law1 s n b i)
  rw [law_ck i hs hb hn] at e
  exact pure_of_out LW at_rimelaw06_SuiteScalars c_law e
end Go.Proofs.YtkifoidhmipacaaGreat
