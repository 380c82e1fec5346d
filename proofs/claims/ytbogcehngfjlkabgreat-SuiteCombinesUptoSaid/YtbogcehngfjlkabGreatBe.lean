/-
  Texts of the claim: DEl DMulti DMultiG DEl2 DGiv DComb DCombG DSmScalars DSmElements DGvScalars DGvElements DCon DCon2.
-/
import Derived.Test.YtbogcehngfjlkabGreatAe
import Derived.Test.YtbogcehngfjlkabGreatBa
import Derived.Test.YtbogcehngfjlkabGreatBd
namespace Go.Proofs.YtbogcehngfjlkabGreat
open Go.Proofs.Tryz
open Go Go.AM
theorem r_isPrG' : TRow prog F_rimeref04_IsPrime tIsPrime := fun args r h => r_isPrG args r (by
  have e : tIsPrG args = tIsPrime args := by unfold tIsPrG tIsPrime; split <;> simp only [prS_prG]
  rw [e]; exact h)
def grpS (w : Int) : Int := bif opOk w then (bif decide (w = 1) then 42 else bif prS w then 0 else 43) else 41
def tGroup : TF := fun args => match args with
  | [.agg [.ints .u8 32 b]] => some (areB b 32 0, .sc (.int .i64 (grpS (hval b 32 0))))
  | _ => none
noncomputable def el0 : List (Nat × TF) := (F_edwards_Check, tCheck) :: (F_edwards_Identity, tIdentity) :: (F_edwards_IsPrime, tIsPrime) :: (F_edwards_MulBase, tMulBase) :: (F_scalar_Add, tAdd) :: (F_scalar_IsZero, tIsZero) :: (F_rimeref02_Reduce, tReduce2) ::
  (F_rimeref04_Check, tCheck) :: (F_rimeref04_Identity, tIdentG) :: (F_rimeref04_IsPrime, tIsPrime) :: []
theorem EL0 : LibOK prog tt el0 [] := ((((((((((L0).addT r_isPrG').addT r_identG).addT r_checkG).addT r_reduce2).addT r_isZero).addT r_add).addT r_mulBase).addT r_isPrime).addT r_identity).addT r_check
noncomputable abbrev elE : EnvP := envP tt el0 []
theorem c_group : fnChk prog elE f_suite_group = true := by kernel_rfl
theorem c_groupG : fnChk prog elE f_rimeref06_Group = true := by kernel_rfl
def chkI (w : Int) : Int := bif opOk w then 0 else 41
theorem k_grp1 (b : Nat → Int) : outP (apFunc elE [(9, true)] 5 f_suite_group [u8s 32 b] []) = some (ckL [areB (ld0 b) 32 0, (chkI (hval (ld0 b) 32 0) != 0) == true], .sc (.int .i64 (chkI (hval (ld0 b) 32 0)))) := by kernel_rfl
theorem k_grp2 (b : Nat → Int) : outP (apFunc elE [(9, false), (13, true)] 5 f_suite_group [u8s 32 b] []) = some (ckL [areB (ld0 b) 32 0, (chkI (hval (ld0 b) 32 0) != 0) == false, (eqN 32 (ld0 b) (lf (byL 32 1)) && true) == true], .sc (.int .i64 42)) := by kernel_rfl
theorem k_grp3 (b : Nat → Int) (g : Bool) : outP (apFunc elE [(9, false), (13, false), (20, true)] 5 f_suite_group [u8s 32 b] []) =
    some (ckL [areB (ld0 b) 32 0, (chkI (hval (ld0 b) 32 0) != 0) == false, (eqN 32 (ld0 b) (lf (byL 32 1)) && true) == false, areB (ld0 b) 32 0, (!prS (hval (ld0 b) 32 0)) == true], .sc (.int .i64 43)) := by kernel_rfl
theorem k_grp4 (b : Nat → Int) (g : Bool) : outP (apFunc elE [(9, false), (13, false), (20, false)] 5 f_suite_group [u8s 32 b] []) =
    some (ckL [areB (ld0 b) 32 0, (chkI (hval (ld0 b) 32 0) != 0) == false, (eqN 32 (ld0 b) (lf (byL 32 1)) && true) == false, areB (ld0 b) 32 0, (!prS (hval (ld0 b) 32 0)) == false], .sc (.int .i64 0)) := by kernel_rfl
theorem k_grG1 (b : Nat → Int) : outP (apFunc elE [(7, true)] 5 f_rimeref06_Group [u8s 32 b] []) = some (ckL [areB (ld0 b) 32 0, (chkI (hval (ld0 b) 32 0) != 0) == true], .sc (.int .i64 41)) := by kernel_rfl
theorem k_grG2 (b : Nat → Int) : outP (apFunc elE [(7, false), (10, true)] 5 f_rimeref06_Group [u8s 32 b] []) = some (ckL [areB (ld0 b) 32 0, (chkI (hval (ld0 b) 32 0) != 0) == false, (eqN 32 (ld0 b) (lf (byL 32 1)) && true) == true], .sc (.int .i64 42)) := by kernel_rfl
theorem k_grG3 (b : Nat → Int) : outP (apFunc elE [(7, false), (10, false), (17, true)] 5 f_rimeref06_Group [u8s 32 b] []) =
    some (ckL [areB (ld0 b) 32 0, (chkI (hval (ld0 b) 32 0) != 0) == false, (eqN 32 (ld0 b) (lf (byL 32 1)) && true) == false, areB (ld0 b) 32 0, (!prS (hval (ld0 b) 32 0)) == true], .sc (.int .i64 43)) := by kernel_rfl
theorem k_grG4 (b : Nat → Int) : outP (apFunc elE [(7, false), (10, false), (17, false)] 5 f_rimeref06_Group [u8s 32 b] []) =
    some (ckL [areB (ld0 b) 32 0, (chkI (hval (ld0 b) 32 0) != 0) == false, (eqN 32 (ld0 b) (lf (byL 32 1)) && true) == false, areB (ld0 b) 32 0, (!prS (hval (ld0 b) 32 0)) == false], .sc (.int .i64 0)) := by kernel_rfl
theorem eqN_num {b : Nat → Int} (hb : areB b 32 0 = true) {x : Int} (hx : 0 ≤ x ∧ x < R256) : eqN 32 b (lf (byL 32 x)) = decide (hval b 32 0 = x) := by
  have hr : 0 ≤ hval b 32 0 ∧ hval b 32 0 < R256 := hval_range hb
  rw [← eqN_by hr hx]
  exact eqN_congr fun d hd => by
    have := lf_tab b 32 0 d hd
    rw [Nat.zero_add, ← byL_self hb] at this
    exact this.symm
theorem eqN_one {b : Nat → Int} (hb : areB b 32 0 = true) : eqN 32 b (lf (byL 32 1)) = decide (hval b 32 0 = 1) := eqN_num hb (by decide)
theorem r_group : TRow prog F_suite_group tGroup := by
  intro args r h
  unfold tGroup at h
  split at h
  case h_2 => simp at h
  rename_i b
  simp only [Option.some.injEq, Prod.mk.injEq] at h
  obtain ⟨hb, rfl⟩ := h
  unfold grpS
  have e1 := k_grp1 b
  have e2 := k_grp2 b
  have e3 := k_grp3 b true
  have e4 := k_grp4 b true
  rw [ld0_eq] at e1 e2 e3 e4
  rw [hb] at e1 e2 e3 e4
  rw [eqN_one hb] at e2 e3 e4
  unfold chkI at e1 e2 e3 e4
  cases ho : opOk (hval b 32 0) with
  | false =>
    rw [ho] at e1
    exact pure_of_out EL0 at_suite_group c_group (N := 5) (gs := [(9, true)]) e1
  | true =>
    rw [ho] at e2 e3 e4
    cases h1 : decide (hval b 32 0 = 1) with
    | true =>
      rw [h1] at e2
      exact pure_of_out EL0 at_suite_group c_group (N := 5) (gs := [(9, false), (13, true)]) e2
    | false =>
      rw [h1] at e3 e4
      cases hp : prS (hval b 32 0) with
      | false => rw [hp] at e3; exact pure_of_out EL0 at_suite_group c_group (N := 5) (gs := [(9, false), (13, false), (20, true)]) e3
      | true => rw [hp] at e4; exact pure_of_out EL0 at_suite_group c_group (N := 5) (gs := [(9, false), (13, false), (20, false)]) e4
theorem r_groupG : TRow prog F_rimeref06_Group tGroup := by
  intro args r h
  unfold tGroup at h
  split at h
  case h_2 => simp at h
  rename_i b
  simp only [Option.some.injEq, Prod.mk.injEq] at h
  obtain ⟨hb, rfl⟩ := h
  unfold grpS
  have e1 := k_grG1 b
  have e2 := k_grG2 b
  have e3 := k_grG3 b
  have e4 := k_grG4 b
  rw [ld0_eq] at e1 e2 e3 e4
  rw [hb] at e1 e2 e3 e4
  rw [eqN_one hb] at e2 e3 e4
  unfold chkI at e1 e2 e3 e4
  cases ho : opOk (hval b 32 0) with
  | false =>
    rw [ho] at e1
    exact pure_of_out EL0 at_rimeref06_Group c_groupG (N := 5) (gs := [(7, true)]) e1
  | true =>
    rw [ho] at e2 e3 e4
    cases h1 : decide (hval b 32 0 = 1) with
    | true =>
      rw [h1] at e2
      exact pure_of_out EL0 at_rimeref06_Group c_groupG (N := 5) (gs := [(7, false), (10, true)]) e2
    | false =>
      rw [h1] at e3 e4
      cases hp : prS (hval b 32 0) with
      | false => rw [hp] at e3; exact pure_of_out EL0 at_rimeref06_Group c_groupG (N := 5) (gs := [(7, false), (10, false), (17, true)]) e3
      | true => rw [hp] at e4; exact pure_of_out EL0 at_rimeref06_Group c_groupG (N := 5) (gs := [(7, false), (10, false), (17, false)]) e4
theorem hval_0 : hval (fun _ => 0) 32 0 = 0 := by decide
theorem ord_mod (x : Int) : 0 ≤ x % ordL ∧ x % ordL < R256 := ⟨Int.emod_nonneg _ (by decide), Int.lt_trans (Int.emod_lt_of_pos _ (by decide)) (by decide)⟩
theorem b_ord (x : Int) : hval (lf (byL 32 (x % ordL))) 32 0 = x % ordL := hval_b32 (ord_mod x).1 (ord_mod x).2
end Go.Proofs.YtbogcehngfjlkabGreat
namespace Go.Proofs.YtbogcehngfjlkabGreat
open Go.Proofs.Tryz
open Go Go.AM
def msS (f g : Nat → Nat → Int) : Nat → Q4
  | 0 => idS4
  | k + 1 => addS (msS f g k) (mulS (openS (hval (g k) 32 0)) (hval (f k) 32 0))
theorem msS_ext {f g f' g' : Nat → Nat → Int} : ∀ {n : Nat}, (∀ j, j < n → hval (f j) 32 0 = hval (f' j) 32 0) → (∀ j, j < n → hval (g j) 32 0 = hval (g' j) 32 0) → msS f g n = msS f' g' n
  | 0, _, _ => rfl
  | n + 1, hf, hg => by
    unfold msS
    rw [msS_ext (n := n) (fun j hj => hf j (by omega)) fun j hj => hg j (by omega), hf n (by omega), hg n (by omega)]
def rowsB (f : Nat → Nat → Int) (n : Nat) : Bool := (List.range n).all fun j => areB (f j) 32 0
def opsB (f : Nat → Nat → Int) (n : Nat) : Bool := (List.range n).all fun j => opOk (hval (f j) 32 0)
theorem rowsB_t {f : Nat → Nat → Int} {n : Nat} : rowsB f n = true ↔ ∀ j, j < n → areB (f j) 32 0 = true := by simp [rowsB]
theorem opsB_t {f : Nat → Nat → Int} {n : Nat} : opsB f n = true ↔ ∀ j, j < n → opOk (hval (f j) 32 0) = true := by simp [opsB]
abbrev gz (n : Nat) (x : Nat → Int) : Nat → Int := fun j => bif Nat.ble 0 (0 + j) && Nat.ble (0 + j + 1) n then x (0 + j - 0) else 0
theorem gz_at {n j : Nat} {x : Nat → Int} (h : j < n) : gz n x j = x j := by
  show (bif Nat.ble 0 (0 + j) && Nat.ble (0 + j + 1) n then x (0 + j - 0) else 0) = x j
  rw [show Nat.ble 0 (0 + j) = true from Nat.ble_eq_true_of_le (Nat.zero_le _), show Nat.ble (0 + j + 1) n = true from Nat.ble_eq_true_of_le (by omega), Nat.zero_add, Nat.sub_zero]; rfl
theorem gz_areB {x : Nat → Int} (h : areB x 32 0 = true) : areB (gz 32 (ld0 x)) 32 0 = true := areB_mk fun i hi => by
  rw [Nat.zero_add, gz_at hi]
  have := areB_t h i hi
  exact this
theorem gz_hval (x : Nat → Int) : hval (gz 32 (ld0 x)) 32 0 = hval x 32 0 := hval_congr fun i hi => by rw [Nat.zero_add, gz_at hi]; show x (0 + i) = _; rw [Nat.zero_add]
noncomputable abbrev mlE : EnvP := envP tt ex15 []
noncomputable def mlB : Code := match f_edwards_Multi.body with | some c => (match bodiesOf 0 c with | [.loop b] => b | _ => .skip) | none => .skip
def mlP (x : Nat → Int) : Nat → Int := gz 20 (lf (opFs (gz 32 (ld0 x))))
def mlQ (f g : Nat → Nat → Int) (k : Nat) : List Int := r20 (tmV (n20 (mlP (g k))) (n32 (ld0 (f k))) 64)
def mlV (f g : Nat → Nat → Int) : Nat → List Int
  | 0 => idP
  | k + 1 => ptAdd (ld0 (lf (mlV f g k))) (lf (mlQ f g k))
theorem mlP_law {x : Nat → Int} (hx : areB x 32 0 = true) (ho : opOk (hval x 32 0) = true) : bdP (mlP x) = true ∧ vP (mlP x) = openS (hval x 32 0) := by
  obtain ⟨h1, h2⟩ := opLs_law (gz_areB hx) (by rw [gz_hval]; exact ho)
  have e : ∀ d, d < 20 → mlP x d = lf (opFs (gz 32 (ld0 x))) d := fun d hd => gz_at hd
  obtain ⟨e1, e2, e3, e4⟩ := tb_ext e
  rw [gz_hval] at h2
  exact ⟨by rw [bdP_ext e]; exact h1, by rw [← h2]; unfold vP; rw [e1, e2, e3, e4]⟩
theorem mlQ_law {f g : Nat → Nat → Int} {k : Nat} (hf : areB (f k) 32 0 = true) (hg : areB (g k) 32 0 = true) (ho : opOk (hval (g k) 32 0) = true) :
    bdP (lf (mlQ f g k)) = true ∧ vP (lf (mlQ f g k)) = mulS (openS (hval (g k) 32 0)) (hval (f k) 32 0) := by
  obtain ⟨h1, h2⟩ := mlP_law hg ho
  obtain ⟨h3, h4⟩ := tm_law (s := ld0 (f k)) h1
  refine ⟨h3, ?_⟩
  show vP (lf (r20 (tmV (n20 (mlP (g k))) (n32 (ld0 (f k))) 64))) = _
  rw [h4, h2, ld0_eq, mulS_of hf]
theorem mlV_law {f g : Nat → Nat → Int} : ∀ {n : Nat}, rowsB f n = true → rowsB g n = true → opsB g n = true → bdP (lf (mlV f g n)) = true ∧ vP (lf (mlV f g n)) = msS f g n
  | 0, _, _, _ => idP_law
  | n + 1, hf, hg, ho => by
    obtain ⟨h1, h2⟩ := mlV_law (n := n) (rowsB_t.2 fun j hj => rowsB_t.1 hf j (by omega)) (rowsB_t.2 fun j hj => rowsB_t.1 hg j (by omega)) (opsB_t.2 fun j hj => opsB_t.1 ho j (by omega))
    obtain ⟨q1, q2⟩ := mlQ_law (rowsB_t.1 hf n (by omega)) (rowsB_t.1 hg n (by omega)) (opsB_t.1 ho n (by omega))
    rw [← ld0_eq (lf (mlV f g n))] at h1 h2
    obtain ⟨a1, a2⟩ := ptAdd_law h1 q1
    exact ⟨a1, by show vP (lf (ptAdd _ _)) = _; rw [a2, h2, q2]; rfl⟩
def mlS (t t' : Bool) (n : Nat) (f g : Nat → Nat → Int) (v : Int) (D : Nat → Nat → Int) : St := ⟨tmOf [(0, .sc (.vints t .u8 32 n f)), (1, .sc (.vints t' .u8 32 n g)), (4, .sc (.ptr 0 32 0 0 32)), (6, .sc (.ptr 1 20 0 0 20)), (18, .sc (.vints t' .u8 32 n g)), (19, .sc (.int .i64 n)), (20, .sc (.int .i64 v))] 44 0,
  [some (.ints .u8 32 1 (fun _ _ => 0)), some (.ints .u64 20 1 D)]⟩
def mlT (D : Nat → Nat → Int) : St := ⟨tmOf [(4, .sc (.ptr 0 32 0 0 32)), (6, .sc (.ptr 1 20 0 0 20))] 44 0, [some (.ints .u8 32 1 (fun _ _ => 0)), some (.ints .u64 20 1 D)]⟩
def mlD (f g : Nat → Nat → Int) (k : Nat) : Nat → Nat → Int := fun _ d => lf (mlV f g k) d
def mlN (f g : Nat → Nat → Int) (D : Nat → Nat → Int) (k : Nat) : Nat → Nat → Int := fun r d => bif Nat.beq r 0 && (Nat.ble 0 d && Nat.ble (d + 1) 20) then lf (ptAdd (fun j => D 0 (0 + j)) (lf (mlQ f g k))) (d - 0) else D r d
theorem ml_round (t t' : Bool) (n : Nat) (f g : Nat → Nat → Int) (v v' : Int) (D D' : Nat → Nat → Int) : roundR mlE [(21, true), (31, false)] 5 2 [] mlB (mlS t t' n f g v D) .normal (mlS t t' n f g v' D') =
    some (ckL [decide (v < (n : Int)) == true, inR v n, areB (gz 32 (ld0 (g v.toNat))) 32 0, (!opOk (hval (gz 32 (ld0 (g v.toNat))) 32 0)) == false, inR v n, bdP (mlP (g v.toNat)) && areB (ld0 (f v.toNat)) 32 0, chkP (fun j => D 0 (0 + j)) && chkP (lf (mlQ f g v.toNat))] &&
      stR (rnm 2 []) (mlS t t' n f g (wr .i64 (v + 1)) (mlN f g D v.toNat)) (mlS t t' n f g v' D')) := by kernel_rfl
theorem ml_stop (t t' : Bool) (n : Nat) (f g : Nat → Nat → Int) (v : Int) (D D' : Nat → Nat → Int) : roundR mlE [(21, false)] 5 2 [] mlB (mlS t t' n f g v D) (.exit 0) (mlT D') =
    some (ckL [decide (v < (n : Int)) == false] && stR (rnm 2 []) (mlT D) (mlT D')) := by kernel_rfl
theorem ml_same {t t' : Bool} {n : Nat} {f g : Nat → Nat → Int} {v v' : Int} {D D' : Nat → Nat → Int} (hv : v = v') (h : ∀ d, d < 20 → D 0 d = D' 0 d) : stR (rnm 2 []) (mlS t t' n f g v D) (mlS t t' n f g v' D') = true := by
  subst hv
  have e : eqF 1 20 D D' = true := eqF_of fun r hr d hd => by
    obtain rfl : r = 0 := by omega
    exact h d hd
  simp [stR, mlS, tmOf, tmR, avR, svR, rIs, rnm, kEq_refl, eqF_refl, hpR, blkR, ndR, e]
  decide
theorem mlT_same {D D' : Nat → Nat → Int} (h : ∀ d, d < 20 → D 0 d = D' 0 d) : stR (rnm 2 []) (mlT D) (mlT D') = true := by
  have e : eqF 1 20 D D' = true := eqF_of fun r hr d hd => by
    obtain rfl : r = 0 := by omega
    exact h d hd
  simp [stR, mlT, tmOf, tmR, avR, svR, rIs, rnm, kEq_refl, eqF_refl, hpR, blkR, ndR, e]
  decide
def mlCk (n : Nat) (f g : Nat → Nat → Int) : Bool := (big n && rowsB f n) && (rowsB g n && opsB g n)
def mlF (t t' : Bool) (n : Nat) (f g : Nat → Nat → Int) : LF := famA 2 [] (mlS t t' n f g ((0 : Nat) : Int) (mlD f g 0)) (mlCk n f g) .normal (mlT (mlD f g n))
theorem ml_body : f_edwards_Multi.body.map (bodiesOf 0) = some [.loop mlB] := by kernel_rfl
theorem ml_ok : codeOK prog mlE.env.isW mlB = true := by kernel_rfl
theorem l_ml (t t' : Bool) (n : Nat) (f g : Nat → Nat → Int) : LRow prog f_edwards_Multi 0 (mlF t t' n f g) := by
  refine LRow.famA (N := 5) (S := fun k => mlS t t' n f g (k : Int) (mlD f g k)) (X15.env []) mix n (loop_of ml_body) ml_ok (fun w0 own0 => accOK_none (fun id => rfl) mlB) (fun _ _ => Nat.le_refl _) (Nat.le_refl _) fun ha => ?_
  simp only [mlCk, Bool.and_eq_true] at ha
  obtain ⟨⟨hb, hf⟩, hg, ho⟩ := ha
  have hb : n ≤ 4611686018427387904 := Nat.le_of_ble_eq_true hb
  refine ⟨fun k hk => ?_, ?_⟩
  · have ew : wr .i64 ((k : Int) + 1) = ((k + 1 : Nat) : Int) := by rw [wr_small (by omega) (by omega)]; rfl
    have f1 := rowsB_t.1 hf k hk
    have g1 := rowsB_t.1 hg k hk
    have o1 := opsB_t.1 ho k hk
    obtain ⟨p1, _⟩ := mlP_law g1 o1
    obtain ⟨q1, _⟩ := mlQ_law f1 g1 o1
    obtain ⟨v1, _⟩ := mlV_law (n := k) (rowsB_t.2 fun j hj => rowsB_t.1 hf j (by omega)) (rowsB_t.2 fun j hj => rowsB_t.1 hg j (by omega)) (opsB_t.2 fun j hj => opsB_t.1 ho j (by omega))
    have v2 : chkP (fun j => mlD f g k 0 (0 + j)) = true := by
      have e : (fun j => mlD f g k 0 (0 + j)) = ld0 (lf (mlV f g k)) := rfl
      rw [e, ld0_eq]; exact bdP_chk v1
    refine roundR_toR (ml_round t t' n f g (k : Int) ((k + 1 : Nat) : Int) (mlD f g k) (mlD f g (k + 1))) (and_t.2 ⟨?_, ml_same ew fun d hd => ?_⟩)
    · rw [Int.toNat_natCast, gz_areB g1, gz_hval, o1, p1, ld0_eq, f1, v2, bdP_chk q1, inR_nat hk]
      simp [ckL]; omega
    · show mlN f g (mlD f g k) ((k : Int).toNat) 0 d = lf (mlV f g (k + 1)) d
      rw [Int.toNat_natCast]
      unfold mlN
      rw [show Nat.beq 0 0 = true from rfl, show Nat.ble 0 d = true from Nat.ble_eq_true_of_le (Nat.zero_le _), show Nat.ble (d + 1) 20 = true from Nat.ble_eq_true_of_le hd, Nat.sub_zero]
      rfl
  · obtain ⟨s1, r, q1, q2, q3⟩ := roundR_toR (n := 2) (ml_stop t t' n f g (n : Int) (mlD f g n) (mlD f g n)) (and_t.2 ⟨by simp [ckL], mlT_same fun _ _ => rfl⟩)
    exact ⟨_, s1, r, q1, rfl, q2, q3⟩
theorem c_ml (t t' : Bool) (n : Nat) (f g : Nat → Nat → Int) : fnChk prog (envL tt ex15 [] [(0, mlF t t' n f g)]) f_edwards_Multi = true := by kernel_rfl
theorem k_ml (t t' : Bool) (n : Nat) (f g : Nat → Nat → Int) : outP (apFunc (envL tt ex15 [] [(0, mlF t t' n f g)]) [(15, false)] 5 f_edwards_Multi [.sc (.vints t .u8 32 n f), .sc (.vints t' .u8 32 n g)] []) =
    some (ckL [((n : Int) != (n : Int)) == false, mlCk n f g && stR (rnm 2 []) (mlS t t' n f g 0 (fun r d => bif Nat.beq r 0 && (Nat.ble 0 d && Nat.ble (d + 1) 20) then lf idP (d - 0) else 0)) (mlS t t' n f g ((0 : Nat) : Int) (mlD f g 0)),
      bdP (fun j => mlD f g n 0 (0 + j))], .tup [b32 (formS (vP (fun j => mlD f g n 0 (0 + j)))), .sc (.int .i64 0)]) := by kernel_rfl
def tMulti : TF := fun args => match args with
  | [.sc (.vints _ .u8 32 n f), .sc (.vints _ .u8 32 m g)] => some (Nat.beq m n && mlCk n f g, .tup [b32 (formS (msS f g n)), .sc (.int .i64 0)])
  | _ => none
theorem r_multi : TRow prog F_edwards_Multi tMulti := by
  intro args r h
  unfold tMulti at h
  split at h
  case h_2 => simp at h
  rename_i t n f t' m g
  simp only [Option.some.injEq, Prod.mk.injEq, Bool.and_eq_true, beq_t] at h
  obtain ⟨⟨rfl, hc⟩, rfl⟩ := h
  refine pure_of_outL X15 at_edwards_Multi (LsOK.nil.cons (l_ml t t' m f g)) (c_ml t t' m f g) (N := 5) (gs := [(15, false)]) ?_
  have e := k_ml t t' m f g
  have hc' := hc
  simp only [mlCk, Bool.and_eq_true] at hc
  obtain ⟨⟨hb, hf⟩, hg, ho⟩ := hc
  obtain ⟨v1, v2⟩ := mlV_law hf hg ho
  have e0 : (fun j => mlD f g m 0 (0 + j)) = ld0 (lf (mlV f g m)) := rfl
  have es : stR (rnm 2 []) (mlS t t' m f g 0 (fun r d => bif Nat.beq r 0 && (Nat.ble 0 d && Nat.ble (d + 1) 20) then lf idP (d - 0) else 0)) (mlS t t' m f g ((0 : Nat) : Int) (mlD f g 0)) = true := ml_same rfl fun d hd => by
    rw [show Nat.beq 0 0 = true from rfl, show Nat.ble 0 d = true from Nat.ble_eq_true_of_le (Nat.zero_le _), show Nat.ble (d + 1) 20 = true from Nat.ble_eq_true_of_le hd, Nat.sub_zero]; rfl
  rw [e0, ld0_eq, v1, v2, hc', es] at e
  rw [show (((m : Int) != (m : Int)) == false) = true by simp] at e
  exact e
end Go.Proofs.YtbogcehngfjlkabGreat
namespace Go.Proofs.YtbogcehngfjlkabGreat
open Go.Proofs.Tryz
open Go Go.AM
noncomputable abbrev mgE : EnvP := envP tt gx16 []
noncomputable def mgB : Code := match f_rimeref04_Multi.body with | some c => (match bodiesOf 0 c with | [.loop b] => b | _ => .skip) | none => .skip
def mgP (x : Nat → Int) : Nat → Int := gz 40 (lf (wPt (ld0 x)))
def mgQ (f g : Nat → Nat → Int) (k : Nat) : List Int := r40 (mnG (n40 (mgP (g k))) (n32 (ld0 (f k))) 64)
def mgV (f g : Nat → Nat → Int) : Nat → List Int
  | 0 => idGL
  | k + 1 => ptAddG (ld0 (lf (mgV f g k))) (lf (mgQ f g k))
theorem mgP_law {x : Nat → Int} (hx : areB x 32 0 = true) (ho : opOk (hval x 32 0) = true) : gdP (mgP x) = true ∧ vG (mgP x) = openS (hval x 32 0) := by
  obtain ⟨h1, h2⟩ := wPt_law (b := ld0 x) (by rw [ld0_eq]; exact hx) (by rw [ld0_eq]; exact ho)
  rw [ld0_eq] at h1 h2
  have e : ∀ d, d < 40 → mgP x d = lf (wPt x) d := fun d hd => by unfold mgP; rw [gz_at hd, ld0_eq]
  obtain ⟨e1, e2, e3, e4⟩ := tg_ext e
  exact ⟨by rw [gdP_ext e]; exact h1, by rw [← h2]; unfold vG; rw [e1, e2, e3, e4]⟩
theorem mgQ_law {f g : Nat → Nat → Int} {k : Nat} (hf : areB (f k) 32 0 = true) (hg : areB (g k) 32 0 = true) (ho : opOk (hval (g k) 32 0) = true) :
    gdP (lf (mgQ f g k)) = true ∧ vG (lf (mgQ f g k)) = mulS (openS (hval (g k) 32 0)) (hval (f k) 32 0) := by
  obtain ⟨h1, h2⟩ := mgP_law hg ho
  obtain ⟨h3, h4⟩ := mn_law (s := ld0 (f k)) h1
  refine ⟨h3, ?_⟩
  show vG (lf (r40 (mnG (n40 (mgP (g k))) (n32 (ld0 (f k))) 64))) = _
  rw [h4, h2, ld0_eq, mulS_of hf]
theorem mgV_law {f g : Nat → Nat → Int} : ∀ {n : Nat}, rowsB f n = true → rowsB g n = true → opsB g n = true → gdP (lf (mgV f g n)) = true ∧ vG (lf (mgV f g n)) = msS f g n
  | 0, _, _, _ => idGL_law
  | n + 1, hf, hg, ho => by
    obtain ⟨h1, h2⟩ := mgV_law (n := n) (rowsB_t.2 fun j hj => rowsB_t.1 hf j (by omega)) (rowsB_t.2 fun j hj => rowsB_t.1 hg j (by omega)) (opsB_t.2 fun j hj => opsB_t.1 ho j (by omega))
    obtain ⟨q1, q2⟩ := mgQ_law (rowsB_t.1 hf n (by omega)) (rowsB_t.1 hg n (by omega)) (opsB_t.1 ho n (by omega))
    rw [← ld0_eq (lf (mgV f g n))] at h1 h2
    obtain ⟨a1, a2, _⟩ := ptAddG_law h1 q1
    exact ⟨a1, by show vG (lf (ptAddG _ _)) = _; rw [a2, h2, q2]; rfl⟩
def mgH (D : Nat → Nat → Int) : Heap := [some (.ints .u8 32 1 (fun _ _ => 0)), some (.ints .i64 60 1 (fun _ d => lf mdL d)), some (.ints .i64 40 1 D)]
def mgS (t t' : Bool) (n : Nat) (f g : Nat → Nat → Int) (v : Int) (D : Nat → Nat → Int) : St := ⟨tmOf [(0, .sc (.vints t .u8 32 n f)), (1, .sc (.vints t' .u8 32 n g)), (4, .sc (.ptr 0 32 0 0 32)), (6, .sc (.ptr 1 60 0 0 60)), (7, .sc (.ptr 2 40 0 0 40)), (8, .sc (.int .i64 v))] 49 0, mgH D⟩
def mgT (D : Nat → Nat → Int) : St := ⟨tmOf [(4, .sc (.ptr 0 32 0 0 32)), (7, .sc (.ptr 2 40 0 0 40))] 49 0, mgH D⟩
def mgD (f g : Nat → Nat → Int) (k : Nat) : Nat → Nat → Int := fun _ d => lf (mgV f g k) d
def mgN (f g : Nat → Nat → Int) (D : Nat → Nat → Int) (k : Nat) : Nat → Nat → Int := fun r d => bif Nat.beq r 0 && (Nat.ble 0 d && Nat.ble (d + 1) 40) then lf (ptAddG (fun j => D 0 (0 + j)) (lf (mgQ f g k))) (d - 0) else D r d
def mgM : Bool := eqN 60 (fun j => lf mdL (0 + j)) (lf mdL)
theorem mgM_t : mgM = true := by decide +kernel
theorem mg_round (t t' : Bool) (n : Nat) (f g : Nat → Nat → Int) (v v' : Int) (D D' : Nat → Nat → Int) : roundR mgE [(22, true), (35, false)] 5 3 [] mgB (mgS t t' n f g v D) .normal (mgS t t' n f g v' D') =
    some (ckL [decide (v < (n : Int)) == true, inR v n, mgM && areB (ld0 (g v.toNat)) 32 0, (!opOk (hval (ld0 (g v.toNat)) 32 0)) == false, inR v n, mgM && (gdP (mgP (g v.toNat)) && areB (ld0 (f v.toNat)) 32 0), mgM && (gdP (fun j => D 0 (0 + j)) && gdP (lf (mgQ f g v.toNat)))] &&
      stR (rnm 3 []) (mgS t t' n f g (wr .i64 (v + 1)) (mgN f g D v.toNat)) (mgS t t' n f g v' D')) := by kernel_rfl
theorem mg_stop (t t' : Bool) (n : Nat) (f g : Nat → Nat → Int) (v : Int) (D D' : Nat → Nat → Int) : roundR mgE [(22, false)] 5 3 [] mgB (mgS t t' n f g v D) (.exit 0) (mgT D') =
    some (ckL [decide (v < (n : Int)) == false] && stR (rnm 3 []) (mgT D) (mgT D')) := by kernel_rfl
theorem mg_same {t t' : Bool} {n : Nat} {f g : Nat → Nat → Int} {v v' : Int} {D D' : Nat → Nat → Int} (hv : v = v') (h : ∀ d, d < 40 → D 0 d = D' 0 d) : stR (rnm 3 []) (mgS t t' n f g v D) (mgS t t' n f g v' D') = true := by
  subst hv
  have e : eqF 1 40 D D' = true := eqF_of fun r hr d hd => by
    obtain rfl : r = 0 := by omega
    exact h d hd
  simp [stR, mgS, mgH, tmOf, tmR, avR, svR, rIs, rnm, kEq_refl, eqF_refl, hpR, blkR, ndR, e]
  decide
theorem mgT_same {D D' : Nat → Nat → Int} (h : ∀ d, d < 40 → D 0 d = D' 0 d) : stR (rnm 3 []) (mgT D) (mgT D') = true := by
  have e : eqF 1 40 D D' = true := eqF_of fun r hr d hd => by
    obtain rfl : r = 0 := by omega
    exact h d hd
  simp [stR, mgT, mgH, tmOf, tmR, avR, svR, rIs, rnm, kEq_refl, eqF_refl, hpR, blkR, ndR, e]
  decide
def mgF (t t' : Bool) (n : Nat) (f g : Nat → Nat → Int) : LF := famA 3 [] (mgS t t' n f g ((0 : Nat) : Int) (mgD f g 0)) (mlCk n f g) .normal (mgT (mgD f g n))
theorem mg_body : f_rimeref04_Multi.body.map (bodiesOf 0) = some [.loop mgB] := by kernel_rfl
theorem mg_ok : codeOK prog mgE.env.isW mgB = true := by kernel_rfl
theorem l_mg (t t' : Bool) (n : Nat) (f g : Nat → Nat → Int) : LRow prog f_rimeref04_Multi 0 (mgF t t' n f g) := by
  refine LRow.famA (N := 5) (S := fun k => mgS t t' n f g (k : Int) (mgD f g k)) (GX16.env []) mix n (loop_of mg_body) mg_ok (fun w0 own0 => accOK_none (fun id => rfl) mgB) (fun _ _ => Nat.le_refl _) (Nat.le_refl _) fun ha => ?_
  simp only [mlCk, Bool.and_eq_true] at ha
  obtain ⟨⟨hb, hf⟩, hg, ho⟩ := ha
  have hb : n ≤ 4611686018427387904 := Nat.le_of_ble_eq_true hb
  refine ⟨fun k hk => ?_, ?_⟩
  · have ew : wr .i64 ((k : Int) + 1) = ((k + 1 : Nat) : Int) := by rw [wr_small (by omega) (by omega)]; rfl
    have f1 := rowsB_t.1 hf k hk
    have g1 := rowsB_t.1 hg k hk
    have o1 := opsB_t.1 ho k hk
    obtain ⟨p1, _⟩ := mgP_law g1 o1
    obtain ⟨q1, _⟩ := mgQ_law f1 g1 o1
    obtain ⟨v1, _⟩ := mgV_law (n := k) (rowsB_t.2 fun j hj => rowsB_t.1 hf j (by omega)) (rowsB_t.2 fun j hj => rowsB_t.1 hg j (by omega)) (opsB_t.2 fun j hj => opsB_t.1 ho j (by omega))
    have v2 : gdP (fun j => mgD f g k 0 (0 + j)) = true := by
      have e : (fun j => mgD f g k 0 (0 + j)) = ld0 (lf (mgV f g k)) := rfl
      rw [e, ld0_eq]; exact v1
    refine roundR_toR (mg_round t t' n f g (k : Int) ((k + 1 : Nat) : Int) (mgD f g k) (mgD f g (k + 1))) (and_t.2 ⟨?_, mg_same ew fun d hd => ?_⟩)
    · rw [Int.toNat_natCast, mgM_t, ld0_eq, g1, o1, p1, ld0_eq, f1, v2, q1, inR_nat hk]
      simp [ckL]; omega
    · show mgN f g (mgD f g k) ((k : Int).toNat) 0 d = lf (mgV f g (k + 1)) d
      rw [Int.toNat_natCast]
      unfold mgN
      rw [show Nat.beq 0 0 = true from rfl, show Nat.ble 0 d = true from Nat.ble_eq_true_of_le (Nat.zero_le _), show Nat.ble (d + 1) 40 = true from Nat.ble_eq_true_of_le hd, Nat.sub_zero]
      rfl
  · obtain ⟨s1, r, q1, q2, q3⟩ := roundR_toR (n := 3) (mg_stop t t' n f g (n : Int) (mgD f g n) (mgD f g n)) (and_t.2 ⟨by simp [ckL], mgT_same fun _ _ => rfl⟩)
    exact ⟨_, s1, r, q1, rfl, q2, q3⟩
theorem c_mg (t t' : Bool) (n : Nat) (f g : Nat → Nat → Int) : fnChk prog (envL tt gx16 [] [(0, mgF t t' n f g)]) f_rimeref04_Multi = true := by kernel_rfl
theorem k_mg (t t' : Bool) (n : Nat) (f g : Nat → Nat → Int) : outP (apFunc (envL tt gx16 [] [(0, mgF t t' n f g)]) [(15, false)] 5 f_rimeref04_Multi [.sc (.vints t .u8 32 n f), .sc (.vints t' .u8 32 n g)] []) =
    some (ckL [((n : Int) != (n : Int)) == false, mlCk n f g && stR (rnm 3 []) (mgS t t' n f g 0 (fun r d => bif Nat.beq r 0 && (Nat.ble 0 d && Nat.ble (d + 1) 40) then lf idGL (d - 0) else 0)) (mgS t t' n f g ((0 : Nat) : Int) (mgD f g 0)),
      gdP (fun j => mgD f g n 0 (0 + j))], .tup [b32 (formS (vG (fun j => mgD f g n 0 (0 + j)))), .sc (.int .i64 0)]) := by kernel_rfl
theorem r_multiG : TRow prog F_rimeref04_Multi tMulti := by
  intro args r h
  unfold tMulti at h
  split at h
  case h_2 => simp at h
  rename_i t n f t' m g
  simp only [Option.some.injEq, Prod.mk.injEq, Bool.and_eq_true, beq_t] at h
  obtain ⟨⟨rfl, hc⟩, rfl⟩ := h
  refine pure_of_outL GX16 at_rimeref04_Multi (LsOK.nil.cons (l_mg t t' m f g)) (c_mg t t' m f g) (N := 5) (gs := [(15, false)]) ?_
  have e := k_mg t t' m f g
  have hc' := hc
  simp only [mlCk, Bool.and_eq_true] at hc
  obtain ⟨⟨hb, hf⟩, hg, ho⟩ := hc
  obtain ⟨v1, v2⟩ := mgV_law hf hg ho
  have e0 : (fun j => mgD f g m 0 (0 + j)) = ld0 (lf (mgV f g m)) := rfl
  have es : stR (rnm 3 []) (mgS t t' m f g 0 (fun r d => bif Nat.beq r 0 && (Nat.ble 0 d && Nat.ble (d + 1) 40) then lf idGL (d - 0) else 0)) (mgS t t' m f g ((0 : Nat) : Int) (mgD f g 0)) = true := mg_same rfl fun d hd => by
    rw [show Nat.beq 0 0 = true from rfl, show Nat.ble 0 d = true from Nat.ble_eq_true_of_le (Nat.zero_le _), show Nat.ble (d + 1) 40 = true from Nat.ble_eq_true_of_le hd, Nat.sub_zero]; rfl
  rw [e0, ld0_eq, v1, v2, hc', es] at e
  rw [show (((m : Int) != (m : Int)) == false) = true by simp] at e
  exact e
end Go.Proofs.YtbogcehngfjlkabGreat
namespace Go.Proofs.YtbogcehngfjlkabGreat
open Go.Proofs.Tryz
open Go Go.AM
theorem grp_0 {w : Int} (h : grpS w = 0) : opOk w = true ∧ w ≠ 1 ∧ prS w = true := by
  unfold grpS at h
  cases ho : opOk w with
  | false => rw [ho] at h; exact absurd h (show (41 : Int) ≠ 0 by decide)
  | true =>
    rw [ho] at h
    by_cases h1 : w = 1
    · rw [decide_eq_true h1] at h; exact absurd h (show (42 : Int) ≠ 0 by decide)
    · rw [decide_eq_false h1] at h
      cases hp : prS w with
      | false => rw [hp] at h; exact absurd h (show (43 : Int) ≠ 0 by decide)
      | true => exact ⟨rfl, h1, rfl⟩
end Go.Proofs.YtbogcehngfjlkabGreat
namespace Go.Proofs.YtbogcehngfjlkabGreat
open Go.Proofs.Tryz
open Go Go.AM
def tabH (x : Nat → Option Blk) : Nat → Heap
  | 0 => []
  | n + 1 => tabH x n ++ [x n]
theorem tabH_length (x : Nat → Option Blk) : ∀ n, (tabH x n).length = n
  | 0 => rfl
  | n + 1 => by simp [tabH, tabH_length x n]
theorem tabH_get (x : Nat → Option Blk) : ∀ n i, i < n → (tabH x n)[i]? = some (x i)
  | 0, i, h => by omega
  | n + 1, i, h => by
    by_cases e : i = n
    · subst e
      rw [tabH, List.getElem?_append_right (by rw [tabH_length]; exact Nat.le_refl _), tabH_length, Nat.sub_self]; rfl
    · rw [tabH, List.getElem?_append_left (by rw [tabH_length]; omega)]
      exact tabH_get x n i (by omega)
theorem tabH_take (l : Heap) (n : Nat) (h : n ≤ l.length) : l.take n = tabH (fun i => (l[i]?).getD none) n := by
  refine List.ext_getElem? fun i => ?_
  by_cases hi : i < n
  · rw [tabH_get _ _ _ hi, List.getElem?_take, if_pos hi, List.getElem?_eq_getElem (show i < l.length by omega)]
    rfl
  · rw [List.getElem?_take, if_neg hi, List.getElem?_eq_none (by rw [tabH_length]; omega)]
theorem LRow.dep {P : Program} {fn : Func} {id : Nat} {F : Nat → LF} (g : St → Nat) (h : ∀ p, LRow P fn id (F p)) : LRow P fn id (fun s => F (g s) s) :=
  ⟨fun c hc b hb w0 own0 n0 s s' e σ pr a w Q hF H hQ => (h (g s)).1 c hc b hb w0 own0 n0 s s' e σ pr a w Q hF H hQ, fun s e s' hF i hi => (h (g s)).2 s e s' hF i hi⟩
structure GV where
  q : Nat
  bs : Nat
  x : Nat → Option Blk
  t : Bool
  n : Nat
  f : Nat → Nat → Int
  m : Nat
theorem bls_t {r k : Nat} (h : r < k) : Nat.ble (r + 1) k = true := Nat.ble_eq_true_of_le h
theorem bls_f {r k : Nat} (h : ¬ r < k) : Nat.ble (r + 1) k = false := by
  cases hb : Nat.ble (r + 1) k with
  | false => rfl
  | true => exact absurd (Nat.le_of_ble_eq_true hb) h
def upto (k : Nat) (f g : Nat → Nat → Int) : Nat → Nat → Int := fun r d => bif Nat.ble (r + 1) k then f r d else g r d
theorem upto_lt {k : Nat} {f g : Nat → Nat → Int} {r : Nat} (h : r < k) (d : Nat) : upto k f g r d = f r d := by unfold upto; rw [bls_t h]; rfl
theorem upto_ge {k : Nat} {f g : Nat → Nat → Int} {r : Nat} (h : ¬ r < k) (d : Nat) : upto k f g r d = g r d := by unfold upto; rw [bls_f h]; rfl
def putR (D : Nat → Nat → Int) (i z : Nat) (g : Nat → Int) : Nat → Nat → Int := fun r d => bif Nat.beq r i && (Nat.ble 0 d && Nat.ble (d + 1) (0 + z)) then g (d - 0) else D r d
theorem putR_upto {k m z : Nat} {f g : Nat → Nat → Int} {x : Nat → Int} (hx : ∀ d, d < z → x d = f k d) : eqF m z (putR (upto k f g) (0 + ((k : Nat) : Int).toNat) z x) (upto (k + 1) f g) = true := eqF_of fun r hr d hd => by
  rw [Int.toNat_natCast, Nat.zero_add]
  unfold putR
  by_cases e : r = k
  · subst e
    rw [upto_lt (Nat.lt_succ_self r), show Nat.beq r r = true from beq_t.2 rfl, show Nat.ble 0 d = true from Nat.ble_eq_true_of_le (Nat.zero_le _), Nat.zero_add, bls_t hd, Nat.sub_zero, ← hx d hd]; rfl
  · rw [show Nat.beq r k = false from beq_f.2 e]
    show upto k f g r d = _
    by_cases h : r < k
    · rw [upto_lt h, upto_lt (by omega)]
    · rw [upto_ge h, upto_ge (by omega)]
def hp1 (s : St) : Nat := s.hp.length - 1
def bookAt (q : Nat) (row : Nat → List Seg) (x : Nat → Option Blk) : Nat → Option Blk := fun i => bif Nat.beq i q then some (.mix 30 1 row) else x i
def bookUp (c0 c1 c2 : Nat → SV) : Nat → List Seg := fun r => bif Nat.beq r 0 then onesS c2 30 0 else bif Nat.beq r 0 then onesS c1 30 0 else onesS c0 30 0
def bkC (l : List SV) : Nat → SV := fun i => l.getD i .unk
def gvM (n : Nat) : Nat := (wr .i64 ((n : Int) + 3)).toNat
theorem gvM_law {n : Nat} (h : n ≤ 1073741824) : wr .i64 ((n : Int) + 3) = ((n + 3 : Nat) : Int) ∧ gvM n = n + 3 := by
  have e : wr .i64 ((n : Int) + 3) = ((n + 3 : Nat) : Int) := by rw [wr_small (by omega) (by omega)]; omega
  exact ⟨e, by unfold gvM; rw [e, Int.toNat_natCast]⟩
theorem same_at {q p : Nat} {row row' : Nat → List Seg} {x : Nat → Option Blk} {a b : Heap} (hr : row' 0 = row 0) (hl : b.length = a.length) (hab : ∀ (id : Nat) (c : Blk), b[id]? = some (some c) → ∃ d, a[id]? = some (some d) ∧ BSame d c) :
    HSame (tabH (bookAt q row x) p ++ a) (tabH (bookAt q row' x) p ++ b) := by
  refine ⟨by simp [tabH_length, hl], fun id c hc => ?_⟩
  by_cases h : id < p
  · rw [List.getElem?_append_left (by rw [tabH_length]; exact h), tabH_get _ _ _ h] at hc ⊢
    unfold bookAt at hc ⊢
    cases hq : Nat.beq id q with
    | true =>
      rw [hq] at hc
      simp only [cond_true, Option.some.injEq] at hc
      subst hc
      refine ⟨_, rfl, rfl, rfl, fun i hi => ?_⟩
      have : i = 0 := Nat.lt_one_iff.1 hi
      subst this
      exact hr
    | false =>
      rw [hq] at hc
      exact ⟨c, hc, BSame.refl c⟩
  · rw [List.getElem?_append_right (by rw [tabH_length]; omega), tabH_length] at hc ⊢
    exact hab _ c hc
theorem same_nil {hp : Heap} {q : Nat} {row : Nat → List Seg} {c : Nat → SV} (hq : hp[q]? = some (some (.mix 30 1 row))) (hr : row 0 = onesS c 30 0) :
    HSame hp (tabH (bookAt q (fun _ => onesS c 30 0) (fun i => (hp[i]?).getD none)) hp.length) := by
  refine ⟨tabH_length _ _, fun id b hb => ?_⟩
  have h : id < hp.length := by
    have := (List.getElem?_eq_some_iff.1 hb).1
    rwa [tabH_length] at this
  rw [tabH_get _ _ _ h] at hb
  unfold bookAt at hb
  cases e : Nat.beq id q with
  | true =>
    rw [e] at hb
    simp only [cond_true, Option.some.injEq] at hb
    subst hb
    rw [beq_t.1 e]
    refine ⟨_, hq, rfl, rfl, fun i hi => ?_⟩
    have : i = 0 := Nat.lt_one_iff.1 hi
    subst this
    exact hr.symm
  | false =>
    rw [e] at hb
    simp only [cond_false, Option.some.injEq] at hb
    refine ⟨b, ?_, BSame.refl b⟩
    cases hx : hp[id]? with
    | none => rw [hx] at hb; simp at hb
    | some y => rw [hx] at hb; simp at hb; rw [hb]
theorem nones_at {hp : Heap} {q : Nat} {row row' : Nat → List Seg} (hq : hp[q]? = some (some (.mix 30 1 row))) {b : Heap} : ∀ (i : Nat), hp[i]? = some none → (tabH (bookAt q row' (fun i => (hp[i]?).getD none)) hp.length ++ b)[i]? = some none := fun i hi => by
  have h := (List.getElem?_eq_some_iff.1 hi).1
  rw [List.getElem?_append_left (by rw [tabH_length]; exact h), tabH_get _ _ _ h]
  unfold bookAt
  have e : Nat.beq i q = false := by
    cases e : Nat.beq i q with
    | false => rfl
    | true => rw [beq_t.1 e, hq] at hi; simp at hi
  rw [e]
  show some ((hp[i]?).getD none) = _
  rw [hi]; rfl
theorem set2_self {i : Nat} {c : Nat → SV} (h1 : c i = .nils) (h2 : c (i + 1) = .nils) : set2 i .nils .nils c = c := by
  funext j; unfold set2
  cases e : Nat.beq j i with
  | true => rw [beq_t.1 e, h1]; rfl
  | false => cases e2 : Nat.beq j (i + 1) with
    | true => rw [beq_t.1 e2, h2]; rfl
    | false => rfl
theorem same_one {sz : Nat} {row row' : Nat → List Seg} (h : row' 0 = row 0) : BSame (.mix sz 1 row) (.mix sz 1 row') := ⟨rfl, rfl, fun i hi => by
  have hi : i < 1 := hi
  obtain rfl : i = 0 := by omega
  exact h⟩
theorem same_five {a0 a1 a2 a3 a4 b0 b1 b2 b3 b4 : Blk} (h0 : BSame a0 b0) (h1 : BSame a1 b1) (h2 : BSame a2 b2) (h3 : BSame a3 b3) (h4 : BSame a4 b4) :
    ∀ (id : Nat) (c : Blk), ([some b0, some b1, some b2, some b3, some b4] : Heap)[id]? = some (some c) → ∃ d, ([some a0, some a1, some a2, some a3, some a4] : Heap)[id]? = some (some d) ∧ BSame d c := by
  intro id c hc
  match id, hc with
  | 0, hc => simp only [List.getElem?_cons_zero, Option.some.injEq] at hc; subst hc; exact ⟨_, rfl, h0⟩
  | 1, hc => simp only [List.getElem?_cons_succ, List.getElem?_cons_zero, Option.some.injEq] at hc; subst hc; exact ⟨_, rfl, h1⟩
  | 2, hc => simp only [List.getElem?_cons_succ, List.getElem?_cons_zero, Option.some.injEq] at hc; subst hc; exact ⟨_, rfl, h2⟩
  | 3, hc => simp only [List.getElem?_cons_succ, List.getElem?_cons_zero, Option.some.injEq] at hc; subst hc; exact ⟨_, rfl, h3⟩
  | 4, hc => simp only [List.getElem?_cons_succ, List.getElem?_cons_zero, Option.some.injEq] at hc; subst hc; exact ⟨_, rfl, h4⟩
  | k + 5, hc => simp at hc
def isNils : SV → Bool | .nils => true | _ => false
theorem isNils_t {v : SV} (h : isNils v = true) : v = .nils := by cases v <;> simp [isNils] at h; rfl
end Go.Proofs.YtbogcehngfjlkabGreat
namespace Go.Proofs.YtbogcehngfjlkabGreat
open Go.Proofs.Tryz
open Go Go.AM
def cnF (f : Nat → Nat → Int) : Nat → Nat → Int := fun r d => lf (byL 32 (hval (f r) 32 0 % ordL)) d
theorem cn_hval (f : Nat → Nat → Int) (r : Nat) : hval (cnF f r) 32 0 = hval (f r) 32 0 % ordL := b_ord _
theorem cn_areB (f : Nat → Nat → Int) (r : Nat) : areB (cnF f r) 32 0 = true := areB_b32 _
def grp0 (g : Nat → Nat → Int) (j : Nat) : Bool := decide (grpS (hval (g j) 32 0) = 0)
def firstF (p : Nat → Bool) : Nat → Nat → Nat
  | 0, j => j
  | n + 1, j => bif p j then firstF p n (j + 1) else j
theorem firstF_spec (p : Nat → Bool) : ∀ (n j : Nat), j ≤ firstF p n j ∧ firstF p n j ≤ j + n ∧ (∀ k, j ≤ k → k < firstF p n j → p k = true) ∧ (firstF p n j < j + n → p (firstF p n j) = false)
  | 0, j => ⟨Nat.le_refl _, Nat.le_refl _, fun k h1 h2 => by simp only [firstF] at h2; omega, fun h => by simp only [firstF] at h; omega⟩
  | n + 1, j => by
    unfold firstF
    cases e : p j with
    | true =>
      obtain ⟨h1, h2, h3, h4⟩ := firstF_spec p n (j + 1)
      show j ≤ firstF p n (j + 1) ∧ _
      refine ⟨by omega, by show firstF p n (j + 1) ≤ _; omega, fun k hk1 hk2 => ?_, fun h => h4 (by have h : firstF p n (j + 1) < _ := h; omega)⟩
      by_cases q : k = j
      · rw [q]; exact e
      · exact h3 k (by omega) hk2
    | false => exact ⟨Nat.le_refl _, by show j ≤ _; omega, fun k h1 h2 => by have h2 : k < j := h2; omega, fun _ => e⟩
theorem firstF_ext {p q : Nat → Bool} : ∀ {n j : Nat}, (∀ k, j ≤ k → k < j + n → p k = q k) → firstF p n j = firstF q n j
  | 0, _, _ => rfl
  | n + 1, j, h => by
    unfold firstF
    rw [h j (by omega) (by omega), firstF_ext (n := n) (j := j + 1) fun k h1 h2 => h k (by omega) (by omega)]
def combS (f : Nat → Nat → Int) (n : Nat) (g : Nat → Nat → Int) : Int × Int :=
  bif Nat.beq (firstF (grp0 g) n 0) n then (formS (msS (cnF f) g n), 0) else (0, grpS (hval (g (firstF (grp0 g) n 0)) 32 0))
def joinL (m : Nat) (D : Nat → Nat → Int) (x : Nat → Int) : Nat → Nat → Int := fun r d => bif Nat.ble (r + 1) m then D (0 + r) (0 + d) else svInt (cellAt (([[Seg.ints .u8 32 x]] : List (List Seg)).getD (0 + (r - m)) []) (0 + d))
theorem joinL_eq {m : Nat} {D D' : Nat → Nat → Int} {x : Nat → Int} (h1 : ∀ r, r < m → ∀ d, d < 32 → D r d = D' r d) (h2 : ∀ d, d < 32 → x d = D' m d) : eqF (m + 1) 32 (joinL m D x) D' = true := eqF_of fun r hr d hd => by
  unfold joinL
  by_cases e : r < m
  · rw [bls_t e]
    show D (0 + r) (0 + d) = _
    rw [Nat.zero_add, Nat.zero_add, h1 r e d hd]
  · obtain rfl : r = m := by omega
    rw [bls_f (by omega), Nat.sub_self]
    show svInt (cellAt [Seg.ints .u8 32 x] (0 + d)) = _
    rw [Nat.zero_add]
    exact h2 d hd
noncomputable def cb0 : List (Nat × TF) := (F_suite_group, tGroup) :: (F_rimeref06_Group, tGroup) :: (F_scalar_Add, tAdd) :: (F_rimeref02_Reduce, tReduce2) :: (F_edwards_Multi, tMulti) :: (F_rimeref04_Multi, tMulti) :: []
theorem CB0 : LibOK prog tt cb0 [] := (((((L0.addT r_multiG).addT r_multi).addT r_reduce2).addT r_add).addT r_groupG).addT r_group
noncomputable abbrev cbE : EnvP := envP tt cb0 []
noncomputable def cbB : Code := match f_suite_Combine.body with | some c => (match bodiesOf 0 c with | [.loop b] => b | _ => .skip) | none => .skip
def z32 : Option Blk := some (.ints .u8 32 1 (fun _ _ => 0))
def cbT (t t' : Bool) (n : Nat) (f g : Nat → Nat → Int) (v : Int) (id m : Nat) : List (Nat × AV) := [(0, .sc (.vints t .u8 32 n f)), (1, .sc (.vints t' .u8 32 n g)), (4, .sc (.ptr 0 32 0 0 32)), (6, .sc (.slice id 32 0 0 32 m)), (16, .sc (.vints t' .u8 32 n g)), (17, .sc (.int .i64 n)), (18, .sc (.int .i64 v))]
def cbS (t t' : Bool) (n : Nat) (f g : Nat → Nat → Int) (v : Int) (m : Nat) (D : Nat → Nat → Int) : St := ⟨tmOf (cbT t t' n f g v 1 m) 44 0, [z32, some (.ints .u8 32 m D)]⟩
def cbM (t t' : Bool) (n : Nat) (f g : Nat → Nat → Int) (v : Int) (m : Nat) (D : Nat → Nat → Int) : St := ⟨tmOf (cbT t t' n f g v 4 m) 44 0, [z32, none, none, none, some (.ints .u8 32 m D)]⟩
def cbT1 (t' : Bool) (n : Nat) (g : Nat → Nat → Int) (D : Nat → Nat → Int) : St := ⟨tmOf [(1, .sc (.vints t' .u8 32 n g)), (4, .sc (.ptr 0 32 0 0 32)), (6, .sc (.slice 1 32 0 0 32 n))] 44 0, [z32, some (.ints .u8 32 n D)]⟩
def cbT2 (e : Int) : St := ⟨tmOf [(4, .sc (.ptr 0 32 0 0 32)), (5, .sc (.int .i64 e))] 44 0, [z32]⟩
def cbX (f : Nat → Nat → Int) (k : Nat) : Nat → Int := lf (byL 32 ((hval (ld0 (f k)) 32 0 + hval (fun _ => 0) 32 0) % ordL))
theorem cb_round (t t' : Bool) (n : Nat) (f g : Nat → Nat → Int) (v v' : Int) (m m' : Nat) (D D' : Nat → Nat → Int) : roundR cbE [(19, true), (26, false)] 5 1 [4] cbB (cbS t t' n f g v m D) .normal (cbS t t' n f g v' m' D') =
    some (ckL [decide (v < (n : Int)) == true, inR v n, areB (gz 32 (ld0 (g v.toNat))) 32 0, (grpS (hval (gz 32 (ld0 (g v.toNat))) 32 0) != 0) == false, inR v n, areB (ld0 (f v.toNat)) 32 0 && true, fits (m + 1) 32 && true] &&
      stR (rnm 1 [4]) (cbM t t' n f g (wr .i64 (v + 1)) (m + 1) (joinL m D (cbX f v.toNat))) (cbS t t' n f g v' m' D')) := by kernel_rfl
theorem cb_stop (t t' : Bool) (n : Nat) (f g : Nat → Nat → Int) (v : Int) (D D' : Nat → Nat → Int) : roundR cbE [(19, false)] 5 1 [1] cbB (cbS t t' n f g v n D) (.exit 0) (cbT1 t' n g D') =
    some (ckL [decide (v < (n : Int)) == false] && stR (rnm 1 [1]) (cbT1 t' n g D) (cbT1 t' n g D')) := by kernel_rfl
theorem cb_ret (t t' : Bool) (n : Nat) (f g : Nat → Nat → Int) (v : Int) (m : Nat) (D : Nat → Nat → Int) (e : Int) : roundR cbE [(19, true), (26, true)] 5 1 [] cbB (cbS t t' n f g v m D) .ret (cbT2 e) =
    some (ckL [decide (v < (n : Int)) == true, inR v n, areB (gz 32 (ld0 (g v.toNat))) 32 0, (grpS (hval (gz 32 (ld0 (g v.toNat))) 32 0) != 0) == true] && stR (rnm 1 []) (cbT2 (grpS (hval (gz 32 (ld0 (g v.toNat))) 32 0))) (cbT2 e)) := by kernel_rfl
theorem cb_same {t t' : Bool} {n : Nat} {f g : Nat → Nat → Int} {v v' : Int} {m : Nat} {D D' : Nat → Nat → Int} (hv : v = v') (h : eqF m 32 D D' = true) : stR (rnm 1 [4]) (cbM t t' n f g v m D) (cbS t t' n f g v' m D') = true := by
  subst hv
  simp [stR, cbM, cbS, cbT, z32, tmOf, tmR, avR, svR, rIs, rnm, kEq_refl, eqF_refl, hpR, blkR, ndR, h] <;> decide
theorem cb_same1 {t' : Bool} {n : Nat} {g : Nat → Nat → Int} {D : Nat → Nat → Int} : stR (rnm 1 [1]) (cbT1 t' n g D) (cbT1 t' n g D) = true := by
  simp [stR, cbT1, z32, tmOf, tmR, avR, svR, rIs, rnm, kEq_refl, eqF_refl, hpR, blkR, ndR] <;> decide
theorem cb_same2 {e e' : Int} (h : e = e') : stR (rnm 1 []) (cbT2 e) (cbT2 e') = true := by
  subst h
  simp [stR, cbT2, z32, tmOf, tmR, avR, svR, rIs, rnm, kEq_refl, eqF_refl, hpR, blkR, ndR] <;> decide
def lim (n : Nat) : Bool := Nat.ble n 1073741824
def combCk (n : Nat) (f g : Nat → Nat → Int) : Bool := lim n && (rowsB f n && rowsB g n)
def cbF1 (t t' : Bool) (n : Nat) (f g : Nat → Nat → Int) : LF := famA 1 [] (cbS t t' n f g ((0 : Nat) : Int) 0 (cnF f)) (combCk n f g && Nat.beq (firstF (grp0 g) n 0) n) .normal (cbT1 t' n g (cnF f))
def cbF2 (t t' : Bool) (n : Nat) (f g : Nat → Nat → Int) : LF := famA 1 [] (cbS t t' n f g ((0 : Nat) : Int) 0 (cnF f)) (combCk n f g && Nat.ble (firstF (grp0 g) n 0 + 1) n) .ret (cbT2 (grpS (hval (g (firstF (grp0 g) n 0)) 32 0)))
theorem cb_body : f_suite_Combine.body.map (bodiesOf 0) = some [.loop cbB] := by kernel_rfl
theorem cb_ok : codeOK prog cbE.env.isW cbB = true := by kernel_rfl
theorem fits32 {m : Nat} (h : m ≤ 2147483648) : fits m 32 = true := by simp [fits]; omega
theorem cb_step {t t' : Bool} {n : Nat} {f g : Nat → Nat → Int} (hc : combCk n f g = true) {k : Nat} (hk : k < firstF (grp0 g) n 0) :
    ∃ s1 r, am cbE.env 5 cbB (cbS t t' n f g (k : Int) k (cnF f)) = some (.normal, s1) ∧ StLeR r s1 (cbS t t' n f g ((k + 1 : Nat) : Int) (k + 1) (cnF f)) ∧ ∀ i, i < 1 → r i = some i := by
  simp only [combCk, Bool.and_eq_true] at hc
  obtain ⟨hl, hf, hg⟩ := hc
  have hl : n ≤ 1073741824 := Nat.le_of_ble_eq_true hl
  obtain ⟨_, h2, h3, _⟩ := firstF_spec (grp0 g) n 0
  have hkn : k < n := by omega
  have f1 := rowsB_t.1 hf k hkn
  have g1 := rowsB_t.1 hg k hkn
  have hz : grpS (hval (g k) 32 0) = 0 := of_decide_eq_true (h3 k (Nat.zero_le _) hk)
  have ew : wr .i64 ((k : Int) + 1) = ((k + 1 : Nat) : Int) := by rw [wr_small (by omega) (by omega)]; rfl
  refine roundR_toR (cb_round t t' n f g (k : Int) ((k + 1 : Nat) : Int) k (k + 1) (cnF f) (cnF f)) (and_t.2 ⟨?_, cb_same ew (joinL_eq (fun _ _ _ _ => rfl) fun d _ => ?_)⟩)
  · rw [Int.toNat_natCast, gz_areB g1, gz_hval, hz, ld0_eq, f1, inR_nat hkn, fits32 (by omega)]
    simp [ckL]; omega
  · unfold cbX cnF
    rw [Int.toNat_natCast, ld0_eq, hval_0, Int.add_zero]
theorem l_cb1 (t t' : Bool) (n : Nat) (f g : Nat → Nat → Int) : LRow prog f_suite_Combine 0 (cbF1 t t' n f g) := by
  refine LRow.famA (N := 5) (S := fun k => cbS t t' n f g (k : Int) k (cnF f)) (CB0.env []) mix n (loop_of cb_body) cb_ok (fun w0 own0 => accOK_none (fun id => rfl) cbB) (fun _ _ => Nat.le_succ _) (Nat.le_succ _) fun ha => ?_
  simp only [Bool.and_eq_true, beq_t] at ha
  refine ⟨fun k hk => cb_step ha.1 (by omega), ?_⟩
  obtain ⟨s1, r, q1, q2, q3⟩ := roundR_toR (n := 1) (cb_stop t t' n f g (n : Int) (cnF f) (cnF f)) (and_t.2 ⟨by simp [ckL], cb_same1⟩)
  exact ⟨_, s1, r, q1, rfl, q2, q3⟩
theorem l_cb2 (t t' : Bool) (n : Nat) (f g : Nat → Nat → Int) : LRow prog f_suite_Combine 0 (cbF2 t t' n f g) := by
  refine LRow.famA (N := 5) (S := fun k => cbS t t' n f g (k : Int) k (cnF f)) (CB0.env []) mix (firstF (grp0 g) n 0) (loop_of cb_body) cb_ok (fun w0 own0 => accOK_none (fun id => rfl) cbB) (fun _ _ => Nat.le_succ _) (Nat.le_refl _) fun ha => ?_
  simp only [Bool.and_eq_true, ble_t] at ha
  refine ⟨fun k hk => cb_step ha.1 hk, ?_⟩
  have hc := ha.1
  simp only [combCk, Bool.and_eq_true] at hc
  obtain ⟨hl, hf, hg⟩ := hc
  obtain ⟨_, h2, h3, h4⟩ := firstF_spec (grp0 g) n 0
  have hb : (grpS (hval (g (firstF (grp0 g) n 0)) 32 0) != 0) = true := by
    have := of_decide_eq_false (h4 (by omega))
    simpa using this
  generalize firstF (grp0 g) n 0 = k at *
  have hkn : k < n := by omega
  have g1 := rowsB_t.1 hg k hkn
  obtain ⟨s1, r, q1, q2, q3⟩ := roundR_toR (n := 1) (cb_ret t t' n f g (k : Int) k (cnF f) (grpS (hval (g k) 32 0))) (and_t.2 ⟨by
    rw [Int.toNat_natCast, gz_areB g1, gz_hval, hb, inR_nat hkn]
    simp [ckL]; omega, cb_same2 (by rw [Int.toNat_natCast, gz_hval])⟩)
  exact ⟨_, s1, r, q1, rfl, q2, q3⟩
theorem c_cb1 (t t' : Bool) (n : Nat) (f g : Nat → Nat → Int) : fnChk prog (envL tt cb0 [] [(0, cbF1 t t' n f g)]) f_suite_Combine = true := by kernel_rfl
theorem c_cb2 (t t' : Bool) (n : Nat) (f g : Nat → Nat → Int) : fnChk prog (envL tt cb0 [] [(0, cbF2 t t' n f g)]) f_suite_Combine = true := by kernel_rfl
def cbZ (t t' : Bool) (n : Nat) (f g : Nat → Nat → Int) : St := ⟨tmOf [(0, .sc (.vints t .u8 32 n f)), (1, .sc (.vints t' .u8 32 n g)), (4, .sc (.ptr 0 32 0 0 32)), (6, .sc .nils), (16, .sc (.vints t' .u8 32 n g)), (17, .sc (.int .i64 n)), (18, .sc (.int .i64 0))] 44 0, [z32]⟩
theorem cb_same0 {t t' : Bool} {n : Nat} {f g D : Nat → Nat → Int} : stR (rnm 1 []) (cbZ t t' n f g) (cbS t t' n f g ((0 : Nat) : Int) 0 D) = true := by
  simp [stR, cbZ, cbS, cbT, z32, tmOf, tmR, avR, svR, rIs, rnm, kEq_refl, eqF_refl, hpR, blkR, ndR, Blk.n]
def cnR (f : Nat → Nat → Int) : Nat → Nat → Int := fun j d => cnF f (0 + j) (0 + d)
theorem k_cb0 (t t' : Bool) (n m : Nat) (f g : Nat → Nat → Int) : outP (apFunc cbE [(14, true)] 5 f_suite_Combine [.sc (.vints t .u8 32 n f), .sc (.vints t' .u8 32 m g)] []) = some (ckL [((n : Int) != (m : Int)) == true], .tup [b32 0, .sc (.int .i64 8)]) := by kernel_rfl
theorem k_cb1 (t t' : Bool) (n : Nat) (f g : Nat → Nat → Int) : outP (apFunc (envL tt cb0 [] [(0, cbF1 t t' n f g)]) [(14, false)] 5 f_suite_Combine [.sc (.vints t .u8 32 n f), .sc (.vints t' .u8 32 n g)] []) =
    some (ckL [((n : Int) != (n : Int)) == false, (combCk n f g && Nat.beq (firstF (grp0 g) n 0) n) && stR (rnm 1 []) (cbZ t t' n f g) (cbS t t' n f g ((0 : Nat) : Int) 0 (cnF f)), Nat.beq n n && mlCk n (cnR f) g], .tup [b32 (formS (msS (cnR f) g n)), .sc (.int .i64 0)]) := by kernel_rfl
theorem k_cb2 (t t' : Bool) (n : Nat) (f g : Nat → Nat → Int) : outP (apFunc (envL tt cb0 [] [(0, cbF2 t t' n f g)]) [(14, false)] 5 f_suite_Combine [.sc (.vints t .u8 32 n f), .sc (.vints t' .u8 32 n g)] []) =
    some (ckL [((n : Int) != (n : Int)) == false, (combCk n f g && Nat.ble (firstF (grp0 g) n 0 + 1) n) && stR (rnm 1 []) (cbZ t t' n f g) (cbS t t' n f g ((0 : Nat) : Int) 0 (cnF f))], .tup [b32 0, .sc (.int .i64 (grpS (hval (g (firstF (grp0 g) n 0)) 32 0)))]) := by kernel_rfl
def cmbS (f : Nat → Nat → Int) (n : Nat) (g : Nat → Nat → Int) (m : Nat) : Int × Int := if n = m then combS f n g else (0, 8)
def tCombine : TF := fun args => match args with
  | [.sc (.vints _ .u8 32 n f), .sc (.vints _ .u8 32 m g)] => some ((lim n && rowsB f n) && rowsB g m, .tup [b32 (cmbS f n g m).1, .sc (.int .i64 (cmbS f n g m).2)])
  | _ => none
theorem comb_mul {n : Nat} {f g : Nat → Nat → Int} (hl : lim n = true) (hg : rowsB g n = true) (h : Nat.beq (firstF (grp0 g) n 0) n = true) : mlCk n (cnR f) g = true ∧ msS (cnR f) g n = msS (cnF f) g n := by
  have h := beq_t.1 h
  obtain ⟨_, _, h3, _⟩ := firstF_spec (grp0 g) n 0
  have ho : opsB g n = true := opsB_t.2 fun j hj => (grp_0 (of_decide_eq_true (h3 j (Nat.zero_le _) (by omega)))).1
  have er : cnR f = cnF f := by funext j d; unfold cnR; rw [Nat.zero_add, Nat.zero_add]
  have hb : big n = true := Nat.ble_eq_true_of_le (by have := Nat.le_of_ble_eq_true hl; omega)
  have hr : rowsB (cnF f) n = true := rowsB_t.2 fun j _ => cn_areB f j
  rw [er]
  unfold mlCk
  rw [hb, hr, hg, ho]
  exact ⟨rfl, rfl⟩
theorem nn_t (n : Nat) : (((n : Int) != (n : Int)) == false) = true := by simp
theorem nm_t {n m : Nat} (h : n ≠ m) : (((n : Int) != (m : Int)) == true) = true := by simp; omega
theorem r_combine : TRow prog F_suite_Combine tCombine := by
  intro args r h
  unfold tCombine at h
  split at h
  case h_2 => simp at h
  rename_i t n f t' m g
  simp only [Option.some.injEq, Prod.mk.injEq, Bool.and_eq_true] at h
  obtain ⟨⟨⟨hl, hf⟩, hg⟩, rfl⟩ := h
  unfold cmbS
  by_cases hn : n = m
  · subst hn
    rw [if_pos rfl]
    have hc : combCk n f g = true := by unfold combCk; rw [hl, hf, hg]; rfl
    unfold combS
    cases hb : Nat.beq (firstF (grp0 g) n 0) n with
    | true =>
      obtain ⟨m1, m2⟩ := comb_mul (f := f) hl hg hb
      have e := k_cb1 t t' n f g
      rw [hc, hb, cb_same0, nn_t, m1, m2, nbeq_refl] at e
      exact pure_of_outL CB0 at_suite_Combine (LsOK.nil.cons (l_cb1 t t' n f g)) (c_cb1 t t' n f g) (N := 5) (gs := [(14, false)]) e
    | false =>
      have hlt : Nat.ble (firstF (grp0 g) n 0 + 1) n = true := Nat.ble_eq_true_of_le (by
        have := (firstF_spec (grp0 g) n 0).2.1
        have := beq_f.1 hb
        omega)
      have e := k_cb2 t t' n f g
      rw [hc, hlt, cb_same0, nn_t] at e
      exact pure_of_outL CB0 at_suite_Combine (LsOK.nil.cons (l_cb2 t t' n f g)) (c_cb2 t t' n f g) (N := 5) (gs := [(14, false)]) e
  · rw [if_neg hn]
    have e := k_cb0 t t' n m f g
    rw [nm_t hn] at e
    have c0 : fnChk prog cbE f_suite_Combine = true := by kernel_rfl
    exact pure_of_out CB0 at_suite_Combine c0 (N := 5) (gs := [(14, true)]) e
end Go.Proofs.YtbogcehngfjlkabGreat
namespace Go.Proofs.YtbogcehngfjlkabGreat
open Go.Proofs.Tryz
open Go Go.AM
noncomputable def cgB : Code := match f_rimeref06_Combine.body with | some c => (match bodiesOf 0 c with | [.loop b] => b | _ => .skip) | none => .skip
def cgT (t t' : Bool) (n : Nat) (f g : Nat → Nat → Int) (v : Int) (id m : Nat) : List (Nat × AV) := [(0, .sc (.vints t .u8 32 n f)), (1, .sc (.vints t' .u8 32 n g)), (4, .sc (.ptr 0 32 0 0 32)), (6, .sc (.slice id 32 0 0 32 m)), (7, .sc (.int .i64 v))]
def cgS (t t' : Bool) (n : Nat) (f g : Nat → Nat → Int) (v : Int) (m : Nat) (D : Nat → Nat → Int) : St := ⟨tmOf (cgT t t' n f g v 1 m) 43 0, [z32, some (.ints .u8 32 m D)]⟩
def cgM (t t' : Bool) (n : Nat) (f g : Nat → Nat → Int) (v : Int) (m : Nat) (D : Nat → Nat → Int) : St := ⟨tmOf (cgT t t' n f g v 3 m) 43 0, [z32, none, none, some (.ints .u8 32 m D)]⟩
def cgT1 (t' : Bool) (n : Nat) (g : Nat → Nat → Int) (D : Nat → Nat → Int) : St := ⟨tmOf [(1, .sc (.vints t' .u8 32 n g)), (4, .sc (.ptr 0 32 0 0 32)), (6, .sc (.slice 1 32 0 0 32 n))] 43 0, [z32, some (.ints .u8 32 n D)]⟩
def cgT2 (e : Int) : St := ⟨tmOf [(4, .sc (.ptr 0 32 0 0 32)), (5, .sc (.int .i64 e))] 43 0, [z32]⟩
def cgX (f : Nat → Nat → Int) (k : Nat) : Nat → Int := lf (byL 32 (hval (fun j => ld0 (f k) j) 32 0 % ordL))
theorem cg_round (t t' : Bool) (n : Nat) (f g : Nat → Nat → Int) (v v' : Int) (m m' : Nat) (D D' : Nat → Nat → Int) : roundR cbE [(18, true), (27, false)] 5 1 [3] cgB (cgS t t' n f g v m D) .normal (cgS t t' n f g v' m' D') =
    some (ckL [decide (v < (n : Int)) == true, inR v n, areB (ld0 (g v.toNat)) 32 0, (grpS (hval (ld0 (g v.toNat)) 32 0) != 0) == false, inR v n, areB (fun j => ld0 (f v.toNat) j) 32 0, fits (m + 1) 32 && true] &&
      stR (rnm 1 [3]) (cgM t t' n f g (wr .i64 (v + 1)) (m + 1) (joinL m D (cgX f v.toNat))) (cgS t t' n f g v' m' D')) := by kernel_rfl
theorem cg_stop (t t' : Bool) (n : Nat) (f g : Nat → Nat → Int) (v : Int) (D D' : Nat → Nat → Int) : roundR cbE [(18, false)] 5 1 [1] cgB (cgS t t' n f g v n D) (.exit 0) (cgT1 t' n g D') =
    some (ckL [decide (v < (n : Int)) == false] && stR (rnm 1 [1]) (cgT1 t' n g D) (cgT1 t' n g D')) := by kernel_rfl
theorem cg_ret (t t' : Bool) (n : Nat) (f g : Nat → Nat → Int) (v : Int) (m : Nat) (D : Nat → Nat → Int) (e : Int) : roundR cbE [(18, true), (27, true)] 5 1 [] cgB (cgS t t' n f g v m D) .ret (cgT2 e) =
    some (ckL [decide (v < (n : Int)) == true, inR v n, areB (ld0 (g v.toNat)) 32 0, (grpS (hval (ld0 (g v.toNat)) 32 0) != 0) == true] && stR (rnm 1 []) (cgT2 (grpS (hval (ld0 (g v.toNat)) 32 0))) (cgT2 e)) := by kernel_rfl
theorem cg_same {t t' : Bool} {n : Nat} {f g : Nat → Nat → Int} {v v' : Int} {m : Nat} {D D' : Nat → Nat → Int} (hv : v = v') (h : eqF m 32 D D' = true) : stR (rnm 1 [3]) (cgM t t' n f g v m D) (cgS t t' n f g v' m D') = true := by
  subst hv
  simp [stR, cgM, cgS, cgT, z32, tmOf, tmR, avR, svR, rIs, rnm, kEq_refl, eqF_refl, hpR, blkR, ndR, h] <;> decide
theorem cg_same1 {t' : Bool} {n : Nat} {g : Nat → Nat → Int} {D : Nat → Nat → Int} : stR (rnm 1 [1]) (cgT1 t' n g D) (cgT1 t' n g D) = true := by
  simp [stR, cgT1, z32, tmOf, tmR, avR, svR, rIs, rnm, kEq_refl, eqF_refl, hpR, blkR, ndR] <;> decide
theorem cg_same2 {e e' : Int} (h : e = e') : stR (rnm 1 []) (cgT2 e) (cgT2 e') = true := by
  subst h
  simp [stR, cgT2, z32, tmOf, tmR, avR, svR, rIs, rnm, kEq_refl, eqF_refl, hpR, blkR, ndR] <;> decide
def cgF1 (t t' : Bool) (n : Nat) (f g : Nat → Nat → Int) : LF := famA 1 [] (cgS t t' n f g ((0 : Nat) : Int) 0 (cnF f)) (combCk n f g && Nat.beq (firstF (grp0 g) n 0) n) .normal (cgT1 t' n g (cnF f))
def cgF2 (t t' : Bool) (n : Nat) (f g : Nat → Nat → Int) : LF := famA 1 [] (cgS t t' n f g ((0 : Nat) : Int) 0 (cnF f)) (combCk n f g && Nat.ble (firstF (grp0 g) n 0 + 1) n) .ret (cgT2 (grpS (hval (g (firstF (grp0 g) n 0)) 32 0)))
theorem cg_body : f_rimeref06_Combine.body.map (bodiesOf 0) = some [.loop cgB] := by kernel_rfl
theorem cg_ok : codeOK prog cbE.env.isW cgB = true := by kernel_rfl
theorem cg_step {t t' : Bool} {n : Nat} {f g : Nat → Nat → Int} (hc : combCk n f g = true) {k : Nat} (hk : k < firstF (grp0 g) n 0) :
    ∃ s1 r, am cbE.env 5 cgB (cgS t t' n f g (k : Int) k (cnF f)) = some (.normal, s1) ∧ StLeR r s1 (cgS t t' n f g ((k + 1 : Nat) : Int) (k + 1) (cnF f)) ∧ ∀ i, i < 1 → r i = some i := by
  simp only [combCk, Bool.and_eq_true] at hc
  obtain ⟨hl, hf, hg⟩ := hc
  have hl : n ≤ 1073741824 := Nat.le_of_ble_eq_true hl
  obtain ⟨_, h2, h3, _⟩ := firstF_spec (grp0 g) n 0
  have hkn : k < n := by omega
  have f1 := rowsB_t.1 hf k hkn
  have g1 := rowsB_t.1 hg k hkn
  have hz : grpS (hval (g k) 32 0) = 0 := of_decide_eq_true (h3 k (Nat.zero_le _) hk)
  have ew : wr .i64 ((k : Int) + 1) = ((k + 1 : Nat) : Int) := by rw [wr_small (by omega) (by omega)]; rfl
  refine roundR_toR (cg_round t t' n f g (k : Int) ((k + 1 : Nat) : Int) k (k + 1) (cnF f) (cnF f)) (and_t.2 ⟨?_, cg_same ew (joinL_eq (fun _ _ _ _ => rfl) fun d _ => ?_)⟩)
  · rw [Int.toNat_natCast, ld0_eq, g1, hz, show areB (fun j => ld0 (f k) j) 32 0 = true by show areB (ld0 (f k)) 32 0 = true; rw [ld0_eq]; exact f1, inR_nat hkn, fits32 (by omega)]
    simp [ckL]; omega
  · unfold cgX cnF
    show lf (byL 32 (hval (ld0 (f (k : Int).toNat)) 32 0 % ordL)) d = _
    rw [Int.toNat_natCast, ld0_eq]
theorem l_cg1 (t t' : Bool) (n : Nat) (f g : Nat → Nat → Int) : LRow prog f_rimeref06_Combine 0 (cgF1 t t' n f g) := by
  refine LRow.famA (N := 5) (S := fun k => cgS t t' n f g (k : Int) k (cnF f)) (CB0.env []) mix n (loop_of cg_body) cg_ok (fun w0 own0 => accOK_none (fun id => rfl) cgB) (fun _ _ => Nat.le_succ _) (Nat.le_succ _) fun ha => ?_
  simp only [Bool.and_eq_true, beq_t] at ha
  refine ⟨fun k hk => cg_step ha.1 (by omega), ?_⟩
  obtain ⟨s1, r, q1, q2, q3⟩ := roundR_toR (n := 1) (cg_stop t t' n f g (n : Int) (cnF f) (cnF f)) (and_t.2 ⟨by simp [ckL], cg_same1⟩)
  exact ⟨_, s1, r, q1, rfl, q2, q3⟩
theorem l_cg2 (t t' : Bool) (n : Nat) (f g : Nat → Nat → Int) : LRow prog f_rimeref06_Combine 0 (cgF2 t t' n f g) := by
  refine LRow.famA (N := 5) (S := fun k => cgS t t' n f g (k : Int) k (cnF f)) (CB0.env []) mix (firstF (grp0 g) n 0) (loop_of cg_body) cg_ok (fun w0 own0 => accOK_none (fun id => rfl) cgB) (fun _ _ => Nat.le_succ _) (Nat.le_refl _) fun ha => ?_
  simp only [Bool.and_eq_true, ble_t] at ha
  refine ⟨fun k hk => cg_step ha.1 hk, ?_⟩
  have hc := ha.1
  simp only [combCk, Bool.and_eq_true] at hc
  obtain ⟨hl, hf, hg⟩ := hc
  obtain ⟨_, h2, h3, h4⟩ := firstF_spec (grp0 g) n 0
  have hb : (grpS (hval (g (firstF (grp0 g) n 0)) 32 0) != 0) = true := by
    have := of_decide_eq_false (h4 (by omega))
    simpa using this
  generalize firstF (grp0 g) n 0 = k at *
  have hkn : k < n := by omega
  have g1 := rowsB_t.1 hg k hkn
  obtain ⟨s1, r, q1, q2, q3⟩ := roundR_toR (n := 1) (cg_ret t t' n f g (k : Int) k (cnF f) (grpS (hval (g k) 32 0))) (and_t.2 ⟨by
    rw [Int.toNat_natCast, ld0_eq, g1, hb, inR_nat hkn]
    simp [ckL]; omega, cg_same2 (by rw [Int.toNat_natCast, ld0_eq])⟩)
  exact ⟨_, s1, r, q1, rfl, q2, q3⟩
theorem c_cg1 (t t' : Bool) (n : Nat) (f g : Nat → Nat → Int) : fnChk prog (envL tt cb0 [] [(0, cgF1 t t' n f g)]) f_rimeref06_Combine = true := by kernel_rfl
theorem c_cg2 (t t' : Bool) (n : Nat) (f g : Nat → Nat → Int) : fnChk prog (envL tt cb0 [] [(0, cgF2 t t' n f g)]) f_rimeref06_Combine = true := by kernel_rfl
def cgZ (t t' : Bool) (n : Nat) (f g : Nat → Nat → Int) : St := ⟨tmOf [(0, .sc (.vints t .u8 32 n f)), (1, .sc (.vints t' .u8 32 n g)), (4, .sc (.ptr 0 32 0 0 32)), (6, .sc .nils), (7, .sc (.int .i64 0))] 43 0, [z32]⟩
theorem cg_same0 {t t' : Bool} {n : Nat} {f g D : Nat → Nat → Int} : stR (rnm 1 []) (cgZ t t' n f g) (cgS t t' n f g ((0 : Nat) : Int) 0 D) = true := by
  simp [stR, cgZ, cgS, cgT, z32, tmOf, tmR, avR, svR, rIs, rnm, kEq_refl, eqF_refl, hpR, blkR, ndR, Blk.n]
theorem k_cg0 (t t' : Bool) (n m : Nat) (f g : Nat → Nat → Int) : outP (apFunc cbE [(13, true)] 5 f_rimeref06_Combine [.sc (.vints t .u8 32 n f), .sc (.vints t' .u8 32 m g)] []) = some (ckL [((n : Int) != (m : Int)) == true], .tup [b32 0, .sc (.int .i64 8)]) := by kernel_rfl
theorem k_cg1 (t t' : Bool) (n : Nat) (f g : Nat → Nat → Int) : outP (apFunc (envL tt cb0 [] [(0, cgF1 t t' n f g)]) [(13, false)] 5 f_rimeref06_Combine [.sc (.vints t .u8 32 n f), .sc (.vints t' .u8 32 n g)] []) =
    some (ckL [((n : Int) != (n : Int)) == false, (combCk n f g && Nat.beq (firstF (grp0 g) n 0) n) && stR (rnm 1 []) (cgZ t t' n f g) (cgS t t' n f g ((0 : Nat) : Int) 0 (cnF f)), Nat.beq n n && mlCk n (cnR f) g], .tup [b32 (formS (msS (cnR f) g n)), .sc (.int .i64 0)]) := by kernel_rfl
theorem k_cg2 (t t' : Bool) (n : Nat) (f g : Nat → Nat → Int) : outP (apFunc (envL tt cb0 [] [(0, cgF2 t t' n f g)]) [(13, false)] 5 f_rimeref06_Combine [.sc (.vints t .u8 32 n f), .sc (.vints t' .u8 32 n g)] []) =
    some (ckL [((n : Int) != (n : Int)) == false, (combCk n f g && Nat.ble (firstF (grp0 g) n 0 + 1) n) && stR (rnm 1 []) (cgZ t t' n f g) (cgS t t' n f g ((0 : Nat) : Int) 0 (cnF f))], .tup [b32 0, .sc (.int .i64 (grpS (hval (g (firstF (grp0 g) n 0)) 32 0)))]) := by kernel_rfl
theorem r_combineG : TRow prog F_rimeref06_Combine tCombine := by
  intro args r h
  unfold tCombine at h
  split at h
  case h_2 => simp at h
  rename_i t n f t' m g
  simp only [Option.some.injEq, Prod.mk.injEq, Bool.and_eq_true] at h
  obtain ⟨⟨⟨hl, hf⟩, hg⟩, rfl⟩ := h
  unfold cmbS
  by_cases hn : n = m
  · subst hn
    rw [if_pos rfl]
    have hc : combCk n f g = true := by unfold combCk; rw [hl, hf, hg]; rfl
    unfold combS
    cases hb : Nat.beq (firstF (grp0 g) n 0) n with
    | true =>
      obtain ⟨m1, m2⟩ := comb_mul (f := f) hl hg hb
      have e := k_cg1 t t' n f g
      rw [hc, hb, cg_same0, nn_t, m1, m2, nbeq_refl] at e
      exact pure_of_outL CB0 at_rimeref06_Combine (LsOK.nil.cons (l_cg1 t t' n f g)) (c_cg1 t t' n f g) (N := 5) (gs := [(13, false)]) e
    | false =>
      have hlt : Nat.ble (firstF (grp0 g) n 0 + 1) n = true := Nat.ble_eq_true_of_le (by
        have := (firstF_spec (grp0 g) n 0).2.1
        have := beq_f.1 hb
        omega)
      have e := k_cg2 t t' n f g
      rw [hc, hlt, cg_same0, nn_t] at e
      exact pure_of_outL CB0 at_rimeref06_Combine (LsOK.nil.cons (l_cg2 t t' n f g)) (c_cg2 t t' n f g) (N := 5) (gs := [(13, false)]) e
  · rw [if_neg hn]
    have e := k_cg0 t t' n m f g
    rw [nm_t hn] at e
    have c0 : fnChk prog cbE f_rimeref06_Combine = true := by kernel_rfl
    exact pure_of_out CB0 at_rimeref06_Combine c0 (N := 5) (gs := [(13, true)]) e
end Go.Proofs.YtbogcehngfjlkabGreat
namespace Go.Proofs.YtbogcehngfjlkabGreat
open Go.Proofs.Tryz
open Go Go.AM
noncomputable def smScalarsB : Code := match f_rimeplain_SameScalars.body with | some c => (match bodiesOf 0 c with | [.loop b] => b | _ => .skip) | none => .skip
def smScalarsV (t t' : Bool) (n : Nat) (f g : Nat → Nat → Int) (v : Int) : St := ⟨tmOf [(0, .sc (.vints t .u8 32 n f)), (1, .sc (.vints t' .u8 32 n g)), (5, .sc (.int .i64 v))] 26 0, []⟩
def smScalars1 : St := ⟨tmOf [] 26 0, []⟩
def smScalars2 : St := ⟨tmOf [(4, .sc (.bool false))] 26 0, []⟩
def smScalarsN (f g : Nat → Nat → Int) (v : Int) : Bool := !(eqN 32 (ld0 (f v.toNat)) (ld0 (g v.toNat)) && true)
theorem smScalarsr (t t' : Bool) (n : Nat) (f g : Nat → Nat → Int) (v v' : Int) : roundR pE [(14, true), (25, false)] 5 0 [] smScalarsB (smScalarsV t t' n f g v) .normal (smScalarsV t t' n f g v') =
    some (ckL [decide (v < (n : Int)) == true, inR v n, inR v n, smScalarsN f g v == false] && stR (rnm 0 []) (smScalarsV t t' n f g (wr .i64 (v + 1))) (smScalarsV t t' n f g v')) := by kernel_rfl
theorem smScalarss (t t' : Bool) (n : Nat) (f g : Nat → Nat → Int) (v : Int) : roundR pE [(14, false)] 5 0 [] smScalarsB (smScalarsV t t' n f g v) (.exit 0) smScalars1 = some (ckL [decide (v < (n : Int)) == false] && true) := by kernel_rfl
theorem smScalarst (t t' : Bool) (n : Nat) (f g : Nat → Nat → Int) (v : Int) : roundR pE [(14, true), (25, true)] 5 0 [] smScalarsB (smScalarsV t t' n f g v) .ret smScalars2 =
    some (ckL [decide (v < (n : Int)) == true, inR v n, inR v n, smScalarsN f g v == true] && true) := by kernel_rfl
theorem smScalarse {t t' : Bool} {n : Nat} {f g : Nat → Nat → Int} {v v' : Int} (h : v = v') : stR (rnm 0 []) (smScalarsV t t' n f g v) (smScalarsV t t' n f g v') = true := by
  subst h
  simp [stR, smScalarsV, tmOf, tmR, avR, svR, rnm, kEq_refl, eqF_refl, hpR, ndR]
theorem smScalarsn (f g : Nat → Nat → Int) (k : Nat) : smScalarsN f g (k : Int) = !eqN 32 (f k) (g k) := by
  unfold smScalarsN
  rw [Int.toNat_natCast]
  rw [ld0_eq, ld0_eq, Bool.and_true]
def smScalarsP (f g : Nat → Nat → Int) (j : Nat) : Bool := eqN 32 (f j) (g j)
theorem smScalarsf (f g : Nat → Nat → Int) (n : Nat) : eqF n 32 f g = Nat.beq (firstF (smScalarsP f g) n 0) n := by
  obtain ⟨h1, h2, h3, h4⟩ := firstF_spec (smScalarsP f g) n 0
  rw [Bool.eq_iff_iff]
  constructor
  · intro h
    refine beq_t.2 ?_
    rcases Nat.lt_or_ge (firstF (smScalarsP f g) n 0) n with q | q
    · have := h4 (by omega)
      rw [show smScalarsP f g (firstF (smScalarsP f g) n 0) = true from eqN_of fun d hd => eqF_t h _ q d hd] at this
      cases this
    · omega
  · intro h
    have h := beq_t.1 h
    exact eqF_of fun r hr d hd => AM.eqN_t (h3 r (Nat.zero_le _) (by omega)) d hd
def smScalarsF1 (t t' : Bool) (n : Nat) (f g : Nat → Nat → Int) : LF := famA 0 [] (smScalarsV t t' n f g ((0 : Nat) : Int)) (big n && Nat.beq (firstF (smScalarsP f g) n 0) n) .normal smScalars1
def smScalarsF2 (t t' : Bool) (n : Nat) (f g : Nat → Nat → Int) : LF := famA 0 [] (smScalarsV t t' n f g ((0 : Nat) : Int)) (big n && Nat.ble (firstF (smScalarsP f g) n 0 + 1) n) .ret smScalars2
theorem smScalarsb : f_rimeplain_SameScalars.body.map (bodiesOf 0) = some [.loop smScalarsB] := by kernel_rfl
theorem smScalarsk : codeOK prog pE.env.isW smScalarsB = true := by kernel_rfl
theorem smScalarsstep {t t' : Bool} {n : Nat} {f g : Nat → Nat → Int} (hb : big n = true) {k : Nat} (hk : k < firstF (smScalarsP f g) n 0) :
    ∃ s1 r, am pE.env 5 smScalarsB (smScalarsV t t' n f g (k : Int)) = some (.normal, s1) ∧ StLeR r s1 (smScalarsV t t' n f g ((k + 1 : Nat) : Int)) ∧ ∀ i, i < 0 → r i = some i := by
  have hb : n ≤ 4611686018427387904 := Nat.le_of_ble_eq_true hb
  obtain ⟨_, h2, h3, _⟩ := firstF_spec (smScalarsP f g) n 0
  have hkn : k < n := by omega
  have ew : wr .i64 ((k : Int) + 1) = ((k + 1 : Nat) : Int) := by rw [wr_small (by omega) (by omega)]; rfl
  refine roundR_toR (smScalarsr t t' n f g (k : Int) ((k + 1 : Nat) : Int)) (and_t.2 ⟨?_, smScalarse ew⟩)
  rw [smScalarsn, show eqN 32 (f k) (g k) = true from h3 k (Nat.zero_le _) hk, inR_nat hkn]
  simp [ckL]; omega
theorem l_smScalars1 (t t' : Bool) (n : Nat) (f g : Nat → Nat → Int) : LRow prog f_rimeplain_SameScalars 0 (smScalarsF1 t t' n f g) := by
  refine LRow.famA (N := 5) (S := fun k => smScalarsV t t' n f g (k : Int)) (L0.env []) mix n (loop_of smScalarsb) smScalarsk (fun w0 own0 => accOK_none (fun id => rfl) smScalarsB) (fun _ _ => Nat.zero_le _) (Nat.zero_le _) fun ha => ?_
  simp only [Bool.and_eq_true, beq_t] at ha
  refine ⟨fun k hk => smScalarsstep ha.1 (by omega), ?_⟩
  obtain ⟨s1, r, q1, q2, q3⟩ := roundR_toR (n := 0) (smScalarss t t' n f g (n : Int)) (and_t.2 ⟨by simp [ckL], rfl⟩)
  exact ⟨_, s1, r, q1, rfl, q2, q3⟩
theorem l_smScalars2 (t t' : Bool) (n : Nat) (f g : Nat → Nat → Int) : LRow prog f_rimeplain_SameScalars 0 (smScalarsF2 t t' n f g) := by
  refine LRow.famA (N := 5) (S := fun k => smScalarsV t t' n f g (k : Int)) (L0.env []) mix (firstF (smScalarsP f g) n 0) (loop_of smScalarsb) smScalarsk (fun w0 own0 => accOK_none (fun id => rfl) smScalarsB) (fun _ _ => Nat.zero_le _) (Nat.zero_le _) fun ha => ?_
  simp only [Bool.and_eq_true, ble_t] at ha
  refine ⟨fun k hk => smScalarsstep ha.1 hk, ?_⟩
  have h4 := (firstF_spec (smScalarsP f g) n 0).2.2.2 (by omega)
  obtain ⟨s1, r, q1, q2, q3⟩ := roundR_toR (n := 0) (smScalarst t t' n f g ((firstF (smScalarsP f g) n 0 : Nat) : Int)) (and_t.2 ⟨by
    rw [smScalarsn, show eqN 32 (f (firstF (smScalarsP f g) n 0)) (g (firstF (smScalarsP f g) n 0)) = false from h4, inR_nat (show firstF (smScalarsP f g) n 0 < n by omega)]
    simp [ckL]; omega, rfl⟩)
  exact ⟨_, s1, r, q1, rfl, q2, q3⟩
def tSameScalars : TF := fun args => match args with
  | [.sc (.vints _ .u8 32 n f), .sc (.vints _ .u8 32 m g)] => some (big n, .sc (.bool (Nat.beq n m && eqF n 32 f g)))
  | _ => none
theorem c_smScalars0 : fnChk prog pE f_rimeplain_SameScalars = true := by kernel_rfl
theorem c_smScalars1 (t t' : Bool) (n : Nat) (f g : Nat → Nat → Int) : fnChk prog (envL tt [] [] [(0, smScalarsF1 t t' n f g)]) f_rimeplain_SameScalars = true := by kernel_rfl
theorem c_smScalars2 (t t' : Bool) (n : Nat) (f g : Nat → Nat → Int) : fnChk prog (envL tt [] [] [(0, smScalarsF2 t t' n f g)]) f_rimeplain_SameScalars = true := by kernel_rfl
theorem k_smScalars1 (t t' : Bool) (n : Nat) (f g : Nat → Nat → Int) : outP (apFunc (envL tt [] [] [(0, smScalarsF1 t t' n f g)]) [(10, false)] 5 f_rimeplain_SameScalars [.sc (.vints t .u8 32 n f), .sc (.vints t' .u8 32 n g)] []) =
    some (ckL [((n : Int) != (n : Int)) == false, (big n && Nat.beq (firstF (smScalarsP f g) n 0) n) && stR (rnm 0 []) (smScalarsV t t' n f g 0) (smScalarsV t t' n f g ((0 : Nat) : Int))], .sc (.bool true)) := by kernel_rfl
theorem k_smScalars2 (t t' : Bool) (n : Nat) (f g : Nat → Nat → Int) : outP (apFunc (envL tt [] [] [(0, smScalarsF2 t t' n f g)]) [(10, false)] 5 f_rimeplain_SameScalars [.sc (.vints t .u8 32 n f), .sc (.vints t' .u8 32 n g)] []) =
    some (ckL [((n : Int) != (n : Int)) == false, (big n && Nat.ble (firstF (smScalarsP f g) n 0 + 1) n) && stR (rnm 0 []) (smScalarsV t t' n f g 0) (smScalarsV t t' n f g ((0 : Nat) : Int))], .sc (.bool false)) := by kernel_rfl
theorem k_smScalars0 (t t' : Bool) (n m : Nat) (f g : Nat → Nat → Int) : outP (apFunc pE [(10, true)] 5 f_rimeplain_SameScalars [.sc (.vints t .u8 32 n f), .sc (.vints t' .u8 32 m g)] []) = some (ckL [((n : Int) != (m : Int)) == true], .sc (.bool false)) := by kernel_rfl
theorem r_sameScalars : TRow prog F_rimeplain_SameScalars tSameScalars := by
  intro args r h
  unfold tSameScalars at h
  split at h
  case h_2 => simp at h
  rename_i t n f t' m g
  simp only [Option.some.injEq, Prod.mk.injEq] at h
  obtain ⟨hb, rfl⟩ := h
  by_cases e : n = m
  · subst e
    have hs : stR (rnm 0 []) (smScalarsV t t' n f g 0) (smScalarsV t t' n f g ((0 : Nat) : Int)) = true := smScalarse rfl
    rw [smScalarsf, nbeq_refl]
    cases he : Nat.beq (firstF (smScalarsP f g) n 0) n with
    | true =>
      have e := k_smScalars1 t t' n f g
      rw [hb, he, hs, nn_t] at e
      exact pure_of_outL L0 at_rimeplain_SameScalars (LsOK.nil.cons (l_smScalars1 t t' n f g)) (c_smScalars1 t t' n f g) (N := 5) (gs := [(10, false)]) e
    | false =>
      have hlt : Nat.ble (firstF (smScalarsP f g) n 0 + 1) n = true := Nat.ble_eq_true_of_le (by
        have := (firstF_spec (smScalarsP f g) n 0).2.1
        have := beq_f.1 he
        omega)
      have e := k_smScalars2 t t' n f g
      rw [hb, hlt, hs, nn_t] at e
      exact pure_of_outL L0 at_rimeplain_SameScalars (LsOK.nil.cons (l_smScalars2 t t' n f g)) (c_smScalars2 t t' n f g) (N := 5) (gs := [(10, false)]) e
  · have e2 := k_smScalars0 t t' n m f g
    rw [nm_t e] at e2
    rw [show Nat.beq n m = false from beq_f.2 e]
    exact pure_of_out L0 at_rimeplain_SameScalars c_smScalars0 (N := 5) (gs := [(10, true)]) e2
end Go.Proofs.YtbogcehngfjlkabGreat
namespace Go.Proofs.YtbogcehngfjlkabGreat
open Go.Proofs.Tryz
open Go Go.AM
noncomputable def smElementsB : Code := match f_rimeplain_SameElements.body with | some c => (match bodiesOf 0 c with | [.loop b] => b | _ => .skip) | none => .skip
def smElementsV (t t' : Bool) (n : Nat) (f g : Nat → Nat → Int) (v : Int) : St := ⟨tmOf [(0, .sc (.vints t .u8 32 n f)), (1, .sc (.vints t' .u8 32 n g)), (5, .sc (.int .i64 v))] 26 0, []⟩
def smElements1 : St := ⟨tmOf [] 26 0, []⟩
def smElements2 : St := ⟨tmOf [(4, .sc (.bool false))] 26 0, []⟩
def smElementsN (f g : Nat → Nat → Int) (v : Int) : Bool := !(eqN 32 (ld0 (f v.toNat)) (ld0 (g v.toNat)) && true)
theorem smElementsr (t t' : Bool) (n : Nat) (f g : Nat → Nat → Int) (v v' : Int) : roundR pE [(14, true), (25, false)] 5 0 [] smElementsB (smElementsV t t' n f g v) .normal (smElementsV t t' n f g v') =
    some (ckL [decide (v < (n : Int)) == true, inR v n, inR v n, smElementsN f g v == false] && stR (rnm 0 []) (smElementsV t t' n f g (wr .i64 (v + 1))) (smElementsV t t' n f g v')) := by kernel_rfl
theorem smElementss (t t' : Bool) (n : Nat) (f g : Nat → Nat → Int) (v : Int) : roundR pE [(14, false)] 5 0 [] smElementsB (smElementsV t t' n f g v) (.exit 0) smElements1 = some (ckL [decide (v < (n : Int)) == false] && true) := by kernel_rfl
theorem smElementst (t t' : Bool) (n : Nat) (f g : Nat → Nat → Int) (v : Int) : roundR pE [(14, true), (25, true)] 5 0 [] smElementsB (smElementsV t t' n f g v) .ret smElements2 =
    some (ckL [decide (v < (n : Int)) == true, inR v n, inR v n, smElementsN f g v == true] && true) := by kernel_rfl
theorem smElementse {t t' : Bool} {n : Nat} {f g : Nat → Nat → Int} {v v' : Int} (h : v = v') : stR (rnm 0 []) (smElementsV t t' n f g v) (smElementsV t t' n f g v') = true := by
  subst h
  simp [stR, smElementsV, tmOf, tmR, avR, svR, rnm, kEq_refl, eqF_refl, hpR, ndR]
theorem smElementsn (f g : Nat → Nat → Int) (k : Nat) : smElementsN f g (k : Int) = !eqN 32 (f k) (g k) := by
  unfold smElementsN
  rw [Int.toNat_natCast]
  rw [ld0_eq, ld0_eq, Bool.and_true]
def smElementsP (f g : Nat → Nat → Int) (j : Nat) : Bool := eqN 32 (f j) (g j)
theorem smElementsf (f g : Nat → Nat → Int) (n : Nat) : eqF n 32 f g = Nat.beq (firstF (smElementsP f g) n 0) n := by
  obtain ⟨h1, h2, h3, h4⟩ := firstF_spec (smElementsP f g) n 0
  rw [Bool.eq_iff_iff]
  constructor
  · intro h
    refine beq_t.2 ?_
    rcases Nat.lt_or_ge (firstF (smElementsP f g) n 0) n with q | q
    · have := h4 (by omega)
      rw [show smElementsP f g (firstF (smElementsP f g) n 0) = true from eqN_of fun d hd => eqF_t h _ q d hd] at this
      cases this
    · omega
  · intro h
    have h := beq_t.1 h
    exact eqF_of fun r hr d hd => AM.eqN_t (h3 r (Nat.zero_le _) (by omega)) d hd
def smElementsF1 (t t' : Bool) (n : Nat) (f g : Nat → Nat → Int) : LF := famA 0 [] (smElementsV t t' n f g ((0 : Nat) : Int)) (big n && Nat.beq (firstF (smElementsP f g) n 0) n) .normal smElements1
def smElementsF2 (t t' : Bool) (n : Nat) (f g : Nat → Nat → Int) : LF := famA 0 [] (smElementsV t t' n f g ((0 : Nat) : Int)) (big n && Nat.ble (firstF (smElementsP f g) n 0 + 1) n) .ret smElements2
theorem smElementsb : f_rimeplain_SameElements.body.map (bodiesOf 0) = some [.loop smElementsB] := by kernel_rfl
theorem smElementsk : codeOK prog pE.env.isW smElementsB = true := by kernel_rfl
theorem smElementsstep {t t' : Bool} {n : Nat} {f g : Nat → Nat → Int} (hb : big n = true) {k : Nat} (hk : k < firstF (smElementsP f g) n 0) :
    ∃ s1 r, am pE.env 5 smElementsB (smElementsV t t' n f g (k : Int)) = some (.normal, s1) ∧ StLeR r s1 (smElementsV t t' n f g ((k + 1 : Nat) : Int)) ∧ ∀ i, i < 0 → r i = some i := by
  have hb : n ≤ 4611686018427387904 := Nat.le_of_ble_eq_true hb
  obtain ⟨_, h2, h3, _⟩ := firstF_spec (smElementsP f g) n 0
  have hkn : k < n := by omega
  have ew : wr .i64 ((k : Int) + 1) = ((k + 1 : Nat) : Int) := by rw [wr_small (by omega) (by omega)]; rfl
  refine roundR_toR (smElementsr t t' n f g (k : Int) ((k + 1 : Nat) : Int)) (and_t.2 ⟨?_, smElementse ew⟩)
  rw [smElementsn, show eqN 32 (f k) (g k) = true from h3 k (Nat.zero_le _) hk, inR_nat hkn]
  simp [ckL]; omega
theorem l_smElements1 (t t' : Bool) (n : Nat) (f g : Nat → Nat → Int) : LRow prog f_rimeplain_SameElements 0 (smElementsF1 t t' n f g) := by
  refine LRow.famA (N := 5) (S := fun k => smElementsV t t' n f g (k : Int)) (L0.env []) mix n (loop_of smElementsb) smElementsk (fun w0 own0 => accOK_none (fun id => rfl) smElementsB) (fun _ _ => Nat.zero_le _) (Nat.zero_le _) fun ha => ?_
  simp only [Bool.and_eq_true, beq_t] at ha
  refine ⟨fun k hk => smElementsstep ha.1 (by omega), ?_⟩
  obtain ⟨s1, r, q1, q2, q3⟩ := roundR_toR (n := 0) (smElementss t t' n f g (n : Int)) (and_t.2 ⟨by simp [ckL], rfl⟩)
  exact ⟨_, s1, r, q1, rfl, q2, q3⟩
theorem l_smElements2 (t t' : Bool) (n : Nat) (f g : Nat → Nat → Int) : LRow prog f_rimeplain_SameElements 0 (smElementsF2 t t' n f g) := by
  refine LRow.famA (N := 5) (S := fun k => smElementsV t t' n f g (k : Int)) (L0.env []) mix (firstF (smElementsP f g) n 0) (loop_of smElementsb) smElementsk (fun w0 own0 => accOK_none (fun id => rfl) smElementsB) (fun _ _ => Nat.zero_le _) (Nat.zero_le _) fun ha => ?_
  simp only [Bool.and_eq_true, ble_t] at ha
  refine ⟨fun k hk => smElementsstep ha.1 hk, ?_⟩
  have h4 := (firstF_spec (smElementsP f g) n 0).2.2.2 (by omega)
  obtain ⟨s1, r, q1, q2, q3⟩ := roundR_toR (n := 0) (smElementst t t' n f g ((firstF (smElementsP f g) n 0 : Nat) : Int)) (and_t.2 ⟨by
    rw [smElementsn, show eqN 32 (f (firstF (smElementsP f g) n 0)) (g (firstF (smElementsP f g) n 0)) = false from h4, inR_nat (show firstF (smElementsP f g) n 0 < n by omega)]
    simp [ckL]; omega, rfl⟩)
  exact ⟨_, s1, r, q1, rfl, q2, q3⟩
def tSameElements : TF := fun args => match args with
  | [.sc (.vints _ .u8 32 n f), .sc (.vints _ .u8 32 m g)] => some (big n, .sc (.bool (Nat.beq n m && eqF n 32 f g)))
  | _ => none
theorem c_smElements0 : fnChk prog pE f_rimeplain_SameElements = true := by kernel_rfl
theorem c_smElements1 (t t' : Bool) (n : Nat) (f g : Nat → Nat → Int) : fnChk prog (envL tt [] [] [(0, smElementsF1 t t' n f g)]) f_rimeplain_SameElements = true := by kernel_rfl
theorem c_smElements2 (t t' : Bool) (n : Nat) (f g : Nat → Nat → Int) : fnChk prog (envL tt [] [] [(0, smElementsF2 t t' n f g)]) f_rimeplain_SameElements = true := by kernel_rfl
theorem k_smElements1 (t t' : Bool) (n : Nat) (f g : Nat → Nat → Int) : outP (apFunc (envL tt [] [] [(0, smElementsF1 t t' n f g)]) [(10, false)] 5 f_rimeplain_SameElements [.sc (.vints t .u8 32 n f), .sc (.vints t' .u8 32 n g)] []) =
    some (ckL [((n : Int) != (n : Int)) == false, (big n && Nat.beq (firstF (smElementsP f g) n 0) n) && stR (rnm 0 []) (smElementsV t t' n f g 0) (smElementsV t t' n f g ((0 : Nat) : Int))], .sc (.bool true)) := by kernel_rfl
theorem k_smElements2 (t t' : Bool) (n : Nat) (f g : Nat → Nat → Int) : outP (apFunc (envL tt [] [] [(0, smElementsF2 t t' n f g)]) [(10, false)] 5 f_rimeplain_SameElements [.sc (.vints t .u8 32 n f), .sc (.vints t' .u8 32 n g)] []) =
    some (ckL [((n : Int) != (n : Int)) == false, (big n && Nat.ble (firstF (smElementsP f g) n 0 + 1) n) && stR (rnm 0 []) (smElementsV t t' n f g 0) (smElementsV t t' n f g ((0 : Nat) : Int))], .sc (.bool false)) := by kernel_rfl
theorem k_smElements0 (t t' : Bool) (n m : Nat) (f g : Nat → Nat → Int) : outP (apFunc pE [(10, true)] 5 f_rimeplain_SameElements [.sc (.vints t .u8 32 n f), .sc (.vints t' .u8 32 m g)] []) = some (ckL [((n : Int) != (m : Int)) == true], .sc (.bool false)) := by kernel_rfl
theorem r_sameElements : TRow prog F_rimeplain_SameElements tSameElements := by
  intro args r h
  unfold tSameElements at h
  split at h
  case h_2 => simp at h
  rename_i t n f t' m g
  simp only [Option.some.injEq, Prod.mk.injEq] at h
  obtain ⟨hb, rfl⟩ := h
  by_cases e : n = m
  · subst e
    have hs : stR (rnm 0 []) (smElementsV t t' n f g 0) (smElementsV t t' n f g ((0 : Nat) : Int)) = true := smElementse rfl
    rw [smElementsf, nbeq_refl]
    cases he : Nat.beq (firstF (smElementsP f g) n 0) n with
    | true =>
      have e := k_smElements1 t t' n f g
      rw [hb, he, hs, nn_t] at e
      exact pure_of_outL L0 at_rimeplain_SameElements (LsOK.nil.cons (l_smElements1 t t' n f g)) (c_smElements1 t t' n f g) (N := 5) (gs := [(10, false)]) e
    | false =>
      have hlt : Nat.ble (firstF (smElementsP f g) n 0 + 1) n = true := Nat.ble_eq_true_of_le (by
        have := (firstF_spec (smElementsP f g) n 0).2.1
        have := beq_f.1 he
        omega)
      have e := k_smElements2 t t' n f g
      rw [hb, hlt, hs, nn_t] at e
      exact pure_of_outL L0 at_rimeplain_SameElements (LsOK.nil.cons (l_smElements2 t t' n f g)) (c_smElements2 t t' n f g) (N := 5) (gs := [(10, false)]) e
  · have e2 := k_smElements0 t t' n m f g
    rw [nm_t e] at e2
    rw [show Nat.beq n m = false from beq_f.2 e]
    exact pure_of_out L0 at_rimeplain_SameElements c_smElements0 (N := 5) (gs := [(10, true)]) e2
end Go.Proofs.YtbogcehngfjlkabGreat
namespace Go.Proofs.YtbogcehngfjlkabGreat
open Go.Proofs.Tryz
open Go Go.AM
def mkLScalars (i k : Int) : List Int := [wr .u8 i, wr .u8 (ishr .i64 i 8), wr .u8 k, wr .u8 (ishr .i64 k 8), 77] ++ List.replicate 27 0
def mkScalars (i k : Int) : Nat → Int := lf (mkLScalars i k)
def tMarkScalars : TF := fun args => match args with
  | [.sc (.int .i64 i), .sc (.int .i64 k)] => some (true, u8s 32 (mkScalars i k))
  | _ => none
theorem c_markScalars : fnChk prog pE f_rimeplain_markScalars = true := by kernel_rfl
theorem r_markScalars : TRow prog F_rimeplain_markScalars tMarkScalars := by
  intro args r h
  unfold tMarkScalars at h
  split at h
  case h_2 => simp at h
  rename_i i k
  simp only [Option.some.injEq, Prod.mk.injEq, true_and] at h
  subst h
  exact pure_of_out L0 at_rimeplain_markScalars c_markScalars (N := 5) (gs := []) (by kernel_rfl)
def tCopyScalars : TF := fun args => match args with
  | [.sc (.vints _ .u8 32 n f)] => some (fits (0 + n) 32, .sc (.vints true .u8 32 n f))
  | _ => none
theorem c_copyScalars : fnChk prog pE f_rimeplain_CopyScalars = true := by kernel_rfl
theorem k_copyScalars (t : Bool) (n : Nat) (f : Nat → Nat → Int) : outP (apFunc pE [] 5 f_rimeplain_CopyScalars [.sc (.vints t .u8 32 n f)] []) = some (ckL [fits (0 + n) 32 && true], .sc (.vints true .u8 32 (0 + n) (fun j d => f (0 + j) (0 + d)))) := by kernel_rfl
theorem r_copyScalars : TRow prog F_rimeplain_CopyScalars tCopyScalars := by
  intro args r h
  unfold tCopyScalars at h
  split at h
  case h_2 => simp at h
  rename_i t n f
  simp only [Option.some.injEq, Prod.mk.injEq] at h
  obtain ⟨hb, rfl⟩ := h
  refine pure_ints (pure_of_out L0 at_rimeplain_CopyScalars c_copyScalars (N := 5) (gs := []) ?_) (Nat.zero_add n) (fun r _ d _ => by show f (0 + r) (0 + d) = f r d; rw [Nat.zero_add, Nat.zero_add])
  rw [k_copyScalars, hb]; rfl
def gsScalars : List (Nat × TF) := [(F_rimeplain_CopyScalars, tCopyScalars), (F_rimeplain_markScalars, tMarkScalars)]
theorem GScalars : LibOK prog tt gsScalars [] := (L0.addT r_markScalars).addT r_copyScalars
noncomputable abbrev gEScalars : EnvP := envP tt gsScalars []
noncomputable def gBScalars0 : Code := match f_rimeplain_Given_Scalars.body with | some c => (match bodiesOf 0 c with | [.loop b] => b | _ => .skip) | none => .skip
noncomputable def gBScalars2 : Code := match f_rimeplain_Given_Scalars.body with | some c => (match bodiesOf 2 c with | [.loop b] => b | _ => .skip) | none => .skip
def gTScalars (p : Nat) (a : GV) : List (Nat × AV) := [(0, .sc (.ptr a.q a.bs 0 0 a.bs)), (1, .sc (.vints a.t .u8 32 a.n a.f)), (5, .sc (.slice p 32 0 0 32 a.m))]
def gHScalars (p : Nat) (a : GV) (D : Nat → Nat → Int) : Heap := tabH a.x p ++ [some (.ints .u8 32 a.m D)]
def g0VScalars (p : Nat) (a : GV) (v : Int) (D : Nat → Nat → Int) : St := ⟨tmOf ((6, .sc (.int .i64 v)) :: gTScalars p a) 61 0, gHScalars p a D⟩
def g2VScalars (p : Nat) (a : GV) (v : Int) (D : Nat → Nat → Int) : St := ⟨tmOf ((7, .sc (.int .i64 v)) :: gTScalars p a) 61 0, gHScalars p a D⟩
def gXScalars (p : Nat) (a : GV) (D : Nat → Nat → Int) : St := ⟨tmOf (gTScalars p a) 61 0, gHScalars p a D⟩
theorem g0rScalars : ∀ (p : Nat), p < 8 → ∀ (a : GV) (v v' : Int) (D D' : Nat → Nat → Int), roundP gEScalars [(15, true)] 5 p gBScalars0 (g0VScalars p a v D) .normal (g0VScalars p a v' D') = some (ckL [decide (v < (a.m : Int)) == true, inR v a.m] && stBp p (g0VScalars p a (wr .i64 (v + 1)) (putR D (0 + v.toNat) 32 (mkScalars 987 v))) (g0VScalars p a v' D'), (tabH a.x p, p + 1))
  | 0, _ => by intros; kernel_rfl
  | 1, _ => by intros; kernel_rfl
  | 2, _ => by intros; kernel_rfl
  | 3, _ => by intros; kernel_rfl
  | 4, _ => by intros; kernel_rfl
  | 5, _ => by intros; kernel_rfl
  | 6, _ => by intros; kernel_rfl
  | 7, _ => by intros; kernel_rfl
  | p + 8, h => by omega
theorem g0sScalars : ∀ (p : Nat), p < 8 → ∀ (a : GV) (v : Int) (D : Nat → Nat → Int), roundP gEScalars [(15, false)] 5 p gBScalars0 (g0VScalars p a v D) (.exit 0) (gXScalars p a D) = some (ckL [decide (v < (a.m : Int)) == false] && stBp p (gXScalars p a D) (gXScalars p a D), (tabH a.x p, p + 1))
  | 0, _ => by intros; kernel_rfl
  | 1, _ => by intros; kernel_rfl
  | 2, _ => by intros; kernel_rfl
  | 3, _ => by intros; kernel_rfl
  | 4, _ => by intros; kernel_rfl
  | 5, _ => by intros; kernel_rfl
  | 6, _ => by intros; kernel_rfl
  | 7, _ => by intros; kernel_rfl
  | p + 8, h => by omega
theorem g2rScalars : ∀ (p : Nat), p < 8 → ∀ (a : GV) (v v' : Int) (D D' : Nat → Nat → Int), roundP gEScalars [(26, true)] 5 p gBScalars2 (g2VScalars p a v D) .normal (g2VScalars p a v' D') = some (ckL [decide (v < (a.n : Int)) == true, inR v a.n, inR v a.m] && stBp p (g2VScalars p a (wr .i64 (v + 1)) (putR D (0 + v.toNat) 32 (a.f v.toNat))) (g2VScalars p a v' D'), (tabH a.x p, p + 1))
  | 0, _ => by intros; kernel_rfl
  | 1, _ => by intros; kernel_rfl
  | 2, _ => by intros; kernel_rfl
  | 3, _ => by intros; kernel_rfl
  | 4, _ => by intros; kernel_rfl
  | 5, _ => by intros; kernel_rfl
  | 6, _ => by intros; kernel_rfl
  | 7, _ => by intros; kernel_rfl
  | p + 8, h => by omega
theorem g2sScalars : ∀ (p : Nat), p < 8 → ∀ (a : GV) (v : Int) (D : Nat → Nat → Int), roundP gEScalars [(26, false)] 5 p gBScalars2 (g2VScalars p a v D) (.exit 2) (gXScalars p a D) = some (ckL [decide (v < (a.n : Int)) == false] && stBp p (gXScalars p a D) (gXScalars p a D), (tabH a.x p, p + 1))
  | 0, _ => by intros; kernel_rfl
  | 1, _ => by intros; kernel_rfl
  | 2, _ => by intros; kernel_rfl
  | 3, _ => by intros; kernel_rfl
  | 4, _ => by intros; kernel_rfl
  | 5, _ => by intros; kernel_rfl
  | 6, _ => by intros; kernel_rfl
  | 7, _ => by intros; kernel_rfl
  | p + 8, h => by omega
theorem g0eScalars (p : Nat) (a : GV) (hq : a.q ≤ p) (v : Int) {D D' : Nat → Nat → Int} (h : eqF a.m 32 D D' = true) : stBp p (g0VScalars p a v D) (g0VScalars p a v D') = true :=
  stBp_tm (by simp [okT, okA, okV, gTScalars, gHScalars, tmOf, tabH_length]; omega) (by simp only [gHScalars, List.drop_left' (tabH_length _ _)]; simp [hpB, blkB, kEq_refl, nbeq_refl, h])
theorem g2eScalars (p : Nat) (a : GV) (hq : a.q ≤ p) (v : Int) {D D' : Nat → Nat → Int} (h : eqF a.m 32 D D' = true) : stBp p (g2VScalars p a v D) (g2VScalars p a v D') = true :=
  stBp_tm (by simp [okT, okA, okV, gTScalars, gHScalars, tmOf, tabH_length]; omega) (by simp only [gHScalars, List.drop_left' (tabH_length _ _)]; simp [hpB, blkB, kEq_refl, nbeq_refl, h])
theorem gXeScalars (p : Nat) (a : GV) (hq : a.q ≤ p) (D : Nat → Nat → Int) : stBp p (gXScalars p a D) (gXScalars p a D) = true :=
  stBp_tm (by simp [okT, okA, okV, gTScalars, gHScalars, tmOf, tabH_length]; omega) (by simp only [gHScalars, List.drop_left' (tabH_length _ _)]; simp [hpB, blkB, kEq_refl, nbeq_refl, eqF_refl])
def gMScalars : Nat → Nat → Int := fun r d => mkScalars 987 (r : Int) d
def gDScalars (k : Nat) : Nat → Nat → Int := upto k gMScalars (fun _ _ => 0)
def gGScalars (a : GV) (k : Nat) : Nat → Nat → Int := upto k a.f gMScalars
def gRdScalars (p : Nat) (s : St) : Option GV := match getA s.tm 0, getA s.tm 1, s.hp[p]? with
  | .sc (.ptr q bs _ _ _), .sc (.vints t _ _ n f), some (some (.ints _ _ m _)) => (match Nat.beq s.hp.length (p + 1) with | true => some ⟨q, bs, fun i => (s.hp[i]?).getD none, t, n, f, m⟩ | false => none)
  | _, _, _ => none
def g0FScalars (p : Nat) : LF := AM.famP p (gRdScalars p) (fun a k => g0VScalars p a (k : Int) (gDScalars k)) (fun a => big a.m && (Nat.ble a.q p && Nat.ble (p + 1) 8)) (fun _ => .normal) (fun a => gXScalars p a (gDScalars a.m))
def g2FScalars (p : Nat) : LF := AM.famP p (gRdScalars p) (fun a k => g2VScalars p a (k : Int) (gGScalars a k)) (fun a => big a.m && (Nat.ble a.n a.m && (Nat.ble a.q p && Nat.ble (p + 1) 8))) (fun _ => .normal) (fun a => gXScalars p a (gGScalars a a.n))
theorem g0bScalars : f_rimeplain_Given_Scalars.body.map (bodiesOf 0) = some [.loop gBScalars0] := by kernel_rfl
theorem g2bScalars : f_rimeplain_Given_Scalars.body.map (bodiesOf 2) = some [.loop gBScalars2] := by kernel_rfl
theorem g0kScalars : codeOK prog gEScalars.env.isW gBScalars0 = true := by kernel_rfl
theorem g2kScalars : codeOK prog gEScalars.env.isW gBScalars2 = true := by kernel_rfl
theorem gRdOkScalars {p : Nat} {s : St} {a : GV} (h : gRdScalars p s = some a) (D D' : Nat → Nat → Int) : (gHScalars p a D).length = s.hp.length ∧ s.hp.take p = (gHScalars p a D).take p ∧ ∀ (i : Nat), s.hp[i]? = some none → (gHScalars p a D')[i]? = some none := by
  unfold gRdScalars at h
  split at h
  case h_2 => simp at h
  rename_i hb
  split at h
  case h_2 => simp at h
  rename_i hl
  simp only [Option.some.injEq] at h
  have hl := beq_t.1 hl
  subst h
  refine ⟨by simp [gHScalars, tabH_length, hl], ?_, fun i hi => ?_⟩
  · rw [gHScalars, List.take_left' (tabH_length _ _)]
    exact tabH_take _ _ (by omega)
  · have hip : i < p := by
      have h1 := (List.getElem?_eq_some_iff.1 hi).1
      by_cases e : i = p
      · subst e; rw [hb] at hi; simp at hi
      · omega
    rw [gHScalars, List.getElem?_append_left (by rw [tabH_length]; exact hip), tabH_get _ _ _ hip]
    show some ((s.hp[i]?).getD none) = some none
    rw [hi]; rfl
theorem l_g0Scalars (p : Nat) : LRow prog f_rimeplain_Given_Scalars 0 (g0FScalars p) := by
  refine LRow.famP (N := 5) (GScalars.env []) mix (fun a => a.m) (body_of g0bScalars) g0kScalars (fun w0 own0 => accOK_none (fun id => rfl) gBScalars0) (fun s a h => gRdOkScalars h _ _) ?_ ?_
  · intro a ha k hk
    simp only [Bool.and_eq_true] at ha
    have hb : a.m ≤ 4611686018427387904 := Nat.le_of_ble_eq_true ha.1
    have hq := Nat.le_of_ble_eq_true ha.2.1
    have hp : p < 8 := Nat.le_of_ble_eq_true ha.2.2
    have ew : wr .i64 ((k : Int) + 1) = ((k + 1 : Nat) : Int) := by rw [wr_small (by omega) (by omega)]; rfl
    refine roundP_spec (g0rScalars p hp a (k : Int) ((k + 1 : Nat) : Int) (gDScalars k) (gDScalars (k + 1))) ?_ (by show _ = (gHScalars p a _).take p; rw [gHScalars, List.take_left' (tabH_length _ _)]) (by show _ = (gHScalars p a _).length; simp [gHScalars, tabH_length])
    have hu : eqF a.m 32 (putR (gDScalars k) (0 + ((k : Nat) : Int).toNat) 32 (mkScalars 987 (k : Int))) (gDScalars (k + 1)) = true := putR_upto fun d _ => rfl
    rw [ew, g0eScalars p a hq _ hu, inR_nat hk]
    simp [ckL]; omega
  · intro a ha
    simp only [Bool.and_eq_true] at ha
    have hq := Nat.le_of_ble_eq_true ha.2.1
    have hp : p < 8 := Nat.le_of_ble_eq_true ha.2.2
    obtain ⟨s1, h1, h2⟩ := roundP_spec (g0sScalars p hp a (a.m : Int) (gDScalars a.m)) (by rw [gXeScalars p a hq]; simp [ckL]) (by show _ = (gHScalars p a _).take p; rw [gHScalars, List.take_left' (tabH_length _ _)]) (by show _ = (gHScalars p a _).length; simp [gHScalars, tabH_length])
    exact ⟨_, s1, h1, rfl, h2⟩
theorem l_g2Scalars (p : Nat) : LRow prog f_rimeplain_Given_Scalars 2 (g2FScalars p) := by
  refine LRow.famP (N := 5) (GScalars.env []) mix (fun a => a.n) (body_of g2bScalars) g2kScalars (fun w0 own0 => accOK_none (fun id => rfl) gBScalars2) (fun s a h => gRdOkScalars h _ _) ?_ ?_
  · intro a ha k hk
    simp only [Bool.and_eq_true] at ha
    have hb : a.m ≤ 4611686018427387904 := Nat.le_of_ble_eq_true ha.1
    have hnm := Nat.le_of_ble_eq_true ha.2.1
    have hq := Nat.le_of_ble_eq_true ha.2.2.1
    have hp : p < 8 := Nat.le_of_ble_eq_true ha.2.2.2
    have ew : wr .i64 ((k : Int) + 1) = ((k + 1 : Nat) : Int) := by rw [wr_small (by omega) (by omega)]; rfl
    refine roundP_spec (g2rScalars p hp a (k : Int) ((k + 1 : Nat) : Int) (gGScalars a k) (gGScalars a (k + 1))) ?_ (by show _ = (gHScalars p a _).take p; rw [gHScalars, List.take_left' (tabH_length _ _)]) (by show _ = (gHScalars p a _).length; simp [gHScalars, tabH_length])
    have hu : eqF a.m 32 (putR (gGScalars a k) (0 + ((k : Nat) : Int).toNat) 32 (a.f ((k : Nat) : Int).toNat)) (gGScalars a (k + 1)) = true := putR_upto fun d _ => by rw [Int.toNat_natCast]
    rw [ew, g2eScalars p a hq _ hu, inR_nat hk, inR_nat (show k < a.m by omega)]
    simp [ckL]; omega
  · intro a ha
    simp only [Bool.and_eq_true] at ha
    have hq := Nat.le_of_ble_eq_true ha.2.2.1
    have hp : p < 8 := Nat.le_of_ble_eq_true ha.2.2.2
    obtain ⟨s1, h1, h2⟩ := roundP_spec (g2sScalars p hp a (a.n : Int) (gGScalars a a.n)) (by rw [gXeScalars p a hq]; simp [ckL]) (by show _ = (gHScalars p a _).take p; rw [gHScalars, List.take_left' (tabH_length _ _)]) (by show _ = (gHScalars p a _).length; simp [gHScalars, tabH_length])
    exact ⟨_, s1, h1, rfl, h2⟩
noncomputable def gLScalars : List (Nat × LF) := [(2, fun s => g2FScalars (hp1 s) s), (0, fun s => g0FScalars (hp1 s) s)]
theorem GLScalars : LsOK prog f_rimeplain_Given_Scalars gLScalars := (LsOK.nil.cons (LRow.dep hp1 l_g0Scalars)).cons (LRow.dep hp1 l_g2Scalars)
theorem c_givenScalars : fnChk prog (envL tt gsScalars [] gLScalars) f_rimeplain_Given_Scalars = true := by kernel_rfl
def gwFScalars (n : Nat) (f : Nat → Nat → Int) : Nat → Nat → Int := upto n f gMScalars
def gwNScalars (p m n : Nat) (f : Nat → Nat → Int) : Heap := [some (.ints .u8 32 m (gwFScalars n f)), some (.mix 1 1 (fun r => [[.one (.slice p 32 0 0 32 m)]].getD r [])), some (.mix 1 1 (fun r => cutS ([[.one (.slice p 32 0 0 32 m)]].getD (0 + r) []) 0 1)),
  some (.mix 1 1 (fun r => [[.one (.vints true .u8 32 m (fun j d => gwFScalars n f (0 + j) (0 + d)))]].getD r [])), some (.mix 1 1 (fun r => cutS ([[.one (.vints true .u8 32 m (fun j d => gwFScalars n f (0 + j) (0 + d)))]].getD (0 + r) []) 0 1))]
def gwBScalars (p m n : Nat) (f : Nat → Nat → Int) : Heap := [some (.ints .u8 32 m (gwFScalars n f)), some (.mix 1 1 (fun _ => [.one (.slice p 32 0 0 32 m)])), some (.mix 1 1 (fun _ => [.one (.slice p 32 0 0 32 m)])),
  some (.mix 1 1 (fun _ => [.one (.vints true .u8 32 m (gwFScalars n f))])), some (.mix 1 1 (fun _ => [.one (.vints true .u8 32 m (gwFScalars n f))]))]
def gwVScalars (q p : Nat) (row : Nat → List Seg) (x : Nat → Option Blk) (t : Bool) (n : Nat) (f : Nat → Nat → Int) : GV := ⟨q, 30, bookAt q row x, t, n, f, gvM n⟩
def gwCkScalars (q p : Nat) (row : Nat → List Seg) (x : Nat → Option Blk) (t : Bool) (n : Nat) (f : Nat → Nat → Int) : Bool := ckL [inB (wr .i64 ((n : Int) + 3)) (wr .i64 ((n : Int) + 3)) && fits (gvM n) 32,
  (big (gvM n) && (Nat.ble q p && Nat.ble (p + 1) 8)) && stBp p (g0VScalars p (gwVScalars q p row x t n f) 0 (fun _ _ => 0)) (g0VScalars p (gwVScalars q p row x t n f) ((0 : Nat) : Int) (gDScalars 0)),
  (big (gvM n) && (Nat.ble n (gvM n) && (Nat.ble q p && Nat.ble (p + 1) 8))) && stBp p (g2VScalars p (gwVScalars q p row x t n f) 0 (gDScalars (gvM n))) (g2VScalars p (gwVScalars q p row x t n f) ((0 : Nat) : Int) (gGScalars (gwVScalars q p row x t n f) 0)),
  fits (0 + 1) 24 && true, fits (0 + gvM n) 32, fits (0 + 1) 24 && true, inB (n : Int) (gvM n)]
set_option maxRecDepth 100000 in
theorem gwKScalars : ∀ (p q : Nat), q < p → p < 8 → ∀ (c : Nat → SV) (x : Nat → Option Blk) (n : Nat) (t : Bool) (f : Nat → Nat → Int),
    apFunc (envL tt gsScalars [] gLScalars) [] 5 f_rimeplain_Given_Scalars [.sc (.ptr q 30 0 0 30), .sc (.vints t .u8 32 n f)] (tabH (bookAt q (fun _ => onesS (set2 8 .nils .nils c) 30 0) x) p) =
    some (gwCkScalars q p (fun _ => onesS (set2 8 .nils .nils c) 30 0) x t n f, (.sc (.slice p 32 0 0 32 ((n : Int).toNat - 0)),
      tabH (bookAt q (bookUp (set2 8 .nils .nils c) (set2 8 (.slice (p + 2) 1 0 0 1 1) .nils c) (set2 8 (.slice (p + 2) 1 0 0 1 1) (.slice (p + 4) 1 0 0 1 1) c)) x) p ++ gwNScalars p (gvM n) n f))
  | 0, q, h, _ => by omega
  | 1, 0, _, _ => by intros; kernel_rfl
  | 2, 0, _, _ => by intros; kernel_rfl
  | 2, 1, _, _ => by intros; kernel_rfl
  | 3, 0, _, _ => by intros; kernel_rfl
  | 3, 1, _, _ => by intros; kernel_rfl
  | 3, 2, _, _ => by intros; kernel_rfl
  | 4, 0, _, _ => by intros; kernel_rfl
  | 4, 1, _, _ => by intros; kernel_rfl
  | 4, 2, _, _ => by intros; kernel_rfl
  | 4, 3, _, _ => by intros; kernel_rfl
  | 5, 0, _, _ => by intros; kernel_rfl
  | 5, 1, _, _ => by intros; kernel_rfl
  | 5, 2, _, _ => by intros; kernel_rfl
  | 5, 3, _, _ => by intros; kernel_rfl
  | 5, 4, _, _ => by intros; kernel_rfl
  | 6, 0, _, _ => by intros; kernel_rfl
  | 6, 1, _, _ => by intros; kernel_rfl
  | 6, 2, _, _ => by intros; kernel_rfl
  | 6, 3, _, _ => by intros; kernel_rfl
  | 6, 4, _, _ => by intros; kernel_rfl
  | 6, 5, _, _ => by intros; kernel_rfl
  | 7, 0, _, _ => by intros; kernel_rfl
  | 7, 1, _, _ => by intros; kernel_rfl
  | 7, 2, _, _ => by intros; kernel_rfl
  | 7, 3, _, _ => by intros; kernel_rfl
  | 7, 4, _, _ => by intros; kernel_rfl
  | 7, 5, _, _ => by intros; kernel_rfl
  | 7, 6, _, _ => by intros; kernel_rfl
  | 1, q + 1, h, _ => by omega
  | 2, q + 2, h, _ => by omega
  | 3, q + 3, h, _ => by omega
  | 4, q + 4, h, _ => by omega
  | 5, q + 5, h, _ => by omega
  | 6, q + 6, h, _ => by omega
  | 7, q + 7, h, _ => by omega
  | p + 8, _, _, h => by omega
theorem gwCkTScalars {q p n : Nat} (hq : q < p) (hp : p < 8) (hn : n ≤ 1073741824) (row : Nat → List Seg) (x : Nat → Option Blk) (t : Bool) (f : Nat → Nat → Int) : gwCkScalars q p row x t n f = true := by
  obtain ⟨e1, e2⟩ := gvM_law hn
  have hq' : Nat.ble q p = true := Nat.ble_eq_true_of_le (by omega)
  have hp' : Nat.ble (p + 1) 8 = true := Nat.ble_eq_true_of_le (by omega)
  have b0 : stBp p (g0VScalars p (gwVScalars q p row x t n f) 0 (fun _ _ => 0)) (g0VScalars p (gwVScalars q p row x t n f) ((0 : Nat) : Int) (gDScalars 0)) = true := g0eScalars p _ (Nat.le_of_lt hq) _ (eqF_of fun r _ d _ => by unfold gDScalars; rw [upto_ge (by omega)])
  have b2 : stBp p (g2VScalars p (gwVScalars q p row x t n f) 0 (gDScalars (gvM n))) (g2VScalars p (gwVScalars q p row x t n f) ((0 : Nat) : Int) (gGScalars (gwVScalars q p row x t n f) 0)) = true := g2eScalars p _ (Nat.le_of_lt hq) _ (eqF_of fun r hr d _ => by
    have hr : r < gvM n := hr
    unfold gDScalars gGScalars; rw [upto_lt hr, upto_ge (by omega)])
  unfold gwCkScalars
  rw [b0, b2, e1, e2, hq', hp']
  have f1 : fits (n + 3) 32 = true := by simp [fits]; omega
  have f2 : fits (0 + (n + 3)) 32 = true := by rw [Nat.zero_add]; exact f1
  have f3 : inB (((n + 3 : Nat)) : Int) ((n + 3 : Nat) : Int) = true := by simp [inB]; omega
  have f4 : inB (n : Int) ((n + 3 : Nat) : Int) = true := by simp [inB]; omega
  have bigM : big (n + 3) = true := Nat.ble_eq_true_of_le (by omega)
  rw [f1, f2, f3, f4, bigM, show Nat.ble n (n + 3) = true from Nat.ble_eq_true_of_le (by omega)]; rfl
def wgScalars : WF := fun args hp => match args with
  | [.sc (.ptr q bs i c e), .sc (.vints _ .u8 32 n f)] => (match hp[q]? with
    | some (some (.mix sz rs row)) => (match unones (row 0) with
      | some l => (match (Nat.beq bs 30 && (Nat.beq i 0 && (Nat.beq c 0 && (Nat.beq e 30 && (Nat.beq sz 30 && Nat.beq rs 1))))) && (Nat.beq l.length 30 && (isNils (bkC l 8) && (isNils (bkC l (8 + 1)) && Nat.ble (hp.length + 1) 8))) with
        | true => some (Nat.ble n 1073741824, (.sc (.slice hp.length 32 0 0 32 n), tabH (bookAt q (fun _ => onesS (set2 8 (.slice (hp.length + 2) 1 0 0 1 1) (.slice (hp.length + 4) 1 0 0 1 1) (bkC l)) 30 0) (fun i => (hp[i]?).getD none)) hp.length ++ gwBScalars hp.length (n + 3) n f))
        | false => none)
      | none => none)
    | _ => none)
  | _ => none
theorem r_wgScalars : WRow prog F_rimeplain_Given_Scalars wgScalars := by
  intro args hp r hp' h
  unfold wgScalars at h
  split at h
  case h_2 => simp at h
  rename_i q bs i c e t n f
  split at h
  case h_2 => simp at h
  rename_i sz rs row hb
  split at h
  case h_2 => simp at h
  rename_i l hl
  split at h
  case h_2 => simp at h
  rename_i hc
  simp only [Bool.and_eq_true, beq_t, ble_t] at hc
  obtain ⟨⟨rfl, rfl, rfl, rfl, rfl, rfl⟩, l30, n1, n2, h8⟩ := hc
  simp only [Option.some.injEq, Prod.mk.injEq, ble_t] at h
  obtain ⟨hn, rfl, rfl⟩ := h
  have hq : q < hp.length := (List.getElem?_eq_some_iff.1 hb).1
  have hrow : row 0 = onesS (bkC l) 30 0 := by
    rw [← l30]
    exact unones_spec _ l hl 0 (bkC l) fun i _ => by rw [Nat.zero_add]; rfl
  have hself := set2_self (isNils_t n1) (isNils_t n2)
  have hK := gwKScalars hp.length q hq (by omega) (bkC l) (fun i => (hp[i]?).getD none) n t f
  rw [hself] at hK
  obtain ⟨h1, _⟩ := eff_of_apL GScalars at_rimeplain_Given_Scalars GLScalars c_givenScalars hK (gwCkTScalars hq (by omega) hn _ _ t f) rfl
  rw [Int.toNat_natCast, Nat.sub_zero, (gvM_law hn).2] at h1
  refine ⟨eff_same h1 (same_nil hb hrow) (same_at rfl rfl (same_five (BSame.refl _) (same_one rfl) (same_one rfl) (same_one ?_) (same_one ?_))), nones_at hb⟩
  · show [Seg.one (.vints true _ _ _ (gwFScalars n f))] = [Seg.one (.vints true _ _ _ (fun j d => gwFScalars n f (0 + j) (0 + d)))]
    simp only [Nat.zero_add]
  · show [Seg.one (.vints true _ _ _ (gwFScalars n f))] = [Seg.one (.vints true _ _ _ (fun j d => gwFScalars n f (0 + j) (0 + d)))]
    simp only [Nat.zero_add]
end Go.Proofs.YtbogcehngfjlkabGreat
namespace Go.Proofs.YtbogcehngfjlkabGreat
open Go.Proofs.Tryz
open Go Go.AM
def mkLElements (i k : Int) : List Int := [wr .u8 i, wr .u8 (ishr .i64 i 8), wr .u8 k, wr .u8 (ishr .i64 k 8), 77] ++ List.replicate 27 0
def mkElements (i k : Int) : Nat → Int := lf (mkLElements i k)
def tMarkElements : TF := fun args => match args with
  | [.sc (.int .i64 i), .sc (.int .i64 k)] => some (true, u8s 32 (mkElements i k))
  | _ => none
theorem c_markElements : fnChk prog pE f_rimeplain_markElements = true := by kernel_rfl
theorem r_markElements : TRow prog F_rimeplain_markElements tMarkElements := by
  intro args r h
  unfold tMarkElements at h
  split at h
  case h_2 => simp at h
  rename_i i k
  simp only [Option.some.injEq, Prod.mk.injEq, true_and] at h
  subst h
  exact pure_of_out L0 at_rimeplain_markElements c_markElements (N := 5) (gs := []) (by kernel_rfl)
def tCopyElements : TF := fun args => match args with
  | [.sc (.vints _ .u8 32 n f)] => some (fits (0 + n) 32, .sc (.vints true .u8 32 n f))
  | _ => none
theorem c_copyElements : fnChk prog pE f_rimeplain_CopyElements = true := by kernel_rfl
theorem k_copyElements (t : Bool) (n : Nat) (f : Nat → Nat → Int) : outP (apFunc pE [] 5 f_rimeplain_CopyElements [.sc (.vints t .u8 32 n f)] []) = some (ckL [fits (0 + n) 32 && true], .sc (.vints true .u8 32 (0 + n) (fun j d => f (0 + j) (0 + d)))) := by kernel_rfl
theorem r_copyElements : TRow prog F_rimeplain_CopyElements tCopyElements := by
  intro args r h
  unfold tCopyElements at h
  split at h
  case h_2 => simp at h
  rename_i t n f
  simp only [Option.some.injEq, Prod.mk.injEq] at h
  obtain ⟨hb, rfl⟩ := h
  refine pure_ints (pure_of_out L0 at_rimeplain_CopyElements c_copyElements (N := 5) (gs := []) ?_) (Nat.zero_add n) (fun r _ d _ => by show f (0 + r) (0 + d) = f r d; rw [Nat.zero_add, Nat.zero_add])
  rw [k_copyElements, hb]; rfl
def gsElements : List (Nat × TF) := [(F_rimeplain_CopyElements, tCopyElements), (F_rimeplain_markElements, tMarkElements)]
theorem GElements : LibOK prog tt gsElements [] := (L0.addT r_markElements).addT r_copyElements
noncomputable abbrev gEElements : EnvP := envP tt gsElements []
noncomputable def gBElements0 : Code := match f_rimeplain_Given_Elements.body with | some c => (match bodiesOf 0 c with | [.loop b] => b | _ => .skip) | none => .skip
noncomputable def gBElements2 : Code := match f_rimeplain_Given_Elements.body with | some c => (match bodiesOf 2 c with | [.loop b] => b | _ => .skip) | none => .skip
def gTElements (p : Nat) (a : GV) : List (Nat × AV) := [(0, .sc (.ptr a.q a.bs 0 0 a.bs)), (1, .sc (.vints a.t .u8 32 a.n a.f)), (5, .sc (.slice p 32 0 0 32 a.m))]
def gHElements (p : Nat) (a : GV) (D : Nat → Nat → Int) : Heap := tabH a.x p ++ [some (.ints .u8 32 a.m D)]
def g0VElements (p : Nat) (a : GV) (v : Int) (D : Nat → Nat → Int) : St := ⟨tmOf ((6, .sc (.int .i64 v)) :: gTElements p a) 61 0, gHElements p a D⟩
def g2VElements (p : Nat) (a : GV) (v : Int) (D : Nat → Nat → Int) : St := ⟨tmOf ((7, .sc (.int .i64 v)) :: gTElements p a) 61 0, gHElements p a D⟩
def gXElements (p : Nat) (a : GV) (D : Nat → Nat → Int) : St := ⟨tmOf (gTElements p a) 61 0, gHElements p a D⟩
theorem g0rElements : ∀ (p : Nat), p < 8 → ∀ (a : GV) (v v' : Int) (D D' : Nat → Nat → Int), roundP gEElements [(15, true)] 5 p gBElements0 (g0VElements p a v D) .normal (g0VElements p a v' D') = some (ckL [decide (v < (a.m : Int)) == true, inR v a.m] && stBp p (g0VElements p a (wr .i64 (v + 1)) (putR D (0 + v.toNat) 32 (mkElements 987 v))) (g0VElements p a v' D'), (tabH a.x p, p + 1))
  | 0, _ => by intros; kernel_rfl
  | 1, _ => by intros; kernel_rfl
  | 2, _ => by intros; kernel_rfl
  | 3, _ => by intros; kernel_rfl
  | 4, _ => by intros; kernel_rfl
  | 5, _ => by intros; kernel_rfl
  | 6, _ => by intros; kernel_rfl
  | 7, _ => by intros; kernel_rfl
  | p + 8, h => by omega
theorem g0sElements : ∀ (p : Nat), p < 8 → ∀ (a : GV) (v : Int) (D : Nat → Nat → Int), roundP gEElements [(15, false)] 5 p gBElements0 (g0VElements p a v D) (.exit 0) (gXElements p a D) = some (ckL [decide (v < (a.m : Int)) == false] && stBp p (gXElements p a D) (gXElements p a D), (tabH a.x p, p + 1))
  | 0, _ => by intros; kernel_rfl
  | 1, _ => by intros; kernel_rfl
  | 2, _ => by intros; kernel_rfl
  | 3, _ => by intros; kernel_rfl
  | 4, _ => by intros; kernel_rfl
  | 5, _ => by intros; kernel_rfl
  | 6, _ => by intros; kernel_rfl
  | 7, _ => by intros; kernel_rfl
  | p + 8, h => by omega
theorem g2rElements : ∀ (p : Nat), p < 8 → ∀ (a : GV) (v v' : Int) (D D' : Nat → Nat → Int), roundP gEElements [(26, true)] 5 p gBElements2 (g2VElements p a v D) .normal (g2VElements p a v' D') = some (ckL [decide (v < (a.n : Int)) == true, inR v a.n, inR v a.m] && stBp p (g2VElements p a (wr .i64 (v + 1)) (putR D (0 + v.toNat) 32 (a.f v.toNat))) (g2VElements p a v' D'), (tabH a.x p, p + 1))
  | 0, _ => by intros; kernel_rfl
  | 1, _ => by intros; kernel_rfl
  | 2, _ => by intros; kernel_rfl
  | 3, _ => by intros; kernel_rfl
  | 4, _ => by intros; kernel_rfl
  | 5, _ => by intros; kernel_rfl
  | 6, _ => by intros; kernel_rfl
  | 7, _ => by intros; kernel_rfl
  | p + 8, h => by omega
theorem g2sElements : ∀ (p : Nat), p < 8 → ∀ (a : GV) (v : Int) (D : Nat → Nat → Int), roundP gEElements [(26, false)] 5 p gBElements2 (g2VElements p a v D) (.exit 2) (gXElements p a D) = some (ckL [decide (v < (a.n : Int)) == false] && stBp p (gXElements p a D) (gXElements p a D), (tabH a.x p, p + 1))
  | 0, _ => by intros; kernel_rfl
  | 1, _ => by intros; kernel_rfl
  | 2, _ => by intros; kernel_rfl
  | 3, _ => by intros; kernel_rfl
  | 4, _ => by intros; kernel_rfl
  | 5, _ => by intros; kernel_rfl
  | 6, _ => by intros; kernel_rfl
  | 7, _ => by intros; kernel_rfl
  | p + 8, h => by omega
theorem g0eElements (p : Nat) (a : GV) (hq : a.q ≤ p) (v : Int) {D D' : Nat → Nat → Int} (h : eqF a.m 32 D D' = true) : stBp p (g0VElements p a v D) (g0VElements p a v D') = true :=
  stBp_tm (by simp [okT, okA, okV, gTElements, gHElements, tmOf, tabH_length]; omega) (by simp only [gHElements, List.drop_left' (tabH_length _ _)]; simp [hpB, blkB, kEq_refl, nbeq_refl, h])
theorem g2eElements (p : Nat) (a : GV) (hq : a.q ≤ p) (v : Int) {D D' : Nat → Nat → Int} (h : eqF a.m 32 D D' = true) : stBp p (g2VElements p a v D) (g2VElements p a v D') = true :=
  stBp_tm (by simp [okT, okA, okV, gTElements, gHElements, tmOf, tabH_length]; omega) (by simp only [gHElements, List.drop_left' (tabH_length _ _)]; simp [hpB, blkB, kEq_refl, nbeq_refl, h])
theorem gXeElements (p : Nat) (a : GV) (hq : a.q ≤ p) (D : Nat → Nat → Int) : stBp p (gXElements p a D) (gXElements p a D) = true :=
  stBp_tm (by simp [okT, okA, okV, gTElements, gHElements, tmOf, tabH_length]; omega) (by simp only [gHElements, List.drop_left' (tabH_length _ _)]; simp [hpB, blkB, kEq_refl, nbeq_refl, eqF_refl])
def gMElements : Nat → Nat → Int := fun r d => mkElements 987 (r : Int) d
def gDElements (k : Nat) : Nat → Nat → Int := upto k gMElements (fun _ _ => 0)
def gGElements (a : GV) (k : Nat) : Nat → Nat → Int := upto k a.f gMElements
def gRdElements (p : Nat) (s : St) : Option GV := match getA s.tm 0, getA s.tm 1, s.hp[p]? with
  | .sc (.ptr q bs _ _ _), .sc (.vints t _ _ n f), some (some (.ints _ _ m _)) => (match Nat.beq s.hp.length (p + 1) with | true => some ⟨q, bs, fun i => (s.hp[i]?).getD none, t, n, f, m⟩ | false => none)
  | _, _, _ => none
def g0FElements (p : Nat) : LF := AM.famP p (gRdElements p) (fun a k => g0VElements p a (k : Int) (gDElements k)) (fun a => big a.m && (Nat.ble a.q p && Nat.ble (p + 1) 8)) (fun _ => .normal) (fun a => gXElements p a (gDElements a.m))
def g2FElements (p : Nat) : LF := AM.famP p (gRdElements p) (fun a k => g2VElements p a (k : Int) (gGElements a k)) (fun a => big a.m && (Nat.ble a.n a.m && (Nat.ble a.q p && Nat.ble (p + 1) 8))) (fun _ => .normal) (fun a => gXElements p a (gGElements a a.n))
theorem g0bElements : f_rimeplain_Given_Elements.body.map (bodiesOf 0) = some [.loop gBElements0] := by kernel_rfl
theorem g2bElements : f_rimeplain_Given_Elements.body.map (bodiesOf 2) = some [.loop gBElements2] := by kernel_rfl
theorem g0kElements : codeOK prog gEElements.env.isW gBElements0 = true := by kernel_rfl
theorem g2kElements : codeOK prog gEElements.env.isW gBElements2 = true := by kernel_rfl
theorem gRdOkElements {p : Nat} {s : St} {a : GV} (h : gRdElements p s = some a) (D D' : Nat → Nat → Int) : (gHElements p a D).length = s.hp.length ∧ s.hp.take p = (gHElements p a D).take p ∧ ∀ (i : Nat), s.hp[i]? = some none → (gHElements p a D')[i]? = some none := by
  unfold gRdElements at h
  split at h
  case h_2 => simp at h
  rename_i hb
  split at h
  case h_2 => simp at h
  rename_i hl
  simp only [Option.some.injEq] at h
  have hl := beq_t.1 hl
  subst h
  refine ⟨by simp [gHElements, tabH_length, hl], ?_, fun i hi => ?_⟩
  · rw [gHElements, List.take_left' (tabH_length _ _)]
    exact tabH_take _ _ (by omega)
  · have hip : i < p := by
      have h1 := (List.getElem?_eq_some_iff.1 hi).1
      by_cases e : i = p
      · subst e; rw [hb] at hi; simp at hi
      · omega
    rw [gHElements, List.getElem?_append_left (by rw [tabH_length]; exact hip), tabH_get _ _ _ hip]
    show some ((s.hp[i]?).getD none) = some none
    rw [hi]; rfl
theorem l_g0Elements (p : Nat) : LRow prog f_rimeplain_Given_Elements 0 (g0FElements p) := by
  refine LRow.famP (N := 5) (GElements.env []) mix (fun a => a.m) (body_of g0bElements) g0kElements (fun w0 own0 => accOK_none (fun id => rfl) gBElements0) (fun s a h => gRdOkElements h _ _) ?_ ?_
  · intro a ha k hk
    simp only [Bool.and_eq_true] at ha
    have hb : a.m ≤ 4611686018427387904 := Nat.le_of_ble_eq_true ha.1
    have hq := Nat.le_of_ble_eq_true ha.2.1
    have hp : p < 8 := Nat.le_of_ble_eq_true ha.2.2
    have ew : wr .i64 ((k : Int) + 1) = ((k + 1 : Nat) : Int) := by rw [wr_small (by omega) (by omega)]; rfl
    refine roundP_spec (g0rElements p hp a (k : Int) ((k + 1 : Nat) : Int) (gDElements k) (gDElements (k + 1))) ?_ (by show _ = (gHElements p a _).take p; rw [gHElements, List.take_left' (tabH_length _ _)]) (by show _ = (gHElements p a _).length; simp [gHElements, tabH_length])
    have hu : eqF a.m 32 (putR (gDElements k) (0 + ((k : Nat) : Int).toNat) 32 (mkElements 987 (k : Int))) (gDElements (k + 1)) = true := putR_upto fun d _ => rfl
    rw [ew, g0eElements p a hq _ hu, inR_nat hk]
    simp [ckL]; omega
  · intro a ha
    simp only [Bool.and_eq_true] at ha
    have hq := Nat.le_of_ble_eq_true ha.2.1
    have hp : p < 8 := Nat.le_of_ble_eq_true ha.2.2
    obtain ⟨s1, h1, h2⟩ := roundP_spec (g0sElements p hp a (a.m : Int) (gDElements a.m)) (by rw [gXeElements p a hq]; simp [ckL]) (by show _ = (gHElements p a _).take p; rw [gHElements, List.take_left' (tabH_length _ _)]) (by show _ = (gHElements p a _).length; simp [gHElements, tabH_length])
    exact ⟨_, s1, h1, rfl, h2⟩
theorem l_g2Elements (p : Nat) : LRow prog f_rimeplain_Given_Elements 2 (g2FElements p) := by
  refine LRow.famP (N := 5) (GElements.env []) mix (fun a => a.n) (body_of g2bElements) g2kElements (fun w0 own0 => accOK_none (fun id => rfl) gBElements2) (fun s a h => gRdOkElements h _ _) ?_ ?_
  · intro a ha k hk
    simp only [Bool.and_eq_true] at ha
    have hb : a.m ≤ 4611686018427387904 := Nat.le_of_ble_eq_true ha.1
    have hnm := Nat.le_of_ble_eq_true ha.2.1
    have hq := Nat.le_of_ble_eq_true ha.2.2.1
    have hp : p < 8 := Nat.le_of_ble_eq_true ha.2.2.2
    have ew : wr .i64 ((k : Int) + 1) = ((k + 1 : Nat) : Int) := by rw [wr_small (by omega) (by omega)]; rfl
    refine roundP_spec (g2rElements p hp a (k : Int) ((k + 1 : Nat) : Int) (gGElements a k) (gGElements a (k + 1))) ?_ (by show _ = (gHElements p a _).take p; rw [gHElements, List.take_left' (tabH_length _ _)]) (by show _ = (gHElements p a _).length; simp [gHElements, tabH_length])
    have hu : eqF a.m 32 (putR (gGElements a k) (0 + ((k : Nat) : Int).toNat) 32 (a.f ((k : Nat) : Int).toNat)) (gGElements a (k + 1)) = true := putR_upto fun d _ => by rw [Int.toNat_natCast]
    rw [ew, g2eElements p a hq _ hu, inR_nat hk, inR_nat (show k < a.m by omega)]
    simp [ckL]; omega
  · intro a ha
    simp only [Bool.and_eq_true] at ha
    have hq := Nat.le_of_ble_eq_true ha.2.2.1
    have hp : p < 8 := Nat.le_of_ble_eq_true ha.2.2.2
    obtain ⟨s1, h1, h2⟩ := roundP_spec (g2sElements p hp a (a.n : Int) (gGElements a a.n)) (by rw [gXeElements p a hq]; simp [ckL]) (by show _ = (gHElements p a _).take p; rw [gHElements, List.take_left' (tabH_length _ _)]) (by show _ = (gHElements p a _).length; simp [gHElements, tabH_length])
    exact ⟨_, s1, h1, rfl, h2⟩
noncomputable def gLElements : List (Nat × LF) := [(2, fun s => g2FElements (hp1 s) s), (0, fun s => g0FElements (hp1 s) s)]
theorem GLElements : LsOK prog f_rimeplain_Given_Elements gLElements := (LsOK.nil.cons (LRow.dep hp1 l_g0Elements)).cons (LRow.dep hp1 l_g2Elements)
theorem c_givenElements : fnChk prog (envL tt gsElements [] gLElements) f_rimeplain_Given_Elements = true := by kernel_rfl
def gwFElements (n : Nat) (f : Nat → Nat → Int) : Nat → Nat → Int := upto n f gMElements
def gwNElements (p m n : Nat) (f : Nat → Nat → Int) : Heap := [some (.ints .u8 32 m (gwFElements n f)), some (.mix 1 1 (fun r => [[.one (.slice p 32 0 0 32 m)]].getD r [])), some (.mix 1 1 (fun r => cutS ([[.one (.slice p 32 0 0 32 m)]].getD (0 + r) []) 0 1)),
  some (.mix 1 1 (fun r => [[.one (.vints true .u8 32 m (fun j d => gwFElements n f (0 + j) (0 + d)))]].getD r [])), some (.mix 1 1 (fun r => cutS ([[.one (.vints true .u8 32 m (fun j d => gwFElements n f (0 + j) (0 + d)))]].getD (0 + r) []) 0 1))]
def gwBElements (p m n : Nat) (f : Nat → Nat → Int) : Heap := [some (.ints .u8 32 m (gwFElements n f)), some (.mix 1 1 (fun _ => [.one (.slice p 32 0 0 32 m)])), some (.mix 1 1 (fun _ => [.one (.slice p 32 0 0 32 m)])),
  some (.mix 1 1 (fun _ => [.one (.vints true .u8 32 m (gwFElements n f))])), some (.mix 1 1 (fun _ => [.one (.vints true .u8 32 m (gwFElements n f))]))]
def gwVElements (q p : Nat) (row : Nat → List Seg) (x : Nat → Option Blk) (t : Bool) (n : Nat) (f : Nat → Nat → Int) : GV := ⟨q, 30, bookAt q row x, t, n, f, gvM n⟩
def gwCkElements (q p : Nat) (row : Nat → List Seg) (x : Nat → Option Blk) (t : Bool) (n : Nat) (f : Nat → Nat → Int) : Bool := ckL [inB (wr .i64 ((n : Int) + 3)) (wr .i64 ((n : Int) + 3)) && fits (gvM n) 32,
  (big (gvM n) && (Nat.ble q p && Nat.ble (p + 1) 8)) && stBp p (g0VElements p (gwVElements q p row x t n f) 0 (fun _ _ => 0)) (g0VElements p (gwVElements q p row x t n f) ((0 : Nat) : Int) (gDElements 0)),
  (big (gvM n) && (Nat.ble n (gvM n) && (Nat.ble q p && Nat.ble (p + 1) 8))) && stBp p (g2VElements p (gwVElements q p row x t n f) 0 (gDElements (gvM n))) (g2VElements p (gwVElements q p row x t n f) ((0 : Nat) : Int) (gGElements (gwVElements q p row x t n f) 0)),
  fits (0 + 1) 24 && true, fits (0 + gvM n) 32, fits (0 + 1) 24 && true, inB (n : Int) (gvM n)]
set_option maxRecDepth 100000 in
theorem gwKElements : ∀ (p q : Nat), q < p → p < 8 → ∀ (c : Nat → SV) (x : Nat → Option Blk) (n : Nat) (t : Bool) (f : Nat → Nat → Int),
    apFunc (envL tt gsElements [] gLElements) [] 5 f_rimeplain_Given_Elements [.sc (.ptr q 30 0 0 30), .sc (.vints t .u8 32 n f)] (tabH (bookAt q (fun _ => onesS (set2 10 .nils .nils c) 30 0) x) p) =
    some (gwCkElements q p (fun _ => onesS (set2 10 .nils .nils c) 30 0) x t n f, (.sc (.slice p 32 0 0 32 ((n : Int).toNat - 0)),
      tabH (bookAt q (bookUp (set2 10 .nils .nils c) (set2 10 (.slice (p + 2) 1 0 0 1 1) .nils c) (set2 10 (.slice (p + 2) 1 0 0 1 1) (.slice (p + 4) 1 0 0 1 1) c)) x) p ++ gwNElements p (gvM n) n f))
  | 0, q, h, _ => by omega
  | 1, 0, _, _ => by intros; kernel_rfl
  | 2, 0, _, _ => by intros; kernel_rfl
  | 2, 1, _, _ => by intros; kernel_rfl
  | 3, 0, _, _ => by intros; kernel_rfl
  | 3, 1, _, _ => by intros; kernel_rfl
  | 3, 2, _, _ => by intros; kernel_rfl
  | 4, 0, _, _ => by intros; kernel_rfl
  | 4, 1, _, _ => by intros; kernel_rfl
  | 4, 2, _, _ => by intros; kernel_rfl
  | 4, 3, _, _ => by intros; kernel_rfl
  | 5, 0, _, _ => by intros; kernel_rfl
  | 5, 1, _, _ => by intros; kernel_rfl
  | 5, 2, _, _ => by intros; kernel_rfl
  | 5, 3, _, _ => by intros; kernel_rfl
  | 5, 4, _, _ => by intros; kernel_rfl
  | 6, 0, _, _ => by intros; kernel_rfl
  | 6, 1, _, _ => by intros; kernel_rfl
  | 6, 2, _, _ => by intros; kernel_rfl
  | 6, 3, _, _ => by intros; kernel_rfl
  | 6, 4, _, _ => by intros; kernel_rfl
  | 6, 5, _, _ => by intros; kernel_rfl
  | 7, 0, _, _ => by intros; kernel_rfl
  | 7, 1, _, _ => by intros; kernel_rfl
  | 7, 2, _, _ => by intros; kernel_rfl
  | 7, 3, _, _ => by intros; kernel_rfl
  | 7, 4, _, _ => by intros; kernel_rfl
  | 7, 5, _, _ => by intros; kernel_rfl
  | 7, 6, _, _ => by intros; kernel_rfl
  | 1, q + 1, h, _ => by omega
  | 2, q + 2, h, _ => by omega
  | 3, q + 3, h, _ => by omega
  | 4, q + 4, h, _ => by omega
  | 5, q + 5, h, _ => by omega
  | 6, q + 6, h, _ => by omega
  | 7, q + 7, h, _ => by omega
  | p + 8, _, _, h => by omega
theorem gwCkTElements {q p n : Nat} (hq : q < p) (hp : p < 8) (hn : n ≤ 1073741824) (row : Nat → List Seg) (x : Nat → Option Blk) (t : Bool) (f : Nat → Nat → Int) : gwCkElements q p row x t n f = true := by
  obtain ⟨e1, e2⟩ := gvM_law hn
  have hq' : Nat.ble q p = true := Nat.ble_eq_true_of_le (by omega)
  have hp' : Nat.ble (p + 1) 8 = true := Nat.ble_eq_true_of_le (by omega)
  have b0 : stBp p (g0VElements p (gwVElements q p row x t n f) 0 (fun _ _ => 0)) (g0VElements p (gwVElements q p row x t n f) ((0 : Nat) : Int) (gDElements 0)) = true := g0eElements p _ (Nat.le_of_lt hq) _ (eqF_of fun r _ d _ => by unfold gDElements; rw [upto_ge (by omega)])
  have b2 : stBp p (g2VElements p (gwVElements q p row x t n f) 0 (gDElements (gvM n))) (g2VElements p (gwVElements q p row x t n f) ((0 : Nat) : Int) (gGElements (gwVElements q p row x t n f) 0)) = true := g2eElements p _ (Nat.le_of_lt hq) _ (eqF_of fun r hr d _ => by
    have hr : r < gvM n := hr
    unfold gDElements gGElements; rw [upto_lt hr, upto_ge (by omega)])
  unfold gwCkElements
  rw [b0, b2, e1, e2, hq', hp']
  have f1 : fits (n + 3) 32 = true := by simp [fits]; omega
  have f2 : fits (0 + (n + 3)) 32 = true := by rw [Nat.zero_add]; exact f1
  have f3 : inB (((n + 3 : Nat)) : Int) ((n + 3 : Nat) : Int) = true := by simp [inB]; omega
  have f4 : inB (n : Int) ((n + 3 : Nat) : Int) = true := by simp [inB]; omega
  have bigM : big (n + 3) = true := Nat.ble_eq_true_of_le (by omega)
  rw [f1, f2, f3, f4, bigM, show Nat.ble n (n + 3) = true from Nat.ble_eq_true_of_le (by omega)]; rfl
def wgElements : WF := fun args hp => match args with
  | [.sc (.ptr q bs i c e), .sc (.vints _ .u8 32 n f)] => (match hp[q]? with
    | some (some (.mix sz rs row)) => (match unones (row 0) with
      | some l => (match (Nat.beq bs 30 && (Nat.beq i 0 && (Nat.beq c 0 && (Nat.beq e 30 && (Nat.beq sz 30 && Nat.beq rs 1))))) && (Nat.beq l.length 30 && (isNils (bkC l 10) && (isNils (bkC l (10 + 1)) && Nat.ble (hp.length + 1) 8))) with
        | true => some (Nat.ble n 1073741824, (.sc (.slice hp.length 32 0 0 32 n), tabH (bookAt q (fun _ => onesS (set2 10 (.slice (hp.length + 2) 1 0 0 1 1) (.slice (hp.length + 4) 1 0 0 1 1) (bkC l)) 30 0) (fun i => (hp[i]?).getD none)) hp.length ++ gwBElements hp.length (n + 3) n f))
        | false => none)
      | none => none)
    | _ => none)
  | _ => none
theorem r_wgElements : WRow prog F_rimeplain_Given_Elements wgElements := by
  intro args hp r hp' h
  unfold wgElements at h
  split at h
  case h_2 => simp at h
  rename_i q bs i c e t n f
  split at h
  case h_2 => simp at h
  rename_i sz rs row hb
  split at h
  case h_2 => simp at h
  rename_i l hl
  split at h
  case h_2 => simp at h
  rename_i hc
  simp only [Bool.and_eq_true, beq_t, ble_t] at hc
  obtain ⟨⟨rfl, rfl, rfl, rfl, rfl, rfl⟩, l30, n1, n2, h8⟩ := hc
  simp only [Option.some.injEq, Prod.mk.injEq, ble_t] at h
  obtain ⟨hn, rfl, rfl⟩ := h
  have hq : q < hp.length := (List.getElem?_eq_some_iff.1 hb).1
  have hrow : row 0 = onesS (bkC l) 30 0 := by
    rw [← l30]
    exact unones_spec _ l hl 0 (bkC l) fun i _ => by rw [Nat.zero_add]; rfl
  have hself := set2_self (isNils_t n1) (isNils_t n2)
  have hK := gwKElements hp.length q hq (by omega) (bkC l) (fun i => (hp[i]?).getD none) n t f
  rw [hself] at hK
  obtain ⟨h1, _⟩ := eff_of_apL GElements at_rimeplain_Given_Elements GLElements c_givenElements hK (gwCkTElements hq (by omega) hn _ _ t f) rfl
  rw [Int.toNat_natCast, Nat.sub_zero, (gvM_law hn).2] at h1
  refine ⟨eff_same h1 (same_nil hb hrow) (same_at rfl rfl (same_five (BSame.refl _) (same_one rfl) (same_one rfl) (same_one ?_) (same_one ?_))), nones_at hb⟩
  · show [Seg.one (.vints true _ _ _ (gwFElements n f))] = [Seg.one (.vints true _ _ _ (fun j d => gwFElements n f (0 + j) (0 + d)))]
    simp only [Nat.zero_add]
  · show [Seg.one (.vints true _ _ _ (gwFElements n f))] = [Seg.one (.vints true _ _ _ (fun j d => gwFElements n f (0 + j) (0 + d)))]
    simp only [Nat.zero_add]
end Go.Proofs.YtbogcehngfjlkabGreat
namespace Go.Proofs.YtbogcehngfjlkabGreat
open Go.Proofs.Tryz
open Go Go.AM
noncomputable def td0 : List (Nat × TF) := (F_edwards_fe_bytes, cT (envP tt tc1 []) 600 f_edwards_fe_bytes) :: tc1
theorem O0 : LibOK prog tt td0 [] := N3.cT at_edwards_fe_bytes 600 (by kernel_rfl)
noncomputable def td1 : List (Nat × TF) := (F_edwards_fe_odd, cT (envP tt td0 []) 600 f_edwards_fe_odd) :: td0
theorem O1 : LibOK prog tt td1 [] := O0.cT at_edwards_fe_odd 600 (by kernel_rfl)
noncomputable def td2 : List (Nat × TF) := (F_edwards_fe_same, cT (envP tt td1 []) 600 f_edwards_fe_same) :: td1
theorem O2 : LibOK prog tt td2 [] := O1.cT at_edwards_fe_same 600 (by kernel_rfl)
noncomputable def td3 : List (Nat × TF) := (F_edwards_load, cT (envP tt td2 []) 600 f_edwards_load) :: td2
theorem O3 : LibOK prog tt td3 [] := O2.cT at_edwards_load 600 (by kernel_rfl)
noncomputable def td4 : List (Nat × TF) := (F_edwards_rootOfMinus1, cT (envP tt td3 []) 600 f_edwards_rootOfMinus1) :: td3
theorem O4 : LibOK prog tt td4 [] := O3.cT at_edwards_rootOfMinus1 600 (by kernel_rfl)
noncomputable def td5 : List (Nat × TF) := (F_edwards_fe_squares, cT (envP tt td4 []) 600 f_edwards_fe_squares) :: td4
theorem O5 : LibOK prog tt td5 [] := O4.cT at_edwards_fe_squares 600 (by kernel_rfl)
noncomputable def td6 : List (Nat × TF) := (F_edwards_fe_chain, cT (envP tt td5 []) 600 f_edwards_fe_chain) :: td5
theorem O6 : LibOK prog tt td6 [] := O5.cT at_edwards_fe_chain 600 (by kernel_rfl)
noncomputable def td7 : List (Nat × TF) := (F_edwards_fe_inverse, cT (envP tt td6 []) 600 f_edwards_fe_inverse) :: td6
theorem O7 : LibOK prog tt td7 [] := O6.cT at_edwards_fe_inverse 600 (by kernel_rfl)
noncomputable def td8 : List (Nat × TF) := (F_edwards_fe_eighth, cT (envP tt td7 []) 600 f_edwards_fe_eighth) :: td7
theorem O8 : LibOK prog tt td8 [] := O7.cT at_edwards_fe_eighth 600 (by kernel_rfl)
noncomputable def td9 : List (Nat × TF) := (F_edwards_root, cT (envP tt td8 []) 600 f_edwards_root) :: td8
theorem O9 : LibOK prog tt td9 [] := O8.cT at_edwards_root 600 (by kernel_rfl)
noncomputable def td10 : List (Nat × TF) := (F_edwards_identity, cT (envP tt td9 []) 600 f_edwards_identity) :: td9
theorem O10 : LibOK prog tt td10 [] := O9.cT at_edwards_identity 600 (by kernel_rfl)
noncomputable def td11 : List (Nat × TF) := (F_edwards_base, cT (envP tt td10 []) 600 f_edwards_base) :: td10
theorem O11 : LibOK prog tt td11 [] := O10.cT at_edwards_base 600 (by kernel_rfl)
noncomputable def td12 : List (Nat × TF) := (F_edwards_order, cT (envP tt td11 []) 600 f_edwards_order) :: td11
theorem O12 : LibOK prog tt td12 [] := O11.cT at_edwards_order 600 (by kernel_rfl)
noncomputable def td13 : List (Nat × TF) := (F_edwards_point_isIdentity, cT (envP tt td12 []) 600 f_edwards_point_isIdentity) :: td12
theorem O13 : LibOK prog tt td13 [] := O12.cT at_edwards_point_isIdentity 600 (by kernel_rfl)
noncomputable def td14 : List (Nat × TF) := (F_edwards_point_xy, cT (envP tt td13 []) 600 f_edwards_point_xy) :: td13
theorem O14 : LibOK prog tt td14 [] := O13.cT at_edwards_point_xy 600 (by kernel_rfl)
noncomputable def td15 : List (Nat × TF) := (F_edwards_point_form, cT (envP tt td14 []) 600 f_edwards_point_form) :: td14
theorem O15 : LibOK prog tt td15 [] := O14.cT at_edwards_point_form 600 (by kernel_rfl)
noncomputable def td16 : List (Nat × TF) := (F_edwards_open, cT (envP tt td15 []) 600 f_edwards_open) :: td15
theorem O16 : LibOK prog tt td16 [] := O15.cT at_edwards_open 600 (by kernel_rfl)
noncomputable def td17 : List (Nat × TF) := (F_edwards_Check, cT (envP tt td16 []) 600 f_edwards_Check) :: td16
theorem O17 : LibOK prog tt td17 [] := O16.cT at_edwards_Check 600 (by kernel_rfl)
noncomputable def td18 : List (Nat × TF) := (F_edwards_Identity, cT (envP tt td17 []) 600 f_edwards_Identity) :: td17
theorem O18 : LibOK prog tt td18 [] := O17.cT at_edwards_Identity 600 (by kernel_rfl)
noncomputable def td19 : List (Nat × TF) := (F_edwards_point_times, cT (envP tt td18 []) 600 f_edwards_point_times) :: td18
theorem O19 : LibOK prog tt td19 [] := O18.cT at_edwards_point_times 600 (by kernel_rfl)
noncomputable def td20 : List (Nat × TF) := (F_edwards_IsPrime, cT (envP tt td19 []) 600 f_edwards_IsPrime) :: td19
theorem O20 : LibOK prog tt td20 [] := O19.cT at_edwards_IsPrime 600 (by kernel_rfl)
noncomputable def td21 : List (Nat × TF) := (F_edwards_MulBase, cT (envP tt td20 []) 600 f_edwards_MulBase) :: td20
theorem O21 : LibOK prog tt td21 [] := O20.cT at_edwards_MulBase 600 (by kernel_rfl)
end Go.Proofs.YtbogcehngfjlkabGreat
namespace Go.Proofs.YtbogcehngfjlkabGreat
open Go.Proofs.Tryz
open Go Go.AM
noncomputable def te0 : List (Nat × TF) := (F_scalar_Add, told tAdd) :: (F_scalar_IsZero, tIsZero) :: (F_scalar_radix, tRadix) :: (F_scalar_mont, told tMont) :: td21
theorem Q0 : LibOK prog tt te0 [] := (((O21.addT r_mont.told).addT r_radix).addT r_isZero).addT r_add.told
noncomputable def te1 : List (Nat × TF) := (F_scalar_times, cT (envP tt te0 []) 600 f_scalar_times) :: te0
theorem Q1 : LibOK prog tt te1 [] := Q0.cT at_scalar_times 600 (by kernel_rfl)
noncomputable def te2 : List (Nat × TF) := (F_scalar_Reduce, cT (envP tt te1 []) 600 f_scalar_Reduce) :: te1
theorem Q2 : LibOK prog tt te2 [] := Q1.cT at_scalar_Reduce 600 (by kernel_rfl)
noncomputable def te3 : List (Nat × TF) := (F_bits_RotateLeft64, cT (envP tt te2 []) 600 f_bits_RotateLeft64) :: te2
theorem Q3 : LibOK prog tt te3 [] := Q2.cT at_bits_RotateLeft64 600 (by kernel_rfl)
noncomputable def te4 : List (Nat × TF) := (F_sha512_ror, cT (envP tt te3 []) 600 f_sha512_ror) :: te3
theorem Q4_con2 : LibOK prog tt te4 [] := Q3.cT at_sha512_ror 600 (by kernel_rfl)
noncomputable def te5 : List (Nat × TF) := (F_sha512_Constants, cT (envP tt te4 []) 600 f_sha512_Constants) :: te4
theorem Q5 : LibOK prog tt te5 [] := Q4_con2.cT at_sha512_Constants 600 (by kernel_rfl)
noncomputable def te6 : List (Nat × TF) := (F_sha512_begin, cT (envP tt te5 []) 600 f_sha512_begin) :: te5
theorem Q6 : LibOK prog tt te6 [] := Q5.cT at_sha512_begin 600 (by kernel_rfl)
noncomputable def te7 : List (Nat × TF) := (F_sha512_Hasher_made, cT (envP tt te6 []) 600 f_sha512_Hasher_made) :: te6
theorem Q7 : LibOK prog tt te7 [] := Q6.cT at_sha512_Hasher_made 600 (by kernel_rfl)
noncomputable def te8 : List (Nat × TF) := (F_sha512_block, cT (envP tt te7 []) 600 f_sha512_block) :: te7
theorem Q8 : LibOK prog tt te8 [] := Q7.cT at_sha512_block 600 (by kernel_rfl)
noncomputable def te9 : List (Nat × TF) := (F_sha512_pad, cT (envP tt te8 []) 600 f_sha512_pad) :: te8
theorem Q9 : LibOK prog tt te9 [] := Q8.cT at_sha512_pad 600 (by kernel_rfl)
noncomputable def we10 : List (Nat × WF) := (F_sha512_New, cW (envP tt te9 []) 600 f_sha512_New) :: []
theorem Q10 : LibOK prog tt te9 we10 := Q9.cW at_sha512_New 600 (by kernel_rfl)
noncomputable def we11 : List (Nat × WF) := (F_sha512_Hasher_Write, cW (envP tt te9 we10) 600 f_sha512_Hasher_Write) :: we10
theorem Q11 : LibOK prog tt te9 we11 := Q10.cW at_sha512_Hasher_Write 600 (by kernel_rfl)
noncomputable def te12 : List (Nat × TF) := (F_sha512_Hasher_Sum, cT (envP tt te9 we11) 600 f_sha512_Hasher_Sum) :: te9
theorem Q12 : LibOK prog tt te12 we11 := Q11.cT at_sha512_Hasher_Sum 600 (by kernel_rfl)
noncomputable def te13 : List (Nat × TF) := (F_sha512_Join, cT (envP tt te12 we11) 600 f_sha512_Join) :: te12
theorem Q13 : LibOK prog tt te13 we11 := Q12.cT at_sha512_Join 600 (by kernel_rfl)
noncomputable def te14 : List (Nat × TF) := (F_suite_hashed, cT (envP tt te13 we11) 600 f_suite_hashed) :: te13
theorem Q14 : LibOK prog tt te14 we11 := Q13.cT at_suite_hashed 600 (by kernel_rfl)
noncomputable def te15 : List (Nat × TF) := (F_suite_number, cT (envP tt te14 we11) 600 f_suite_number) :: te14
theorem Q15 : LibOK prog tt te15 we11 := Q14.cT at_suite_number 600 (by kernel_rfl)
noncomputable def te16 : List (Nat × TF) := (F_suite_H1, cT (envP tt te15 we11) 600 f_suite_H1) :: te15
theorem Q16 : LibOK prog tt te16 we11 := Q15.cT at_suite_H1 600 (by kernel_rfl)
end Go.Proofs.YtbogcehngfjlkabGreat
