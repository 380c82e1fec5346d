/-
  Texts of the claim: DDig DSuite DEl DEl2 DGiv DGvBytes DCon DCon2.
-/
import Derived.Test.YtapacajpcjcjaaaGreatAe
import Derived.Test.YtapacajpcjcjaaaGreatAf
import Derived.Test.YtapacajpcjcjaaaGreatBc
namespace Go.Proofs.YtapacajpcjcjaaaGreat
open Go.Proofs.Tryz
open Go Go.AM
structure DA where
  t : Bool
  n : Nat
  f : Nat → Nat → Int
  m : Nat
noncomputable def dgB : Code := match f_rimeref02_digits.body with | some c => (match bodiesOf 0 c with | [.loop b] => b | _ => .skip) | none => .skip
def dgW (a : DA) (v : Int) (D : Nat → Nat → Int) : St := ⟨tmOf [(0, .sc (.vints a.t .u8 1 a.n a.f)), (3, .sc (.slice 0 1 0 0 1 a.m)), (4, .sc (.int .i64 v))] 37 0, [some (.ints .u32 1 a.m D)]⟩
def dgQ (v : Int) : Int := wr .i64 (v.tdiv 4)
def dgSh (v : Int) : Int := wr .u64 (wr .i64 (8 * v.tmod 4))
def dgVal (a : DA) (v : Int) (D : Nat → Nat → Int) : Int := ior .u32 (D (0 + (dgQ v).toNat) 0) (ishl .u32 (wr .u32 (a.f v.toNat 0)) (dgSh v))
theorem dg_round (a : DA) (v v' : Int) (D D' : Nat → Nat → Int) : roundB pE [(13, true)] 5 dgB (dgW a v D) .normal (dgW a v' D') =
    some (ckL [decide (v < (a.n : Int)) == true, inR (dgQ v) a.m, inR v a.n, !decide (dgSh v < 0), inR (dgQ v) a.m] &&
      stB (dgW a (wr .i64 (v + 1)) (fun r d => bif Nat.beq r (0 + (dgQ v).toNat) && Nat.beq d 0 then dgVal a v D else D r d)) (dgW a v' D')) := by kernel_rfl
theorem dg_same (a : DA) (v : Int) {D D' : Nat → Nat → Int} (h : eqF a.m 1 D D' = true) : stB (dgW a v D) (dgW a v D') = true := by
  simp [stB, dgW, tmOf, tmB, avB, svB, hpB, blkB, eqF_refl, kEq, h]
def dgT (a : DA) (D : Nat → Nat → Int) : St := ⟨tmOf [(3, .sc (.slice 0 1 0 0 1 a.m))] 37 0, [some (.ints .u32 1 a.m D)]⟩
theorem dg_stop (a : DA) (v : Int) (D : Nat → Nat → Int) : roundB pE [(13, false)] 5 dgB (dgW a v D) (.exit 0) (dgT a D) = some (ckL [decide (v < (a.n : Int)) == false] && stB (dgT a D) (dgT a D)) := by kernel_rfl
theorem dgT_same (a : DA) (D : Nat → Nat → Int) : stB (dgT a D) (dgT a D) = true := by
  simp [stB, dgT, tmOf, tmB, avB, svB, hpB, blkB, eqF_refl, kEq]
def dgS (a : DA) (k : Nat) : St := dgW a (k : Int) (fun r _ => dK (fun j => a.f j 0) k r)
def dgRd (s : St) : Option DA := match getA s.tm 0, s.hp with
  | .sc (.vints t _ _ n f), [some (.ints _ _ m _)] => some ⟨t, n, f, m⟩
  | _, _ => none
def dgCk (a : DA) : Bool := big a.n && (areB (fun j => a.f j 0) a.n 0 && Nat.beq a.m ((a.n + 3) / 4))
def dgF : LF := famF dgRd dgS dgCk (fun _ => .normal) (fun a => dgT a (fun r _ => dK (fun j => a.f j 0) a.n r))
theorem dg_body : f_rimeref02_digits.body.map (bodiesOf 0) = some [.loop dgB] := by kernel_rfl
theorem dg_ok : codeOK prog pE.env.isW dgB = true := by kernel_rfl
theorem dg_hp {s : St} {a : DA} (h : dgRd s = some a) : s.hp.length = 1 ∧ ∀ (i : Nat) (t : Heap), s.hp[i]? = some none → t[i]? = some none := by
  unfold dgRd at h
  split at h
  · rename_i hh
    rw [hh]
    refine ⟨rfl, fun i t hi => ?_⟩
    match i, hi with
    | 0, hi => simp at hi
    | n + 1, hi => simp at hi
  · simp at h
theorem dg_step (a : DA) (ha : dgCk a = true) (k : Nat) (hk : k < a.n) : ∃ s1, am pE.env 5 dgB (dgS a k) = some (.normal, s1) ∧ StLe s1 (dgS a (k + 1)) := by
  simp only [dgCk, Bool.and_eq_true] at ha
  obtain ⟨h1, h2, h3⟩ := ha
  have hn : a.n ≤ 4611686018427387904 := Nat.le_of_ble_eq_true h1
  have hm := Nat.eq_of_beq_eq_true h3
  have ew : wr .i64 ((k : Int) + 1) = ((k + 1 : Nat) : Int) := by rw [wr_small (by omega) (by omega)]; rfl
  have ed : ((k : Int).tdiv 4) = ((k / 4 : Nat) : Int) := by rw [Int.tdiv_eq_ediv_of_nonneg (by omega)]; omega
  have em : ((k : Int).tmod 4) = ((k % 4 : Nat) : Int) := by rw [Int.tmod_eq_emod_of_nonneg (by omega)]; omega
  have eq : dgQ (k : Int) = ((k / 4 : Nat) : Int) := by unfold dgQ; rw [ed, wr_small (by omega) (by omega)]
  have es : dgSh (k : Int) = ((8 * (k % 4) : Nat) : Int) := by
    unfold dgSh
    rw [em, wr_small (by omega) (by omega), wr64]; omega
  refine roundB_spec (dg_round a (k : Int) ((k + 1 : Nat) : Int) _ (fun r _ => dK (fun j => a.f j 0) (k + 1) r)) ?_
  have hstep := (dK_step h2 hk).1
  have hF : eqF a.m 1 (fun r d => bif Nat.beq r (0 + (dgQ (k : Int)).toNat) && Nat.beq d 0 then dgVal a (k : Int) (fun r _ => dK (fun j => a.f j 0) k r) else dK (fun j => a.f j 0) k r) (fun r _ => dK (fun j => a.f j 0) (k + 1) r) = true := by
    refine eqF_of fun r hr d hd => ?_
    obtain rfl : d = 0 := by omega
    rw [eq, Int.toNat_natCast, Nat.zero_add]
    by_cases e : r = k / 4
    · subst e
      have hbb : Nat.beq (k / 4) (k / 4) = true := beq_t.2 rfl
      have h00 : Nat.beq 0 0 = true := rfl
      rw [hbb, h00, Bool.and_self, cond_true, hstep]
      unfold dgVal
      rw [eq, es, Int.toNat_natCast, Int.toNat_natCast, Nat.zero_add]
    · have : Nat.beq r (k / 4) = false := by cases hb : Nat.beq r (k / 4) with | false => rfl | true => exact absurd (Nat.eq_of_beq_eq_true hb) e
      rw [this]
      simp only [Bool.false_and, cond_false]
      exact (dK_other e).symm
  rw [ew, dg_same a _ hF, eq, es]
  have hq : k / 4 < a.m := by omega
  have eN : (decide (((8 * (k % 4) : Nat) : Int) < 0)) = false := by simp; omega
  have e1 : inR (((k / 4 : Nat)) : Int) a.m = true := inR_nat hq
  rw [eN, e1, inR_nat hk]
  simp [ckL]; omega
theorem l_dg : LRow prog f_rimeref02_digits 0 dgF := by
  refine LRow.fam (N := 5) (L0.env []) mix (fun a => a.n) (body_of dg_body) dg_ok (fun w0 own0 => accOK_none (fun id => rfl) dgB) (fun s a h => ⟨by rw [(dg_hp h).1]; rfl, fun i hi => (dg_hp h).2 i _ hi⟩) (fun _ _ => rfl) (fun _ => Nat.le_refl _) (fun a ha k hk => dg_step a ha k hk) ?_
  intro a ha
  obtain ⟨s1, h1, h2⟩ := roundB_spec (dg_stop a (a.n : Int) (fun r _ => dK (fun j => a.f j 0) a.n r)) (by rw [dgT_same]; simp [ckL])
  exact ⟨_, s1, h1, rfl, h2⟩
def tDigits : TF := fun args => match args with
  | [.sc (.vints _ .u8 1 n f)] => some (Nat.ble n 1099511627776 && areB (fun j => f j 0) n 0, .sc (.vints true .u32 1 ((n + 3) / 4) (fun j _ => dK (fun j => f j 0) n (0 + j))))
  | _ => none
def dgM (n : Nat) : Int := wr .i64 ((wr .i64 ((n : Int) + 3)).tdiv 4)
def dgI (t : Bool) (n : Nat) (f : Nat → Nat → Int) : St := ⟨tmOf [(0, .sc (.vints t .u8 1 n f)), (3, .sc (.slice 0 1 0 0 1 (dgM n).toNat)), (4, .sc (.int .i64 0))] 37 0, [some (.ints .u32 1 (dgM n).toNat (fun _ _ => 0))]⟩
theorem c_digits : fnChk prog (envL tt [] [] [(0, dgF)]) f_rimeref02_digits = true := by kernel_rfl
theorem k_digits (t : Bool) (n : Nat) (f : Nat → Nat → Int) : outP (apFunc (envL tt [] [] [(0, dgF)]) [] 5 f_rimeref02_digits [.sc (.vints t .u8 1 n f)] []) =
    some (ckL [inB (dgM n) (dgM n) && fits (dgM n).toNat 4, dgCk ⟨t, n, f, (dgM n).toNat⟩ && stB (dgI t n f) (dgS ⟨t, n, f, (dgM n).toNat⟩ 0)], .sc (.vints true .u32 1 (dgM n).toNat (fun j _ => dK (fun j => f j 0) n (0 + j)))) := by kernel_rfl
theorem r_digits : TRow prog F_rimeref02_digits tDigits := by
  intro args r h
  unfold tDigits at h
  split at h
  case h_2 => simp at h
  rename_i t n f
  simp only [Option.some.injEq, Prod.mk.injEq, Bool.and_eq_true] at h
  obtain ⟨⟨hb, ha⟩, rfl⟩ := h
  have hn : n ≤ 1099511627776 := Nat.le_of_ble_eq_true hb
  refine pure_of_outL L0 at_rimeref02_digits (LsOK.nil.cons l_dg) c_digits (N := 5) (gs := []) ?_
  have eM : dgM n = (((n + 3) / 4 : Nat) : Int) := by
    unfold dgM
    rw [wr_small (x := (n : Int) + 3) (by omega) (by omega), Int.tdiv_eq_ediv_of_nonneg (by omega), wr_small (by omega) (by omega)]; omega
  have h0 : eqF ((n + 3) / 4) 1 (fun _ _ => (0 : Int)) (fun r _ => dK (fun j => f j 0) 0 r) = true := eqF_of fun r _ d _ => by
    unfold dK
    rw [hval_zero (n := 4) fun i hi => by unfold cutB; rw [if_neg (by omega)]]
  have hs : stB (dgI t n f) (dgS ⟨t, n, f, (dgM n).toNat⟩ 0) = true := by
    unfold dgI dgS
    rw [eM, Int.toNat_natCast]
    simp [stB, dgW, tmOf, tmB, avB, svB, hpB, blkB, eqF_refl, kEq, h0]
  have hc : dgCk ⟨t, n, f, (dgM n).toNat⟩ = true := by
    simp only [dgCk, Bool.and_eq_true]
    rw [eM, Int.toNat_natCast]
    exact ⟨Nat.ble_eq_true_of_le (by omega), ha, beq_t.2 rfl⟩
  have hi : (inB (dgM n) (dgM n) && fits (dgM n).toNat 4) = true := by
    rw [eM, Int.toNat_natCast]
    simp [inB, fits]; omega
  rw [k_digits, hs, hc, hi, eM, Int.toNat_natCast]; rfl
def rs2 : List (Nat × TF) := (F_rimeref02_digits, tDigits) :: (F_rimeref02_mod, tMod) :: rs1
theorem R2 : LibOK prog tt rs2 [] := (R1.addT r_mod).addT r_digits
def tBack8 : TF := fun args => match args with
  | [.agg [.ints .u32 8 a]] => some (inW8 a, b32 (val8 a))
  | _ => none
theorem c_back8 : fnChk prog (envP tt rs2 []) f_rimeref02_Back = true := by kernel_rfl
theorem k_back8 (a : Nat → Int) : outP (apFunc (envP tt rs2 []) [] 40 f_rimeref02_Back [u8w a] []) = some (true, u8s 32 (lf (back8 a))) := by kernel_rfl
theorem r_back8 : TRow prog F_rimeref02_Back tBack8 := by
  intro args r h
  unfold tBack8 at h
  split at h
  case h_2 => simp at h
  rename_i a
  simp only [Option.some.injEq, Prod.mk.injEq] at h
  obtain ⟨ha, rfl⟩ := h
  refine pure_of_out R2 at_rimeref02_Back c_back8 (N := 40) (gs := []) ?_
  have hr := val8_range ha
  have e : back8 a = byL 32 (val8 a) := by
    rw [← back8_law hr.1 hr.2, ← limbs8_self ha]; rfl
  rw [← show u8s 32 (lf (back8 a)) = b32 (val8 a) by unfold b32; rw [e]]
  exact k_back8 a
def tReduce2 : TF := fun args => match args with
  | [.sc (.vints _ .u8 1 n f)] => some (Nat.ble n 1099511627776 && areB (fun j => f j 0) n 0, b32 (hval (fun j => f j 0) n 0 % ordL))
  | _ => none
def rs3 : List (Nat × TF) := (F_rimeref02_Back, tBack8) :: rs2
theorem R3 : LibOK prog tt rs3 [] := R2.addT r_back8
theorem c_reduce2 : fnChk prog (envP tt rs3 []) f_rimeref02_Reduce = true := by kernel_rfl
def dgs (n : Nat) (f : Nat → Nat → Int) : Nat → Nat → Int := fun j _ => dK (fun j => f j 0) n (0 + j)
theorem k_reduce2 (t : Bool) (n : Nat) (f : Nat → Nat → Int) : outP (apFunc (envP tt rs3 []) [] 5 f_rimeref02_Reduce [.sc (.vints t .u8 1 n f)] []) =
    some (ckL [Nat.ble n 1099511627776 && areB (fun j => f j 0) n 0, big ((n + 3) / 4) && all32 (dgs n f) ((n + 3) / 4), inW8 (limbs8 (dval (dgs n f) ((n + 3) / 4) ((n + 3) / 4) % ordL))],
      b32 (val8 (limbs8 (dval (dgs n f) ((n + 3) / 4) ((n + 3) / 4) % ordL)))) := by kernel_rfl
theorem dgs_law {n : Nat} {f : Nat → Nat → Int} (ha : areB (fun j => f j 0) n 0 = true) : all32 (dgs n f) ((n + 3) / 4) = true ∧ dval (dgs n f) ((n + 3) / 4) ((n + 3) / 4) = hval (fun j => f j 0) n 0 := by
  refine ⟨?_, dval_all (fun j => f j 0) (by omega)⟩
  simp only [all32, List.all_eq_true, List.mem_range]
  exact fun j _ => in32_of (dK_W ha (0 + j))
theorem r_reduce2 : TRow prog F_rimeref02_Reduce tReduce2 := by
  intro args r h
  unfold tReduce2 at h
  split at h
  case h_2 => simp at h
  rename_i t n f
  simp only [Option.some.injEq, Prod.mk.injEq, Bool.and_eq_true] at h
  obtain ⟨⟨hb, ha⟩, rfl⟩ := h
  refine pure_of_out R3 at_rimeref02_Reduce c_reduce2 (N := 5) (gs := []) ?_
  obtain ⟨e1, e2⟩ := dgs_law ha
  have hn : n ≤ 1099511627776 := Nat.le_of_ble_eq_true hb
  have hm := modL_range (hval (fun j => f j 0) n 0)
  have hv : val8 (limbs8 (hval (fun j => f j 0) n 0 % ordL)) = hval (fun j => f j 0) n 0 % ordL := val8_limbs hm.1 (by unfold R256; omega)
  rw [k_reduce2, e1, e2, hv, inW8_limbs, hb, ha, show big ((n + 3) / 4) = true from Nat.ble_eq_true_of_le (by omega)]; rfl
end Go.Proofs.YtapacajpcjcjaaaGreat
namespace Go.Proofs.YtapacajpcjcjaaaGreat
open Go.Proofs.Tryz
open Go Go.AM
def row1 (s : Nat → Int) : Nat → Nat → Int := fun j d => s (0 + j * 1 + d)
theorem row1_areB {s : Nat → Int} {n : Nat} (h : areB s n 0 = true) : areB (fun j => row1 s j 0) n 0 = true := areB_of fun i hi => by
  have := areB_t h i hi
  simpa [row1] using this
theorem row1_hval (s : Nat → Int) (n : Nat) : hval (fun j => row1 s j 0) n 0 = hval s n 0 := hval_congr fun i _ => by simp [row1]
end Go.Proofs.YtapacajpcjcjaaaGreat
namespace Go.Proofs.YtapacajpcjcjaaaGreat
open Go.Proofs.Tryz
open Go Go.AM
theorem r_isPrG' : TRow prog F_rimeref04_IsPrime tIsPrime := fun args r h => r_isPrG args r (by
  have e : tIsPrG args = tIsPrime args := by unfold tIsPrG tIsPrime; split <;> simp only [prS_prG]
  rw [e]; exact h)
def grpS (w : Int) : Int := bif opOk w then (bif decide (w = 1) then 42 else bif prS w then 0 else 43) else 41
def tGroup : TF := fun args => match args with
  | [.agg [.ints .u8 32 b]] => some (areB b 32 0, .sc (.int .i64 (grpS (hval b 32 0))))
  | _ => none
noncomputable def el0 : List (Nat × TF) := (F_edwards_Check, tCheck) :: (F_edwards_Identity, tIdentity) :: (F_edwards_IsPrime, tIsPrime) :: (F_edwards_MulBase, tMulBase) :: (F_scalar_Add, tAdd) :: (F_scalar_IsZero, tIsZero) :: (F_rimeref02_Reduce, tReduce2) ::
  (F_rimeref04_Check, tCheck) :: (F_rimeref04_Identity, tIdentG) :: (F_rimeref04_IsPrime, tIsPrime) :: (F_rimeref04_MulBase, tMulBase) :: []
theorem EL0 : LibOK prog tt el0 [] := ((((((((((L0.addT r_mulBaseG).addT r_isPrG').addT r_identG).addT r_checkG).addT r_reduce2).addT r_isZero).addT r_add).addT r_mulBase).addT r_isPrime).addT r_identity).addT r_check
noncomputable abbrev elE : EnvP := envP tt el0 []
theorem c_group : fnChk prog elE f_suite_group = true := by kernel_rfl
theorem c_groupG : fnChk prog elE f_rimeref06_Group = true := by kernel_rfl
def chkI (w : Int) : Int := bif opOk w then 0 else 41
theorem k_grp1 (b : Nat → Int) : outP (apFunc elE [(9, true)] 5 f_suite_group [u8s 32 b] []) = some (ckL [areB (ld0 b) 32 0, (chkI (hval (ld0 b) 32 0) != 0) == true], .sc (.int .i64 (chkI (hval (ld0 b) 32 0)))) := by kernel_rfl
theorem k_grp2 (b : Nat → Int) : outP (apFunc elE [(9, false), (13, true)] 5 f_suite_group [u8s 32 b] []) = some (ckL [areB (ld0 b) 32 0, (chkI (hval (ld0 b) 32 0) != 0) == false, (eqN 32 (ld0 b) (lf (byL 32 1)) && true) == true], .sc (.int .i64 42)) := by kernel_rfl
theorem k_grp3 (b : Nat → Int) (g : Bool) : outP (apFunc elE [(9, false), (13, false), (20, true)] 5 f_suite_group [u8s 32 b] []) =
    some (ckL [areB (ld0 b) 32 0, (chkI (hval (ld0 b) 32 0) != 0) == false, (eqN 32 (ld0 b) (lf (byL 32 1)) && true) == false, areB (ld0 b) 32 0, (!prS (hval (ld0 b) 32 0)) == true], .sc (.int .i64 43)) := by kernel_rfl
theorem k_grp4 (b : Nat → Int) (g : Bool) : outP (apFunc elE [(9, false), (13, false), (20, false)] 5 f_suite_group [u8s 32 b] []) =
    some (ckL [areB (ld0 b) 32 0, (chkI (hval (ld0 b) 32 0) != 0) == false, (eqN 32 (ld0 b) (lf (byL 32 1)) && true) == false, areB (ld0 b) 32 0, (!prS (hval (ld0 b) 32 0)) == false], .sc (.int .i64 0)) := by kernel_rfl
theorem k_grG1 (b : Nat → Int) : outP (apFunc elE [(7, true)] 5 f_rimeref06_Group [u8s 32 b] []) = some (ckL [areB (ld0 b) 32 0, (chkI (hval (ld0 b) 32 0) != 0) == true], .sc (.int .i64 41)) := by kernel_rfl
theorem k_grG2 (b : Nat → Int) : outP (apFunc elE [(7, false), (10, true)] 5 f_rimeref06_Group [u8s 32 b] []) = some (ckL [areB (ld0 b) 32 0, (chkI (hval (ld0 b) 32 0) != 0) == false, (eqN 32 (ld0 b) (lf (byL 32 1)) && true) == true], .sc (.int .i64 42)) := by kernel_rfl
theorem k_grG3 (b : Nat → Int) : outP (apFunc elE [(7, false), (10, false), (17, true)] 5 f_rimeref06_Group [u8s 32 b] []) =
    some (ckL [areB (ld0 b) 32 0, (chkI (hval (ld0 b) 32 0) != 0) == false, (eqN 32 (ld0 b) (lf (byL 32 1)) && true) == false, areB (ld0 b) 32 0, (!prS (hval (ld0 b) 32 0)) == true], .sc (.int .i64 43)) := by kernel_rfl
theorem k_grG4 (b : Nat → Int) : outP (apFunc elE [(7, false), (10, false), (17, false)] 5 f_rimeref06_Group [u8s 32 b] []) =
    some (ckL [areB (ld0 b) 32 0, (chkI (hval (ld0 b) 32 0) != 0) == false, (eqN 32 (ld0 b) (lf (byL 32 1)) && true) == false, areB (ld0 b) 32 0, (!prS (hval (ld0 b) 32 0)) == false], .sc (.int .i64 0)) := by kernel_rfl
theorem eqN_num {b : Nat → Int} (hb : areB b 32 0 = true) {x : Int} (hx : 0 ≤ x ∧ x < R256) : eqN 32 b (lf (byL 32 x)) = decide (hval b 32 0 = x) := by
  have hr : 0 ≤ hval b 32 0 ∧ hval b 32 0 < R256 := hval_range hb
  rw [← eqN_by hr hx]
  exact eqN_congr fun d hd => by
    have := lf_tab b 32 0 d hd
    rw [Nat.zero_add, ← byL_self hb] at this
    exact this.symm
theorem eqN_one {b : Nat → Int} (hb : areB b 32 0 = true) : eqN 32 b (lf (byL 32 1)) = decide (hval b 32 0 = 1) := eqN_num hb (by decide)
theorem r_group : TRow prog F_suite_group tGroup := by
  intro args r h
  unfold tGroup at h
  split at h
  case h_2 => simp at h
  rename_i b
  simp only [Option.some.injEq, Prod.mk.injEq] at h
  obtain ⟨hb, rfl⟩ := h
  unfold grpS
  have e1 := k_grp1 b
  have e2 := k_grp2 b
  have e3 := k_grp3 b true
  have e4 := k_grp4 b true
  rw [ld0_eq] at e1 e2 e3 e4
  rw [hb] at e1 e2 e3 e4
  rw [eqN_one hb] at e2 e3 e4
  unfold chkI at e1 e2 e3 e4
  cases ho : opOk (hval b 32 0) with
  | false =>
    rw [ho] at e1
    exact pure_of_out EL0 at_suite_group c_group (N := 5) (gs := [(9, true)]) e1
  | true =>
    rw [ho] at e2 e3 e4
    cases h1 : decide (hval b 32 0 = 1) with
    | true =>
      rw [h1] at e2
      exact pure_of_out EL0 at_suite_group c_group (N := 5) (gs := [(9, false), (13, true)]) e2
    | false =>
      rw [h1] at e3 e4
      cases hp : prS (hval b 32 0) with
      | false => rw [hp] at e3; exact pure_of_out EL0 at_suite_group c_group (N := 5) (gs := [(9, false), (13, false), (20, true)]) e3
      | true => rw [hp] at e4; exact pure_of_out EL0 at_suite_group c_group (N := 5) (gs := [(9, false), (13, false), (20, false)]) e4
theorem r_groupG : TRow prog F_rimeref06_Group tGroup := by
  intro args r h
  unfold tGroup at h
  split at h
  case h_2 => simp at h
  rename_i b
  simp only [Option.some.injEq, Prod.mk.injEq] at h
  obtain ⟨hb, rfl⟩ := h
  unfold grpS
  have e1 := k_grG1 b
  have e2 := k_grG2 b
  have e3 := k_grG3 b
  have e4 := k_grG4 b
  rw [ld0_eq] at e1 e2 e3 e4
  rw [hb] at e1 e2 e3 e4
  rw [eqN_one hb] at e2 e3 e4
  unfold chkI at e1 e2 e3 e4
  cases ho : opOk (hval b 32 0) with
  | false =>
    rw [ho] at e1
    exact pure_of_out EL0 at_rimeref06_Group c_groupG (N := 5) (gs := [(7, true)]) e1
  | true =>
    rw [ho] at e2 e3 e4
    cases h1 : decide (hval b 32 0 = 1) with
    | true =>
      rw [h1] at e2
      exact pure_of_out EL0 at_rimeref06_Group c_groupG (N := 5) (gs := [(7, false), (10, true)]) e2
    | false =>
      rw [h1] at e3 e4
      cases hp : prS (hval b 32 0) with
      | false => rw [hp] at e3; exact pure_of_out EL0 at_rimeref06_Group c_groupG (N := 5) (gs := [(7, false), (10, false), (17, true)]) e3
      | true => rw [hp] at e4; exact pure_of_out EL0 at_rimeref06_Group c_groupG (N := 5) (gs := [(7, false), (10, false), (17, false)]) e4
def expS (K : Int) : Int := bif decide (K = 0) then 0 else formS (mulS baseS K)
def tExp : TF := fun args => match args with
  | [.agg [.ints .u8 32 s]] => some (areB s 32 0, .tup [b32 (expS (hval s 32 0 % ordL)), .sc (.int .i64 (bif decide (hval s 32 0 % ordL = 0) then 9 else 0))])
  | _ => none
theorem c_exp : fnChk prog elE f_suite_Exp = true := by kernel_rfl
theorem c_expR : fnChk prog elE f_rimeref06_Exp = true := by kernel_rfl
def exA (s : Nat → Int) : Int := (hval (ld0 s) 32 0 + hval (fun _ => 0) 32 0) % ordL
theorem k_exp1 (s : Nat → Int) : outP (apFunc elE [(9, true)] 5 f_suite_Exp [u8s 32 s] []) =
    some (ckL [areB (ld0 s) 32 0 && true, areB (lf (byL 32 (exA s))) 32 0 && (decide (hval (lf (byL 32 (exA s))) 32 0 % ordL = 0) == true)], .tup [b32 0, .sc (.int .i64 9)]) := by kernel_rfl
theorem k_exp2 (s : Nat → Int) : outP (apFunc elE [(9, false)] 5 f_suite_Exp [u8s 32 s] []) =
    some (ckL [areB (ld0 s) 32 0 && true, areB (lf (byL 32 (exA s))) 32 0 && (decide (hval (lf (byL 32 (exA s))) 32 0 % ordL = 0) == false), areB (lf (byL 32 (exA s))) 32 0], .tup [b32 (formS (mulS baseS (hval (lf (byL 32 (exA s))) 32 0))), .sc (.int .i64 0)]) := by kernel_rfl
theorem hval_0 : hval (fun _ => 0) 32 0 = 0 := by decide
theorem ord_mod (x : Int) : 0 ≤ x % ordL ∧ x % ordL < R256 := ⟨Int.emod_nonneg _ (by decide), Int.lt_trans (Int.emod_lt_of_pos _ (by decide)) (by decide)⟩
theorem b_ord (x : Int) : hval (lf (byL 32 (x % ordL))) 32 0 = x % ordL := hval_b32 (ord_mod x).1 (ord_mod x).2
theorem ord_ord (x : Int) : x % ordL % ordL = x % ordL := Int.emod_emod_of_dvd x (Int.dvd_refl ordL)
theorem r_exp : TRow prog F_suite_Exp tExp := by
  intro args r h
  unfold tExp at h
  split at h
  case h_2 => simp at h
  rename_i s
  simp only [Option.some.injEq, Prod.mk.injEq] at h
  obtain ⟨hs, rfl⟩ := h
  have e1 := k_exp1 s
  have e2 := k_exp2 s
  have ea : exA s = hval s 32 0 % ordL := by unfold exA; rw [ld0_eq, hval_0, Int.add_zero]
  rw [ld0_eq, ea, areB_b32, b_ord, ord_ord, hs] at e1 e2
  unfold expS
  cases hz : decide (hval s 32 0 % ordL = 0) with
  | true => rw [hz] at e1; exact pure_of_out EL0 at_suite_Exp c_exp (N := 5) (gs := [(9, true)]) e1
  | false => rw [hz] at e2; exact pure_of_out EL0 at_suite_Exp c_exp (N := 5) (gs := [(9, false)]) e2
theorem eqN_zero_el {x : Int} (hx : 0 ≤ x ∧ x < R256) : eqN 32 (lf (byL 32 x)) (fun _ => 0) = decide (x = 0) := by
  rw [eqN_symm, eqN_congr (f' := lf (byL 32 0)) (by decide), eqN_symm]
  exact eqN_by hx (by decide)
theorem k_exG1 (s : Nat → Int) : outP (apFunc elE [(8, true)] 5 f_rimeref06_Exp [u8s 32 s] []) =
    some (ckL [areB (fun j => row1 s j 0) 32 0, (eqN 32 (lf (byL 32 (hval (fun j => row1 s j 0) 32 0 % ordL))) (fun _ => 0) && true) == true], .tup [b32 0, .sc (.int .i64 9)]) := by kernel_rfl
theorem k_exG2 (s : Nat → Int) : outP (apFunc elE [(8, false)] 5 f_rimeref06_Exp [u8s 32 s] []) =
    some (ckL [areB (fun j => row1 s j 0) 32 0, (eqN 32 (lf (byL 32 (hval (fun j => row1 s j 0) 32 0 % ordL))) (fun _ => 0) && true) == false, areB (lf (byL 32 (hval (fun j => row1 s j 0) 32 0 % ordL))) 32 0], .tup [b32 (formS (mulS baseS (hval (lf (byL 32 (hval (fun j => row1 s j 0) 32 0 % ordL))) 32 0))), .sc (.int .i64 0)]) := by kernel_rfl
theorem r_expR : TRow prog F_rimeref06_Exp tExp := by
  intro args r h
  unfold tExp at h
  split at h
  case h_2 => simp at h
  rename_i s
  simp only [Option.some.injEq, Prod.mk.injEq] at h
  obtain ⟨hs, rfl⟩ := h
  have e1 := k_exG1 s
  have e2 := k_exG2 s
  rw [row1_areB hs, row1_hval, eqN_zero_el (ord_mod _)] at e1 e2
  rw [areB_b32, b_ord] at e2
  unfold expS
  cases hz : decide (hval s 32 0 % ordL = 0) with
  | true => rw [hz] at e1; exact pure_of_out EL0 at_rimeref06_Exp c_expR (N := 5) (gs := [(8, true)]) e1
  | false => rw [hz] at e2; exact pure_of_out EL0 at_rimeref06_Exp c_expR (N := 5) (gs := [(8, false)]) e2
end Go.Proofs.YtapacajpcjcjaaaGreat
namespace Go.Proofs.YtapacajpcjcjaaaGreat
open Go.Proofs.Tryz
open Go Go.AM
noncomputable def el1 : List (Nat × TF) := (F_suite_group, tGroup) :: (F_rimeref06_Group, tGroup) :: []
theorem EL1 : LibOK prog tt el1 [] := (L0.addT r_groupG).addT r_group
noncomputable abbrev el1E : EnvP := envP tt el1 []
def tPutE : TF := fun args => match args with
  | [.agg [.ints .u8 32 b]] => some (areB b 32 0, .tup [.sc (.vints true .u8 1 (bif decide (grpS (hval b 32 0) = 0) then 32 else 0) (fun j _ => b j)), .sc (.int .i64 (grpS (hval b 32 0)))])
  | _ => none
theorem c_putE : fnChk prog el1E f_suite_PutElement = true := by kernel_rfl
theorem c_putEG : fnChk prog el1E f_rimeref06_PutElement = true := by kernel_rfl
theorem k_putE1 (b : Nat → Int) : outP (apFunc el1E [(8, true)] 5 f_suite_PutElement [u8s 32 b] []) = some (ckL [areB (ld0 b) 32 0, (grpS (hval (ld0 b) 32 0) != 0) == true], .tup [.sc .nils, .sc (.int .i64 (grpS (hval (ld0 b) 32 0)))]) := by kernel_rfl
theorem k_putE2 (b : Nat → Int) : outP (apFunc el1E [(8, false)] 5 f_suite_PutElement [u8s 32 b] []) = some (ckL [areB (ld0 b) 32 0, (grpS (hval (ld0 b) 32 0) != 0) == false], .tup [.sc (.vints true .u8 1 32 (fun j d => b (0 + (0 + j) * 1 + (0 + d)))), .sc (.int .i64 0)]) := by kernel_rfl
theorem k_putG1 (b : Nat → Int) : outP (apFunc el1E [(9, true)] 5 f_rimeref06_PutElement [u8s 32 b] []) = some (ckL [areB (ld0 b) 32 0, (grpS (hval (ld0 b) 32 0) != 0) == true], .tup [.sc .nils, .sc (.int .i64 (grpS (hval (ld0 b) 32 0)))]) := by kernel_rfl
theorem k_putG2 (b : Nat → Int) : outP (apFunc el1E [(9, false)] 5 f_rimeref06_PutElement [u8s 32 b] []) = some (ckL [areB (ld0 b) 32 0, (grpS (hval (ld0 b) 32 0) != 0) == false], .tup [.sc (.vints true .u8 1 32 (fun j d => b (0 + (0 + j) * 1 + (0 + d)))), .sc (.int .i64 0)]) := by kernel_rfl
theorem putE_rv1 (b : Nat → Int) (x : Int) : rvR (.tup [.sc .nils, .sc (.int .i64 x)]) (.tup [.sc (.vints true .u8 1 0 (fun j _ => b j)), .sc (.int .i64 x)]) = true := by simp [rvR, twR, svR, kEq_refl]
theorem putE_rv2 (b : Nat → Int) (x : Int) : rvR (.tup [.sc (.vints true .u8 1 32 (fun j d => b (0 + (0 + j) * 1 + (0 + d)))), .sc (.int .i64 x)]) (.tup [.sc (.vints true .u8 1 32 (fun j _ => b j)), .sc (.int .i64 x)]) = true := by
  have : eqF 32 1 (fun j d => b (0 + (0 + j) * 1 + (0 + d))) (fun j _ => b j) = true := eqF_of fun r _ d hd => by
    obtain rfl : d = 0 := by omega
    congr 1; omega
  simp only [rvR, twR, svR, this, kEq_refl, nbeq_refl, beq_self_eq_true, decide_true, Bool.and_self]
theorem ne0 (x : Int) : (x != 0) = !decide (x = 0) := by by_cases h : x = 0 <;> simp [h]
theorem r_putE : TRow prog F_suite_PutElement tPutE := by
  intro args r h
  unfold tPutE at h
  split at h
  case h_2 => simp at h
  rename_i b
  simp only [Option.some.injEq, Prod.mk.injEq] at h
  obtain ⟨hb, rfl⟩ := h
  have e1 := k_putE1 b
  have e2 := k_putE2 b
  rw [ld0_eq, hb, ne0] at e1 e2
  generalize hg : grpS (hval b 32 0) = g at e1 e2 ⊢
  cases hz : decide (g = 0) with
  | false =>
    rw [hz] at e1
    exact pure_rv (pure_of_out EL1 at_suite_PutElement c_putE (N := 5) (gs := [(8, true)]) e1) (putE_rv1 b _)
  | true =>
    rw [hz] at e2
    rw [of_decide_eq_true hz]
    exact pure_rv (pure_of_out EL1 at_suite_PutElement c_putE (N := 5) (gs := [(8, false)]) e2) (putE_rv2 b _)
theorem r_putEG : TRow prog F_rimeref06_PutElement tPutE := by
  intro args r h
  unfold tPutE at h
  split at h
  case h_2 => simp at h
  rename_i b
  simp only [Option.some.injEq, Prod.mk.injEq] at h
  obtain ⟨hb, rfl⟩ := h
  have e1 := k_putG1 b
  have e2 := k_putG2 b
  rw [ld0_eq, hb, ne0] at e1 e2
  generalize hg : grpS (hval b 32 0) = g at e1 e2 ⊢
  cases hz : decide (g = 0) with
  | false =>
    rw [hz] at e1
    exact pure_rv (pure_of_out EL1 at_rimeref06_PutElement c_putEG (N := 5) (gs := [(9, true)]) e1) (putE_rv1 b _)
  | true =>
    rw [hz] at e2
    rw [of_decide_eq_true hz]
    exact pure_rv (pure_of_out EL1 at_rimeref06_PutElement c_putEG (N := 5) (gs := [(9, false)]) e2) (putE_rv2 b _)
def getS (n : Nat) (w : Int) : Int × Int := if n = 32 then (bif decide (grpS w = 0) then w else 0, grpS w) else (0, 3)
def tGetE : TF := fun args => match args with
  | [.sc (.vints _ .u8 1 n f)] => some (areB (fun j => f j 0) n 0, .tup [b32 (getS n (hval (fun j => f j 0) n 0)).1, .sc (.int .i64 (getS n (hval (fun j => f j 0) n 0)).2)])
  | _ => none
theorem c_getE : fnChk prog el1E f_suite_GetElement = true := by kernel_rfl
theorem c_getEG : fnChk prog el1E f_rimeref06_GetElement = true := by kernel_rfl
def gB (f : Nat → Nat → Int) : Nat → Int := fun j => f j 0
theorem k_getE1 (t : Bool) (n : Nat) (f : Nat → Nat → Int) : outP (apFunc el1E [(8, true)] 5 f_suite_GetElement [.sc (.vints t .u8 1 n f)] []) = some (ckL [((n : Int) != 32) == true], .tup [b32 0, .sc (.int .i64 3)]) := by kernel_rfl
theorem k_getE2 (t : Bool) (f : Nat → Nat → Int) : outP (apFunc el1E [(16, true)] 5 f_suite_GetElement [.sc (.vints t .u8 1 32 f)] []) = some (ckL [areB (gB f) 32 0, (grpS (hval (gB f) 32 0) != 0) == true], .tup [b32 0, .sc (.int .i64 (grpS (hval (gB f) 32 0)))]) := by kernel_rfl
theorem k_getE3 (t : Bool) (f : Nat → Nat → Int) : outP (apFunc el1E [(16, false)] 5 f_suite_GetElement [.sc (.vints t .u8 1 32 f)] []) = some (ckL [areB (gB f) 32 0, (grpS (hval (gB f) 32 0) != 0) == false], .tup [u8s 32 (lf (tabL (gB f) 32 0)), .sc (.int .i64 0)]) := by kernel_rfl
theorem k_getG1 (t : Bool) (n : Nat) (f : Nat → Nat → Int) : outP (apFunc el1E [(8, true)] 5 f_rimeref06_GetElement [.sc (.vints t .u8 1 n f)] []) = some (ckL [((n : Int) != 32) == true], .tup [b32 0, .sc (.int .i64 3)]) := by kernel_rfl
theorem k_getG2 (t : Bool) (f : Nat → Nat → Int) : outP (apFunc el1E [(16, true)] 5 f_rimeref06_GetElement [.sc (.vints t .u8 1 32 f)] []) = some (ckL [areB (gB f) 32 0, (grpS (hval (gB f) 32 0) != 0) == true], .tup [b32 0, .sc (.int .i64 (grpS (hval (gB f) 32 0)))]) := by kernel_rfl
theorem k_getG3 (t : Bool) (f : Nat → Nat → Int) : outP (apFunc el1E [(16, false)] 5 f_rimeref06_GetElement [.sc (.vints t .u8 1 32 f)] []) = some (ckL [areB (gB f) 32 0, (grpS (hval (gB f) 32 0) != 0) == false], .tup [u8s 32 (lf (tabL (gB f) 32 0)), .sc (.int .i64 0)]) := by kernel_rfl
theorem r_getE : TRow prog F_suite_GetElement tGetE := by
  intro args r h
  unfold tGetE at h
  split at h
  case h_2 => simp at h
  rename_i t n f
  simp only [Option.some.injEq, Prod.mk.injEq] at h
  obtain ⟨hb, rfl⟩ := h
  unfold getS
  by_cases hn : n = 32
  · subst hn
    rw [if_pos rfl]
    have e1 := k_getE2 t f
    have e2 := k_getE3 t f
    have hb' : areB (gB f) 32 0 = true := hb
    rw [hb', ne0] at e1 e2
    rw [← byL_self hb'] at e2
    change Pure _ _ _ (.tup [b32 (bif decide (grpS (hval (gB f) 32 0) = 0) then hval (gB f) 32 0 else 0), .sc (.int .i64 (grpS (hval (gB f) 32 0)))])
    generalize hval (gB f) 32 0 = w at e1 e2 ⊢
    cases hz : decide (grpS w = 0) with
    | false => rw [hz] at e1; exact pure_of_out EL1 at_suite_GetElement c_getE (N := 5) (gs := [(16, true)]) e1
    | true =>
      rw [hz] at e2
      rw [of_decide_eq_true hz]
      exact pure_of_out EL1 at_suite_GetElement c_getE (N := 5) (gs := [(16, false)]) e2
  · rw [if_neg hn]
    have e := k_getE1 t n f
    have en : ((n : Int) != 32) = true := by simp; omega
    rw [en] at e
    exact pure_of_out EL1 at_suite_GetElement c_getE (N := 5) (gs := [(8, true)]) e
theorem r_getEG : TRow prog F_rimeref06_GetElement tGetE := by
  intro args r h
  unfold tGetE at h
  split at h
  case h_2 => simp at h
  rename_i t n f
  simp only [Option.some.injEq, Prod.mk.injEq] at h
  obtain ⟨hb, rfl⟩ := h
  unfold getS
  by_cases hn : n = 32
  · subst hn
    rw [if_pos rfl]
    have e1 := k_getG2 t f
    have e2 := k_getG3 t f
    have hb' : areB (gB f) 32 0 = true := hb
    rw [hb', ne0] at e1 e2
    rw [← byL_self hb'] at e2
    change Pure _ _ _ (.tup [b32 (bif decide (grpS (hval (gB f) 32 0) = 0) then hval (gB f) 32 0 else 0), .sc (.int .i64 (grpS (hval (gB f) 32 0)))])
    generalize hval (gB f) 32 0 = w at e1 e2 ⊢
    cases hz : decide (grpS w = 0) with
    | false => rw [hz] at e1; exact pure_of_out EL1 at_rimeref06_GetElement c_getEG (N := 5) (gs := [(16, true)]) e1
    | true =>
      rw [hz] at e2
      rw [of_decide_eq_true hz]
      exact pure_of_out EL1 at_rimeref06_GetElement c_getEG (N := 5) (gs := [(16, false)]) e2
  · rw [if_neg hn]
    have e := k_getG1 t n f
    have en : ((n : Int) != 32) = true := by simp; omega
    rw [en] at e
    exact pure_of_out EL1 at_rimeref06_GetElement c_getEG (N := 5) (gs := [(8, true)]) e
end Go.Proofs.YtapacajpcjcjaaaGreat
namespace Go.Proofs.YtapacajpcjcjaaaGreat
open Go.Proofs.Tryz
open Go Go.AM
def tabH (x : Nat → Option Blk) : Nat → Heap
  | 0 => []
  | n + 1 => tabH x n ++ [x n]
theorem tabH_length (x : Nat → Option Blk) : ∀ n, (tabH x n).length = n
  | 0 => rfl
  | n + 1 => by simp [tabH, tabH_length x n]
theorem tabH_get (x : Nat → Option Blk) : ∀ n i, i < n → (tabH x n)[i]? = some (x i)
  | 0, i, h => by omega
  | n + 1, i, h => by
    by_cases e : i = n
    · subst e
      rw [tabH, List.getElem?_append_right (by rw [tabH_length]; exact Nat.le_refl _), tabH_length, Nat.sub_self]; rfl
    · rw [tabH, List.getElem?_append_left (by rw [tabH_length]; omega)]
      exact tabH_get x n i (by omega)
theorem tabH_take (l : Heap) (n : Nat) (h : n ≤ l.length) : l.take n = tabH (fun i => (l[i]?).getD none) n := by
  refine List.ext_getElem? fun i => ?_
  by_cases hi : i < n
  · rw [tabH_get _ _ _ hi, List.getElem?_take, if_pos hi, List.getElem?_eq_getElem (show i < l.length by omega)]
    rfl
  · rw [List.getElem?_take, if_neg hi, List.getElem?_eq_none (by rw [tabH_length]; omega)]
theorem LRow.dep {P : Program} {fn : Func} {id : Nat} {F : Nat → LF} (g : St → Nat) (h : ∀ p, LRow P fn id (F p)) : LRow P fn id (fun s => F (g s) s) :=
  ⟨fun c hc b hb w0 own0 n0 s s' e σ pr a w Q hF H hQ => (h (g s)).1 c hc b hb w0 own0 n0 s s' e σ pr a w Q hF H hQ, fun s e s' hF i hi => (h (g s)).2 s e s' hF i hi⟩
structure GV where
  q : Nat
  bs : Nat
  x : Nat → Option Blk
  t : Bool
  n : Nat
  f : Nat → Nat → Int
  m : Nat
theorem bls_t {r k : Nat} (h : r < k) : Nat.ble (r + 1) k = true := Nat.ble_eq_true_of_le h
theorem bls_f {r k : Nat} (h : ¬ r < k) : Nat.ble (r + 1) k = false := by
  cases hb : Nat.ble (r + 1) k with
  | false => rfl
  | true => exact absurd (Nat.le_of_ble_eq_true hb) h
def upto (k : Nat) (f g : Nat → Nat → Int) : Nat → Nat → Int := fun r d => bif Nat.ble (r + 1) k then f r d else g r d
theorem upto_lt {k : Nat} {f g : Nat → Nat → Int} {r : Nat} (h : r < k) (d : Nat) : upto k f g r d = f r d := by unfold upto; rw [bls_t h]; rfl
theorem upto_ge {k : Nat} {f g : Nat → Nat → Int} {r : Nat} (h : ¬ r < k) (d : Nat) : upto k f g r d = g r d := by unfold upto; rw [bls_f h]; rfl
def put1 (D : Nat → Nat → Int) (i : Nat) (x : Int) : Nat → Nat → Int := fun r d => bif Nat.beq r i && Nat.beq d 0 then x else D r d
theorem put1_upto {k m : Nat} {f g : Nat → Nat → Int} {x : Int} (hx : x = f k 0) : eqF m 1 (put1 (upto k f g) (0 + ((k : Nat) : Int).toNat) x) (upto (k + 1) f g) = true := eqF_of fun r hr d hd => by
  obtain rfl : d = 0 := by omega
  rw [Int.toNat_natCast, Nat.zero_add]
  unfold put1
  by_cases e : r = k
  · subst e
    rw [upto_lt (Nat.lt_succ_self r), show Nat.beq r r = true from beq_t.2 rfl, hx]; rfl
  · rw [show Nat.beq r k = false from beq_f.2 e]
    show upto k f g r 0 = _
    by_cases h : r < k
    · rw [upto_lt h, upto_lt (by omega)]
    · rw [upto_ge h, upto_ge (by omega)]
def hp1 (s : St) : Nat := s.hp.length - 1
def bookAt (q : Nat) (row : Nat → List Seg) (x : Nat → Option Blk) : Nat → Option Blk := fun i => bif Nat.beq i q then some (.mix 30 1 row) else x i
def bookUp (c0 c1 c2 : Nat → SV) : Nat → List Seg := fun r => bif Nat.beq r 0 then onesS c2 30 0 else bif Nat.beq r 0 then onesS c1 30 0 else onesS c0 30 0
def bkC (l : List SV) : Nat → SV := fun i => l.getD i .unk
def gvM (n : Nat) : Nat := (wr .i64 ((n : Int) + 3)).toNat
theorem gvM_law {n : Nat} (h : n ≤ 1073741824) : wr .i64 ((n : Int) + 3) = ((n + 3 : Nat) : Int) ∧ gvM n = n + 3 := by
  have e : wr .i64 ((n : Int) + 3) = ((n + 3 : Nat) : Int) := by rw [wr_small (by omega) (by omega)]; omega
  exact ⟨e, by unfold gvM; rw [e, Int.toNat_natCast]⟩
theorem same_at {q p : Nat} {row row' : Nat → List Seg} {x : Nat → Option Blk} {a b : Heap} (hr : row' 0 = row 0) (hl : b.length = a.length) (hab : ∀ (id : Nat) (c : Blk), b[id]? = some (some c) → ∃ d, a[id]? = some (some d) ∧ BSame d c) :
    HSame (tabH (bookAt q row x) p ++ a) (tabH (bookAt q row' x) p ++ b) := by
  refine ⟨by simp [tabH_length, hl], fun id c hc => ?_⟩
  by_cases h : id < p
  · rw [List.getElem?_append_left (by rw [tabH_length]; exact h), tabH_get _ _ _ h] at hc ⊢
    unfold bookAt at hc ⊢
    cases hq : Nat.beq id q with
    | true =>
      rw [hq] at hc
      simp only [cond_true, Option.some.injEq] at hc
      subst hc
      refine ⟨_, rfl, rfl, rfl, fun i hi => ?_⟩
      have : i = 0 := Nat.lt_one_iff.1 hi
      subst this
      exact hr
    | false =>
      rw [hq] at hc
      exact ⟨c, hc, BSame.refl c⟩
  · rw [List.getElem?_append_right (by rw [tabH_length]; omega), tabH_length] at hc ⊢
    exact hab _ c hc
theorem same_nil {hp : Heap} {q : Nat} {row : Nat → List Seg} {c : Nat → SV} (hq : hp[q]? = some (some (.mix 30 1 row))) (hr : row 0 = onesS c 30 0) :
    HSame hp (tabH (bookAt q (fun _ => onesS c 30 0) (fun i => (hp[i]?).getD none)) hp.length) := by
  refine ⟨tabH_length _ _, fun id b hb => ?_⟩
  have h : id < hp.length := by
    have := (List.getElem?_eq_some_iff.1 hb).1
    rwa [tabH_length] at this
  rw [tabH_get _ _ _ h] at hb
  unfold bookAt at hb
  cases e : Nat.beq id q with
  | true =>
    rw [e] at hb
    simp only [cond_true, Option.some.injEq] at hb
    subst hb
    rw [beq_t.1 e]
    refine ⟨_, hq, rfl, rfl, fun i hi => ?_⟩
    have : i = 0 := Nat.lt_one_iff.1 hi
    subst this
    exact hr.symm
  | false =>
    rw [e] at hb
    simp only [cond_false, Option.some.injEq] at hb
    refine ⟨b, ?_, BSame.refl b⟩
    cases hx : hp[id]? with
    | none => rw [hx] at hb; simp at hb
    | some y => rw [hx] at hb; simp at hb; rw [hb]
theorem nones_at {hp : Heap} {q : Nat} {row row' : Nat → List Seg} (hq : hp[q]? = some (some (.mix 30 1 row))) {b : Heap} : ∀ (i : Nat), hp[i]? = some none → (tabH (bookAt q row' (fun i => (hp[i]?).getD none)) hp.length ++ b)[i]? = some none := fun i hi => by
  have h := (List.getElem?_eq_some_iff.1 hi).1
  rw [List.getElem?_append_left (by rw [tabH_length]; exact h), tabH_get _ _ _ h]
  unfold bookAt
  have e : Nat.beq i q = false := by
    cases e : Nat.beq i q with
    | false => rfl
    | true => rw [beq_t.1 e, hq] at hi; simp at hi
  rw [e]
  show some ((hp[i]?).getD none) = _
  rw [hi]; rfl
theorem set2_self {i : Nat} {c : Nat → SV} (h1 : c i = .nils) (h2 : c (i + 1) = .nils) : set2 i .nils .nils c = c := by
  funext j; unfold set2
  cases e : Nat.beq j i with
  | true => rw [beq_t.1 e, h1]; rfl
  | false => cases e2 : Nat.beq j (i + 1) with
    | true => rw [beq_t.1 e2, h2]; rfl
    | false => rfl
theorem same_one {sz : Nat} {row row' : Nat → List Seg} (h : row' 0 = row 0) : BSame (.mix sz 1 row) (.mix sz 1 row') := ⟨rfl, rfl, fun i hi => by
  have hi : i < 1 := hi
  obtain rfl : i = 0 := by omega
  exact h⟩
theorem same_five {a0 a1 a2 a3 a4 b0 b1 b2 b3 b4 : Blk} (h0 : BSame a0 b0) (h1 : BSame a1 b1) (h2 : BSame a2 b2) (h3 : BSame a3 b3) (h4 : BSame a4 b4) :
    ∀ (id : Nat) (c : Blk), ([some b0, some b1, some b2, some b3, some b4] : Heap)[id]? = some (some c) → ∃ d, ([some a0, some a1, some a2, some a3, some a4] : Heap)[id]? = some (some d) ∧ BSame d c := by
  intro id c hc
  match id, hc with
  | 0, hc => simp only [List.getElem?_cons_zero, Option.some.injEq] at hc; subst hc; exact ⟨_, rfl, h0⟩
  | 1, hc => simp only [List.getElem?_cons_succ, List.getElem?_cons_zero, Option.some.injEq] at hc; subst hc; exact ⟨_, rfl, h1⟩
  | 2, hc => simp only [List.getElem?_cons_succ, List.getElem?_cons_zero, Option.some.injEq] at hc; subst hc; exact ⟨_, rfl, h2⟩
  | 3, hc => simp only [List.getElem?_cons_succ, List.getElem?_cons_zero, Option.some.injEq] at hc; subst hc; exact ⟨_, rfl, h3⟩
  | 4, hc => simp only [List.getElem?_cons_succ, List.getElem?_cons_zero, Option.some.injEq] at hc; subst hc; exact ⟨_, rfl, h4⟩
  | k + 5, hc => simp at hc
def isNils : SV → Bool | .nils => true | _ => false
theorem isNils_t {v : SV} (h : isNils v = true) : v = .nils := by cases v <;> simp [isNils] at h; rfl
end Go.Proofs.YtapacajpcjcjaaaGreat
namespace Go.Proofs.YtapacajpcjcjaaaGreat
open Go.Proofs.Tryz
open Go Go.AM
def mkBytes (i k : Int) : Nat → Int := fun _ => wr .u8 (wr .i64 (wr .i64 (wr .i64 (i * 31) + wr .i64 (k * 7)) + 5))
def tMarkBytes : TF := fun args => match args with
  | [.sc (.int .i64 i), .sc (.int .i64 k)] => some (true, .sc (.int .u8 (mkBytes i k 0)))
  | _ => none
theorem c_markBytes : fnChk prog pE f_rimeplain_markBytes = true := by kernel_rfl
theorem r_markBytes : TRow prog F_rimeplain_markBytes tMarkBytes := by
  intro args r h
  unfold tMarkBytes at h
  split at h
  case h_2 => simp at h
  rename_i i k
  simp only [Option.some.injEq, Prod.mk.injEq, true_and] at h
  subst h
  exact pure_of_out L0 at_rimeplain_markBytes c_markBytes (N := 5) (gs := []) (by kernel_rfl)
def tCopyBytes : TF := fun args => match args with
  | [.sc (.vints _ .u8 1 n f)] => some (fits (0 + n) 1, .sc (.vints true .u8 1 n f))
  | _ => none
theorem c_copyBytes : fnChk prog pE f_rimeplain_CopyBytes = true := by kernel_rfl
theorem k_copyBytes (t : Bool) (n : Nat) (f : Nat → Nat → Int) : outP (apFunc pE [] 5 f_rimeplain_CopyBytes [.sc (.vints t .u8 1 n f)] []) = some (ckL [fits (0 + n) 1 && true], .sc (.vints true .u8 1 (0 + n) (fun j d => f (0 + j) (0 + d)))) := by kernel_rfl
theorem r_copyBytes : TRow prog F_rimeplain_CopyBytes tCopyBytes := by
  intro args r h
  unfold tCopyBytes at h
  split at h
  case h_2 => simp at h
  rename_i t n f
  simp only [Option.some.injEq, Prod.mk.injEq] at h
  obtain ⟨hb, rfl⟩ := h
  refine pure_ints (pure_of_out L0 at_rimeplain_CopyBytes c_copyBytes (N := 5) (gs := []) ?_) (Nat.zero_add n) (fun r _ d _ => by show f (0 + r) (0 + d) = f r d; rw [Nat.zero_add, Nat.zero_add])
  rw [k_copyBytes, hb]; rfl
def gsBytes : List (Nat × TF) := [(F_rimeplain_CopyBytes, tCopyBytes), (F_rimeplain_markBytes, tMarkBytes)]
theorem GBytes : LibOK prog tt gsBytes [] := (L0.addT r_markBytes).addT r_copyBytes
noncomputable abbrev gEBytes : EnvP := envP tt gsBytes []
noncomputable def gBBytes0 : Code := match f_rimeplain_Given_Bytes.body with | some c => (match bodiesOf 0 c with | [.loop b] => b | _ => .skip) | none => .skip
noncomputable def gBBytes2 : Code := match f_rimeplain_Given_Bytes.body with | some c => (match bodiesOf 2 c with | [.loop b] => b | _ => .skip) | none => .skip
def gTBytes (p : Nat) (a : GV) : List (Nat × AV) := [(0, .sc (.ptr a.q a.bs 0 0 a.bs)), (1, .sc (.vints a.t .u8 1 a.n a.f)), (5, .sc (.slice p 1 0 0 1 a.m))]
def gHBytes (p : Nat) (a : GV) (D : Nat → Nat → Int) : Heap := tabH a.x p ++ [some (.ints .u8 1 a.m D)]
def g0VBytes (p : Nat) (a : GV) (v : Int) (D : Nat → Nat → Int) : St := ⟨tmOf ((6, .sc (.int .i64 v)) :: gTBytes p a) 61 0, gHBytes p a D⟩
def g2VBytes (p : Nat) (a : GV) (v : Int) (D : Nat → Nat → Int) : St := ⟨tmOf ((7, .sc (.int .i64 v)) :: gTBytes p a) 61 0, gHBytes p a D⟩
def gXBytes (p : Nat) (a : GV) (D : Nat → Nat → Int) : St := ⟨tmOf (gTBytes p a) 61 0, gHBytes p a D⟩
theorem g0rBytes : ∀ (p : Nat), p < 8 → ∀ (a : GV) (v v' : Int) (D D' : Nat → Nat → Int), roundP gEBytes [(15, true)] 5 p gBBytes0 (g0VBytes p a v D) .normal (g0VBytes p a v' D') = some (ckL [decide (v < (a.m : Int)) == true, inR v a.m] && stBp p (g0VBytes p a (wr .i64 (v + 1)) (put1 D (0 + v.toNat) (mkBytes 987 v 0))) (g0VBytes p a v' D'), (tabH a.x p, p + 1))
  | 0, _ => by intros; kernel_rfl
  | 1, _ => by intros; kernel_rfl
  | 2, _ => by intros; kernel_rfl
  | 3, _ => by intros; kernel_rfl
  | 4, _ => by intros; kernel_rfl
  | 5, _ => by intros; kernel_rfl
  | 6, _ => by intros; kernel_rfl
  | 7, _ => by intros; kernel_rfl
  | p + 8, h => by omega
theorem g0sBytes : ∀ (p : Nat), p < 8 → ∀ (a : GV) (v : Int) (D : Nat → Nat → Int), roundP gEBytes [(15, false)] 5 p gBBytes0 (g0VBytes p a v D) (.exit 0) (gXBytes p a D) = some (ckL [decide (v < (a.m : Int)) == false] && stBp p (gXBytes p a D) (gXBytes p a D), (tabH a.x p, p + 1))
  | 0, _ => by intros; kernel_rfl
  | 1, _ => by intros; kernel_rfl
  | 2, _ => by intros; kernel_rfl
  | 3, _ => by intros; kernel_rfl
  | 4, _ => by intros; kernel_rfl
  | 5, _ => by intros; kernel_rfl
  | 6, _ => by intros; kernel_rfl
  | 7, _ => by intros; kernel_rfl
  | p + 8, h => by omega
theorem g2rBytes : ∀ (p : Nat), p < 8 → ∀ (a : GV) (v v' : Int) (D D' : Nat → Nat → Int), roundP gEBytes [(26, true)] 5 p gBBytes2 (g2VBytes p a v D) .normal (g2VBytes p a v' D') = some (ckL [decide (v < (a.n : Int)) == true, inR v a.n, inR v a.m] && stBp p (g2VBytes p a (wr .i64 (v + 1)) (put1 D (0 + v.toNat) (a.f v.toNat 0))) (g2VBytes p a v' D'), (tabH a.x p, p + 1))
  | 0, _ => by intros; kernel_rfl
  | 1, _ => by intros; kernel_rfl
  | 2, _ => by intros; kernel_rfl
  | 3, _ => by intros; kernel_rfl
  | 4, _ => by intros; kernel_rfl
  | 5, _ => by intros; kernel_rfl
  | 6, _ => by intros; kernel_rfl
  | 7, _ => by intros; kernel_rfl
  | p + 8, h => by omega
theorem g2sBytes : ∀ (p : Nat), p < 8 → ∀ (a : GV) (v : Int) (D : Nat → Nat → Int), roundP gEBytes [(26, false)] 5 p gBBytes2 (g2VBytes p a v D) (.exit 2) (gXBytes p a D) = some (ckL [decide (v < (a.n : Int)) == false] && stBp p (gXBytes p a D) (gXBytes p a D), (tabH a.x p, p + 1))
  | 0, _ => by intros; kernel_rfl
  | 1, _ => by intros; kernel_rfl
  | 2, _ => by intros; kernel_rfl
  | 3, _ => by intros; kernel_rfl
  | 4, _ => by intros; kernel_rfl
  | 5, _ => by intros; kernel_rfl
  | 6, _ => by intros; kernel_rfl
  | 7, _ => by intros; kernel_rfl
  | p + 8, h => by omega
theorem g0eBytes (p : Nat) (a : GV) (hq : a.q ≤ p) (v : Int) {D D' : Nat → Nat → Int} (h : eqF a.m 1 D D' = true) : stBp p (g0VBytes p a v D) (g0VBytes p a v D') = true :=
  stBp_tm (by simp [okT, okA, okV, gTBytes, gHBytes, tmOf, tabH_length]; omega) (by simp only [gHBytes, List.drop_left' (tabH_length _ _)]; simp [hpB, blkB, kEq_refl, nbeq_refl, h])
theorem g2eBytes (p : Nat) (a : GV) (hq : a.q ≤ p) (v : Int) {D D' : Nat → Nat → Int} (h : eqF a.m 1 D D' = true) : stBp p (g2VBytes p a v D) (g2VBytes p a v D') = true :=
  stBp_tm (by simp [okT, okA, okV, gTBytes, gHBytes, tmOf, tabH_length]; omega) (by simp only [gHBytes, List.drop_left' (tabH_length _ _)]; simp [hpB, blkB, kEq_refl, nbeq_refl, h])
theorem gXeBytes (p : Nat) (a : GV) (hq : a.q ≤ p) (D : Nat → Nat → Int) : stBp p (gXBytes p a D) (gXBytes p a D) = true :=
  stBp_tm (by simp [okT, okA, okV, gTBytes, gHBytes, tmOf, tabH_length]; omega) (by simp only [gHBytes, List.drop_left' (tabH_length _ _)]; simp [hpB, blkB, kEq_refl, nbeq_refl, eqF_refl])
def gMBytes : Nat → Nat → Int := fun r d => mkBytes 987 (r : Int) d
def gDBytes (k : Nat) : Nat → Nat → Int := upto k gMBytes (fun _ _ => 0)
def gGBytes (a : GV) (k : Nat) : Nat → Nat → Int := upto k a.f gMBytes
def gRdBytes (p : Nat) (s : St) : Option GV := match getA s.tm 0, getA s.tm 1, s.hp[p]? with
  | .sc (.ptr q bs _ _ _), .sc (.vints t _ _ n f), some (some (.ints _ _ m _)) => (match Nat.beq s.hp.length (p + 1) with | true => some ⟨q, bs, fun i => (s.hp[i]?).getD none, t, n, f, m⟩ | false => none)
  | _, _, _ => none
def g0FBytes (p : Nat) : LF := AM.famP p (gRdBytes p) (fun a k => g0VBytes p a (k : Int) (gDBytes k)) (fun a => big a.m && (Nat.ble a.q p && Nat.ble (p + 1) 8)) (fun _ => .normal) (fun a => gXBytes p a (gDBytes a.m))
def g2FBytes (p : Nat) : LF := AM.famP p (gRdBytes p) (fun a k => g2VBytes p a (k : Int) (gGBytes a k)) (fun a => big a.m && (Nat.ble a.n a.m && (Nat.ble a.q p && Nat.ble (p + 1) 8))) (fun _ => .normal) (fun a => gXBytes p a (gGBytes a a.n))
theorem g0bBytes : f_rimeplain_Given_Bytes.body.map (bodiesOf 0) = some [.loop gBBytes0] := by kernel_rfl
theorem g2bBytes : f_rimeplain_Given_Bytes.body.map (bodiesOf 2) = some [.loop gBBytes2] := by kernel_rfl
theorem g0kBytes : codeOK prog gEBytes.env.isW gBBytes0 = true := by kernel_rfl
theorem g2kBytes : codeOK prog gEBytes.env.isW gBBytes2 = true := by kernel_rfl
theorem gRdOkBytes {p : Nat} {s : St} {a : GV} (h : gRdBytes p s = some a) (D D' : Nat → Nat → Int) : (gHBytes p a D).length = s.hp.length ∧ s.hp.take p = (gHBytes p a D).take p ∧ ∀ (i : Nat), s.hp[i]? = some none → (gHBytes p a D')[i]? = some none := by
  unfold gRdBytes at h
  split at h
  case h_2 => simp at h
  rename_i hb
  split at h
  case h_2 => simp at h
  rename_i hl
  simp only [Option.some.injEq] at h
  have hl := beq_t.1 hl
  subst h
  refine ⟨by simp [gHBytes, tabH_length, hl], ?_, fun i hi => ?_⟩
  · rw [gHBytes, List.take_left' (tabH_length _ _)]
    exact tabH_take _ _ (by omega)
  · have hip : i < p := by
      have h1 := (List.getElem?_eq_some_iff.1 hi).1
      by_cases e : i = p
      · subst e; rw [hb] at hi; simp at hi
      · omega
    rw [gHBytes, List.getElem?_append_left (by rw [tabH_length]; exact hip), tabH_get _ _ _ hip]
    show some ((s.hp[i]?).getD none) = some none
    rw [hi]; rfl
theorem l_g0Bytes (p : Nat) : LRow prog f_rimeplain_Given_Bytes 0 (g0FBytes p) := by
  refine LRow.famP (N := 5) (GBytes.env []) mix (fun a => a.m) (body_of g0bBytes) g0kBytes (fun w0 own0 => accOK_none (fun id => rfl) gBBytes0) (fun s a h => gRdOkBytes h _ _) ?_ ?_
  · intro a ha k hk
    simp only [Bool.and_eq_true] at ha
    have hb : a.m ≤ 4611686018427387904 := Nat.le_of_ble_eq_true ha.1
    have hq := Nat.le_of_ble_eq_true ha.2.1
    have hp : p < 8 := Nat.le_of_ble_eq_true ha.2.2
    have ew : wr .i64 ((k : Int) + 1) = ((k + 1 : Nat) : Int) := by rw [wr_small (by omega) (by omega)]; rfl
    refine roundP_spec (g0rBytes p hp a (k : Int) ((k + 1 : Nat) : Int) (gDBytes k) (gDBytes (k + 1))) ?_ (by show _ = (gHBytes p a _).take p; rw [gHBytes, List.take_left' (tabH_length _ _)]) (by show _ = (gHBytes p a _).length; simp [gHBytes, tabH_length])
    have hu : eqF a.m 1 (put1 (gDBytes k) (0 + ((k : Nat) : Int).toNat) (mkBytes 987 (k : Int) 0)) (gDBytes (k + 1)) = true := put1_upto rfl
    rw [ew, g0eBytes p a hq _ hu, inR_nat hk]
    simp [ckL]; omega
  · intro a ha
    simp only [Bool.and_eq_true] at ha
    have hq := Nat.le_of_ble_eq_true ha.2.1
    have hp : p < 8 := Nat.le_of_ble_eq_true ha.2.2
    obtain ⟨s1, h1, h2⟩ := roundP_spec (g0sBytes p hp a (a.m : Int) (gDBytes a.m)) (by rw [gXeBytes p a hq]; simp [ckL]) (by show _ = (gHBytes p a _).take p; rw [gHBytes, List.take_left' (tabH_length _ _)]) (by show _ = (gHBytes p a _).length; simp [gHBytes, tabH_length])
    exact ⟨_, s1, h1, rfl, h2⟩
theorem l_g2Bytes (p : Nat) : LRow prog f_rimeplain_Given_Bytes 2 (g2FBytes p) := by
  refine LRow.famP (N := 5) (GBytes.env []) mix (fun a => a.n) (body_of g2bBytes) g2kBytes (fun w0 own0 => accOK_none (fun id => rfl) gBBytes2) (fun s a h => gRdOkBytes h _ _) ?_ ?_
  · intro a ha k hk
    simp only [Bool.and_eq_true] at ha
    have hb : a.m ≤ 4611686018427387904 := Nat.le_of_ble_eq_true ha.1
    have hnm := Nat.le_of_ble_eq_true ha.2.1
    have hq := Nat.le_of_ble_eq_true ha.2.2.1
    have hp : p < 8 := Nat.le_of_ble_eq_true ha.2.2.2
    have ew : wr .i64 ((k : Int) + 1) = ((k + 1 : Nat) : Int) := by rw [wr_small (by omega) (by omega)]; rfl
    refine roundP_spec (g2rBytes p hp a (k : Int) ((k + 1 : Nat) : Int) (gGBytes a k) (gGBytes a (k + 1))) ?_ (by show _ = (gHBytes p a _).take p; rw [gHBytes, List.take_left' (tabH_length _ _)]) (by show _ = (gHBytes p a _).length; simp [gHBytes, tabH_length])
    have hu : eqF a.m 1 (put1 (gGBytes a k) (0 + ((k : Nat) : Int).toNat) (a.f ((k : Nat) : Int).toNat 0)) (gGBytes a (k + 1)) = true := put1_upto (by rw [Int.toNat_natCast])
    rw [ew, g2eBytes p a hq _ hu, inR_nat hk, inR_nat (show k < a.m by omega)]
    simp [ckL]; omega
  · intro a ha
    simp only [Bool.and_eq_true] at ha
    have hq := Nat.le_of_ble_eq_true ha.2.2.1
    have hp : p < 8 := Nat.le_of_ble_eq_true ha.2.2.2
    obtain ⟨s1, h1, h2⟩ := roundP_spec (g2sBytes p hp a (a.n : Int) (gGBytes a a.n)) (by rw [gXeBytes p a hq]; simp [ckL]) (by show _ = (gHBytes p a _).take p; rw [gHBytes, List.take_left' (tabH_length _ _)]) (by show _ = (gHBytes p a _).length; simp [gHBytes, tabH_length])
    exact ⟨_, s1, h1, rfl, h2⟩
noncomputable def gLBytes : List (Nat × LF) := [(2, fun s => g2FBytes (hp1 s) s), (0, fun s => g0FBytes (hp1 s) s)]
theorem GLBytes : LsOK prog f_rimeplain_Given_Bytes gLBytes := (LsOK.nil.cons (LRow.dep hp1 l_g0Bytes)).cons (LRow.dep hp1 l_g2Bytes)
theorem c_givenBytes : fnChk prog (envL tt gsBytes [] gLBytes) f_rimeplain_Given_Bytes = true := by kernel_rfl
def gwFBytes (n : Nat) (f : Nat → Nat → Int) : Nat → Nat → Int := upto n f gMBytes
def gwNBytes (p m n : Nat) (f : Nat → Nat → Int) : Heap := [some (.ints .u8 1 m (gwFBytes n f)), some (.mix 1 1 (fun r => [[.one (.slice p 1 0 0 1 m)]].getD r [])), some (.mix 1 1 (fun r => cutS ([[.one (.slice p 1 0 0 1 m)]].getD (0 + r) []) 0 1)),
  some (.mix 1 1 (fun r => [[.one (.vints true .u8 1 m (fun j d => gwFBytes n f (0 + j) (0 + d)))]].getD r [])), some (.mix 1 1 (fun r => cutS ([[.one (.vints true .u8 1 m (fun j d => gwFBytes n f (0 + j) (0 + d)))]].getD (0 + r) []) 0 1))]
def gwBBytes (p m n : Nat) (f : Nat → Nat → Int) : Heap := [some (.ints .u8 1 m (gwFBytes n f)), some (.mix 1 1 (fun _ => [.one (.slice p 1 0 0 1 m)])), some (.mix 1 1 (fun _ => [.one (.slice p 1 0 0 1 m)])),
  some (.mix 1 1 (fun _ => [.one (.vints true .u8 1 m (gwFBytes n f))])), some (.mix 1 1 (fun _ => [.one (.vints true .u8 1 m (gwFBytes n f))]))]
def gwVBytes (q p : Nat) (row : Nat → List Seg) (x : Nat → Option Blk) (t : Bool) (n : Nat) (f : Nat → Nat → Int) : GV := ⟨q, 30, bookAt q row x, t, n, f, gvM n⟩
def gwCkBytes (q p : Nat) (row : Nat → List Seg) (x : Nat → Option Blk) (t : Bool) (n : Nat) (f : Nat → Nat → Int) : Bool := ckL [inB (wr .i64 ((n : Int) + 3)) (wr .i64 ((n : Int) + 3)) && fits (gvM n) 1,
  (big (gvM n) && (Nat.ble q p && Nat.ble (p + 1) 8)) && stBp p (g0VBytes p (gwVBytes q p row x t n f) 0 (fun _ _ => 0)) (g0VBytes p (gwVBytes q p row x t n f) ((0 : Nat) : Int) (gDBytes 0)),
  (big (gvM n) && (Nat.ble n (gvM n) && (Nat.ble q p && Nat.ble (p + 1) 8))) && stBp p (g2VBytes p (gwVBytes q p row x t n f) 0 (gDBytes (gvM n))) (g2VBytes p (gwVBytes q p row x t n f) ((0 : Nat) : Int) (gGBytes (gwVBytes q p row x t n f) 0)),
  fits (0 + 1) 24 && true, fits (0 + gvM n) 1, fits (0 + 1) 24 && true, inB (n : Int) (gvM n)]
set_option maxRecDepth 100000 in
theorem gwKBytes : ∀ (p q : Nat), q < p → p < 8 → ∀ (c : Nat → SV) (x : Nat → Option Blk) (n : Nat) (t : Bool) (f : Nat → Nat → Int),
    apFunc (envL tt gsBytes [] gLBytes) [] 5 f_rimeplain_Given_Bytes [.sc (.ptr q 30 0 0 30), .sc (.vints t .u8 1 n f)] (tabH (bookAt q (fun _ => onesS (set2 0 .nils .nils c) 30 0) x) p) =
    some (gwCkBytes q p (fun _ => onesS (set2 0 .nils .nils c) 30 0) x t n f, (.sc (.slice p 1 0 0 1 ((n : Int).toNat - 0)),
      tabH (bookAt q (bookUp (set2 0 .nils .nils c) (set2 0 (.slice (p + 2) 1 0 0 1 1) .nils c) (set2 0 (.slice (p + 2) 1 0 0 1 1) (.slice (p + 4) 1 0 0 1 1) c)) x) p ++ gwNBytes p (gvM n) n f))
  | 0, q, h, _ => by omega
  | 1, 0, _, _ => by intros; kernel_rfl
  | 2, 0, _, _ => by intros; kernel_rfl
  | 2, 1, _, _ => by intros; kernel_rfl
  | 3, 0, _, _ => by intros; kernel_rfl
  | 3, 1, _, _ => by intros; kernel_rfl
  | 3, 2, _, _ => by intros; kernel_rfl
  | 4, 0, _, _ => by intros; kernel_rfl
  | 4, 1, _, _ => by intros; kernel_rfl
  | 4, 2, _, _ => by intros; kernel_rfl
  | 4, 3, _, _ => by intros; kernel_rfl
  | 5, 0, _, _ => by intros; kernel_rfl
  | 5, 1, _, _ => by intros; kernel_rfl
  | 5, 2, _, _ => by intros; kernel_rfl
  | 5, 3, _, _ => by intros; kernel_rfl
  | 5, 4, _, _ => by intros; kernel_rfl
  | 6, 0, _, _ => by intros; kernel_rfl
  | 6, 1, _, _ => by intros; kernel_rfl
  | 6, 2, _, _ => by intros; kernel_rfl
  | 6, 3, _, _ => by intros; kernel_rfl
  | 6, 4, _, _ => by intros; kernel_rfl
  | 6, 5, _, _ => by intros; kernel_rfl
  | 7, 0, _, _ => by intros; kernel_rfl
  | 7, 1, _, _ => by intros; kernel_rfl
  | 7, 2, _, _ => by intros; kernel_rfl
  | 7, 3, _, _ => by intros; kernel_rfl
  | 7, 4, _, _ => by intros; kernel_rfl
  | 7, 5, _, _ => by intros; kernel_rfl
  | 7, 6, _, _ => by intros; kernel_rfl
  | 1, q + 1, h, _ => by omega
  | 2, q + 2, h, _ => by omega
  | 3, q + 3, h, _ => by omega
  | 4, q + 4, h, _ => by omega
  | 5, q + 5, h, _ => by omega
  | 6, q + 6, h, _ => by omega
  | 7, q + 7, h, _ => by omega
  | p + 8, _, _, h => by omega
theorem gwCkTBytes {q p n : Nat} (hq : q < p) (hp : p < 8) (hn : n ≤ 1073741824) (row : Nat → List Seg) (x : Nat → Option Blk) (t : Bool) (f : Nat → Nat → Int) : gwCkBytes q p row x t n f = true := by
  obtain ⟨e1, e2⟩ := gvM_law hn
  have hq' : Nat.ble q p = true := Nat.ble_eq_true_of_le (by omega)
  have hp' : Nat.ble (p + 1) 8 = true := Nat.ble_eq_true_of_le (by omega)
  have b0 : stBp p (g0VBytes p (gwVBytes q p row x t n f) 0 (fun _ _ => 0)) (g0VBytes p (gwVBytes q p row x t n f) ((0 : Nat) : Int) (gDBytes 0)) = true := g0eBytes p _ (Nat.le_of_lt hq) _ (eqF_of fun r _ d _ => by unfold gDBytes; rw [upto_ge (by omega)])
  have b2 : stBp p (g2VBytes p (gwVBytes q p row x t n f) 0 (gDBytes (gvM n))) (g2VBytes p (gwVBytes q p row x t n f) ((0 : Nat) : Int) (gGBytes (gwVBytes q p row x t n f) 0)) = true := g2eBytes p _ (Nat.le_of_lt hq) _ (eqF_of fun r hr d _ => by
    have hr : r < gvM n := hr
    unfold gDBytes gGBytes; rw [upto_lt hr, upto_ge (by omega)])
  unfold gwCkBytes
  rw [b0, b2, e1, e2, hq', hp']
  have f1 : fits (n + 3) 1 = true := by simp [fits]; omega
  have f2 : fits (0 + (n + 3)) 1 = true := by rw [Nat.zero_add]; exact f1
  have f3 : inB (((n + 3 : Nat)) : Int) ((n + 3 : Nat) : Int) = true := by simp [inB]; omega
  have f4 : inB (n : Int) ((n + 3 : Nat) : Int) = true := by simp [inB]; omega
  have bigM : big (n + 3) = true := Nat.ble_eq_true_of_le (by omega)
  rw [f1, f2, f3, f4, bigM, show Nat.ble n (n + 3) = true from Nat.ble_eq_true_of_le (by omega)]; rfl
def wgBytes : WF := fun args hp => match args with
  | [.sc (.ptr q bs i c e), .sc (.vints _ .u8 1 n f)] => (match hp[q]? with
    | some (some (.mix sz rs row)) => (match unones (row 0) with
      | some l => (match (Nat.beq bs 30 && (Nat.beq i 0 && (Nat.beq c 0 && (Nat.beq e 30 && (Nat.beq sz 30 && Nat.beq rs 1))))) && (Nat.beq l.length 30 && (isNils (bkC l 0) && (isNils (bkC l (0 + 1)) && Nat.ble (hp.length + 1) 8))) with
        | true => some (Nat.ble n 1073741824, (.sc (.slice hp.length 1 0 0 1 n), tabH (bookAt q (fun _ => onesS (set2 0 (.slice (hp.length + 2) 1 0 0 1 1) (.slice (hp.length + 4) 1 0 0 1 1) (bkC l)) 30 0) (fun i => (hp[i]?).getD none)) hp.length ++ gwBBytes hp.length (n + 3) n f))
        | false => none)
      | none => none)
    | _ => none)
  | _ => none
theorem r_wgBytes : WRow prog F_rimeplain_Given_Bytes wgBytes := by
  intro args hp r hp' h
  unfold wgBytes at h
  split at h
  case h_2 => simp at h
  rename_i q bs i c e t n f
  split at h
  case h_2 => simp at h
  rename_i sz rs row hb
  split at h
  case h_2 => simp at h
  rename_i l hl
  split at h
  case h_2 => simp at h
  rename_i hc
  simp only [Bool.and_eq_true, beq_t, ble_t] at hc
  obtain ⟨⟨rfl, rfl, rfl, rfl, rfl, rfl⟩, l30, n1, n2, h8⟩ := hc
  simp only [Option.some.injEq, Prod.mk.injEq, ble_t] at h
  obtain ⟨hn, rfl, rfl⟩ := h
  have hq : q < hp.length := (List.getElem?_eq_some_iff.1 hb).1
  have hrow : row 0 = onesS (bkC l) 30 0 := by
    rw [← l30]
    exact unones_spec _ l hl 0 (bkC l) fun i _ => by rw [Nat.zero_add]; rfl
  have hself := set2_self (isNils_t n1) (isNils_t n2)
  have hK := gwKBytes hp.length q hq (by omega) (bkC l) (fun i => (hp[i]?).getD none) n t f
  rw [hself] at hK
  obtain ⟨h1, _⟩ := eff_of_apL GBytes at_rimeplain_Given_Bytes GLBytes c_givenBytes hK (gwCkTBytes hq (by omega) hn _ _ t f) rfl
  rw [Int.toNat_natCast, Nat.sub_zero, (gvM_law hn).2] at h1
  refine ⟨eff_same h1 (same_nil hb hrow) (same_at rfl rfl (same_five (BSame.refl _) (same_one rfl) (same_one rfl) (same_one ?_) (same_one ?_))), nones_at hb⟩
  · show [Seg.one (.vints true _ _ _ (gwFBytes n f))] = [Seg.one (.vints true _ _ _ (fun j d => gwFBytes n f (0 + j) (0 + d)))]
    simp only [Nat.zero_add]
  · show [Seg.one (.vints true _ _ _ (gwFBytes n f))] = [Seg.one (.vints true _ _ _ (fun j d => gwFBytes n f (0 + j) (0 + d)))]
    simp only [Nat.zero_add]
end Go.Proofs.YtapacajpcjcjaaaGreat
namespace Go.Proofs.YtapacajpcjcjaaaGreat
open Go.Proofs.Tryz
open Go Go.AM
noncomputable def td0 : List (Nat × TF) := (F_edwards_fe_bytes, cT (envP tt tc1 []) 600 f_edwards_fe_bytes) :: tc1
theorem O0 : LibOK prog tt td0 [] := N3.cT at_edwards_fe_bytes 600 (by kernel_rfl)
noncomputable def td1 : List (Nat × TF) := (F_edwards_fe_odd, cT (envP tt td0 []) 600 f_edwards_fe_odd) :: td0
theorem O1 : LibOK prog tt td1 [] := O0.cT at_edwards_fe_odd 600 (by kernel_rfl)
noncomputable def td2 : List (Nat × TF) := (F_edwards_fe_same, cT (envP tt td1 []) 600 f_edwards_fe_same) :: td1
theorem O2 : LibOK prog tt td2 [] := O1.cT at_edwards_fe_same 600 (by kernel_rfl)
noncomputable def td3 : List (Nat × TF) := (F_edwards_load, cT (envP tt td2 []) 600 f_edwards_load) :: td2
theorem O3 : LibOK prog tt td3 [] := O2.cT at_edwards_load 600 (by kernel_rfl)
noncomputable def td4 : List (Nat × TF) := (F_edwards_rootOfMinus1, cT (envP tt td3 []) 600 f_edwards_rootOfMinus1) :: td3
theorem O4 : LibOK prog tt td4 [] := O3.cT at_edwards_rootOfMinus1 600 (by kernel_rfl)
noncomputable def td5 : List (Nat × TF) := (F_edwards_fe_squares, cT (envP tt td4 []) 600 f_edwards_fe_squares) :: td4
theorem O5 : LibOK prog tt td5 [] := O4.cT at_edwards_fe_squares 600 (by kernel_rfl)
noncomputable def td6 : List (Nat × TF) := (F_edwards_fe_chain, cT (envP tt td5 []) 600 f_edwards_fe_chain) :: td5
theorem O6 : LibOK prog tt td6 [] := O5.cT at_edwards_fe_chain 600 (by kernel_rfl)
noncomputable def td7 : List (Nat × TF) := (F_edwards_fe_inverse, cT (envP tt td6 []) 600 f_edwards_fe_inverse) :: td6
theorem O7 : LibOK prog tt td7 [] := O6.cT at_edwards_fe_inverse 600 (by kernel_rfl)
noncomputable def td8 : List (Nat × TF) := (F_edwards_fe_eighth, cT (envP tt td7 []) 600 f_edwards_fe_eighth) :: td7
theorem O8 : LibOK prog tt td8 [] := O7.cT at_edwards_fe_eighth 600 (by kernel_rfl)
noncomputable def td9 : List (Nat × TF) := (F_edwards_root, cT (envP tt td8 []) 600 f_edwards_root) :: td8
theorem O9 : LibOK prog tt td9 [] := O8.cT at_edwards_root 600 (by kernel_rfl)
noncomputable def td10 : List (Nat × TF) := (F_edwards_identity, cT (envP tt td9 []) 600 f_edwards_identity) :: td9
theorem O10 : LibOK prog tt td10 [] := O9.cT at_edwards_identity 600 (by kernel_rfl)
noncomputable def td11 : List (Nat × TF) := (F_edwards_base, cT (envP tt td10 []) 600 f_edwards_base) :: td10
theorem O11 : LibOK prog tt td11 [] := O10.cT at_edwards_base 600 (by kernel_rfl)
noncomputable def td12 : List (Nat × TF) := (F_edwards_order, cT (envP tt td11 []) 600 f_edwards_order) :: td11
theorem O12 : LibOK prog tt td12 [] := O11.cT at_edwards_order 600 (by kernel_rfl)
noncomputable def td13 : List (Nat × TF) := (F_edwards_point_isIdentity, cT (envP tt td12 []) 600 f_edwards_point_isIdentity) :: td12
theorem O13 : LibOK prog tt td13 [] := O12.cT at_edwards_point_isIdentity 600 (by kernel_rfl)
noncomputable def td14 : List (Nat × TF) := (F_edwards_point_xy, cT (envP tt td13 []) 600 f_edwards_point_xy) :: td13
theorem O14 : LibOK prog tt td14 [] := O13.cT at_edwards_point_xy 600 (by kernel_rfl)
noncomputable def td15 : List (Nat × TF) := (F_edwards_point_form, cT (envP tt td14 []) 600 f_edwards_point_form) :: td14
theorem O15 : LibOK prog tt td15 [] := O14.cT at_edwards_point_form 600 (by kernel_rfl)
noncomputable def td16 : List (Nat × TF) := (F_edwards_open, cT (envP tt td15 []) 600 f_edwards_open) :: td15
theorem O16 : LibOK prog tt td16 [] := O15.cT at_edwards_open 600 (by kernel_rfl)
noncomputable def td17 : List (Nat × TF) := (F_edwards_Check, cT (envP tt td16 []) 600 f_edwards_Check) :: td16
theorem O17 : LibOK prog tt td17 [] := O16.cT at_edwards_Check 600 (by kernel_rfl)
noncomputable def td18 : List (Nat × TF) := (F_edwards_Identity, cT (envP tt td17 []) 600 f_edwards_Identity) :: td17
theorem O18 : LibOK prog tt td18 [] := O17.cT at_edwards_Identity 600 (by kernel_rfl)
noncomputable def td19 : List (Nat × TF) := (F_edwards_point_times, cT (envP tt td18 []) 600 f_edwards_point_times) :: td18
theorem O19 : LibOK prog tt td19 [] := O18.cT at_edwards_point_times 600 (by kernel_rfl)
noncomputable def td20 : List (Nat × TF) := (F_edwards_IsPrime, cT (envP tt td19 []) 600 f_edwards_IsPrime) :: td19
theorem O20 : LibOK prog tt td20 [] := O19.cT at_edwards_IsPrime 600 (by kernel_rfl)
noncomputable def td21 : List (Nat × TF) := (F_edwards_MulBase, cT (envP tt td20 []) 600 f_edwards_MulBase) :: td20
theorem O21 : LibOK prog tt td21 [] := O20.cT at_edwards_MulBase 600 (by kernel_rfl)
end Go.Proofs.YtapacajpcjcjaaaGreat
namespace Go.Proofs.YtapacajpcjcjaaaGreat
open Go.Proofs.Tryz
open Go Go.AM
noncomputable def te0 : List (Nat × TF) := (F_scalar_Add, told tAdd) :: (F_scalar_IsZero, tIsZero) :: (F_scalar_radix, tRadix) :: (F_scalar_mont, told tMont) :: td21
theorem Q0 : LibOK prog tt te0 [] := (((O21.addT r_mont.told).addT r_radix).addT r_isZero).addT r_add.told
noncomputable def te1 : List (Nat × TF) := (F_scalar_times, cT (envP tt te0 []) 600 f_scalar_times) :: te0
theorem Q1 : LibOK prog tt te1 [] := Q0.cT at_scalar_times 600 (by kernel_rfl)
noncomputable def te2 : List (Nat × TF) := (F_scalar_Reduce, cT (envP tt te1 []) 600 f_scalar_Reduce) :: te1
theorem Q2 : LibOK prog tt te2 [] := Q1.cT at_scalar_Reduce 600 (by kernel_rfl)
noncomputable def te3 : List (Nat × TF) := (F_bits_RotateLeft64, cT (envP tt te2 []) 600 f_bits_RotateLeft64) :: te2
theorem Q3 : LibOK prog tt te3 [] := Q2.cT at_bits_RotateLeft64 600 (by kernel_rfl)
noncomputable def te4 : List (Nat × TF) := (F_sha512_ror, cT (envP tt te3 []) 600 f_sha512_ror) :: te3
theorem Q4_con2 : LibOK prog tt te4 [] := Q3.cT at_sha512_ror 600 (by kernel_rfl)
noncomputable def te5 : List (Nat × TF) := (F_sha512_Constants, cT (envP tt te4 []) 600 f_sha512_Constants) :: te4
theorem Q5 : LibOK prog tt te5 [] := Q4_con2.cT at_sha512_Constants 600 (by kernel_rfl)
noncomputable def te6 : List (Nat × TF) := (F_sha512_begin, cT (envP tt te5 []) 600 f_sha512_begin) :: te5
theorem Q6 : LibOK prog tt te6 [] := Q5.cT at_sha512_begin 600 (by kernel_rfl)
noncomputable def te7 : List (Nat × TF) := (F_sha512_Hasher_made, cT (envP tt te6 []) 600 f_sha512_Hasher_made) :: te6
theorem Q7 : LibOK prog tt te7 [] := Q6.cT at_sha512_Hasher_made 600 (by kernel_rfl)
noncomputable def te8 : List (Nat × TF) := (F_sha512_block, cT (envP tt te7 []) 600 f_sha512_block) :: te7
theorem Q8 : LibOK prog tt te8 [] := Q7.cT at_sha512_block 600 (by kernel_rfl)
noncomputable def te9 : List (Nat × TF) := (F_sha512_pad, cT (envP tt te8 []) 600 f_sha512_pad) :: te8
theorem Q9 : LibOK prog tt te9 [] := Q8.cT at_sha512_pad 600 (by kernel_rfl)
noncomputable def we10 : List (Nat × WF) := (F_sha512_New, cW (envP tt te9 []) 600 f_sha512_New) :: []
theorem Q10 : LibOK prog tt te9 we10 := Q9.cW at_sha512_New 600 (by kernel_rfl)
noncomputable def we11 : List (Nat × WF) := (F_sha512_Hasher_Write, cW (envP tt te9 we10) 600 f_sha512_Hasher_Write) :: we10
theorem Q11 : LibOK prog tt te9 we11 := Q10.cW at_sha512_Hasher_Write 600 (by kernel_rfl)
noncomputable def te12 : List (Nat × TF) := (F_sha512_Hasher_Sum, cT (envP tt te9 we11) 600 f_sha512_Hasher_Sum) :: te9
theorem Q12 : LibOK prog tt te12 we11 := Q11.cT at_sha512_Hasher_Sum 600 (by kernel_rfl)
noncomputable def te13 : List (Nat × TF) := (F_sha512_Join, cT (envP tt te12 we11) 600 f_sha512_Join) :: te12
theorem Q13 : LibOK prog tt te13 we11 := Q12.cT at_sha512_Join 600 (by kernel_rfl)
noncomputable def te14 : List (Nat × TF) := (F_suite_hashed, cT (envP tt te13 we11) 600 f_suite_hashed) :: te13
theorem Q14 : LibOK prog tt te14 we11 := Q13.cT at_suite_hashed 600 (by kernel_rfl)
noncomputable def te15 : List (Nat × TF) := (F_suite_number, cT (envP tt te14 we11) 600 f_suite_number) :: te14
theorem Q15 : LibOK prog tt te15 we11 := Q14.cT at_suite_number 600 (by kernel_rfl)
noncomputable def te16 : List (Nat × TF) := (F_suite_H1, cT (envP tt te15 we11) 600 f_suite_H1) :: te15
theorem Q16 : LibOK prog tt te16 we11 := Q15.cT at_suite_H1 600 (by kernel_rfl)
end Go.Proofs.YtapacajpcjcjaaaGreat
