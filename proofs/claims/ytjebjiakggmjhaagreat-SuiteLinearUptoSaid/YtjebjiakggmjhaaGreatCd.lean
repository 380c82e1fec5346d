/-
  Texts of the claim: DLLin DLLin2 DLLin3 DLLin4 DLLin5.
-/
import Derived.Test.YtjebjiakggmjhaaGreatBa
import Derived.Test.YtjebjiakggmjhaaGreatBe
import Derived.Test.YtjebjiakggmjhaaGreatCc
namespace Go.Proofs.YtjebjiakggmjhaaGreat
open Go.Proofs.Tryz
open Go Go.AM
noncomputable def li0 : List (Nat × TF) := (F_suite_Exp, tExp) :: (F_suite_Combine, tCombine) :: (F_rimeref02_Add, tAdd2) :: (F_rimeref02_Mul, tMul2) :: (F_rimeref04_Add, tEAdd) :: (F_rimeref04_Identity, tIdentG) :: (F_rimelaw06_works, k0T (.sc (.bool true))) :: []
theorem LI0 : LibOK prog tt li0 [] := ((((((L0.addT r_works).addT r_identG).addT r_addG4).addT r_mul2).addT r_add2).addT r_combine).addT r_exp
noncomputable abbrev liE : EnvP := envP tt li0 []
noncomputable def lnB : Code := match f_rimelaw06_SuiteLinear.body with | some c => (match bodiesOf 0 c with | [.loop b] => b | _ => .skip) | none => .skip
structure LA where
  t : Bool
  t' : Bool
  t'' : Bool
  n : Nat
  m : Nat
  l : Nat
  f : Nat → Nat → Int
  g : Nat → Nat → Int
  h : Nat → Nat → Int
  q : Nat
structure LB where
  k : Nat
  A : Nat → Nat → Int
  B : Nat → Nat → Int
  C : Nat → Nat → Int
  E : Nat → Nat → Int
  X : Nat → Int
  dot : Int
def lnT (a : LA) (v : Int) (i1 i2 i3 i4 k : Nat) : List (Nat × AV) := [(0, .sc (.vints a.t .u8 32 a.n a.f)), (1, .sc (.vints a.t' .u8 32 a.m a.g)), (2, .sc (.vints a.t'' .u8 32 a.l a.h)), (7, .sc (.int .i64 (a.q : Int))), (8, .sc (.slice i1 32 0 0 32 k)), (9, .sc (.slice i2 32 0 0 32 k)), (10, .sc (.slice i3 32 0 0 32 k)), (11, .sc (.slice i4 32 0 0 32 k)), (12, .sc (.ptr 0 32 0 0 32)), (13, .sc (.int .i64 v))]
def lnV (a : LA) (v : Int) (k : Nat) (A B C E : Nat → Nat → Int) (x : Nat → Nat → Int) : St :=
  ⟨tmOf (lnT a v 1 2 3 4 k) 154 0, [some (.ints .u8 32 1 x), some (.ints .u8 32 k A), some (.ints .u8 32 k B), some (.ints .u8 32 k C), some (.ints .u8 32 k E)]⟩
def lnM (a : LA) (v : Int) (k : Nat) (A B C E : Nat → Nat → Int) (x : Nat → Nat → Int) : St :=
  ⟨tmOf (lnT a v 7 9 11 13 k) 154 0, [some (.ints .u8 32 1 x), none, none, none, none, none, none, some (.ints .u8 32 k A), none, some (.ints .u8 32 k B), none, some (.ints .u8 32 k C), none, some (.ints .u8 32 k E)]⟩
def dotJ (V : Nat → Int) (x : Nat → Nat → Int) : Nat → Nat → Int := fun r d => bif Nat.beq r 0 && (Nat.ble 0 d && Nat.ble (d + 1) 32) then V (d - 0) else x r d
def lnBad (b : Nat → Int) : Int := bif decide (hval b 32 0 % ordL = 0) then 9 else 0
theorem ln_go (a : LA) (v v' : Int) (k k' : Nat) (A B C E A' B' C' E' x x' : Nat → Nat → Int) : roundR liE [(38, true), (50, false)] 5 1 [7, 9, 11, 13] lnB (lnV a v k A B C E x) .normal (lnV a v' k' A' B' C' E' x') =
    some (ckL [decide (v < (a.q : Int)) == true, inR v a.l, areB (ld0 (a.h v.toNat)) 32 0, (lnBad (ld0 (a.h v.toNat)) != 0) == false, inR v a.n, fits (k + 1) 32 && true, inR v a.m, fits (k + 1) 32 && true, inR v a.n, inR v a.m,
      areB (ld0 (a.f v.toNat)) 32 0 && areB (ld0 (a.g v.toNat)) 32 0, fits (k + 1) 32 && true, fits (k + 1) 32 && true, inR v a.n, inR v a.l, areB (ld0 (a.f v.toNat)) 32 0 && areB (ld0 (a.h v.toNat)) 32 0,
      areB (ld0 (x 0)) 32 0 && areB (lf (byL 32 (hval (ld0 (a.f v.toNat)) 32 0 * hval (ld0 (a.h v.toNat)) 32 0 % ordL))) 32 0] &&
      stR (rnm 1 [7, 9, 11, 13]) (lnM a (wr .i64 (v + 1)) (k + 1) (joinL k A (ld0 (a.f v.toNat))) (joinL k B (ld0 (a.g v.toNat))) (joinL k C (lf (byL 32 ((hval (ld0 (a.f v.toNat)) 32 0 + hval (ld0 (a.g v.toNat)) 32 0) % ordL))))
        (joinL k E (gz 32 (lf (byL 32 (expS (hval (ld0 (a.h v.toNat)) 32 0 % ordL)))))) (dotJ (lf (byL 32 ((hval (ld0 (x 0)) 32 0 + hval (lf (byL 32 (hval (ld0 (a.f v.toNat)) 32 0 * hval (ld0 (a.h v.toNat)) 32 0 % ordL))) 32 0) % ordL))) x)) (lnV a v' k' A' B' C' E' x')) := by kernel_rfl
theorem ln_skip (a : LA) (v v' : Int) (k k' : Nat) (A B C E A' B' C' E' x x' : Nat → Nat → Int) : roundR liE [(38, true), (50, true)] 5 1 [1, 2, 3, 4] lnB (lnV a v k A B C E x) .normal (lnV a v' k' A' B' C' E' x') =
    some (ckL [decide (v < (a.q : Int)) == true, inR v a.l, areB (ld0 (a.h v.toNat)) 32 0, (lnBad (ld0 (a.h v.toNat)) != 0) == true] && stR (rnm 1 [1, 2, 3, 4]) (lnV a (wr .i64 (v + 1)) k A B C E x) (lnV a v' k' A' B' C' E' x')) := by kernel_rfl
def lnX (k : Nat) (A B C E x : Nat → Nat → Int) : St :=
  ⟨tmOf [(8, .sc (.slice 1 32 0 0 32 k)), (9, .sc (.slice 2 32 0 0 32 k)), (10, .sc (.slice 3 32 0 0 32 k)), (11, .sc (.slice 4 32 0 0 32 k)), (12, .sc (.ptr 0 32 0 0 32))] 154 0, [some (.ints .u8 32 1 x), some (.ints .u8 32 k A), some (.ints .u8 32 k B), some (.ints .u8 32 k C), some (.ints .u8 32 k E)]⟩
theorem ln_stop (a : LA) (v : Int) (k k' : Nat) (A B C E A' B' C' E' x x' : Nat → Nat → Int) : roundR liE [(38, false)] 5 1 [1, 2, 3, 4] lnB (lnV a v k A B C E x) (.exit 0) (lnX k' A' B' C' E' x') =
    some (ckL [decide (v < (a.q : Int)) == false] && stR (rnm 1 [1, 2, 3, 4]) (lnX k A B C E x) (lnX k' A' B' C' E' x')) := by kernel_rfl
end Go.Proofs.YtjebjiakggmjhaaGreat
namespace Go.Proofs.YtjebjiakggmjhaaGreat
open Go.Proofs.Tryz
open Go Go.AM
theorem ln_same {a : LA} {v v' : Int} {k : Nat} {A B C E A' B' C' E' x x' : Nat → Nat → Int} (hv : v = v') (hA : eqF k 32 A A' = true) (hB : eqF k 32 B B' = true) (hC : eqF k 32 C C' = true) (hE : eqF k 32 E E' = true) (hx : eqF 1 32 x x' = true) :
    stR (rnm 1 [7, 9, 11, 13]) (lnM a v k A B C E x) (lnV a v' k A' B' C' E' x') = true := by
  subst hv
  simp [stR, lnM, lnV, lnT, tmOf, tmR, avR, svR, rIs, rnm, kEq_refl, eqF_refl, hpR, blkR, ndR, hA, hB, hC, hE, hx] <;> decide
theorem ln_same1 {a : LA} {v v' : Int} {k : Nat} {A B C E x : Nat → Nat → Int} (hv : v = v') :
    stR (rnm 1 [1, 2, 3, 4]) (lnV a v k A B C E x) (lnV a v' k A B C E x) = true := by
  subst hv
  simp [stR, lnV, lnT, tmOf, tmR, avR, svR, rIs, rnm, kEq_refl, eqF_refl, hpR, blkR, ndR] <;> decide
theorem ln_same2 {k : Nat} {A B C E x : Nat → Nat → Int} :
    stR (rnm 1 [1, 2, 3, 4]) (lnX k A B C E x) (lnX k A B C E x) = true := by
  simp [stR, lnX, tmOf, tmR, avR, svR, rIs, rnm, kEq_refl, eqF_refl, hpR, blkR, ndR] <;> decide
def upd (m : Nat) (D : Nat → Nat → Int) (x : Nat → Int) : Nat → Nat → Int := fun r d => bif Nat.beq r m then x d else D r d
def updX (m : Nat) (D : Nat → Int) (x : Int) : Nat → Int := fun r => bif Nat.beq r m then x else D r
theorem upd_at (m : Nat) (D : Nat → Nat → Int) (x : Nat → Int) : upd m D x m = x := by
  funext d
  unfold upd
  rw [beq_t.2 rfl]; rfl
theorem upd_lt {m r : Nat} (D : Nat → Nat → Int) (x : Nat → Int) (h : r < m) : upd m D x r = D r := by
  funext d
  unfold upd
  rw [nbd, decide_eq_false (by omega)]; rfl
theorem updX_at (m : Nat) (D : Nat → Int) (x : Int) : updX m D x m = x := by
  unfold updX
  rw [beq_t.2 rfl]; rfl
theorem updX_lt {m r : Nat} (D : Nat → Int) (x : Int) (h : r < m) : updX m D x r = D r := by
  unfold updX
  rw [nbd, decide_eq_false (by omega)]; rfl
theorem join_upd (m : Nat) (D : Nat → Nat → Int) {x y : Nat → Int} (h : ∀ d, d < 32 → x d = y d) : eqF (m + 1) 32 (joinL m D x) (upd m D y) = true :=
  joinL_eq (fun r hr d _ => by rw [upd_lt _ _ hr]) (fun d hd => by rw [upd_at]; exact h d hd)
def xJ (a : LA) (k : Nat) : Int := hval (a.h k) 32 0 % ordL
def cJ (a : LA) (k : Nat) : Nat → Int := lf (byL 32 ((hval (a.f k) 32 0 + hval (a.g k) 32 0) % ordL))
def lnNext (a : LA) (k : Nat) (s : LB) : LB :=
  ⟨s.k + 1, upd s.k s.A (a.f k), upd s.k s.B (a.g k), upd s.k s.C (cJ a k), upd s.k s.E (lf (byL 32 (expS (xJ a k)))), updX s.k s.X (xJ a k), (s.dot + hval (a.f k) 32 0 * hval (a.h k) 32 0) % ordL⟩
def lnK (a : LA) : Nat → LB
  | 0 => ⟨0, fun _ _ => 0, fun _ _ => 0, fun _ _ => 0, fun _ _ => 0, fun _ => 0, 0⟩
  | k + 1 => bif decide (xJ a k = 0) then lnK a k else lnNext a k (lnK a k)
def dotB (z : Int) : Nat → Nat → Int := fun _ d => lf (byL 32 z) d
def lnSt (a : LA) (k : Nat) : St := lnV a (k : Int) (lnK a k).k (lnK a k).A (lnK a k).B (lnK a k).C (lnK a k).E (dotB (lnK a k).dot)
def lnCk (a : LA) : Bool := (lim a.q && (Nat.ble a.q a.n && (Nat.ble a.q a.m && Nat.ble a.q a.l))) && (rowsB a.f a.n && (rowsB a.g a.m && rowsB a.h a.l))
theorem lnK_le (a : LA) : ∀ k, (lnK a k).k ≤ k
  | 0 => Nat.le_refl _
  | k + 1 => by
    have := lnK_le a k
    unfold lnK
    cases decide (xJ a k = 0) with
    | true => show (lnK a k).k ≤ k + 1; omega
    | false => show (lnK a k).k + 1 ≤ k + 1; omega
theorem lnK_dot (a : LA) : ∀ k, 0 ≤ (lnK a k).dot ∧ (lnK a k).dot < ordL
  | 0 => by show (0 : Int) ≤ 0 ∧ (0 : Int) < ordL; decide
  | k + 1 => by
    unfold lnK
    cases decide (xJ a k = 0) with
    | true => exact lnK_dot a k
    | false => exact ⟨(modL_range _).1, (modL_range _).2.1⟩
theorem ln_step {a : LA} (hc : lnCk a = true) {k : Nat} (hk : k < a.q) :
    ∃ s1 r, am liE.env 5 lnB (lnSt a k) = some (.normal, s1) ∧ StLeR r s1 (lnSt a (k + 1)) ∧ ∀ i, i < 1 → r i = some i := by
  simp only [lnCk, Bool.and_eq_true] at hc
  obtain ⟨⟨hl, hn, hm, hh⟩, hf, hg, hhh⟩ := hc
  have hl : a.q ≤ 1073741824 := Nat.le_of_ble_eq_true hl
  have hn : a.q ≤ a.n := Nat.le_of_ble_eq_true hn
  have hm : a.q ≤ a.m := Nat.le_of_ble_eq_true hm
  have hh : a.q ≤ a.l := Nat.le_of_ble_eq_true hh
  have f1 := rowsB_t.1 hf _ (Nat.lt_of_lt_of_le hk hn)
  have g1 := rowsB_t.1 hg _ (Nat.lt_of_lt_of_le hk hm)
  have h1 := rowsB_t.1 hhh _ (Nat.lt_of_lt_of_le hk hh)
  have ew : wr .i64 ((k : Int) + 1) = ((k + 1 : Nat) : Int) := by rw [wr_small (by omega) (by omega)]; rfl
  have hq : (decide ((k : Int) < (a.q : Int)) == true) = true := by rw [decide_eq_true (by omega)]; rfl
  have hkk := lnK_le a k
  have hdot := lnK_dot a k
  unfold lnSt
  cases hx : decide (xJ a k = 0) with
  | true =>
    have eK : lnK a (k + 1) = lnK a k := by
      show (bif decide (xJ a k = 0) then _ else _) = _
      rw [hx]; rfl
    rw [eK]
    refine roundR_toR (ln_skip a (k : Int) ((k + 1 : Nat) : Int) _ _ _ _ _ _ _ _ _ _ _ _) (and_t.2 ⟨?_, ln_same1 ew⟩)
    have hb : lnBad (a.h k) = 9 := by unfold lnBad; unfold xJ at hx; rw [hx]; rfl
    rw [Int.toNat_natCast, ld0_eq, hb, h1, hq, inR_nat (by omega)]
    rfl
  | false =>
    have eK : lnK a (k + 1) = lnNext a k (lnK a k) := by
      show (bif decide (xJ a k = 0) then _ else _) = _
      rw [hx]; rfl
    rw [eK]
    refine roundR_toR (ln_go a (k : Int) ((k + 1 : Nat) : Int) _ _ _ _ _ _ _ _ _ _ _ _) (and_t.2 ⟨?_, ?_⟩)
    · have hb : lnBad (a.h k) = 0 := by unfold lnBad; unfold xJ at hx; rw [hx]; rfl
      have hdb : areB (ld0 (dotB (lnK a k).dot 0)) 32 0 = true := by rw [ld0_eq]; exact areB_b32 _
      rw [Int.toNat_natCast, ld0_eq, ld0_eq, ld0_eq, hb, h1, f1, g1, hq, inR_nat (show k < a.l by omega), inR_nat (show k < a.n by omega), inR_nat (show k < a.m by omega), fits32 (by omega), areB_b32, hdb]
      rfl
    · rw [Int.toNat_natCast, ld0_eq, ld0_eq, ld0_eq]
      refine ln_same ew (join_upd _ _ fun d _ => rfl) (join_upd _ _ fun d _ => rfl) (join_upd _ _ fun d _ => rfl) (join_upd _ _ fun d hd => ?_) (eqF_of fun r hr d hd => ?_)
      · rw [← Nat.zero_add d, gz_at (by omega), Nat.zero_add]; rfl
      · obtain rfl : r = 0 := by omega
        unfold dotJ
        rw [beq_t.2 rfl, show Nat.ble 0 d = true from Nat.ble_eq_true_of_le (Nat.zero_le _), show Nat.ble (d + 1) 32 = true from Nat.ble_eq_true_of_le (by omega)]
        show lf (byL 32 ((hval (ld0 (dotB (lnK a k).dot 0)) 32 0 + hval (lf (byL 32 (hval (a.f k) 32 0 * hval (a.h k) 32 0 % ordL))) 32 0) % ordL)) (d - 0) = lf (byL 32 (((lnK a k).dot + hval (a.f k) 32 0 * hval (a.h k) 32 0) % ordL)) d
        rw [ld0_eq, b_ord, Nat.sub_zero]
        have e : hval (dotB (lnK a k).dot 0) 32 0 = (lnK a k).dot := hval_b32 hdot.1 (by have := hdot.2; have := ord_range.2; unfold R256 at this; omega)
        rw [e, Int.add_emod_emod]
def lnEnd (a : LA) : St := lnX (lnK a a.q).k (lnK a a.q).A (lnK a a.q).B (lnK a a.q).C (lnK a a.q).E (dotB (lnK a a.q).dot)
def lnF (a : LA) : LF := famA 1 [] (lnSt a 0) (lnCk a) .normal (lnEnd a)
theorem ln_body : f_rimelaw06_SuiteLinear.body.map (bodiesOf 0) = some [.loop lnB] := by kernel_rfl
theorem ln_ok : codeOK prog liE.env.isW lnB = true := by kernel_rfl
theorem l_ln (a : LA) : LRow prog f_rimelaw06_SuiteLinear 0 (lnF a) := by
  refine LRow.famA (N := 5) (S := fun k => lnSt a k) (LI0.env []) mix a.q (loop_of ln_body) ln_ok (fun w0 own0 => accOK_none (fun id => rfl) lnB) (fun _ _ => by show 1 ≤ 5; omega) (by show 1 ≤ 5; omega) fun ha => ?_
  refine ⟨fun k hk => ln_step ha hk, ?_⟩
  obtain ⟨s1, r, q1, q2, q3⟩ := roundR_toR (n := 1) (ln_stop a (a.q : Int) _ _ _ _ _ _ _ _ _ _ _ _) (and_t.2 ⟨by simp [ckL], ln_same2 (k := (lnK a a.q).k) (A := (lnK a a.q).A) (B := (lnK a a.q).B) (C := (lnK a a.q).C) (E := (lnK a a.q).E) (x := dotB (lnK a a.q).dot)⟩)
  exact ⟨_, s1, r, q1, rfl, q2, q3⟩
end Go.Proofs.YtjebjiakggmjhaaGreat
namespace Go.Proofs.YtjebjiakggmjhaaGreat
open Go.Proofs.Tryz
open Go Go.AM
structure LnI (s : LB) : Prop where
  a : ∀ r, r < s.k → areB (s.A r) 32 0 = true
  b : ∀ r, r < s.k → areB (s.B r) 32 0 = true
  c : ∀ r, r < s.k → areB (s.C r) 32 0 = true ∧ hval (s.C r) 32 0 = (hval (s.A r) 32 0 + hval (s.B r) 32 0) % ordL
  e : ∀ r, r < s.k → areB (s.E r) 32 0 = true ∧ hval (s.E r) 32 0 = encP (nI (s.X r) bP)
  x : ∀ r, r < s.k → 0 < s.X r ∧ s.X r < ordL
  d : 0 ≤ s.dot ∧ s.dot < ordL
  s : nI s.dot bP = smP (fun r => nI (hval (s.A r) 32 0) (nI (s.X r) bP)) s.k
theorem lnI_next {a : LA} {k : Nat} {s : LB} (H : LnI s) (hf : areB (a.f k) 32 0 = true) (hg : areB (a.g k) 32 0 = true) (hh : areB (a.h k) 32 0 = true) (hx : xJ a k ≠ 0) : LnI (lnNext a k s) := by
  have hxr := modL_range (hval (a.h k) 32 0)
  have hx0 : 0 < xJ a k ∧ xJ a k < ordL := ⟨by unfold xJ at hx ⊢; omega, hxr.2.1⟩
  have cases_r : ∀ {p : Nat → Prop}, (∀ r, r < s.k → p r) → p s.k → ∀ r, r < s.k + 1 → p r := fun h1 h2 r hr => by
    by_cases q : r < s.k
    · exact h1 r q
    · obtain rfl : r = s.k := by omega
      exact h2
  have hF := hval_range hf
  have hH := hval_range hh
  refine ⟨?_, ?_, ?_, ?_, ?_, ⟨(modL_range _).1, (modL_range _).2.1⟩, ?_⟩
  · exact cases_r (fun r hr => by show areB (upd s.k s.A (a.f k) r) 32 0 = true; rw [upd_lt _ _ hr]; exact H.a r hr) (by show areB (upd s.k s.A (a.f k) s.k) 32 0 = true; rw [upd_at]; exact hf)
  · exact cases_r (fun r hr => by show areB (upd s.k s.B (a.g k) r) 32 0 = true; rw [upd_lt _ _ hr]; exact H.b r hr) (by show areB (upd s.k s.B (a.g k) s.k) 32 0 = true; rw [upd_at]; exact hg)
  · refine cases_r (fun r hr => ?_) ?_
    · show areB (upd s.k s.C (cJ a k) r) 32 0 = true ∧ hval (upd s.k s.C (cJ a k) r) 32 0 = (hval (upd s.k s.A (a.f k) r) 32 0 + hval (upd s.k s.B (a.g k) r) 32 0) % ordL
      rw [upd_lt _ _ hr, upd_lt _ _ hr, upd_lt _ _ hr]; exact H.c r hr
    · show areB (upd s.k s.C (cJ a k) s.k) 32 0 = true ∧ hval (upd s.k s.C (cJ a k) s.k) 32 0 = (hval (upd s.k s.A (a.f k) s.k) 32 0 + hval (upd s.k s.B (a.g k) s.k) 32 0) % ordL
      rw [upd_at, upd_at, upd_at]
      exact ⟨areB_b32 _, b_ord _⟩
  · refine cases_r (fun r hr => ?_) ?_
    · show areB (upd s.k s.E _ r) 32 0 = true ∧ hval (upd s.k s.E _ r) 32 0 = encP (nI (updX s.k s.X (xJ a k) r) bP)
      rw [upd_lt _ _ hr, updX_lt _ _ hr]; exact H.e r hr
    · show areB (upd s.k s.E (lf (byL 32 (expS (xJ a k)))) s.k) 32 0 = true ∧ hval (upd s.k s.E (lf (byL 32 (expS (xJ a k)))) s.k) 32 0 = encP (nI (updX s.k s.X (xJ a k) s.k) bP)
      rw [upd_at, updX_at, exp_enc hx0.1 hx0.2]
      exact ⟨areB_b32 _, hval_b32 (enc_range _).1 (enc_range _).2⟩
  · refine cases_r (fun r hr => ?_) ?_
    · show 0 < updX s.k s.X (xJ a k) r ∧ updX s.k s.X (xJ a k) r < ordL
      rw [updX_lt _ _ hr]; exact H.x r hr
    · show 0 < updX s.k s.X (xJ a k) s.k ∧ updX s.k s.X (xJ a k) s.k < ordL
      rw [updX_at]; exact hx0
  · show nI ((s.dot + hval (a.f k) 32 0 * hval (a.h k) 32 0) % ordL) bP = smP (fun r => nI (hval (upd s.k s.A (a.f k) r) 32 0) (nI (updX s.k s.X (xJ a k) r) bP)) (s.k + 1)
    have hm : 0 ≤ hval (a.f k) 32 0 * hval (a.h k) 32 0 := Int.mul_nonneg hF.1 hH.1
    rw [nI_mod b_nL (Int.add_nonneg H.d.1 hm), nI_add H.d.1 hm, nI_mul hF.1 hH.1, smP_succ, H.s]
    have e1 : smP (fun r => nI (hval (upd s.k s.A (a.f k) r) 32 0) (nI (updX s.k s.X (xJ a k) r) bP)) s.k = smP (fun r => nI (hval (s.A r) 32 0) (nI (s.X r) bP)) s.k := smP_ext fun j hj => by rw [upd_lt _ _ hj, updX_lt _ _ hj]
    rw [e1, upd_at, updX_at, ← nI_mod b_nL hH.1]
    rfl
theorem lnI_zero : LnI ⟨0, fun _ _ => 0, fun _ _ => 0, fun _ _ => 0, fun _ _ => 0, fun _ => 0, 0⟩ :=
  ⟨fun r h => absurd h (Nat.not_lt_zero r), fun r h => absurd h (Nat.not_lt_zero r), fun r h => absurd h (Nat.not_lt_zero r), fun r h => absurd h (Nat.not_lt_zero r), fun r h => absurd h (Nat.not_lt_zero r), by decide, by rw [smP_0]; exact nI_0 bP⟩
theorem lnI (a : LA) (hc : lnCk a = true) : ∀ k, k ≤ a.q → LnI (lnK a k)
  | 0, _ => lnI_zero
  | k + 1, hk => by
    have ih := lnI a hc k (by omega)
    simp only [lnCk, Bool.and_eq_true] at hc
    obtain ⟨⟨hl, hn, hm, hh⟩, hf, hg, hhh⟩ := hc
    have hn : a.q ≤ a.n := Nat.le_of_ble_eq_true hn
    have hm : a.q ≤ a.m := Nat.le_of_ble_eq_true hm
    have hh : a.q ≤ a.l := Nat.le_of_ble_eq_true hh
    unfold lnK
    cases hx : decide (xJ a k = 0) with
    | true => exact ih
    | false => exact lnI_next ih (rowsB_t.1 hf _ (by omega)) (rowsB_t.1 hg _ (by omega)) (rowsB_t.1 hhh _ (by omega)) (of_decide_eq_false hx)
end Go.Proofs.YtjebjiakggmjhaaGreat
namespace Go.Proofs.YtjebjiakggmjhaaGreat
open Go.Proofs.Tryz
open Go Go.AM
def lnFs (a : LA) (s : LB) : LF := famA 1 [] (lnSt a 0) (lnCk a) .normal (lnX s.k s.A s.B s.C s.E (dotB s.dot))
theorem l_lns (a : LA) : LRow prog f_rimelaw06_SuiteLinear 0 (lnFs a (lnK a a.q)) := l_ln a
theorem c_lin (a : LA) (s : LB) : fnChk prog (envL tt li0 [] [(0, lnFs a s)]) f_rimelaw06_SuiteLinear = true := by kernel_rfl
def pR (f : Nat → Nat → Int) : Nat → Nat → Int := fun j d => f (0 + j) (0 + d)
def cS (f : Nat → Nat → Int) (s : LB) : Int × Int := cmbS (pR f) s.k (pR s.E) s.k
def z3 (a : LA) : Int := if (a.l : Int) < (if (a.m : Int) < (a.n : Int) then (a.m : Int) else (a.n : Int)) then (a.l : Int) else (if (a.m : Int) < (a.n : Int) then (a.m : Int) else (a.n : Int))
def lnI0 (a : LA) : St := ⟨tmOf [(0, .sc (.vints a.t .u8 32 a.n a.f)), (1, .sc (.vints a.t' .u8 32 a.m a.g)), (2, .sc (.vints a.t'' .u8 32 a.l a.h)), (7, .sc (.int .i64 (z3 a))), (8, .sc .nils), (9, .sc .nils), (10, .sc .nils), (11, .sc .nils), (12, .sc (.ptr 0 32 0 0 32)), (13, .sc (.int .i64 0))] 154 0,
  [some (.ints .u8 32 1 (dotJ (fun _ => 0) (fun _ _ => 0)))]⟩
noncomputable def liRun (a : LA) (s : LB) (gs : Guess) : Option (Bool × AV) := outP (apFunc (envL tt li0 [] [(0, lnFs a s)]) gs 5 f_rimelaw06_SuiteLinear [.sc (.vints a.t .u8 32 a.n a.f), .sc (.vints a.t' .u8 32 a.m a.g), .sc (.vints a.t'' .u8 32 a.l a.h)] [])
theorem k_li1 (a : LA) (s : LB) : (liRun a s [(112, false), (116, false), (119, false), (128, false), (132, false), (140, true), (145, true)]).map (·.2) = some (.sc (.bool true)) := by kernel_rfl
theorem k_li2 (a : LA) (s : LB) : (liRun a s [(112, false), (116, false), (119, false), (128, false), (132, false), (140, false), (148, true)]).map (·.2) = some (.sc (.bool (eqN 32 (gz 32 (lf (byL 32 (cS s.A s).1))) (lf (byL 32 1)) && true))) := by kernel_rfl
def gA (s : LB) (f : Nat → Nat → Int) : Nat → Int := gz 32 (lf (byL 32 (cS f s).1))
def adOk (s : LB) : Bool := addOk (hval (gA s s.A) 32 0) (hval (gA s s.B) 32 0)
def adV2 (s : LB) : Int := bif adOk s then formS (addS (openS (hval (gA s s.A) 32 0)) (openS (hval (gA s s.B) 32 0))) else 0
def liCk (a : LA) (s : LB) : List Bool :=
  [lnCk a && stR (rnm 1 []) (lnI0 a) (lnSt a 0), (lim s.k && rowsB (pR s.A) s.k) && rowsB (pR s.E) s.k, (lim s.k && rowsB (pR s.B) s.k) && rowsB (pR s.E) s.k, (lim s.k && rowsB (pR s.C) s.k) && rowsB (pR s.E) s.k,
   ((cS s.A s).2 != 0) == false, ((cS s.B s).2 != 0) == false, ((cS s.C s).2 != 0) == false, areB (gA s s.A) 32 0 && areB (gA s s.B) 32 0, ((bif adOk s then 0 else 41 : Int) != 0) == false,
   (!(eqN 32 (gz 32 (lf (byL 32 (adV2 s)))) (gA s s.C) && true)) == false, areB (ld0 (dotB s.dot 0)) 32 0]
theorem k_li1c (a : LA) (s : LB) : (liRun a s [(112, false), (116, false), (119, false), (128, false), (132, false), (140, true), (145, true)]).map (·.1) =
    some (ckL (liCk a s ++ [(lnBad (ld0 (dotB s.dot 0)) == 0) == true, (eqN 32 (gz 32 (lf (byL 32 (expS (hval (ld0 (dotB s.dot 0)) 32 0 % ordL))))) (gA s s.A) && true) == true])) := by kernel_rfl
theorem k_li2c (a : LA) (s : LB) : (liRun a s [(112, false), (116, false), (119, false), (128, false), (132, false), (140, false), (148, true)]).map (·.1) =
    some (ckL (liCk a s ++ [(lnBad (ld0 (dotB s.dot 0)) == 0) == false, (lnBad (ld0 (dotB s.dot 0)) == 9) == true])) := by kernel_rfl
end Go.Proofs.YtjebjiakggmjhaaGreat
namespace Go.Proofs.YtjebjiakggmjhaaGreat
open Go.Proofs.Tryz
open Go Go.AM
theorem pR_eq (f : Nat → Nat → Int) : pR f = f := by
  funext j d
  unfold pR
  rw [Nat.zero_add, Nat.zero_add]
def qX (s : LB) (r : Nat) : EP := nI (s.X r) bP
theorem cS_enc {s : LB} (H : LnI s) {f : Nat → Nat → Int} (hf : ∀ r, r < s.k → areB (f r) 32 0 = true) : cS f s = (encP (smP (fun r => nI (hval (f r) 32 0) (qX s r)) s.k), 0) := by
  unfold cS
  rw [pR_eq, pR_eq]
  exact comb_enc (Q := qX s) hf (fun r hr => (H.e r hr).2) (fun r hr => nI_ne b_ne b_nL (H.x r hr).1 (H.x r hr).2) (fun r hr => nL_nI b_nL _)
def sP (s : LB) (f : Nat → Nat → Int) : EP := smP (fun r => nI (hval (f r) 32 0) (qX s r)) s.k
theorem sP_sum {s : LB} (H : LnI s) : sP s s.C = (sP s s.A).add (sP s s.B) := by
  unfold sP
  rw [← smP_add]
  refine smP_ext fun r hr => ?_
  have ha := (hval_range (H.a r hr)).1
  have hb := (hval_range (H.b r hr)).1
  rw [(H.c r hr).2, nI_mod (show nL (qX s r) = EP.zero from nL_nI b_nL _) (Int.add_nonneg ha hb), nI_add ha hb]
theorem ln_z0 : eqF 1 32 (dotJ (fun _ => 0) (fun _ _ => 0)) (dotB 0) = true := by decide
theorem ln_same0 {a : LA} (hq : z3 a = (a.q : Int)) : stR (rnm 1 []) (lnI0 a) (lnSt a 0) = true := by
  have e := ln_z0
  unfold lnSt
  simp [stR, lnI0, lnV, lnT, lnK, tmOf, tmR, avR, svR, rIs, rnm, kEq_refl, eqF_refl, hpR, blkR, ndR, Blk.n, hq, e]
theorem gA_is {s : LB} {f : Nat → Nat → Int} {p : EP} (h : cS f s = (encP p, 0)) : areB (gA s f) 32 0 = true ∧ hval (gA s f) 32 0 = encP p := by
  have hr := enc_range p
  unfold gA
  rw [h]
  have e1 := gz_areB (areB_b32 (encP p))
  have e2 := gz_hval (lf (byL 32 (encP p)))
  rw [ld0_eq] at e1 e2
  exact ⟨e1, e2.trans (hval_b32 hr.1 hr.2)⟩
theorem li_ck {a : LA} (hc : lnCk a = true) (hq : z3 a = (a.q : Int)) {s : LB} (hs : s = lnK a a.q) (c : Bool) (h : c ∈ liCk a s) : c = true := by
  have H : LnI s := hs ▸ lnI a hc a.q (Nat.le_refl _)
  have hk : s.k ≤ a.q := hs ▸ lnK_le a a.q
  have hl : a.q ≤ 1073741824 := by
    simp only [lnCk, Bool.and_eq_true] at hc
    exact Nat.le_of_ble_eq_true hc.1.1
  have l1 : lim s.k = true := Nat.ble_eq_true_of_le (by omega)
  have rA : rowsB (pR s.A) s.k = true := by rw [pR_eq]; exact rowsB_t.2 H.a
  have rB : rowsB (pR s.B) s.k = true := by rw [pR_eq]; exact rowsB_t.2 H.b
  have rC : rowsB (pR s.C) s.k = true := by rw [pR_eq]; exact rowsB_t.2 fun r hr => (H.c r hr).1
  have rE : rowsB (pR s.E) s.k = true := by rw [pR_eq]; exact rowsB_t.2 fun r hr => (H.e r hr).1
  have eA := cS_enc H H.a
  have eB := cS_enc H H.b
  have eC := cS_enc H fun r hr => (H.c r hr).1
  obtain ⟨a1, a2⟩ := gA_is eA
  obtain ⟨b1, b2⟩ := gA_is eB
  have hadd := add_enc (smP (fun r => nI (hval (s.A r) 32 0) (qX s r)) s.k) (smP (fun r => nI (hval (s.B r) 32 0) (qX s r)) s.k)
  have o1 : adOk s = true := by unfold adOk; rw [a2, b2]; exact hadd.1
  have o2 : gz 32 (lf (byL 32 (adV2 s))) = gA s s.C := by
    unfold adV2
    rw [o1, a2, b2, hadd.2]
    unfold gA
    rw [eC]
    show gz 32 (lf (byL 32 (encP _))) = gz 32 (lf (byL 32 (encP (sP s s.C))))
    rw [sP_sum H]
    rfl
  have d1 : areB (ld0 (dotB s.dot 0)) 32 0 = true := by rw [ld0_eq]; exact areB_b32 _
  unfold liCk at h
  rw [hc, ln_same0 hq, l1, rA, rB, rC, rE, eA, eB, eC, a1, b1, o1, o2, eqN_refl, d1] at h
  simp only [List.mem_cons, List.not_mem_nil, or_false] at h
  rcases h with h | h | h | h | h | h | h | h | h | h | h <;> rw [h] <;> rfl
theorem c_lin0 : fnChk prog (envP tt li0 []) f_rimelaw06_SuiteLinear = true := by kernel_rfl
theorem lin_pure0 {a : LA} (hc : lnCk a = true) (hq : z3 a = (a.q : Int)) :
    Pure prog F_rimelaw06_SuiteLinear [.sc (.vints a.t .u8 32 a.n a.f), .sc (.vints a.t' .u8 32 a.m a.g), .sc (.vints a.t'' .u8 32 a.l a.h)] (.sc (.bool true)) := by
  have H := lnI a hc a.q (Nat.le_refl _)
  have hl := l_lns a
  have hck := li_ck hc hq (s := lnK a a.q) rfl
  generalize lnK a a.q = s at *
  have eA := cS_enc H H.a
  have hs : nI s.dot bP = sP s s.A := H.s
  have hd := H.d
  have ed : hval (ld0 (dotB s.dot 0)) 32 0 = s.dot := by
    rw [ld0_eq]
    exact hval_b32 hd.1 (by have := ord_range.2; unfold R256 at this; omega)
  have em : s.dot % ordL = s.dot := Int.emod_eq_of_lt hd.1 hd.2
  have eb : lnBad (ld0 (dotB s.dot 0)) = bif decide (s.dot = 0) then 9 else 0 := by unfold lnBad; rw [ed, em]
  by_cases h0 : s.dot = 0
  · have h := both (k_li2c a s) (k_li2 a s)
    rw [ckL_t.2 fun c hc => by
      rcases List.mem_append.1 hc with h | h
      · exact hck c h
      · rw [eb, decide_eq_true h0] at h
        simp only [List.mem_cons, List.not_mem_nil, or_false] at h
        rcases h with h | h <;> rw [h] <;> rfl] at h
    have e1 : (cS s.A s).1 = 1 := by
      rw [eA]
      show encP (sP s s.A) = 1
      rw [← hs, h0, nI_0]; exact enc_zero
    rw [e1, show eqN 32 (gz 32 (lf (byL 32 1))) (lf (byL 32 1)) = true by decide] at h
    exact pure_of_outL LI0 at_rimelaw06_SuiteLinear (LsOK.nil.cons hl) (c_lin a s) h
  · have h := both (k_li1c a s) (k_li1 a s)
    rw [ckL_t.2 fun c hc => by
      rcases List.mem_append.1 hc with h | h
      · exact hck c h
      · have e1 : gz 32 (lf (byL 32 (expS (hval (ld0 (dotB s.dot 0)) 32 0 % ordL)))) = gA s s.A := by
          rw [ed, em, exp_enc (by omega) hd.2, hs]
          unfold gA
          rw [eA]; rfl
        rw [eb, decide_eq_false h0, e1, eqN_refl] at h
        simp only [List.mem_cons, List.not_mem_nil, or_false] at h
        rcases h with h | h <;> rw [h] <;> rfl] at h
    exact pure_of_outL LI0 at_rimelaw06_SuiteLinear (LsOK.nil.cons hl) (c_lin a s) h
theorem lin_pure {n m l : Nat} {f g k : Nat → Nat → Int} (hf : rowsB f n = true) (hn : n ≤ 1048576) (hg : rowsB g m = true) (hm : m ≤ 1048576) (hk : rowsB k l = true) (hl : l ≤ 1048576) :
    Pure prog F_rimelaw06_SuiteLinear [.sc (.vints true .u8 32 n f), .sc (.vints true .u8 32 m g), .sc (.vints true .u8 32 l k)] (.sc (.bool true)) := by
  refine lin_pure0 (a := ⟨true, true, true, n, m, l, f, g, k, min (min n m) l⟩) ?_ ?_
  · unfold lnCk lim
    show ((Nat.ble (min (min n m) l) 1073741824 && (Nat.ble (min (min n m) l) n && (Nat.ble (min (min n m) l) m && Nat.ble (min (min n m) l) l))) && (rowsB f n && (rowsB g m && rowsB k l))) = true
    rw [hf, hg, hk, Nat.ble_eq_true_of_le (show min (min n m) l ≤ 1073741824 by omega), Nat.ble_eq_true_of_le (show min (min n m) l ≤ n by omega), Nat.ble_eq_true_of_le (show min (min n m) l ≤ m by omega), Nat.ble_eq_true_of_le (show min (min n m) l ≤ l by omega)]
    rfl
  · unfold z3
    show (if (l : Int) < (if (m : Int) < (n : Int) then (m : Int) else (n : Int)) then (l : Int) else (if (m : Int) < (n : Int) then (m : Int) else (n : Int))) = ((min (min n m) l : Nat) : Int)
    split <;> split <;> omega
end Go.Proofs.YtjebjiakggmjhaaGreat
