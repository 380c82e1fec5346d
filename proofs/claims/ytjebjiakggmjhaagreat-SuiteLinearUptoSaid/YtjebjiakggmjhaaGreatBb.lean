/-
  Texts of the claim: DTimes DForm DOpen DEdw.
-/
import Derived.Test.YtjebjiakggmjhaaGreatBa
namespace Go.Proofs.YtjebjiakggmjhaaGreat
open Go.Proofs.Tryz
open Go Go.AM
def idP : List Int := [0, 0, 0, 0, 0, 1, 0, 0, 0, 0, 1, 0, 0, 0, 0, 0, 0, 0, 0, 0]
theorem idP_law : bdP (lf idP) = true ∧ vP (lf idP) = idS4 := by decide
def tIdent : TF := fun args => match args with
  | [] => some (true, pt (lf idP))
  | _ => none
theorem c_ident : fnChk prog (envP tt ex8 []) f_edwards_identity = true := by kernel_rfl
theorem r_ident : TRow prog F_edwards_identity tIdent := by
  intro args r h
  unfold tIdent at h
  split at h
  case h_2 => simp at h
  simp only [Option.some.injEq, Prod.mk.injEq, true_and] at h
  subst h
  exact pure_of_out X8 at_edwards_identity c_ident (N := 60) (gs := []) (by kernel_rfl)
noncomputable def ex9 : List (Nat × TF) := (F_edwards_identity, tIdent) :: ex8
theorem X9 : LibOK prog tt ex9 [] := X8.addT r_ident
def tbV (p : Nat → Int) : Nat → List Int
  | 0 => idP
  | j + 1 => ptAdd (lf (tbV p j)) p
theorem tbV_bd {p : Nat → Int} (h : bdP p = true) : ∀ j, bdP (lf (tbV p j)) = true
  | 0 => idP_law.1
  | j + 1 => (ptAdd_law (tbV_bd h j) h).1
def tbS (p : Q4) : Nat → Q4
  | 0 => idS4
  | j + 1 => addS (tbS p j) p
theorem tbV_law {p : Nat → Int} (h : bdP p = true) : ∀ j, vP (lf (tbV p j)) = tbS (vP p) j
  | 0 => idP_law.2
  | j + 1 => by
    show vP (lf (ptAdd (lf (tbV p j)) p)) = _
    rw [(ptAdd_law (tbV_bd h j) h).2, tbV_law h j]; rfl
noncomputable abbrev tmE : EnvP := envP tt ex9 []
noncomputable def tm0B : Code := match f_edwards_point_times.body with | some c => (match bodiesOf 0 c with | [.loop b] => b | _ => .skip) | none => .skip
noncomputable def tm2B : Code := match f_edwards_point_times.body with | some c => (match bodiesOf 2 c with | [.loop b] => b | _ => .skip) | none => .skip
def tm0S (p s : Nat → Int) (v : Int) (T : Nat → Int) : St := ⟨tmOf [(2, .sc (.ptr 0 20 0 0 20)), (3, .sc (.ptr 1 32 0 0 32)), (4, .sc (.ptr 2 20 0 0 20)), (5, .sc (.ptr 3 320 0 0 320)), (12, .sc (.int .i64 v))] 51 0,
  [some (.ints .u64 20 1 (fun _ d => p d)), some (.ints .u8 32 1 (fun _ d => s d)), some (.ints .u64 20 1 (fun _ _ => 0)), some (.ints .u64 320 1 (fun _ d => T d))]⟩
def tm0T (p s : Nat → Int) (T : Nat → Int) : St := ⟨tmOf [(2, .sc (.ptr 0 20 0 0 20)), (3, .sc (.ptr 1 32 0 0 32)), (4, .sc (.ptr 2 20 0 0 20)), (5, .sc (.ptr 3 320 0 0 320))] 51 0,
  [some (.ints .u64 20 1 (fun _ d => p d)), some (.ints .u8 32 1 (fun _ d => s d)), some (.ints .u64 20 1 (fun _ _ => 0)), some (.ints .u64 320 1 (fun _ d => T d))]⟩
def put20 (T g : Nat → Int) (c : Nat) : Nat → Int := fun d => bif Nat.ble c d && Nat.ble (d + 1) (c + 20) then g (d - c) else T d
def tmA (v : Int) : Nat := 0 + (wr .i64 (v + 1)).toNat * 20
def tmG (p T : Nat → Int) (v : Int) : List Int := ptAdd (fun j => T (0 + v.toNat * 20 + j)) (fun j => p (0 + j))
theorem tm0_round (p s : Nat → Int) (v v' : Int) (T T' : Nat → Int) : roundR tmE [(13, true)] 5 4 [] tm0B (tm0S p s v T) .normal (tm0S p s v' T') =
    some (ckL [decide (v < 15) == true, inR v 16, chkP (fun j => T (0 + v.toNat * 20 + j)) && chkP (fun j => p (0 + j)), inR (wr .i64 (v + 1)) 16] && stR (rnm 4 []) (tm0S p s (wr .i64 (v + 1)) (put20 T (lf (tmG p T v)) (tmA v))) (tm0S p s v' T')) := by kernel_rfl
theorem tm0_exit (p s : Nat → Int) (v : Int) (T T' : Nat → Int) : roundR tmE [(13, false)] 5 4 [] tm0B (tm0S p s v T) (.exit 0) (tm0T p s T') =
    some (ckL [decide (v < 15) == false] && stR (rnm 4 []) (tm0T p s T) (tm0T p s T')) := by kernel_rfl
def tbF (p : Nat → Int) (k : Nat) : Nat → Int := fun d => bif Nat.ble (d + 1) (20 * (k + 1)) then lf (tbV p (d / 20)) (d % 20) else 0
theorem ble_ff {a b : Nat} (h : b < a) : Nat.ble a b = false := by
  cases hb : Nat.ble a b with
  | false => rfl
  | true => have := Nat.le_of_ble_eq_true hb; omega
theorem tbF_lt {p : Nat → Int} {k d : Nat} (h : d < 20 * (k + 1)) : tbF p k d = lf (tbV p (d / 20)) (d % 20) := by
  unfold tbF; rw [Nat.ble_eq_true_of_le h]; rfl
theorem tbF_ge {p : Nat → Int} {k d : Nat} (h : 20 * (k + 1) ≤ d) : tbF p k d = 0 := by
  unfold tbF; rw [ble_ff (by omega)]; rfl
theorem tb_ext {p q : Nat → Int} (h : ∀ d, d < 20 → p d = q d) : px p = px q ∧ py p = py q ∧ pz p = pz q ∧ pT p = pT q := by
  simp only [px, py, pz, pT, h 0 (by omega), h 1 (by omega), h 2 (by omega), h 3 (by omega), h 4 (by omega), h 5 (by omega), h 6 (by omega), h 7 (by omega), h 8 (by omega), h 9 (by omega), h 10 (by omega), h 11 (by omega), h 12 (by omega), h 13 (by omega), h 14 (by omega), h 15 (by omega), h 16 (by omega), h 17 (by omega), h 18 (by omega), h 19 (by omega), and_self]
theorem ptAdd_ext {p q p' q' : Nat → Int} (h : ∀ d, d < 20 → p d = p' d) (h' : ∀ d, d < 20 → q d = q' d) : ptAdd p q = ptAdd p' q' := by
  obtain ⟨e1, e2, e3, e4⟩ := tb_ext h
  obtain ⟨f1, f2, f3, f4⟩ := tb_ext h'
  unfold ptAdd
  rw [e1, e2, e3, e4, f1, f2, f3, f4]
theorem chkP_ext {p p' : Nat → Int} (h : ∀ d, d < 20 → p d = p' d) : chkP p = chkP p' := by
  obtain ⟨e1, e2, e3, e4⟩ := tb_ext h
  unfold chkP
  rw [e1, e2, e3, e4]
theorem tm_row {p : Nat → Int} {k j : Nat} (hj : j ≤ k) : ∀ d, d < 20 → tbF p k (20 * j + d) = lf (tbV p j) d := fun d hd => by
  rw [tbF_lt (by omega), show (20 * j + d) / 20 = j by omega, show (20 * j + d) % 20 = d by omega]
theorem tm0_same {p s : Nat → Int} {v v' : Int} {T T' : Nat → Int} (hv : v = v') (h : ∀ d, d < 320 → T d = T' d) : stR (rnm 4 []) (tm0S p s v T) (tm0S p s v' T') = true := by
  subst hv
  have e : eqF 1 320 (fun _ d => T d) (fun _ d => T' d) = true := eqF_of fun r _ d hd => h d hd
  simp [stR, tm0S, tmOf, tmR, avR, svR, rIs, rnm, kEq_refl, eqF_refl, hpR, blkR, ndR, e]
  decide
theorem tm0_sameT {p s : Nat → Int} {T T' : Nat → Int} (h : ∀ d, d < 320 → T d = T' d) : stR (rnm 4 []) (tm0T p s T) (tm0T p s T') = true := by
  have e : eqF 1 320 (fun _ d => T d) (fun _ d => T' d) = true := eqF_of fun r _ d hd => h d hd
  simp [stR, tm0T, tmOf, tmR, avR, svR, rIs, rnm, kEq_refl, eqF_refl, hpR, blkR, ndR, e]
  decide
def tm0W (p s : Nat → Int) (k : Nat) : St := tm0S p s k (tbF p k)
def tm0F (p s : Nat → Int) : LF := famA 4 [] (tm0W p s 0) (bdP p) .normal (tm0T p s (tbF p 15))
theorem tm0_body : f_edwards_point_times.body.map (bodiesOf 0) = some [.loop tm0B] := by kernel_rfl
theorem tm0_ok : codeOK prog tmE.env.isW tm0B = true := by kernel_rfl
theorem l_tm0 (p s : Nat → Int) : LRow prog f_edwards_point_times 0 (tm0F p s) := by
  refine LRow.famA (N := 5) (S := tm0W p s) (X9.env []) mix 15 (loop_of tm0_body) tm0_ok (fun w0 own0 => accOK_none (fun id => rfl) tm0B) (fun _ _ => Nat.le_refl _) (Nat.le_refl _) fun hp => ?_
  refine ⟨fun k hk => ?_, ?_⟩
  · refine roundR_toR (tm0_round p s k ((k + 1 : Nat) : Int) (tbF p k) (tbF p (k + 1))) ?_
    have e1 : wr .i64 ((k : Int) + 1) = ((k + 1 : Nat) : Int) := (wr_i64 (by omega) (by omega)).trans (by omega)
    have hrow : ∀ d, d < 20 → tbF p k (0 + (k : Int).toNat * 20 + d) = lf (tbV p k) d := fun d hd => by
      rw [show 0 + (k : Int).toNat * 20 + d = 20 * k + d by omega]; exact tm_row (Nat.le_refl k) d hd
    have hp0 : ∀ d, d < 20 → p (0 + d) = p d := fun d _ => by rw [Nat.zero_add]
    refine and_t.2 ⟨?_, tm0_same e1 fun d hd => ?_⟩
    · rw [chkP_ext hrow, bdP_chk (tbV_bd hp k), chkP_ext hp0, bdP_chk hp, e1, inR_lt (show k < 16 by omega), inR_lt (show k + 1 < 16 by omega), decide_eq_true (show (k : Int) < 15 by omega)]
      rfl
    · have eA : tmA (k : Int) = 20 * (k + 1) := by unfold tmA; rw [e1]; omega
      have eG : tmG p (tbF p k) (k : Int) = tbV p (k + 1) := ptAdd_ext hrow hp0
      unfold put20
      rw [eA, eG]
      by_cases h1 : d < 20 * (k + 1)
      · rw [ble_ff (by omega), tbF_lt h1, tbF_lt (k := k + 1) (by omega)]; rfl
      · rw [Nat.ble_eq_true_of_le (by omega)]
        by_cases h2 : d < 20 * (k + 1) + 20
        · rw [Nat.ble_eq_true_of_le h2, tbF_lt (k := k + 1) (by omega), show d / 20 = k + 1 by omega, show d % 20 = d - 20 * (k + 1) by omega]; rfl
        · rw [ble_ff (a := d + 1) (by omega), tbF_ge (k := k) (by omega), tbF_ge (k := k + 1) (by omega)]; rfl
  · obtain ⟨s1, r, q1, q2, q3⟩ := roundR_toR (n := 4) (tm0_exit p s 15 (tbF p 15) (tbF p 15)) (and_t.2 ⟨rfl, tm0_sameT fun _ _ => rfl⟩)
    exact ⟨_, s1, r, q1, rfl, q2, q3⟩
def nbI (s : Nat → Int) (v : Int) : Int := iand .u8 (ishr .u8 (s (0 + (wr .i64 (v.tdiv 2)).toNat * 1)) (wr .i64 (4 * v.tmod 2))) 15
def tm2S (p s T : Nat → Int) (v : Int) (x : Nat → Int) : St := ⟨tmOf [(3, .sc (.ptr 1 32 0 0 32)), (4, .sc (.ptr 2 20 0 0 20)), (5, .sc (.ptr 3 320 0 0 320)), (7, .sc (.ptr 4 20 0 0 20)), (8, .sc (.int .i64 v))] 51 0,
  [none, some (.ints .u8 32 1 (fun _ d => s d)), some (.ints .u64 20 1 (fun _ _ => 0)), some (.ints .u64 320 1 (fun _ d => T d)), some (.ints .u64 20 1 (fun _ d => x d))]⟩
def tm2T (x : Nat → Int) : St := ⟨tmOf [(4, .sc (.ptr 2 20 0 0 20)), (7, .sc (.ptr 4 20 0 0 20))] 51 0, [none, none, some (.ints .u64 20 1 (fun _ _ => 0)), none, some (.ints .u64 20 1 (fun _ d => x d))]⟩
def dbK (x : Nat → Int) : Nat → Nat → Int
  | 0 => x
  | k + 1 => lf (ptDbl (dbK x k))
def tm2Ck (s x : Nat → Int) (v : Int) : List Bool := [decide (v ≥ 0) == true, chkP (dbK x 0), chkP (dbK x 1), chkP (dbK x 2), chkP (dbK x 3), !decide ((2 : Int) = 0), inR (wr .i64 (v.tdiv 2)) 32, !decide ((2 : Int) = 0), !decide (wr .i64 (4 * v.tmod 2) < 0)]
theorem tm2_roundf (p s T : Nat → Int) (v v' : Int) (x x' : Nat → Int) : roundR tmE [(26, true), (44, false)] 5 5 [] tm2B (tm2S p s T v x) .normal (tm2S p s T v' x') =
    some (ckL (tm2Ck s x v ++ [decide (nbI s v > 0) == false]) && stR (rnm 5 []) (tm2S p s T (wr .i64 (v - 1)) (dbK x 4)) (tm2S p s T v' x')) := by kernel_rfl
theorem tm2_roundt (p s T : Nat → Int) (v v' : Int) (x x' : Nat → Int) : roundR tmE [(26, true), (44, true)] 5 5 [] tm2B (tm2S p s T v x) .normal (tm2S p s T v' x') =
    some (ckL (tm2Ck s x v ++ [decide (nbI s v > 0) == true, inR (nbI s v) 16, chkP (dbK x 4) && chkP (fun j => T (0 + (nbI s v).toNat * 20 + j))]) && stR (rnm 5 []) (tm2S p s T (wr .i64 (v - 1)) (lf (ptAdd (dbK x 4) (fun j => T (0 + (nbI s v).toNat * 20 + j))))) (tm2S p s T v' x')) := by kernel_rfl
theorem tm2_exit (p s T : Nat → Int) (v : Int) (x x' : Nat → Int) : roundR tmE [(26, false)] 5 5 [] tm2B (tm2S p s T v x) (.exit 2) (tm2T x') =
    some (ckL [decide (v ≥ 0) == false] && stR (rnm 5 []) (tm2T x) (tm2T x')) := by kernel_rfl
theorem and15 {x : Int} (h : 0 ≤ x ∧ x < 256) : iand .u8 x 15 = x % 16 := by
  have key : ∀ n : Nat, n < 256 → iand .u8 (n : Int) 15 = (n : Int) % 16 := by decide +kernel
  have := key x.toNat (by omega)
  rwa [Int.toNat_of_nonneg h.1] at this
def nib (s : Nat → Int) (i : Nat) : Int := s (i / 2) / 2 ^ (4 * (i % 2)) % 16
def tmV (p s : Nat → Int) : Nat → List Int
  | 0 => idP
  | k + 1 => bif decide (nib s (63 - k) > 0) then ptAdd (dbK (lf (tmV p s k)) 4) (lf (tbV p (nib s (63 - k)).toNat)) else ptDbl (dbK (lf (tmV p s k)) 3)
def tmSp (q : Q4) (s : Nat → Int) : Nat → Q4
  | 0 => idS4
  | k + 1 => bif decide (nib s (63 - k) > 0) then addS (dblS (dblS (dblS (dblS (tmSp q s k))))) (tbS q (nib s (63 - k)).toNat) else dblS (dblS (dblS (dblS (tmSp q s k))))
theorem dbK_law {x : Nat → Int} (h : bdP x = true) : ∀ k, bdP (dbK x k) = true
  | 0 => h
  | k + 1 => (ptDbl_law (dbK_law h k)).1
theorem dbK_v {x : Nat → Int} (h : bdP x = true) (k : Nat) : vP (dbK x (k + 1)) = dblS (vP (dbK x k)) := (ptDbl_law (dbK_law h k)).2
theorem tmV_law {p : Nat → Int} (hp : bdP p = true) (s : Nat → Int) : ∀ k, bdP (lf (tmV p s k)) = true ∧ vP (lf (tmV p s k)) = tmSp (vP p) s k
  | 0 => idP_law
  | k + 1 => by
    obtain ⟨h1, h2⟩ := tmV_law hp s k
    have e4 : vP (dbK (lf (tmV p s k)) 4) = dblS (dblS (dblS (dblS (tmSp (vP p) s k)))) := by
      rw [dbK_v h1, dbK_v h1, dbK_v h1, dbK_v h1]
      show dblS (dblS (dblS (dblS (vP (lf (tmV p s k)))))) = _
      rw [h2]
    unfold tmV tmSp
    cases decide (nib s (63 - k) > 0) with
    | true =>
      obtain ⟨q1, q2⟩ := ptAdd_law (dbK_law h1 4) (tbV_bd hp (nib s (63 - k)).toNat)
      exact ⟨q1, by show vP (lf (ptAdd _ _)) = _; rw [q2, e4, tbV_law hp]; rfl⟩
    | false => exact ⟨dbK_law h1 4, e4⟩
theorem nbI_law {s : Nat → Int} (hs : areB s 32 0 = true) {i : Nat} (hi : i < 64) : nbI s (i : Int) = nib s i ∧ inR (wr .i64 ((i : Int).tdiv 2)) 32 = true ∧ (!decide (wr .i64 (4 * (i : Int).tmod 2) < 0)) = true ∧ 0 ≤ nib s i ∧ nib s i < 16 := by
  have e1 : (i : Int).tdiv 2 = ((i / 2 : Nat) : Int) := by rw [Int.tdiv_eq_ediv_of_nonneg (by omega)]; omega
  have e2 : (i : Int).tmod 2 = ((i % 2 : Nat) : Int) := by rw [Int.tmod_eq_emod_of_nonneg (by omega)]; omega
  have e3 : wr .i64 ((i / 2 : Nat) : Int) = ((i / 2 : Nat) : Int) := wr_i64 (by omega) (by omega)
  have e4 : wr .i64 (4 * ((i % 2 : Nat) : Int)) = ((4 * (i % 2) : Nat) : Int) := (wr_i64 (by omega) (by omega)).trans (by omega)
  have hb := areB_t hs (i / 2) (by omega)
  rw [Nat.zero_add] at hb
  have hsh : ishr .u8 (s (i / 2)) ((4 * (i % 2) : Nat) : Int) = s (i / 2) / 2 ^ (4 * (i % 2)) := by
    unfold ishr
    rw [Int.toNat_natCast, show min (4 * (i % 2)) IntKind.u8.bits = 4 * (i % 2) by show min (4 * (i % 2)) 8 = _; omega, Int.fdiv_eq_ediv_of_nonneg _ (Int.le_of_lt (Int.pow_pos (by decide)))]
  have hx : ∀ x : Int, 0 ≤ x ∧ x < 256 → iand .u8 x 15 = x % 16 := fun x hx => and15 hx
  have hr : 0 ≤ s (i / 2) / 2 ^ (4 * (i % 2)) ∧ s (i / 2) / 2 ^ (4 * (i % 2)) < 256 := by
    have hm : i % 2 = 0 ∨ i % 2 = 1 := by omega
    rcases hm with h | h <;> rw [h] <;> simp only [Nat.mul_zero, Nat.mul_one] <;> omega
  refine ⟨?_, ?_, ?_, ?_⟩
  · unfold nbI nib
    rw [e1, e2, e3, e4, show 0 + ((i / 2 : Nat) : Int).toNat * 1 = i / 2 by omega, hsh, hx _ hr]
  · rw [e1, e3]; exact inR_lt (by omega)
  · rw [e2, e4, decide_eq_false (by omega)]; rfl
  · unfold nib
    generalize s (i / 2) / 2 ^ (4 * (i % 2)) = y
    omega
theorem tm2_same {p s T : Nat → Int} {v v' : Int} {x x' : Nat → Int} (hv : v = v') (h : ∀ d, d < 20 → x d = x' d) : stR (rnm 5 []) (tm2S p s T v x) (tm2S p s T v' x') = true := by
  subst hv
  have e : eqF 1 20 (fun _ d => x d) (fun _ d => x' d) = true := eqF_of fun r _ d hd => h d hd
  simp [stR, tm2S, tmOf, tmR, avR, svR, rIs, rnm, kEq_refl, eqF_refl, hpR, blkR, ndR, e]
  decide
theorem tm2_sameT {x x' : Nat → Int} (h : ∀ d, d < 20 → x d = x' d) : stR (rnm 5 []) (tm2T x) (tm2T x') = true := by
  have e : eqF 1 20 (fun _ d => x d) (fun _ d => x' d) = true := eqF_of fun r _ d hd => h d hd
  simp [stR, tm2T, tmOf, tmR, avR, svR, rIs, rnm, kEq_refl, eqF_refl, hpR, blkR, ndR, e]
  decide
def tm2W (p s : Nat → Int) (k : Nat) : St := tm2S p s (tbF p 15) (63 - (k : Int)) (lf (tmV p s k))
def tm2F (p s : Nat → Int) : LF := famA 5 [] (tm2W p s 0) (bdP p && areB s 32 0) .normal (tm2T (lf (tmV p s 64)))
theorem tm2_body : f_edwards_point_times.body.map (bodiesOf 2) = some [.loop tm2B] := by kernel_rfl
theorem tm2_ok : codeOK prog tmE.env.isW tm2B = true := by kernel_rfl
theorem l_tm2 (p s : Nat → Int) : LRow prog f_edwards_point_times 2 (tm2F p s) := by
  refine LRow.famA (N := 5) (S := tm2W p s) (X9.env []) mix 64 (loop_of tm2_body) tm2_ok (fun w0 own0 => accOK_none (fun id => rfl) tm2B) (fun _ _ => Nat.le_refl _) (Nat.le_refl _) fun hck => ?_
  obtain ⟨hp, hs⟩ := and_t.1 hck
  refine ⟨fun k hk => ?_, ?_⟩
  · have hv : (63 - (k : Int)) = ((63 - k : Nat) : Int) := by omega
    obtain ⟨n1, n2, n3, n4, n5⟩ := nbI_law hs (i := 63 - k) (by omega)
    have hx := (tmV_law hp s k).1
    have e1 : wr .i64 (63 - (k : Int) - 1) = 63 - ((k + 1 : Nat) : Int) := (wr_i64 (by omega) (by omega)).trans (by omega)
    have hck : ∀ l, ckL (tm2Ck s (lf (tmV p s k)) (63 - (k : Int)) ++ l) = ckL l := fun l => by
      unfold tm2Ck
      rw [hv, n2, n3, bdP_chk (dbK_law hx 0), bdP_chk (dbK_law hx 1), bdP_chk (dbK_law hx 2), bdP_chk (dbK_law hx 3), decide_eq_true (show ((63 - k : Nat) : Int) ≥ 0 by omega)]
      rfl
    cases hn : decide (nib s (63 - k) > 0) with
    | false =>
      refine roundR_toR (tm2_roundf p s (tbF p 15) (63 - (k : Int)) (63 - ((k + 1 : Nat) : Int)) (lf (tmV p s k)) (lf (tmV p s (k + 1)))) ?_
      refine and_t.2 ⟨?_, tm2_same e1 fun d _ => ?_⟩
      · rw [hck, hv, n1, hn]; rfl
      · show _ = lf (bif decide (nib s (63 - k) > 0) then _ else _) d
        rw [hn]; rfl
    | true =>
      have hrow : ∀ d, d < 20 → tbF p 15 (0 + (nib s (63 - k)).toNat * 20 + d) = lf (tbV p (nib s (63 - k)).toNat) d := fun d hd => by
        rw [show 0 + (nib s (63 - k)).toNat * 20 + d = 20 * (nib s (63 - k)).toNat + d by omega]; exact tm_row (by omega) d hd
      refine roundR_toR (tm2_roundt p s (tbF p 15) (63 - (k : Int)) (63 - ((k + 1 : Nat) : Int)) (lf (tmV p s k)) (lf (tmV p s (k + 1)))) ?_
      refine and_t.2 ⟨?_, tm2_same e1 fun d _ => ?_⟩
      · rw [hck, hv, n1, hn, bdP_chk (dbK_law hx 4), chkP_ext hrow, bdP_chk (tbV_bd hp _)]
        have : inR (nib s (63 - k)) 16 = true := by simp [inR]; omega
        rw [this]; rfl
      · show _ = lf (bif decide (nib s (63 - k) > 0) then _ else _) d
        rw [hn, hv, n1]
        show lf (ptAdd _ _) d = lf (ptAdd _ _) d
        rw [ptAdd_ext (p := dbK (lf (tmV p s k)) 4) (fun _ _ => rfl) hrow]
  · obtain ⟨s1, r, q1, q2, q3⟩ := roundR_toR (n := 5) (tm2_exit p s (tbF p 15) (-1) (lf (tmV p s 64)) (lf (tmV p s 64))) (and_t.2 ⟨rfl, tm2_sameT fun _ _ => rfl⟩)
    exact ⟨_, s1, r, q1, rfl, q2, q3⟩
noncomputable abbrev tmL (p s : Nat → Int) : EnvP := envL tt ex9 [] [(2, tm2F p s), (0, tm0F p s)]
theorem c_times2 (p s : Nat → Int) : fnChk prog (tmL p s) f_edwards_point_times = true := by kernel_rfl
def r20 (l : List Int) : List Int := tabL (lf l) 20 0
theorem k_times2 (p s : Nat → Int) : outP (apFunc (tmL p s) [] 5 f_edwards_point_times [pt p, u8s 32 s] []) =
    some (ckL [bdP p && stR (rnm 4 []) (tm0S p s 0 (put20 (fun _ => 0) (lf idP) 0)) (tm0W p s 0), (bdP p && areB s 32 0) && stR (rnm 5 []) (tm2S p s (tbF p 15) 63 (lf idP)) (tm2W p s 0)], pt (lf (r20 (tmV p s 64)))) := by kernel_rfl
theorem tbV_ext {p p' : Nat → Int} (h : ∀ d, d < 20 → p d = p' d) : ∀ j, tbV p j = tbV p' j
  | 0 => rfl
  | j + 1 => by
    show ptAdd (lf (tbV p j)) p = ptAdd (lf (tbV p' j)) p'
    rw [tbV_ext h j]
    exact ptAdd_ext (fun _ _ => rfl) h
theorem nib_ext {s s' : Nat → Int} (h : ∀ d, d < 32 → s d = s' d) {i : Nat} (hi : i < 64) : nib s i = nib s' i := by unfold nib; rw [h (i / 2) (by omega)]
theorem tmV_ext {p p' s s' : Nat → Int} (h : ∀ d, d < 20 → p d = p' d) (h' : ∀ d, d < 32 → s d = s' d) : ∀ k, tmV p s k = tmV p' s' k
  | 0 => rfl
  | k + 1 => by
    unfold tmV
    rw [tmV_ext h h' k, nib_ext h' (i := 63 - k) (by omega), tbV_ext h]
def n20 (p : Nat → Int) : Nat → Int := lf (tabL p 20 0)
def n32 (s : Nat → Int) : Nat → Int := lf (tabL s 32 0)
theorem n20_at (p : Nat → Int) (d : Nat) (h : d < 20) : p d = n20 p d := by
  have := lf_tab p 20 0 d h
  rw [Nat.zero_add] at this
  exact this.symm
theorem n32_at (s : Nat → Int) (d : Nat) (h : d < 32) : s d = n32 s d := by
  have := lf_tab s 32 0 d h
  rw [Nat.zero_add] at this
  exact this.symm
def tTimes2 : TF := fun args => match args with
  | [.agg [.ints .u64 20 p], .agg [.ints .u8 32 s]] => some (bdP p && areB s 32 0, pt (lf (r20 (tmV (n20 p) (n32 s) 64))))
  | _ => none
theorem r_times2 : TRow prog F_edwards_point_times tTimes2 := by
  intro args r h
  unfold tTimes2 at h
  split at h
  case h_2 => simp at h
  rename_i p s
  simp only [Option.some.injEq, Prod.mk.injEq] at h
  obtain ⟨hc, rfl⟩ := h
  obtain ⟨hp, hs⟩ := and_t.1 hc
  rw [← tmV_ext (n20_at p) (n32_at s)]
  refine pure_of_outL X9 at_edwards_point_times ((LsOK.nil.cons (l_tm0 p s)).cons (l_tm2 p s)) (c_times2 p s) (N := 5) (gs := []) ?_
  have e := k_times2 p s
  have h0 : stR (rnm 4 []) (tm0S p s 0 (put20 (fun _ => 0) (lf idP) 0)) (tm0W p s 0) = true := tm0_same rfl fun d hd => by
    unfold put20
    by_cases h : d < 20
    · rw [Nat.ble_eq_true_of_le (Nat.zero_le d), Nat.ble_eq_true_of_le (show d + 1 ≤ 0 + 20 by omega), tbF_lt (k := 0) (by omega), show d / 20 = 0 by omega, show d % 20 = d by omega]; rfl
    · rw [ble_ff (a := d + 1) (by omega), tbF_ge (k := 0) (by omega), Bool.and_false]; rfl
  rw [hp, hs, h0, show stR (rnm 5 []) (tm2S p s (tbF p 15) 63 (lf idP)) (tm2W p s 0) = true from tm2_same rfl fun _ _ => rfl] at e
  exact e
theorem tm_law {p s : Nat → Int} (hp : bdP p = true) : bdP (lf (r20 (tmV (n20 p) (n32 s) 64))) = true ∧ vP (lf (r20 (tmV (n20 p) (n32 s) 64))) = tmSp (vP p) s 64 := by
  rw [← tmV_ext (n20_at p) (n32_at s)]
  exact tmV_law hp s 64
noncomputable def ex10 : List (Nat × TF) := (F_edwards_point_times, tTimes2) :: ex9
theorem X10 : LibOK prog tt ex10 [] := X9.addT r_times2
end Go.Proofs.YtjebjiakggmjhaaGreat
namespace Go.Proofs.YtjebjiakggmjhaaGreat
open Go.Proofs.Tryz
open Go Go.AM
def bxI : Int := 15112221349535400772501151409588531511454012693041857206046113283949847762202
def byI : Int := 46316835694926478169428394003475163141307993866256225615783033603165251855960
def basL : List Int := loadL bxI ++ (loadL byI ++ ([1, 0, 0, 0, 0] ++ r5 (mulV (r5 (loadL bxI)) (r5 (loadL byI)))))
def baseS : Q4 := (bxI, byI, 1, mM bxI byI)
set_option maxRecDepth 20000 in
theorem bas_law : bdP (lf basL) = true ∧ vP (lf basL) = baseS := by decide +kernel
def tBase : TF := fun args => match args with
  | [] => some (true, pt (lf basL))
  | _ => none
theorem c_base : fnChk prog (envP tt ex10 []) f_edwards_base = true := by kernel_rfl
theorem r_base : TRow prog F_edwards_base tBase := by
  intro args r h
  unfold tBase at h
  split at h
  case h_2 => simp at h
  simp only [Option.some.injEq, Prod.mk.injEq, true_and] at h
  subst h
  exact pure_of_out X10 at_edwards_base c_base (N := 60) (gs := []) (by kernel_rfl)
def xzV (p : Nat → Int) : List Int := mR (px p) (r5 (invV (pz p)))
def yzV (p : Nat → Int) : List Int := mR (py p) (r5 (invV (pz p)))
def tXY : TF := fun args => match args with
  | [.agg [.ints .u64 20 p]] => some (bdP p, .tup [u5 (lf (r5 (xzV p))), u5 (lf (r5 (yzV p)))])
  | _ => none
theorem c_xy : fnChk prog (envP tt ex10 []) f_edwards_point_xy = true := by kernel_rfl
theorem k_xy (p : Nat → Int) : outP (apFunc (envP tt ex10 []) [] 5 f_edwards_point_xy [pt p] []) = some (ckL [bd5 (pz p), cM (px p) (r5 (invV (pz p))), cM (py p) (r5 (invV (pz p)))], .tup [u5 (lf (r5 (xzV p))), u5 (lf (r5 (yzV p)))]) := by kernel_rfl
theorem r_xy : TRow prog F_edwards_point_xy tXY := by
  intro args r h
  unfold tXY at h
  split at h
  case h_2 => simp at h
  rename_i p
  simp only [Option.some.injEq, Prod.mk.injEq] at h
  obtain ⟨hp, rfl⟩ := h
  obtain ⟨h1, h2, h3, h4⟩ := bdP_t.1 hp
  refine pure_of_out X10 at_edwards_point_xy c_xy (N := 5) (gs := []) ?_
  have e := k_xy p
  rw [h3, cM_t h1 (b := r5 (invV (pz p))) (invV_law h3).1, cM_t h2 (b := r5 (invV (pz p))) (invV_law h3).1] at e
  exact e
noncomputable def ex11 : List (Nat × TF) := (F_edwards_point_xy, tXY) :: (F_edwards_base, tBase) :: ex10
theorem X11 : LibOK prog tt ex11 [] := (X10.addT r_base).addT r_xy
def invM (x : Int) : Int := powM x 57896044618658097711785492504343953926634992332820282019728792003956564819947
def formS (q : Q4) : Int := mM q.2.1 (invM q.2.2.1) + mM q.1 (invM q.2.2.1) % 2 * 57896044618658097711785492504343953926634992332820282019728792003956564819968
theorem xy_law {p : Nat → Int} (h : bdP p = true) : bd5 (xzV p) = true ∧ bd5 (yzV p) = true ∧ fm (xzV p) = mM (vP p).1 (invM (vP p).2.2.1) ∧ fm (yzV p) = mM (vP p).2.1 (invM (vP p).2.2.1) := by
  obtain ⟨h1, h2, h3, h4⟩ := bdP_t.1 h
  obtain ⟨i1, i2⟩ := invV_law h3
  refine ⟨mR_bd h1 (b := r5 (invV (pz p))) i1, mR_bd h2 (b := r5 (invV (pz p))) i1, ?_, ?_⟩
  · show fm (mR (px p) (r5 (invV (pz p)))) = _
    rw [mR_fm h1 (b := r5 (invV (pz p))) i1, r5_fm, i2]; rfl
  · show fm (mR (py p) (r5 (invV (pz p)))) = _
    rw [mR_fm h2 (b := r5 (invV (pz p))) i1, r5_fm, i2]; rfl
theorem c_form : fnChk prog (envP tt ex11 []) f_edwards_point_form = true := by kernel_rfl
def top128 (l : List Int) (j : Nat) : Int := bif Nat.beq j 31 then ior .u8 (lf l 31) 128 else lf l j
theorem k_formt (p : Nat → Int) : outP (apFunc (envP tt ex11 []) [(14, true)] 5 f_edwards_point_form [pt p] []) =
    some (ckL [bdP (fun j => p (0 + j)), bd5 (r5 (yzV p)), bd5 (r5 (xzV p)) && (decide (fm (r5 (xzV p)) % 2 = 1) == true)], u8s 32 (lf (tabL (top128 (byL 32 (fm (r5 (yzV p))))) 32 0))) := by kernel_rfl
theorem k_formf (p : Nat → Int) : outP (apFunc (envP tt ex11 []) [(14, false)] 5 f_edwards_point_form [pt p] []) =
    some (ckL [bdP (fun j => p (0 + j)), bd5 (r5 (yzV p)), bd5 (r5 (xzV p)) && (decide (fm (r5 (xzV p)) % 2 = 1) == false)], u8s 32 (lf (byL 32 (fm (r5 (yzV p)))))) := by kernel_rfl
theorem or128 {x : Int} (h : 0 ≤ x ∧ x < 128) : ior .u8 x 128 = x + 128 := by
  have key : ∀ n : Nat, n < 128 → ior .u8 (n : Int) 128 = (n : Int) + 128 := by decide +kernel
  have := key x.toNat (by omega)
  rwa [Int.toNat_of_nonneg h.1] at this
theorem and127 {x : Int} (h : 0 ≤ x ∧ x < 256) : iand .u8 x 127 = x % 128 := by
  have key : ∀ n : Nat, n < 256 → iand .u8 (n : Int) 127 = (n : Int) % 128 := by decide +kernel
  have := key x.toNat (by omega)
  rwa [Int.toNat_of_nonneg h.1] at this
theorem last_byte {s : Nat → Int} (h : areB s 32 0 = true) : hval s 32 0 = hval s 31 0 + 452312848583266388373324160190187140051835877600158453279131187530910662656 * s 31 ∧ 0 ≤ hval s 31 0 ∧ hval s 31 0 < 452312848583266388373324160190187140051835877600158453279131187530910662656 ∧ 0 ≤ s 31 ∧ s 31 < 256 := by
  have e := hval_add s 31 1 0
  have e1 : hval s 1 (0 + 31) = s 31 := by simp [hval]
  rw [e1] at e
  have h1 := hval_range (areB_sub (m := 31) (i := 0) h (by omega))
  have h2 := areB_t h 31 (by omega)
  rw [Nat.zero_add] at h2
  rw [show (256 : Int) ^ 31 = 452312848583266388373324160190187140051835877600158453279131187530910662656 by decide] at e
  have h3 : hval s 31 (0 + 0) < 256 ^ 31 := h1.2
  rw [show (256 : Int) ^ 31 = 452312848583266388373324160190187140051835877600158453279131187530910662656 by decide] at h3
  exact ⟨e, h1.1, h3, h2⟩
theorem top_law {y : Int} (h0 : 0 ≤ y) (h1 : y < 57896044618658097711785492504343953926634992332820282019728792003956564819968) : tabL (top128 (byL 32 y)) 32 0 = byL 32 (y + 57896044618658097711785492504343953926634992332820282019728792003956564819968) := by
  have hb := areB_b32 y
  have hv : hval (lf (byL 32 y)) 32 0 = y := hval_b32 h0 (by omega)
  obtain ⟨e1, e2, e3, e4, e5⟩ := last_byte hb
  rw [hv] at e1
  have ht : ∀ d, d < 31 → top128 (byL 32 y) d = lf (byL 32 y) d := fun d hd => by
    unfold top128
    have : Nat.beq d 31 = false := by
      cases hb : Nat.beq d 31 with
      | false => rfl
      | true => have := Nat.eq_of_beq_eq_true hb; omega
    rw [this]; rfl
  have ht31 : top128 (byL 32 y) 31 = lf (byL 32 y) 31 + 128 := by
    show ior .u8 (lf (byL 32 y) 31) 128 = _
    exact or128 ⟨e4, by omega⟩
  have ha : areB (top128 (byL 32 y)) 32 0 = true := areB_mk fun i hi => by
    rw [Nat.zero_add]
    by_cases q : i = 31
    · rw [q, ht31]; omega
    · rw [ht i (by omega)]
      have := areB_t hb i hi
      rwa [Nat.zero_add] at this
  obtain ⟨f1, f2, f3, f4, f5⟩ := last_byte ha
  have e : hval (top128 (byL 32 y)) 31 0 = hval (lf (byL 32 y)) 31 0 := hval_congr fun i hi => by rw [Nat.zero_add]; exact ht i hi
  rw [e, ht31] at f1
  rw [← byL_self ha, f1]
  congr 1
  omega
theorem mM_lt (x y : Int) : 0 ≤ mM x y ∧ mM x y < pP := ⟨Int.emod_nonneg _ (by decide), Int.emod_lt_of_pos _ pP_pos⟩
def tForm : TF := fun args => match args with
  | [.agg [.ints .u64 20 p]] => some (bdP p, b32 (formS (vP p)))
  | _ => none
theorem bdP_ext {p p' : Nat → Int} (h : ∀ d, d < 20 → p d = p' d) : bdP p = bdP p' := by
  obtain ⟨e1, e2, e3, e4⟩ := tb_ext h
  unfold bdP
  rw [e1, e2, e3, e4]
theorem r_form : TRow prog F_edwards_point_form tForm := by
  intro args r h
  unfold tForm at h
  split at h
  case h_2 => simp at h
  rename_i p
  simp only [Option.some.injEq, Prod.mk.injEq] at h
  obtain ⟨hp, rfl⟩ := h
  obtain ⟨x1, x2, x3, x4⟩ := xy_law hp
  have hp0 : bdP (fun j => p (0 + j)) = true := by rw [bdP_ext (p' := p) fun d _ => by rw [Nat.zero_add]]; exact hp
  have hy := mM_lt (vP p).2.1 (invM (vP p).2.2.1)
  have c1 : bd5 (r5 (yzV p)) = true := x2
  have c2 : bd5 (r5 (xzV p)) = true := x1
  have v1 : fm (r5 (xzV p)) = mM (vP p).1 (invM (vP p).2.2.1) := x3
  have v2 : fm (r5 (yzV p)) = mM (vP p).2.1 (invM (vP p).2.2.1) := x4
  have hx := mM_lt (vP p).1 (invM (vP p).2.2.1)
  unfold formS
  cases ho : decide (mM (vP p).1 (invM (vP p).2.2.1) % 2 = 1) with
  | true =>
    refine pure_of_out X11 at_edwards_point_form c_form (N := 5) (gs := [(14, true)]) ?_
    have e := k_formt p
    rw [hp0, c1, c2, v1, v2, ho, top_law hy.1 (Int.lt_trans hy.2 (by decide))] at e
    rw [of_decide_eq_true ho, Int.one_mul]
    exact e
  | false =>
    refine pure_of_out X11 at_edwards_point_form c_form (N := 5) (gs := [(14, false)]) ?_
    have e := k_formf p
    rw [hp0, c1, c2, v1, v2, ho] at e
    have h0 : mM (vP p).1 (invM (vP p).2.2.1) % 2 = 0 := by
      have := of_decide_eq_false ho
      omega
    rw [h0, Int.zero_mul, Int.add_zero]
    exact e
noncomputable def ex12 : List (Nat × TF) := (F_edwards_point_form, tForm) :: ex11
theorem X12 : LibOK prog tt ex12 [] := X11.addT r_form
def bb (b : Nat → Int) : Nat → Int := fun j => bif Nat.beq (0 + j) 31 then iand .u8 (b 31) 127 else b (0 + j)
def one5L : List Int := [1, 0, 0, 0, 0]
def zer5L : List Int := [0, 0, 0, 0, 0]
def oY (b : Nat → Int) : List Int := loadL (hval (bb b) 32 0)
def oYY (b : Nat → Int) : List Int := mR (oY b) (oY b)
def oU (b : Nat → Int) : List Int := subV (r5 (oYY b)) (r5 one5L)
def oV (b : Nat → Int) : List Int := addV (r5 (mR cvL (oYY b))) (r5 one5L)
def oM (b : Nat → Int) : Nat := rtM (lf (oU b)) (lf (oV b))
def oX (b : Nat → Int) : List Int := r5 (rxk (r5 (oU b)) (r5 (oV b)) (oM b))
def oN (b : Nat → Int) : List Int := subV (r5 zer5L) (r5 (oX b))
def oP (X Y : List Int) : List Int := tabL (lf (r5 X ++ (r5 Y ++ (one5L ++ r5 (mR X Y))))) 20 0
def oA (b : Nat → Int) (g : Bool) : List Bool := [areB (bb b) 32 0, bd5 (r5 (oY b)), (!(eqN 32 (lf (byL 32 (fm (r5 (oY b))))) (bb b) && true)) == g]
def oB (b : Nat → Int) (g : Bool) : List Bool := [chk5 (r5 (oY b)), cM cvL (oYY b), rtCd (lf (oU b)) (lf (oV b)), (!Nat.ble (oM b) 1) == g]
def oO (b : Nat → Int) (g : Bool) : Bool := (ishr .u8 (b 31) 7 == 1) == g
def oZ (b : Nat → Int) (g : Bool) : List Bool := [bd5 (r5 (oX b)), (eqN 32 (lf (byL 32 (fm (r5 (oX b))))) (fun _ => 0) && true) == g]
def oD (b : Nat → Int) (o g : Bool) : List Bool := [bd5 (r5 (oX b)), (decide (fm (r5 (oX b)) % 2 = 1) != o) == g]
theorem c_open : fnChk prog (envP tt ex12 []) f_edwards_open = true := by kernel_rfl
theorem k_openA (b : Nat → Int) : outP (apFunc (envP tt ex12 []) [(22, true)] 5 f_edwards_open [u8s 32 b] []) = some (ckL (oA b true), .tup [pt (lf (tabL (fun _ => 0) 20 0)), .sc (.bool false)]) := by kernel_rfl
theorem k_openB (b : Nat → Int) : outP (apFunc (envP tt ex12 []) [(22, false), (39, true)] 5 f_edwards_open [u8s 32 b] []) = some (ckL (oA b false ++ oB b true), .tup [pt (lf (tabL (fun _ => 0) 20 0)), .sc (.bool false)]) := by kernel_rfl
theorem k_openC (b : Nat → Int) : outP (apFunc (envP tt ex12 []) [(12, true), (22, false), (39, false), (46, true)] 5 f_edwards_open [u8s 32 b] []) = some (ckL (oO b true :: (oA b false ++ (oB b false ++ oZ b true))), .tup [pt (lf (tabL (fun _ => 0) 20 0)), .sc (.bool false)]) := by kernel_rfl
theorem k_openC1 (b : Nat → Int) : outP (apFunc (envP tt ex12 []) [(12, true), (22, false), (39, false), (46, false), (53, true)] 5 f_edwards_open [u8s 32 b] []) =
    some (ckL (oO b true :: (oA b false ++ (oB b false ++ (oZ b false ++ (oD b true true ++ [cM (oN b) (oY b)]))))), .tup [pt (lf (oP (oN b) (oY b))), .sc (.bool true)]) := by kernel_rfl
theorem k_openC2 (b : Nat → Int) : outP (apFunc (envP tt ex12 []) [(12, true), (22, false), (39, false), (46, false), (53, false)] 5 f_edwards_open [u8s 32 b] []) =
    some (ckL (oO b true :: (oA b false ++ (oB b false ++ (oZ b false ++ (oD b true false ++ [cM (oX b) (oY b)]))))), .tup [pt (lf (oP (oX b) (oY b))), .sc (.bool true)]) := by kernel_rfl
theorem k_openD1 (b : Nat → Int) : outP (apFunc (envP tt ex12 []) [(12, false), (22, false), (39, false), (53, true)] 5 f_edwards_open [u8s 32 b] []) =
    some (ckL (oO b false :: (oA b false ++ (oB b false ++ (oD b false true ++ [cM (oN b) (oY b)])))), .tup [pt (lf (oP (oN b) (oY b))), .sc (.bool true)]) := by kernel_rfl
theorem k_openD2 (b : Nat → Int) : outP (apFunc (envP tt ex12 []) [(12, false), (22, false), (39, false), (53, false)] 5 f_edwards_open [u8s 32 b] []) =
    some (ckL (oO b false :: (oA b false ++ (oB b false ++ (oD b false false ++ [cM (oX b) (oY b)])))), .tup [pt (lf (oP (oX b) (oY b))), .sc (.bool true)]) := by kernel_rfl
end Go.Proofs.YtjebjiakggmjhaaGreat
namespace Go.Proofs.YtjebjiakggmjhaaGreat
open Go.Proofs.Tryz
open Go Go.AM
def rootX (u v : Int) : Nat → Int
  | 0 => mM (mM u (mM (mM v v) v)) (powM (mM u (mM (mM (mM (mM v v) v) (mM (mM v v) v)) v)) 7237005577332262213973186563042994240829374041602535252466099000494570602493)
  | k + 1 => mM (rootX u v k) iM
def rootOk (u v x : Int) : Bool := decide (mM v (mM x x) = u)
def rootM (u v : Int) : Nat := bif rootOk u v (rootX u v 0) then 0 else bif rootOk u v (rootX u v 1) then 1 else 2
def opY (w : Int) : Int := w % 57896044618658097711785492504343953926634992332820282019728792003956564819968
def opU (w : Int) : Int := mS (mM (opY w) (opY w)) 1
def opV (w : Int) : Int := mA (mM eD (mM (opY w) (opY w))) 1
def opM (w : Int) : Nat := rootM (opU w) (opV w)
def opX (w : Int) : Int := rootX (opU w) (opV w) (opM w)
def opOdd (w : Int) : Bool := decide (w / 57896044618658097711785492504343953926634992332820282019728792003956564819968 = 1)
def opOk (w : Int) : Bool := decide (opY w < pP) && (Nat.ble (opM w) 1 && !(opOdd w && decide (opX w = 0)))
def opXs (w : Int) : Int := bif decide (opX w % 2 = 1) != opOdd w then mS 0 (opX w) else opX w
def openS (w : Int) : Q4 := (opXs w, opY w, 1, mM (opXs w) (opY w))
theorem rxk_fm {U V : List Int} (hu : bd5 U = true) (hv : bd5 V = true) : ∀ k, fm (rxk U V k) = rootX (fm U) (fm V) k
  | 0 => by
    obtain ⟨h3, h7, hx⟩ := rx0_bd hu hv
    show fm (mR (mR U (rv3 V)) (r5 (e8V (r5 (rw7 U V))))) = _
    rw [mR_fm (mR_bd hu h3) (b := r5 (e8V (r5 (rw7 U V)))) (e8V_law (a := r5 (rw7 U V)) h7).1, r5_fm, (e8V_law (a := r5 (rw7 U V)) h7).2, r5_fm]
    show mM (fm (mR U (rv3 V))) (powM (fm (mR U (mR (mR (rv3 V) (rv3 V)) V))) _) = _
    rw [mR_fm hu h3, mR_fm hu (mR_bd (mR_bd h3 h3) hv), mR_fm (mR_bd h3 h3) hv, mR_fm h3 h3]
    show mM (mM (fm U) (fm (mR (mR V V) V))) (powM (mM (fm U) (mM (mM (fm (mR (mR V V) V)) (fm (mR (mR V V) V))) (fm V))) _) = _
    rw [mR_fm (mR_bd hv hv) hv, mR_fm hv hv]; rfl
  | k + 1 => by
    show fm (mR (rxk U V k) rmL) = _
    rw [mR_fm (rxk_bd hu hv k) rm_law.1, rxk_fm hu hv k, rm_law.2]; rfl
theorem rok_fm {U V X : List Int} (_hu : bd5 U = true) (hv : bd5 V = true) (hx : bd5 X = true) : rok U V X = rootOk (fm U) (fm V) (fm X) := by
  unfold rok rootOk
  rw [r5_fm, r5_fm, mR_fm hv (mR_bd hx hx), mR_fm hx hx]
theorem rtM_fm {u v : Nat → Int} (hu : bd5 (l5 u) = true) (hv : bd5 (l5 v) = true) : rtM u v = rootM (fm (l5 u)) (fm (l5 v)) := by
  unfold rtM rootM
  rw [rok_fm hu hv (X := r5 (rxk (l5 u) (l5 v) 0)) (rxk_bd hu hv 0), rok_fm hu hv (X := r5 (rxk (l5 u) (l5 v) 1)) (rxk_bd hu hv 1), r5_fm, r5_fm, rxk_fm hu hv, rxk_fm hu hv]
theorem bb_law {b : Nat → Int} (h : areB b 32 0 = true) : areB (bb b) 32 0 = true ∧ hval (bb b) 32 0 = opY (hval b 32 0) ∧ (ishr .u8 (b 31) 7 == 1) = opOdd (hval b 32 0) := by
  obtain ⟨e1, e2, e3, e4, e5⟩ := last_byte h
  have h31 : bb b 31 = b 31 % 128 := and127 ⟨e4, e5⟩
  have hlt : ∀ d, d < 31 → bb b d = b d := fun d hd => by
    unfold bb
    have : Nat.beq (0 + d) 31 = false := by
      cases hb : Nat.beq (0 + d) 31 with
      | false => rfl
      | true => have := Nat.eq_of_beq_eq_true hb; omega
    rw [this, Nat.zero_add]; rfl
  have ha : areB (bb b) 32 0 = true := areB_mk fun i hi => by
    rw [Nat.zero_add]
    by_cases q : i = 31
    · rw [q, h31]; omega
    · rw [hlt i (by omega)]
      have := areB_t h i hi
      rwa [Nat.zero_add] at this
  obtain ⟨f1, f2, f3, f4, f5⟩ := last_byte ha
  have e : hval (bb b) 31 0 = hval b 31 0 := hval_congr fun i hi => by rw [Nat.zero_add]; exact hlt i hi
  rw [e, h31] at f1
  refine ⟨ha, ?_, ?_⟩
  · rw [f1, e1]
    unfold opY
    generalize hval b 31 0 = A at *
    generalize b 31 = B at *
    omega
  · have e7 : ishr .u8 (b 31) 7 = b 31 / 128 := by
      show (b 31).fdiv (2 ^ (min (7 : Int).toNat 8)) = _
      rw [Int.fdiv_eq_ediv_of_nonneg _ (by decide)]; rfl
    unfold opOdd
    rw [e7, e1]
    have : (hval b 31 0 + 452312848583266388373324160190187140051835877600158453279131187530910662656 * b 31) / 57896044618658097711785492504343953926634992332820282019728792003956564819968 = b 31 / 128 := by
      generalize hval b 31 0 = A at *
      generalize b 31 = B at *
      omega
    rw [this]; rfl
theorem one5_law : bd5 one5L = true ∧ fm one5L = 1 := by decide
theorem zer5_law : bd5 zer5L = true ∧ fm zer5L = 0 := by decide
structure OpF (b : Nat → Int) : Prop where
  y : bd5 (oY b) = true
  yv : opY (hval b 32 0) < pP → fm (oY b) = opY (hval b 32 0)
  u : bd5 (oU b) = true
  v : bd5 (oV b) = true
  yy : bd5 (oYY b) = true
  x : bd5 (oX b) = true
  n : bd5 (oN b) = true
theorem opY_range (w : Int) : 0 ≤ opY w ∧ opY w < 57896044618658097711785492504343953926634992332820282019728792003956564819968 := by unfold opY; omega
theorem opF {b : Nat → Int} (h : areB b 32 0 = true) : OpF b := by
  obtain ⟨h1, h2, h3⟩ := bb_law h
  have hr := opY_range (hval b 32 0)
  have hy := loadL_law (v := hval (bb b) 32 0) (by rw [h2]; omega)
  have y : bd5 (oY b) = true := hy.1
  have yy := mR_bd y y
  have u : bd5 (oU b) = true := subV_bd (a := r5 (oYY b)) yy (b := r5 one5L) one5_law.1
  have v : bd5 (oV b) = true := addV_bd (a := r5 (mR cvL (oYY b))) (mR_bd cv_bd yy) (b := r5 one5L) one5_law.1
  have x : bd5 (oX b) = true := rxk_bd (U := r5 (oU b)) u (V := r5 (oV b)) v _
  exact ⟨y, fun hl => by show fm (loadL (hval (bb b) 32 0)) = _; rw [hy.2, h2]; exact md_id ⟨hr.1, hl⟩, u, v, yy, x, subV_bd (a := r5 zer5L) zer5_law.1 (b := r5 (oX b)) x⟩
theorem op_vals {b : Nat → Int} (h : areB b 32 0 = true) (hl : opY (hval b 32 0) < pP) : oM b = opM (hval b 32 0) ∧ fm (oX b) = opX (hval b 32 0) ∧ fm (oN b) = mS 0 (opX (hval b 32 0)) := by
  have F := opF h
  have eu : fm (oU b) = opU (hval b 32 0) := by
    show fm (subV (r5 (oYY b)) (r5 one5L)) = _
    rw [subV_fm (a := r5 (oYY b)) F.yy (b := r5 one5L) one5_law.1, r5_fm, r5_fm, one5_law.2]
    show mS (fm (mR (oY b) (oY b))) 1 = _
    rw [mR_fm F.y F.y, F.yv hl]; rfl
  have ev : fm (oV b) = opV (hval b 32 0) := by
    show fm (addV (r5 (mR cvL (oYY b))) (r5 one5L)) = _
    rw [addV_fm (a := r5 (mR cvL (oYY b))) (mR_bd cv_bd F.yy) (b := r5 one5L) one5_law.1, r5_fm, r5_fm, one5_law.2, mR_fm cv_bd F.yy, cv_fm]
    show mA (mM eD (fm (mR (oY b) (oY b)))) 1 = _
    rw [mR_fm F.y F.y, F.yv hl]; rfl
  have em : oM b = opM (hval b 32 0) := by
    show rtM (lf (oU b)) (lf (oV b)) = _
    rw [rtM_fm (u := lf (oU b)) (v := lf (oV b)) F.u F.v]
    show rootM (fm (oU b)) (fm (oV b)) = _
    rw [eu, ev]; rfl
  have ex : fm (oX b) = opX (hval b 32 0) := by
    show fm (rxk (r5 (oU b)) (r5 (oV b)) (oM b)) = _
    rw [rxk_fm (U := r5 (oU b)) F.u (V := r5 (oV b)) F.v, r5_fm, r5_fm, eu, ev, em]; rfl
  refine ⟨em, ex, ?_⟩
  show fm (subV (r5 zer5L) (r5 (oX b))) = _
  rw [subV_fm (a := r5 zer5L) zer5_law.1 (b := r5 (oX b)) F.x, r5_fm, r5_fm, zer5_law.2, ex]
theorem oP_law {X Y : List Int} (hx : bd5 X = true) (hy : bd5 Y = true) : bdP (lf (oP X Y)) = true ∧ vP (lf (oP X Y)) = (fm X, fm Y, 1, mM (fm X) (fm Y)) := by
  have hm := mR_bd hx hy
  obtain ⟨x1, x2, x3, x4⟩ := four_v (a := r5 X) (b := r5 Y) (c := one5L) (d := r5 (mR X Y)) rfl rfl rfl rfl
  have e : ∀ d, d < 20 → lf (oP X Y) d = lf (r5 X ++ (r5 Y ++ (one5L ++ r5 (mR X Y)))) d := fun d hd => by
    have := lf_tab (lf (r5 X ++ (r5 Y ++ (one5L ++ r5 (mR X Y))))) 20 0 d hd
    rwa [Nat.zero_add] at this
  obtain ⟨e1, e2, e3, e4⟩ := tb_ext e
  refine ⟨?_, ?_⟩
  · rw [bdP_ext e]
    exact bdP_t.2 ⟨by rw [x1]; exact hx, by rw [x2]; exact hy, by rw [x3]; exact one5_law.1, by rw [x4]; exact hm⟩
  · unfold vP
    rw [e1, e2, e3, e4, x1, x2, x3, x4, r5_fm, r5_fm, r5_fm, one5_law.2, mR_fm hx hy]
def opLs (b : Nat → Int) : List Int := bif decide (fm (r5 (oX b)) % 2 = 1) != opOdd (hval b 32 0) then oP (oN b) (oY b) else oP (oX b) (oY b)
def opFs (b : Nat → Int) : List Int := bif opOk (hval b 32 0) then opLs b else tabL (fun _ => 0) 20 0
def tOpen : TF := fun args => match args with
  | [.agg [.ints .u8 32 b]] => some (areB b 32 0, .tup [pt (lf (opFs b)), .sc (.bool (opOk (hval b 32 0)))])
  | _ => none
theorem opLs_law {b : Nat → Int} (h : areB b 32 0 = true) (hok : opOk (hval b 32 0) = true) : bdP (lf (opFs b)) = true ∧ vP (lf (opFs b)) = openS (hval b 32 0) := by
  have F := opF h
  have hl : opY (hval b 32 0) < pP := of_decide_eq_true (and_t.1 hok).1
  obtain ⟨em, ex, en⟩ := op_vals h hl
  unfold opFs
  rw [hok]
  show bdP (lf (opLs b)) = true ∧ vP (lf (opLs b)) = _
  unfold opLs openS opXs
  rw [show fm (r5 (oX b)) = opX (hval b 32 0) from ex]
  cases decide (opX (hval b 32 0) % 2 = 1) != opOdd (hval b 32 0) with
  | true =>
    obtain ⟨q1, q2⟩ := oP_law F.n F.y
    refine ⟨q1, ?_⟩
    show vP (lf (oP (oN b) (oY b))) = _
    rw [q2, en, F.yv hl]; rfl
  | false =>
    obtain ⟨q1, q2⟩ := oP_law F.x F.y
    refine ⟨q1, ?_⟩
    show vP (lf (oP (oX b) (oY b))) = _
    rw [q2, ex, F.yv hl]; rfl
theorem oA_law {b : Nat → Int} (h : areB b 32 0 = true) (g : Bool) (hg : decide (opY (hval b 32 0) < pP) = !g) : oA b g = [true, true, true] := by
  obtain ⟨h1, h2, h3⟩ := bb_law h
  have F := opF h
  have hr := opY_range (hval b 32 0)
  have hy := loadL_law (v := hval (bb b) 32 0) (by rw [h2]; omega)
  have e : eqN 32 (lf (byL 32 (fm (r5 (oY b))))) (bb b) = decide (opY (hval b 32 0) < pP) := by
    rw [eqB_law h1 (fm_256 _).1 (fm_256 _).2, h2]
    show decide (_ = fm (loadL (hval (bb b) 32 0))) = _
    rw [hy.2, h2]
    by_cases q : opY (hval b 32 0) < pP
    · rw [decide_eq_true q, decide_eq_true (md_id ⟨hr.1, q⟩).symm]
    · rw [decide_eq_false q, decide_eq_false (fun e => q (by rw [e]; exact Int.emod_lt_of_pos _ pP_pos))]
  unfold oA
  rw [e, h1, show bd5 (r5 (oY b)) = true from F.y, hg]
  cases g <;> rfl
theorem oB_law {b : Nat → Int} (h : areB b 32 0 = true) (hl : opY (hval b 32 0) < pP) (g : Bool) (hg : Nat.ble (opM (hval b 32 0)) 1 = !g) : oB b g = [true, true, true, true] := by
  have F := opF h
  obtain ⟨em, ex, en⟩ := op_vals h hl
  unfold oB
  rw [show chk5 (r5 (oY b)) = true from bd5_chk F.y, cM_t cv_bd F.yy, em, hg, show rtCd (lf (oU b)) (lf (oV b)) = true from and_t.2 ⟨F.u, F.v⟩]
  cases g <;> rfl
theorem oO_law {b : Nat → Int} (h : areB b 32 0 = true) (g : Bool) (hg : opOdd (hval b 32 0) = g) : oO b g = true := by
  obtain ⟨h1, h2, h3⟩ := bb_law h
  unfold oO
  rw [h3, hg]
  cases g <;> rfl
theorem oZ_law {b : Nat → Int} (h : areB b 32 0 = true) (hl : opY (hval b 32 0) < pP) (g : Bool) (hg : decide (opX (hval b 32 0) = 0) = g) : oZ b g = [true, true] := by
  have F := opF h
  obtain ⟨em, ex, en⟩ := op_vals h hl
  unfold oZ
  rw [show bd5 (r5 (oX b)) = true from F.x, eqN_zero32 (fm_256 _).1 (fm_256 _).2, show fm (r5 (oX b)) = opX (hval b 32 0) from ex, hg]
  cases g <;> rfl
theorem oD_law {b : Nat → Int} (h : areB b 32 0 = true) (hl : opY (hval b 32 0) < pP) (o g : Bool) (ho : opOdd (hval b 32 0) = o) (hg : (decide (fm (r5 (oX b)) % 2 = 1) != opOdd (hval b 32 0)) = g) : oD b o g = [true, true] := by
  have F := opF h
  subst ho
  unfold oD
  rw [show bd5 (r5 (oX b)) = true from F.x, hg]
  cases g <;> rfl
theorem r_open : TRow prog F_edwards_open tOpen := by
  intro args r h
  unfold tOpen at h
  split at h
  case h_2 => simp at h
  rename_i b
  simp only [Option.some.injEq, Prod.mk.injEq] at h
  obtain ⟨hb, rfl⟩ := h
  have F := opF hb
  unfold opFs
  cases h1 : decide (opY (hval b 32 0) < pP) with
  | false =>
    have hok : opOk (hval b 32 0) = false := by unfold opOk; rw [h1]; rfl
    rw [hok]
    refine pure_of_out X12 at_edwards_open c_open (N := 5) (gs := [(22, true)]) ?_
    have e := k_openA b
    rw [oA_law hb true (by rw [h1]; rfl)] at e
    exact e
  | true =>
    have hl := of_decide_eq_true h1
    have a := oA_law hb false (by rw [h1]; rfl)
    cases h2 : Nat.ble (opM (hval b 32 0)) 1 with
    | false =>
      have hok : opOk (hval b 32 0) = false := by unfold opOk; rw [h1, h2]; rfl
      rw [hok]
      refine pure_of_out X12 at_edwards_open c_open (N := 5) (gs := [(22, false), (39, true)]) ?_
      have e := k_openB b
      rw [a, oB_law hb hl true (by rw [h2]; rfl)] at e
      exact e
    | true =>
      have bb' := oB_law hb hl false (by rw [h2]; rfl)
      cases h3 : opOdd (hval b 32 0) with
      | true =>
        have o := oO_law hb true h3
        cases h4 : decide (opX (hval b 32 0) = 0) with
        | true =>
          have hok : opOk (hval b 32 0) = false := by unfold opOk; rw [h1, h2, h3, h4]; rfl
          rw [hok]
          refine pure_of_out X12 at_edwards_open c_open (N := 5) (gs := [(12, true), (22, false), (39, false), (46, true)]) ?_
          have e := k_openC b
          rw [a, bb', o, oZ_law hb hl true h4] at e
          exact e
        | false =>
          have hok : opOk (hval b 32 0) = true := by unfold opOk; rw [h1, h2, h3, h4]; rfl
          rw [hok]
          unfold opLs
          have z := oZ_law hb hl false h4
          cases h5 : (decide (fm (r5 (oX b)) % 2 = 1) != opOdd (hval b 32 0)) with
          | true =>
            refine pure_of_out X12 at_edwards_open c_open (N := 5) (gs := [(12, true), (22, false), (39, false), (46, false), (53, true)]) ?_
            have e := k_openC1 b
            rw [a, bb', o, z, oD_law hb hl true true h3 h5, cM_t F.n F.y] at e
            exact e
          | false =>
            refine pure_of_out X12 at_edwards_open c_open (N := 5) (gs := [(12, true), (22, false), (39, false), (46, false), (53, false)]) ?_
            have e := k_openC2 b
            rw [a, bb', o, z, oD_law hb hl true false h3 h5, cM_t F.x F.y] at e
            exact e
      | false =>
        have o := oO_law hb false h3
        have hok : opOk (hval b 32 0) = true := by unfold opOk; rw [h1, h2, h3]; rfl
        rw [hok]
        unfold opLs
        cases h5 : (decide (fm (r5 (oX b)) % 2 = 1) != opOdd (hval b 32 0)) with
        | true =>
          refine pure_of_out X12 at_edwards_open c_open (N := 5) (gs := [(12, false), (22, false), (39, false), (53, true)]) ?_
          have e := k_openD1 b
          rw [a, bb', o, oD_law hb hl false true h3 h5, cM_t F.n F.y] at e
          exact e
        | false =>
          refine pure_of_out X12 at_edwards_open c_open (N := 5) (gs := [(12, false), (22, false), (39, false), (53, false)]) ?_
          have e := k_openD2 b
          rw [a, bb', o, oD_law hb hl false false h3 h5, cM_t F.x F.y] at e
          exact e
noncomputable def ex13 : List (Nat × TF) := (F_edwards_open, tOpen) :: ex12
theorem X13 : LibOK prog tt ex13 [] := X12.addT r_open
end Go.Proofs.YtjebjiakggmjhaaGreat
namespace Go.Proofs.YtjebjiakggmjhaaGreat
open Go.Proofs.Tryz
open Go Go.AM
abbrev ld0 (b : Nat → Int) : Nat → Int := fun j => b (0 + j)
theorem ld0_eq (b : Nat → Int) : ld0 b = b := funext fun j => by show b (0 + j) = b j; rw [Nat.zero_add]
theorem tmSp_ext {q : Q4} {s s' : Nat → Int} (h : ∀ d, d < 32 → s d = s' d) : ∀ k, tmSp q s k = tmSp q s' k
  | 0 => rfl
  | k + 1 => by
    unfold tmSp
    rw [tmSp_ext h k, nib_ext h (i := 63 - k) (by omega)]
def mulS (q : Q4) (k : Int) : Q4 := tmSp q (lf (byL 32 k)) 64
theorem mulS_of {q : Q4} {s : Nat → Int} (h : areB s 32 0 = true) : tmSp q s 64 = mulS q (hval s 32 0) := by
  refine tmSp_ext (fun d hd => ?_) 64
  rw [byL_self h]
  have := lf_tab s 32 0 d hd
  rw [Nat.zero_add] at this
  exact this.symm
def tCheck : TF := fun args => match args with
  | [.agg [.ints .u8 32 b]] => some (areB b 32 0, .sc (.int .i64 (bif opOk (hval b 32 0) then 0 else 41)))
  | _ => none
theorem c_check : fnChk prog (envP tt ex13 []) f_edwards_Check = true := by kernel_rfl
theorem k_check (b : Nat → Int) (g : Bool) : outP (apFunc (envP tt ex13 []) [(11, true)] 5 f_edwards_Check [u8s 32 b] []) = some (ckL [areB (ld0 b) 32 0, (!opOk (hval (ld0 b) 32 0)) == true], .sc (.int .i64 41)) := by kernel_rfl
theorem k_check2 (b : Nat → Int) : outP (apFunc (envP tt ex13 []) [(11, false)] 5 f_edwards_Check [u8s 32 b] []) = some (ckL [areB (ld0 b) 32 0, (!opOk (hval (ld0 b) 32 0)) == false], .sc (.int .i64 0)) := by kernel_rfl
theorem r_check : TRow prog F_edwards_Check tCheck := by
  intro args r h
  unfold tCheck at h
  split at h
  case h_2 => simp at h
  rename_i b
  simp only [Option.some.injEq, Prod.mk.injEq] at h
  obtain ⟨hb, rfl⟩ := h
  cases ho : opOk (hval b 32 0) with
  | true =>
    refine pure_of_out X13 at_edwards_Check c_check (N := 5) (gs := [(11, false)]) ?_
    have e := k_check2 b
    rw [ld0_eq, hb, ho] at e
    exact e
  | false =>
    refine pure_of_out X13 at_edwards_Check c_check (N := 5) (gs := [(11, true)]) ?_
    have e := k_check b true
    rw [ld0_eq, hb, ho] at e
    exact e
def tIdentity : TF := fun args => match args with
  | [] => some (true, b32 1)
  | _ => none
theorem c_identity : fnChk prog (envP tt ex13 []) f_edwards_Identity = true := by kernel_rfl
theorem k_identity : outP (apFunc (envP tt ex13 []) [] 5 f_edwards_Identity [] []) = some (bdP (lf idP) && true, b32 (formS (vP (lf idP)))) := by kernel_rfl
theorem form_id : formS idS4 = 1 := by
  have e : invM 1 = 1 := by unfold invM powM; rw [Int.one_pow]; decide
  unfold formS idS4
  simp only [e]
  decide
theorem r_identity : TRow prog F_edwards_Identity tIdentity := by
  intro args r h
  unfold tIdentity at h
  split at h
  case h_2 => simp at h
  simp only [Option.some.injEq, Prod.mk.injEq, true_and] at h
  subst h
  refine pure_of_out X13 at_edwards_Identity c_identity (N := 5) (gs := []) ?_
  rw [k_identity, idP_law.1, idP_law.2, form_id]; rfl
def tMulBase : TF := fun args => match args with
  | [.agg [.ints .u8 32 s]] => some (areB s 32 0, b32 (formS (mulS baseS (hval s 32 0))))
  | _ => none
theorem c_mulBase : fnChk prog (envP tt ex13 []) f_edwards_MulBase = true := by kernel_rfl
theorem k_mulBase (s : Nat → Int) : outP (apFunc (envP tt ex13 []) [] 5 f_edwards_MulBase [u8s 32 s] []) = some (ckL [bdP (lf basL) && areB (ld0 s) 32 0, bdP (lf (r20 (tmV (n20 (lf basL)) (n32 s) 64)))], b32 (formS (vP (lf (r20 (tmV (n20 (lf basL)) (n32 s) 64)))))) := by kernel_rfl
theorem r_mulBase : TRow prog F_edwards_MulBase tMulBase := by
  intro args r h
  unfold tMulBase at h
  split at h
  case h_2 => simp at h
  rename_i s
  simp only [Option.some.injEq, Prod.mk.injEq] at h
  obtain ⟨hs, rfl⟩ := h
  refine pure_of_out X13 at_edwards_MulBase c_mulBase (N := 5) (gs := []) ?_
  obtain ⟨h3, h4⟩ := tm_law (s := s) bas_law.1
  have e := k_mulBase s
  rw [ld0_eq, bas_law.1, hs, h3, h4, bas_law.2, mulS_of hs] at e
  exact e
def isIdS (q : Q4) : Bool := decide (q.1 = 0) && decide (q.2.1 = q.2.2.1)
def tIsId : TF := fun args => match args with
  | [.agg [.ints .u64 20 p]] => some (bdP p, .sc (.bool (isIdS (vP p))))
  | _ => none
theorem c_isId : fnChk prog (envP tt ex13 []) f_edwards_point_isIdentity = true := by kernel_rfl
theorem k_isIdt (p : Nat → Int) : outP (apFunc (envP tt ex13 []) [(6, true)] 5 f_edwards_point_isIdentity [pt p] []) = some (ckL [(bd5 (px p) && true) && (decide (fm (px p) = 0) == true), bd5 (py p) && bd5 (pz p)], .sc (.bool (decide (fm (py p) = fm (pz p))))) := by kernel_rfl
theorem k_isIdf (p : Nat → Int) : outP (apFunc (envP tt ex13 []) [(6, false)] 5 f_edwards_point_isIdentity [pt p] []) = some (ckL [(bd5 (px p) && true) && (decide (fm (px p) = 0) == false)], .sc (.bool false)) := by kernel_rfl
theorem r_isId : TRow prog F_edwards_point_isIdentity tIsId := by
  intro args r h
  unfold tIsId at h
  split at h
  case h_2 => simp at h
  rename_i p
  simp only [Option.some.injEq, Prod.mk.injEq] at h
  obtain ⟨hp, rfl⟩ := h
  obtain ⟨h1, h2, h3, h4⟩ := bdP_t.1 hp
  have e : isIdS (vP p) = (decide (fm (px p) = 0) && decide (fm (py p) = fm (pz p))) := rfl
  rw [e]
  cases h0 : decide (fm (px p) = 0) with
  | true =>
    refine pure_of_out X13 at_edwards_point_isIdentity c_isId (N := 5) (gs := [(6, true)]) ?_
    have e := k_isIdt p
    rw [h0, h1, h2, h3] at e
    exact e
  | false =>
    refine pure_of_out X13 at_edwards_point_isIdentity c_isId (N := 5) (gs := [(6, false)]) ?_
    have e := k_isIdf p
    rw [h0, h1] at e
    exact e
def tOrder4 : TF := fun args => match args with
  | [] => some (true, b32 ordL)
  | _ => none
theorem c_order4 : fnChk prog (envP tt ex13 []) f_edwards_order = true := by kernel_rfl
theorem r_order4 : TRow prog F_edwards_order tOrder4 := by
  intro args r h
  unfold tOrder4 at h
  split at h
  case h_2 => simp at h
  simp only [Option.some.injEq, Prod.mk.injEq, true_and] at h
  subst h
  exact pure_of_out X13 at_edwards_order c_order4 (N := 5) (gs := []) (by kernel_rfl)
noncomputable def ex14 : List (Nat × TF) := (F_edwards_order, tOrder4) :: (F_edwards_point_isIdentity, tIsId) :: (F_edwards_MulBase, tMulBase) :: (F_edwards_Identity, tIdentity) :: (F_edwards_Check, tCheck) :: ex13
theorem X14 : LibOK prog tt ex14 [] := ((((X13.addT r_check).addT r_identity).addT r_mulBase).addT r_isId).addT r_order4
def prS (w : Int) : Bool := opOk w && isIdS (mulS (openS w) ordL)
def tIsPrime : TF := fun args => match args with
  | [.agg [.ints .u8 32 b]] => some (areB b 32 0, .tup [.sc (.bool (prS (hval b 32 0))), .sc (.int .i64 (bif opOk (hval b 32 0) then 0 else 41))])
  | _ => none
theorem c_isPrime : fnChk prog (envP tt ex14 []) f_edwards_IsPrime = true := by kernel_rfl
theorem k_isPrime1 (b : Nat → Int) : outP (apFunc (envP tt ex14 []) [(12, true)] 5 f_edwards_IsPrime [u8s 32 b] []) = some (ckL [areB (ld0 b) 32 0, (!opOk (hval (ld0 b) 32 0)) == true], .tup [.sc (.bool false), .sc (.int .i64 41)]) := by kernel_rfl
def ldP_edw (b : Nat → Int) : List Int := tabL (lf (opFs b)) 20 0
set_option maxRecDepth 100000 in
theorem k_isPrime2 (b : Nat → Int) : outP (apFunc (envP tt ex14 []) [(12, false)] 5 f_edwards_IsPrime [u8s 32 b] []) =
    some (ckL [areB (ld0 b) 32 0, (!opOk (hval (ld0 b) 32 0)) == false, bdP (lf (ldP_edw (ld0 b))) && areB (lf (byL 32 ordL)) 32 0, bdP (lf (r20 (tmV (n20 (lf (ldP_edw (ld0 b)))) (n32 (lf (byL 32 ordL))) 64)))],
      .tup [.sc (.bool (isIdS (vP (lf (r20 (tmV (n20 (lf (ldP_edw (ld0 b)))) (n32 (lf (byL 32 ordL))) 64)))))), .sc (.int .i64 0)]) := by kernel_rfl
theorem ldP_law {b : Nat → Int} (hb : areB b 32 0 = true) (ho : opOk (hval b 32 0) = true) : bdP (lf (ldP_edw b)) = true ∧ vP (lf (ldP_edw b)) = openS (hval b 32 0) := by
  obtain ⟨h1, h2⟩ := opLs_law hb ho
  exact ⟨h1, h2⟩
theorem ordB : areB (lf (byL 32 ordL)) 32 0 = true ∧ hval (lf (byL 32 ordL)) 32 0 = ordL := ⟨areB_b32 _, hval_b32 (by decide) (by decide)⟩
theorem r_isPrime : TRow prog F_edwards_IsPrime tIsPrime := by
  intro args r h
  unfold tIsPrime at h
  split at h
  case h_2 => simp at h
  rename_i b
  simp only [Option.some.injEq, Prod.mk.injEq] at h
  obtain ⟨hb, rfl⟩ := h
  unfold prS
  cases ho : opOk (hval b 32 0) with
  | false =>
    refine pure_of_out X14 at_edwards_IsPrime c_isPrime (N := 5) (gs := [(12, true)]) ?_
    have e := k_isPrime1 b
    rw [ld0_eq, hb, ho] at e
    exact e
  | true =>
    refine pure_of_out X14 at_edwards_IsPrime c_isPrime (N := 5) (gs := [(12, false)]) ?_
    obtain ⟨h1, h2⟩ := ldP_law hb ho
    obtain ⟨h3, h4⟩ := tm_law (s := lf (byL 32 ordL)) h1
    have e := k_isPrime2 b
    have hm : tmSp (openS (hval b 32 0)) (lf (byL 32 ordL)) 64 = mulS (openS (hval b 32 0)) ordL := rfl
    rw [ld0_eq, hb, ho, h1, ordB.1, h3, h4, h2, hm] at e
    generalize mulS (openS (hval b 32 0)) ordL = q at e ⊢
    exact e
noncomputable def ex15 : List (Nat × TF) := (F_edwards_IsPrime, tIsPrime) :: ex14
theorem X15 : LibOK prog tt ex15 [] := (X14.addT r_isPrime)
def addOk (a b : Int) : Bool := opOk a && opOk b
def tEAdd : TF := fun args => match args with
  | [.agg [.ints .u8 32 a], .agg [.ints .u8 32 b]] => some (areB a 32 0 && areB b 32 0, .tup [b32 (bif addOk (hval a 32 0) (hval b 32 0) then formS (addS (openS (hval a 32 0)) (openS (hval b 32 0))) else 0), .sc (.int .i64 (bif addOk (hval a 32 0) (hval b 32 0) then 0 else 41))])
  | _ => none
end Go.Proofs.YtjebjiakggmjhaaGreat
