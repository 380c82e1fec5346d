/-
  Texts of the claim: DGio2 DPow DPow2 DPtG DPtG2 DPtG3 DTimG DFormG DPtO DPtO2 DEdwG DEdwG2 DEdwG3 DMth DGrp DDec DEl DMulti DEl2 DGiv DComb DCrv DCrv2 DCon DCon2.
-/
import Derived.Test.YtjebjiakggmjhaaGreatAe
import Derived.Test.YtjebjiakggmjhaaGreatAf
import Derived.Test.YtjebjiakggmjhaaGreatBa
import Derived.Test.YtjebjiakggmjhaaGreatBb
import Derived.Test.YtjebjiakggmjhaaGreatBd
namespace Go.Proofs.YtjebjiakggmjhaaGreat
open Go.Proofs.Tryz
open Go Go.AM
def eAt (k : Nat) : Nat := match k with
  | 0 => 0
  | 1 => 26
  | 2 => 51
  | 3 => 77
  | 4 => 102
  | 5 => 128
  | 6 => 153
  | 7 => 179
  | 8 => 204
  | 9 => 230
  | _ => 255
def byW_gio2 (D : Nat → Int) (k : Nat) : St := byS D k (eAt k : Nat) (outK D (eAt k))
theorem by_same {D : Nat → Int} {i i' n n' : Int} {f g : Nat → Int} (hi : i = i') (hn : n = n') (h : ∀ d, d < 32 → f d = g d) : stR (rnm 4 []) (byS D i n f) (byS D i' n' g) = true := by
  subst hi hn
  have e : eqF 1 32 (fun _ d => f d) (fun _ d => g d) = true := eqF_of fun r _ d hd => h d hd
  simp [stR, byS, tmOf, tmR, avR, svR, rIs, rnm, kEq_refl, eqF_refl, hpR, blkR, ndR, e]
  decide
theorem by_sameT {f g : Nat → Int} (h : ∀ d, d < 32 → f d = g d) : stR (rnm 4 []) (byT f) (byT g) = true := by
  have e : eqF 1 32 (fun _ d => f d) (fun _ d => g d) = true := eqF_of fun r _ d hd => h d hd
  simp [stR, byT, tmOf, tmR, avR, svR, rIs, rnm, kEq_refl, eqF_refl, hpR, blkR, ndR, e]
  decide
def byF (D : Nat → Int) : LF := famA 4 [] (byW_gio2 D 0) true .normal (byT (outK D 255))
theorem by_body : f_rimeref04_Bytes.body.map (bodiesOf 2) = some [.loop byB] := by kernel_rfl
theorem by_ok : codeOK prog byE.env.isW byB = true := by kernel_rfl
theorem l_by (D : Nat → Int) : LRow prog f_rimeref04_Bytes 2 (byF D) := by
  refine LRow.famA (N := 30) (S := byW_gio2 D) (GX3.env []) mix 10 (loop_of by_body) by_ok (fun w0 own0 => accOK_none (fun id => rfl) byB) (fun _ _ => Nat.le_refl _) (Nat.le_refl _) fun _ => ?_
  refine ⟨fun k hk => ?_, ?_⟩
  · match k, hk with
    | 0, _ => exact roundR_toR (by_r0 D (outK D 26)) (and_t.2 ⟨rfl, by_same rfl rfl fun _ _ => rfl⟩)
    | 1, _ => exact roundR_toR (by_r1 D (outK D 51)) (and_t.2 ⟨rfl, by_same rfl rfl fun _ _ => rfl⟩)
    | 2, _ => exact roundR_toR (by_r2 D (outK D 77)) (and_t.2 ⟨rfl, by_same rfl rfl fun _ _ => rfl⟩)
    | 3, _ => exact roundR_toR (by_r3 D (outK D 102)) (and_t.2 ⟨rfl, by_same rfl rfl fun _ _ => rfl⟩)
    | 4, _ => exact roundR_toR (by_r4 D (outK D 128)) (and_t.2 ⟨rfl, by_same rfl rfl fun _ _ => rfl⟩)
    | 5, _ => exact roundR_toR (by_r5 D (outK D 153)) (and_t.2 ⟨rfl, by_same rfl rfl fun _ _ => rfl⟩)
    | 6, _ => exact roundR_toR (by_r6 D (outK D 179)) (and_t.2 ⟨rfl, by_same rfl rfl fun _ _ => rfl⟩)
    | 7, _ => exact roundR_toR (by_r7 D (outK D 204)) (and_t.2 ⟨rfl, by_same rfl rfl fun _ _ => rfl⟩)
    | 8, _ => exact roundR_toR (by_r8 D (outK D 230)) (and_t.2 ⟨rfl, by_same rfl rfl fun _ _ => rfl⟩)
    | 9, _ => exact roundR_toR (by_r9 D (outK D 255)) (and_t.2 ⟨rfl, by_same rfl rfl fun _ _ => rfl⟩)
  · obtain ⟨s1, r, q1, q2, q3⟩ := roundR_toR (n := 4) (by_x D (outK D 255)) (and_t.2 ⟨rfl, by_sameT fun _ _ => rfl⟩)
    exact ⟨_, s1, r, q1, rfl, q2, q3⟩
noncomputable abbrev byL1 (D : Nat → Int) : EnvP := envL tt gx3 [] [(2, byF D)]
theorem c_by1 (D : Nat → Int) : fnChk prog (byL1 D) f_rimeref04_Bytes = true := by kernel_rfl
def byIn (D f : Nat → Int) : St := byS D 0 0 f
theorem k_bytesGt (a : Nat → Int) : outP (apFunc (byL1 (xG (lf (c3G (l10 a)))).y) [(51, true)] 30 f_rimeref04_Bytes [u10 a] []) =
    some (ckL (byCk (l10 a) true ++ [true && stR (rnm 4 []) (byIn (xG (lf (c3G (l10 a)))).y (fun _ => 0)) (byW_gio2 (xG (lf (c3G (l10 a)))).y 0)]), u8s 32 (lf (tabL (outK (xG (lf (c3G (l10 a)))).y 255) 32 0))) := by kernel_rfl
theorem k_bytesGf (a : Nat → Int) : outP (apFunc (byL1 (lf (c3G (l10 a)))) [(51, false)] 30 f_rimeref04_Bytes [u10 a] []) =
    some (ckL (byCk (l10 a) false ++ [true && stR (rnm 4 []) (byIn (lf (c3G (l10 a))) (fun _ => 0)) (byW_gio2 (lf (c3G (l10 a))) 0)]), u8s 32 (lf (tabL (outK (lf (c3G (l10 a))) 255) 32 0))) := by kernel_rfl
theorem c3_law {l : List Int} (h : gd10 l = true) : Cn (lf (c3G l)) ∧ gvF (lf (c3G l)) % pP = gm l ∧ gw10 (lf l) = true ∧ gw10 (lf (carD (lf l))) = true ∧ gw10 (lf (carD (lf (carD (lf l))))) = true := by
  have w1 := gd_gw h
  have g1 := carD_gd w1
  have w2 := gd_gw g1
  have g2 := carD_gd w2
  have w3 := gd_gw g2
  refine ⟨carD_two (Cn.one (carD_two (carD_one h))), ?_, gw10_t.2 w1, gw10_t.2 w2, gw10_t.2 w3⟩
  obtain ⟨q1, e1⟩ := carD_val (lf l)
  obtain ⟨q2, e2⟩ := carD_val (lf (carD (lf l)))
  obtain ⟨q3, e3⟩ := carD_val (lf (carD (lf (carD (lf l)))))
  have f1 : gv (carD (lf l)) = gv l + q1 * pP := e1
  have f2 : gv (carD (lf (carD (lf l)))) = gv (carD (lf l)) + q2 * pP := e2
  have f3 : gvF (lf (c3G l)) = gv (carD (lf (carD (lf l)))) + q3 * pP := e3
  unfold gm
  rw [f3, Int.add_mul_emod_self_right, f2, Int.add_mul_emod_self_right, f1, Int.add_mul_emod_self_right]
theorem outK_all (D : Nat → Int) : tabL (outK D 255) 32 0 = outG D := rfl
theorem gm_range (l : List Int) : 0 ≤ gm l ∧ gm l < pP := ⟨Int.emod_nonneg _ (by decide), Int.emod_lt_of_pos _ pP_pos⟩
theorem gm_256 (l : List Int) : 0 ≤ gm l ∧ gm l < R256 := ⟨(gm_range l).1, Int.lt_trans (gm_range l).2 pP_256⟩
def tBytesG : TF := fun args => match args with
  | [.agg [.ints .i64 10 a]] => some (gd10 (l10 a), b32 (gm (l10 a)))
  | _ => none
theorem r_bytesG : TRow prog F_rimeref04_Bytes tBytesG := by
  intro args r h
  unfold tBytesG at h
  split at h
  case h_2 => simp at h
  rename_i a
  simp only [Option.some.injEq, Prod.mk.injEq] at h
  obtain ⟨ha, rfl⟩ := h
  obtain ⟨hc, hv, w1, w2, w3⟩ := c3_law ha
  obtain ⟨g0, g1, g2⟩ := xG_law hc
  cases hg : (xG (lf (c3G (l10 a)))).g with
  | true =>
    obtain ⟨c1, v1⟩ := g1 hg
    refine pure_of_outL GX3 at_rimeref04_Bytes (LsOK.nil.cons (l_by (xG (lf (c3G (l10 a)))).y)) (c_by1 (xG (lf (c3G (l10 a)))).y) (N := 30) (gs := [(51, true)]) ?_
    have e := k_bytesGt a
    rw [show byCk (l10 a) true = [true, true, true, true] by unfold byCk; rw [w1, w2, w3, hg]; rfl,
      show stR (rnm 4 []) (byIn (xG (lf (c3G (l10 a)))).y (fun _ => 0)) (byW_gio2 (xG (lf (c3G (l10 a)))).y 0) = true from by_same rfl rfl fun d _ => by
        show (0 : Int) = byteG _ d (cntB 0 d)
        have : cntB 0 d = 0 := by unfold cntB; rw [ble_n (by omega)]; show 0 - 8 * d = 0; omega
        rw [this]; rfl, outK_all, outG_law c1, v1, hv] at e
    exact e
  | false =>
    have v1 := g2 hg
    refine pure_of_outL GX3 at_rimeref04_Bytes (LsOK.nil.cons (l_by (lf (c3G (l10 a))))) (c_by1 (lf (c3G (l10 a)))) (N := 30) (gs := [(51, false)]) ?_
    have e := k_bytesGf a
    rw [show byCk (l10 a) false = [true, true, true, true] by unfold byCk; rw [w1, w2, w3, hg]; rfl,
      show stR (rnm 4 []) (byIn (lf (c3G (l10 a))) (fun _ => 0)) (byW_gio2 (lf (c3G (l10 a))) 0) = true from by_same rfl rfl fun d _ => by
        show (0 : Int) = byteG _ d (cntB 0 d)
        have : cntB 0 d = 0 := by unfold cntB; rw [ble_n (by omega)]; show 0 - 8 * d = 0; omega
        rw [this]; rfl, outK_all, outG_law hc, v1, hv] at e
    exact e
noncomputable def gx4 : List (Nat × TF) := (F_rimeref04_Bytes, tBytesG) :: (F_rimeref04_From, tFromG) :: gx2
theorem GX4 : LibOK prog tt gx4 [] := (GX2.addT r_fromG).addT r_bytesG
def tSameG : TF := fun args => match args with
  | [.agg [.ints .i64 10 a], .agg [.ints .i64 10 b]] => some (gd10 (l10 a) && gd10 (l10 b), .sc (.bool (decide (gm (l10 a) = gm (l10 b)))))
  | _ => none
theorem c_sameG : fnChk prog (envP tt gx4 []) f_rimeref04_Same = true := by kernel_rfl
theorem k_sameG (a b : Nat → Int) : outP (apFunc (envP tt gx4 []) [] 60 f_rimeref04_Same [u10 a, u10 b] []) = some (ckL [gd10 (l10 a), gd10 (l10 b)], .sc (.bool (eqN 32 (lf (byL 32 (gm (l10 a)))) (lf (byL 32 (gm (l10 b)))) && true))) := by kernel_rfl
theorem r_sameG : TRow prog F_rimeref04_Same tSameG := by
  intro args r h
  unfold tSameG at h
  split at h
  case h_2 => simp at h
  rename_i a b
  simp only [Option.some.injEq, Prod.mk.injEq, Bool.and_eq_true] at h
  obtain ⟨⟨ha, hb⟩, rfl⟩ := h
  refine pure_of_out GX4 at_rimeref04_Same c_sameG (N := 60) (gs := []) ?_
  have e := k_sameG a b
  rw [ha, hb, eqN_by (gm_256 _) (gm_256 _), Bool.and_true] at e
  exact e
def tSmallG : TF := fun args => match args with
  | [.sc (.int .i64 n)] => some (gwB n, u10 (lf (carD (lf [n, 0, 0, 0, 0, 0, 0, 0, 0, 0]))))
  | _ => none
theorem c_smallG : fnChk prog (envP tt gx4 []) f_rimeref04_Small = true := by kernel_rfl
theorem k_smallG (n : Int) : outP (apFunc (envP tt gx4 []) [] 60 f_rimeref04_Small [.sc (.int .i64 n)] []) = some (ckL [gw10 (lf [n, 0, 0, 0, 0, 0, 0, 0, 0, 0])], u10 (lf (carD (lf [n, 0, 0, 0, 0, 0, 0, 0, 0, 0])))) := by kernel_rfl
theorem r_smallG : TRow prog F_rimeref04_Small tSmallG := by
  intro args r h
  unfold tSmallG at h
  split at h
  case h_2 => simp at h
  rename_i n
  simp only [Option.some.injEq, Prod.mk.injEq] at h
  obtain ⟨ha, rfl⟩ := h
  refine pure_of_out GX4 at_rimeref04_Small c_smallG (N := 60) (gs := []) ?_
  have e := k_smallG n
  rw [show gw10 (lf [n, 0, 0, 0, 0, 0, 0, 0, 0, 0]) = true by unfold gw10; rw [show gwB (lf [n, 0, 0, 0, 0, 0, 0, 0, 0, 0] 0) = true from ha]; rfl] at e
  exact e
noncomputable def gx5 : List (Nat × TF) := (F_rimeref04_Small, tSmallG) :: (F_rimeref04_Same, tSameG) :: gx4
theorem GX5 : LibOK prog tt gx5 [] := (GX4.addT r_sameG).addT r_smallG
end Go.Proofs.YtjebjiakggmjhaaGreat
namespace Go.Proofs.YtjebjiakggmjhaaGreat
open Go.Proofs.Tryz
open Go Go.AM
def tG (a b : List Int) : List Int := mulG (q10 a) (q10 b)
theorem q10_gd (l : List Int) : gd10 (q10 l) = gd10 l := rfl
theorem q10_gm (l : List Int) : gm (q10 l) = gm l := rfl
theorem tG_gd {a b : List Int} (ha : gd10 a = true) (hb : gd10 b = true) : gd10 (tG a b) = true := (mulG_law (a := q10 a) (b := q10 b) ha hb).1
theorem tG_gm {a b : List Int} (ha : gd10 a = true) (hb : gd10 b = true) : gm (tG a b) = mM (gm a) (gm b) := mulG_gm (a := q10 a) (b := q10 b) ha hb
def one10 : List Int := carD (lf [1, 0, 0, 0, 0, 0, 0, 0, 0, 0])
def pwG (a : List Int) : List Bool → List Int → List Int
  | [], r => r
  | b :: bs, r => pwG a bs (match b with | true => tG (tG r r) a | false => tG r r)
def pwCk (a : List Int) : List Bool → List Int → List Bool
  | [], _ => []
  | b :: bs, r => match b with
    | true => (gd10 (q10 r) && gd10 (q10 r)) :: (gd10 (q10 (tG r r)) && gd10 (q10 a)) :: pwCk a bs (tG (tG r r) a)
    | false => (gd10 (q10 r) && gd10 (q10 r)) :: pwCk a bs (tG r r)
def bitsV (n : Nat) : List Bool → Nat
  | [] => n
  | b :: bs => bitsV (match b with | true => n + n + 1 | false => n + n) bs
theorem pwG_law {a : List Int} (ha : gd10 a = true) : ∀ (bs : List Bool) (r : List Int) (n : Nat), gd10 r = true → gm r = powM (gm a) n → gd10 (pwG a bs r) = true ∧ gm (pwG a bs r) = powM (gm a) (bitsV n bs) ∧ ∀ c ∈ pwCk a bs r, c = true
  | [], r, n, hr, hn => ⟨hr, hn, fun c hc => by simp [pwCk] at hc⟩
  | true :: bs, r, n, hr, hn => by
    have h2 := tG_gd hr hr
    have h3 := tG_gd h2 ha
    obtain ⟨q1, q2, q3⟩ := pwG_law ha bs (tG (tG r r) a) (n + n + 1) h3 (by rw [tG_gm h2 ha, tG_gm hr hr, hn, powM_mul, ← powM_mul (gm a) (n + n) 1, powM_one (gm_range a)])
    refine ⟨q1, q2, fun c hc => ?_⟩
    simp only [pwCk, List.mem_cons] at hc
    rcases hc with rfl | rfl | hc
    · exact and_t.2 ⟨hr, hr⟩
    · exact and_t.2 ⟨h2, ha⟩
    · exact q3 c hc
  | false :: bs, r, n, hr, hn => by
    have h2 := tG_gd hr hr
    obtain ⟨q1, q2, q3⟩ := pwG_law ha bs (tG r r) (n + n) h2 (by rw [tG_gm hr hr, hn, powM_mul])
    refine ⟨q1, q2, fun c hc => ?_⟩
    simp only [pwCk, List.mem_cons] at hc
    rcases hc with rfl | hc
    · exact and_t.2 ⟨hr, hr⟩
    · exact q3 c hc
theorem one10_law (x : Int) : gd10 one10 = true ∧ gm one10 = powM x 0 := by
  refine ⟨by decide, ?_⟩
  unfold powM
  rw [Int.pow_zero]
  decide
def eIL : List Int := [235, 255, 255, 255, 255, 255, 255, 255, 255, 255, 255, 255, 255, 255, 255, 255, 255, 255, 255, 255, 255, 255, 255, 255, 255, 255, 255, 255, 255, 255, 255, 127]
def eEL : List Int := [253, 255, 255, 255, 255, 255, 255, 255, 255, 255, 255, 255, 255, 255, 255, 255, 255, 255, 255, 255, 255, 255, 255, 255, 255, 255, 255, 255, 255, 255, 255, 15]
noncomputable abbrev pwE : EnvP := envP tt gx5 []
noncomputable def pwB : Code := match f_rimeref04_power.body with | some c => (match bodiesOf 0 c with | [.loop b] => b | _ => .skip) | none => .skip
def pwS (a s : Nat → Int) (i : Int) (x : Nat → Int) : St := ⟨tmOf [(2, .sc (.ptr 0 10 0 0 10)), (3, .sc (.ptr 1 32 0 0 32)), (4, .sc (.ptr 2 10 0 0 10)), (5, .sc (.ptr 3 10 0 0 10)), (6, .sc (.int .i64 i))] 32 0,
  [some (.ints .i64 10 1 (fun _ d => a d)), some (.ints .u8 32 1 (fun _ d => s d)), some (.ints .i64 10 1 (fun _ _ => 0)), some (.ints .i64 10 1 (fun _ d => x d))]⟩
def pwT (x : Nat → Int) : St := ⟨tmOf [(4, .sc (.ptr 2 10 0 0 10)), (5, .sc (.ptr 3 10 0 0 10))] 32 0, [none, none, some (.ints .i64 10 1 (fun _ _ => 0)), some (.ints .i64 10 1 (fun _ d => x d))]⟩
def ones8 : List Bool := [true, true, true, true, true, true, true, true]
def onCk (a : List Int) (s : Nat → Int) (v : Int) : Nat → List Int → List Bool
  | 0, _ => []
  | k + 1, r => (gd10 (q10 r) && gd10 (q10 r)) :: inR v 32 :: ((iand .u8 (ishr .u8 (s (0 + v.toNat * 1)) (k : Int)) 1 == 1) == true) :: (gd10 (q10 (tG r r)) && gd10 (q10 a)) :: onCk a s v k (tG (tG r r) a)
theorem pw_ones (a s : Nat → Int) (v v' : Int) (x x' : Nat → Int) : roundR pwE [(10, true), (27, true)] 12 4 [] pwB (pwS a s v x) .normal (pwS a s v' x') =
    some (ckL ((decide (v ≥ 0) == true) :: onCk (l10 a) s v 8 (l10 x)) && stR (rnm 4 []) (pwS a s (wr .i64 (v - 1)) (lf (pwG (l10 a) ones8 (l10 x)))) (pwS a s v' x')) := by kernel_rfl
theorem pw_exit (a s : Nat → Int) (x x' : Nat → Int) : roundR pwE [] 12 4 [] pwB (pwS a s (-1) x) (.exit 0) (pwT x') = some (true && stR (rnm 4 []) (pwT x) (pwT x')) := by kernel_rfl
def b31I : List Bool := [false, true, true, true, true, true, true, true]
def b0I : List Bool := [true, true, true, false, true, false, true, true]
theorem pw_31I (a : Nat → Int) (x x' : Nat → Int) : roundR pwE [] 12 4 [] pwB (pwS a (lf eIL) 31 x) .normal (pwS a (lf eIL) 30 x') =
    some (ckL (pwCk (l10 a) b31I (l10 x)) && stR (rnm 4 []) (pwS a (lf eIL) 30 (lf (pwG (l10 a) b31I (l10 x)))) (pwS a (lf eIL) 30 x')) := by kernel_rfl
theorem pw_0I (a : Nat → Int) (x x' : Nat → Int) : roundR pwE [] 12 4 [] pwB (pwS a (lf eIL) 0 x) .normal (pwS a (lf eIL) (-1) x') =
    some (ckL (pwCk (l10 a) b0I (l10 x)) && stR (rnm 4 []) (pwS a (lf eIL) (-1) (lf (pwG (l10 a) b0I (l10 x)))) (pwS a (lf eIL) (-1) x')) := by kernel_rfl
def b31E : List Bool := [false, false, false, false, true, true, true, true]
def b0E : List Bool := [true, true, true, true, true, true, false, true]
theorem pw_31E (a : Nat → Int) (x x' : Nat → Int) : roundR pwE [] 12 4 [] pwB (pwS a (lf eEL) 31 x) .normal (pwS a (lf eEL) 30 x') =
    some (ckL (pwCk (l10 a) b31E (l10 x)) && stR (rnm 4 []) (pwS a (lf eEL) 30 (lf (pwG (l10 a) b31E (l10 x)))) (pwS a (lf eEL) 30 x')) := by kernel_rfl
theorem pw_0E (a : Nat → Int) (x x' : Nat → Int) : roundR pwE [] 12 4 [] pwB (pwS a (lf eEL) 0 x) .normal (pwS a (lf eEL) (-1) x') =
    some (ckL (pwCk (l10 a) b0E (l10 x)) && stR (rnm 4 []) (pwS a (lf eEL) (-1) (lf (pwG (l10 a) b0E (l10 x)))) (pwS a (lf eEL) (-1) x')) := by kernel_rfl
end Go.Proofs.YtjebjiakggmjhaaGreat
namespace Go.Proofs.YtjebjiakggmjhaaGreat
open Go.Proofs.Tryz
open Go Go.AM
theorem pw_same {a s : Nat → Int} {v v' : Int} {f g : Nat → Int} (hv : v = v') (h : ∀ d, d < 10 → f d = g d) : stR (rnm 4 []) (pwS a s v f) (pwS a s v' g) = true := by
  subst hv
  have e : eqF 1 10 (fun _ d => f d) (fun _ d => g d) = true := eqF_of fun r _ d hd => h d hd
  simp [stR, pwS, tmOf, tmR, avR, svR, rIs, rnm, kEq_refl, eqF_refl, hpR, blkR, ndR, e]
  decide
theorem pw_sameT {f g : Nat → Int} (h : ∀ d, d < 10 → f d = g d) : stR (rnm 4 []) (pwT f) (pwT g) = true := by
  have e : eqF 1 10 (fun _ d => f d) (fun _ d => g d) = true := eqF_of fun r _ d hd => h d hd
  simp [stR, pwT, tmOf, tmR, avR, svR, rIs, rnm, kEq_refl, eqF_refl, hpR, blkR, ndR, e]
  decide
theorem on_bit : ∀ k : Nat, k < 8 → (iand .u8 (ishr .u8 255 (k : Int)) 1 == 1) = true := by decide
theorem onCk_law {a : List Int} (ha : gd10 a = true) {s : Nat → Int} {v : Int} (hv : inR v 32 = true) (hs : s (0 + v.toNat * 1) = 255) : ∀ (k : Nat) (r : List Int), k ≤ 8 → gd10 r = true → ∀ c ∈ onCk a s v k r, c = true
  | 0, r, _, _, c, hc => by simp [onCk] at hc
  | k + 1, r, hk, hr, c, hc => by
    have h2 := tG_gd hr hr
    simp only [onCk, List.mem_cons] at hc
    rcases hc with rfl | rfl | rfl | rfl | hc
    · exact and_t.2 ⟨hr, hr⟩
    · exact hv
    · rw [hs, on_bit k (by omega)]; rfl
    · exact and_t.2 ⟨h2, ha⟩
    · exact onCk_law ha hv hs k _ (by omega) (tG_gd h2 ha) c hc
def btI (k : Nat) : List Bool := match k with
  | 0 => b31I
  | 31 => b0I
  | _ => ones8
def rkI (a : List Int) : Nat → List Int
  | 0 => one10
  | k + 1 => pwG a (btI k) (q10 (rkI a k))
def nkI : Nat → Nat
  | 0 => 0
  | k + 1 => bitsV (nkI k) (btI k)
theorem nkI_val : nkI 32 = 57896044618658097711785492504343953926634992332820282019728792003956564819947 := by decide +kernel
theorem rkI_law {a : List Int} (ha : gd10 a = true) : ∀ k, gd10 (rkI a k) = true ∧ gm (rkI a k) = powM (gm a) (nkI k)
  | 0 => one10_law _
  | k + 1 => by
    obtain ⟨h1, h2⟩ := rkI_law ha k
    obtain ⟨q1, q2, q3⟩ := pwG_law ha (btI k) (q10 (rkI a k)) (nkI k) h1 h2
    exact ⟨q1, q2⟩
def pwWI (a : Nat → Int) (k : Nat) : St := pwS a (lf eIL) (31 - (k : Int)) (lf (rkI (l10 a) k))
def pwFI (a : Nat → Int) : LF := famA 4 [] (pwWI a 0) (gd10 (l10 a)) .normal (pwT (lf (rkI (l10 a) 32)))
theorem midI : ∀ k, k < 31 → 0 < k → lf eIL (0 + (31 - k) * 1) = 255 ∧ btI k = ones8 := by decide
def btE (k : Nat) : List Bool := match k with
  | 0 => b31E
  | 31 => b0E
  | _ => ones8
def rkE (a : List Int) : Nat → List Int
  | 0 => one10
  | k + 1 => pwG a (btE k) (q10 (rkE a k))
def nkE : Nat → Nat
  | 0 => 0
  | k + 1 => bitsV (nkE k) (btE k)
theorem nkE_val : nkE 32 = 7237005577332262213973186563042994240829374041602535252466099000494570602493 := by decide +kernel
theorem rkE_law {a : List Int} (ha : gd10 a = true) : ∀ k, gd10 (rkE a k) = true ∧ gm (rkE a k) = powM (gm a) (nkE k)
  | 0 => one10_law _
  | k + 1 => by
    obtain ⟨h1, h2⟩ := rkE_law ha k
    obtain ⟨q1, q2, q3⟩ := pwG_law ha (btE k) (q10 (rkE a k)) (nkE k) h1 h2
    exact ⟨q1, q2⟩
def pwWE (a : Nat → Int) (k : Nat) : St := pwS a (lf eEL) (31 - (k : Int)) (lf (rkE (l10 a) k))
def pwFE (a : Nat → Int) : LF := famA 4 [] (pwWE a 0) (gd10 (l10 a)) .normal (pwT (lf (rkE (l10 a) 32)))
theorem midE : ∀ k, k < 31 → 0 < k → lf eEL (0 + (31 - k) * 1) = 255 ∧ btE k = ones8 := by decide
theorem pw_body : f_rimeref04_power.body.map (bodiesOf 0) = some [.loop pwB] := by kernel_rfl
theorem pw_ok : codeOK prog pwE.env.isW pwB = true := by kernel_rfl
set_option maxRecDepth 100000 in
theorem l_pwI (a : Nat → Int) : LRow prog f_rimeref04_power 0 (pwFI a) := by
  refine LRow.famA (N := 12) (S := pwWI a) (GX5.env []) mix 32 (loop_of pw_body) pw_ok (fun w0 own0 => accOK_none (fun id => rfl) pwB) (fun _ _ => Nat.le_refl _) (Nat.le_refl _) fun ha => ?_
  refine ⟨fun k hk => ?_, ?_⟩
  · obtain ⟨h1, h2⟩ := rkI_law ha k
    obtain ⟨q1, q2, q3⟩ := pwG_law ha (btI k) (q10 (rkI (l10 a) k)) (nkI k) h1 h2
    by_cases k0 : k = 0
    · subst k0
      exact roundR_toR (pw_31I a (lf (rkI (l10 a) 0)) (lf (rkI (l10 a) 1))) (and_t.2 ⟨ckL_t.2 q3, pw_same rfl fun _ _ => rfl⟩)
    · by_cases k31 : k = 31
      · subst k31
        exact roundR_toR (pw_0I a (lf (rkI (l10 a) 31)) (lf (rkI (l10 a) 32))) (and_t.2 ⟨ckL_t.2 q3, pw_same rfl fun _ _ => rfl⟩)
      · obtain ⟨m1, m2⟩ := midI k (by omega) (by omega)
        have hv : (31 - (k : Int)).toNat = 31 - k := by omega
        refine roundR_toR (pw_ones a (lf eIL) (31 - (k : Int)) (31 - ((k + 1 : Nat) : Int)) (lf (rkI (l10 a) k)) (lf (rkI (l10 a) (k + 1)))) (and_t.2 ⟨ckL_t.2 fun c hc => ?_, pw_same ((wr_i64 (by omega) (by omega)).trans (by omega)) fun d _ => ?_⟩)
        · simp only [List.mem_cons] at hc
          rcases hc with rfl | hc
          · rw [decide_eq_true (by omega)]; rfl
          · exact onCk_law ha (by simp [inR]; omega) (by rw [hv]; exact m1) 8 _ (Nat.le_refl _) h1 c hc
        · show lf (pwG (l10 a) ones8 _) d = lf (pwG (l10 a) (btI k) _) d
          rw [m2]; rfl
  · obtain ⟨s1, r, q1, q2, q3⟩ := roundR_toR (n := 4) (pw_exit a (lf eIL) (lf (rkI (l10 a) 32)) (lf (rkI (l10 a) 32))) (and_t.2 ⟨rfl, pw_sameT fun _ _ => rfl⟩)
    exact ⟨_, s1, r, q1, rfl, q2, q3⟩
theorem c_pwI (a : Nat → Int) : fnChk prog (envL tt gx5 [] [(0, pwFI a)]) f_rimeref04_power = true := by kernel_rfl
set_option maxRecDepth 100000 in
theorem k_pwI (a : Nat → Int) : outP (apFunc (envL tt gx5 [] [(0, pwFI a)]) [] 5 f_rimeref04_power [u10 a, u8s 32 (lf eIL)] []) =
    some (ckL [gd10 (l10 a) && stR (rnm 4 []) (pwS a (lf eIL) 31 (lf one10)) (pwWI a 0)], u10 (lf (q10 (rkI (l10 a) 32)))) := by kernel_rfl
theorem p_pwI (a : Nat → Int) (ha : gd10 (l10 a) = true) : Pure prog F_rimeref04_power [u10 a, u8s 32 (lf eIL)] (u10 (lf (q10 (rkI (l10 a) 32)))) := by
  refine pure_of_outL GX5 at_rimeref04_power (LsOK.nil.cons (l_pwI a)) (c_pwI a) (N := 5) (gs := []) ?_
  have e := k_pwI a
  rw [ha, show stR (rnm 4 []) (pwS a (lf eIL) 31 (lf one10)) (pwWI a 0) = true from pw_same rfl fun _ _ => rfl] at e
  exact e
set_option maxRecDepth 100000 in
theorem l_pwE (a : Nat → Int) : LRow prog f_rimeref04_power 0 (pwFE a) := by
  refine LRow.famA (N := 12) (S := pwWE a) (GX5.env []) mix 32 (loop_of pw_body) pw_ok (fun w0 own0 => accOK_none (fun id => rfl) pwB) (fun _ _ => Nat.le_refl _) (Nat.le_refl _) fun ha => ?_
  refine ⟨fun k hk => ?_, ?_⟩
  · obtain ⟨h1, h2⟩ := rkE_law ha k
    obtain ⟨q1, q2, q3⟩ := pwG_law ha (btE k) (q10 (rkE (l10 a) k)) (nkE k) h1 h2
    by_cases k0 : k = 0
    · subst k0
      exact roundR_toR (pw_31E a (lf (rkE (l10 a) 0)) (lf (rkE (l10 a) 1))) (and_t.2 ⟨ckL_t.2 q3, pw_same rfl fun _ _ => rfl⟩)
    · by_cases k31 : k = 31
      · subst k31
        exact roundR_toR (pw_0E a (lf (rkE (l10 a) 31)) (lf (rkE (l10 a) 32))) (and_t.2 ⟨ckL_t.2 q3, pw_same rfl fun _ _ => rfl⟩)
      · obtain ⟨m1, m2⟩ := midE k (by omega) (by omega)
        have hv : (31 - (k : Int)).toNat = 31 - k := by omega
        refine roundR_toR (pw_ones a (lf eEL) (31 - (k : Int)) (31 - ((k + 1 : Nat) : Int)) (lf (rkE (l10 a) k)) (lf (rkE (l10 a) (k + 1)))) (and_t.2 ⟨ckL_t.2 fun c hc => ?_, pw_same ((wr_i64 (by omega) (by omega)).trans (by omega)) fun d _ => ?_⟩)
        · simp only [List.mem_cons] at hc
          rcases hc with rfl | hc
          · rw [decide_eq_true (by omega)]; rfl
          · exact onCk_law ha (by simp [inR]; omega) (by rw [hv]; exact m1) 8 _ (Nat.le_refl _) h1 c hc
        · show lf (pwG (l10 a) ones8 _) d = lf (pwG (l10 a) (btE k) _) d
          rw [m2]; rfl
  · obtain ⟨s1, r, q1, q2, q3⟩ := roundR_toR (n := 4) (pw_exit a (lf eEL) (lf (rkE (l10 a) 32)) (lf (rkE (l10 a) 32))) (and_t.2 ⟨rfl, pw_sameT fun _ _ => rfl⟩)
    exact ⟨_, s1, r, q1, rfl, q2, q3⟩
theorem c_pwE (a : Nat → Int) : fnChk prog (envL tt gx5 [] [(0, pwFE a)]) f_rimeref04_power = true := by kernel_rfl
set_option maxRecDepth 100000 in
theorem k_pwE (a : Nat → Int) : outP (apFunc (envL tt gx5 [] [(0, pwFE a)]) [] 5 f_rimeref04_power [u10 a, u8s 32 (lf eEL)] []) =
    some (ckL [gd10 (l10 a) && stR (rnm 4 []) (pwS a (lf eEL) 31 (lf one10)) (pwWE a 0)], u10 (lf (q10 (rkE (l10 a) 32)))) := by kernel_rfl
theorem p_pwE (a : Nat → Int) (ha : gd10 (l10 a) = true) : Pure prog F_rimeref04_power [u10 a, u8s 32 (lf eEL)] (u10 (lf (q10 (rkE (l10 a) 32)))) := by
  refine pure_of_outL GX5 at_rimeref04_power (LsOK.nil.cons (l_pwE a)) (c_pwE a) (N := 5) (gs := []) ?_
  have e := k_pwE a
  rw [ha, show stR (rnm 4 []) (pwS a (lf eEL) 31 (lf one10)) (pwWE a 0) = true from pw_same rfl fun _ _ => rfl] at e
  exact e
def tPowerG : TF := fun args => match args with
  | [.agg [.ints .i64 10 a], .agg [.ints .u8 32 s]] => (match eqN 32 s (lf eIL) with
    | true => some (gd10 (l10 a), u10 (lf (q10 (rkI (l10 a) 32))))
    | false => some (gd10 (l10 a) && eqN 32 s (lf eEL), u10 (lf (q10 (rkE (l10 a) 32)))))
  | _ => none
theorem RG_eqN {σ : Sg} {pr : Pr} {w : World} {k : IntKind} {n : Nat} {f g : Nat → Int} (h : eqN n f g = true) {v : Value} (hv : RV σ pr w (.agg [.ints k n f]) v) : RV σ pr w (.agg [.ints k n g]) v := by
  obtain ⟨cs, rfl, h1, h2⟩ := hv
  refine ⟨cs, rfl, h1, fun c x hx => ?_⟩
  have hc : c < n := by
    have := (List.getElem?_eq_some_iff.1 hx).1
    rw [h1] at this
    simpa [lenS] using this
  have := h2 c x hx
  have e : f c = g c := eqN_t h c hc
  show RS σ pr w (.int k (g c)) x
  rw [← e]; exact this
theorem pure_eqN {f : FuncId} {a : AV} {k : IntKind} {n : Nat} {s s' : Nat → Int} {r : AV} (h : eqN n s s' = true) (hP : Pure prog f [a, .agg [.ints k n s']] r) : Pure prog f [a, .agg [.ints k n s]] r := by
  intro pr w vs ha hlt
  refine hP pr w vs ⟨by simpa using ha.1, fun j x v e1 e2 => ?_⟩ hlt
  match j, e1 with
  | 0, e1 => exact ha.2 0 x v (by simpa using e1) e2
  | 1, e1 =>
    simp only [List.getElem?_cons_succ, List.getElem?_cons_zero, Option.some.injEq] at e1
    subst e1
    exact RG_eqN h (ha.2 1 _ v rfl e2)
  | j + 2, e1 => simp at e1
theorem r_powerG : TRow prog F_rimeref04_power tPowerG := by
  intro args r h
  unfold tPowerG at h
  split at h
  case h_2 => simp at h
  rename_i a s
  split at h
  · rename_i hs
    simp only [Option.some.injEq, Prod.mk.injEq] at h
    obtain ⟨ha, rfl⟩ := h
    exact pure_eqN hs (p_pwI a ha)
  · simp only [Option.some.injEq, Prod.mk.injEq, Bool.and_eq_true] at h
    obtain ⟨⟨ha, hs⟩, rfl⟩ := h
    exact pure_eqN hs (p_pwE a ha)
end Go.Proofs.YtjebjiakggmjhaaGreat
namespace Go.Proofs.YtjebjiakggmjhaaGreat
open Go.Proofs.Tryz
open Go Go.AM
def tExpG : TF := fun args => match args with
  | [.sc (.int .u8 l), .sc (.int .i64 h)] => (match decide (l = 2) && decide (h = 0) with
    | true => some (true, u8s 32 (lf eIL))
    | false => some (decide (l = 0) && decide (h = 3), u8s 32 (lf eEL)))
  | _ => none
theorem c_expG : fnChk prog (envP tt gx5 []) f_rimeref04_exponent = true := by kernel_rfl
theorem r_expG : TRow prog F_rimeref04_exponent tExpG := by
  intro args r h
  unfold tExpG at h
  split at h
  case h_2 => simp at h
  rename_i l hh
  split at h
  · rename_i hc
    simp only [Bool.and_eq_true, decide_eq_true_eq] at hc
    obtain ⟨rfl, rfl⟩ := hc
    simp only [Option.some.injEq, Prod.mk.injEq, true_and] at h
    subst h
    exact pure_of_out GX5 at_rimeref04_exponent c_expG (N := 40) (gs := []) (by kernel_rfl)
  · simp only [Option.some.injEq, Prod.mk.injEq, Bool.and_eq_true, decide_eq_true_eq] at h
    obtain ⟨⟨rfl, rfl⟩, rfl⟩ := h
    exact pure_of_out GX5 at_rimeref04_exponent c_expG (N := 40) (gs := []) (by kernel_rfl)
noncomputable def gx6 : List (Nat × TF) := (F_rimeref04_exponent, tExpG) :: (F_rimeref04_power, tPowerG) :: gx5
theorem GX6 : LibOK prog tt gx6 [] := (GX5.addT r_powerG).addT r_expG
def invG (a : List Int) : List Int := q10 (rkI a 32)
theorem invG_law {a : List Int} (h : gd10 a = true) : gd10 (invG a) = true ∧ gm (invG a) = invM (gm a) := by
  obtain ⟨h1, h2⟩ := rkI_law h 32
  rw [nkI_val] at h2
  exact ⟨(q10_gd _).trans h1, (q10_gm _).trans h2⟩
def tInvG : TF := fun args => match args with
  | [.agg [.ints .i64 10 a]] => some (gd10 (l10 a), u10 (lf (invG (l10 a))))
  | _ => none
theorem c_invG : fnChk prog (envP tt gx6 []) f_rimeref04_Invert = true := by kernel_rfl
set_option maxRecDepth 100000 in
theorem k_invG (a : Nat → Int) : outP (apFunc (envP tt gx6 []) [] 5 f_rimeref04_Invert [u10 a] []) = some (ckL [gd10 (l10 a)], u10 (lf (invG (l10 a)))) := by kernel_rfl
theorem r_invG : TRow prog F_rimeref04_Invert tInvG := by
  intro args r h
  unfold tInvG at h
  split at h
  case h_2 => simp at h
  rename_i a
  simp only [Option.some.injEq, Prod.mk.injEq] at h
  obtain ⟨ha, rfl⟩ := h
  refine pure_of_out GX6 at_rimeref04_Invert c_invG (N := 5) (gs := []) ?_
  have e := k_invG a
  rw [ha] at e
  exact e
def gM (a b : List Int) : Bool := gd10 (q10 a) && gd10 (q10 b)
theorem gM_t {a b : List Int} (ha : gd10 a = true) (hb : gd10 b = true) : gM a b = true := and_t.2 ⟨ha, hb⟩
def gv3 (V : List Int) : List Int := tG (tG V V) V
def gw7 (U V : List Int) : List Int := tG U (tG (tG (gv3 V) (gv3 V)) V)
def gx0 (U V : List Int) : List Int := tG (tG U (gv3 V)) (q10 (rkE (q10 (gw7 U V)) 32))
def gRt (U V : List Int) : List Bool := [gM V V, gM (tG V V) V, gM (gv3 V) (gv3 V), gM (tG (gv3 V) (gv3 V)) V, gM U (tG (tG (gv3 V) (gv3 V)) V), gM U (gv3 V), gd10 (q10 (gw7 U V)) && true, gM (tG U (gv3 V)) (q10 (rkE (q10 (gw7 U V)) 32))]
theorem c_rootG : fnChk prog (envP tt gx6 []) f_rimeref04_root = true := by kernel_rfl
set_option maxRecDepth 100000 in
theorem k_rootG (u v : Nat → Int) : outP (apFunc (envP tt gx6 []) [] 5 f_rimeref04_root [u10 u, u10 v] []) = some (ckL (gRt (l10 u) (l10 v)), u10 (lf (q10 (gx0 (l10 u) (l10 v))))) := by kernel_rfl
theorem gx0_law {U V : List Int} (hu : gd10 U = true) (hv : gd10 V = true) : gd10 (gx0 U V) = true ∧ gm (gx0 U V) = rootX (gm U) (gm V) 0 ∧ gRt U V = List.replicate 8 true := by
  have hvv := tG_gd hv hv
  have h3 : gd10 (gv3 V) = true := tG_gd hvv hv
  have h33 := tG_gd h3 h3
  have h7 := tG_gd h33 hv
  have hw : gd10 (gw7 U V) = true := tG_gd hu h7
  have hu3 := tG_gd hu h3
  obtain ⟨p0, p2⟩ := rkE_law (a := q10 (gw7 U V)) ((q10_gd _).trans hw) 32
  have p1 : gd10 (q10 (rkE (q10 (gw7 U V)) 32)) = true := (q10_gd _).trans p0
  have p3 : gm (q10 (rkE (q10 (gw7 U V)) 32)) = powM (gm (gw7 U V)) 7237005577332262213973186563042994240829374041602535252466099000494570602493 := by
    rw [q10_gm, p2, nkE_val, q10_gm]
  unfold gx0 gRt
  generalize q10 (rkE (q10 (gw7 U V)) 32) = z at *
  refine ⟨tG_gd hu3 p1, ?_, ?_⟩
  · rw [tG_gm hu3 p1, p3]
    show mM (gm (tG U (gv3 V))) (powM (gm (tG U (tG (tG (gv3 V) (gv3 V)) V))) _) = _
    rw [tG_gm hu h3, tG_gm hu h7, tG_gm h33 hv, tG_gm h3 h3]
    show mM (mM (gm U) (gm (tG (tG V V) V))) (powM (mM (gm U) (mM (mM (gm (tG (tG V V) V)) (gm (tG (tG V V) V))) (gm V))) _) = _
    rw [tG_gm hvv hv, tG_gm hv hv]; rfl
  · rw [gM_t hv hv, gM_t hvv hv, gM_t h3 h3, gM_t h33 hv, gM_t hu h7, gM_t hu h3, show gd10 (q10 (gw7 U V)) = true from (q10_gd _).trans hw, gM_t hu3 p1]
    rfl
def tRootG : TF := fun args => match args with
  | [.agg [.ints .i64 10 u], .agg [.ints .i64 10 v]] => some (gd10 (l10 u) && gd10 (l10 v), u10 (lf (q10 (gx0 (l10 u) (l10 v)))))
  | _ => none
theorem r_rootG : TRow prog F_rimeref04_root tRootG := by
  intro args r h
  unfold tRootG at h
  split at h
  case h_2 => simp at h
  rename_i u v
  simp only [Option.some.injEq, Prod.mk.injEq, Bool.and_eq_true] at h
  obtain ⟨⟨hu, hv⟩, rfl⟩ := h
  refine pure_of_out GX6 at_rimeref04_root c_rootG (N := 5) (gs := []) ?_
  have e := k_rootG u v
  rw [(gx0_law hu hv).2.2] at e
  exact e
noncomputable def gx7 : List (Nat × TF) := (F_rimeref04_root, tRootG) :: (F_rimeref04_Invert, tInvG) :: gx6
theorem GX7 : LibOK prog tt gx7 [] := (GX6.addT r_invG).addT r_rootG
end Go.Proofs.YtjebjiakggmjhaaGreat
namespace Go.Proofs.YtjebjiakggmjhaaGreat
open Go.Proofs.Tryz
open Go Go.AM
def dGL : List Int := carD (lf (fromL eD))
def iGL : List Int := carD (lf (fromL iM))
def bxGL : List Int := carD (lf (fromL bxI))
def byGL : List Int := carD (lf (fromL byI))
def zer10 : List Int := [0, 0, 0, 0, 0, 0, 0, 0, 0, 0]
def idGL : List Int := zer10 ++ (one10 ++ (one10 ++ zer10))
def baGL : List Int := bxGL ++ (byGL ++ (one10 ++ q10 (tG bxGL byGL)))
def mdL : List Int := dGL ++ (iGL ++ baGL)
def gpt (p : Nat → Int) : AV := .agg [.ints .i64 40 p]
def crv (c : Nat → Int) : AV := .agg [.ints .i64 60 c]
theorem dGL_law : gd10 dGL = true ∧ gm dGL = eD := by
  obtain ⟨h1, h2, h3⟩ := fromL_law (v := eD) (by decide)
  exact ⟨h2, h3.trans (by decide)⟩
theorem iGL_law : gd10 iGL = true ∧ gm iGL = iM := by
  obtain ⟨h1, h2, h3⟩ := fromL_law (v := iM) (by decide)
  exact ⟨h2, h3.trans (by decide)⟩
def tDG : TF := fun args => match args with
  | [] => some (true, u10 (lf dGL))
  | _ => none
theorem c_DG : fnChk prog (envP tt gx7 []) f_rimeref04_D = true := by kernel_rfl
theorem r_DG : TRow prog F_rimeref04_D tDG := by
  intro args r h
  unfold tDG at h
  split at h
  case h_2 => simp at h
  simp only [Option.some.injEq, Prod.mk.injEq, true_and] at h
  subst h
  exact pure_of_out GX7 at_rimeref04_D c_DG (N := 60) (gs := []) (by kernel_rfl)
def tSqrtM1G : TF := fun args => match args with
  | [] => some (true, u10 (lf iGL))
  | _ => none
theorem c_SqrtM1G : fnChk prog (envP tt gx7 []) f_rimeref04_SqrtM1 = true := by kernel_rfl
theorem r_SqrtM1G : TRow prog F_rimeref04_SqrtM1 tSqrtM1G := by
  intro args r h
  unfold tSqrtM1G at h
  split at h
  case h_2 => simp at h
  simp only [Option.some.injEq, Prod.mk.injEq, true_and] at h
  subst h
  exact pure_of_out GX7 at_rimeref04_SqrtM1 c_SqrtM1G (N := 60) (gs := []) (by kernel_rfl)
def tNoneG : TF := fun args => match args with
  | [] => some (true, gpt (lf idGL))
  | _ => none
theorem c_NoneG : fnChk prog (envP tt gx7 []) f_rimeref04_None = true := by kernel_rfl
theorem r_NoneG : TRow prog F_rimeref04_None tNoneG := by
  intro args r h
  unfold tNoneG at h
  split at h
  case h_2 => simp at h
  simp only [Option.some.injEq, Prod.mk.injEq, true_and] at h
  subst h
  exact pure_of_out GX7 at_rimeref04_None c_NoneG (N := 60) (gs := []) (by kernel_rfl)
def tAffG : TF := fun args => match args with
  | [.agg [.ints .i64 10 x], .agg [.ints .i64 10 y]] => some (gd10 (l10 x) && gd10 (l10 y), gpt (lf (q10 (l10 x) ++ (q10 (l10 y) ++ (one10 ++ q10 (tG (l10 x) (l10 y)))))))
  | _ => none
theorem c_affG : fnChk prog (envP tt gx7 []) f_rimeref04_Affine = true := by kernel_rfl
theorem k_affG (x y : Nat → Int) : outP (apFunc (envP tt gx7 []) [] 5 f_rimeref04_Affine [u10 x, u10 y] []) = some (ckL [gM (l10 x) (l10 y)], gpt (lf (q10 (l10 x) ++ (q10 (l10 y) ++ (one10 ++ q10 (tG (l10 x) (l10 y))))))) := by kernel_rfl
theorem r_affG : TRow prog F_rimeref04_Affine tAffG := by
  intro args r h
  unfold tAffG at h
  split at h
  case h_2 => simp at h
  rename_i x y
  simp only [Option.some.injEq, Prod.mk.injEq, Bool.and_eq_true] at h
  obtain ⟨⟨hx, hy⟩, rfl⟩ := h
  refine pure_of_out GX7 at_rimeref04_Affine c_affG (N := 5) (gs := []) ?_
  have e := k_affG x y
  rw [gM_t hx hy] at e
  exact e
noncomputable def gx8 : List (Nat × TF) := (F_rimeref04_Affine, tAffG) :: (F_rimeref04_None, tNoneG) :: (F_rimeref04_SqrtM1, tSqrtM1G) :: (F_rimeref04_D, tDG) :: gx7
theorem GX8 : LibOK prog tt gx8 [] := (((GX7.addT r_DG).addT r_SqrtM1G).addT r_NoneG).addT r_affG
def tMadeG : TF := fun args => match args with
  | [] => some (true, crv (lf mdL))
  | _ => none
theorem c_MadeG : fnChk prog (envP tt gx8 []) f_rimeref04_Made = true := by kernel_rfl
theorem r_MadeG : TRow prog F_rimeref04_Made tMadeG := by
  intro args r h
  unfold tMadeG at h
  split at h
  case h_2 => simp at h
  simp only [Option.some.injEq, Prod.mk.injEq, true_and] at h
  subst h
  exact pure_of_out GX8 at_rimeref04_Made c_MadeG (N := 60) (gs := []) (by kernel_rfl)
def gX (p : Nat → Int) : List Int := [p 0, p 1, p 2, p 3, p 4, p 5, p 6, p 7, p 8, p 9]
def gY (p : Nat → Int) : List Int := [p 10, p 11, p 12, p 13, p 14, p 15, p 16, p 17, p 18, p 19]
def gZ (p : Nat → Int) : List Int := [p 20, p 21, p 22, p 23, p 24, p 25, p 26, p 27, p 28, p 29]
def gT_ptg2 (p : Nat → Int) : List Int := [p 30, p 31, p 32, p 33, p 34, p 35, p 36, p 37, p 38, p 39]
def aG (a b : List Int) : List Int := addG (q10 a) (q10 b)
def sG (a b : List Int) : List Int := subG (q10 a) (q10 b)
def ptAddG (p q : Nat → Int) : List Int :=
  let a := tG (gX p) (gX q)
  let b := tG (gY p) (gY q)
  let e := tG dGL (tG (gT_ptg2 p) (gT_ptg2 q))
  let z := tG (gZ p) (gZ q)
  let x := sG (sG (tG (aG (gX p) (gY p)) (aG (gX q) (gY q))) a) b
  let f := sG z e
  let g := aG z e
  let h := aG b a
  tG x f ++ (tG g h ++ (tG f g ++ tG x h))
def ptAddGCk (p q : Nat → Int) : List Bool :=
  let a := tG (gX p) (gX q)
  let b := tG (gY p) (gY q)
  let e := tG dGL (tG (gT_ptg2 p) (gT_ptg2 q))
  let z := tG (gZ p) (gZ q)
  let s := tG (aG (gX p) (gY p)) (aG (gX q) (gY q))
  let x := sG (sG s a) b
  let f := sG z e
  let g := aG z e
  let h := aG b a
  [gM (gX p) (gX q), gM (gY p) (gY q), gM (gT_ptg2 p) (gT_ptg2 q), gM dGL (tG (gT_ptg2 p) (gT_ptg2 q)), gM (gZ p) (gZ q), gM (gX p) (gY p), gM (gX q) (gY q), gM (aG (gX p) (gY p)) (aG (gX q) (gY q)), gM s a, gM (sG s a) b, gM z e, gM z e, gM b a, gM x f, gM g h, gM f g, gM x h]
theorem c_SumG : fnChk prog (envP tt gx8 []) f_rimeref04_Curve_Sum = true := by kernel_rfl
theorem k_SumG (p q : Nat → Int) : (outP (apFunc (envP tt gx8 []) [] 5 f_rimeref04_Curve_Sum [crv (lf mdL), gpt p, gpt q] [])).map (·.2) = some (gpt (lf (ptAddG p q))) := by kernel_rfl
theorem ck_SumG (p q : Nat → Int) : (outP (apFunc (envP tt gx8 []) [] 5 f_rimeref04_Curve_Sum [crv (lf mdL), gpt p, gpt q] [])).map (·.1) = some (ckL (ptAddGCk p q)) := by kernel_rfl
end Go.Proofs.YtjebjiakggmjhaaGreat
namespace Go.Proofs.YtjebjiakggmjhaaGreat
open Go.Proofs.Tryz
open Go Go.AM
def gdP (p : Nat → Int) : Bool := gd10 (gX p) && (gd10 (gY p) && (gd10 (gZ p) && gd10 (gT_ptg2 p)))
def vG (p : Nat → Int) : Q4 := (gm (gX p), gm (gY p), gm (gZ p), gm (gT_ptg2 p))
theorem gdP_t {p : Nat → Int} : gdP p = true ↔ gd10 (gX p) = true ∧ gd10 (gY p) = true ∧ gd10 (gZ p) = true ∧ gd10 (gT_ptg2 p) = true := by simp only [gdP, Bool.and_eq_true]
theorem aG_gd {a b : List Int} (ha : gd10 a = true) (hb : gd10 b = true) : gd10 (aG a b) = true := (addG_law (a := q10 a) (b := q10 b) ha hb).2.1
theorem sG_gd {a b : List Int} (ha : gd10 a = true) (hb : gd10 b = true) : gd10 (sG a b) = true := (subG_law (a := q10 a) (b := q10 b) ha hb).2.1
theorem aG_gm {a b : List Int} (ha : gd10 a = true) (hb : gd10 b = true) : gm (aG a b) = mA (gm a) (gm b) := addG_gm (a := q10 a) (b := q10 b) ha hb
theorem sG_gm {a b : List Int} (ha : gd10 a = true) (hb : gd10 b = true) : gm (sG a b) = mS (gm a) (gm b) := subG_gm (a := q10 a) (b := q10 b) ha hb
theorem four_g {a b c d : List Int} (ha : a.length = 10) (hb : b.length = 10) (hc : c.length = 10) (hd : d.length = 10) : gX (lf (a ++ (b ++ (c ++ d)))) = a ∧ gY (lf (a ++ (b ++ (c ++ d)))) = b ∧ gZ (lf (a ++ (b ++ (c ++ d)))) = c ∧ gT_ptg2 (lf (a ++ (b ++ (c ++ d)))) = d := by
  match a, ha with
  | [a0, a1, a2, a3, a4, a5, a6, a7, a8, a9], _ =>
    match b, hb with
    | [b0, b1, b2, b3, b4, b5, b6, b7, b8, b9], _ =>
      match c, hc with
      | [c0, c1, c2, c3, c4, c5, c6, c7, c8, c9], _ =>
        match d, hd with
        | [d0, d1, d2, d3, d4, d5, d6, d7, d8, d9], _ => exact ⟨rfl, rfl, rfl, rfl⟩
theorem tG_len (a b : List Int) : (tG a b).length = 10 := rfl
theorem mM_assoc (a b c : Int) : mM a (mM b c) = mM (mM a b) c := by
  unfold mM
  rw [md_mul_r, md_mul_l, Int.mul_assoc]
theorem zer10_law : gd10 zer10 = true ∧ gm zer10 = 0 := by decide
theorem ptAddG_law {p q : Nat → Int} (hp : gdP p = true) (hq : gdP q = true) : gdP (lf (ptAddG p q)) = true ∧ vG (lf (ptAddG p q)) = addS (vG p) (vG q) ∧ ckL (ptAddGCk p q) = true := by
  obtain ⟨p1, p2, p3, p4⟩ := gdP_t.1 hp
  obtain ⟨q1, q2, q3, q4⟩ := gdP_t.1 hq
  have a := tG_gd p1 q1
  have b := tG_gd p2 q2
  have t := tG_gd p4 q4
  have e := tG_gd dGL_law.1 t
  have z := tG_gd p3 q3
  have s1 := aG_gd p1 p2
  have s2 := aG_gd q1 q2
  have m := tG_gd s1 s2
  have x0 := sG_gd m a
  have x := sG_gd x0 b
  have f := sG_gd z e
  have g := aG_gd z e
  have h := aG_gd b a
  unfold ptAddG ptAddGCk
  dsimp only
  have ea := tG_gm p1 q1
  have eb := tG_gm p2 q2
  have ee : gm (tG dGL (tG (gT_ptg2 p) (gT_ptg2 q))) = mM (mM eD (gm (gT_ptg2 p))) (gm (gT_ptg2 q)) := by rw [tG_gm dGL_law.1 t, tG_gm p4 q4, dGL_law.2, mM_assoc]
  have ez := tG_gm p3 q3
  have ex : gm (sG (sG (tG (aG (gX p) (gY p)) (aG (gX q) (gY q))) (tG (gX p) (gX q))) (tG (gY p) (gY q))) = mS (mS (mM (mA (gm (gX p)) (gm (gY p))) (mA (gm (gX q)) (gm (gY q)))) (mM (gm (gX p)) (gm (gX q)))) (mM (gm (gY p)) (gm (gY q))) := by
    rw [sG_gm x0 b, sG_gm m a, tG_gm s1 s2, aG_gm p1 p2, aG_gm q1 q2, ea, eb]
  have ef : gm (sG (tG (gZ p) (gZ q)) (tG dGL (tG (gT_ptg2 p) (gT_ptg2 q)))) = mS (mM (gm (gZ p)) (gm (gZ q))) (mM (mM eD (gm (gT_ptg2 p))) (gm (gT_ptg2 q))) := by rw [sG_gm z e, ez, ee]
  have eg : gm (aG (tG (gZ p) (gZ q)) (tG dGL (tG (gT_ptg2 p) (gT_ptg2 q)))) = mA (mM (gm (gZ p)) (gm (gZ q))) (mM (mM eD (gm (gT_ptg2 p))) (gm (gT_ptg2 q))) := by rw [aG_gm z e, ez, ee]
  have eh : gm (aG (tG (gY p) (gY q)) (tG (gX p) (gX q))) = mA (mM (gm (gY p)) (gm (gY q))) (mM (gm (gX p)) (gm (gX q))) := by rw [aG_gm b a, ea, eb]
  refine ⟨?_, ?_, ?_⟩
  · obtain ⟨x1, x2, x3, x4⟩ := four_g (tG_len _ _) (tG_len _ _) (tG_len _ _) (tG_len _ _) (a := tG (sG (sG (tG (aG (gX p) (gY p)) (aG (gX q) (gY q))) (tG (gX p) (gX q))) (tG (gY p) (gY q))) (sG (tG (gZ p) (gZ q)) (tG dGL (tG (gT_ptg2 p) (gT_ptg2 q)))))
      (b := tG (aG (tG (gZ p) (gZ q)) (tG dGL (tG (gT_ptg2 p) (gT_ptg2 q)))) (aG (tG (gY p) (gY q)) (tG (gX p) (gX q)))) (c := tG (sG (tG (gZ p) (gZ q)) (tG dGL (tG (gT_ptg2 p) (gT_ptg2 q)))) (aG (tG (gZ p) (gZ q)) (tG dGL (tG (gT_ptg2 p) (gT_ptg2 q)))))
      (d := tG (sG (sG (tG (aG (gX p) (gY p)) (aG (gX q) (gY q))) (tG (gX p) (gX q))) (tG (gY p) (gY q))) (aG (tG (gY p) (gY q)) (tG (gX p) (gX q))))
    exact gdP_t.2 ⟨by rw [x1]; exact tG_gd x f, by rw [x2]; exact tG_gd g h, by rw [x3]; exact tG_gd f g, by rw [x4]; exact tG_gd x h⟩
  · obtain ⟨x1, x2, x3, x4⟩ := four_g (tG_len _ _) (tG_len _ _) (tG_len _ _) (tG_len _ _) (a := tG (sG (sG (tG (aG (gX p) (gY p)) (aG (gX q) (gY q))) (tG (gX p) (gX q))) (tG (gY p) (gY q))) (sG (tG (gZ p) (gZ q)) (tG dGL (tG (gT_ptg2 p) (gT_ptg2 q)))))
      (b := tG (aG (tG (gZ p) (gZ q)) (tG dGL (tG (gT_ptg2 p) (gT_ptg2 q)))) (aG (tG (gY p) (gY q)) (tG (gX p) (gX q)))) (c := tG (sG (tG (gZ p) (gZ q)) (tG dGL (tG (gT_ptg2 p) (gT_ptg2 q)))) (aG (tG (gZ p) (gZ q)) (tG dGL (tG (gT_ptg2 p) (gT_ptg2 q)))))
      (d := tG (sG (sG (tG (aG (gX p) (gY p)) (aG (gX q) (gY q))) (tG (gX p) (gX q))) (tG (gY p) (gY q))) (aG (tG (gY p) (gY q)) (tG (gX p) (gX q))))
    unfold vG
    rw [x1, x2, x3, x4, tG_gm x f, tG_gm g h, tG_gm f g, tG_gm x h, ex, ef, eg, eh]
    rfl
  · rw [gM_t p1 q1, gM_t p2 q2, gM_t p4 q4, gM_t dGL_law.1 t, gM_t p3 q3, gM_t p1 p2, gM_t q1 q2, gM_t s1 s2, gM_t m a, gM_t x0 b, gM_t z e, gM_t b a, gM_t x f, gM_t g h, gM_t f g, gM_t x h]
    rfl
def tSumG : TF := fun args => match args with
  | [.agg [.ints .i64 60 c], .agg [.ints .i64 40 p], .agg [.ints .i64 40 q]] => some (eqN 60 c (lf mdL) && (gdP p && gdP q), gpt (lf (ptAddG p q)))
  | _ => none
theorem pure_first {f : FuncId} {l : List AV} {k : IntKind} {n : Nat} {s s' : Nat → Int} {r : AV} (h : eqN n s s' = true) (hP : Pure prog f (.agg [.ints k n s'] :: l) r) : Pure prog f (.agg [.ints k n s] :: l) r := by
  intro pr w vs ha hlt
  refine hP pr w vs ⟨by simpa using ha.1, fun j x v e1 e2 => ?_⟩ hlt
  cases j with
  | zero =>
    simp only [List.getElem?_cons_zero, Option.some.injEq] at e1
    subst e1
    exact RG_eqN h (ha.2 0 _ v rfl e2)
  | succ j => exact ha.2 (j + 1) x v (by simpa using e1) e2
theorem r_SumG : TRow prog F_rimeref04_Curve_Sum tSumG := by
  intro args r h
  unfold tSumG at h
  split at h
  case h_2 => simp at h
  rename_i c p q
  simp only [Option.some.injEq, Prod.mk.injEq, Bool.and_eq_true] at h
  obtain ⟨⟨hc, hp, hq⟩, rfl⟩ := h
  refine pure_first hc (pure_of_out GX8 at_rimeref04_Curve_Sum c_SumG (N := 5) (gs := []) ?_)
  have e := both (ck_SumG p q) (k_SumG p q)
  rw [(ptAddG_law hp hq).2.2] at e
  exact e
noncomputable def gx9 : List (Nat × TF) := (F_rimeref04_Curve_Sum, tSumG) :: (F_rimeref04_Made, tMadeG) :: gx8
theorem GX9 : LibOK prog tt gx9 [] := ((GX8.addT r_MadeG).addT r_SumG)
end Go.Proofs.YtjebjiakggmjhaaGreat
namespace Go.Proofs.YtjebjiakggmjhaaGreat
open Go.Proofs.Tryz
open Go Go.AM
theorem idGL_law : gdP (lf idGL) = true ∧ vG (lf idGL) = idS4 := by decide
theorem tg_ext {p q : Nat → Int} (h : ∀ d, d < 40 → p d = q d) : gX p = gX q ∧ gY p = gY q ∧ gZ p = gZ q ∧ gT_ptg2 p = gT_ptg2 q := by
  refine ⟨?_, ?_, ?_, ?_⟩
  · unfold gX; rw [h 0 (by omega), h 1 (by omega), h 2 (by omega), h 3 (by omega), h 4 (by omega), h 5 (by omega), h 6 (by omega), h 7 (by omega), h 8 (by omega), h 9 (by omega)]
  · unfold gY; rw [h 10 (by omega), h 11 (by omega), h 12 (by omega), h 13 (by omega), h 14 (by omega), h 15 (by omega), h 16 (by omega), h 17 (by omega), h 18 (by omega), h 19 (by omega)]
  · unfold gZ; rw [h 20 (by omega), h 21 (by omega), h 22 (by omega), h 23 (by omega), h 24 (by omega), h 25 (by omega), h 26 (by omega), h 27 (by omega), h 28 (by omega), h 29 (by omega)]
  · unfold gT_ptg2; rw [h 30 (by omega), h 31 (by omega), h 32 (by omega), h 33 (by omega), h 34 (by omega), h 35 (by omega), h 36 (by omega), h 37 (by omega), h 38 (by omega), h 39 (by omega)]
theorem gdP_ext {p p' : Nat → Int} (h : ∀ d, d < 40 → p d = p' d) : gdP p = gdP p' := by
  obtain ⟨e1, e2, e3, e4⟩ := tg_ext h
  unfold gdP
  rw [e1, e2, e3, e4]
def r40 (l : List Int) : List Int := tabL (lf l) 40 0
def n40 (p : Nat → Int) : Nat → Int := lf (tabL p 40 0)
theorem n40_at (p : Nat → Int) (d : Nat) (h : d < 40) : p d = n40 p d := by
  have := lf_tab p 40 0 d h
  rw [Nat.zero_add] at this
  exact this.symm
noncomputable def gx10 : List (Nat × TF) := gx9
theorem GX10 : LibOK prog tt gx10 [] := GX9
end Go.Proofs.YtjebjiakggmjhaaGreat
namespace Go.Proofs.YtjebjiakggmjhaaGreat
open Go.Proofs.Tryz
open Go Go.AM
def xzG (p : Nat → Int) : List Int := tG (gX p) (invG (gZ p))
def yzG (p : Nat → Int) : List Int := tG (gY p) (invG (gZ p))
def tXYG : TF := fun args => match args with
  | [.agg [.ints .i64 40 p]] => some (gdP p, .tup [u10 (lf (xzG p)), u10 (lf (yzG p))])
  | _ => none
theorem c_xyG : fnChk prog (envP tt gx10 []) f_rimeref04_XY = true := by kernel_rfl
set_option maxRecDepth 100000 in
theorem k_xyG (p : Nat → Int) : outP (apFunc (envP tt gx10 []) [] 5 f_rimeref04_XY [gpt p] []) = some (ckL [gd10 (gZ p), gM (gX p) (invG (gZ p)), gM (gY p) (invG (gZ p))], .tup [u10 (lf (xzG p)), u10 (lf (yzG p))]) := by kernel_rfl
theorem r_xyG : TRow prog F_rimeref04_XY tXYG := by
  intro args r h
  unfold tXYG at h
  split at h
  case h_2 => simp at h
  rename_i p
  simp only [Option.some.injEq, Prod.mk.injEq] at h
  obtain ⟨hp, rfl⟩ := h
  obtain ⟨h1, h2, h3, h4⟩ := gdP_t.1 hp
  refine pure_of_out GX10 at_rimeref04_XY c_xyG (N := 5) (gs := []) ?_
  have e := k_xyG p
  rw [h3, gM_t h1 (invG_law h3).1, gM_t h2 (invG_law h3).1] at e
  exact e
noncomputable def gx11 : List (Nat × TF) := (F_rimeref04_XY, tXYG) :: gx10
theorem GX11 : LibOK prog tt gx11 [] := GX10.addT r_xyG
theorem xyG_law {p : Nat → Int} (h : gdP p = true) : gd10 (xzG p) = true ∧ gd10 (yzG p) = true ∧ gm (xzG p) = mM (vG p).1 (invM (vG p).2.2.1) ∧ gm (yzG p) = mM (vG p).2.1 (invM (vG p).2.2.1) := by
  obtain ⟨h1, h2, h3, h4⟩ := gdP_t.1 h
  obtain ⟨i1, i2⟩ := invG_law h3
  refine ⟨tG_gd h1 i1, tG_gd h2 i1, ?_, ?_⟩
  · show gm (tG (gX p) (invG (gZ p))) = _
    rw [tG_gm h1 i1, i2]; rfl
  · show gm (tG (gY p) (invG (gZ p))) = _
    rw [tG_gm h2 i1, i2]; rfl
def topG (X Y : List Int) (j : Nat) : Int := bif Nat.beq j 31 then ior .u8 (lf Y 31) (ishl .u8 (iand .u8 (lf X 0) 1) 7) else lf Y j
theorem c_formG : fnChk prog (envP tt gx11 []) f_rimeref04_Form = true := by kernel_rfl
set_option maxRecDepth 100000 in
theorem k_formG (p : Nat → Int) : outP (apFunc (envP tt gx11 []) [] 5 f_rimeref04_Form [gpt p] []) =
    some (ckL [gdP (fun j => p (0 + j)), gd10 (q10 (yzG p)), gd10 (q10 (xzG p))], u8s 32 (lf (tabL (topG (byL 32 (gm (q10 (xzG p)))) (byL 32 (gm (q10 (yzG p))))) 32 0))) := by kernel_rfl
theorem odd_bit {x : Int} : ishl .u8 (iand .u8 (x % 256) 1) 7 = bif decide (x % 2 = 1) then 128 else 0 := by
  have key : ∀ n : Nat, n < 256 → ishl .u8 (iand .u8 (n : Int) 1) 7 = bif decide ((n : Int) % 2 = 1) then 128 else 0 := by decide +kernel
  have := key (x % 256).toNat (by omega)
  rw [Int.toNat_of_nonneg (by omega), show x % 256 % 2 = x % 2 by omega] at this
  exact this
theorem or_zero {x : Int} (h : 0 ≤ x ∧ x < 256) : ior .u8 x 0 = x := by
  have key : ∀ n : Nat, n < 256 → ior .u8 (n : Int) 0 = (n : Int) := by decide +kernel
  have := key x.toNat (by omega)
  rwa [Int.toNat_of_nonneg h.1] at this
theorem topG_law {x y : Int} (h0 : 0 ≤ y) (h1 : y < 57896044618658097711785492504343953926634992332820282019728792003956564819968) : tabL (topG (byL 32 x) (byL 32 y)) 32 0 = byL 32 (y + x % 2 * 57896044618658097711785492504343953926634992332820282019728792003956564819968) := by
  have e0 : lf (byL 32 x) 0 = x % 256 := by rw [lf_byL 32 x 0 (by omega)]; simp
  have ex : x % 2 = 0 ∨ x % 2 = 1 := by omega
  rcases ex with q | q
  · have : ∀ c, c < 32 → topG (byL 32 x) (byL 32 y) (0 + c) = lf (byL 32 y) (0 + c) := fun c _ => by
      unfold topG
      rw [e0, odd_bit, q]
      cases hb : Nat.beq (0 + c) 31 with
      | false => rfl
      | true =>
        have := Nat.eq_of_beq_eq_true hb
        rw [this]
        have hr : 0 ≤ lf (byL 32 y) 31 ∧ lf (byL 32 y) 31 < 256 := by rw [lf_byL 32 y 31 (by omega)]; omega
        exact or_zero hr
    rw [tabL_ext 32 0 this, q, Int.zero_mul, Int.add_zero]
    rfl
  · have : ∀ c, c < 32 → topG (byL 32 x) (byL 32 y) (0 + c) = top128 (byL 32 y) (0 + c) := fun c _ => by
      unfold topG top128
      rw [e0, odd_bit, q]; rfl
    rw [tabL_ext 32 0 this, q, Int.one_mul, top_law h0 h1]
def tFormG : TF := fun args => match args with
  | [.agg [.ints .i64 40 p]] => some (gdP p, b32 (formS (vG p)))
  | _ => none
theorem r_formG : TRow prog F_rimeref04_Form tFormG := by
  intro args r h
  unfold tFormG at h
  split at h
  case h_2 => simp at h
  rename_i p
  simp only [Option.some.injEq, Prod.mk.injEq] at h
  obtain ⟨hp, rfl⟩ := h
  obtain ⟨x1, x2, x3, x4⟩ := xyG_law hp
  refine pure_of_out GX11 at_rimeref04_Form c_formG (N := 5) (gs := []) ?_
  have e := k_formG p
  have hr := gm_range (yzG p)
  have hpP : pP < 57896044618658097711785492504343953926634992332820282019728792003956564819968 := by decide
  rw [q10_gm, q10_gm, q10_gd, q10_gd, x1, x2, topG_law hr.1 (Int.lt_trans hr.2 hpP), x3, x4] at e
  have hp0 : gdP (fun j => p (0 + j)) = true := (gdP_ext fun d _ => by rw [Nat.zero_add]).trans hp
  rw [hp0] at e
  exact e
noncomputable def gx12 : List (Nat × TF) := (F_rimeref04_Form, tFormG) :: gx11
theorem GX12 : LibOK prog tt gx12 [] := GX11.addT r_formG
end Go.Proofs.YtjebjiakggmjhaaGreat
namespace Go.Proofs.YtjebjiakggmjhaaGreat
open Go.Proofs.Tryz
open Go Go.AM
def one1G : List Int := carD (lf [1, 0, 0, 0, 0, 0, 0, 0, 0, 0])
def wY (b : Nat → Int) : List Int := q10 (carD (lf (fromL (hval (bb b) 32 0))))
def wYY (b : Nat → Int) : List Int := tG (wY b) (wY b)
def wU (b : Nat → Int) : List Int := sG (wYY b) one1G
def wV (b : Nat → Int) : List Int := aG (tG dGL (wYY b)) one1G
def wX (b : Nat → Int) (m : Bool) : List Int := bif m then q10 (tG (q10 (gx0 (q10 (wU b)) (q10 (wV b)))) iGL) else q10 (gx0 (q10 (wU b)) (q10 (wV b)))
def wA (b : Nat → Int) (g : Bool) : List Bool := [areB (bb b) 32 0, gd10 (q10 (wY b)), (!(eqN 32 (lf (byL 32 (gm (q10 (wY b))))) (bb b) && true)) == g]
def wB (b : Nat → Int) : List Bool := [gM (wY b) (wY b), gM (wYY b) one1G, gM dGL (wYY b), gM (tG dGL (wYY b)) one1G, gd10 (q10 (wU b)) && gd10 (q10 (wV b))]
def wC_pto (b : Nat → Int) (X : List Int) (g : Bool) : List Bool := [gM X X, gM (wV b) (tG X X), gM (tG (wV b) (tG X X)) (wU b), (!decide (gm (q10 (tG (wV b) (tG X X))) = gm (q10 (wU b)))) == g]
def wM (b : Nat → Int) (m g : Bool) : List Bool := bif m then wC_pto b (wX b false) true ++ (gM (wX b false) iGL :: wC_pto b (wX b true) g) else wC_pto b (wX b false) false ++ wC_pto b (wX b false) g
def wZ (X : List Int) (z : Bool) : List Bool := [gd10 (q10 X), (eqN 32 (lf (byL 32 (gm (q10 X)))) (fun _ => 0) && true) == z]
def wO (b : Nat → Int) (g : Bool) : Bool := (ishr .u8 (b 31) 7 == 1) == g
def wD_pto (b : Nat → Int) (X : List Int) (g : Bool) : Bool := (iand .u8 (lf (byL 32 (gm (q10 X))) 0) 1 != ishr .u8 (b 31) 7) == g
def wN_pto (X : List Int) : List Int := sG zer10 X
def wP (X Y : List Int) : List Int := r40 (q10 X ++ (q10 Y ++ (one10 ++ q10 (tG X Y))))
def z40 : List Int := tabL (fun _ => 0) 40 0
theorem c_PointG : fnChk prog (envP tt gx12 []) f_rimeref04_Curve_Point = true := by kernel_rfl
set_option maxRecDepth 100000 in
theorem k_PtA (b : Nat → Int) : outP (apFunc (envP tt gx12 []) [(27, true)] 5 f_rimeref04_Curve_Point [crv (lf mdL), u8s 32 b] []) =
    some (ckL (wA b true), .tup [gpt (lf (z40)), .sc (.bool false)]) := by kernel_rfl
set_option maxRecDepth 100000 in
theorem k_PtB (b : Nat → Int) : outP (apFunc (envP tt gx12 []) [(27, false), (51, true), (63, true)] 5 f_rimeref04_Curve_Point [crv (lf mdL), u8s 32 b] []) =
    some (ckL (wA b false ++ (wB b ++ wM b true true)), .tup [gpt (lf (z40)), .sc (.bool false)]) := by kernel_rfl
set_option maxRecDepth 100000 in
theorem k_PtZf (b : Nat → Int) : outP (apFunc (envP tt gx12 []) [(27, false), (51, false), (63, false), (70, true), (73, true)] 5 f_rimeref04_Curve_Point [crv (lf mdL), u8s 32 b] []) =
    some (ckL (wA b false ++ (wB b ++ (wM b false false ++ (wZ (wX b false) true ++ [wO b true])))), .tup [gpt (lf (z40)), .sc (.bool false)]) := by kernel_rfl
set_option maxRecDepth 100000 in
theorem k_Ptfff (b : Nat → Int) : outP (apFunc (envP tt gx12 []) [(27, false), (51, false), (63, false), (70, false), (79, false)] 5 f_rimeref04_Curve_Point [crv (lf mdL), u8s 32 b] []) =
    some (ckL (wA b false ++ (wB b ++ (wM b false false ++ (wZ (wX b false) false ++ (wD_pto b (wX b false) false :: [gM (wX b false) (wY b)]))))), .tup [gpt (lf (wP (wX b false) (wY b))), .sc (.bool true)]) := by kernel_rfl
set_option maxRecDepth 100000 in
theorem k_Ptfft (b : Nat → Int) : outP (apFunc (envP tt gx12 []) [(27, false), (51, false), (63, false), (70, false), (79, true)] 5 f_rimeref04_Curve_Point [crv (lf mdL), u8s 32 b] []) =
    some (ckL (wA b false ++ (wB b ++ (wM b false false ++ (wZ (wX b false) false ++ (wD_pto b (wX b false) true :: [gM zer10 (wX b false), gM (wN_pto (wX b false)) (wY b)]))))), .tup [gpt (lf (wP (wN_pto (wX b false)) (wY b))), .sc (.bool true)]) := by kernel_rfl
set_option maxRecDepth 100000 in
theorem k_Ptftf (b : Nat → Int) : outP (apFunc (envP tt gx12 []) [(27, false), (51, false), (63, false), (70, true), (73, false), (79, false)] 5 f_rimeref04_Curve_Point [crv (lf mdL), u8s 32 b] []) =
    some (ckL (wA b false ++ (wB b ++ (wM b false false ++ (wZ (wX b false) true ++ (wO b false :: wD_pto b (wX b false) false :: [gM (wX b false) (wY b)]))))), .tup [gpt (lf (wP (wX b false) (wY b))), .sc (.bool true)]) := by kernel_rfl
set_option maxRecDepth 100000 in
theorem k_Ptftt (b : Nat → Int) : outP (apFunc (envP tt gx12 []) [(27, false), (51, false), (63, false), (70, true), (73, false), (79, true)] 5 f_rimeref04_Curve_Point [crv (lf mdL), u8s 32 b] []) =
    some (ckL (wA b false ++ (wB b ++ (wM b false false ++ (wZ (wX b false) true ++ (wO b false :: wD_pto b (wX b false) true :: [gM zer10 (wX b false), gM (wN_pto (wX b false)) (wY b)]))))), .tup [gpt (lf (wP (wN_pto (wX b false)) (wY b))), .sc (.bool true)]) := by kernel_rfl
set_option maxRecDepth 100000 in
theorem k_PtZt (b : Nat → Int) : outP (apFunc (envP tt gx12 []) [(27, false), (51, true), (63, false), (70, true), (73, true)] 5 f_rimeref04_Curve_Point [crv (lf mdL), u8s 32 b] []) =
    some (ckL (wA b false ++ (wB b ++ (wM b true false ++ (wZ (wX b true) true ++ [wO b true])))), .tup [gpt (lf (z40)), .sc (.bool false)]) := by kernel_rfl
set_option maxRecDepth 100000 in
theorem k_Pttff (b : Nat → Int) : outP (apFunc (envP tt gx12 []) [(27, false), (51, true), (63, false), (70, false), (79, false)] 5 f_rimeref04_Curve_Point [crv (lf mdL), u8s 32 b] []) =
    some (ckL (wA b false ++ (wB b ++ (wM b true false ++ (wZ (wX b true) false ++ (wD_pto b (wX b true) false :: [gM (wX b true) (wY b)]))))), .tup [gpt (lf (wP (wX b true) (wY b))), .sc (.bool true)]) := by kernel_rfl
set_option maxRecDepth 100000 in
theorem k_Pttft (b : Nat → Int) : outP (apFunc (envP tt gx12 []) [(27, false), (51, true), (63, false), (70, false), (79, true)] 5 f_rimeref04_Curve_Point [crv (lf mdL), u8s 32 b] []) =
    some (ckL (wA b false ++ (wB b ++ (wM b true false ++ (wZ (wX b true) false ++ (wD_pto b (wX b true) true :: [gM zer10 (wX b true), gM (wN_pto (wX b true)) (wY b)]))))), .tup [gpt (lf (wP (wN_pto (wX b true)) (wY b))), .sc (.bool true)]) := by kernel_rfl
set_option maxRecDepth 100000 in
theorem k_Ptttf (b : Nat → Int) : outP (apFunc (envP tt gx12 []) [(27, false), (51, true), (63, false), (70, true), (73, false), (79, false)] 5 f_rimeref04_Curve_Point [crv (lf mdL), u8s 32 b] []) =
    some (ckL (wA b false ++ (wB b ++ (wM b true false ++ (wZ (wX b true) true ++ (wO b false :: wD_pto b (wX b true) false :: [gM (wX b true) (wY b)]))))), .tup [gpt (lf (wP (wX b true) (wY b))), .sc (.bool true)]) := by kernel_rfl
set_option maxRecDepth 100000 in
theorem k_Ptttt (b : Nat → Int) : outP (apFunc (envP tt gx12 []) [(27, false), (51, true), (63, false), (70, true), (73, false), (79, true)] 5 f_rimeref04_Curve_Point [crv (lf mdL), u8s 32 b] []) =
    some (ckL (wA b false ++ (wB b ++ (wM b true false ++ (wZ (wX b true) true ++ (wO b false :: wD_pto b (wX b true) true :: [gM zer10 (wX b true), gM (wN_pto (wX b true)) (wY b)]))))), .tup [gpt (lf (wP (wN_pto (wX b true)) (wY b))), .sc (.bool true)]) := by kernel_rfl
end Go.Proofs.YtjebjiakggmjhaaGreat
namespace Go.Proofs.YtjebjiakggmjhaaGreat
open Go.Proofs.Tryz
open Go Go.AM
theorem one1G_law : gd10 one1G = true ∧ gm one1G = 1 := by decide +kernel
structure WF_pto2 (b : Nat → Int) : Prop where
  y : gd10 (wY b) = true
  yy : gd10 (wYY b) = true
  u : gd10 (wU b) = true
  v : gd10 (wV b) = true
  dy : gd10 (tG dGL (wYY b)) = true
  x0 : gd10 (wX b false) = true
  x1 : gd10 (wX b true) = true
theorem wF_pto2 {b : Nat → Int} (h : areB b 32 0 = true) : WF_pto2 b := by
  obtain ⟨h1, h2, h3⟩ := bb_law h
  have hr := opY_range (hval b 32 0)
  have y : gd10 (wY b) = true := (fromL_law (v := hval (bb b) 32 0) (by rw [h2]; omega)).2.1
  have yy := tG_gd y y
  have u : gd10 (wU b) = true := sG_gd yy one1G_law.1
  have dy := tG_gd dGL_law.1 yy
  have v : gd10 (wV b) = true := aG_gd dy one1G_law.1
  have x0 := (gx0_law (U := q10 (wU b)) (V := q10 (wV b)) u v).1
  exact ⟨y, yy, u, v, dy, x0, tG_gd (a := q10 (gx0 (q10 (wU b)) (q10 (wV b)))) x0 iGL_law.1⟩
theorem w_y {b : Nat → Int} (h : areB b 32 0 = true) : gm (wY b) = opY (hval b 32 0) % pP := by
  obtain ⟨h1, h2, h3⟩ := bb_law h
  have hr := opY_range (hval b 32 0)
  have := (fromL_law (v := hval (bb b) 32 0) (by rw [h2]; omega)).2.2
  show gm (carD (lf (fromL (hval (bb b) 32 0)))) = _
  rw [this, h2]
theorem w_vals {b : Nat → Int} (h : areB b 32 0 = true) (hl : opY (hval b 32 0) < pP) : gm (wY b) = opY (hval b 32 0) ∧ gm (wU b) = opU (hval b 32 0) ∧ gm (wV b) = opV (hval b 32 0) ∧
    gm (wX b false) = rootX (opU (hval b 32 0)) (opV (hval b 32 0)) 0 ∧ gm (wX b true) = rootX (opU (hval b 32 0)) (opV (hval b 32 0)) 1 := by
  have F := wF_pto2 h
  have ey : gm (wY b) = opY (hval b 32 0) := (w_y h).trans (md_id ⟨(opY_range _).1, hl⟩)
  have eyy : gm (wYY b) = mM (opY (hval b 32 0)) (opY (hval b 32 0)) := (tG_gm F.y F.y).trans (by rw [ey])
  have eu : gm (wU b) = opU (hval b 32 0) := (sG_gm F.yy one1G_law.1).trans (by rw [eyy, one1G_law.2]; rfl)
  have ev : gm (wV b) = opV (hval b 32 0) := (aG_gm F.dy one1G_law.1).trans (by rw [tG_gm dGL_law.1 F.yy, dGL_law.2, eyy, one1G_law.2]; rfl)
  have e0 : gm (wX b false) = rootX (opU (hval b 32 0)) (opV (hval b 32 0)) 0 := by
    have := (gx0_law (U := q10 (wU b)) (V := q10 (wV b)) F.u F.v).2.1
    rw [q10_gm, q10_gm, eu, ev] at this
    exact this
  refine ⟨ey, eu, ev, e0, ?_⟩
  have x0 := (gx0_law (U := q10 (wU b)) (V := q10 (wV b)) F.u F.v).1
  have := tG_gm (a := q10 (gx0 (q10 (wU b)) (q10 (wV b)))) x0 iGL_law.1
  rw [iGL_law.2] at this
  show gm (tG (q10 (gx0 (q10 (wU b)) (q10 (wV b)))) iGL) = mM _ iM
  rw [this]
  exact congrArg (fun z => mM z iM) e0
theorem wA_law {b : Nat → Int} (h : areB b 32 0 = true) (g : Bool) (hg : decide (opY (hval b 32 0) < pP) = !g) : wA b g = [true, true, true] := by
  obtain ⟨h1, h2, h3⟩ := bb_law h
  have F := wF_pto2 h
  have hr := opY_range (hval b 32 0)
  have e : eqN 32 (lf (byL 32 (gm (q10 (wY b))))) (bb b) = decide (opY (hval b 32 0) < pP) := by
    rw [eqB_law h1 (gm_256 _).1 (gm_256 _).2, h2, q10_gm, w_y h]
    by_cases q : opY (hval b 32 0) < pP
    · rw [decide_eq_true q, decide_eq_true (md_id ⟨hr.1, q⟩).symm]
    · rw [decide_eq_false q, decide_eq_false (fun e => q (by rw [e]; exact Int.emod_lt_of_pos _ pP_pos))]
  unfold wA
  rw [e, h1, q10_gd, F.y, hg]
  cases g <;> rfl
theorem wB_law {b : Nat → Int} (h : areB b 32 0 = true) : wB b = [true, true, true, true, true] := by
  have F := wF_pto2 h
  unfold wB
  rw [gM_t F.y F.y, gM_t F.yy one1G_law.1, gM_t dGL_law.1 F.yy, gM_t F.dy one1G_law.1, q10_gd, q10_gd, F.u, F.v]
  rfl
theorem wC_law {b : Nat → Int} (h : areB b 32 0 = true) (hl : opY (hval b 32 0) < pP) {X : List Int} (hx : gd10 X = true) (g : Bool) (hg : rootOk (opU (hval b 32 0)) (opV (hval b 32 0)) (gm X) = !g) : wC_pto b X g = [true, true, true, true] := by
  have F := wF_pto2 h
  obtain ⟨ey, eu, ev, e0, e1⟩ := w_vals h hl
  have xx := tG_gd hx hx
  have vx := tG_gd F.v xx
  have e : gm (tG (wV b) (tG X X)) = mM (opV (hval b 32 0)) (mM (gm X) (gm X)) := by rw [tG_gm F.v xx, tG_gm hx hx, ev]
  unfold wC_pto
  rw [gM_t hx hx, gM_t F.v xx, gM_t vx F.u, q10_gm, q10_gm, e, eu, show decide (mM (opV (hval b 32 0)) (mM (gm X) (gm X)) = opU (hval b 32 0)) = !g from hg]
  cases g <;> rfl
theorem opM_0 {w : Int} (h : opM w = 0) : rootOk (opU w) (opV w) (rootX (opU w) (opV w) 0) = true := by
  unfold opM rootM at h
  cases q : rootOk (opU w) (opV w) (rootX (opU w) (opV w) 0) with
  | true => rfl
  | false =>
    rw [q] at h
    cases q1 : rootOk (opU w) (opV w) (rootX (opU w) (opV w) 1) <;> rw [q1] at h <;> cases h
theorem opM_ge {w : Int} (h : opM w ≠ 0) : rootOk (opU w) (opV w) (rootX (opU w) (opV w) 0) = false ∧ rootOk (opU w) (opV w) (rootX (opU w) (opV w) 1) = decide (opM w = 1) := by
  unfold opM rootM at *
  cases q : rootOk (opU w) (opV w) (rootX (opU w) (opV w) 0) with
  | true => rw [q] at h; exact absurd rfl h
  | false =>
    cases q1 : rootOk (opU w) (opV w) (rootX (opU w) (opV w) 1) <;> exact ⟨rfl, rfl⟩
theorem opM_le (w : Int) : opM w = 0 ∨ opM w = 1 ∨ opM w = 2 := by
  unfold opM rootM
  cases rootOk (opU w) (opV w) (rootX (opU w) (opV w) 0) with
  | true => exact Or.inl rfl
  | false =>
    cases rootOk (opU w) (opV w) (rootX (opU w) (opV w) 1) with
    | true => exact Or.inr (Or.inl rfl)
    | false => exact Or.inr (Or.inr rfl)
theorem wO_law {b : Nat → Int} (h : areB b 32 0 = true) (g : Bool) (hg : opOdd (hval b 32 0) = g) : wO b g = true := by
  obtain ⟨h1, h2, h3⟩ := bb_law h
  unfold wO
  rw [h3, hg]
  cases g <;> rfl
theorem wZ_law {X : List Int} (hx : gd10 X = true) (g : Bool) (hg : decide (gm X = 0) = g) : wZ X g = [true, true] := by
  unfold wZ
  rw [q10_gd, q10_gm, hx, eqN_zero32 (gm_256 _).1 (gm_256 _).2, hg]
  cases g <;> rfl
theorem and1 {x : Int} : iand .u8 (x % 256) 1 = x % 2 := by
  have key : ∀ n : Nat, n < 256 → iand .u8 (n : Int) 1 = (n : Int) % 2 := by decide +kernel
  have := key (x % 256).toNat (by omega)
  rw [Int.toNat_of_nonneg (by omega), show x % 256 % 2 = x % 2 by omega] at this
  exact this
theorem shr7 {b : Nat → Int} (h : areB b 32 0 = true) : ishr .u8 (b 31) 7 = b 31 / 128 ∧ (b 31 / 128 = 0 ∨ b 31 / 128 = 1) := by
  have h2 := areB_t h 31 (by omega)
  rw [Nat.zero_add] at h2
  refine ⟨?_, by omega⟩
  show (b 31).fdiv (2 ^ (min (7 : Int).toNat 8)) = _
  rw [Int.fdiv_eq_ediv_of_nonneg _ (by decide)]; rfl
theorem wD_law {b : Nat → Int} (h : areB b 32 0 = true) {X : List Int} (g : Bool) (hg : (decide (gm X % 2 = 1) != opOdd (hval b 32 0)) = g) : wD_pto b X g = true := by
  obtain ⟨h1, h2, h3⟩ := bb_law h
  obtain ⟨s1, s2⟩ := shr7 h
  rw [← h3, s1] at hg
  have hm : gm X % 2 = 0 ∨ gm X % 2 = 1 := by omega
  unfold wD_pto
  rw [q10_gm, lf_byL 32 _ 0 (by omega), show gm X / 256 ^ 0 % 256 = gm X % 256 by simp, and1, s1]
  subst hg
  rcases hm with q | q <;> rcases s2 with r | r <;> rw [q, r] <;> rfl
def wNs (X : List Int) (n : Bool) : List Int := bif n then wN_pto X else X
def wE_pto2 (X Y : List Int) (n : Bool) : List Bool := bif n then [gM zer10 X, gM (wN_pto X) Y] else [gM X Y]
theorem k_PtZ (b : Nat → Int) (m : Bool) : outP (apFunc (envP tt gx12 []) [(27, false), (51, m), (63, false), (70, true), (73, true)] 5 f_rimeref04_Curve_Point [crv (lf mdL), u8s 32 b] []) =
    some (ckL (wA b false ++ (wB b ++ (wM b m false ++ (wZ (wX b m) true ++ [wO b true])))), .tup [gpt (lf z40), .sc (.bool false)]) := by
  cases m
  · exact k_PtZf b
  · exact k_PtZt b
set_option maxRecDepth 100000 in
theorem k_Pt1 (b : Nat → Int) (m n : Bool) : outP (apFunc (envP tt gx12 []) [(27, false), (51, m), (63, false), (70, true), (73, false), (79, n)] 5 f_rimeref04_Curve_Point [crv (lf mdL), u8s 32 b] []) =
    some (ckL (wA b false ++ (wB b ++ (wM b m false ++ (wZ (wX b m) true ++ (wO b false :: wD_pto b (wX b m) n :: wE_pto2 (wX b m) (wY b) n))))), .tup [gpt (lf (wP (wNs (wX b m) n) (wY b))), .sc (.bool true)]) := by
  cases m <;> cases n <;> simp only [wE_pto2, wNs, cond_true, cond_false]
  · exact k_Ptftf b
  · exact k_Ptftt b
  · exact k_Ptttf b
  · exact k_Ptttt b
set_option maxRecDepth 100000 in
theorem k_Pt0 (b : Nat → Int) (m n : Bool) : outP (apFunc (envP tt gx12 []) [(27, false), (51, m), (63, false), (70, false), (79, n)] 5 f_rimeref04_Curve_Point [crv (lf mdL), u8s 32 b] []) =
    some (ckL (wA b false ++ (wB b ++ (wM b m false ++ (wZ (wX b m) false ++ (wD_pto b (wX b m) n :: wE_pto2 (wX b m) (wY b) n))))), .tup [gpt (lf (wP (wNs (wX b m) n) (wY b))), .sc (.bool true)]) := by
  cases m <;> cases n <;> simp only [wE_pto2, wNs, cond_true, cond_false]
  · exact k_Ptfff b
  · exact k_Ptfft b
  · exact k_Pttff b
  · exact k_Pttft b
theorem wE_law {X Y : List Int} (hx : gd10 X = true) (hy : gd10 Y = true) (n : Bool) : ckL (wE_pto2 X Y n) = true := by
  cases n
  · show ckL [gM X Y] = true
    rw [gM_t hx hy]; rfl
  · show ckL [gM zer10 X, gM (wN_pto X) Y] = true
    rw [gM_t zer10_law.1 hx, gM_t (a := wN_pto X) (sG_gd zer10_law.1 hx) hy]; rfl
def wm (b : Nat → Int) : Bool := !decide (opM (hval b 32 0) = 0)
def wNg (b : Nat → Int) : Bool := decide (gm (wX b (wm b)) % 2 = 1) != opOdd (hval b 32 0)
def wPt (b : Nat → Int) : List Int := bif opOk (hval b 32 0) then wP (wNs (wX b (wm b)) (wNg b)) (wY b) else z40
theorem wX_gd {b : Nat → Int} (h : areB b 32 0 = true) (m : Bool) : gd10 (wX b m) = true := by
  cases m
  · exact (wF_pto2 h).x0
  · exact (wF_pto2 h).x1
theorem wM_law {b : Nat → Int} (h : areB b 32 0 = true) (hl : opY (hval b 32 0) < pP) (hm : Nat.ble (opM (hval b 32 0)) 1 = true) : ckL (wM b (wm b) false) = true ∧ gm (wX b (wm b)) = opX (hval b 32 0) := by
  have F := wF_pto2 h
  obtain ⟨ey, eu, ev, e0, e1⟩ := w_vals h hl
  rcases opM_le (hval b 32 0) with q | q | q
  · have hw : wm b = false := by unfold wm; rw [q]; rfl
    have o := opM_0 q
    rw [hw]
    refine ⟨?_, by rw [e0]; unfold opX; rw [q]⟩
    show ckL (wC_pto b (wX b false) false ++ wC_pto b (wX b false) false) = true
    rw [wC_law h hl F.x0 false (by rw [e0]; exact o)]; rfl
  · have hw : wm b = true := by unfold wm; rw [q]; rfl
    obtain ⟨o1, o2⟩ := opM_ge (w := hval b 32 0) (by rw [q]; decide)
    rw [q] at o2
    rw [hw]
    refine ⟨?_, by rw [e1]; unfold opX; rw [q]⟩
    show ckL (wC_pto b (wX b false) true ++ (gM (wX b false) iGL :: wC_pto b (wX b true) false)) = true
    rw [wC_law h hl F.x0 true (by rw [e0]; exact o1), wC_law h hl F.x1 false (by rw [e1]; exact o2), gM_t F.x0 iGL_law.1]; rfl
  · rw [q] at hm; cases hm
def tPointG : TF := fun args => match args with
  | [.agg [.ints .i64 60 c], .agg [.ints .u8 32 b]] => some (eqN 60 c (lf mdL) && areB b 32 0, .tup [gpt (lf (wPt b)), .sc (.bool (opOk (hval b 32 0)))])
  | _ => none
theorem ckA (a b : List Bool) : ckL (a ++ b) = (ckL a && ckL b) := by
  rw [Bool.eq_iff_iff, Bool.and_eq_true, ckL_t, ckL_t, ckL_t]
  simp only [List.mem_append]
  exact ⟨fun h => ⟨fun x hx => h x (Or.inl hx), fun x hx => h x (Or.inr hx)⟩, fun h x hx => hx.elim (h.1 x) (h.2 x)⟩
theorem r_PointG : TRow prog F_rimeref04_Curve_Point tPointG := by
  intro args r h
  unfold tPointG at h
  split at h
  case h_2 => simp at h
  rename_i c b
  simp only [Option.some.injEq, Prod.mk.injEq] at h
  obtain ⟨hc, rfl⟩ := h
  obtain ⟨hc, hb⟩ := and_t.1 hc
  refine pure_first hc ?_
  have F := wF_pto2 hb
  unfold wPt
  cases h1 : decide (opY (hval b 32 0) < pP) with
  | false =>
    have hok : opOk (hval b 32 0) = false := by unfold opOk; rw [h1]; rfl
    rw [hok]
    refine pure_of_out GX12 at_rimeref04_Curve_Point c_PointG (N := 5) (gs := [(27, true)]) ?_
    have e := k_PtA b
    rw [wA_law hb true (by rw [h1]; rfl)] at e
    exact e
  | true =>
    have hl := of_decide_eq_true h1
    have a := wA_law hb false (by rw [h1]; rfl)
    have bl := wB_law hb
    cases h2 : Nat.ble (opM (hval b 32 0)) 1 with
    | false =>
      have hok : opOk (hval b 32 0) = false := by unfold opOk; rw [h1, h2]; rfl
      rw [hok]
      refine pure_of_out GX12 at_rimeref04_Curve_Point c_PointG (N := 5) (gs := [(27, false), (51, true), (63, true)]) ?_
      have e := k_PtB b
      obtain ⟨ey, eu, ev, e0, e1⟩ := w_vals hb hl
      have hm : opM (hval b 32 0) ≠ 0 := fun q => by rw [q] at h2; cases h2
      have hm1 : opM (hval b 32 0) ≠ 1 := fun q => by rw [q] at h2; cases h2
      obtain ⟨o1, o2⟩ := opM_ge hm
      rw [decide_eq_false hm1] at o2
      have w : ckL (wM b true true) = true := by
        show ckL (wC_pto b (wX b false) true ++ (gM (wX b false) iGL :: wC_pto b (wX b true) true)) = true
        rw [wC_law hb hl F.x0 true (by rw [e0]; exact o1), wC_law hb hl F.x1 true (by rw [e1]; exact o2), gM_t F.x0 iGL_law.1]; rfl
      rw [ckA, ckA, a, bl, w] at e
      exact e
    | true =>
      obtain ⟨w1, w2⟩ := wM_law hb hl h2
      have hx := wX_gd hb (wm b)
      have z := wZ_law hx _ rfl
      have d := wD_law hb (X := wX b (wm b)) (wNg b) rfl
      have ee := wE_law hx F.y (wNg b)
      cases h4 : decide (opX (hval b 32 0) = 0) with
      | true =>
        rw [w2, h4] at z
        cases h3 : opOdd (hval b 32 0) with
        | true =>
          have hok : opOk (hval b 32 0) = false := by unfold opOk; rw [h1, h2, h3, h4]; rfl
          rw [hok]
          refine pure_of_out GX12 at_rimeref04_Curve_Point c_PointG (N := 5) (gs := [(27, false), (51, wm b), (63, false), (70, true), (73, true)]) ?_
          have e := k_PtZ b (wm b)
          rw [ckA, ckA, ckA, a, bl, w1, z, wO_law hb true h3] at e
          exact e
        | false =>
          have hok : opOk (hval b 32 0) = true := by unfold opOk; rw [h1, h2, h3, h4]; rfl
          rw [hok]
          refine pure_of_out GX12 at_rimeref04_Curve_Point c_PointG (N := 5) (gs := [(27, false), (51, wm b), (63, false), (70, true), (73, false), (79, wNg b)]) ?_
          have e := k_Pt1 b (wm b) (wNg b)
          rw [ckA, ckA, ckA, a, bl, w1, z, wO_law hb false h3, d, show ckL ([true, true] ++ (true :: true :: wE_pto2 (wX b (wm b)) (wY b) (wNg b))) = ckL (wE_pto2 (wX b (wm b)) (wY b) (wNg b)) from rfl, ee] at e
          exact e
      | false =>
        rw [w2, h4] at z
        have hok : opOk (hval b 32 0) = true := by unfold opOk; rw [h1, h2, h4, Bool.and_false]; rfl
        rw [hok]
        refine pure_of_out GX12 at_rimeref04_Curve_Point c_PointG (N := 5) (gs := [(27, false), (51, wm b), (63, false), (70, false), (79, wNg b)]) ?_
        have e := k_Pt0 b (wm b) (wNg b)
        rw [ckA, ckA, ckA, a, bl, w1, z, d, show ckL ([true, true] ++ (true :: wE_pto2 (wX b (wm b)) (wY b) (wNg b))) = ckL (wE_pto2 (wX b (wm b)) (wY b) (wNg b)) from rfl, ee] at e
        exact e
noncomputable def gx13 : List (Nat × TF) := (F_rimeref04_Curve_Point, tPointG) :: gx12
theorem GX13 : LibOK prog tt gx13 [] := GX12.addT r_PointG
end Go.Proofs.YtjebjiakggmjhaaGreat
namespace Go.Proofs.YtjebjiakggmjhaaGreat
open Go.Proofs.Tryz
open Go Go.AM
theorem wP_law {X Y : List Int} (hx : gd10 X = true) (hy : gd10 Y = true) : gdP (lf (wP X Y)) = true ∧ vG (lf (wP X Y)) = (gm X, gm Y, 1, mM (gm X) (gm Y)) := by
  have hm := tG_gd hx hy
  obtain ⟨x1, x2, x3, x4⟩ := four_g (a := q10 X) (b := q10 Y) (c := one10) (d := q10 (tG X Y)) rfl rfl rfl rfl
  have e : ∀ d, d < 40 → lf (wP X Y) d = lf (q10 X ++ (q10 Y ++ (one10 ++ q10 (tG X Y)))) d := fun d hd => by
    have := lf_tab (lf (q10 X ++ (q10 Y ++ (one10 ++ q10 (tG X Y))))) 40 0 d hd
    rwa [Nat.zero_add] at this
  obtain ⟨e1, e2, e3, e4⟩ := tg_ext e
  have o : gd10 one10 = true ∧ gm one10 = 1 := by decide
  refine ⟨?_, ?_⟩
  · rw [gdP_ext e]
    exact gdP_t.2 ⟨by rw [x1]; exact hx, by rw [x2]; exact hy, by rw [x3]; exact o.1, by rw [x4]; exact hm⟩
  · unfold vG
    rw [e1, e2, e3, e4, x1, x2, x3, x4, q10_gm, q10_gm, q10_gm, o.2, tG_gm hx hy]
theorem wPt_law {b : Nat → Int} (h : areB b 32 0 = true) (hok : opOk (hval b 32 0) = true) : gdP (lf (wPt b)) = true ∧ vG (lf (wPt b)) = openS (hval b 32 0) := by
  have F := wF_pto2 h
  have hl : opY (hval b 32 0) < pP := of_decide_eq_true (and_t.1 hok).1
  have hm : Nat.ble (opM (hval b 32 0)) 1 = true := (and_t.1 (and_t.1 hok).2).1
  obtain ⟨w1, w2⟩ := wM_law h hl hm
  obtain ⟨ey, eu, ev, e0, e1⟩ := w_vals h hl
  have hx := wX_gd h (wm b)
  unfold wPt
  rw [hok]
  show gdP (lf (wP (wNs (wX b (wm b)) (wNg b)) (wY b))) = true ∧ vG (lf (wP (wNs (wX b (wm b)) (wNg b)) (wY b))) = _
  unfold openS opXs
  rw [← w2]
  show _ ∧ _ = ((bif wNg b then _ else _), _, _, mM (bif wNg b then _ else _) _)
  cases wNg b with
  | true =>
    obtain ⟨q1, q2⟩ := wP_law (X := wN_pto (wX b (wm b))) (sG_gd zer10_law.1 hx) F.y
    refine ⟨q1, q2.trans ?_⟩
    rw [show gm (wN_pto (wX b (wm b))) = mS 0 (gm (wX b (wm b))) from (sG_gm zer10_law.1 hx).trans (by rw [zer10_law.2]), ey]; rfl
  | false =>
    obtain ⟨q1, q2⟩ := wP_law hx F.y
    refine ⟨q1, q2.trans ?_⟩
    rw [ey]; rfl
def tIdentG : TF := fun args => match args with
  | [] => some (true, b32 1)
  | _ => none
theorem c_identG : fnChk prog (envP tt gx13 []) f_rimeref04_Identity = true := by kernel_rfl
theorem k_identG : outP (apFunc (envP tt gx13 []) [] 5 f_rimeref04_Identity [] []) = some (gdP (lf idGL) && true, b32 (formS (vG (lf idGL)))) := by kernel_rfl
theorem r_identG : TRow prog F_rimeref04_Identity tIdentG := by
  intro args r h
  unfold tIdentG at h
  split at h
  case h_2 => simp at h
  simp only [Option.some.injEq, Prod.mk.injEq, true_and] at h
  subst h
  refine pure_of_out GX13 at_rimeref04_Identity c_identG (N := 5) (gs := []) ?_
  rw [k_identG, idGL_law.1, idGL_law.2, form_id]; rfl
end Go.Proofs.YtjebjiakggmjhaaGreat
namespace Go.Proofs.YtjebjiakggmjhaaGreat
open Go.Proofs.Tryz
open Go Go.AM
noncomputable def gx14 : List (Nat × TF) := (F_rimeref04_Identity, tIdentG) :: gx13
theorem GX14 : LibOK prog tt gx14 [] := ((((GX13.addT r_identG))))
end Go.Proofs.YtjebjiakggmjhaaGreat
namespace Go.Proofs.YtjebjiakggmjhaaGreat
open Go.Proofs.Tryz
open Go Go.AM
theorem c_addG4 : fnChk prog (envP tt gx14 []) f_rimeref04_Add = true := by kernel_rfl
theorem k_addG1 (a b : Nat → Int) : outP (apFunc (envP tt gx14 []) [(26, true)] 5 f_rimeref04_Add [u8s 32 a, u8s 32 b] []) = some (ckL [areB (ld0 a) 32 0, areB (ld0 b) 32 0, (!opOk (hval (ld0 a) 32 0)) == true], .tup [b32 0, .sc (.int .i64 41)]) := by kernel_rfl
theorem k_addG2 (a b : Nat → Int) : outP (apFunc (envP tt gx14 []) [(26, false), (29, true)] 5 f_rimeref04_Add [u8s 32 a, u8s 32 b] []) = some (ckL [areB (ld0 a) 32 0, areB (ld0 b) 32 0, (!opOk (hval (ld0 a) 32 0)) == false, (!opOk (hval (ld0 b) 32 0)) == true], .tup [b32 0, .sc (.int .i64 41)]) := by kernel_rfl
theorem k_addG3 (a b : Nat → Int) : outP (apFunc (envP tt gx14 []) [(26, false), (29, false)] 5 f_rimeref04_Add [u8s 32 a, u8s 32 b] []) = some (ckL [areB (ld0 a) 32 0, areB (ld0 b) 32 0, (!opOk (hval (ld0 a) 32 0)) == false, (!opOk (hval (ld0 b) 32 0)) == false, gdP (n40 (lf (wPt (ld0 a)))) && gdP (n40 (lf (wPt (ld0 b)))), gdP (lf (ptAddG (n40 (lf (wPt (ld0 a)))) (n40 (lf (wPt (ld0 b))))))], .tup [b32 (formS (vG (lf (ptAddG (n40 (lf (wPt (ld0 a)))) (n40 (lf (wPt (ld0 b)))))))), .sc (.int .i64 0)]) := by kernel_rfl
theorem wPt_n {b : Nat → Int} (h : areB b 32 0 = true) (hok : opOk (hval b 32 0) = true) : gdP (n40 (lf (wPt b))) = true ∧ vG (n40 (lf (wPt b))) = openS (hval b 32 0) := by
  obtain ⟨p1, p2⟩ := wPt_law h hok
  have e : ∀ d, d < 40 → n40 (lf (wPt b)) d = lf (wPt b) d := fun d hd => (n40_at _ d hd).symm
  obtain ⟨e1, e2, e3, e4⟩ := tg_ext e
  exact ⟨(gdP_ext e).trans p1, by unfold vG; rw [e1, e2, e3, e4]; exact p2⟩
theorem r_addG4 : TRow prog F_rimeref04_Add tEAdd := by
  intro args r h
  unfold tEAdd at h
  split at h
  case h_2 => simp at h
  rename_i a b
  simp only [Option.some.injEq, Prod.mk.injEq] at h
  obtain ⟨hc, rfl⟩ := h
  obtain ⟨ha, hb⟩ := and_t.1 hc
  unfold addOk
  cases ho : opOk (hval a 32 0) with
  | false =>
    refine pure_of_out GX14 at_rimeref04_Add c_addG4 (N := 5) (gs := [(26, true)]) ?_
    have e := k_addG1 a b
    rw [ld0_eq, ld0_eq, ha, hb, ho] at e
    exact e
  | true =>
    cases hq : opOk (hval b 32 0) with
    | false =>
      refine pure_of_out GX14 at_rimeref04_Add c_addG4 (N := 5) (gs := [(26, false), (29, true)]) ?_
      have e := k_addG2 a b
      rw [ld0_eq, ld0_eq, ha, hb, ho, hq] at e
      exact e
    | true =>
      obtain ⟨p1, p2⟩ := wPt_n ha ho
      obtain ⟨q1, q2⟩ := wPt_n hb hq
      obtain ⟨s1, s2, s3⟩ := ptAddG_law p1 q1
      refine pure_of_out GX14 at_rimeref04_Add c_addG4 (N := 5) (gs := [(26, false), (29, false)]) ?_
      have e := k_addG3 a b
      rw [ld0_eq, ld0_eq, ha, hb, ho, hq, p1, q1, s1, s2, p2, q2] at e
      exact e
end Go.Proofs.YtjebjiakggmjhaaGreat
namespace Go.Proofs.YtjebjiakggmjhaaGreat
open Go.Proofs.Tryz
open Go Go.AM
theorem root_ok {u v : Int} (h : Nat.ble (rootM u v) 1 = true) : rootOk u v (rootX u v (rootM u v)) = true := by
  unfold rootM at h ⊢
  cases h0 : rootOk u v (rootX u v 0) with
  | true => exact h0
  | false =>
    rw [h0] at h
    cases h1 : rootOk u v (rootX u v 1) with
    | true => exact h1
    | false => rw [h1] at h; exact absurd h (by decide)
theorem rootX_in (u v : Int) : ∀ k, inP (rootX u v k)
  | 0 => mM_in _ _
  | k + 1 => mM_in _ _
theorem mS_in (x y : Int) : inP (mS x y) := ⟨Int.emod_nonneg _ (by decide), Int.emod_lt_of_pos _ pP_pos⟩
theorem openS_on {w : Int} (ho : opOk w = true) : On4 (openS w) := by
  unfold opOk at ho
  simp only [Bool.and_eq_true, decide_eq_true_eq] at ho
  obtain ⟨hy, hm, _⟩ := ho
  have hr := root_ok hm
  have hr : rootOk (opU w) (opV w) (opX w) = true := hr
  have e := of_decide_eq_true hr
  have yin : inP (opY w) := ⟨by unfold opY; omega, hy⟩
  have xin : inP (opX w) := rootX_in _ _ _
  have ef := congrArg fq e
  unfold opU opV at ef
  simp only [fq_mul, fq_add, fq_sub, fq_1] at ef
  have xs : inP (opXs w) ∧ fq (opXs w) * fq (opXs w) = fq (opX w) * fq (opX w) := by
    unfold opXs
    cases (decide (opX w % 2 = 1) != opOdd w) with
    | true => exact ⟨mS_in _ _, by show fq (mS 0 (opX w)) * fq (mS 0 (opX w)) = _; rw [fq_sub, fq_0]; grind⟩
    | false => exact ⟨xin, rfl⟩
  refine ⟨xs.1, yin, by show inP 1; decide, mM_in _ _, ?_⟩
  show OnF (fq (opXs w)) (fq (opY w)) (fq 1) (fq (mM (opXs w) (opY w)))
  rw [fq_mul, fq_1]
  have e2 := xs.2
  refine ⟨?_, by grind, f01⟩
  have ed : fq eD = dF := rfl
  rw [ed, ← e2] at ef
  generalize fq (opXs w) = x at *
  generalize fq (opY w) = y at *
  generalize dF = d at *
  clear e2 xs hr e hm yin xin hy
  grind
theorem id1_of {q : Q4} {x : Int} (e : (q.1 = 0 ∧ q.2.1 = q.2.2.1) ↔ x = 1) : isIdS q = decide (x = 1) := by
  unfold isIdS
  by_cases hf : x = 1
  · obtain ⟨h1, h2⟩ := e.2 hf
    rw [decide_eq_true h1, decide_eq_true h2, decide_eq_true hf]; rfl
  · rw [decide_eq_false hf]
    cases h1 : decide (q.1 = 0) with
    | false => rfl
    | true =>
      cases h2 : decide (q.2.1 = q.2.2.1) with
      | false => rfl
      | true => exact absurd (e.1 ⟨of_decide_eq_true h1, of_decide_eq_true h2⟩) hf
theorem form_id1 {q : Q4} (h : On4 q) : isIdS q = decide (formS q = 1) := by
  unfold formS
  exact id1_of (form_one h rfl)
end Go.Proofs.YtjebjiakggmjhaaGreat
namespace Go.Proofs.YtjebjiakggmjhaaGreat
open Go.Proofs.Tryz
open Go Go.AM
theorem lf_byL : ∀ (n : Nat) (K i : Nat), i < n → lf (byL n (K : Int)) i = ((K / 256 ^ i % 256 : Nat) : Int)
  | 0, K, i, h => by omega
  | n + 1, K, 0, h => by
    show ((K : Int) % 256) = _
    rw [Nat.pow_zero, Nat.div_one]; rfl
  | n + 1, K, i + 1, h => by
    show lf (byL n ((K : Int) / 256)) i = _
    have := lf_byL n (K / 256) i (by omega)
    rw [show ((K : Int) / 256) = ((K / 256 : Nat) : Int) by omega, this, Nat.div_div_eq_div_mul, Nat.pow_succ, Nat.mul_comm 256]
theorem nib_of (K i : Nat) (hi : i < 64) : nib (lf (byL 32 (K : Int))) i = ((K / 16 ^ i % 16 : Nat) : Int) := by
  unfold nib
  rw [lf_byL 32 K (i / 2) (by omega)]
  have e : (256 : Nat) ^ (i / 2) = 16 ^ (2 * (i / 2)) := by rw [Nat.pow_mul]
  rcases Nat.mod_two_eq_zero_or_one i with h | h
  · rw [h, e, show 2 * (i / 2) = i by omega]
    generalize K / 16 ^ i = x
    show (((x % 256 : Nat) : Int) / 2 ^ 0 % 16) = _
    rw [Int.pow_zero, Int.ediv_one]
    omega
  · rw [h, e, show i = 2 * (i / 2) + 1 by omega, Nat.pow_succ, ← Nat.div_div_eq_div_mul, show 2 * ((2 * (i / 2) + 1) / 2) = 2 * (i / 2) by omega]
    generalize K / 16 ^ (2 * (i / 2)) = x
    show (((x % 256 : Nat) : Int) / 2 ^ 4 % 16) = _
    rw [show (2 : Int) ^ 4 = 16 by decide]
    omega
theorem is_tb {q : Q4} {p : EP} (h : Is q p) : ∀ j, Is (tbS q j) (EP.nsm j p)
  | 0 => is_id
  | j + 1 => is_add (is_tb h j) h
theorem nsm_2 (n : Nat) (p : EP) : (EP.nsm n p).add (EP.nsm n p) = EP.nsm (2 * n) p := by rw [← EP.nsm_add, Nat.two_mul]
theorem is_tm {q : Q4} {p : EP} (h : Is q p) (K : Nat) (hK : K < 16 ^ 64) : ∀ k, k ≤ 64 → Is (tmSp q (lf (byL 32 (K : Int))) k) (EP.nsm (K / 16 ^ (64 - k)) p)
  | 0, _ => by
    rw [Nat.div_eq_of_lt (by simpa using hK)]
    exact is_id
  | k + 1, hk => by
    have ih := is_tm h K hK k (by omega)
    have h1 := is_dbl ih
    rw [nsm_2] at h1
    have h2 := is_dbl h1
    rw [nsm_2] at h2
    have h3 := is_dbl h2
    rw [nsm_2] at h3
    have h4 := is_dbl h3
    rw [nsm_2] at h4
    have en := nib_of K (63 - k) (by omega)
    have e0 : K / 16 ^ (64 - (k + 1)) = 2 * (2 * (2 * (2 * (K / 16 ^ (64 - k))))) + K / 16 ^ (63 - k) % 16 := by
      rw [show 64 - (k + 1) = 63 - k by omega, show 64 - k = (63 - k) + 1 by omega, Nat.pow_succ, ← Nat.div_div_eq_div_mul]
      omega
    unfold tmSp
    rw [e0, en]
    by_cases hz : K / 16 ^ (63 - k) % 16 = 0
    · rw [hz, Nat.add_zero]
      exact h4
    · rw [decide_eq_true (show ((K / 16 ^ (63 - k) % 16 : Nat) : Int) > 0 by omega), EP.nsm_add]
      show Is (addS _ (tbS q ((K / 16 ^ (63 - k) % 16 : Nat) : Int).toNat)) _
      rw [Int.toNat_natCast]
      exact is_add h4 (is_tb h _)
theorem is_mul {q : Q4} {p : EP} (h : Is q p) {k : Int} (h0 : 0 ≤ k) (h1 : k < R256) : Is (mulS q k) (EP.nsm k.toNat p) := by
  have hK : k.toNat < 16 ^ 64 := by
    have : R256 = ((16 ^ 64 : Nat) : Int) := by decide
    rw [this] at h1
    omega
  have := is_tm h k.toNat hK 64 (Nat.le_refl _)
  rw [Int.toNat_of_nonneg h0, Nat.sub_self, Nat.pow_zero, Nat.div_one] at this
  exact this
def encP (p : EP) : Int := (p.y.val : Int) + (p.x.val : Int) % 2 * 57896044618658097711785492504343953926634992332820282019728792003956564819968
theorem val_of {x : Int} (hx : inP x) {a : FF} (h : fq x = a) : x = (a.val : Int) := by
  rw [← h, fq_val, md_id hx]
theorem form_i {X Y z : Int} {p : EP} (h1 : fq X * fq z = p.x) (h2 : fq Y * fq z = p.y) : mM Y z + mM X z % 2 * 57896044618658097711785492504343953926634992332820282019728792003956564819968 = encP p := by
  rw [val_of (mM_in Y z) (by rw [fq_mul, h2]), val_of (mM_in X z) (by rw [fq_mul, h1])]
  rfl
theorem form_is {q : Q4} {p : EP} (h : Is q p) : formS q = encP p := by
  have hz : fq q.2.2.1 * fq (invM q.2.2.1) = 1 := inv_fq rfl h.on.on.z
  unfold formS
  generalize invM q.2.2.1 = w at *
  refine form_i ?_ ?_
  · rw [h.x]
    have : p.x * fq q.2.2.1 * fq w = p.x * (fq q.2.2.1 * fq w) := by grind
    rw [this, hz]; grind
  · rw [h.y]
    have : p.y * fq q.2.2.1 * fq w = p.y * (fq q.2.2.1 * fq w) := by grind
    rw [this, hz]; grind
end Go.Proofs.YtjebjiakggmjhaaGreat
namespace Go.Proofs.YtjebjiakggmjhaaGreat
open Go.Proofs.Tryz
open Go Go.AM
def eE : Nat := 7237005577332262213973186563042994240829374041602535252466099000494570602493
def pmq : Nat := 14474011154664524427946373126085988481658748083205070504932198000989141204987
theorem pmq_e : 2 * eE + 1 = pmq := by decide
theorem pmq_h : 2 * pmq = pmh := by decide
theorem iM_sq : fq iM * fq iM = -1 := by decide +kernel
theorem half_pm {a : FF} (h : a ≠ 0) : fpow a pmh = 1 ∨ fpow a pmh = -1 := by
  have e : fpow a pmh * fpow a pmh = 1 := by rw [← fpow_add, ← Nat.two_mul, pmh_2]; exact fpow_pm1 h
  have k : (fpow a pmh - 1) * (fpow a pmh + 1) = 0 := by
    generalize fpow a pmh = s at *
    grind
  rcases mul_zero_or k with q | q
  · left
    generalize fpow a pmh = s at *
    grind
  · right
    generalize fpow a pmh = s at *
    grind
theorem root_i {u v r c e x k : FF} (hu : u = v * (x * x)) (hr : r = u * (v * v * v) * e) (he : c = u * (v * v * v * (v * v * v) * v)) (hk : e * e * c = k) : v * (r * r) = u * k := by
  rw [← hk, hr, he]
  clear hk hr he
  subst hu
  grind
theorem pw_form {v x : FF} : v * (x * x) * (v * v * v * (v * v * v) * v) = (x * (v * v) * (v * v)) * (x * (v * v) * (v * v)) := by grind
theorem root_any {u v : Int} {x : FF} (hv : fq v ≠ 0) (hx : fq v * (x * x) = fq u) (hu : inP u) :
    Nat.ble (rootM u v) 1 = true ∧ (fq (rootX u v (rootM u v)) = x ∨ fq (rootX u v (rootM u v)) = 0 - x) := by
  have e0 : fq (rootX u v 0) = fq u * (fq v * fq v * fq v) * fpow (fq u * (fq v * fq v * fq v * (fq v * fq v * fq v) * fq v)) eE := by
    show fq (mM (mM u (mM (mM v v) v)) (powM (mM u (mM (mM (mM (mM v v) v) (mM (mM v v) v)) v)) eE)) = _
    rw [fq_mul, fq_pow]
    simp only [fq_mul]
  have k1 : fq v * (fq (rootX u v 0) * fq (rootX u v 0)) = fq u ∨ fq v * (fq (rootX u v 0) * fq (rootX u v 0)) = 0 - fq u := by
    have hc : fpow (fq u * (fq v * fq v * fq v * (fq v * fq v * fq v) * fq v)) eE * fpow (fq u * (fq v * fq v * fq v * (fq v * fq v * fq v) * fq v)) eE * (fq u * (fq v * fq v * fq v * (fq v * fq v * fq v) * fq v)) = fpow (fq u * (fq v * fq v * fq v * (fq v * fq v * fq v) * fq v)) pmq := by
      rw [← fpow_add, ← Nat.two_mul]
      conv => lhs; rhs; rw [← fpow_one (fq u * (fq v * fq v * fq v * (fq v * fq v * fq v) * fq v))]
      rw [← fpow_add, pmq_e]
    have h1 := root_i hx.symm e0 rfl hc
    have h2 : fpow (fq u * (fq v * fq v * fq v * (fq v * fq v * fq v) * fq v)) pmq = fpow (x * (fq v * fq v) * (fq v * fq v)) pmh := by
      rw [← hx, pw_form, fpow_sq, pmq_h]
    rw [h2] at h1
    rw [h1]
    by_cases hz : x = 0
    · left
      have : fq u = 0 := by rw [← hx, hz]; grind
      rw [this]; grind
    · rcases half_pm (mul_ne (mul_ne hz (mul_ne hv hv)) (mul_ne hv hv)) with q | q
      · left; rw [q]; grind
      · right; rw [q]; grind
  have ok : ∀ t, fq v * (fq t * fq t) = fq u → rootOk u v t = true := fun t h => decide_eq_true (fq_inj (mM_in _ _) hu (by rw [fq_mul, fq_mul]; exact h))
  have okc : ∀ t, rootOk u v t = true → fq t = x ∨ fq t = 0 - x := fun t h => by
    have h := congrArg fq (of_decide_eq_true h)
    rw [fq_mul, fq_mul, ← hx] at h
    have k : fq v * ((fq t - x) * (fq t + x)) = 0 := by
      generalize fq t = r at *
      generalize fq v = w at *
      clear k1 e0 ok
      grind
    rcases mul_zero_or k with q | q
    · exact absurd q hv
    · rcases mul_zero_or q with q | q
      · left; generalize fq t = r at *; clear k1 e0 ok h k; grind
      · right; generalize fq t = r at *; clear k1 e0 ok h k; grind
  have key : rootOk u v (rootX u v 0) = true ∨ rootOk u v (rootX u v 1) = true := by
    rcases k1 with q | q
    · exact .inl (ok _ q)
    · right
      refine ok _ ?_
      show fq v * (fq (mM (rootX u v 0) iM) * fq (mM (rootX u v 0) iM)) = fq u
      rw [fq_mul]
      have hi := iM_sq
      generalize fq (rootX u v 0) = r at *
      generalize fq iM = i at *
      clear e0 ok okc
      have : fq v * (r * i * (r * i)) = fq v * (r * r) * (i * i) := by grind
      rw [this, q, hi]; grind
  unfold rootM
  cases h0 : rootOk u v (rootX u v 0) with
  | true => exact ⟨rfl, okc _ h0⟩
  | false =>
    cases h1 : rootOk u v (rootX u v 1) with
    | true => exact ⟨rfl, okc _ h1⟩
    | false => rw [h0, h1] at key; rcases key with q | q <;> cases q
theorem g_ne {d y : FF} (hy : y = 0) (h : d * (y * y) + 1 = 0) : (1 : FF) = 0 := by
  have e : d * (y * y) + 1 = 1 + d * (y * y) := by grind
  rw [e, hy] at h
  have e2 : (1 : FF) + d * (0 * 0) = 1 := by generalize (1 : FF) = o at *; grind
  rw [e2] at h
  exact h
theorem v_ne (y : FF) : dF * (y * y) + 1 ≠ 0 := fun h => by
  by_cases hy : y = 0
  · exact f01 (g_ne hy h)
  · obtain ⟨z, hz⟩ := inv_ex hy
    have hi := iF_sq
    have nd := dF_nsq (iF * z)
    generalize dF = d at *
    generalize iF = i at *
    refine nd ?_
    have e1 : (d * (y * y) + 1) * (z * z) = d * ((y * z) * (y * z)) + z * z := by grind
    rw [h, hz] at e1
    have e2 : i * z * (i * z) = (i * i) * (z * z) := by grind
    rw [e2]
    grind
theorem okB {e v : Int} (hm : Nat.ble (opM e) 1 = true) (hy : opY e < pP) (ho : opOdd e = decide (v % 2 = 1)) (hx : opX e = 0 → v = 0) : opOk e = true := by
  unfold opOk
  generalize opX e = X at *
  generalize opM e = M at *
  rw [hm, decide_eq_true hy, ho]
  by_cases h0 : X = 0
  · rw [hx h0]; simp
  · rw [decide_eq_false h0]; simp
theorem val_lt (a : FF) : 0 ≤ (a.val : Int) ∧ (a.val : Int) < pP := by
  have := a.isLt
  rw [pP_PN]
  omega
theorem fq_of_val (a : FF) : fq (a.val : Int) = a := fq_ext (by rw [fq_val, md_id (val_lt a)])
theorem op_enc (p : EP) : opY (encP p) = (p.y.val : Int) ∧ opOdd (encP p) = decide ((p.x.val : Int) % 2 = 1) := by
  have h1 := val_lt p.y
  have hb : (p.x.val : Int) % 2 = 0 ∨ (p.x.val : Int) % 2 = 1 := by omega
  unfold opY opOdd encP
  unfold pP at h1
  rcases hb with h | h
  · rw [h]
    refine ⟨by omega, ?_⟩
    rw [decide_eq_false (by omega), decide_eq_false (by omega)]
  · rw [h]
    refine ⟨by omega, ?_⟩
    rw [decide_eq_true (by omega), decide_eq_true (by omega)]
theorem m_one (x : FF) : x = x * 1 := by grind
theorem s00 : (0 : FF) - 0 = 0 := by decide
theorem opU_fq (p : EP) : fq (opU (encP p)) = p.y * p.y - 1 := by
  have hyy : fq (opY (encP p)) = p.y := by rw [(op_enc p).1, fq_of_val]
  unfold opU; rw [fq_sub, fq_mul, hyy, fq_1]
theorem opV_fq (p : EP) : fq (opV (encP p)) = dF * (p.y * p.y) + 1 := by
  have hyy : fq (opY (encP p)) = p.y := by rw [(op_enc p).1, fq_of_val]
  unfold opV; rw [fq_add, fq_mul, fq_mul, hyy, fq_1]; rfl
theorem root_enc {a b : Int} {p : EP} (hU : fq a = p.y * p.y - 1) (hV : fq b = dF * (p.y * p.y) + 1) (hu : inP a) :
    Nat.ble (rootM a b) 1 = true ∧ (fq (rootX a b (rootM a b)) = p.x ∨ fq (rootX a b (rootM a b)) = 0 - p.x) :=
  root_any (u := a) (v := b) (x := p.x) (by rw [hV]; exact v_ne p.y) (by
    rw [hU, hV]
    have := p.c
    generalize dF = d at *
    generalize p.x = x at *
    generalize p.y = y at *
    clear hU hV
    grind) hu
theorem opX_enc (p : EP) : Nat.ble (opM (encP p)) 1 = true ∧ (fq (opX (encP p)) = p.x ∨ fq (opX (encP p)) = 0 - p.x) :=
  root_enc (opU_fq p) (opV_fq p) (mS_in _ _)
theorem x_cases {X : Int} {x : FF} (hxi : inP X) (hx : fq X = x ∨ fq X = 0 - x) : X = (x.val : Int) ∨ (x.val ≠ 0 ∧ X = pP - (x.val : Int)) := by
  have hvx := val_lt x
  rcases hx with q | q
  · exact .inl (val_of hxi q)
  · by_cases h0 : x.val = 0
    · left
      have e : x = 0 := Fin.ext h0
      rw [e] at q
      rw [h0]
      exact (fq_zero hxi).1 (q.trans s00)
    · right
      refine ⟨h0, ?_⟩
      refine fq_inj hxi ⟨by omega, by omega⟩ ?_
      rw [q]
      have e : fq (mS pP (x.val : Int)) = fq pP - fq (x.val : Int) := fq_sub _ _
      rw [fq_of_val, show fq pP = 0 by decide +kernel] at e
      rw [← e]
      exact fq_eq (by unfold mS; rw [md_md])
theorem opX_v (p : EP) : opX (encP p) = (p.x.val : Int) ∨ (p.x.val ≠ 0 ∧ opX (encP p) = pP - (p.x.val : Int)) :=
  x_cases (rootX_in _ _ _) (opX_enc p).2
theorem ok_enc (p : EP) : opOk (encP p) = true :=
  okB (v := (p.x.val : Int)) (opX_enc p).1 (by rw [(op_enc p).1]; exact (val_lt p.y).2) (op_enc p).2 (fun h0 => by
    have := val_lt p.x
    rcases opX_v p with q | ⟨_, q⟩ <;> omega)
theorem xs_enc {X : Int} {x : FF} (h : X = (x.val : Int) ∨ (x.val ≠ 0 ∧ X = pP - (x.val : Int))) :
    fq (bif decide (X % 2 = 1) != decide ((x.val : Int) % 2 = 1) then mS 0 X else X) = x := by
  have hvx := val_lt x
  have hp2 : pP % 2 = 1 := by decide
  rcases h with q | ⟨hn, q⟩
  · rw [q, bne_self_eq_false, cond_false]
    exact fq_of_val _
  · have hne : (decide (X % 2 = 1) != decide ((x.val : Int) % 2 = 1)) = true := by
      rcases (show (x.val : Int) % 2 = 0 ∨ (x.val : Int) % 2 = 1 by omega) with h | h
      · rw [decide_eq_true (show X % 2 = 1 by omega), decide_eq_false (show ¬ (x.val : Int) % 2 = 1 by omega)]; rfl
      · rw [decide_eq_false (show ¬ X % 2 = 1 by omega), decide_eq_true h]; rfl
    rw [hne, cond_true, fq_sub, fq_0, q]
    have e : fq (mS pP (x.val : Int)) = fq pP - fq (x.val : Int) := fq_sub _ _
    rw [fq_of_val, show fq pP = 0 by decide +kernel] at e
    have e2 : fq (pP - (x.val : Int)) = 0 - x := by rw [← e]; exact fq_eq (by unfold mS; rw [md_md])
    rw [e2]
    clear e e2 hne
    generalize (0 : FF) = z
    grind
theorem open_enc (p : EP) : opOk (encP p) = true ∧ Is (openS (encP p)) p := by
  have hxs : fq (opXs (encP p)) = p.x := by
    have h := xs_enc (opX_v p)
    unfold opXs
    rw [(op_enc p).2]
    exact h
  have hyy : fq (opY (encP p)) = p.y := by rw [(op_enc p).1, fq_of_val]
  have hok := ok_enc p
  refine ⟨hok, openS_on hok, ?_, ?_⟩
  · show fq (opXs (encP p)) = p.x * fq 1
    rw [hxs, fq_1]
    exact m_one _
  · show fq (opY (encP p)) = p.y * fq 1
    rw [hyy, fq_1]
    exact m_one _
theorem enc_inj {p q : EP} (h : encP p = encP q) : p = q := by
  have h1 := (open_enc p).2
  rw [h] at h1
  exact h1.unique (open_enc q).2
theorem enc_range (p : EP) : 0 ≤ encP p ∧ encP p < R256 := by
  have h1 := val_lt p.y
  unfold encP
  unfold pP at h1
  have : R256 = 115792089237316195423570985008687907853269984665640564039457584007913129639936 := rfl
  omega
end Go.Proofs.YtjebjiakggmjhaaGreat
namespace Go.Proofs.YtjebjiakggmjhaaGreat
open Go.Proofs.Tryz
open Go Go.AM
def grpS (w : Int) : Int := bif opOk w then (bif decide (w = 1) then 42 else bif prS w then 0 else 43) else 41
def tGroup : TF := fun args => match args with
  | [.agg [.ints .u8 32 b]] => some (areB b 32 0, .sc (.int .i64 (grpS (hval b 32 0))))
  | _ => none
noncomputable def el0 : List (Nat × TF) := (F_edwards_Check, tCheck) :: (F_edwards_Identity, tIdentity) :: (F_edwards_IsPrime, tIsPrime) :: (F_edwards_MulBase, tMulBase) :: (F_scalar_Add, tAdd) :: (F_scalar_IsZero, tIsZero) :: (F_rimeref04_Identity, tIdentG) :: []
theorem EL0 : LibOK prog tt el0 [] := ((((((((((L0)).addT r_identG))).addT r_isZero).addT r_add).addT r_mulBase).addT r_isPrime).addT r_identity).addT r_check
noncomputable abbrev elE : EnvP := envP tt el0 []
theorem c_group : fnChk prog elE f_suite_group = true := by kernel_rfl
def chkI (w : Int) : Int := bif opOk w then 0 else 41
theorem k_grp1 (b : Nat → Int) : outP (apFunc elE [(9, true)] 5 f_suite_group [u8s 32 b] []) = some (ckL [areB (ld0 b) 32 0, (chkI (hval (ld0 b) 32 0) != 0) == true], .sc (.int .i64 (chkI (hval (ld0 b) 32 0)))) := by kernel_rfl
theorem k_grp2 (b : Nat → Int) : outP (apFunc elE [(9, false), (13, true)] 5 f_suite_group [u8s 32 b] []) = some (ckL [areB (ld0 b) 32 0, (chkI (hval (ld0 b) 32 0) != 0) == false, (eqN 32 (ld0 b) (lf (byL 32 1)) && true) == true], .sc (.int .i64 42)) := by kernel_rfl
theorem k_grp3 (b : Nat → Int) (g : Bool) : outP (apFunc elE [(9, false), (13, false), (20, true)] 5 f_suite_group [u8s 32 b] []) =
    some (ckL [areB (ld0 b) 32 0, (chkI (hval (ld0 b) 32 0) != 0) == false, (eqN 32 (ld0 b) (lf (byL 32 1)) && true) == false, areB (ld0 b) 32 0, (!prS (hval (ld0 b) 32 0)) == true], .sc (.int .i64 43)) := by kernel_rfl
theorem k_grp4 (b : Nat → Int) (g : Bool) : outP (apFunc elE [(9, false), (13, false), (20, false)] 5 f_suite_group [u8s 32 b] []) =
    some (ckL [areB (ld0 b) 32 0, (chkI (hval (ld0 b) 32 0) != 0) == false, (eqN 32 (ld0 b) (lf (byL 32 1)) && true) == false, areB (ld0 b) 32 0, (!prS (hval (ld0 b) 32 0)) == false], .sc (.int .i64 0)) := by kernel_rfl
theorem eqN_num {b : Nat → Int} (hb : areB b 32 0 = true) {x : Int} (hx : 0 ≤ x ∧ x < R256) : eqN 32 b (lf (byL 32 x)) = decide (hval b 32 0 = x) := by
  have hr : 0 ≤ hval b 32 0 ∧ hval b 32 0 < R256 := hval_range hb
  rw [← eqN_by hr hx]
  exact eqN_congr fun d hd => by
    have := lf_tab b 32 0 d hd
    rw [Nat.zero_add, ← byL_self hb] at this
    exact this.symm
theorem eqN_one {b : Nat → Int} (hb : areB b 32 0 = true) : eqN 32 b (lf (byL 32 1)) = decide (hval b 32 0 = 1) := eqN_num hb (by decide)
theorem r_group : TRow prog F_suite_group tGroup := by
  intro args r h
  unfold tGroup at h
  split at h
  case h_2 => simp at h
  rename_i b
  simp only [Option.some.injEq, Prod.mk.injEq] at h
  obtain ⟨hb, rfl⟩ := h
  unfold grpS
  have e1 := k_grp1 b
  have e2 := k_grp2 b
  have e3 := k_grp3 b true
  have e4 := k_grp4 b true
  rw [ld0_eq] at e1 e2 e3 e4
  rw [hb] at e1 e2 e3 e4
  rw [eqN_one hb] at e2 e3 e4
  unfold chkI at e1 e2 e3 e4
  cases ho : opOk (hval b 32 0) with
  | false =>
    rw [ho] at e1
    exact pure_of_out EL0 at_suite_group c_group (N := 5) (gs := [(9, true)]) e1
  | true =>
    rw [ho] at e2 e3 e4
    cases h1 : decide (hval b 32 0 = 1) with
    | true =>
      rw [h1] at e2
      exact pure_of_out EL0 at_suite_group c_group (N := 5) (gs := [(9, false), (13, true)]) e2
    | false =>
      rw [h1] at e3 e4
      cases hp : prS (hval b 32 0) with
      | false => rw [hp] at e3; exact pure_of_out EL0 at_suite_group c_group (N := 5) (gs := [(9, false), (13, false), (20, true)]) e3
      | true => rw [hp] at e4; exact pure_of_out EL0 at_suite_group c_group (N := 5) (gs := [(9, false), (13, false), (20, false)]) e4
def expS (K : Int) : Int := bif decide (K = 0) then 0 else formS (mulS baseS K)
def tExp : TF := fun args => match args with
  | [.agg [.ints .u8 32 s]] => some (areB s 32 0, .tup [b32 (expS (hval s 32 0 % ordL)), .sc (.int .i64 (bif decide (hval s 32 0 % ordL = 0) then 9 else 0))])
  | _ => none
theorem c_exp : fnChk prog elE f_suite_Exp = true := by kernel_rfl
def exA (s : Nat → Int) : Int := (hval (ld0 s) 32 0 + hval (fun _ => 0) 32 0) % ordL
theorem k_exp1 (s : Nat → Int) : outP (apFunc elE [(9, true)] 5 f_suite_Exp [u8s 32 s] []) =
    some (ckL [areB (ld0 s) 32 0 && true, areB (lf (byL 32 (exA s))) 32 0 && (decide (hval (lf (byL 32 (exA s))) 32 0 % ordL = 0) == true)], .tup [b32 0, .sc (.int .i64 9)]) := by kernel_rfl
theorem k_exp2 (s : Nat → Int) : outP (apFunc elE [(9, false)] 5 f_suite_Exp [u8s 32 s] []) =
    some (ckL [areB (ld0 s) 32 0 && true, areB (lf (byL 32 (exA s))) 32 0 && (decide (hval (lf (byL 32 (exA s))) 32 0 % ordL = 0) == false), areB (lf (byL 32 (exA s))) 32 0], .tup [b32 (formS (mulS baseS (hval (lf (byL 32 (exA s))) 32 0))), .sc (.int .i64 0)]) := by kernel_rfl
theorem hval_0 : hval (fun _ => 0) 32 0 = 0 := by decide
theorem ord_mod (x : Int) : 0 ≤ x % ordL ∧ x % ordL < R256 := ⟨Int.emod_nonneg _ (by decide), Int.lt_trans (Int.emod_lt_of_pos _ (by decide)) (by decide)⟩
theorem b_ord (x : Int) : hval (lf (byL 32 (x % ordL))) 32 0 = x % ordL := hval_b32 (ord_mod x).1 (ord_mod x).2
theorem ord_ord (x : Int) : x % ordL % ordL = x % ordL := Int.emod_emod_of_dvd x (Int.dvd_refl ordL)
theorem r_exp : TRow prog F_suite_Exp tExp := by
  intro args r h
  unfold tExp at h
  split at h
  case h_2 => simp at h
  rename_i s
  simp only [Option.some.injEq, Prod.mk.injEq] at h
  obtain ⟨hs, rfl⟩ := h
  have e1 := k_exp1 s
  have e2 := k_exp2 s
  have ea : exA s = hval s 32 0 % ordL := by unfold exA; rw [ld0_eq, hval_0, Int.add_zero]
  rw [ld0_eq, ea, areB_b32, b_ord, ord_ord, hs] at e1 e2
  unfold expS
  cases hz : decide (hval s 32 0 % ordL = 0) with
  | true => rw [hz] at e1; exact pure_of_out EL0 at_suite_Exp c_exp (N := 5) (gs := [(9, true)]) e1
  | false => rw [hz] at e2; exact pure_of_out EL0 at_suite_Exp c_exp (N := 5) (gs := [(9, false)]) e2
end Go.Proofs.YtjebjiakggmjhaaGreat
namespace Go.Proofs.YtjebjiakggmjhaaGreat
open Go.Proofs.Tryz
open Go Go.AM
def msS (f g : Nat → Nat → Int) : Nat → Q4
  | 0 => idS4
  | k + 1 => addS (msS f g k) (mulS (openS (hval (g k) 32 0)) (hval (f k) 32 0))
def rowsB (f : Nat → Nat → Int) (n : Nat) : Bool := (List.range n).all fun j => areB (f j) 32 0
def opsB (f : Nat → Nat → Int) (n : Nat) : Bool := (List.range n).all fun j => opOk (hval (f j) 32 0)
theorem rowsB_t {f : Nat → Nat → Int} {n : Nat} : rowsB f n = true ↔ ∀ j, j < n → areB (f j) 32 0 = true := by simp [rowsB]
theorem opsB_t {f : Nat → Nat → Int} {n : Nat} : opsB f n = true ↔ ∀ j, j < n → opOk (hval (f j) 32 0) = true := by simp [opsB]
abbrev gz (n : Nat) (x : Nat → Int) : Nat → Int := fun j => bif Nat.ble 0 (0 + j) && Nat.ble (0 + j + 1) n then x (0 + j - 0) else 0
theorem gz_at {n j : Nat} {x : Nat → Int} (h : j < n) : gz n x j = x j := by
  show (bif Nat.ble 0 (0 + j) && Nat.ble (0 + j + 1) n then x (0 + j - 0) else 0) = x j
  rw [show Nat.ble 0 (0 + j) = true from Nat.ble_eq_true_of_le (Nat.zero_le _), show Nat.ble (0 + j + 1) n = true from Nat.ble_eq_true_of_le (by omega), Nat.zero_add, Nat.sub_zero]; rfl
theorem gz_areB {x : Nat → Int} (h : areB x 32 0 = true) : areB (gz 32 (ld0 x)) 32 0 = true := areB_mk fun i hi => by
  rw [Nat.zero_add, gz_at hi]
  have := areB_t h i hi
  exact this
theorem gz_hval (x : Nat → Int) : hval (gz 32 (ld0 x)) 32 0 = hval x 32 0 := hval_congr fun i hi => by rw [Nat.zero_add, gz_at hi]; show x (0 + i) = _; rw [Nat.zero_add]
noncomputable abbrev mlE : EnvP := envP tt ex15 []
noncomputable def mlB : Code := match f_edwards_Multi.body with | some c => (match bodiesOf 0 c with | [.loop b] => b | _ => .skip) | none => .skip
def mlP (x : Nat → Int) : Nat → Int := gz 20 (lf (opFs (gz 32 (ld0 x))))
def mlQ (f g : Nat → Nat → Int) (k : Nat) : List Int := r20 (tmV (n20 (mlP (g k))) (n32 (ld0 (f k))) 64)
def mlV (f g : Nat → Nat → Int) : Nat → List Int
  | 0 => idP
  | k + 1 => ptAdd (ld0 (lf (mlV f g k))) (lf (mlQ f g k))
theorem mlP_law {x : Nat → Int} (hx : areB x 32 0 = true) (ho : opOk (hval x 32 0) = true) : bdP (mlP x) = true ∧ vP (mlP x) = openS (hval x 32 0) := by
  obtain ⟨h1, h2⟩ := opLs_law (gz_areB hx) (by rw [gz_hval]; exact ho)
  have e : ∀ d, d < 20 → mlP x d = lf (opFs (gz 32 (ld0 x))) d := fun d hd => gz_at hd
  obtain ⟨e1, e2, e3, e4⟩ := tb_ext e
  rw [gz_hval] at h2
  exact ⟨by rw [bdP_ext e]; exact h1, by rw [← h2]; unfold vP; rw [e1, e2, e3, e4]⟩
theorem mlQ_law {f g : Nat → Nat → Int} {k : Nat} (hf : areB (f k) 32 0 = true) (hg : areB (g k) 32 0 = true) (ho : opOk (hval (g k) 32 0) = true) :
    bdP (lf (mlQ f g k)) = true ∧ vP (lf (mlQ f g k)) = mulS (openS (hval (g k) 32 0)) (hval (f k) 32 0) := by
  obtain ⟨h1, h2⟩ := mlP_law hg ho
  obtain ⟨h3, h4⟩ := tm_law (s := ld0 (f k)) h1
  refine ⟨h3, ?_⟩
  show vP (lf (r20 (tmV (n20 (mlP (g k))) (n32 (ld0 (f k))) 64))) = _
  rw [h4, h2, ld0_eq, mulS_of hf]
theorem mlV_law {f g : Nat → Nat → Int} : ∀ {n : Nat}, rowsB f n = true → rowsB g n = true → opsB g n = true → bdP (lf (mlV f g n)) = true ∧ vP (lf (mlV f g n)) = msS f g n
  | 0, _, _, _ => idP_law
  | n + 1, hf, hg, ho => by
    obtain ⟨h1, h2⟩ := mlV_law (n := n) (rowsB_t.2 fun j hj => rowsB_t.1 hf j (by omega)) (rowsB_t.2 fun j hj => rowsB_t.1 hg j (by omega)) (opsB_t.2 fun j hj => opsB_t.1 ho j (by omega))
    obtain ⟨q1, q2⟩ := mlQ_law (rowsB_t.1 hf n (by omega)) (rowsB_t.1 hg n (by omega)) (opsB_t.1 ho n (by omega))
    rw [← ld0_eq (lf (mlV f g n))] at h1 h2
    obtain ⟨a1, a2⟩ := ptAdd_law h1 q1
    exact ⟨a1, by show vP (lf (ptAdd _ _)) = _; rw [a2, h2, q2]; rfl⟩
def mlS (t t' : Bool) (n : Nat) (f g : Nat → Nat → Int) (v : Int) (D : Nat → Nat → Int) : St := ⟨tmOf [(0, .sc (.vints t .u8 32 n f)), (1, .sc (.vints t' .u8 32 n g)), (4, .sc (.ptr 0 32 0 0 32)), (6, .sc (.ptr 1 20 0 0 20)), (18, .sc (.vints t' .u8 32 n g)), (19, .sc (.int .i64 n)), (20, .sc (.int .i64 v))] 44 0,
  [some (.ints .u8 32 1 (fun _ _ => 0)), some (.ints .u64 20 1 D)]⟩
def mlT (D : Nat → Nat → Int) : St := ⟨tmOf [(4, .sc (.ptr 0 32 0 0 32)), (6, .sc (.ptr 1 20 0 0 20))] 44 0, [some (.ints .u8 32 1 (fun _ _ => 0)), some (.ints .u64 20 1 D)]⟩
def mlD (f g : Nat → Nat → Int) (k : Nat) : Nat → Nat → Int := fun _ d => lf (mlV f g k) d
def mlN (f g : Nat → Nat → Int) (D : Nat → Nat → Int) (k : Nat) : Nat → Nat → Int := fun r d => bif Nat.beq r 0 && (Nat.ble 0 d && Nat.ble (d + 1) 20) then lf (ptAdd (fun j => D 0 (0 + j)) (lf (mlQ f g k))) (d - 0) else D r d
theorem ml_round (t t' : Bool) (n : Nat) (f g : Nat → Nat → Int) (v v' : Int) (D D' : Nat → Nat → Int) : roundR mlE [(21, true), (31, false)] 5 2 [] mlB (mlS t t' n f g v D) .normal (mlS t t' n f g v' D') =
    some (ckL [decide (v < (n : Int)) == true, inR v n, areB (gz 32 (ld0 (g v.toNat))) 32 0, (!opOk (hval (gz 32 (ld0 (g v.toNat))) 32 0)) == false, inR v n, bdP (mlP (g v.toNat)) && areB (ld0 (f v.toNat)) 32 0, chkP (fun j => D 0 (0 + j)) && chkP (lf (mlQ f g v.toNat))] &&
      stR (rnm 2 []) (mlS t t' n f g (wr .i64 (v + 1)) (mlN f g D v.toNat)) (mlS t t' n f g v' D')) := by kernel_rfl
theorem ml_stop (t t' : Bool) (n : Nat) (f g : Nat → Nat → Int) (v : Int) (D D' : Nat → Nat → Int) : roundR mlE [(21, false)] 5 2 [] mlB (mlS t t' n f g v D) (.exit 0) (mlT D') =
    some (ckL [decide (v < (n : Int)) == false] && stR (rnm 2 []) (mlT D) (mlT D')) := by kernel_rfl
theorem ml_same {t t' : Bool} {n : Nat} {f g : Nat → Nat → Int} {v v' : Int} {D D' : Nat → Nat → Int} (hv : v = v') (h : ∀ d, d < 20 → D 0 d = D' 0 d) : stR (rnm 2 []) (mlS t t' n f g v D) (mlS t t' n f g v' D') = true := by
  subst hv
  have e : eqF 1 20 D D' = true := eqF_of fun r hr d hd => by
    obtain rfl : r = 0 := by omega
    exact h d hd
  simp [stR, mlS, tmOf, tmR, avR, svR, rIs, rnm, kEq_refl, eqF_refl, hpR, blkR, ndR, e]
  decide
theorem mlT_same {D D' : Nat → Nat → Int} (h : ∀ d, d < 20 → D 0 d = D' 0 d) : stR (rnm 2 []) (mlT D) (mlT D') = true := by
  have e : eqF 1 20 D D' = true := eqF_of fun r hr d hd => by
    obtain rfl : r = 0 := by omega
    exact h d hd
  simp [stR, mlT, tmOf, tmR, avR, svR, rIs, rnm, kEq_refl, eqF_refl, hpR, blkR, ndR, e]
  decide
def mlCk (n : Nat) (f g : Nat → Nat → Int) : Bool := (big n && rowsB f n) && (rowsB g n && opsB g n)
def mlF (t t' : Bool) (n : Nat) (f g : Nat → Nat → Int) : LF := famA 2 [] (mlS t t' n f g ((0 : Nat) : Int) (mlD f g 0)) (mlCk n f g) .normal (mlT (mlD f g n))
theorem ml_body : f_edwards_Multi.body.map (bodiesOf 0) = some [.loop mlB] := by kernel_rfl
theorem ml_ok : codeOK prog mlE.env.isW mlB = true := by kernel_rfl
theorem l_ml (t t' : Bool) (n : Nat) (f g : Nat → Nat → Int) : LRow prog f_edwards_Multi 0 (mlF t t' n f g) := by
  refine LRow.famA (N := 5) (S := fun k => mlS t t' n f g (k : Int) (mlD f g k)) (X15.env []) mix n (loop_of ml_body) ml_ok (fun w0 own0 => accOK_none (fun id => rfl) mlB) (fun _ _ => Nat.le_refl _) (Nat.le_refl _) fun ha => ?_
  simp only [mlCk, Bool.and_eq_true] at ha
  obtain ⟨⟨hb, hf⟩, hg, ho⟩ := ha
  have hb : n ≤ 4611686018427387904 := Nat.le_of_ble_eq_true hb
  refine ⟨fun k hk => ?_, ?_⟩
  · have ew : wr .i64 ((k : Int) + 1) = ((k + 1 : Nat) : Int) := by rw [wr_small (by omega) (by omega)]; rfl
    have f1 := rowsB_t.1 hf k hk
    have g1 := rowsB_t.1 hg k hk
    have o1 := opsB_t.1 ho k hk
    obtain ⟨p1, _⟩ := mlP_law g1 o1
    obtain ⟨q1, _⟩ := mlQ_law f1 g1 o1
    obtain ⟨v1, _⟩ := mlV_law (n := k) (rowsB_t.2 fun j hj => rowsB_t.1 hf j (by omega)) (rowsB_t.2 fun j hj => rowsB_t.1 hg j (by omega)) (opsB_t.2 fun j hj => opsB_t.1 ho j (by omega))
    have v2 : chkP (fun j => mlD f g k 0 (0 + j)) = true := by
      have e : (fun j => mlD f g k 0 (0 + j)) = ld0 (lf (mlV f g k)) := rfl
      rw [e, ld0_eq]; exact bdP_chk v1
    refine roundR_toR (ml_round t t' n f g (k : Int) ((k + 1 : Nat) : Int) (mlD f g k) (mlD f g (k + 1))) (and_t.2 ⟨?_, ml_same ew fun d hd => ?_⟩)
    · rw [Int.toNat_natCast, gz_areB g1, gz_hval, o1, p1, ld0_eq, f1, v2, bdP_chk q1, inR_nat hk]
      simp [ckL]; omega
    · show mlN f g (mlD f g k) ((k : Int).toNat) 0 d = lf (mlV f g (k + 1)) d
      rw [Int.toNat_natCast]
      unfold mlN
      rw [show Nat.beq 0 0 = true from rfl, show Nat.ble 0 d = true from Nat.ble_eq_true_of_le (Nat.zero_le _), show Nat.ble (d + 1) 20 = true from Nat.ble_eq_true_of_le hd, Nat.sub_zero]
      rfl
  · obtain ⟨s1, r, q1, q2, q3⟩ := roundR_toR (n := 2) (ml_stop t t' n f g (n : Int) (mlD f g n) (mlD f g n)) (and_t.2 ⟨by simp [ckL], mlT_same fun _ _ => rfl⟩)
    exact ⟨_, s1, r, q1, rfl, q2, q3⟩
theorem c_ml (t t' : Bool) (n : Nat) (f g : Nat → Nat → Int) : fnChk prog (envL tt ex15 [] [(0, mlF t t' n f g)]) f_edwards_Multi = true := by kernel_rfl
theorem k_ml (t t' : Bool) (n : Nat) (f g : Nat → Nat → Int) : outP (apFunc (envL tt ex15 [] [(0, mlF t t' n f g)]) [(15, false)] 5 f_edwards_Multi [.sc (.vints t .u8 32 n f), .sc (.vints t' .u8 32 n g)] []) =
    some (ckL [((n : Int) != (n : Int)) == false, mlCk n f g && stR (rnm 2 []) (mlS t t' n f g 0 (fun r d => bif Nat.beq r 0 && (Nat.ble 0 d && Nat.ble (d + 1) 20) then lf idP (d - 0) else 0)) (mlS t t' n f g ((0 : Nat) : Int) (mlD f g 0)),
      bdP (fun j => mlD f g n 0 (0 + j))], .tup [b32 (formS (vP (fun j => mlD f g n 0 (0 + j)))), .sc (.int .i64 0)]) := by kernel_rfl
def tMulti : TF := fun args => match args with
  | [.sc (.vints _ .u8 32 n f), .sc (.vints _ .u8 32 m g)] => some (Nat.beq m n && mlCk n f g, .tup [b32 (formS (msS f g n)), .sc (.int .i64 0)])
  | _ => none
theorem r_multi : TRow prog F_edwards_Multi tMulti := by
  intro args r h
  unfold tMulti at h
  split at h
  case h_2 => simp at h
  rename_i t n f t' m g
  simp only [Option.some.injEq, Prod.mk.injEq, Bool.and_eq_true, beq_t] at h
  obtain ⟨⟨rfl, hc⟩, rfl⟩ := h
  refine pure_of_outL X15 at_edwards_Multi (LsOK.nil.cons (l_ml t t' m f g)) (c_ml t t' m f g) (N := 5) (gs := [(15, false)]) ?_
  have e := k_ml t t' m f g
  have hc' := hc
  simp only [mlCk, Bool.and_eq_true] at hc
  obtain ⟨⟨hb, hf⟩, hg, ho⟩ := hc
  obtain ⟨v1, v2⟩ := mlV_law hf hg ho
  have e0 : (fun j => mlD f g m 0 (0 + j)) = ld0 (lf (mlV f g m)) := rfl
  have es : stR (rnm 2 []) (mlS t t' m f g 0 (fun r d => bif Nat.beq r 0 && (Nat.ble 0 d && Nat.ble (d + 1) 20) then lf idP (d - 0) else 0)) (mlS t t' m f g ((0 : Nat) : Int) (mlD f g 0)) = true := ml_same rfl fun d hd => by
    rw [show Nat.beq 0 0 = true from rfl, show Nat.ble 0 d = true from Nat.ble_eq_true_of_le (Nat.zero_le _), show Nat.ble (d + 1) 20 = true from Nat.ble_eq_true_of_le hd, Nat.sub_zero]; rfl
  rw [e0, ld0_eq, v1, v2, hc', es] at e
  rw [show (((m : Int) != (m : Int)) == false) = true by simp] at e
  exact e
end Go.Proofs.YtjebjiakggmjhaaGreat
namespace Go.Proofs.YtjebjiakggmjhaaGreat
open Go.Proofs.Tryz
open Go Go.AM
theorem grp_0 {w : Int} (h : grpS w = 0) : opOk w = true ∧ w ≠ 1 ∧ prS w = true := by
  unfold grpS at h
  cases ho : opOk w with
  | false => rw [ho] at h; exact absurd h (show (41 : Int) ≠ 0 by decide)
  | true =>
    rw [ho] at h
    by_cases h1 : w = 1
    · rw [decide_eq_true h1] at h; exact absurd h (show (42 : Int) ≠ 0 by decide)
    · rw [decide_eq_false h1] at h
      cases hp : prS w with
      | false => rw [hp] at h; exact absurd h (show (43 : Int) ≠ 0 by decide)
      | true => exact ⟨rfl, h1, rfl⟩
end Go.Proofs.YtjebjiakggmjhaaGreat
namespace Go.Proofs.YtjebjiakggmjhaaGreat
open Go.Proofs.Tryz
open Go Go.AM
theorem bls_t {r k : Nat} (h : r < k) : Nat.ble (r + 1) k = true := Nat.ble_eq_true_of_le h
theorem bls_f {r k : Nat} (h : ¬ r < k) : Nat.ble (r + 1) k = false := by
  cases hb : Nat.ble (r + 1) k with
  | false => rfl
  | true => exact absurd (Nat.le_of_ble_eq_true hb) h
def upto (k : Nat) (f g : Nat → Nat → Int) : Nat → Nat → Int := fun r d => bif Nat.ble (r + 1) k then f r d else g r d
def hp1 (s : St) : Nat := s.hp.length - 1
end Go.Proofs.YtjebjiakggmjhaaGreat
namespace Go.Proofs.YtjebjiakggmjhaaGreat
open Go.Proofs.Tryz
open Go Go.AM
def cnF (f : Nat → Nat → Int) : Nat → Nat → Int := fun r d => lf (byL 32 (hval (f r) 32 0 % ordL)) d
theorem cn_hval (f : Nat → Nat → Int) (r : Nat) : hval (cnF f r) 32 0 = hval (f r) 32 0 % ordL := b_ord _
theorem cn_areB (f : Nat → Nat → Int) (r : Nat) : areB (cnF f r) 32 0 = true := areB_b32 _
def grp0 (g : Nat → Nat → Int) (j : Nat) : Bool := decide (grpS (hval (g j) 32 0) = 0)
def firstF (p : Nat → Bool) : Nat → Nat → Nat
  | 0, j => j
  | n + 1, j => bif p j then firstF p n (j + 1) else j
theorem firstF_spec (p : Nat → Bool) : ∀ (n j : Nat), j ≤ firstF p n j ∧ firstF p n j ≤ j + n ∧ (∀ k, j ≤ k → k < firstF p n j → p k = true) ∧ (firstF p n j < j + n → p (firstF p n j) = false)
  | 0, j => ⟨Nat.le_refl _, Nat.le_refl _, fun k h1 h2 => by simp only [firstF] at h2; omega, fun h => by simp only [firstF] at h; omega⟩
  | n + 1, j => by
    unfold firstF
    cases e : p j with
    | true =>
      obtain ⟨h1, h2, h3, h4⟩ := firstF_spec p n (j + 1)
      show j ≤ firstF p n (j + 1) ∧ _
      refine ⟨by omega, by show firstF p n (j + 1) ≤ _; omega, fun k hk1 hk2 => ?_, fun h => h4 (by have h : firstF p n (j + 1) < _ := h; omega)⟩
      by_cases q : k = j
      · rw [q]; exact e
      · exact h3 k (by omega) hk2
    | false => exact ⟨Nat.le_refl _, by show j ≤ _; omega, fun k h1 h2 => by have h2 : k < j := h2; omega, fun _ => e⟩
def combS (f : Nat → Nat → Int) (n : Nat) (g : Nat → Nat → Int) : Int × Int :=
  bif Nat.beq (firstF (grp0 g) n 0) n then (formS (msS (cnF f) g n), 0) else (0, grpS (hval (g (firstF (grp0 g) n 0)) 32 0))
def joinL (m : Nat) (D : Nat → Nat → Int) (x : Nat → Int) : Nat → Nat → Int := fun r d => bif Nat.ble (r + 1) m then D (0 + r) (0 + d) else svInt (cellAt (([[Seg.ints .u8 32 x]] : List (List Seg)).getD (0 + (r - m)) []) (0 + d))
theorem joinL_eq {m : Nat} {D D' : Nat → Nat → Int} {x : Nat → Int} (h1 : ∀ r, r < m → ∀ d, d < 32 → D r d = D' r d) (h2 : ∀ d, d < 32 → x d = D' m d) : eqF (m + 1) 32 (joinL m D x) D' = true := eqF_of fun r hr d hd => by
  unfold joinL
  by_cases e : r < m
  · rw [bls_t e]
    show D (0 + r) (0 + d) = _
    rw [Nat.zero_add, Nat.zero_add, h1 r e d hd]
  · obtain rfl : r = m := by omega
    rw [bls_f (by omega), Nat.sub_self]
    show svInt (cellAt [Seg.ints .u8 32 x] (0 + d)) = _
    rw [Nat.zero_add]
    exact h2 d hd
noncomputable def cb0 : List (Nat × TF) := (F_suite_group, tGroup) :: (F_scalar_Add, tAdd) :: (F_edwards_Multi, tMulti) :: []
theorem CB0 : LibOK prog tt cb0 [] := (((((L0).addT r_multi)).addT r_add)).addT r_group
noncomputable abbrev cbE : EnvP := envP tt cb0 []
noncomputable def cbB : Code := match f_suite_Combine.body with | some c => (match bodiesOf 0 c with | [.loop b] => b | _ => .skip) | none => .skip
def z32 : Option Blk := some (.ints .u8 32 1 (fun _ _ => 0))
def cbT (t t' : Bool) (n : Nat) (f g : Nat → Nat → Int) (v : Int) (id m : Nat) : List (Nat × AV) := [(0, .sc (.vints t .u8 32 n f)), (1, .sc (.vints t' .u8 32 n g)), (4, .sc (.ptr 0 32 0 0 32)), (6, .sc (.slice id 32 0 0 32 m)), (16, .sc (.vints t' .u8 32 n g)), (17, .sc (.int .i64 n)), (18, .sc (.int .i64 v))]
def cbS (t t' : Bool) (n : Nat) (f g : Nat → Nat → Int) (v : Int) (m : Nat) (D : Nat → Nat → Int) : St := ⟨tmOf (cbT t t' n f g v 1 m) 44 0, [z32, some (.ints .u8 32 m D)]⟩
def cbM (t t' : Bool) (n : Nat) (f g : Nat → Nat → Int) (v : Int) (m : Nat) (D : Nat → Nat → Int) : St := ⟨tmOf (cbT t t' n f g v 4 m) 44 0, [z32, none, none, none, some (.ints .u8 32 m D)]⟩
def cbT1 (t' : Bool) (n : Nat) (g : Nat → Nat → Int) (D : Nat → Nat → Int) : St := ⟨tmOf [(1, .sc (.vints t' .u8 32 n g)), (4, .sc (.ptr 0 32 0 0 32)), (6, .sc (.slice 1 32 0 0 32 n))] 44 0, [z32, some (.ints .u8 32 n D)]⟩
def cbT2 (e : Int) : St := ⟨tmOf [(4, .sc (.ptr 0 32 0 0 32)), (5, .sc (.int .i64 e))] 44 0, [z32]⟩
def cbX (f : Nat → Nat → Int) (k : Nat) : Nat → Int := lf (byL 32 ((hval (ld0 (f k)) 32 0 + hval (fun _ => 0) 32 0) % ordL))
theorem cb_round (t t' : Bool) (n : Nat) (f g : Nat → Nat → Int) (v v' : Int) (m m' : Nat) (D D' : Nat → Nat → Int) : roundR cbE [(19, true), (26, false)] 5 1 [4] cbB (cbS t t' n f g v m D) .normal (cbS t t' n f g v' m' D') =
    some (ckL [decide (v < (n : Int)) == true, inR v n, areB (gz 32 (ld0 (g v.toNat))) 32 0, (grpS (hval (gz 32 (ld0 (g v.toNat))) 32 0) != 0) == false, inR v n, areB (ld0 (f v.toNat)) 32 0 && true, fits (m + 1) 32 && true] &&
      stR (rnm 1 [4]) (cbM t t' n f g (wr .i64 (v + 1)) (m + 1) (joinL m D (cbX f v.toNat))) (cbS t t' n f g v' m' D')) := by kernel_rfl
theorem cb_stop (t t' : Bool) (n : Nat) (f g : Nat → Nat → Int) (v : Int) (D D' : Nat → Nat → Int) : roundR cbE [(19, false)] 5 1 [1] cbB (cbS t t' n f g v n D) (.exit 0) (cbT1 t' n g D') =
    some (ckL [decide (v < (n : Int)) == false] && stR (rnm 1 [1]) (cbT1 t' n g D) (cbT1 t' n g D')) := by kernel_rfl
theorem cb_ret (t t' : Bool) (n : Nat) (f g : Nat → Nat → Int) (v : Int) (m : Nat) (D : Nat → Nat → Int) (e : Int) : roundR cbE [(19, true), (26, true)] 5 1 [] cbB (cbS t t' n f g v m D) .ret (cbT2 e) =
    some (ckL [decide (v < (n : Int)) == true, inR v n, areB (gz 32 (ld0 (g v.toNat))) 32 0, (grpS (hval (gz 32 (ld0 (g v.toNat))) 32 0) != 0) == true] && stR (rnm 1 []) (cbT2 (grpS (hval (gz 32 (ld0 (g v.toNat))) 32 0))) (cbT2 e)) := by kernel_rfl
theorem cb_same {t t' : Bool} {n : Nat} {f g : Nat → Nat → Int} {v v' : Int} {m : Nat} {D D' : Nat → Nat → Int} (hv : v = v') (h : eqF m 32 D D' = true) : stR (rnm 1 [4]) (cbM t t' n f g v m D) (cbS t t' n f g v' m D') = true := by
  subst hv
  simp [stR, cbM, cbS, cbT, z32, tmOf, tmR, avR, svR, rIs, rnm, kEq_refl, eqF_refl, hpR, blkR, ndR, h] <;> decide
theorem cb_same1 {t' : Bool} {n : Nat} {g : Nat → Nat → Int} {D : Nat → Nat → Int} : stR (rnm 1 [1]) (cbT1 t' n g D) (cbT1 t' n g D) = true := by
  simp [stR, cbT1, z32, tmOf, tmR, avR, svR, rIs, rnm, kEq_refl, eqF_refl, hpR, blkR, ndR] <;> decide
theorem cb_same2 {e e' : Int} (h : e = e') : stR (rnm 1 []) (cbT2 e) (cbT2 e') = true := by
  subst h
  simp [stR, cbT2, z32, tmOf, tmR, avR, svR, rIs, rnm, kEq_refl, eqF_refl, hpR, blkR, ndR] <;> decide
def lim (n : Nat) : Bool := Nat.ble n 1073741824
def combCk (n : Nat) (f g : Nat → Nat → Int) : Bool := lim n && (rowsB f n && rowsB g n)
def cbF1 (t t' : Bool) (n : Nat) (f g : Nat → Nat → Int) : LF := famA 1 [] (cbS t t' n f g ((0 : Nat) : Int) 0 (cnF f)) (combCk n f g && Nat.beq (firstF (grp0 g) n 0) n) .normal (cbT1 t' n g (cnF f))
def cbF2 (t t' : Bool) (n : Nat) (f g : Nat → Nat → Int) : LF := famA 1 [] (cbS t t' n f g ((0 : Nat) : Int) 0 (cnF f)) (combCk n f g && Nat.ble (firstF (grp0 g) n 0 + 1) n) .ret (cbT2 (grpS (hval (g (firstF (grp0 g) n 0)) 32 0)))
theorem cb_body : f_suite_Combine.body.map (bodiesOf 0) = some [.loop cbB] := by kernel_rfl
theorem cb_ok : codeOK prog cbE.env.isW cbB = true := by kernel_rfl
theorem fits32 {m : Nat} (h : m ≤ 2147483648) : fits m 32 = true := by simp [fits]; omega
theorem cb_step {t t' : Bool} {n : Nat} {f g : Nat → Nat → Int} (hc : combCk n f g = true) {k : Nat} (hk : k < firstF (grp0 g) n 0) :
    ∃ s1 r, am cbE.env 5 cbB (cbS t t' n f g (k : Int) k (cnF f)) = some (.normal, s1) ∧ StLeR r s1 (cbS t t' n f g ((k + 1 : Nat) : Int) (k + 1) (cnF f)) ∧ ∀ i, i < 1 → r i = some i := by
  simp only [combCk, Bool.and_eq_true] at hc
  obtain ⟨hl, hf, hg⟩ := hc
  have hl : n ≤ 1073741824 := Nat.le_of_ble_eq_true hl
  obtain ⟨_, h2, h3, _⟩ := firstF_spec (grp0 g) n 0
  have hkn : k < n := by omega
  have f1 := rowsB_t.1 hf k hkn
  have g1 := rowsB_t.1 hg k hkn
  have hz : grpS (hval (g k) 32 0) = 0 := of_decide_eq_true (h3 k (Nat.zero_le _) hk)
  have ew : wr .i64 ((k : Int) + 1) = ((k + 1 : Nat) : Int) := by rw [wr_small (by omega) (by omega)]; rfl
  refine roundR_toR (cb_round t t' n f g (k : Int) ((k + 1 : Nat) : Int) k (k + 1) (cnF f) (cnF f)) (and_t.2 ⟨?_, cb_same ew (joinL_eq (fun _ _ _ _ => rfl) fun d _ => ?_)⟩)
  · rw [Int.toNat_natCast, gz_areB g1, gz_hval, hz, ld0_eq, f1, inR_nat hkn, fits32 (by omega)]
    simp [ckL]; omega
  · unfold cbX cnF
    rw [Int.toNat_natCast, ld0_eq, hval_0, Int.add_zero]
theorem l_cb1 (t t' : Bool) (n : Nat) (f g : Nat → Nat → Int) : LRow prog f_suite_Combine 0 (cbF1 t t' n f g) := by
  refine LRow.famA (N := 5) (S := fun k => cbS t t' n f g (k : Int) k (cnF f)) (CB0.env []) mix n (loop_of cb_body) cb_ok (fun w0 own0 => accOK_none (fun id => rfl) cbB) (fun _ _ => Nat.le_succ _) (Nat.le_succ _) fun ha => ?_
  simp only [Bool.and_eq_true, beq_t] at ha
  refine ⟨fun k hk => cb_step ha.1 (by omega), ?_⟩
  obtain ⟨s1, r, q1, q2, q3⟩ := roundR_toR (n := 1) (cb_stop t t' n f g (n : Int) (cnF f) (cnF f)) (and_t.2 ⟨by simp [ckL], cb_same1⟩)
  exact ⟨_, s1, r, q1, rfl, q2, q3⟩
theorem l_cb2 (t t' : Bool) (n : Nat) (f g : Nat → Nat → Int) : LRow prog f_suite_Combine 0 (cbF2 t t' n f g) := by
  refine LRow.famA (N := 5) (S := fun k => cbS t t' n f g (k : Int) k (cnF f)) (CB0.env []) mix (firstF (grp0 g) n 0) (loop_of cb_body) cb_ok (fun w0 own0 => accOK_none (fun id => rfl) cbB) (fun _ _ => Nat.le_succ _) (Nat.le_refl _) fun ha => ?_
  simp only [Bool.and_eq_true, ble_t] at ha
  refine ⟨fun k hk => cb_step ha.1 hk, ?_⟩
  have hc := ha.1
  simp only [combCk, Bool.and_eq_true] at hc
  obtain ⟨hl, hf, hg⟩ := hc
  obtain ⟨_, h2, h3, h4⟩ := firstF_spec (grp0 g) n 0
  have hb : (grpS (hval (g (firstF (grp0 g) n 0)) 32 0) != 0) = true := by
    have := of_decide_eq_false (h4 (by omega))
    simpa using this
  generalize firstF (grp0 g) n 0 = k at *
  have hkn : k < n := by omega
  have g1 := rowsB_t.1 hg k hkn
  obtain ⟨s1, r, q1, q2, q3⟩ := roundR_toR (n := 1) (cb_ret t t' n f g (k : Int) k (cnF f) (grpS (hval (g k) 32 0))) (and_t.2 ⟨by
    rw [Int.toNat_natCast, gz_areB g1, gz_hval, hb, inR_nat hkn]
    simp [ckL]; omega, cb_same2 (by rw [Int.toNat_natCast, gz_hval])⟩)
  exact ⟨_, s1, r, q1, rfl, q2, q3⟩
theorem c_cb1 (t t' : Bool) (n : Nat) (f g : Nat → Nat → Int) : fnChk prog (envL tt cb0 [] [(0, cbF1 t t' n f g)]) f_suite_Combine = true := by kernel_rfl
theorem c_cb2 (t t' : Bool) (n : Nat) (f g : Nat → Nat → Int) : fnChk prog (envL tt cb0 [] [(0, cbF2 t t' n f g)]) f_suite_Combine = true := by kernel_rfl
def cbZ (t t' : Bool) (n : Nat) (f g : Nat → Nat → Int) : St := ⟨tmOf [(0, .sc (.vints t .u8 32 n f)), (1, .sc (.vints t' .u8 32 n g)), (4, .sc (.ptr 0 32 0 0 32)), (6, .sc .nils), (16, .sc (.vints t' .u8 32 n g)), (17, .sc (.int .i64 n)), (18, .sc (.int .i64 0))] 44 0, [z32]⟩
theorem cb_same0 {t t' : Bool} {n : Nat} {f g D : Nat → Nat → Int} : stR (rnm 1 []) (cbZ t t' n f g) (cbS t t' n f g ((0 : Nat) : Int) 0 D) = true := by
  simp [stR, cbZ, cbS, cbT, z32, tmOf, tmR, avR, svR, rIs, rnm, kEq_refl, eqF_refl, hpR, blkR, ndR, Blk.n]
def cnR (f : Nat → Nat → Int) : Nat → Nat → Int := fun j d => cnF f (0 + j) (0 + d)
theorem k_cb0 (t t' : Bool) (n m : Nat) (f g : Nat → Nat → Int) : outP (apFunc cbE [(14, true)] 5 f_suite_Combine [.sc (.vints t .u8 32 n f), .sc (.vints t' .u8 32 m g)] []) = some (ckL [((n : Int) != (m : Int)) == true], .tup [b32 0, .sc (.int .i64 8)]) := by kernel_rfl
theorem k_cb1 (t t' : Bool) (n : Nat) (f g : Nat → Nat → Int) : outP (apFunc (envL tt cb0 [] [(0, cbF1 t t' n f g)]) [(14, false)] 5 f_suite_Combine [.sc (.vints t .u8 32 n f), .sc (.vints t' .u8 32 n g)] []) =
    some (ckL [((n : Int) != (n : Int)) == false, (combCk n f g && Nat.beq (firstF (grp0 g) n 0) n) && stR (rnm 1 []) (cbZ t t' n f g) (cbS t t' n f g ((0 : Nat) : Int) 0 (cnF f)), Nat.beq n n && mlCk n (cnR f) g], .tup [b32 (formS (msS (cnR f) g n)), .sc (.int .i64 0)]) := by kernel_rfl
theorem k_cb2 (t t' : Bool) (n : Nat) (f g : Nat → Nat → Int) : outP (apFunc (envL tt cb0 [] [(0, cbF2 t t' n f g)]) [(14, false)] 5 f_suite_Combine [.sc (.vints t .u8 32 n f), .sc (.vints t' .u8 32 n g)] []) =
    some (ckL [((n : Int) != (n : Int)) == false, (combCk n f g && Nat.ble (firstF (grp0 g) n 0 + 1) n) && stR (rnm 1 []) (cbZ t t' n f g) (cbS t t' n f g ((0 : Nat) : Int) 0 (cnF f))], .tup [b32 0, .sc (.int .i64 (grpS (hval (g (firstF (grp0 g) n 0)) 32 0)))]) := by kernel_rfl
def cmbS (f : Nat → Nat → Int) (n : Nat) (g : Nat → Nat → Int) (m : Nat) : Int × Int := if n = m then combS f n g else (0, 8)
def tCombine : TF := fun args => match args with
  | [.sc (.vints _ .u8 32 n f), .sc (.vints _ .u8 32 m g)] => some ((lim n && rowsB f n) && rowsB g m, .tup [b32 (cmbS f n g m).1, .sc (.int .i64 (cmbS f n g m).2)])
  | _ => none
theorem comb_mul {n : Nat} {f g : Nat → Nat → Int} (hl : lim n = true) (hg : rowsB g n = true) (h : Nat.beq (firstF (grp0 g) n 0) n = true) : mlCk n (cnR f) g = true ∧ msS (cnR f) g n = msS (cnF f) g n := by
  have h := beq_t.1 h
  obtain ⟨_, _, h3, _⟩ := firstF_spec (grp0 g) n 0
  have ho : opsB g n = true := opsB_t.2 fun j hj => (grp_0 (of_decide_eq_true (h3 j (Nat.zero_le _) (by omega)))).1
  have er : cnR f = cnF f := by funext j d; unfold cnR; rw [Nat.zero_add, Nat.zero_add]
  have hb : big n = true := Nat.ble_eq_true_of_le (by have := Nat.le_of_ble_eq_true hl; omega)
  have hr : rowsB (cnF f) n = true := rowsB_t.2 fun j _ => cn_areB f j
  rw [er]
  unfold mlCk
  rw [hb, hr, hg, ho]
  exact ⟨rfl, rfl⟩
theorem nn_t (n : Nat) : (((n : Int) != (n : Int)) == false) = true := by simp
theorem nm_t {n m : Nat} (h : n ≠ m) : (((n : Int) != (m : Int)) == true) = true := by simp; omega
theorem r_combine : TRow prog F_suite_Combine tCombine := by
  intro args r h
  unfold tCombine at h
  split at h
  case h_2 => simp at h
  rename_i t n f t' m g
  simp only [Option.some.injEq, Prod.mk.injEq, Bool.and_eq_true] at h
  obtain ⟨⟨⟨hl, hf⟩, hg⟩, rfl⟩ := h
  unfold cmbS
  by_cases hn : n = m
  · subst hn
    rw [if_pos rfl]
    have hc : combCk n f g = true := by unfold combCk; rw [hl, hf, hg]; rfl
    unfold combS
    cases hb : Nat.beq (firstF (grp0 g) n 0) n with
    | true =>
      obtain ⟨m1, m2⟩ := comb_mul (f := f) hl hg hb
      have e := k_cb1 t t' n f g
      rw [hc, hb, cb_same0, nn_t, m1, m2, nbeq_refl] at e
      exact pure_of_outL CB0 at_suite_Combine (LsOK.nil.cons (l_cb1 t t' n f g)) (c_cb1 t t' n f g) (N := 5) (gs := [(14, false)]) e
    | false =>
      have hlt : Nat.ble (firstF (grp0 g) n 0 + 1) n = true := Nat.ble_eq_true_of_le (by
        have := (firstF_spec (grp0 g) n 0).2.1
        have := beq_f.1 hb
        omega)
      have e := k_cb2 t t' n f g
      rw [hc, hlt, cb_same0, nn_t] at e
      exact pure_of_outL CB0 at_suite_Combine (LsOK.nil.cons (l_cb2 t t' n f g)) (c_cb2 t t' n f g) (N := 5) (gs := [(14, false)]) e
  · rw [if_neg hn]
    have e := k_cb0 t t' n m f g
    rw [nm_t hn] at e
    have c0 : fnChk prog cbE f_suite_Combine = true := by kernel_rfl
    exact pure_of_out CB0 at_suite_Combine c0 (N := 5) (gs := [(14, true)]) e
end Go.Proofs.YtjebjiakggmjhaaGreat
namespace Go.Proofs.YtjebjiakggmjhaaGreat
open Go.Proofs.Tryz
open Go Go.AM
theorem enc_zero : encP EP.zero = 1 := by decide
def nL (p : EP) : EP := EP.nsm ordL.toNat p
theorem ord_range : 0 ≤ ordL ∧ ordL < R256 := by decide
theorem one_iff (p : EP) : encP p = 1 ↔ p = EP.zero := by
  rw [← enc_zero]
  exact ⟨enc_inj, fun h => by rw [h]⟩
theorem pr_enc (p : EP) : prS (encP p) = decide (encP (nL p) = 1) := by
  obtain ⟨ho, hp⟩ := open_enc p
  have hm := is_mul hp ord_range.1 ord_range.2
  have e : prS (encP p) = isIdS (mulS (openS (encP p)) ordL) := by unfold prS; rw [ho, Bool.true_and]
  rw [e, form_id1 hm.on, form_is hm]
  rfl
theorem grp_ok {p : EP} (h1 : p ≠ EP.zero) (h2 : nL p = EP.zero) : grpS (encP p) = 0 := by
  unfold grpS
  rw [ok_enc, pr_enc, decide_eq_false (fun h => h1 ((one_iff p).1 h)), decide_eq_true ((one_iff _).2 h2)]
  rfl
def bP : EP := ⟨fq bxI, fq byI, by decide +kernel⟩
theorem b_on : On4 baseS := ⟨by decide, by decide, by decide, by decide +kernel, by decide +kernel, by decide +kernel, by decide +kernel⟩
theorem b_is : Is baseS bP := ⟨b_on, by decide +kernel, by decide +kernel⟩
theorem b_ord0 : isIdS (mulS baseS ordL) = true := by decide +kernel
theorem b_nL : nL bP = EP.zero := by
  have hm := is_mul b_is ord_range.1 ord_range.2
  have e := form_id1 hm.on
  rw [b_ord0, form_is hm] at e
  exact (one_iff _).1 (of_decide_eq_true e.symm)
theorem b_ne : bP ≠ EP.zero := fun h => by
  have e := congrArg encP h
  rw [enc_zero] at e
  exact absurd e (by decide +kernel)
end Go.Proofs.YtjebjiakggmjhaaGreat
namespace Go.Proofs.YtjebjiakggmjhaaGreat
open Go.Proofs.Tryz
open Go Go.AM
def ordN : Nat := ordL.toNat
theorem ordN_eq : (ordN : Int) = ordL := by decide
theorem ordN_lit : ordN = 7237005577332262213973186563042994240857116359379907606001950938285454250989 := by decide
def nI (k : Int) (p : EP) : EP := EP.nsm k.toNat p
theorem nI_0 (p : EP) : nI 0 p = EP.zero := rfl
theorem nL_nsm {p : EP} (h : nL p = EP.zero) (n : Nat) : nL (EP.nsm n p) = EP.zero := by
  have h : EP.nsm ordN p = EP.zero := h
  show EP.nsm ordN (EP.nsm n p) = EP.zero
  generalize ordN = m at *
  rw [← EP.nsm_mul, Nat.mul_comm, EP.nsm_mul, h, EP.nsm_zero]
theorem nL_nI {p : EP} (h : nL p = EP.zero) (k : Int) : nL (nI k p) = EP.zero := nL_nsm h _
theorem toNat_mod {k : Int} (h : 0 ≤ k) : (k % ordL).toNat = k.toNat % ordN := by
  have e := ordN_eq
  generalize ordN = m at *
  rw [← e]
  obtain ⟨n, rfl⟩ := Int.eq_ofNat_of_zero_le h
  rw [Int.toNat_natCast]
  exact (by omega : ((n : Int) % (m : Int)).toNat = n % m)
theorem nI_mod {p : EP} (hp : nL p = EP.zero) {k : Int} (h : 0 ≤ k) : nI (k % ordL) p = nI k p := by
  have hp : EP.nsm ordN p = EP.zero := hp
  unfold nI
  rw [toNat_mod h]
  generalize ordN = m at *
  exact EP.nsm_mod hp _
theorem nI_add {a b : Int} (ha : 0 ≤ a) (hb : 0 ≤ b) (p : EP) : nI (a + b) p = (nI a p).add (nI b p) := by
  unfold nI
  rw [Int.toNat_add ha hb, EP.nsm_add]
theorem nI_mul {a b : Int} (ha : 0 ≤ a) (hb : 0 ≤ b) (p : EP) : nI (a * b) p = nI a (nI b p) := by
  unfold nI
  rw [Int.mul_comm, Int.toNat_mul hb ha, EP.nsm_mul]
theorem inv_L {x : Nat} (h : x % ordN ≠ 0) : ∃ u, x * u % ordN = 1 := by
  rw [ordN_lit] at h ⊢
  refine ⟨x ^ (7237005577332262213973186563042994240857116359379907606001950938285454250989 - 2), ?_⟩
  have e := full_L.2.2 x h
  generalize hm : (7237005577332262213973186563042994240857116359379907606001950938285454250989 : Nat) = m at *
  have e2 : m - 1 = (m - 2) + 1 := by omega
  rw [e2, Nat.pow_succ, Nat.mul_comm] at e
  exact e
theorem nsm_ne {p : EP} (h1 : p ≠ EP.zero) (h2 : nL p = EP.zero) {x : Nat} (hx : x % ordN ≠ 0) : EP.nsm x p ≠ EP.zero := fun h => by
  obtain ⟨u, hu⟩ := inv_L hx
  have h2 : EP.nsm ordN p = EP.zero := h2
  generalize ordN = m at *
  have e : EP.nsm (x * u % m) p = EP.nsm (x * u) p := EP.nsm_mod h2 _
  rw [hu, EP.nsm_one, EP.nsm_mul, h, EP.nsm_zero] at e
  exact h1 e
theorem nI_ne {p : EP} (h1 : p ≠ EP.zero) (h2 : nL p = EP.zero) {x : Int} (h0 : 0 < x) (hx : x < ordL) : nI x p ≠ EP.zero := by
  refine nsm_ne h1 h2 ?_
  have e := ordN_eq
  generalize ordN = m at *
  rw [Nat.mod_eq_of_lt (by omega)]
  omega
def smP (P : Nat → EP) : Nat → EP
  | 0 => EP.zero
  | k + 1 => (smP P k).add (P k)
theorem smP_0 (P : Nat → EP) : smP P 0 = EP.zero := rfl
theorem smP_succ (P : Nat → EP) (k : Nat) : smP P (k + 1) = (smP P k).add (P k) := rfl
theorem smP_ext {P Q : Nat → EP} : ∀ {n : Nat}, (∀ j, j < n → P j = Q j) → smP P n = smP Q n
  | 0, _ => rfl
  | n + 1, h => by rw [smP_succ, smP_succ, smP_ext (fun j hj => h j (by omega)), h n (by omega)]
theorem smP_add (P Q : Nat → EP) : ∀ n, smP (fun j => (P j).add (Q j)) n = (smP P n).add (smP Q n)
  | 0 => by rw [smP_0, smP_0, smP_0, EP.add_zero]
  | n + 1 => by rw [smP_succ, smP_succ, smP_succ, smP_add P Q n, EP.add4]
theorem ms_is {f g : Nat → Nat → Int} {Q : Nat → EP} : ∀ {n : Nat}, (∀ j, j < n → 0 ≤ hval (f j) 32 0 ∧ hval (f j) 32 0 < R256) → (∀ j, j < n → hval (g j) 32 0 = encP (Q j)) → Is (msS f g n) (smP (fun j => nI (hval (f j) 32 0) (Q j)) n)
  | 0, _, _ => is_id
  | n + 1, hf, hg => by
    have h1 := ms_is (n := n) (fun j hj => hf j (by omega)) (fun j hj => hg j (by omega))
    have h2 := hf n (by omega)
    rw [smP_succ]
    show Is (addS (msS f g n) (mulS (openS (hval (g n) 32 0)) (hval (f n) 32 0))) _
    rw [hg n (by omega)]
    exact is_add h1 (is_mul (open_enc (Q n)).2 h2.1 h2.2)
theorem grp0_ok {g : Nat → Nat → Int} {Q : Nat → EP} {n : Nat} (hg : ∀ j, j < n → hval (g j) 32 0 = encP (Q j)) (h1 : ∀ j, j < n → Q j ≠ EP.zero) (h2 : ∀ j, j < n → nL (Q j) = EP.zero) : firstF (grp0 g) n 0 = n := by
  obtain ⟨_, a, _, b⟩ := firstF_spec (grp0 g) n 0
  by_cases h : firstF (grp0 g) n 0 < 0 + n
  · have e := b h
    generalize firstF (grp0 g) n 0 = k at *
    have hk : k < n := by omega
    unfold grp0 at e
    rw [hg k hk, grp_ok (h1 k hk) (h2 k hk)] at e
    exact absurd e (by decide)
  · omega
theorem comb_enc {f g : Nat → Nat → Int} {Q : Nat → EP} {n : Nat} (hf : ∀ j, j < n → areB (f j) 32 0 = true) (hg : ∀ j, j < n → hval (g j) 32 0 = encP (Q j)) (h1 : ∀ j, j < n → Q j ≠ EP.zero) (h2 : ∀ j, j < n → nL (Q j) = EP.zero) :
    cmbS f n g n = (encP (smP (fun j => nI (hval (f j) 32 0) (Q j)) n), 0) := by
  unfold cmbS combS
  rw [if_pos rfl, grp0_ok hg h1 h2, beq_t.2 rfl]
  have hi := ms_is (f := cnF f) (g := g) (Q := Q) (n := n) (fun j hj => by
    rw [cn_hval]
    have hm := modL_range (hval (f j) 32 0)
    exact ⟨hm.1, by unfold R256; omega⟩) hg
  show (formS (msS (cnF f) g n), (0 : Int)) = _
  rw [form_is hi]
  refine congrArg (fun x => (encP x, (0 : Int))) (smP_ext fun j hj => ?_)
  rw [cn_hval]
  exact nI_mod (h2 j hj) (hval_range (hf j hj)).1
theorem exp_enc {K : Int} (h0 : 0 < K) (h1 : K < ordL) : expS K = encP (nI K bP) := by
  have hr := ord_range.2
  unfold expS
  rw [decide_eq_false (by omega)]
  exact form_is (is_mul b_is (by omega) (by omega))
theorem add_enc (p q : EP) : addOk (encP p) (encP q) = true ∧ formS (addS (openS (encP p)) (openS (encP q))) = encP (p.add q) := by
  refine ⟨?_, form_is (is_add (open_enc p).2 (open_enc q).2)⟩
  unfold addOk
  rw [ok_enc, ok_enc]; rfl
end Go.Proofs.YtjebjiakggmjhaaGreat
namespace Go.Proofs.YtjebjiakggmjhaaGreat
open Go.Proofs.Tryz
open Go Go.AM
noncomputable def td0 : List (Nat × TF) := (F_edwards_fe_bytes, cT (envP tt tc1 []) 600 f_edwards_fe_bytes) :: tc1
theorem O0 : LibOK prog tt td0 [] := N3.cT at_edwards_fe_bytes 600 (by kernel_rfl)
noncomputable def td1 : List (Nat × TF) := (F_edwards_fe_odd, cT (envP tt td0 []) 600 f_edwards_fe_odd) :: td0
theorem O1 : LibOK prog tt td1 [] := O0.cT at_edwards_fe_odd 600 (by kernel_rfl)
noncomputable def td2 : List (Nat × TF) := (F_edwards_fe_same, cT (envP tt td1 []) 600 f_edwards_fe_same) :: td1
theorem O2 : LibOK prog tt td2 [] := O1.cT at_edwards_fe_same 600 (by kernel_rfl)
noncomputable def td3 : List (Nat × TF) := (F_edwards_load, cT (envP tt td2 []) 600 f_edwards_load) :: td2
theorem O3 : LibOK prog tt td3 [] := O2.cT at_edwards_load 600 (by kernel_rfl)
noncomputable def td4 : List (Nat × TF) := (F_edwards_rootOfMinus1, cT (envP tt td3 []) 600 f_edwards_rootOfMinus1) :: td3
theorem O4 : LibOK prog tt td4 [] := O3.cT at_edwards_rootOfMinus1 600 (by kernel_rfl)
noncomputable def td5 : List (Nat × TF) := (F_edwards_fe_squares, cT (envP tt td4 []) 600 f_edwards_fe_squares) :: td4
theorem O5 : LibOK prog tt td5 [] := O4.cT at_edwards_fe_squares 600 (by kernel_rfl)
noncomputable def td6 : List (Nat × TF) := (F_edwards_fe_chain, cT (envP tt td5 []) 600 f_edwards_fe_chain) :: td5
theorem O6 : LibOK prog tt td6 [] := O5.cT at_edwards_fe_chain 600 (by kernel_rfl)
noncomputable def td7 : List (Nat × TF) := (F_edwards_fe_inverse, cT (envP tt td6 []) 600 f_edwards_fe_inverse) :: td6
theorem O7 : LibOK prog tt td7 [] := O6.cT at_edwards_fe_inverse 600 (by kernel_rfl)
noncomputable def td8 : List (Nat × TF) := (F_edwards_fe_eighth, cT (envP tt td7 []) 600 f_edwards_fe_eighth) :: td7
theorem O8 : LibOK prog tt td8 [] := O7.cT at_edwards_fe_eighth 600 (by kernel_rfl)
noncomputable def td9 : List (Nat × TF) := (F_edwards_root, cT (envP tt td8 []) 600 f_edwards_root) :: td8
theorem O9 : LibOK prog tt td9 [] := O8.cT at_edwards_root 600 (by kernel_rfl)
noncomputable def td10 : List (Nat × TF) := (F_edwards_identity, cT (envP tt td9 []) 600 f_edwards_identity) :: td9
theorem O10 : LibOK prog tt td10 [] := O9.cT at_edwards_identity 600 (by kernel_rfl)
noncomputable def td11 : List (Nat × TF) := (F_edwards_base, cT (envP tt td10 []) 600 f_edwards_base) :: td10
theorem O11 : LibOK prog tt td11 [] := O10.cT at_edwards_base 600 (by kernel_rfl)
noncomputable def td12 : List (Nat × TF) := (F_edwards_order, cT (envP tt td11 []) 600 f_edwards_order) :: td11
theorem O12 : LibOK prog tt td12 [] := O11.cT at_edwards_order 600 (by kernel_rfl)
noncomputable def td13 : List (Nat × TF) := (F_edwards_point_isIdentity, cT (envP tt td12 []) 600 f_edwards_point_isIdentity) :: td12
theorem O13 : LibOK prog tt td13 [] := O12.cT at_edwards_point_isIdentity 600 (by kernel_rfl)
noncomputable def td14 : List (Nat × TF) := (F_edwards_point_xy, cT (envP tt td13 []) 600 f_edwards_point_xy) :: td13
theorem O14 : LibOK prog tt td14 [] := O13.cT at_edwards_point_xy 600 (by kernel_rfl)
noncomputable def td15 : List (Nat × TF) := (F_edwards_point_form, cT (envP tt td14 []) 600 f_edwards_point_form) :: td14
theorem O15 : LibOK prog tt td15 [] := O14.cT at_edwards_point_form 600 (by kernel_rfl)
noncomputable def td16 : List (Nat × TF) := (F_edwards_open, cT (envP tt td15 []) 600 f_edwards_open) :: td15
theorem O16 : LibOK prog tt td16 [] := O15.cT at_edwards_open 600 (by kernel_rfl)
noncomputable def td17 : List (Nat × TF) := (F_edwards_Check, cT (envP tt td16 []) 600 f_edwards_Check) :: td16
theorem O17 : LibOK prog tt td17 [] := O16.cT at_edwards_Check 600 (by kernel_rfl)
noncomputable def td18 : List (Nat × TF) := (F_edwards_Identity, cT (envP tt td17 []) 600 f_edwards_Identity) :: td17
theorem O18 : LibOK prog tt td18 [] := O17.cT at_edwards_Identity 600 (by kernel_rfl)
noncomputable def td19 : List (Nat × TF) := (F_edwards_point_times, cT (envP tt td18 []) 600 f_edwards_point_times) :: td18
theorem O19 : LibOK prog tt td19 [] := O18.cT at_edwards_point_times 600 (by kernel_rfl)
noncomputable def td20 : List (Nat × TF) := (F_edwards_IsPrime, cT (envP tt td19 []) 600 f_edwards_IsPrime) :: td19
theorem O20 : LibOK prog tt td20 [] := O19.cT at_edwards_IsPrime 600 (by kernel_rfl)
noncomputable def td21 : List (Nat × TF) := (F_edwards_MulBase, cT (envP tt td20 []) 600 f_edwards_MulBase) :: td20
theorem O21 : LibOK prog tt td21 [] := O20.cT at_edwards_MulBase 600 (by kernel_rfl)
end Go.Proofs.YtjebjiakggmjhaaGreat
namespace Go.Proofs.YtjebjiakggmjhaaGreat
open Go.Proofs.Tryz
open Go Go.AM
noncomputable def te0 : List (Nat × TF) := (F_scalar_Add, told tAdd) :: (F_scalar_IsZero, tIsZero) :: (F_scalar_radix, tRadix) :: (F_scalar_mont, told tMont) :: td21
theorem Q0 : LibOK prog tt te0 [] := (((O21.addT r_mont.told).addT r_radix).addT r_isZero).addT r_add.told
noncomputable def te1 : List (Nat × TF) := (F_scalar_times, cT (envP tt te0 []) 600 f_scalar_times) :: te0
theorem Q1 : LibOK prog tt te1 [] := Q0.cT at_scalar_times 600 (by kernel_rfl)
noncomputable def te2 : List (Nat × TF) := (F_scalar_Reduce, cT (envP tt te1 []) 600 f_scalar_Reduce) :: te1
theorem Q2 : LibOK prog tt te2 [] := Q1.cT at_scalar_Reduce 600 (by kernel_rfl)
noncomputable def te3 : List (Nat × TF) := (F_bits_RotateLeft64, cT (envP tt te2 []) 600 f_bits_RotateLeft64) :: te2
theorem Q3 : LibOK prog tt te3 [] := Q2.cT at_bits_RotateLeft64 600 (by kernel_rfl)
noncomputable def te4 : List (Nat × TF) := (F_sha512_ror, cT (envP tt te3 []) 600 f_sha512_ror) :: te3
theorem Q4_con2 : LibOK prog tt te4 [] := Q3.cT at_sha512_ror 600 (by kernel_rfl)
noncomputable def te5 : List (Nat × TF) := (F_sha512_Constants, cT (envP tt te4 []) 600 f_sha512_Constants) :: te4
theorem Q5 : LibOK prog tt te5 [] := Q4_con2.cT at_sha512_Constants 600 (by kernel_rfl)
noncomputable def te6 : List (Nat × TF) := (F_sha512_begin, cT (envP tt te5 []) 600 f_sha512_begin) :: te5
theorem Q6 : LibOK prog tt te6 [] := Q5.cT at_sha512_begin 600 (by kernel_rfl)
noncomputable def te7 : List (Nat × TF) := (F_sha512_Hasher_made, cT (envP tt te6 []) 600 f_sha512_Hasher_made) :: te6
theorem Q7 : LibOK prog tt te7 [] := Q6.cT at_sha512_Hasher_made 600 (by kernel_rfl)
noncomputable def te8 : List (Nat × TF) := (F_sha512_block, cT (envP tt te7 []) 600 f_sha512_block) :: te7
theorem Q8 : LibOK prog tt te8 [] := Q7.cT at_sha512_block 600 (by kernel_rfl)
noncomputable def te9 : List (Nat × TF) := (F_sha512_pad, cT (envP tt te8 []) 600 f_sha512_pad) :: te8
theorem Q9 : LibOK prog tt te9 [] := Q8.cT at_sha512_pad 600 (by kernel_rfl)
noncomputable def we10 : List (Nat × WF) := (F_sha512_New, cW (envP tt te9 []) 600 f_sha512_New) :: []
theorem Q10 : LibOK prog tt te9 we10 := Q9.cW at_sha512_New 600 (by kernel_rfl)
noncomputable def we11 : List (Nat × WF) := (F_sha512_Hasher_Write, cW (envP tt te9 we10) 600 f_sha512_Hasher_Write) :: we10
theorem Q11 : LibOK prog tt te9 we11 := Q10.cW at_sha512_Hasher_Write 600 (by kernel_rfl)
noncomputable def te12 : List (Nat × TF) := (F_sha512_Hasher_Sum, cT (envP tt te9 we11) 600 f_sha512_Hasher_Sum) :: te9
theorem Q12 : LibOK prog tt te12 we11 := Q11.cT at_sha512_Hasher_Sum 600 (by kernel_rfl)
noncomputable def te13 : List (Nat × TF) := (F_sha512_Join, cT (envP tt te12 we11) 600 f_sha512_Join) :: te12
theorem Q13 : LibOK prog tt te13 we11 := Q12.cT at_sha512_Join 600 (by kernel_rfl)
noncomputable def te14 : List (Nat × TF) := (F_suite_hashed, cT (envP tt te13 we11) 600 f_suite_hashed) :: te13
theorem Q14 : LibOK prog tt te14 we11 := Q13.cT at_suite_hashed 600 (by kernel_rfl)
noncomputable def te15 : List (Nat × TF) := (F_suite_number, cT (envP tt te14 we11) 600 f_suite_number) :: te14
theorem Q15 : LibOK prog tt te15 we11 := Q14.cT at_suite_number 600 (by kernel_rfl)
noncomputable def te16 : List (Nat × TF) := (F_suite_H1, cT (envP tt te15 we11) 600 f_suite_H1) :: te15
theorem Q16 : LibOK prog tt te16 we11 := Q15.cT at_suite_H1 600 (by kernel_rfl)
end Go.Proofs.YtjebjiakggmjhaaGreat
