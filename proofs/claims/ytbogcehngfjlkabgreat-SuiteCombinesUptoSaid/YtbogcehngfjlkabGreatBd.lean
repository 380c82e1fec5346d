/-
  Texts of the claim: DGio2 DPow DPow2 DPtG DPtG2 DPtG3 DTimG DFormG DPtO DPtO2 DEdwG DEdwG2 DEdwG3 DEdwG4 DMth DMont DMont2 DMont3 DScal DPlain DRef2 DMod DDig.
-/
import Derived.Test.YtbogcehngfjlkabGreatAc
import Derived.Test.YtbogcehngfjlkabGreatAd
import Derived.Test.YtbogcehngfjlkabGreatAe
import Derived.Test.YtbogcehngfjlkabGreatBa
import Derived.Test.YtbogcehngfjlkabGreatBc
namespace Go.Proofs.YtbogcehngfjlkabGreat
open Go.Proofs.Tryz
open Go Go.AM
def eAt (k : Nat) : Nat := match k with
  | 0 => 0
  | 1 => 26
  | 2 => 51
  | 3 => 77
  | 4 => 102
  | 5 => 128
  | 6 => 153
  | 7 => 179
  | 8 => 204
  | 9 => 230
  | _ => 255
def byW_gio2 (D : Nat → Int) (k : Nat) : St := byS D k (eAt k : Nat) (outK D (eAt k))
theorem by_same {D : Nat → Int} {i i' n n' : Int} {f g : Nat → Int} (hi : i = i') (hn : n = n') (h : ∀ d, d < 32 → f d = g d) : stR (rnm 4 []) (byS D i n f) (byS D i' n' g) = true := by
  subst hi hn
  have e : eqF 1 32 (fun _ d => f d) (fun _ d => g d) = true := eqF_of fun r _ d hd => h d hd
  simp [stR, byS, tmOf, tmR, avR, svR, rIs, rnm, kEq_refl, eqF_refl, hpR, blkR, ndR, e]
  decide
theorem by_sameT {f g : Nat → Int} (h : ∀ d, d < 32 → f d = g d) : stR (rnm 4 []) (byT f) (byT g) = true := by
  have e : eqF 1 32 (fun _ d => f d) (fun _ d => g d) = true := eqF_of fun r _ d hd => h d hd
  simp [stR, byT, tmOf, tmR, avR, svR, rIs, rnm, kEq_refl, eqF_refl, hpR, blkR, ndR, e]
  decide
def byF (D : Nat → Int) : LF := famA 4 [] (byW_gio2 D 0) true .normal (byT (outK D 255))
theorem by_body : f_rimeref04_Bytes.body.map (bodiesOf 2) = some [.loop byB] := by kernel_rfl
theorem by_ok : codeOK prog byE.env.isW byB = true := by kernel_rfl
theorem l_by (D : Nat → Int) : LRow prog f_rimeref04_Bytes 2 (byF D) := by
  refine LRow.famA (N := 30) (S := byW_gio2 D) (GX3.env []) mix 10 (loop_of by_body) by_ok (fun w0 own0 => accOK_none (fun id => rfl) byB) (fun _ _ => Nat.le_refl _) (Nat.le_refl _) fun _ => ?_
  refine ⟨fun k hk => ?_, ?_⟩
  · match k, hk with
    | 0, _ => exact roundR_toR (by_r0 D (outK D 26)) (and_t.2 ⟨rfl, by_same rfl rfl fun _ _ => rfl⟩)
    | 1, _ => exact roundR_toR (by_r1 D (outK D 51)) (and_t.2 ⟨rfl, by_same rfl rfl fun _ _ => rfl⟩)
    | 2, _ => exact roundR_toR (by_r2 D (outK D 77)) (and_t.2 ⟨rfl, by_same rfl rfl fun _ _ => rfl⟩)
    | 3, _ => exact roundR_toR (by_r3 D (outK D 102)) (and_t.2 ⟨rfl, by_same rfl rfl fun _ _ => rfl⟩)
    | 4, _ => exact roundR_toR (by_r4 D (outK D 128)) (and_t.2 ⟨rfl, by_same rfl rfl fun _ _ => rfl⟩)
    | 5, _ => exact roundR_toR (by_r5 D (outK D 153)) (and_t.2 ⟨rfl, by_same rfl rfl fun _ _ => rfl⟩)
    | 6, _ => exact roundR_toR (by_r6 D (outK D 179)) (and_t.2 ⟨rfl, by_same rfl rfl fun _ _ => rfl⟩)
    | 7, _ => exact roundR_toR (by_r7 D (outK D 204)) (and_t.2 ⟨rfl, by_same rfl rfl fun _ _ => rfl⟩)
    | 8, _ => exact roundR_toR (by_r8 D (outK D 230)) (and_t.2 ⟨rfl, by_same rfl rfl fun _ _ => rfl⟩)
    | 9, _ => exact roundR_toR (by_r9 D (outK D 255)) (and_t.2 ⟨rfl, by_same rfl rfl fun _ _ => rfl⟩)
  · obtain ⟨s1, r, q1, q2, q3⟩ := roundR_toR (n := 4) (by_x D (outK D 255)) (and_t.2 ⟨rfl, by_sameT fun _ _ => rfl⟩)
    exact ⟨_, s1, r, q1, rfl, q2, q3⟩
noncomputable abbrev byL1 (D : Nat → Int) : EnvP := envL tt gx3 [] [(2, byF D)]
theorem c_by1 (D : Nat → Int) : fnChk prog (byL1 D) f_rimeref04_Bytes = true := by kernel_rfl
def byIn (D f : Nat → Int) : St := byS D 0 0 f
theorem k_bytesGt (a : Nat → Int) : outP (apFunc (byL1 (xG (lf (c3G (l10 a)))).y) [(51, true)] 30 f_rimeref04_Bytes [u10 a] []) =
    some (ckL (byCk (l10 a) true ++ [true && stR (rnm 4 []) (byIn (xG (lf (c3G (l10 a)))).y (fun _ => 0)) (byW_gio2 (xG (lf (c3G (l10 a)))).y 0)]), u8s 32 (lf (tabL (outK (xG (lf (c3G (l10 a)))).y 255) 32 0))) := by kernel_rfl
theorem k_bytesGf (a : Nat → Int) : outP (apFunc (byL1 (lf (c3G (l10 a)))) [(51, false)] 30 f_rimeref04_Bytes [u10 a] []) =
    some (ckL (byCk (l10 a) false ++ [true && stR (rnm 4 []) (byIn (lf (c3G (l10 a))) (fun _ => 0)) (byW_gio2 (lf (c3G (l10 a))) 0)]), u8s 32 (lf (tabL (outK (lf (c3G (l10 a))) 255) 32 0))) := by kernel_rfl
theorem c3_law {l : List Int} (h : gd10 l = true) : Cn (lf (c3G l)) ∧ gvF (lf (c3G l)) % pP = gm l ∧ gw10 (lf l) = true ∧ gw10 (lf (carD (lf l))) = true ∧ gw10 (lf (carD (lf (carD (lf l))))) = true := by
  have w1 := gd_gw h
  have g1 := carD_gd w1
  have w2 := gd_gw g1
  have g2 := carD_gd w2
  have w3 := gd_gw g2
  refine ⟨carD_two (Cn.one (carD_two (carD_one h))), ?_, gw10_t.2 w1, gw10_t.2 w2, gw10_t.2 w3⟩
  obtain ⟨q1, e1⟩ := carD_val (lf l)
  obtain ⟨q2, e2⟩ := carD_val (lf (carD (lf l)))
  obtain ⟨q3, e3⟩ := carD_val (lf (carD (lf (carD (lf l)))))
  have f1 : gv (carD (lf l)) = gv l + q1 * pP := e1
  have f2 : gv (carD (lf (carD (lf l)))) = gv (carD (lf l)) + q2 * pP := e2
  have f3 : gvF (lf (c3G l)) = gv (carD (lf (carD (lf l)))) + q3 * pP := e3
  unfold gm
  rw [f3, Int.add_mul_emod_self_right, f2, Int.add_mul_emod_self_right, f1, Int.add_mul_emod_self_right]
theorem outK_all (D : Nat → Int) : tabL (outK D 255) 32 0 = outG D := rfl
theorem gm_range (l : List Int) : 0 ≤ gm l ∧ gm l < pP := ⟨Int.emod_nonneg _ (by decide), Int.emod_lt_of_pos _ pP_pos⟩
theorem gm_256 (l : List Int) : 0 ≤ gm l ∧ gm l < R256 := ⟨(gm_range l).1, Int.lt_trans (gm_range l).2 pP_256⟩
def tBytesG : TF := fun args => match args with
  | [.agg [.ints .i64 10 a]] => some (gd10 (l10 a), b32 (gm (l10 a)))
  | _ => none
theorem r_bytesG : TRow prog F_rimeref04_Bytes tBytesG := by
  intro args r h
  unfold tBytesG at h
  split at h
  case h_2 => simp at h
  rename_i a
  simp only [Option.some.injEq, Prod.mk.injEq] at h
  obtain ⟨ha, rfl⟩ := h
  obtain ⟨hc, hv, w1, w2, w3⟩ := c3_law ha
  obtain ⟨g0, g1, g2⟩ := xG_law hc
  cases hg : (xG (lf (c3G (l10 a)))).g with
  | true =>
    obtain ⟨c1, v1⟩ := g1 hg
    refine pure_of_outL GX3 at_rimeref04_Bytes (LsOK.nil.cons (l_by (xG (lf (c3G (l10 a)))).y)) (c_by1 (xG (lf (c3G (l10 a)))).y) (N := 30) (gs := [(51, true)]) ?_
    have e := k_bytesGt a
    rw [show byCk (l10 a) true = [true, true, true, true] by unfold byCk; rw [w1, w2, w3, hg]; rfl,
      show stR (rnm 4 []) (byIn (xG (lf (c3G (l10 a)))).y (fun _ => 0)) (byW_gio2 (xG (lf (c3G (l10 a)))).y 0) = true from by_same rfl rfl fun d _ => by
        show (0 : Int) = byteG _ d (cntB 0 d)
        have : cntB 0 d = 0 := by unfold cntB; rw [ble_n (by omega)]; show 0 - 8 * d = 0; omega
        rw [this]; rfl, outK_all, outG_law c1, v1, hv] at e
    exact e
  | false =>
    have v1 := g2 hg
    refine pure_of_outL GX3 at_rimeref04_Bytes (LsOK.nil.cons (l_by (lf (c3G (l10 a))))) (c_by1 (lf (c3G (l10 a)))) (N := 30) (gs := [(51, false)]) ?_
    have e := k_bytesGf a
    rw [show byCk (l10 a) false = [true, true, true, true] by unfold byCk; rw [w1, w2, w3, hg]; rfl,
      show stR (rnm 4 []) (byIn (lf (c3G (l10 a))) (fun _ => 0)) (byW_gio2 (lf (c3G (l10 a))) 0) = true from by_same rfl rfl fun d _ => by
        show (0 : Int) = byteG _ d (cntB 0 d)
        have : cntB 0 d = 0 := by unfold cntB; rw [ble_n (by omega)]; show 0 - 8 * d = 0; omega
        rw [this]; rfl, outK_all, outG_law hc, v1, hv] at e
    exact e
noncomputable def gx4 : List (Nat × TF) := (F_rimeref04_Bytes, tBytesG) :: (F_rimeref04_From, tFromG) :: gx2
theorem GX4 : LibOK prog tt gx4 [] := (GX2.addT r_fromG).addT r_bytesG
def tSameG : TF := fun args => match args with
  | [.agg [.ints .i64 10 a], .agg [.ints .i64 10 b]] => some (gd10 (l10 a) && gd10 (l10 b), .sc (.bool (decide (gm (l10 a) = gm (l10 b)))))
  | _ => none
theorem c_sameG : fnChk prog (envP tt gx4 []) f_rimeref04_Same = true := by kernel_rfl
theorem k_sameG (a b : Nat → Int) : outP (apFunc (envP tt gx4 []) [] 60 f_rimeref04_Same [u10 a, u10 b] []) = some (ckL [gd10 (l10 a), gd10 (l10 b)], .sc (.bool (eqN 32 (lf (byL 32 (gm (l10 a)))) (lf (byL 32 (gm (l10 b)))) && true))) := by kernel_rfl
theorem r_sameG : TRow prog F_rimeref04_Same tSameG := by
  intro args r h
  unfold tSameG at h
  split at h
  case h_2 => simp at h
  rename_i a b
  simp only [Option.some.injEq, Prod.mk.injEq, Bool.and_eq_true] at h
  obtain ⟨⟨ha, hb⟩, rfl⟩ := h
  refine pure_of_out GX4 at_rimeref04_Same c_sameG (N := 60) (gs := []) ?_
  have e := k_sameG a b
  rw [ha, hb, eqN_by (gm_256 _) (gm_256 _), Bool.and_true] at e
  exact e
def tSmallG : TF := fun args => match args with
  | [.sc (.int .i64 n)] => some (gwB n, u10 (lf (carD (lf [n, 0, 0, 0, 0, 0, 0, 0, 0, 0]))))
  | _ => none
theorem c_smallG : fnChk prog (envP tt gx4 []) f_rimeref04_Small = true := by kernel_rfl
theorem k_smallG (n : Int) : outP (apFunc (envP tt gx4 []) [] 60 f_rimeref04_Small [.sc (.int .i64 n)] []) = some (ckL [gw10 (lf [n, 0, 0, 0, 0, 0, 0, 0, 0, 0])], u10 (lf (carD (lf [n, 0, 0, 0, 0, 0, 0, 0, 0, 0])))) := by kernel_rfl
theorem r_smallG : TRow prog F_rimeref04_Small tSmallG := by
  intro args r h
  unfold tSmallG at h
  split at h
  case h_2 => simp at h
  rename_i n
  simp only [Option.some.injEq, Prod.mk.injEq] at h
  obtain ⟨ha, rfl⟩ := h
  refine pure_of_out GX4 at_rimeref04_Small c_smallG (N := 60) (gs := []) ?_
  have e := k_smallG n
  rw [show gw10 (lf [n, 0, 0, 0, 0, 0, 0, 0, 0, 0]) = true by unfold gw10; rw [show gwB (lf [n, 0, 0, 0, 0, 0, 0, 0, 0, 0] 0) = true from ha]; rfl] at e
  exact e
noncomputable def gx5 : List (Nat × TF) := (F_rimeref04_Small, tSmallG) :: (F_rimeref04_Same, tSameG) :: gx4
theorem GX5 : LibOK prog tt gx5 [] := (GX4.addT r_sameG).addT r_smallG
end Go.Proofs.YtbogcehngfjlkabGreat
namespace Go.Proofs.YtbogcehngfjlkabGreat
open Go.Proofs.Tryz
open Go Go.AM
def tG (a b : List Int) : List Int := mulG (q10 a) (q10 b)
theorem q10_gd (l : List Int) : gd10 (q10 l) = gd10 l := rfl
theorem q10_gm (l : List Int) : gm (q10 l) = gm l := rfl
theorem tG_gd {a b : List Int} (ha : gd10 a = true) (hb : gd10 b = true) : gd10 (tG a b) = true := (mulG_law (a := q10 a) (b := q10 b) ha hb).1
theorem tG_gm {a b : List Int} (ha : gd10 a = true) (hb : gd10 b = true) : gm (tG a b) = mM (gm a) (gm b) := mulG_gm (a := q10 a) (b := q10 b) ha hb
def one10 : List Int := carD (lf [1, 0, 0, 0, 0, 0, 0, 0, 0, 0])
def pwG (a : List Int) : List Bool → List Int → List Int
  | [], r => r
  | b :: bs, r => pwG a bs (match b with | true => tG (tG r r) a | false => tG r r)
def pwCk (a : List Int) : List Bool → List Int → List Bool
  | [], _ => []
  | b :: bs, r => match b with
    | true => (gd10 (q10 r) && gd10 (q10 r)) :: (gd10 (q10 (tG r r)) && gd10 (q10 a)) :: pwCk a bs (tG (tG r r) a)
    | false => (gd10 (q10 r) && gd10 (q10 r)) :: pwCk a bs (tG r r)
def bitsV (n : Nat) : List Bool → Nat
  | [] => n
  | b :: bs => bitsV (match b with | true => n + n + 1 | false => n + n) bs
theorem pwG_law {a : List Int} (ha : gd10 a = true) : ∀ (bs : List Bool) (r : List Int) (n : Nat), gd10 r = true → gm r = powM (gm a) n → gd10 (pwG a bs r) = true ∧ gm (pwG a bs r) = powM (gm a) (bitsV n bs) ∧ ∀ c ∈ pwCk a bs r, c = true
  | [], r, n, hr, hn => ⟨hr, hn, fun c hc => by simp [pwCk] at hc⟩
  | true :: bs, r, n, hr, hn => by
    have h2 := tG_gd hr hr
    have h3 := tG_gd h2 ha
    obtain ⟨q1, q2, q3⟩ := pwG_law ha bs (tG (tG r r) a) (n + n + 1) h3 (by rw [tG_gm h2 ha, tG_gm hr hr, hn, powM_mul, ← powM_mul (gm a) (n + n) 1, powM_one (gm_range a)])
    refine ⟨q1, q2, fun c hc => ?_⟩
    simp only [pwCk, List.mem_cons] at hc
    rcases hc with rfl | rfl | hc
    · exact and_t.2 ⟨hr, hr⟩
    · exact and_t.2 ⟨h2, ha⟩
    · exact q3 c hc
  | false :: bs, r, n, hr, hn => by
    have h2 := tG_gd hr hr
    obtain ⟨q1, q2, q3⟩ := pwG_law ha bs (tG r r) (n + n) h2 (by rw [tG_gm hr hr, hn, powM_mul])
    refine ⟨q1, q2, fun c hc => ?_⟩
    simp only [pwCk, List.mem_cons] at hc
    rcases hc with rfl | hc
    · exact and_t.2 ⟨hr, hr⟩
    · exact q3 c hc
theorem one10_law (x : Int) : gd10 one10 = true ∧ gm one10 = powM x 0 := by
  refine ⟨by decide, ?_⟩
  unfold powM
  rw [Int.pow_zero]
  decide
def eIL : List Int := [235, 255, 255, 255, 255, 255, 255, 255, 255, 255, 255, 255, 255, 255, 255, 255, 255, 255, 255, 255, 255, 255, 255, 255, 255, 255, 255, 255, 255, 255, 255, 127]
def eEL : List Int := [253, 255, 255, 255, 255, 255, 255, 255, 255, 255, 255, 255, 255, 255, 255, 255, 255, 255, 255, 255, 255, 255, 255, 255, 255, 255, 255, 255, 255, 255, 255, 15]
noncomputable abbrev pwE : EnvP := envP tt gx5 []
noncomputable def pwB : Code := match f_rimeref04_power.body with | some c => (match bodiesOf 0 c with | [.loop b] => b | _ => .skip) | none => .skip
def pwS (a s : Nat → Int) (i : Int) (x : Nat → Int) : St := ⟨tmOf [(2, .sc (.ptr 0 10 0 0 10)), (3, .sc (.ptr 1 32 0 0 32)), (4, .sc (.ptr 2 10 0 0 10)), (5, .sc (.ptr 3 10 0 0 10)), (6, .sc (.int .i64 i))] 32 0,
  [some (.ints .i64 10 1 (fun _ d => a d)), some (.ints .u8 32 1 (fun _ d => s d)), some (.ints .i64 10 1 (fun _ _ => 0)), some (.ints .i64 10 1 (fun _ d => x d))]⟩
def pwT (x : Nat → Int) : St := ⟨tmOf [(4, .sc (.ptr 2 10 0 0 10)), (5, .sc (.ptr 3 10 0 0 10))] 32 0, [none, none, some (.ints .i64 10 1 (fun _ _ => 0)), some (.ints .i64 10 1 (fun _ d => x d))]⟩
def ones8 : List Bool := [true, true, true, true, true, true, true, true]
def onCk (a : List Int) (s : Nat → Int) (v : Int) : Nat → List Int → List Bool
  | 0, _ => []
  | k + 1, r => (gd10 (q10 r) && gd10 (q10 r)) :: inR v 32 :: ((iand .u8 (ishr .u8 (s (0 + v.toNat * 1)) (k : Int)) 1 == 1) == true) :: (gd10 (q10 (tG r r)) && gd10 (q10 a)) :: onCk a s v k (tG (tG r r) a)
theorem pw_ones (a s : Nat → Int) (v v' : Int) (x x' : Nat → Int) : roundR pwE [(10, true), (27, true)] 12 4 [] pwB (pwS a s v x) .normal (pwS a s v' x') =
    some (ckL ((decide (v ≥ 0) == true) :: onCk (l10 a) s v 8 (l10 x)) && stR (rnm 4 []) (pwS a s (wr .i64 (v - 1)) (lf (pwG (l10 a) ones8 (l10 x)))) (pwS a s v' x')) := by kernel_rfl
theorem pw_exit (a s : Nat → Int) (x x' : Nat → Int) : roundR pwE [] 12 4 [] pwB (pwS a s (-1) x) (.exit 0) (pwT x') = some (true && stR (rnm 4 []) (pwT x) (pwT x')) := by kernel_rfl
def b31I : List Bool := [false, true, true, true, true, true, true, true]
def b0I : List Bool := [true, true, true, false, true, false, true, true]
theorem pw_31I (a : Nat → Int) (x x' : Nat → Int) : roundR pwE [] 12 4 [] pwB (pwS a (lf eIL) 31 x) .normal (pwS a (lf eIL) 30 x') =
    some (ckL (pwCk (l10 a) b31I (l10 x)) && stR (rnm 4 []) (pwS a (lf eIL) 30 (lf (pwG (l10 a) b31I (l10 x)))) (pwS a (lf eIL) 30 x')) := by kernel_rfl
theorem pw_0I (a : Nat → Int) (x x' : Nat → Int) : roundR pwE [] 12 4 [] pwB (pwS a (lf eIL) 0 x) .normal (pwS a (lf eIL) (-1) x') =
    some (ckL (pwCk (l10 a) b0I (l10 x)) && stR (rnm 4 []) (pwS a (lf eIL) (-1) (lf (pwG (l10 a) b0I (l10 x)))) (pwS a (lf eIL) (-1) x')) := by kernel_rfl
def b31E : List Bool := [false, false, false, false, true, true, true, true]
def b0E : List Bool := [true, true, true, true, true, true, false, true]
theorem pw_31E (a : Nat → Int) (x x' : Nat → Int) : roundR pwE [] 12 4 [] pwB (pwS a (lf eEL) 31 x) .normal (pwS a (lf eEL) 30 x') =
    some (ckL (pwCk (l10 a) b31E (l10 x)) && stR (rnm 4 []) (pwS a (lf eEL) 30 (lf (pwG (l10 a) b31E (l10 x)))) (pwS a (lf eEL) 30 x')) := by kernel_rfl
theorem pw_0E (a : Nat → Int) (x x' : Nat → Int) : roundR pwE [] 12 4 [] pwB (pwS a (lf eEL) 0 x) .normal (pwS a (lf eEL) (-1) x') =
    some (ckL (pwCk (l10 a) b0E (l10 x)) && stR (rnm 4 []) (pwS a (lf eEL) (-1) (lf (pwG (l10 a) b0E (l10 x)))) (pwS a (lf eEL) (-1) x')) := by kernel_rfl
end Go.Proofs.YtbogcehngfjlkabGreat
namespace Go.Proofs.YtbogcehngfjlkabGreat
open Go.Proofs.Tryz
open Go Go.AM
theorem pw_same {a s : Nat → Int} {v v' : Int} {f g : Nat → Int} (hv : v = v') (h : ∀ d, d < 10 → f d = g d) : stR (rnm 4 []) (pwS a s v f) (pwS a s v' g) = true := by
  subst hv
  have e : eqF 1 10 (fun _ d => f d) (fun _ d => g d) = true := eqF_of fun r _ d hd => h d hd
  simp [stR, pwS, tmOf, tmR, avR, svR, rIs, rnm, kEq_refl, eqF_refl, hpR, blkR, ndR, e]
  decide
theorem pw_sameT {f g : Nat → Int} (h : ∀ d, d < 10 → f d = g d) : stR (rnm 4 []) (pwT f) (pwT g) = true := by
  have e : eqF 1 10 (fun _ d => f d) (fun _ d => g d) = true := eqF_of fun r _ d hd => h d hd
  simp [stR, pwT, tmOf, tmR, avR, svR, rIs, rnm, kEq_refl, eqF_refl, hpR, blkR, ndR, e]
  decide
theorem on_bit : ∀ k : Nat, k < 8 → (iand .u8 (ishr .u8 255 (k : Int)) 1 == 1) = true := by decide
theorem onCk_law {a : List Int} (ha : gd10 a = true) {s : Nat → Int} {v : Int} (hv : inR v 32 = true) (hs : s (0 + v.toNat * 1) = 255) : ∀ (k : Nat) (r : List Int), k ≤ 8 → gd10 r = true → ∀ c ∈ onCk a s v k r, c = true
  | 0, r, _, _, c, hc => by simp [onCk] at hc
  | k + 1, r, hk, hr, c, hc => by
    have h2 := tG_gd hr hr
    simp only [onCk, List.mem_cons] at hc
    rcases hc with rfl | rfl | rfl | rfl | hc
    · exact and_t.2 ⟨hr, hr⟩
    · exact hv
    · rw [hs, on_bit k (by omega)]; rfl
    · exact and_t.2 ⟨h2, ha⟩
    · exact onCk_law ha hv hs k _ (by omega) (tG_gd h2 ha) c hc
def btI (k : Nat) : List Bool := match k with
  | 0 => b31I
  | 31 => b0I
  | _ => ones8
def rkI (a : List Int) : Nat → List Int
  | 0 => one10
  | k + 1 => pwG a (btI k) (q10 (rkI a k))
def nkI : Nat → Nat
  | 0 => 0
  | k + 1 => bitsV (nkI k) (btI k)
theorem nkI_val : nkI 32 = 57896044618658097711785492504343953926634992332820282019728792003956564819947 := by decide +kernel
theorem rkI_law {a : List Int} (ha : gd10 a = true) : ∀ k, gd10 (rkI a k) = true ∧ gm (rkI a k) = powM (gm a) (nkI k)
  | 0 => one10_law _
  | k + 1 => by
    obtain ⟨h1, h2⟩ := rkI_law ha k
    obtain ⟨q1, q2, q3⟩ := pwG_law ha (btI k) (q10 (rkI a k)) (nkI k) h1 h2
    exact ⟨q1, q2⟩
def pwWI (a : Nat → Int) (k : Nat) : St := pwS a (lf eIL) (31 - (k : Int)) (lf (rkI (l10 a) k))
def pwFI (a : Nat → Int) : LF := famA 4 [] (pwWI a 0) (gd10 (l10 a)) .normal (pwT (lf (rkI (l10 a) 32)))
theorem midI : ∀ k, k < 31 → 0 < k → lf eIL (0 + (31 - k) * 1) = 255 ∧ btI k = ones8 := by decide
def btE (k : Nat) : List Bool := match k with
  | 0 => b31E
  | 31 => b0E
  | _ => ones8
def rkE (a : List Int) : Nat → List Int
  | 0 => one10
  | k + 1 => pwG a (btE k) (q10 (rkE a k))
def nkE : Nat → Nat
  | 0 => 0
  | k + 1 => bitsV (nkE k) (btE k)
theorem nkE_val : nkE 32 = 7237005577332262213973186563042994240829374041602535252466099000494570602493 := by decide +kernel
theorem rkE_law {a : List Int} (ha : gd10 a = true) : ∀ k, gd10 (rkE a k) = true ∧ gm (rkE a k) = powM (gm a) (nkE k)
  | 0 => one10_law _
  | k + 1 => by
    obtain ⟨h1, h2⟩ := rkE_law ha k
    obtain ⟨q1, q2, q3⟩ := pwG_law ha (btE k) (q10 (rkE a k)) (nkE k) h1 h2
    exact ⟨q1, q2⟩
def pwWE (a : Nat → Int) (k : Nat) : St := pwS a (lf eEL) (31 - (k : Int)) (lf (rkE (l10 a) k))
def pwFE (a : Nat → Int) : LF := famA 4 [] (pwWE a 0) (gd10 (l10 a)) .normal (pwT (lf (rkE (l10 a) 32)))
theorem midE : ∀ k, k < 31 → 0 < k → lf eEL (0 + (31 - k) * 1) = 255 ∧ btE k = ones8 := by decide
theorem pw_body : f_rimeref04_power.body.map (bodiesOf 0) = some [.loop pwB] := by kernel_rfl
theorem pw_ok : codeOK prog pwE.env.isW pwB = true := by kernel_rfl
set_option maxRecDepth 100000 in
theorem l_pwI (a : Nat → Int) : LRow prog f_rimeref04_power 0 (pwFI a) := by
  refine LRow.famA (N := 12) (S := pwWI a) (GX5.env []) mix 32 (loop_of pw_body) pw_ok (fun w0 own0 => accOK_none (fun id => rfl) pwB) (fun _ _ => Nat.le_refl _) (Nat.le_refl _) fun ha => ?_
  refine ⟨fun k hk => ?_, ?_⟩
  · obtain ⟨h1, h2⟩ := rkI_law ha k
    obtain ⟨q1, q2, q3⟩ := pwG_law ha (btI k) (q10 (rkI (l10 a) k)) (nkI k) h1 h2
    by_cases k0 : k = 0
    · subst k0
      exact roundR_toR (pw_31I a (lf (rkI (l10 a) 0)) (lf (rkI (l10 a) 1))) (and_t.2 ⟨ckL_t.2 q3, pw_same rfl fun _ _ => rfl⟩)
    · by_cases k31 : k = 31
      · subst k31
        exact roundR_toR (pw_0I a (lf (rkI (l10 a) 31)) (lf (rkI (l10 a) 32))) (and_t.2 ⟨ckL_t.2 q3, pw_same rfl fun _ _ => rfl⟩)
      · obtain ⟨m1, m2⟩ := midI k (by omega) (by omega)
        have hv : (31 - (k : Int)).toNat = 31 - k := by omega
        refine roundR_toR (pw_ones a (lf eIL) (31 - (k : Int)) (31 - ((k + 1 : Nat) : Int)) (lf (rkI (l10 a) k)) (lf (rkI (l10 a) (k + 1)))) (and_t.2 ⟨ckL_t.2 fun c hc => ?_, pw_same ((wr_i64 (by omega) (by omega)).trans (by omega)) fun d _ => ?_⟩)
        · simp only [List.mem_cons] at hc
          rcases hc with rfl | hc
          · rw [decide_eq_true (by omega)]; rfl
          · exact onCk_law ha (by simp [inR]; omega) (by rw [hv]; exact m1) 8 _ (Nat.le_refl _) h1 c hc
        · show lf (pwG (l10 a) ones8 _) d = lf (pwG (l10 a) (btI k) _) d
          rw [m2]; rfl
  · obtain ⟨s1, r, q1, q2, q3⟩ := roundR_toR (n := 4) (pw_exit a (lf eIL) (lf (rkI (l10 a) 32)) (lf (rkI (l10 a) 32))) (and_t.2 ⟨rfl, pw_sameT fun _ _ => rfl⟩)
    exact ⟨_, s1, r, q1, rfl, q2, q3⟩
theorem c_pwI (a : Nat → Int) : fnChk prog (envL tt gx5 [] [(0, pwFI a)]) f_rimeref04_power = true := by kernel_rfl
set_option maxRecDepth 100000 in
theorem k_pwI (a : Nat → Int) : outP (apFunc (envL tt gx5 [] [(0, pwFI a)]) [] 5 f_rimeref04_power [u10 a, u8s 32 (lf eIL)] []) =
    some (ckL [gd10 (l10 a) && stR (rnm 4 []) (pwS a (lf eIL) 31 (lf one10)) (pwWI a 0)], u10 (lf (q10 (rkI (l10 a) 32)))) := by kernel_rfl
theorem p_pwI (a : Nat → Int) (ha : gd10 (l10 a) = true) : Pure prog F_rimeref04_power [u10 a, u8s 32 (lf eIL)] (u10 (lf (q10 (rkI (l10 a) 32)))) := by
  refine pure_of_outL GX5 at_rimeref04_power (LsOK.nil.cons (l_pwI a)) (c_pwI a) (N := 5) (gs := []) ?_
  have e := k_pwI a
  rw [ha, show stR (rnm 4 []) (pwS a (lf eIL) 31 (lf one10)) (pwWI a 0) = true from pw_same rfl fun _ _ => rfl] at e
  exact e
set_option maxRecDepth 100000 in
theorem l_pwE (a : Nat → Int) : LRow prog f_rimeref04_power 0 (pwFE a) := by
  refine LRow.famA (N := 12) (S := pwWE a) (GX5.env []) mix 32 (loop_of pw_body) pw_ok (fun w0 own0 => accOK_none (fun id => rfl) pwB) (fun _ _ => Nat.le_refl _) (Nat.le_refl _) fun ha => ?_
  refine ⟨fun k hk => ?_, ?_⟩
  · obtain ⟨h1, h2⟩ := rkE_law ha k
    obtain ⟨q1, q2, q3⟩ := pwG_law ha (btE k) (q10 (rkE (l10 a) k)) (nkE k) h1 h2
    by_cases k0 : k = 0
    · subst k0
      exact roundR_toR (pw_31E a (lf (rkE (l10 a) 0)) (lf (rkE (l10 a) 1))) (and_t.2 ⟨ckL_t.2 q3, pw_same rfl fun _ _ => rfl⟩)
    · by_cases k31 : k = 31
      · subst k31
        exact roundR_toR (pw_0E a (lf (rkE (l10 a) 31)) (lf (rkE (l10 a) 32))) (and_t.2 ⟨ckL_t.2 q3, pw_same rfl fun _ _ => rfl⟩)
      · obtain ⟨m1, m2⟩ := midE k (by omega) (by omega)
        have hv : (31 - (k : Int)).toNat = 31 - k := by omega
        refine roundR_toR (pw_ones a (lf eEL) (31 - (k : Int)) (31 - ((k + 1 : Nat) : Int)) (lf (rkE (l10 a) k)) (lf (rkE (l10 a) (k + 1)))) (and_t.2 ⟨ckL_t.2 fun c hc => ?_, pw_same ((wr_i64 (by omega) (by omega)).trans (by omega)) fun d _ => ?_⟩)
        · simp only [List.mem_cons] at hc
          rcases hc with rfl | hc
          · rw [decide_eq_true (by omega)]; rfl
          · exact onCk_law ha (by simp [inR]; omega) (by rw [hv]; exact m1) 8 _ (Nat.le_refl _) h1 c hc
        · show lf (pwG (l10 a) ones8 _) d = lf (pwG (l10 a) (btE k) _) d
          rw [m2]; rfl
  · obtain ⟨s1, r, q1, q2, q3⟩ := roundR_toR (n := 4) (pw_exit a (lf eEL) (lf (rkE (l10 a) 32)) (lf (rkE (l10 a) 32))) (and_t.2 ⟨rfl, pw_sameT fun _ _ => rfl⟩)
    exact ⟨_, s1, r, q1, rfl, q2, q3⟩
theorem c_pwE (a : Nat → Int) : fnChk prog (envL tt gx5 [] [(0, pwFE a)]) f_rimeref04_power = true := by kernel_rfl
set_option maxRecDepth 100000 in
theorem k_pwE (a : Nat → Int) : outP (apFunc (envL tt gx5 [] [(0, pwFE a)]) [] 5 f_rimeref04_power [u10 a, u8s 32 (lf eEL)] []) =
    some (ckL [gd10 (l10 a) && stR (rnm 4 []) (pwS a (lf eEL) 31 (lf one10)) (pwWE a 0)], u10 (lf (q10 (rkE (l10 a) 32)))) := by kernel_rfl
theorem p_pwE (a : Nat → Int) (ha : gd10 (l10 a) = true) : Pure prog F_rimeref04_power [u10 a, u8s 32 (lf eEL)] (u10 (lf (q10 (rkE (l10 a) 32)))) := by
  refine pure_of_outL GX5 at_rimeref04_power (LsOK.nil.cons (l_pwE a)) (c_pwE a) (N := 5) (gs := []) ?_
  have e := k_pwE a
  rw [ha, show stR (rnm 4 []) (pwS a (lf eEL) 31 (lf one10)) (pwWE a 0) = true from pw_same rfl fun _ _ => rfl] at e
  exact e
def tPowerG : TF := fun args => match args with
  | [.agg [.ints .i64 10 a], .agg [.ints .u8 32 s]] => (match eqN 32 s (lf eIL) with
    | true => some (gd10 (l10 a), u10 (lf (q10 (rkI (l10 a) 32))))
    | false => some (gd10 (l10 a) && eqN 32 s (lf eEL), u10 (lf (q10 (rkE (l10 a) 32)))))
  | _ => none
theorem RG_eqN {σ : Sg} {pr : Pr} {w : World} {k : IntKind} {n : Nat} {f g : Nat → Int} (h : eqN n f g = true) {v : Value} (hv : RV σ pr w (.agg [.ints k n f]) v) : RV σ pr w (.agg [.ints k n g]) v := by
  obtain ⟨cs, rfl, h1, h2⟩ := hv
  refine ⟨cs, rfl, h1, fun c x hx => ?_⟩
  have hc : c < n := by
    have := (List.getElem?_eq_some_iff.1 hx).1
    rw [h1] at this
    simpa [lenS] using this
  have := h2 c x hx
  have e : f c = g c := eqN_t h c hc
  show RS σ pr w (.int k (g c)) x
  rw [← e]; exact this
theorem pure_eqN {f : FuncId} {a : AV} {k : IntKind} {n : Nat} {s s' : Nat → Int} {r : AV} (h : eqN n s s' = true) (hP : Pure prog f [a, .agg [.ints k n s']] r) : Pure prog f [a, .agg [.ints k n s]] r := by
  intro pr w vs ha hlt
  refine hP pr w vs ⟨by simpa using ha.1, fun j x v e1 e2 => ?_⟩ hlt
  match j, e1 with
  | 0, e1 => exact ha.2 0 x v (by simpa using e1) e2
  | 1, e1 =>
    simp only [List.getElem?_cons_succ, List.getElem?_cons_zero, Option.some.injEq] at e1
    subst e1
    exact RG_eqN h (ha.2 1 _ v rfl e2)
  | j + 2, e1 => simp at e1
theorem r_powerG : TRow prog F_rimeref04_power tPowerG := by
  intro args r h
  unfold tPowerG at h
  split at h
  case h_2 => simp at h
  rename_i a s
  split at h
  · rename_i hs
    simp only [Option.some.injEq, Prod.mk.injEq] at h
    obtain ⟨ha, rfl⟩ := h
    exact pure_eqN hs (p_pwI a ha)
  · simp only [Option.some.injEq, Prod.mk.injEq, Bool.and_eq_true] at h
    obtain ⟨⟨ha, hs⟩, rfl⟩ := h
    exact pure_eqN hs (p_pwE a ha)
end Go.Proofs.YtbogcehngfjlkabGreat
namespace Go.Proofs.YtbogcehngfjlkabGreat
open Go.Proofs.Tryz
open Go Go.AM
def tExpG : TF := fun args => match args with
  | [.sc (.int .u8 l), .sc (.int .i64 h)] => (match decide (l = 2) && decide (h = 0) with
    | true => some (true, u8s 32 (lf eIL))
    | false => some (decide (l = 0) && decide (h = 3), u8s 32 (lf eEL)))
  | _ => none
theorem c_expG : fnChk prog (envP tt gx5 []) f_rimeref04_exponent = true := by kernel_rfl
theorem r_expG : TRow prog F_rimeref04_exponent tExpG := by
  intro args r h
  unfold tExpG at h
  split at h
  case h_2 => simp at h
  rename_i l hh
  split at h
  · rename_i hc
    simp only [Bool.and_eq_true, decide_eq_true_eq] at hc
    obtain ⟨rfl, rfl⟩ := hc
    simp only [Option.some.injEq, Prod.mk.injEq, true_and] at h
    subst h
    exact pure_of_out GX5 at_rimeref04_exponent c_expG (N := 40) (gs := []) (by kernel_rfl)
  · simp only [Option.some.injEq, Prod.mk.injEq, Bool.and_eq_true, decide_eq_true_eq] at h
    obtain ⟨⟨rfl, rfl⟩, rfl⟩ := h
    exact pure_of_out GX5 at_rimeref04_exponent c_expG (N := 40) (gs := []) (by kernel_rfl)
noncomputable def gx6 : List (Nat × TF) := (F_rimeref04_exponent, tExpG) :: (F_rimeref04_power, tPowerG) :: gx5
theorem GX6 : LibOK prog tt gx6 [] := (GX5.addT r_powerG).addT r_expG
def invG (a : List Int) : List Int := q10 (rkI a 32)
theorem invG_law {a : List Int} (h : gd10 a = true) : gd10 (invG a) = true ∧ gm (invG a) = invM (gm a) := by
  obtain ⟨h1, h2⟩ := rkI_law h 32
  rw [nkI_val] at h2
  exact ⟨(q10_gd _).trans h1, (q10_gm _).trans h2⟩
def tInvG : TF := fun args => match args with
  | [.agg [.ints .i64 10 a]] => some (gd10 (l10 a), u10 (lf (invG (l10 a))))
  | _ => none
theorem c_invG : fnChk prog (envP tt gx6 []) f_rimeref04_Invert = true := by kernel_rfl
set_option maxRecDepth 100000 in
theorem k_invG (a : Nat → Int) : outP (apFunc (envP tt gx6 []) [] 5 f_rimeref04_Invert [u10 a] []) = some (ckL [gd10 (l10 a)], u10 (lf (invG (l10 a)))) := by kernel_rfl
theorem r_invG : TRow prog F_rimeref04_Invert tInvG := by
  intro args r h
  unfold tInvG at h
  split at h
  case h_2 => simp at h
  rename_i a
  simp only [Option.some.injEq, Prod.mk.injEq] at h
  obtain ⟨ha, rfl⟩ := h
  refine pure_of_out GX6 at_rimeref04_Invert c_invG (N := 5) (gs := []) ?_
  have e := k_invG a
  rw [ha] at e
  exact e
def gM (a b : List Int) : Bool := gd10 (q10 a) && gd10 (q10 b)
theorem gM_t {a b : List Int} (ha : gd10 a = true) (hb : gd10 b = true) : gM a b = true := and_t.2 ⟨ha, hb⟩
def gv3 (V : List Int) : List Int := tG (tG V V) V
def gw7 (U V : List Int) : List Int := tG U (tG (tG (gv3 V) (gv3 V)) V)
def gx0 (U V : List Int) : List Int := tG (tG U (gv3 V)) (q10 (rkE (q10 (gw7 U V)) 32))
def gRt (U V : List Int) : List Bool := [gM V V, gM (tG V V) V, gM (gv3 V) (gv3 V), gM (tG (gv3 V) (gv3 V)) V, gM U (tG (tG (gv3 V) (gv3 V)) V), gM U (gv3 V), gd10 (q10 (gw7 U V)) && true, gM (tG U (gv3 V)) (q10 (rkE (q10 (gw7 U V)) 32))]
theorem c_rootG : fnChk prog (envP tt gx6 []) f_rimeref04_root = true := by kernel_rfl
set_option maxRecDepth 100000 in
theorem k_rootG (u v : Nat → Int) : outP (apFunc (envP tt gx6 []) [] 5 f_rimeref04_root [u10 u, u10 v] []) = some (ckL (gRt (l10 u) (l10 v)), u10 (lf (q10 (gx0 (l10 u) (l10 v))))) := by kernel_rfl
theorem gx0_law {U V : List Int} (hu : gd10 U = true) (hv : gd10 V = true) : gd10 (gx0 U V) = true ∧ gm (gx0 U V) = rootX (gm U) (gm V) 0 ∧ gRt U V = List.replicate 8 true := by
  have hvv := tG_gd hv hv
  have h3 : gd10 (gv3 V) = true := tG_gd hvv hv
  have h33 := tG_gd h3 h3
  have h7 := tG_gd h33 hv
  have hw : gd10 (gw7 U V) = true := tG_gd hu h7
  have hu3 := tG_gd hu h3
  obtain ⟨p0, p2⟩ := rkE_law (a := q10 (gw7 U V)) ((q10_gd _).trans hw) 32
  have p1 : gd10 (q10 (rkE (q10 (gw7 U V)) 32)) = true := (q10_gd _).trans p0
  have p3 : gm (q10 (rkE (q10 (gw7 U V)) 32)) = powM (gm (gw7 U V)) 7237005577332262213973186563042994240829374041602535252466099000494570602493 := by
    rw [q10_gm, p2, nkE_val, q10_gm]
  unfold gx0 gRt
  generalize q10 (rkE (q10 (gw7 U V)) 32) = z at *
  refine ⟨tG_gd hu3 p1, ?_, ?_⟩
  · rw [tG_gm hu3 p1, p3]
    show mM (gm (tG U (gv3 V))) (powM (gm (tG U (tG (tG (gv3 V) (gv3 V)) V))) _) = _
    rw [tG_gm hu h3, tG_gm hu h7, tG_gm h33 hv, tG_gm h3 h3]
    show mM (mM (gm U) (gm (tG (tG V V) V))) (powM (mM (gm U) (mM (mM (gm (tG (tG V V) V)) (gm (tG (tG V V) V))) (gm V))) _) = _
    rw [tG_gm hvv hv, tG_gm hv hv]; rfl
  · rw [gM_t hv hv, gM_t hvv hv, gM_t h3 h3, gM_t h33 hv, gM_t hu h7, gM_t hu h3, show gd10 (q10 (gw7 U V)) = true from (q10_gd _).trans hw, gM_t hu3 p1]
    rfl
def tRootG : TF := fun args => match args with
  | [.agg [.ints .i64 10 u], .agg [.ints .i64 10 v]] => some (gd10 (l10 u) && gd10 (l10 v), u10 (lf (q10 (gx0 (l10 u) (l10 v)))))
  | _ => none
theorem r_rootG : TRow prog F_rimeref04_root tRootG := by
  intro args r h
  unfold tRootG at h
  split at h
  case h_2 => simp at h
  rename_i u v
  simp only [Option.some.injEq, Prod.mk.injEq, Bool.and_eq_true] at h
  obtain ⟨⟨hu, hv⟩, rfl⟩ := h
  refine pure_of_out GX6 at_rimeref04_root c_rootG (N := 5) (gs := []) ?_
  have e := k_rootG u v
  rw [(gx0_law hu hv).2.2] at e
  exact e
noncomputable def gx7 : List (Nat × TF) := (F_rimeref04_root, tRootG) :: (F_rimeref04_Invert, tInvG) :: gx6
theorem GX7 : LibOK prog tt gx7 [] := (GX6.addT r_invG).addT r_rootG
end Go.Proofs.YtbogcehngfjlkabGreat
namespace Go.Proofs.YtbogcehngfjlkabGreat
open Go.Proofs.Tryz
open Go Go.AM
def dGL : List Int := carD (lf (fromL eD))
def iGL : List Int := carD (lf (fromL iM))
def bxGL : List Int := carD (lf (fromL bxI))
def byGL : List Int := carD (lf (fromL byI))
def zer10 : List Int := [0, 0, 0, 0, 0, 0, 0, 0, 0, 0]
def idGL : List Int := zer10 ++ (one10 ++ (one10 ++ zer10))
def baGL : List Int := bxGL ++ (byGL ++ (one10 ++ q10 (tG bxGL byGL)))
def mdL : List Int := dGL ++ (iGL ++ baGL)
def gpt (p : Nat → Int) : AV := .agg [.ints .i64 40 p]
def crv (c : Nat → Int) : AV := .agg [.ints .i64 60 c]
theorem dGL_law : gd10 dGL = true ∧ gm dGL = eD := by
  obtain ⟨h1, h2, h3⟩ := fromL_law (v := eD) (by decide)
  exact ⟨h2, h3.trans (by decide)⟩
theorem iGL_law : gd10 iGL = true ∧ gm iGL = iM := by
  obtain ⟨h1, h2, h3⟩ := fromL_law (v := iM) (by decide)
  exact ⟨h2, h3.trans (by decide)⟩
def tDG : TF := fun args => match args with
  | [] => some (true, u10 (lf dGL))
  | _ => none
theorem c_DG : fnChk prog (envP tt gx7 []) f_rimeref04_D = true := by kernel_rfl
theorem r_DG : TRow prog F_rimeref04_D tDG := by
  intro args r h
  unfold tDG at h
  split at h
  case h_2 => simp at h
  simp only [Option.some.injEq, Prod.mk.injEq, true_and] at h
  subst h
  exact pure_of_out GX7 at_rimeref04_D c_DG (N := 60) (gs := []) (by kernel_rfl)
def tSqrtM1G : TF := fun args => match args with
  | [] => some (true, u10 (lf iGL))
  | _ => none
theorem c_SqrtM1G : fnChk prog (envP tt gx7 []) f_rimeref04_SqrtM1 = true := by kernel_rfl
theorem r_SqrtM1G : TRow prog F_rimeref04_SqrtM1 tSqrtM1G := by
  intro args r h
  unfold tSqrtM1G at h
  split at h
  case h_2 => simp at h
  simp only [Option.some.injEq, Prod.mk.injEq, true_and] at h
  subst h
  exact pure_of_out GX7 at_rimeref04_SqrtM1 c_SqrtM1G (N := 60) (gs := []) (by kernel_rfl)
def tNoneG : TF := fun args => match args with
  | [] => some (true, gpt (lf idGL))
  | _ => none
theorem c_NoneG : fnChk prog (envP tt gx7 []) f_rimeref04_None = true := by kernel_rfl
theorem r_NoneG : TRow prog F_rimeref04_None tNoneG := by
  intro args r h
  unfold tNoneG at h
  split at h
  case h_2 => simp at h
  simp only [Option.some.injEq, Prod.mk.injEq, true_and] at h
  subst h
  exact pure_of_out GX7 at_rimeref04_None c_NoneG (N := 60) (gs := []) (by kernel_rfl)
def tAffG : TF := fun args => match args with
  | [.agg [.ints .i64 10 x], .agg [.ints .i64 10 y]] => some (gd10 (l10 x) && gd10 (l10 y), gpt (lf (q10 (l10 x) ++ (q10 (l10 y) ++ (one10 ++ q10 (tG (l10 x) (l10 y)))))))
  | _ => none
theorem c_affG : fnChk prog (envP tt gx7 []) f_rimeref04_Affine = true := by kernel_rfl
theorem k_affG (x y : Nat → Int) : outP (apFunc (envP tt gx7 []) [] 5 f_rimeref04_Affine [u10 x, u10 y] []) = some (ckL [gM (l10 x) (l10 y)], gpt (lf (q10 (l10 x) ++ (q10 (l10 y) ++ (one10 ++ q10 (tG (l10 x) (l10 y))))))) := by kernel_rfl
theorem r_affG : TRow prog F_rimeref04_Affine tAffG := by
  intro args r h
  unfold tAffG at h
  split at h
  case h_2 => simp at h
  rename_i x y
  simp only [Option.some.injEq, Prod.mk.injEq, Bool.and_eq_true] at h
  obtain ⟨⟨hx, hy⟩, rfl⟩ := h
  refine pure_of_out GX7 at_rimeref04_Affine c_affG (N := 5) (gs := []) ?_
  have e := k_affG x y
  rw [gM_t hx hy] at e
  exact e
noncomputable def gx8 : List (Nat × TF) := (F_rimeref04_Affine, tAffG) :: (F_rimeref04_None, tNoneG) :: (F_rimeref04_SqrtM1, tSqrtM1G) :: (F_rimeref04_D, tDG) :: gx7
theorem GX8 : LibOK prog tt gx8 [] := (((GX7.addT r_DG).addT r_SqrtM1G).addT r_NoneG).addT r_affG
def tMadeG : TF := fun args => match args with
  | [] => some (true, crv (lf mdL))
  | _ => none
theorem c_MadeG : fnChk prog (envP tt gx8 []) f_rimeref04_Made = true := by kernel_rfl
theorem r_MadeG : TRow prog F_rimeref04_Made tMadeG := by
  intro args r h
  unfold tMadeG at h
  split at h
  case h_2 => simp at h
  simp only [Option.some.injEq, Prod.mk.injEq, true_and] at h
  subst h
  exact pure_of_out GX8 at_rimeref04_Made c_MadeG (N := 60) (gs := []) (by kernel_rfl)
def gX (p : Nat → Int) : List Int := [p 0, p 1, p 2, p 3, p 4, p 5, p 6, p 7, p 8, p 9]
def gY (p : Nat → Int) : List Int := [p 10, p 11, p 12, p 13, p 14, p 15, p 16, p 17, p 18, p 19]
def gZ (p : Nat → Int) : List Int := [p 20, p 21, p 22, p 23, p 24, p 25, p 26, p 27, p 28, p 29]
def gT_ptg2 (p : Nat → Int) : List Int := [p 30, p 31, p 32, p 33, p 34, p 35, p 36, p 37, p 38, p 39]
def aG (a b : List Int) : List Int := addG (q10 a) (q10 b)
def sG (a b : List Int) : List Int := subG (q10 a) (q10 b)
def ptAddG (p q : Nat → Int) : List Int :=
  let a := tG (gX p) (gX q)
  let b := tG (gY p) (gY q)
  let e := tG dGL (tG (gT_ptg2 p) (gT_ptg2 q))
  let z := tG (gZ p) (gZ q)
  let x := sG (sG (tG (aG (gX p) (gY p)) (aG (gX q) (gY q))) a) b
  let f := sG z e
  let g := aG z e
  let h := aG b a
  tG x f ++ (tG g h ++ (tG f g ++ tG x h))
def ptAddGCk (p q : Nat → Int) : List Bool :=
  let a := tG (gX p) (gX q)
  let b := tG (gY p) (gY q)
  let e := tG dGL (tG (gT_ptg2 p) (gT_ptg2 q))
  let z := tG (gZ p) (gZ q)
  let s := tG (aG (gX p) (gY p)) (aG (gX q) (gY q))
  let x := sG (sG s a) b
  let f := sG z e
  let g := aG z e
  let h := aG b a
  [gM (gX p) (gX q), gM (gY p) (gY q), gM (gT_ptg2 p) (gT_ptg2 q), gM dGL (tG (gT_ptg2 p) (gT_ptg2 q)), gM (gZ p) (gZ q), gM (gX p) (gY p), gM (gX q) (gY q), gM (aG (gX p) (gY p)) (aG (gX q) (gY q)), gM s a, gM (sG s a) b, gM z e, gM z e, gM b a, gM x f, gM g h, gM f g, gM x h]
def ptDblG (p : Nat → Int) : List Int :=
  let a := tG (gX p) (gX p)
  let b := tG (gY p) (gY p)
  let z := tG (gZ p) (gZ p)
  let s := aG (gX p) (gY p)
  let e := sG (sG (tG s s) a) b
  let g := sG b a
  let f := sG g (aG z z)
  let h := sG zer10 (aG a b)
  tG e f ++ (tG g h ++ (tG f g ++ tG e h))
def ptDblGCk (p : Nat → Int) : List Bool :=
  let a := tG (gX p) (gX p)
  let b := tG (gY p) (gY p)
  let z := tG (gZ p) (gZ p)
  let s := aG (gX p) (gY p)
  let e := sG (sG (tG s s) a) b
  let g := sG b a
  let f := sG g (aG z z)
  let h := sG zer10 (aG a b)
  [gM (gX p) (gX p), gM (gY p) (gY p), gM (gZ p) (gZ p), gM (gX p) (gY p), gM s s, gM (tG s s) a, gM (sG (tG s s) a) b, gM b a, gM z z, gM g (aG z z), gM a b, gM zer10 (aG a b), gM e f, gM g h, gM f g, gM e h]
theorem c_SumG : fnChk prog (envP tt gx8 []) f_rimeref04_Curve_Sum = true := by kernel_rfl
theorem c_TwiceG : fnChk prog (envP tt gx8 []) f_rimeref04_Twice = true := by kernel_rfl
theorem k_SumG (p q : Nat → Int) : (outP (apFunc (envP tt gx8 []) [] 5 f_rimeref04_Curve_Sum [crv (lf mdL), gpt p, gpt q] [])).map (·.2) = some (gpt (lf (ptAddG p q))) := by kernel_rfl
theorem ck_SumG (p q : Nat → Int) : (outP (apFunc (envP tt gx8 []) [] 5 f_rimeref04_Curve_Sum [crv (lf mdL), gpt p, gpt q] [])).map (·.1) = some (ckL (ptAddGCk p q)) := by kernel_rfl
theorem k_TwiceG (p : Nat → Int) : (outP (apFunc (envP tt gx8 []) [] 5 f_rimeref04_Twice [gpt p] [])).map (·.2) = some (gpt (lf (ptDblG p))) := by kernel_rfl
theorem ck_TwiceG (p : Nat → Int) : (outP (apFunc (envP tt gx8 []) [] 5 f_rimeref04_Twice [gpt p] [])).map (·.1) = some (ckL (ptDblGCk p)) := by kernel_rfl
end Go.Proofs.YtbogcehngfjlkabGreat
namespace Go.Proofs.YtbogcehngfjlkabGreat
open Go.Proofs.Tryz
open Go Go.AM
def gdP (p : Nat → Int) : Bool := gd10 (gX p) && (gd10 (gY p) && (gd10 (gZ p) && gd10 (gT_ptg2 p)))
def vG (p : Nat → Int) : Q4 := (gm (gX p), gm (gY p), gm (gZ p), gm (gT_ptg2 p))
theorem gdP_t {p : Nat → Int} : gdP p = true ↔ gd10 (gX p) = true ∧ gd10 (gY p) = true ∧ gd10 (gZ p) = true ∧ gd10 (gT_ptg2 p) = true := by simp only [gdP, Bool.and_eq_true]
theorem aG_gd {a b : List Int} (ha : gd10 a = true) (hb : gd10 b = true) : gd10 (aG a b) = true := (addG_law (a := q10 a) (b := q10 b) ha hb).2.1
theorem sG_gd {a b : List Int} (ha : gd10 a = true) (hb : gd10 b = true) : gd10 (sG a b) = true := (subG_law (a := q10 a) (b := q10 b) ha hb).2.1
theorem aG_gm {a b : List Int} (ha : gd10 a = true) (hb : gd10 b = true) : gm (aG a b) = mA (gm a) (gm b) := addG_gm (a := q10 a) (b := q10 b) ha hb
theorem sG_gm {a b : List Int} (ha : gd10 a = true) (hb : gd10 b = true) : gm (sG a b) = mS (gm a) (gm b) := subG_gm (a := q10 a) (b := q10 b) ha hb
theorem four_g {a b c d : List Int} (ha : a.length = 10) (hb : b.length = 10) (hc : c.length = 10) (hd : d.length = 10) : gX (lf (a ++ (b ++ (c ++ d)))) = a ∧ gY (lf (a ++ (b ++ (c ++ d)))) = b ∧ gZ (lf (a ++ (b ++ (c ++ d)))) = c ∧ gT_ptg2 (lf (a ++ (b ++ (c ++ d)))) = d := by
  match a, ha with
  | [a0, a1, a2, a3, a4, a5, a6, a7, a8, a9], _ =>
    match b, hb with
    | [b0, b1, b2, b3, b4, b5, b6, b7, b8, b9], _ =>
      match c, hc with
      | [c0, c1, c2, c3, c4, c5, c6, c7, c8, c9], _ =>
        match d, hd with
        | [d0, d1, d2, d3, d4, d5, d6, d7, d8, d9], _ => exact ⟨rfl, rfl, rfl, rfl⟩
theorem tG_len (a b : List Int) : (tG a b).length = 10 := rfl
theorem mM_assoc (a b c : Int) : mM a (mM b c) = mM (mM a b) c := by
  unfold mM
  rw [md_mul_r, md_mul_l, Int.mul_assoc]
theorem mM_neg (a b : Int) : mM (mS 0 a) (mS 0 b) = mM a b := by
  unfold mM mS
  rw [md_mul_l, md_mul_r]
  congr 1
  grind
theorem zer10_law : gd10 zer10 = true ∧ gm zer10 = 0 := by decide
theorem ptAddG_law {p q : Nat → Int} (hp : gdP p = true) (hq : gdP q = true) : gdP (lf (ptAddG p q)) = true ∧ vG (lf (ptAddG p q)) = addS (vG p) (vG q) ∧ ckL (ptAddGCk p q) = true := by
  obtain ⟨p1, p2, p3, p4⟩ := gdP_t.1 hp
  obtain ⟨q1, q2, q3, q4⟩ := gdP_t.1 hq
  have a := tG_gd p1 q1
  have b := tG_gd p2 q2
  have t := tG_gd p4 q4
  have e := tG_gd dGL_law.1 t
  have z := tG_gd p3 q3
  have s1 := aG_gd p1 p2
  have s2 := aG_gd q1 q2
  have m := tG_gd s1 s2
  have x0 := sG_gd m a
  have x := sG_gd x0 b
  have f := sG_gd z e
  have g := aG_gd z e
  have h := aG_gd b a
  unfold ptAddG ptAddGCk
  dsimp only
  have ea := tG_gm p1 q1
  have eb := tG_gm p2 q2
  have ee : gm (tG dGL (tG (gT_ptg2 p) (gT_ptg2 q))) = mM (mM eD (gm (gT_ptg2 p))) (gm (gT_ptg2 q)) := by rw [tG_gm dGL_law.1 t, tG_gm p4 q4, dGL_law.2, mM_assoc]
  have ez := tG_gm p3 q3
  have ex : gm (sG (sG (tG (aG (gX p) (gY p)) (aG (gX q) (gY q))) (tG (gX p) (gX q))) (tG (gY p) (gY q))) = mS (mS (mM (mA (gm (gX p)) (gm (gY p))) (mA (gm (gX q)) (gm (gY q)))) (mM (gm (gX p)) (gm (gX q)))) (mM (gm (gY p)) (gm (gY q))) := by
    rw [sG_gm x0 b, sG_gm m a, tG_gm s1 s2, aG_gm p1 p2, aG_gm q1 q2, ea, eb]
  have ef : gm (sG (tG (gZ p) (gZ q)) (tG dGL (tG (gT_ptg2 p) (gT_ptg2 q)))) = mS (mM (gm (gZ p)) (gm (gZ q))) (mM (mM eD (gm (gT_ptg2 p))) (gm (gT_ptg2 q))) := by rw [sG_gm z e, ez, ee]
  have eg : gm (aG (tG (gZ p) (gZ q)) (tG dGL (tG (gT_ptg2 p) (gT_ptg2 q)))) = mA (mM (gm (gZ p)) (gm (gZ q))) (mM (mM eD (gm (gT_ptg2 p))) (gm (gT_ptg2 q))) := by rw [aG_gm z e, ez, ee]
  have eh : gm (aG (tG (gY p) (gY q)) (tG (gX p) (gX q))) = mA (mM (gm (gY p)) (gm (gY q))) (mM (gm (gX p)) (gm (gX q))) := by rw [aG_gm b a, ea, eb]
  refine ⟨?_, ?_, ?_⟩
  · obtain ⟨x1, x2, x3, x4⟩ := four_g (tG_len _ _) (tG_len _ _) (tG_len _ _) (tG_len _ _) (a := tG (sG (sG (tG (aG (gX p) (gY p)) (aG (gX q) (gY q))) (tG (gX p) (gX q))) (tG (gY p) (gY q))) (sG (tG (gZ p) (gZ q)) (tG dGL (tG (gT_ptg2 p) (gT_ptg2 q)))))
      (b := tG (aG (tG (gZ p) (gZ q)) (tG dGL (tG (gT_ptg2 p) (gT_ptg2 q)))) (aG (tG (gY p) (gY q)) (tG (gX p) (gX q)))) (c := tG (sG (tG (gZ p) (gZ q)) (tG dGL (tG (gT_ptg2 p) (gT_ptg2 q)))) (aG (tG (gZ p) (gZ q)) (tG dGL (tG (gT_ptg2 p) (gT_ptg2 q)))))
      (d := tG (sG (sG (tG (aG (gX p) (gY p)) (aG (gX q) (gY q))) (tG (gX p) (gX q))) (tG (gY p) (gY q))) (aG (tG (gY p) (gY q)) (tG (gX p) (gX q))))
    exact gdP_t.2 ⟨by rw [x1]; exact tG_gd x f, by rw [x2]; exact tG_gd g h, by rw [x3]; exact tG_gd f g, by rw [x4]; exact tG_gd x h⟩
  · obtain ⟨x1, x2, x3, x4⟩ := four_g (tG_len _ _) (tG_len _ _) (tG_len _ _) (tG_len _ _) (a := tG (sG (sG (tG (aG (gX p) (gY p)) (aG (gX q) (gY q))) (tG (gX p) (gX q))) (tG (gY p) (gY q))) (sG (tG (gZ p) (gZ q)) (tG dGL (tG (gT_ptg2 p) (gT_ptg2 q)))))
      (b := tG (aG (tG (gZ p) (gZ q)) (tG dGL (tG (gT_ptg2 p) (gT_ptg2 q)))) (aG (tG (gY p) (gY q)) (tG (gX p) (gX q)))) (c := tG (sG (tG (gZ p) (gZ q)) (tG dGL (tG (gT_ptg2 p) (gT_ptg2 q)))) (aG (tG (gZ p) (gZ q)) (tG dGL (tG (gT_ptg2 p) (gT_ptg2 q)))))
      (d := tG (sG (sG (tG (aG (gX p) (gY p)) (aG (gX q) (gY q))) (tG (gX p) (gX q))) (tG (gY p) (gY q))) (aG (tG (gY p) (gY q)) (tG (gX p) (gX q))))
    unfold vG
    rw [x1, x2, x3, x4, tG_gm x f, tG_gm g h, tG_gm f g, tG_gm x h, ex, ef, eg, eh]
    rfl
  · rw [gM_t p1 q1, gM_t p2 q2, gM_t p4 q4, gM_t dGL_law.1 t, gM_t p3 q3, gM_t p1 p2, gM_t q1 q2, gM_t s1 s2, gM_t m a, gM_t x0 b, gM_t z e, gM_t b a, gM_t x f, gM_t g h, gM_t f g, gM_t x h]
    rfl
theorem ptDblG_law {p : Nat → Int} (hp : gdP p = true) : gdP (lf (ptDblG p)) = true ∧ vG (lf (ptDblG p)) = dblS (vG p) ∧ ckL (ptDblGCk p) = true := by
  obtain ⟨p1, p2, p3, p4⟩ := gdP_t.1 hp
  have a := tG_gd p1 p1
  have b := tG_gd p2 p2
  have z := tG_gd p3 p3
  have s := aG_gd p1 p2
  have ss := tG_gd s s
  have e0 := sG_gd ss a
  have e := sG_gd e0 b
  have g := sG_gd b a
  have zz := aG_gd z z
  have f := sG_gd g zz
  have ab := aG_gd a b
  have h := sG_gd zer10_law.1 ab
  unfold ptDblG ptDblGCk
  dsimp only
  have n1 : ∀ u v w : Int, mS (mS u v) w = mS 0 (mS (mA v w) u) := fun u v w => by
    unfold mS mA
    rw [md_sub_l, md_sub_r]
    unfold pP
    omega
  have n2 : ∀ u v : Int, mS u v = mS 0 (mS v u) := fun u v => by
    unfold mS
    rw [md_sub_r]
    congr 1
    omega
  have n3 : ∀ u v w : Int, mS (mS u v) w = mS 0 (mA w (mS v u)) := fun u v w => by
    unfold mS mA
    rw [md_sub_l, md_sub_r]
    unfold pP
    omega
  have ee : gm (sG (sG (tG (aG (gX p) (gY p)) (aG (gX p) (gY p))) (tG (gX p) (gX p))) (tG (gY p) (gY p))) = mS 0 (mS (mA (mM (gm (gX p)) (gm (gX p))) (mM (gm (gY p)) (gm (gY p)))) (mM (mA (gm (gX p)) (gm (gY p))) (mA (gm (gX p)) (gm (gY p))))) := by
    rw [sG_gm e0 b, sG_gm ss a, tG_gm s s, aG_gm p1 p2, tG_gm p1 p1, tG_gm p2 p2, n1]
  have eg : gm (sG (tG (gY p) (gY p)) (tG (gX p) (gX p))) = mS 0 (mS (mM (gm (gX p)) (gm (gX p))) (mM (gm (gY p)) (gm (gY p)))) := by
    rw [sG_gm b a, tG_gm p1 p1, tG_gm p2 p2, n2]
  have ef : gm (sG (sG (tG (gY p) (gY p)) (tG (gX p) (gX p))) (aG (tG (gZ p) (gZ p)) (tG (gZ p) (gZ p)))) = mS 0 (mA (mA (mM (gm (gZ p)) (gm (gZ p))) (mM (gm (gZ p)) (gm (gZ p)))) (mS (mM (gm (gX p)) (gm (gX p))) (mM (gm (gY p)) (gm (gY p))))) := by
    rw [sG_gm g zz, sG_gm b a, aG_gm z z, tG_gm p1 p1, tG_gm p2 p2, tG_gm p3 p3, n3]
  have eh : gm (sG zer10 (aG (tG (gX p) (gX p)) (tG (gY p) (gY p)))) = mS 0 (mA (mM (gm (gX p)) (gm (gX p))) (mM (gm (gY p)) (gm (gY p)))) := by
    rw [sG_gm zer10_law.1 ab, aG_gm a b, tG_gm p1 p1, tG_gm p2 p2, zer10_law.2]
  refine ⟨?_, ?_, ?_⟩
  · obtain ⟨x1, x2, x3, x4⟩ := four_g (tG_len _ _) (tG_len _ _) (tG_len _ _) (tG_len _ _) (a := tG (sG (sG (tG (aG (gX p) (gY p)) (aG (gX p) (gY p))) (tG (gX p) (gX p))) (tG (gY p) (gY p))) (sG (sG (tG (gY p) (gY p)) (tG (gX p) (gX p))) (aG (tG (gZ p) (gZ p)) (tG (gZ p) (gZ p)))))
      (b := tG (sG (tG (gY p) (gY p)) (tG (gX p) (gX p))) (sG zer10 (aG (tG (gX p) (gX p)) (tG (gY p) (gY p))))) (c := tG (sG (sG (tG (gY p) (gY p)) (tG (gX p) (gX p))) (aG (tG (gZ p) (gZ p)) (tG (gZ p) (gZ p)))) (sG (tG (gY p) (gY p)) (tG (gX p) (gX p))))
      (d := tG (sG (sG (tG (aG (gX p) (gY p)) (aG (gX p) (gY p))) (tG (gX p) (gX p))) (tG (gY p) (gY p))) (sG zer10 (aG (tG (gX p) (gX p)) (tG (gY p) (gY p)))))
    exact gdP_t.2 ⟨by rw [x1]; exact tG_gd e f, by rw [x2]; exact tG_gd g h, by rw [x3]; exact tG_gd f g, by rw [x4]; exact tG_gd e h⟩
  · obtain ⟨x1, x2, x3, x4⟩ := four_g (tG_len _ _) (tG_len _ _) (tG_len _ _) (tG_len _ _) (a := tG (sG (sG (tG (aG (gX p) (gY p)) (aG (gX p) (gY p))) (tG (gX p) (gX p))) (tG (gY p) (gY p))) (sG (sG (tG (gY p) (gY p)) (tG (gX p) (gX p))) (aG (tG (gZ p) (gZ p)) (tG (gZ p) (gZ p)))))
      (b := tG (sG (tG (gY p) (gY p)) (tG (gX p) (gX p))) (sG zer10 (aG (tG (gX p) (gX p)) (tG (gY p) (gY p))))) (c := tG (sG (sG (tG (gY p) (gY p)) (tG (gX p) (gX p))) (aG (tG (gZ p) (gZ p)) (tG (gZ p) (gZ p)))) (sG (tG (gY p) (gY p)) (tG (gX p) (gX p))))
      (d := tG (sG (sG (tG (aG (gX p) (gY p)) (aG (gX p) (gY p))) (tG (gX p) (gX p))) (tG (gY p) (gY p))) (sG zer10 (aG (tG (gX p) (gX p)) (tG (gY p) (gY p)))))
    unfold vG
    rw [x1, x2, x3, x4, tG_gm e f, tG_gm g h, tG_gm f g, tG_gm e h, ee, ef, eg, eh, mM_neg, mM_neg, mM_neg, mM_neg]
    rfl
  · rw [gM_t p1 p1, gM_t p2 p2, gM_t p3 p3, gM_t p1 p2, gM_t s s, gM_t ss a, gM_t e0 b, gM_t b a, gM_t z z, gM_t g zz, gM_t a b, gM_t zer10_law.1 ab, gM_t e f, gM_t g h, gM_t f g, gM_t e h]
    rfl
def tSumG : TF := fun args => match args with
  | [.agg [.ints .i64 60 c], .agg [.ints .i64 40 p], .agg [.ints .i64 40 q]] => some (eqN 60 c (lf mdL) && (gdP p && gdP q), gpt (lf (ptAddG p q)))
  | _ => none
def tTwiceG : TF := fun args => match args with
  | [.agg [.ints .i64 40 p]] => some (gdP p, gpt (lf (ptDblG p)))
  | _ => none
theorem pure_first {f : FuncId} {l : List AV} {k : IntKind} {n : Nat} {s s' : Nat → Int} {r : AV} (h : eqN n s s' = true) (hP : Pure prog f (.agg [.ints k n s'] :: l) r) : Pure prog f (.agg [.ints k n s] :: l) r := by
  intro pr w vs ha hlt
  refine hP pr w vs ⟨by simpa using ha.1, fun j x v e1 e2 => ?_⟩ hlt
  cases j with
  | zero =>
    simp only [List.getElem?_cons_zero, Option.some.injEq] at e1
    subst e1
    exact RG_eqN h (ha.2 0 _ v rfl e2)
  | succ j => exact ha.2 (j + 1) x v (by simpa using e1) e2
theorem r_SumG : TRow prog F_rimeref04_Curve_Sum tSumG := by
  intro args r h
  unfold tSumG at h
  split at h
  case h_2 => simp at h
  rename_i c p q
  simp only [Option.some.injEq, Prod.mk.injEq, Bool.and_eq_true] at h
  obtain ⟨⟨hc, hp, hq⟩, rfl⟩ := h
  refine pure_first hc (pure_of_out GX8 at_rimeref04_Curve_Sum c_SumG (N := 5) (gs := []) ?_)
  have e := both (ck_SumG p q) (k_SumG p q)
  rw [(ptAddG_law hp hq).2.2] at e
  exact e
theorem r_TwiceG : TRow prog F_rimeref04_Twice tTwiceG := by
  intro args r h
  unfold tTwiceG at h
  split at h
  case h_2 => simp at h
  rename_i p
  simp only [Option.some.injEq, Prod.mk.injEq] at h
  obtain ⟨hp, rfl⟩ := h
  refine pure_of_out GX8 at_rimeref04_Twice c_TwiceG (N := 5) (gs := []) ?_
  have e := both (ck_TwiceG p) (k_TwiceG p)
  rw [(ptDblG_law hp).2.2] at e
  exact e
noncomputable def gx9 : List (Nat × TF) := (F_rimeref04_Twice, tTwiceG) :: (F_rimeref04_Curve_Sum, tSumG) :: (F_rimeref04_Made, tMadeG) :: gx8
theorem GX9 : LibOK prog tt gx9 [] := ((GX8.addT r_MadeG).addT r_SumG).addT r_TwiceG
end Go.Proofs.YtbogcehngfjlkabGreat
namespace Go.Proofs.YtbogcehngfjlkabGreat
open Go.Proofs.Tryz
open Go Go.AM
theorem idGL_law : gdP (lf idGL) = true ∧ vG (lf idGL) = idS4 := by decide
def tbG (p : Nat → Int) : Nat → List Int
  | 0 => idGL
  | j + 1 => ptAddG (lf (tbG p j)) p
theorem tbG_bd {p : Nat → Int} (h : gdP p = true) : ∀ j, gdP (lf (tbG p j)) = true
  | 0 => idGL_law.1
  | j + 1 => (ptAddG_law (tbG_bd h j) h).1
theorem tbG_law {p : Nat → Int} (h : gdP p = true) : ∀ j, vG (lf (tbG p j)) = tbS (vG p) j
  | 0 => idGL_law.2
  | j + 1 => by
    show vG (lf (ptAddG (lf (tbG p j)) p)) = _
    rw [(ptAddG_law (tbG_bd h j) h).2.1, tbG_law h j]; rfl
noncomputable abbrev tgE : EnvP := envP tt gx9 []
noncomputable def tg0B : Code := match f_rimeref04_Curve_Many.body with | some c => (match bodiesOf 0 c with | [.loop b] => b | _ => .skip) | none => .skip
noncomputable def tg2B : Code := match f_rimeref04_Curve_Many.body with | some c => (match bodiesOf 2 c with | [.loop b] => b | _ => .skip) | none => .skip
def tg0H (c s p T : Nat → Int) : Heap := [some (.ints .i64 60 1 (fun _ d => c d)), some (.ints .u8 32 1 (fun _ d => s d)), some (.ints .i64 40 1 (fun _ d => p d)), some (.ints .i64 40 1 (fun _ _ => 0)), some (.ints .i64 640 1 (fun _ d => T d))]
def tg0S (c s p : Nat → Int) (v : Int) (T : Nat → Int) : St := ⟨tmOf [(3, .sc (.ptr 0 60 0 0 60)), (4, .sc (.ptr 1 32 0 0 32)), (5, .sc (.ptr 2 40 0 0 40)), (6, .sc (.ptr 3 40 0 0 40)), (7, .sc (.ptr 4 640 0 0 640)), (8, .sc (.int .i64 v))] 56 0, tg0H c s p T⟩
def tg0T (c s p : Nat → Int) (T : Nat → Int) : St := ⟨tmOf [(3, .sc (.ptr 0 60 0 0 60)), (4, .sc (.ptr 1 32 0 0 32)), (5, .sc (.ptr 2 40 0 0 40)), (6, .sc (.ptr 3 40 0 0 40)), (7, .sc (.ptr 4 640 0 0 640))] 56 0, tg0H c s p T⟩
def put40 (T g : Nat → Int) (c : Nat) : Nat → Int := fun d => bif Nat.ble c d && Nat.ble (d + 1) (c + 40) then g (d - c) else T d
def tgG (p T : Nat → Int) (v : Int) : List Int := ptAddG (fun j => T (0 + (wr .i64 (v - 1)).toNat * 40 + j)) (fun j => p (0 + j))
def cOK (c : Nat → Int) : Bool := eqN 60 (fun j => c (0 + j)) (lf mdL)
theorem tg0_round (c s p : Nat → Int) (v v' : Int) (T T' : Nat → Int) : roundR tgE [(15, true)] 5 5 [] tg0B (tg0S c s p v T) .normal (tg0S c s p v' T') =
    some (ckL [decide (v < 16) == true, inR (wr .i64 (v - 1)) 16, cOK c && ((gdP fun j => T (0 + (wr .i64 (v - 1)).toNat * 40 + j)) && gdP (fun j => p (0 + j))), inR v 16] && stR (rnm 5 []) (tg0S c s p (wr .i64 (v + 1)) (put40 T (lf (tgG p T v)) (0 + v.toNat * 40))) (tg0S c s p v' T')) := by kernel_rfl
theorem tg0_exit (c s p : Nat → Int) (v : Int) (T T' : Nat → Int) : roundR tgE [(15, false)] 5 5 [] tg0B (tg0S c s p v T) (.exit 0) (tg0T c s p T') =
    some (ckL [decide (v < 16) == false] && stR (rnm 5 []) (tg0T c s p T) (tg0T c s p T')) := by kernel_rfl
def tbGF (p : Nat → Int) (k : Nat) : Nat → Int := fun d => bif Nat.ble (d + 1) (40 * (k + 1)) then lf (tbG p (d / 40)) (d % 40) else 0
theorem tbGF_lt {p : Nat → Int} {k d : Nat} (h : d < 40 * (k + 1)) : tbGF p k d = lf (tbG p (d / 40)) (d % 40) := by
  unfold tbGF; rw [Nat.ble_eq_true_of_le h]; rfl
theorem tbGF_ge {p : Nat → Int} {k d : Nat} (h : 40 * (k + 1) ≤ d) : tbGF p k d = 0 := by
  unfold tbGF; rw [ble_ff (by omega)]; rfl
theorem tg_ext {p q : Nat → Int} (h : ∀ d, d < 40 → p d = q d) : gX p = gX q ∧ gY p = gY q ∧ gZ p = gZ q ∧ gT_ptg2 p = gT_ptg2 q := by
  refine ⟨?_, ?_, ?_, ?_⟩
  · unfold gX; rw [h 0 (by omega), h 1 (by omega), h 2 (by omega), h 3 (by omega), h 4 (by omega), h 5 (by omega), h 6 (by omega), h 7 (by omega), h 8 (by omega), h 9 (by omega)]
  · unfold gY; rw [h 10 (by omega), h 11 (by omega), h 12 (by omega), h 13 (by omega), h 14 (by omega), h 15 (by omega), h 16 (by omega), h 17 (by omega), h 18 (by omega), h 19 (by omega)]
  · unfold gZ; rw [h 20 (by omega), h 21 (by omega), h 22 (by omega), h 23 (by omega), h 24 (by omega), h 25 (by omega), h 26 (by omega), h 27 (by omega), h 28 (by omega), h 29 (by omega)]
  · unfold gT_ptg2; rw [h 30 (by omega), h 31 (by omega), h 32 (by omega), h 33 (by omega), h 34 (by omega), h 35 (by omega), h 36 (by omega), h 37 (by omega), h 38 (by omega), h 39 (by omega)]
theorem ptAddG_ext {p q p' q' : Nat → Int} (h : ∀ d, d < 40 → p d = p' d) (h' : ∀ d, d < 40 → q d = q' d) : ptAddG p q = ptAddG p' q' := by
  obtain ⟨e1, e2, e3, e4⟩ := tg_ext h
  obtain ⟨f1, f2, f3, f4⟩ := tg_ext h'
  unfold ptAddG
  rw [e1, e2, e3, e4, f1, f2, f3, f4]
theorem gdP_ext {p p' : Nat → Int} (h : ∀ d, d < 40 → p d = p' d) : gdP p = gdP p' := by
  obtain ⟨e1, e2, e3, e4⟩ := tg_ext h
  unfold gdP
  rw [e1, e2, e3, e4]
theorem tg_row {p : Nat → Int} {k j : Nat} (hj : j ≤ k) : ∀ d, d < 40 → tbGF p k (40 * j + d) = lf (tbG p j) d := fun d hd => by
  rw [tbGF_lt (by omega), show (40 * j + d) / 40 = j by omega, show (40 * j + d) % 40 = d by omega]
theorem tg0_same {c s p : Nat → Int} {v v' : Int} {T T' : Nat → Int} (hv : v = v') (h : ∀ d, d < 640 → T d = T' d) : stR (rnm 5 []) (tg0S c s p v T) (tg0S c s p v' T') = true := by
  subst hv
  have e : eqF 1 640 (fun _ d => T d) (fun _ d => T' d) = true := eqF_of fun r _ d hd => h d hd
  simp [stR, tg0S, tg0H, tmOf, tmR, avR, svR, rIs, rnm, kEq_refl, eqF_refl, hpR, blkR, ndR, e]
  decide
theorem tg0_sameT {c s p : Nat → Int} {T T' : Nat → Int} (h : ∀ d, d < 640 → T d = T' d) : stR (rnm 5 []) (tg0T c s p T) (tg0T c s p T') = true := by
  have e : eqF 1 640 (fun _ d => T d) (fun _ d => T' d) = true := eqF_of fun r _ d hd => h d hd
  simp [stR, tg0T, tg0H, tmOf, tmR, avR, svR, rIs, rnm, kEq_refl, eqF_refl, hpR, blkR, ndR, e]
  decide
def tg0W (c s p : Nat → Int) (k : Nat) : St := tg0S c s p ((k : Int) + 1) (tbGF p k)
def tg0F (c s p : Nat → Int) : LF := famA 5 [] (tg0W c s p 0) (cOK c && gdP p) .normal (tg0T c s p (tbGF p 15))
theorem tg0_body : f_rimeref04_Curve_Many.body.map (bodiesOf 0) = some [.loop tg0B] := by kernel_rfl
theorem tg0_ok : codeOK prog tgE.env.isW tg0B = true := by kernel_rfl
theorem l_tg0 (c s p : Nat → Int) : LRow prog f_rimeref04_Curve_Many 0 (tg0F c s p) := by
  refine LRow.famA (N := 5) (S := tg0W c s p) (GX9.env []) mix 15 (loop_of tg0_body) tg0_ok (fun w0 own0 => accOK_none (fun id => rfl) tg0B) (fun _ _ => Nat.le_refl _) (Nat.le_refl _) fun hck => ?_
  obtain ⟨hc, hp⟩ := and_t.1 hck
  refine ⟨fun k hk => ?_, ?_⟩
  · refine roundR_toR (tg0_round c s p ((k : Int) + 1) (((k + 1 : Nat) : Int) + 1) (tbGF p k) (tbGF p (k + 1))) ?_
    have e0 : wr .i64 ((k : Int) + 1 - 1) = (k : Int) := (wr_i64 (by omega) (by omega)).trans (by omega)
    have e1 : wr .i64 ((k : Int) + 1 + 1) = ((k + 1 : Nat) : Int) + 1 := (wr_i64 (by omega) (by omega)).trans (by omega)
    have hrow : ∀ d, d < 40 → tbGF p k (0 + (k : Int).toNat * 40 + d) = lf (tbG p k) d := fun d hd => by
      rw [show 0 + (k : Int).toNat * 40 + d = 40 * k + d by omega]; exact tg_row (Nat.le_refl k) d hd
    have hp0 : ∀ d, d < 40 → p (0 + d) = p d := fun d _ => by rw [Nat.zero_add]
    refine and_t.2 ⟨?_, tg0_same e1 fun d hd => ?_⟩
    · have i1 : inR ((k : Int) + 1) 16 = true := inR_lt (show k + 1 < 16 by omega)
      rw [e0, gdP_ext hrow, tbG_bd hp k, gdP_ext hp0, hp, hc, i1, inR_lt (show k < 16 by omega), decide_eq_true (show (k : Int) + 1 < 16 by omega)]
      rfl
    · have eA : 0 + ((k : Int) + 1).toNat * 40 = 40 * (k + 1) := by omega
      have eG : tgG p (tbGF p k) ((k : Int) + 1) = tbG p (k + 1) := by
        unfold tgG
        rw [e0]
        exact ptAddG_ext hrow hp0
      unfold put40
      rw [eA, eG]
      by_cases h1 : d < 40 * (k + 1)
      · rw [ble_ff (by omega), tbGF_lt h1, tbGF_lt (k := k + 1) (by omega)]; rfl
      · rw [Nat.ble_eq_true_of_le (by omega)]
        by_cases h2 : d < 40 * (k + 1) + 40
        · rw [Nat.ble_eq_true_of_le h2, tbGF_lt (k := k + 1) (by omega), show d / 40 = k + 1 by omega, show d % 40 = d - 40 * (k + 1) by omega]; rfl
        · rw [ble_ff (a := d + 1) (by omega), tbGF_ge (k := k) (by omega), tbGF_ge (k := k + 1) (by omega)]; rfl
  · obtain ⟨s1, r, q1, q2, q3⟩ := roundR_toR (n := 5) (tg0_exit c s p 16 (tbGF p 15) (tbGF p 15)) (and_t.2 ⟨rfl, tg0_sameT fun _ _ => rfl⟩)
    exact ⟨_, s1, r, q1, rfl, q2, q3⟩
def tg2H (c s T x : Nat → Int) : Heap := [some (.ints .i64 60 1 (fun _ d => c d)), some (.ints .u8 32 1 (fun _ d => s d)), none, some (.ints .i64 40 1 (fun _ _ => 0)), some (.ints .i64 640 1 (fun _ d => T d)), some (.ints .i64 40 1 (fun _ d => x d))]
def tg2S (c s T : Nat → Int) (v : Int) (x : Nat → Int) : St := ⟨tmOf [(3, .sc (.ptr 0 60 0 0 60)), (4, .sc (.ptr 1 32 0 0 32)), (6, .sc (.ptr 3 40 0 0 40)), (7, .sc (.ptr 4 640 0 0 640)), (9, .sc (.ptr 5 40 0 0 40)), (10, .sc (.int .i64 v))] 56 0, tg2H c s T x⟩
def tg2T (x : Nat → Int) : St := ⟨tmOf [(6, .sc (.ptr 3 40 0 0 40)), (9, .sc (.ptr 5 40 0 0 40))] 56 0, [none, none, none, some (.ints .i64 40 1 (fun _ _ => 0)), none, some (.ints .i64 40 1 (fun _ d => x d))]⟩
def dbG (x : Nat → Int) : Nat → Nat → Int
  | 0 => x
  | k + 1 => lf (ptDblG (dbG x k))
def nbG (s : Nat → Int) (v : Int) : Int := iand .u8 (ishr .u8 (s (0 + (wr .i64 (v.tdiv 2)).toNat * 1)) (wr .u64 (wr .i64 (4 * v.tmod 2)))) 15
def tg2Ck (s x : Nat → Int) (v : Int) : List Bool := [decide (v ≥ 0) == true, gdP (dbG x 0), gdP (dbG x 1), gdP (dbG x 2), gdP (dbG x 3), inR (wr .i64 (v.tdiv 2)) 32, !decide (wr .u64 (wr .i64 (4 * v.tmod 2)) < 0)]
theorem tg2_roundf (c s T : Nat → Int) (v v' : Int) (x x' : Nat → Int) : roundR tgE [(29, true), (48, false)] 5 6 [] tg2B (tg2S c s T v x) .normal (tg2S c s T v' x') =
    some (ckL (tg2Ck s x v ++ [decide (nbG s v > 0) == false]) && stR (rnm 6 []) (tg2S c s T (wr .i64 (v - 1)) (dbG x 4)) (tg2S c s T v' x')) := by kernel_rfl
theorem tg2_roundt (c s T : Nat → Int) (v v' : Int) (x x' : Nat → Int) : roundR tgE [(29, true), (48, true)] 5 6 [] tg2B (tg2S c s T v x) .normal (tg2S c s T v' x') =
    some (ckL (tg2Ck s x v ++ [decide (nbG s v > 0) == true, inR (nbG s v) 16, cOK c && (gdP (dbG x 4) && gdP (fun j => T (0 + (nbG s v).toNat * 40 + j)))]) && stR (rnm 6 []) (tg2S c s T (wr .i64 (v - 1)) (lf (ptAddG (dbG x 4) (fun j => T (0 + (nbG s v).toNat * 40 + j))))) (tg2S c s T v' x')) := by kernel_rfl
theorem tg2_exit (c s T : Nat → Int) (v : Int) (x x' : Nat → Int) : roundR tgE [(29, false)] 5 6 [] tg2B (tg2S c s T v x) (.exit 2) (tg2T x') =
    some (ckL [decide (v ≥ 0) == false] && stR (rnm 6 []) (tg2T x) (tg2T x')) := by kernel_rfl
def mnG (p s : Nat → Int) : Nat → List Int
  | 0 => idGL
  | k + 1 => bif decide (nib s (63 - k) > 0) then ptAddG (dbG (lf (mnG p s k)) 4) (lf (tbG p (nib s (63 - k)).toNat)) else ptDblG (dbG (lf (mnG p s k)) 3)
theorem dbG_law {x : Nat → Int} (h : gdP x = true) : ∀ k, gdP (dbG x k) = true
  | 0 => h
  | k + 1 => (ptDblG_law (dbG_law h k)).1
theorem dbG_v {x : Nat → Int} (h : gdP x = true) (k : Nat) : vG (dbG x (k + 1)) = dblS (vG (dbG x k)) := (ptDblG_law (dbG_law h k)).2.1
theorem mnG_law {p : Nat → Int} (hp : gdP p = true) (s : Nat → Int) : ∀ k, gdP (lf (mnG p s k)) = true ∧ vG (lf (mnG p s k)) = tmSp (vG p) s k
  | 0 => idGL_law
  | k + 1 => by
    obtain ⟨h1, h2⟩ := mnG_law hp s k
    have e4 : vG (dbG (lf (mnG p s k)) 4) = dblS (dblS (dblS (dblS (tmSp (vG p) s k)))) := by
      rw [dbG_v h1, dbG_v h1, dbG_v h1, dbG_v h1]
      show dblS (dblS (dblS (dblS (vG (lf (mnG p s k)))))) = _
      rw [h2]
    unfold mnG tmSp
    cases decide (nib s (63 - k) > 0) with
    | true =>
      obtain ⟨q1, q2⟩ := ptAddG_law (dbG_law h1 4) (tbG_bd hp (nib s (63 - k)).toNat)
      exact ⟨q1, by show vG (lf (ptAddG _ _)) = _; rw [q2.1, e4, tbG_law hp]; rfl⟩
    | false => exact ⟨dbG_law h1 4, e4⟩
theorem wr_u64 {x : Int} (h0 : 0 ≤ x) (h1 : x < 2 ^ 64) : wr .u64 x = x := by
  rw [wr64]; omega
theorem nbG_law {s : Nat → Int} (hs : areB s 32 0 = true) {i : Nat} (hi : i < 64) : nbG s (i : Int) = nib s i ∧ inR (wr .i64 ((i : Int).tdiv 2)) 32 = true ∧ (!decide (wr .u64 (wr .i64 (4 * (i : Int).tmod 2)) < 0)) = true ∧ 0 ≤ nib s i ∧ nib s i < 16 := by
  obtain ⟨n1, n2, n3, n4, n5⟩ := nbI_law hs hi
  have e2 : (i : Int).tmod 2 = ((i % 2 : Nat) : Int) := by rw [Int.tmod_eq_emod_of_nonneg (by omega)]; omega
  have e4 : wr .i64 (4 * ((i % 2 : Nat) : Int)) = ((4 * (i % 2) : Nat) : Int) := (wr_i64 (by omega) (by omega)).trans (by omega)
  have e5 : wr .u64 (wr .i64 (4 * (i : Int).tmod 2)) = wr .i64 (4 * (i : Int).tmod 2) := by
    rw [e2, e4]; exact wr_u64 (by omega) (by omega)
  refine ⟨?_, n2, ?_, n4, n5⟩
  · unfold nbG; rw [e5]; exact n1
  · rw [e5]; exact n3
theorem tg2_same {c s T : Nat → Int} {v v' : Int} {x x' : Nat → Int} (hv : v = v') (h : ∀ d, d < 40 → x d = x' d) : stR (rnm 6 []) (tg2S c s T v x) (tg2S c s T v' x') = true := by
  subst hv
  have e : eqF 1 40 (fun _ d => x d) (fun _ d => x' d) = true := eqF_of fun r _ d hd => h d hd
  simp [stR, tg2S, tg2H, tmOf, tmR, avR, svR, rIs, rnm, kEq_refl, eqF_refl, hpR, blkR, ndR, e]
  decide
theorem tg2_sameT {x x' : Nat → Int} (h : ∀ d, d < 40 → x d = x' d) : stR (rnm 6 []) (tg2T x) (tg2T x') = true := by
  have e : eqF 1 40 (fun _ d => x d) (fun _ d => x' d) = true := eqF_of fun r _ d hd => h d hd
  simp [stR, tg2T, tmOf, tmR, avR, svR, rIs, rnm, kEq_refl, eqF_refl, hpR, blkR, ndR, e]
  decide
def tg2W (c p s : Nat → Int) (k : Nat) : St := tg2S c s (tbGF p 15) (63 - (k : Int)) (lf (mnG p s k))
def tg2F (c p s : Nat → Int) : LF := famA 6 [] (tg2W c p s 0) (cOK c && (gdP p && areB s 32 0)) .normal (tg2T (lf (mnG p s 64)))
theorem tg2_body : f_rimeref04_Curve_Many.body.map (bodiesOf 2) = some [.loop tg2B] := by kernel_rfl
theorem tg2_ok : codeOK prog tgE.env.isW tg2B = true := by kernel_rfl
theorem l_tg2 (c p s : Nat → Int) : LRow prog f_rimeref04_Curve_Many 2 (tg2F c p s) := by
  refine LRow.famA (N := 5) (S := tg2W c p s) (GX9.env []) mix 64 (loop_of tg2_body) tg2_ok (fun w0 own0 => accOK_none (fun id => rfl) tg2B) (fun _ _ => Nat.le_refl _) (Nat.le_refl _) fun hck => ?_
  obtain ⟨hc, hck⟩ := and_t.1 hck
  obtain ⟨hp, hs⟩ := and_t.1 hck
  refine ⟨fun k hk => ?_, ?_⟩
  · have hv : (63 - (k : Int)) = ((63 - k : Nat) : Int) := by omega
    obtain ⟨n1, n2, n3, n4, n5⟩ := nbG_law hs (i := 63 - k) (by omega)
    have hx := (mnG_law hp s k).1
    have e1 : wr .i64 (63 - (k : Int) - 1) = 63 - ((k + 1 : Nat) : Int) := (wr_i64 (by omega) (by omega)).trans (by omega)
    have hck : ∀ l, ckL (tg2Ck s (lf (mnG p s k)) (63 - (k : Int)) ++ l) = ckL l := fun l => by
      unfold tg2Ck
      rw [hv, n2, n3, dbG_law hx 0, dbG_law hx 1, dbG_law hx 2, dbG_law hx 3, decide_eq_true (show ((63 - k : Nat) : Int) ≥ 0 by omega)]
      rfl
    cases hn : decide (nib s (63 - k) > 0) with
    | false =>
      refine roundR_toR (tg2_roundf c s (tbGF p 15) (63 - (k : Int)) (63 - ((k + 1 : Nat) : Int)) (lf (mnG p s k)) (lf (mnG p s (k + 1)))) ?_
      refine and_t.2 ⟨?_, tg2_same e1 fun d _ => ?_⟩
      · rw [hck, hv, n1, hn]; rfl
      · show _ = lf (bif decide (nib s (63 - k) > 0) then _ else _) d
        rw [hn]; rfl
    | true =>
      have hrow : ∀ d, d < 40 → tbGF p 15 (0 + (nib s (63 - k)).toNat * 40 + d) = lf (tbG p (nib s (63 - k)).toNat) d := fun d hd => by
        rw [show 0 + (nib s (63 - k)).toNat * 40 + d = 40 * (nib s (63 - k)).toNat + d by omega]; exact tg_row (by omega) d hd
      refine roundR_toR (tg2_roundt c s (tbGF p 15) (63 - (k : Int)) (63 - ((k + 1 : Nat) : Int)) (lf (mnG p s k)) (lf (mnG p s (k + 1)))) ?_
      refine and_t.2 ⟨?_, tg2_same e1 fun d _ => ?_⟩
      · rw [hck, hv, n1, hn, dbG_law hx 4, gdP_ext hrow, tbG_bd hp _, hc]
        have : inR (nib s (63 - k)) 16 = true := by simp [inR]; omega
        rw [this]; rfl
      · show _ = lf (bif decide (nib s (63 - k) > 0) then _ else _) d
        rw [hn, hv, n1]
        show lf (ptAddG _ _) d = lf (ptAddG _ _) d
        rw [ptAddG_ext (p := dbG (lf (mnG p s k)) 4) (fun _ _ => rfl) hrow]
  · obtain ⟨s1, r, q1, q2, q3⟩ := roundR_toR (n := 6) (tg2_exit c s (tbGF p 15) (-1) (lf (mnG p s 64)) (lf (mnG p s 64))) (and_t.2 ⟨rfl, tg2_sameT fun _ _ => rfl⟩)
    exact ⟨_, s1, r, q1, rfl, q2, q3⟩
noncomputable abbrev tgL (c p s : Nat → Int) : EnvP := envL tt gx9 [] [(2, tg2F c p s), (0, tg0F c s p)]
theorem c_manyG (c p s : Nat → Int) : fnChk prog (tgL c p s) f_rimeref04_Curve_Many = true := by kernel_rfl
def r40 (l : List Int) : List Int := tabL (lf l) 40 0
theorem k_manyG (c p s : Nat → Int) : outP (apFunc (tgL c p s) [] 5 f_rimeref04_Curve_Many [crv c, u8s 32 s, gpt p] []) =
    some (ckL [(cOK c && gdP p) && stR (rnm 5 []) (tg0S c s p 1 (put40 (fun _ => 0) (lf idGL) 0)) (tg0W c s p 0), (cOK c && (gdP p && areB s 32 0)) && stR (rnm 6 []) (tg2S c s (tbGF p 15) 63 (lf idGL)) (tg2W c p s 0)], gpt (lf (r40 (mnG p s 64)))) := by kernel_rfl
theorem tbG_ext {p p' : Nat → Int} (h : ∀ d, d < 40 → p d = p' d) : ∀ j, tbG p j = tbG p' j
  | 0 => rfl
  | j + 1 => by
    show ptAddG (lf (tbG p j)) p = ptAddG (lf (tbG p' j)) p'
    rw [tbG_ext h j]
    exact ptAddG_ext (fun _ _ => rfl) h
theorem mnG_ext {p p' s s' : Nat → Int} (h : ∀ d, d < 40 → p d = p' d) (h' : ∀ d, d < 32 → s d = s' d) : ∀ k, mnG p s k = mnG p' s' k
  | 0 => rfl
  | k + 1 => by
    unfold mnG
    rw [mnG_ext h h' k, nib_ext h' (i := 63 - k) (by omega), tbG_ext h]
def n40 (p : Nat → Int) : Nat → Int := lf (tabL p 40 0)
theorem n40_at (p : Nat → Int) (d : Nat) (h : d < 40) : p d = n40 p d := by
  have := lf_tab p 40 0 d h
  rw [Nat.zero_add] at this
  exact this.symm
def tManyG : TF := fun args => match args with
  | [.agg [.ints .i64 60 c], .agg [.ints .u8 32 s], .agg [.ints .i64 40 p]] => some (eqN 60 c (lf mdL) && (gdP p && areB s 32 0), gpt (lf (r40 (mnG (n40 p) (n32 s) 64))))
  | _ => none
theorem r_manyG : TRow prog F_rimeref04_Curve_Many tManyG := by
  intro args r h
  unfold tManyG at h
  split at h
  case h_2 => simp at h
  rename_i c s p
  simp only [Option.some.injEq, Prod.mk.injEq] at h
  obtain ⟨hc, rfl⟩ := h
  obtain ⟨hc, hck⟩ := and_t.1 hc
  obtain ⟨hp, hs⟩ := and_t.1 hck
  rw [← mnG_ext (n40_at p) (n32_at s)]
  refine pure_first hc ?_
  refine pure_of_outL GX9 at_rimeref04_Curve_Many ((LsOK.nil.cons (l_tg0 (lf mdL) s p)).cons (l_tg2 (lf mdL) p s)) (c_manyG (lf mdL) p s) (N := 5) (gs := []) ?_
  have e := k_manyG (lf mdL) p s
  have h0 : stR (rnm 5 []) (tg0S (lf mdL) s p 1 (put40 (fun _ => 0) (lf idGL) 0)) (tg0W (lf mdL) s p 0) = true := tg0_same rfl fun d hd => by
    unfold put40
    by_cases h : d < 40
    · rw [Nat.ble_eq_true_of_le (Nat.zero_le d), Nat.ble_eq_true_of_le (show d + 1 ≤ 0 + 40 by omega), tbGF_lt (k := 0) (by omega), show d / 40 = 0 by omega, show d % 40 = d by omega]; rfl
    · rw [ble_ff (a := d + 1) (by omega), tbGF_ge (k := 0) (by omega), Bool.and_false]; rfl
  have hk : cOK (lf mdL) = true := by decide +kernel
  rw [hp, hs, hk, h0, show stR (rnm 6 []) (tg2S (lf mdL) s (tbGF p 15) 63 (lf idGL)) (tg2W (lf mdL) p s 0) = true from tg2_same rfl fun _ _ => rfl] at e
  exact e
theorem mn_law {p s : Nat → Int} (hp : gdP p = true) : gdP (lf (r40 (mnG (n40 p) (n32 s) 64))) = true ∧ vG (lf (r40 (mnG (n40 p) (n32 s) 64))) = tmSp (vG p) s 64 := by
  rw [← mnG_ext (n40_at p) (n32_at s)]
  exact mnG_law hp s 64
noncomputable def gx10 : List (Nat × TF) := (F_rimeref04_Curve_Many, tManyG) :: gx9
theorem GX10 : LibOK prog tt gx10 [] := GX9.addT r_manyG
end Go.Proofs.YtbogcehngfjlkabGreat
namespace Go.Proofs.YtbogcehngfjlkabGreat
open Go.Proofs.Tryz
open Go Go.AM
def xzG (p : Nat → Int) : List Int := tG (gX p) (invG (gZ p))
def yzG (p : Nat → Int) : List Int := tG (gY p) (invG (gZ p))
def tXYG : TF := fun args => match args with
  | [.agg [.ints .i64 40 p]] => some (gdP p, .tup [u10 (lf (xzG p)), u10 (lf (yzG p))])
  | _ => none
theorem c_xyG : fnChk prog (envP tt gx10 []) f_rimeref04_XY = true := by kernel_rfl
set_option maxRecDepth 100000 in
theorem k_xyG (p : Nat → Int) : outP (apFunc (envP tt gx10 []) [] 5 f_rimeref04_XY [gpt p] []) = some (ckL [gd10 (gZ p), gM (gX p) (invG (gZ p)), gM (gY p) (invG (gZ p))], .tup [u10 (lf (xzG p)), u10 (lf (yzG p))]) := by kernel_rfl
theorem r_xyG : TRow prog F_rimeref04_XY tXYG := by
  intro args r h
  unfold tXYG at h
  split at h
  case h_2 => simp at h
  rename_i p
  simp only [Option.some.injEq, Prod.mk.injEq] at h
  obtain ⟨hp, rfl⟩ := h
  obtain ⟨h1, h2, h3, h4⟩ := gdP_t.1 hp
  refine pure_of_out GX10 at_rimeref04_XY c_xyG (N := 5) (gs := []) ?_
  have e := k_xyG p
  rw [h3, gM_t h1 (invG_law h3).1, gM_t h2 (invG_law h3).1] at e
  exact e
noncomputable def gx11 : List (Nat × TF) := (F_rimeref04_XY, tXYG) :: gx10
theorem GX11 : LibOK prog tt gx11 [] := GX10.addT r_xyG
theorem xyG_law {p : Nat → Int} (h : gdP p = true) : gd10 (xzG p) = true ∧ gd10 (yzG p) = true ∧ gm (xzG p) = mM (vG p).1 (invM (vG p).2.2.1) ∧ gm (yzG p) = mM (vG p).2.1 (invM (vG p).2.2.1) := by
  obtain ⟨h1, h2, h3, h4⟩ := gdP_t.1 h
  obtain ⟨i1, i2⟩ := invG_law h3
  refine ⟨tG_gd h1 i1, tG_gd h2 i1, ?_, ?_⟩
  · show gm (tG (gX p) (invG (gZ p))) = _
    rw [tG_gm h1 i1, i2]; rfl
  · show gm (tG (gY p) (invG (gZ p))) = _
    rw [tG_gm h2 i1, i2]; rfl
def topG (X Y : List Int) (j : Nat) : Int := bif Nat.beq j 31 then ior .u8 (lf Y 31) (ishl .u8 (iand .u8 (lf X 0) 1) 7) else lf Y j
theorem c_formG : fnChk prog (envP tt gx11 []) f_rimeref04_Form = true := by kernel_rfl
set_option maxRecDepth 100000 in
theorem k_formG (p : Nat → Int) : outP (apFunc (envP tt gx11 []) [] 5 f_rimeref04_Form [gpt p] []) =
    some (ckL [gdP (fun j => p (0 + j)), gd10 (q10 (yzG p)), gd10 (q10 (xzG p))], u8s 32 (lf (tabL (topG (byL 32 (gm (q10 (xzG p)))) (byL 32 (gm (q10 (yzG p))))) 32 0))) := by kernel_rfl
theorem odd_bit {x : Int} : ishl .u8 (iand .u8 (x % 256) 1) 7 = bif decide (x % 2 = 1) then 128 else 0 := by
  have key : ∀ n : Nat, n < 256 → ishl .u8 (iand .u8 (n : Int) 1) 7 = bif decide ((n : Int) % 2 = 1) then 128 else 0 := by decide +kernel
  have := key (x % 256).toNat (by omega)
  rw [Int.toNat_of_nonneg (by omega), show x % 256 % 2 = x % 2 by omega] at this
  exact this
theorem or_zero {x : Int} (h : 0 ≤ x ∧ x < 256) : ior .u8 x 0 = x := by
  have key : ∀ n : Nat, n < 256 → ior .u8 (n : Int) 0 = (n : Int) := by decide +kernel
  have := key x.toNat (by omega)
  rwa [Int.toNat_of_nonneg h.1] at this
theorem topG_law {x y : Int} (h0 : 0 ≤ y) (h1 : y < 57896044618658097711785492504343953926634992332820282019728792003956564819968) : tabL (topG (byL 32 x) (byL 32 y)) 32 0 = byL 32 (y + x % 2 * 57896044618658097711785492504343953926634992332820282019728792003956564819968) := by
  have e0 : lf (byL 32 x) 0 = x % 256 := by rw [lf_byL 32 x 0 (by omega)]; simp
  have ex : x % 2 = 0 ∨ x % 2 = 1 := by omega
  rcases ex with q | q
  · have : ∀ c, c < 32 → topG (byL 32 x) (byL 32 y) (0 + c) = lf (byL 32 y) (0 + c) := fun c _ => by
      unfold topG
      rw [e0, odd_bit, q]
      cases hb : Nat.beq (0 + c) 31 with
      | false => rfl
      | true =>
        have := Nat.eq_of_beq_eq_true hb
        rw [this]
        have hr : 0 ≤ lf (byL 32 y) 31 ∧ lf (byL 32 y) 31 < 256 := by rw [lf_byL 32 y 31 (by omega)]; omega
        exact or_zero hr
    rw [tabL_ext 32 0 this, q, Int.zero_mul, Int.add_zero]
    rfl
  · have : ∀ c, c < 32 → topG (byL 32 x) (byL 32 y) (0 + c) = top128 (byL 32 y) (0 + c) := fun c _ => by
      unfold topG top128
      rw [e0, odd_bit, q]; rfl
    rw [tabL_ext 32 0 this, q, Int.one_mul, top_law h0 h1]
def tFormG : TF := fun args => match args with
  | [.agg [.ints .i64 40 p]] => some (gdP p, b32 (formS (vG p)))
  | _ => none
theorem r_formG : TRow prog F_rimeref04_Form tFormG := by
  intro args r h
  unfold tFormG at h
  split at h
  case h_2 => simp at h
  rename_i p
  simp only [Option.some.injEq, Prod.mk.injEq] at h
  obtain ⟨hp, rfl⟩ := h
  obtain ⟨x1, x2, x3, x4⟩ := xyG_law hp
  refine pure_of_out GX11 at_rimeref04_Form c_formG (N := 5) (gs := []) ?_
  have e := k_formG p
  have hr := gm_range (yzG p)
  have hpP : pP < 57896044618658097711785492504343953926634992332820282019728792003956564819968 := by decide
  rw [q10_gm, q10_gm, q10_gd, q10_gd, x1, x2, topG_law hr.1 (Int.lt_trans hr.2 hpP), x3, x4] at e
  have hp0 : gdP (fun j => p (0 + j)) = true := (gdP_ext fun d _ => by rw [Nat.zero_add]).trans hp
  rw [hp0] at e
  exact e
noncomputable def gx12 : List (Nat × TF) := (F_rimeref04_Form, tFormG) :: gx11
theorem GX12 : LibOK prog tt gx12 [] := GX11.addT r_formG
end Go.Proofs.YtbogcehngfjlkabGreat
namespace Go.Proofs.YtbogcehngfjlkabGreat
open Go.Proofs.Tryz
open Go Go.AM
def one1G : List Int := carD (lf [1, 0, 0, 0, 0, 0, 0, 0, 0, 0])
def wY (b : Nat → Int) : List Int := q10 (carD (lf (fromL (hval (bb b) 32 0))))
def wYY (b : Nat → Int) : List Int := tG (wY b) (wY b)
def wU (b : Nat → Int) : List Int := sG (wYY b) one1G
def wV (b : Nat → Int) : List Int := aG (tG dGL (wYY b)) one1G
def wX (b : Nat → Int) (m : Bool) : List Int := bif m then q10 (tG (q10 (gx0 (q10 (wU b)) (q10 (wV b)))) iGL) else q10 (gx0 (q10 (wU b)) (q10 (wV b)))
def wA (b : Nat → Int) (g : Bool) : List Bool := [areB (bb b) 32 0, gd10 (q10 (wY b)), (!(eqN 32 (lf (byL 32 (gm (q10 (wY b))))) (bb b) && true)) == g]
def wB (b : Nat → Int) : List Bool := [gM (wY b) (wY b), gM (wYY b) one1G, gM dGL (wYY b), gM (tG dGL (wYY b)) one1G, gd10 (q10 (wU b)) && gd10 (q10 (wV b))]
def wC_pto (b : Nat → Int) (X : List Int) (g : Bool) : List Bool := [gM X X, gM (wV b) (tG X X), gM (tG (wV b) (tG X X)) (wU b), (!decide (gm (q10 (tG (wV b) (tG X X))) = gm (q10 (wU b)))) == g]
def wM (b : Nat → Int) (m g : Bool) : List Bool := bif m then wC_pto b (wX b false) true ++ (gM (wX b false) iGL :: wC_pto b (wX b true) g) else wC_pto b (wX b false) false ++ wC_pto b (wX b false) g
def wZ (X : List Int) (z : Bool) : List Bool := [gd10 (q10 X), (eqN 32 (lf (byL 32 (gm (q10 X)))) (fun _ => 0) && true) == z]
def wO (b : Nat → Int) (g : Bool) : Bool := (ishr .u8 (b 31) 7 == 1) == g
def wD_pto (b : Nat → Int) (X : List Int) (g : Bool) : Bool := (iand .u8 (lf (byL 32 (gm (q10 X))) 0) 1 != ishr .u8 (b 31) 7) == g
def wN_pto (X : List Int) : List Int := sG zer10 X
def wP (X Y : List Int) : List Int := r40 (q10 X ++ (q10 Y ++ (one10 ++ q10 (tG X Y))))
def z40 : List Int := tabL (fun _ => 0) 40 0
theorem c_PointG : fnChk prog (envP tt gx12 []) f_rimeref04_Curve_Point = true := by kernel_rfl
set_option maxRecDepth 100000 in
theorem k_PtA (b : Nat → Int) : outP (apFunc (envP tt gx12 []) [(27, true)] 5 f_rimeref04_Curve_Point [crv (lf mdL), u8s 32 b] []) =
    some (ckL (wA b true), .tup [gpt (lf (z40)), .sc (.bool false)]) := by kernel_rfl
set_option maxRecDepth 100000 in
theorem k_PtB (b : Nat → Int) : outP (apFunc (envP tt gx12 []) [(27, false), (51, true), (63, true)] 5 f_rimeref04_Curve_Point [crv (lf mdL), u8s 32 b] []) =
    some (ckL (wA b false ++ (wB b ++ wM b true true)), .tup [gpt (lf (z40)), .sc (.bool false)]) := by kernel_rfl
set_option maxRecDepth 100000 in
theorem k_PtZf (b : Nat → Int) : outP (apFunc (envP tt gx12 []) [(27, false), (51, false), (63, false), (70, true), (73, true)] 5 f_rimeref04_Curve_Point [crv (lf mdL), u8s 32 b] []) =
    some (ckL (wA b false ++ (wB b ++ (wM b false false ++ (wZ (wX b false) true ++ [wO b true])))), .tup [gpt (lf (z40)), .sc (.bool false)]) := by kernel_rfl
set_option maxRecDepth 100000 in
theorem k_Ptfff (b : Nat → Int) : outP (apFunc (envP tt gx12 []) [(27, false), (51, false), (63, false), (70, false), (79, false)] 5 f_rimeref04_Curve_Point [crv (lf mdL), u8s 32 b] []) =
    some (ckL (wA b false ++ (wB b ++ (wM b false false ++ (wZ (wX b false) false ++ (wD_pto b (wX b false) false :: [gM (wX b false) (wY b)]))))), .tup [gpt (lf (wP (wX b false) (wY b))), .sc (.bool true)]) := by kernel_rfl
set_option maxRecDepth 100000 in
theorem k_Ptfft (b : Nat → Int) : outP (apFunc (envP tt gx12 []) [(27, false), (51, false), (63, false), (70, false), (79, true)] 5 f_rimeref04_Curve_Point [crv (lf mdL), u8s 32 b] []) =
    some (ckL (wA b false ++ (wB b ++ (wM b false false ++ (wZ (wX b false) false ++ (wD_pto b (wX b false) true :: [gM zer10 (wX b false), gM (wN_pto (wX b false)) (wY b)]))))), .tup [gpt (lf (wP (wN_pto (wX b false)) (wY b))), .sc (.bool true)]) := by kernel_rfl
set_option maxRecDepth 100000 in
theorem k_Ptftf (b : Nat → Int) : outP (apFunc (envP tt gx12 []) [(27, false), (51, false), (63, false), (70, true), (73, false), (79, false)] 5 f_rimeref04_Curve_Point [crv (lf mdL), u8s 32 b] []) =
    some (ckL (wA b false ++ (wB b ++ (wM b false false ++ (wZ (wX b false) true ++ (wO b false :: wD_pto b (wX b false) false :: [gM (wX b false) (wY b)]))))), .tup [gpt (lf (wP (wX b false) (wY b))), .sc (.bool true)]) := by kernel_rfl
set_option maxRecDepth 100000 in
theorem k_Ptftt (b : Nat → Int) : outP (apFunc (envP tt gx12 []) [(27, false), (51, false), (63, false), (70, true), (73, false), (79, true)] 5 f_rimeref04_Curve_Point [crv (lf mdL), u8s 32 b] []) =
    some (ckL (wA b false ++ (wB b ++ (wM b false false ++ (wZ (wX b false) true ++ (wO b false :: wD_pto b (wX b false) true :: [gM zer10 (wX b false), gM (wN_pto (wX b false)) (wY b)]))))), .tup [gpt (lf (wP (wN_pto (wX b false)) (wY b))), .sc (.bool true)]) := by kernel_rfl
set_option maxRecDepth 100000 in
theorem k_PtZt (b : Nat → Int) : outP (apFunc (envP tt gx12 []) [(27, false), (51, true), (63, false), (70, true), (73, true)] 5 f_rimeref04_Curve_Point [crv (lf mdL), u8s 32 b] []) =
    some (ckL (wA b false ++ (wB b ++ (wM b true false ++ (wZ (wX b true) true ++ [wO b true])))), .tup [gpt (lf (z40)), .sc (.bool false)]) := by kernel_rfl
set_option maxRecDepth 100000 in
theorem k_Pttff (b : Nat → Int) : outP (apFunc (envP tt gx12 []) [(27, false), (51, true), (63, false), (70, false), (79, false)] 5 f_rimeref04_Curve_Point [crv (lf mdL), u8s 32 b] []) =
    some (ckL (wA b false ++ (wB b ++ (wM b true false ++ (wZ (wX b true) false ++ (wD_pto b (wX b true) false :: [gM (wX b true) (wY b)]))))), .tup [gpt (lf (wP (wX b true) (wY b))), .sc (.bool true)]) := by kernel_rfl
set_option maxRecDepth 100000 in
theorem k_Pttft (b : Nat → Int) : outP (apFunc (envP tt gx12 []) [(27, false), (51, true), (63, false), (70, false), (79, true)] 5 f_rimeref04_Curve_Point [crv (lf mdL), u8s 32 b] []) =
    some (ckL (wA b false ++ (wB b ++ (wM b true false ++ (wZ (wX b true) false ++ (wD_pto b (wX b true) true :: [gM zer10 (wX b true), gM (wN_pto (wX b true)) (wY b)]))))), .tup [gpt (lf (wP (wN_pto (wX b true)) (wY b))), .sc (.bool true)]) := by kernel_rfl
set_option maxRecDepth 100000 in
theorem k_Ptttf (b : Nat → Int) : outP (apFunc (envP tt gx12 []) [(27, false), (51, true), (63, false), (70, true), (73, false), (79, false)] 5 f_rimeref04_Curve_Point [crv (lf mdL), u8s 32 b] []) =
    some (ckL (wA b false ++ (wB b ++ (wM b true false ++ (wZ (wX b true) true ++ (wO b false :: wD_pto b (wX b true) false :: [gM (wX b true) (wY b)]))))), .tup [gpt (lf (wP (wX b true) (wY b))), .sc (.bool true)]) := by kernel_rfl
set_option maxRecDepth 100000 in
theorem k_Ptttt (b : Nat → Int) : outP (apFunc (envP tt gx12 []) [(27, false), (51, true), (63, false), (70, true), (73, false), (79, true)] 5 f_rimeref04_Curve_Point [crv (lf mdL), u8s 32 b] []) =
    some (ckL (wA b false ++ (wB b ++ (wM b true false ++ (wZ (wX b true) true ++ (wO b false :: wD_pto b (wX b true) true :: [gM zer10 (wX b true), gM (wN_pto (wX b true)) (wY b)]))))), .tup [gpt (lf (wP (wN_pto (wX b true)) (wY b))), .sc (.bool true)]) := by kernel_rfl
end Go.Proofs.YtbogcehngfjlkabGreat
namespace Go.Proofs.YtbogcehngfjlkabGreat
open Go.Proofs.Tryz
open Go Go.AM
theorem one1G_law : gd10 one1G = true ∧ gm one1G = 1 := by decide +kernel
structure WF_pto2 (b : Nat → Int) : Prop where
  y : gd10 (wY b) = true
  yy : gd10 (wYY b) = true
  u : gd10 (wU b) = true
  v : gd10 (wV b) = true
  dy : gd10 (tG dGL (wYY b)) = true
  x0 : gd10 (wX b false) = true
  x1 : gd10 (wX b true) = true
theorem wF_pto2 {b : Nat → Int} (h : areB b 32 0 = true) : WF_pto2 b := by
  obtain ⟨h1, h2, h3⟩ := bb_law h
  have hr := opY_range (hval b 32 0)
  have y : gd10 (wY b) = true := (fromL_law (v := hval (bb b) 32 0) (by rw [h2]; omega)).2.1
  have yy := tG_gd y y
  have u : gd10 (wU b) = true := sG_gd yy one1G_law.1
  have dy := tG_gd dGL_law.1 yy
  have v : gd10 (wV b) = true := aG_gd dy one1G_law.1
  have x0 := (gx0_law (U := q10 (wU b)) (V := q10 (wV b)) u v).1
  exact ⟨y, yy, u, v, dy, x0, tG_gd (a := q10 (gx0 (q10 (wU b)) (q10 (wV b)))) x0 iGL_law.1⟩
theorem w_y {b : Nat → Int} (h : areB b 32 0 = true) : gm (wY b) = opY (hval b 32 0) % pP := by
  obtain ⟨h1, h2, h3⟩ := bb_law h
  have hr := opY_range (hval b 32 0)
  have := (fromL_law (v := hval (bb b) 32 0) (by rw [h2]; omega)).2.2
  show gm (carD (lf (fromL (hval (bb b) 32 0)))) = _
  rw [this, h2]
theorem w_vals {b : Nat → Int} (h : areB b 32 0 = true) (hl : opY (hval b 32 0) < pP) : gm (wY b) = opY (hval b 32 0) ∧ gm (wU b) = opU (hval b 32 0) ∧ gm (wV b) = opV (hval b 32 0) ∧
    gm (wX b false) = rootX (opU (hval b 32 0)) (opV (hval b 32 0)) 0 ∧ gm (wX b true) = rootX (opU (hval b 32 0)) (opV (hval b 32 0)) 1 := by
  have F := wF_pto2 h
  have ey : gm (wY b) = opY (hval b 32 0) := (w_y h).trans (md_id ⟨(opY_range _).1, hl⟩)
  have eyy : gm (wYY b) = mM (opY (hval b 32 0)) (opY (hval b 32 0)) := (tG_gm F.y F.y).trans (by rw [ey])
  have eu : gm (wU b) = opU (hval b 32 0) := (sG_gm F.yy one1G_law.1).trans (by rw [eyy, one1G_law.2]; rfl)
  have ev : gm (wV b) = opV (hval b 32 0) := (aG_gm F.dy one1G_law.1).trans (by rw [tG_gm dGL_law.1 F.yy, dGL_law.2, eyy, one1G_law.2]; rfl)
  have e0 : gm (wX b false) = rootX (opU (hval b 32 0)) (opV (hval b 32 0)) 0 := by
    have := (gx0_law (U := q10 (wU b)) (V := q10 (wV b)) F.u F.v).2.1
    rw [q10_gm, q10_gm, eu, ev] at this
    exact this
  refine ⟨ey, eu, ev, e0, ?_⟩
  have x0 := (gx0_law (U := q10 (wU b)) (V := q10 (wV b)) F.u F.v).1
  have := tG_gm (a := q10 (gx0 (q10 (wU b)) (q10 (wV b)))) x0 iGL_law.1
  rw [iGL_law.2] at this
  show gm (tG (q10 (gx0 (q10 (wU b)) (q10 (wV b)))) iGL) = mM _ iM
  rw [this]
  exact congrArg (fun z => mM z iM) e0
theorem wA_law {b : Nat → Int} (h : areB b 32 0 = true) (g : Bool) (hg : decide (opY (hval b 32 0) < pP) = !g) : wA b g = [true, true, true] := by
  obtain ⟨h1, h2, h3⟩ := bb_law h
  have F := wF_pto2 h
  have hr := opY_range (hval b 32 0)
  have e : eqN 32 (lf (byL 32 (gm (q10 (wY b))))) (bb b) = decide (opY (hval b 32 0) < pP) := by
    rw [eqB_law h1 (gm_256 _).1 (gm_256 _).2, h2, q10_gm, w_y h]
    by_cases q : opY (hval b 32 0) < pP
    · rw [decide_eq_true q, decide_eq_true (md_id ⟨hr.1, q⟩).symm]
    · rw [decide_eq_false q, decide_eq_false (fun e => q (by rw [e]; exact Int.emod_lt_of_pos _ pP_pos))]
  unfold wA
  rw [e, h1, q10_gd, F.y, hg]
  cases g <;> rfl
theorem wB_law {b : Nat → Int} (h : areB b 32 0 = true) : wB b = [true, true, true, true, true] := by
  have F := wF_pto2 h
  unfold wB
  rw [gM_t F.y F.y, gM_t F.yy one1G_law.1, gM_t dGL_law.1 F.yy, gM_t F.dy one1G_law.1, q10_gd, q10_gd, F.u, F.v]
  rfl
theorem wC_law {b : Nat → Int} (h : areB b 32 0 = true) (hl : opY (hval b 32 0) < pP) {X : List Int} (hx : gd10 X = true) (g : Bool) (hg : rootOk (opU (hval b 32 0)) (opV (hval b 32 0)) (gm X) = !g) : wC_pto b X g = [true, true, true, true] := by
  have F := wF_pto2 h
  obtain ⟨ey, eu, ev, e0, e1⟩ := w_vals h hl
  have xx := tG_gd hx hx
  have vx := tG_gd F.v xx
  have e : gm (tG (wV b) (tG X X)) = mM (opV (hval b 32 0)) (mM (gm X) (gm X)) := by rw [tG_gm F.v xx, tG_gm hx hx, ev]
  unfold wC_pto
  rw [gM_t hx hx, gM_t F.v xx, gM_t vx F.u, q10_gm, q10_gm, e, eu, show decide (mM (opV (hval b 32 0)) (mM (gm X) (gm X)) = opU (hval b 32 0)) = !g from hg]
  cases g <;> rfl
theorem opM_0 {w : Int} (h : opM w = 0) : rootOk (opU w) (opV w) (rootX (opU w) (opV w) 0) = true := by
  unfold opM rootM at h
  cases q : rootOk (opU w) (opV w) (rootX (opU w) (opV w) 0) with
  | true => rfl
  | false =>
    rw [q] at h
    cases q1 : rootOk (opU w) (opV w) (rootX (opU w) (opV w) 1) <;> rw [q1] at h <;> cases h
theorem opM_ge {w : Int} (h : opM w ≠ 0) : rootOk (opU w) (opV w) (rootX (opU w) (opV w) 0) = false ∧ rootOk (opU w) (opV w) (rootX (opU w) (opV w) 1) = decide (opM w = 1) := by
  unfold opM rootM at *
  cases q : rootOk (opU w) (opV w) (rootX (opU w) (opV w) 0) with
  | true => rw [q] at h; exact absurd rfl h
  | false =>
    cases q1 : rootOk (opU w) (opV w) (rootX (opU w) (opV w) 1) <;> exact ⟨rfl, rfl⟩
theorem opM_le (w : Int) : opM w = 0 ∨ opM w = 1 ∨ opM w = 2 := by
  unfold opM rootM
  cases rootOk (opU w) (opV w) (rootX (opU w) (opV w) 0) with
  | true => exact Or.inl rfl
  | false =>
    cases rootOk (opU w) (opV w) (rootX (opU w) (opV w) 1) with
    | true => exact Or.inr (Or.inl rfl)
    | false => exact Or.inr (Or.inr rfl)
theorem wO_law {b : Nat → Int} (h : areB b 32 0 = true) (g : Bool) (hg : opOdd (hval b 32 0) = g) : wO b g = true := by
  obtain ⟨h1, h2, h3⟩ := bb_law h
  unfold wO
  rw [h3, hg]
  cases g <;> rfl
theorem wZ_law {X : List Int} (hx : gd10 X = true) (g : Bool) (hg : decide (gm X = 0) = g) : wZ X g = [true, true] := by
  unfold wZ
  rw [q10_gd, q10_gm, hx, eqN_zero32 (gm_256 _).1 (gm_256 _).2, hg]
  cases g <;> rfl
theorem and1 {x : Int} : iand .u8 (x % 256) 1 = x % 2 := by
  have key : ∀ n : Nat, n < 256 → iand .u8 (n : Int) 1 = (n : Int) % 2 := by decide +kernel
  have := key (x % 256).toNat (by omega)
  rw [Int.toNat_of_nonneg (by omega), show x % 256 % 2 = x % 2 by omega] at this
  exact this
theorem shr7 {b : Nat → Int} (h : areB b 32 0 = true) : ishr .u8 (b 31) 7 = b 31 / 128 ∧ (b 31 / 128 = 0 ∨ b 31 / 128 = 1) := by
  have h2 := areB_t h 31 (by omega)
  rw [Nat.zero_add] at h2
  refine ⟨?_, by omega⟩
  show (b 31).fdiv (2 ^ (min (7 : Int).toNat 8)) = _
  rw [Int.fdiv_eq_ediv_of_nonneg _ (by decide)]; rfl
theorem wD_law {b : Nat → Int} (h : areB b 32 0 = true) {X : List Int} (g : Bool) (hg : (decide (gm X % 2 = 1) != opOdd (hval b 32 0)) = g) : wD_pto b X g = true := by
  obtain ⟨h1, h2, h3⟩ := bb_law h
  obtain ⟨s1, s2⟩ := shr7 h
  rw [← h3, s1] at hg
  have hm : gm X % 2 = 0 ∨ gm X % 2 = 1 := by omega
  unfold wD_pto
  rw [q10_gm, lf_byL 32 _ 0 (by omega), show gm X / 256 ^ 0 % 256 = gm X % 256 by simp, and1, s1]
  subst hg
  rcases hm with q | q <;> rcases s2 with r | r <;> rw [q, r] <;> rfl
def wNs (X : List Int) (n : Bool) : List Int := bif n then wN_pto X else X
def wE_pto2 (X Y : List Int) (n : Bool) : List Bool := bif n then [gM zer10 X, gM (wN_pto X) Y] else [gM X Y]
theorem k_PtZ (b : Nat → Int) (m : Bool) : outP (apFunc (envP tt gx12 []) [(27, false), (51, m), (63, false), (70, true), (73, true)] 5 f_rimeref04_Curve_Point [crv (lf mdL), u8s 32 b] []) =
    some (ckL (wA b false ++ (wB b ++ (wM b m false ++ (wZ (wX b m) true ++ [wO b true])))), .tup [gpt (lf z40), .sc (.bool false)]) := by
  cases m
  · exact k_PtZf b
  · exact k_PtZt b
set_option maxRecDepth 100000 in
theorem k_Pt1 (b : Nat → Int) (m n : Bool) : outP (apFunc (envP tt gx12 []) [(27, false), (51, m), (63, false), (70, true), (73, false), (79, n)] 5 f_rimeref04_Curve_Point [crv (lf mdL), u8s 32 b] []) =
    some (ckL (wA b false ++ (wB b ++ (wM b m false ++ (wZ (wX b m) true ++ (wO b false :: wD_pto b (wX b m) n :: wE_pto2 (wX b m) (wY b) n))))), .tup [gpt (lf (wP (wNs (wX b m) n) (wY b))), .sc (.bool true)]) := by
  cases m <;> cases n <;> simp only [wE_pto2, wNs, cond_true, cond_false]
  · exact k_Ptftf b
  · exact k_Ptftt b
  · exact k_Ptttf b
  · exact k_Ptttt b
set_option maxRecDepth 100000 in
theorem k_Pt0 (b : Nat → Int) (m n : Bool) : outP (apFunc (envP tt gx12 []) [(27, false), (51, m), (63, false), (70, false), (79, n)] 5 f_rimeref04_Curve_Point [crv (lf mdL), u8s 32 b] []) =
    some (ckL (wA b false ++ (wB b ++ (wM b m false ++ (wZ (wX b m) false ++ (wD_pto b (wX b m) n :: wE_pto2 (wX b m) (wY b) n))))), .tup [gpt (lf (wP (wNs (wX b m) n) (wY b))), .sc (.bool true)]) := by
  cases m <;> cases n <;> simp only [wE_pto2, wNs, cond_true, cond_false]
  · exact k_Ptfff b
  · exact k_Ptfft b
  · exact k_Pttff b
  · exact k_Pttft b
theorem wE_law {X Y : List Int} (hx : gd10 X = true) (hy : gd10 Y = true) (n : Bool) : ckL (wE_pto2 X Y n) = true := by
  cases n
  · show ckL [gM X Y] = true
    rw [gM_t hx hy]; rfl
  · show ckL [gM zer10 X, gM (wN_pto X) Y] = true
    rw [gM_t zer10_law.1 hx, gM_t (a := wN_pto X) (sG_gd zer10_law.1 hx) hy]; rfl
def wm (b : Nat → Int) : Bool := !decide (opM (hval b 32 0) = 0)
def wNg (b : Nat → Int) : Bool := decide (gm (wX b (wm b)) % 2 = 1) != opOdd (hval b 32 0)
def wPt (b : Nat → Int) : List Int := bif opOk (hval b 32 0) then wP (wNs (wX b (wm b)) (wNg b)) (wY b) else z40
theorem wX_gd {b : Nat → Int} (h : areB b 32 0 = true) (m : Bool) : gd10 (wX b m) = true := by
  cases m
  · exact (wF_pto2 h).x0
  · exact (wF_pto2 h).x1
theorem wM_law {b : Nat → Int} (h : areB b 32 0 = true) (hl : opY (hval b 32 0) < pP) (hm : Nat.ble (opM (hval b 32 0)) 1 = true) : ckL (wM b (wm b) false) = true ∧ gm (wX b (wm b)) = opX (hval b 32 0) := by
  have F := wF_pto2 h
  obtain ⟨ey, eu, ev, e0, e1⟩ := w_vals h hl
  rcases opM_le (hval b 32 0) with q | q | q
  · have hw : wm b = false := by unfold wm; rw [q]; rfl
    have o := opM_0 q
    rw [hw]
    refine ⟨?_, by rw [e0]; unfold opX; rw [q]⟩
    show ckL (wC_pto b (wX b false) false ++ wC_pto b (wX b false) false) = true
    rw [wC_law h hl F.x0 false (by rw [e0]; exact o)]; rfl
  · have hw : wm b = true := by unfold wm; rw [q]; rfl
    obtain ⟨o1, o2⟩ := opM_ge (w := hval b 32 0) (by rw [q]; decide)
    rw [q] at o2
    rw [hw]
    refine ⟨?_, by rw [e1]; unfold opX; rw [q]⟩
    show ckL (wC_pto b (wX b false) true ++ (gM (wX b false) iGL :: wC_pto b (wX b true) false)) = true
    rw [wC_law h hl F.x0 true (by rw [e0]; exact o1), wC_law h hl F.x1 false (by rw [e1]; exact o2), gM_t F.x0 iGL_law.1]; rfl
  · rw [q] at hm; cases hm
def tPointG : TF := fun args => match args with
  | [.agg [.ints .i64 60 c], .agg [.ints .u8 32 b]] => some (eqN 60 c (lf mdL) && areB b 32 0, .tup [gpt (lf (wPt b)), .sc (.bool (opOk (hval b 32 0)))])
  | _ => none
theorem ckA (a b : List Bool) : ckL (a ++ b) = (ckL a && ckL b) := by
  rw [Bool.eq_iff_iff, Bool.and_eq_true, ckL_t, ckL_t, ckL_t]
  simp only [List.mem_append]
  exact ⟨fun h => ⟨fun x hx => h x (Or.inl hx), fun x hx => h x (Or.inr hx)⟩, fun h x hx => hx.elim (h.1 x) (h.2 x)⟩
theorem r_PointG : TRow prog F_rimeref04_Curve_Point tPointG := by
  intro args r h
  unfold tPointG at h
  split at h
  case h_2 => simp at h
  rename_i c b
  simp only [Option.some.injEq, Prod.mk.injEq] at h
  obtain ⟨hc, rfl⟩ := h
  obtain ⟨hc, hb⟩ := and_t.1 hc
  refine pure_first hc ?_
  have F := wF_pto2 hb
  unfold wPt
  cases h1 : decide (opY (hval b 32 0) < pP) with
  | false =>
    have hok : opOk (hval b 32 0) = false := by unfold opOk; rw [h1]; rfl
    rw [hok]
    refine pure_of_out GX12 at_rimeref04_Curve_Point c_PointG (N := 5) (gs := [(27, true)]) ?_
    have e := k_PtA b
    rw [wA_law hb true (by rw [h1]; rfl)] at e
    exact e
  | true =>
    have hl := of_decide_eq_true h1
    have a := wA_law hb false (by rw [h1]; rfl)
    have bl := wB_law hb
    cases h2 : Nat.ble (opM (hval b 32 0)) 1 with
    | false =>
      have hok : opOk (hval b 32 0) = false := by unfold opOk; rw [h1, h2]; rfl
      rw [hok]
      refine pure_of_out GX12 at_rimeref04_Curve_Point c_PointG (N := 5) (gs := [(27, false), (51, true), (63, true)]) ?_
      have e := k_PtB b
      obtain ⟨ey, eu, ev, e0, e1⟩ := w_vals hb hl
      have hm : opM (hval b 32 0) ≠ 0 := fun q => by rw [q] at h2; cases h2
      have hm1 : opM (hval b 32 0) ≠ 1 := fun q => by rw [q] at h2; cases h2
      obtain ⟨o1, o2⟩ := opM_ge hm
      rw [decide_eq_false hm1] at o2
      have w : ckL (wM b true true) = true := by
        show ckL (wC_pto b (wX b false) true ++ (gM (wX b false) iGL :: wC_pto b (wX b true) true)) = true
        rw [wC_law hb hl F.x0 true (by rw [e0]; exact o1), wC_law hb hl F.x1 true (by rw [e1]; exact o2), gM_t F.x0 iGL_law.1]; rfl
      rw [ckA, ckA, a, bl, w] at e
      exact e
    | true =>
      obtain ⟨w1, w2⟩ := wM_law hb hl h2
      have hx := wX_gd hb (wm b)
      have z := wZ_law hx _ rfl
      have d := wD_law hb (X := wX b (wm b)) (wNg b) rfl
      have ee := wE_law hx F.y (wNg b)
      cases h4 : decide (opX (hval b 32 0) = 0) with
      | true =>
        rw [w2, h4] at z
        cases h3 : opOdd (hval b 32 0) with
        | true =>
          have hok : opOk (hval b 32 0) = false := by unfold opOk; rw [h1, h2, h3, h4]; rfl
          rw [hok]
          refine pure_of_out GX12 at_rimeref04_Curve_Point c_PointG (N := 5) (gs := [(27, false), (51, wm b), (63, false), (70, true), (73, true)]) ?_
          have e := k_PtZ b (wm b)
          rw [ckA, ckA, ckA, a, bl, w1, z, wO_law hb true h3] at e
          exact e
        | false =>
          have hok : opOk (hval b 32 0) = true := by unfold opOk; rw [h1, h2, h3, h4]; rfl
          rw [hok]
          refine pure_of_out GX12 at_rimeref04_Curve_Point c_PointG (N := 5) (gs := [(27, false), (51, wm b), (63, false), (70, true), (73, false), (79, wNg b)]) ?_
          have e := k_Pt1 b (wm b) (wNg b)
          rw [ckA, ckA, ckA, a, bl, w1, z, wO_law hb false h3, d, show ckL ([true, true] ++ (true :: true :: wE_pto2 (wX b (wm b)) (wY b) (wNg b))) = ckL (wE_pto2 (wX b (wm b)) (wY b) (wNg b)) from rfl, ee] at e
          exact e
      | false =>
        rw [w2, h4] at z
        have hok : opOk (hval b 32 0) = true := by unfold opOk; rw [h1, h2, h4, Bool.and_false]; rfl
        rw [hok]
        refine pure_of_out GX12 at_rimeref04_Curve_Point c_PointG (N := 5) (gs := [(27, false), (51, wm b), (63, false), (70, false), (79, wNg b)]) ?_
        have e := k_Pt0 b (wm b) (wNg b)
        rw [ckA, ckA, ckA, a, bl, w1, z, d, show ckL ([true, true] ++ (true :: wE_pto2 (wX b (wm b)) (wY b) (wNg b))) = ckL (wE_pto2 (wX b (wm b)) (wY b) (wNg b)) from rfl, ee] at e
        exact e
noncomputable def gx13 : List (Nat × TF) := (F_rimeref04_Curve_Point, tPointG) :: gx12
theorem GX13 : LibOK prog tt gx13 [] := GX12.addT r_PointG
end Go.Proofs.YtbogcehngfjlkabGreat
namespace Go.Proofs.YtbogcehngfjlkabGreat
open Go.Proofs.Tryz
open Go Go.AM
theorem wP_law {X Y : List Int} (hx : gd10 X = true) (hy : gd10 Y = true) : gdP (lf (wP X Y)) = true ∧ vG (lf (wP X Y)) = (gm X, gm Y, 1, mM (gm X) (gm Y)) := by
  have hm := tG_gd hx hy
  obtain ⟨x1, x2, x3, x4⟩ := four_g (a := q10 X) (b := q10 Y) (c := one10) (d := q10 (tG X Y)) rfl rfl rfl rfl
  have e : ∀ d, d < 40 → lf (wP X Y) d = lf (q10 X ++ (q10 Y ++ (one10 ++ q10 (tG X Y)))) d := fun d hd => by
    have := lf_tab (lf (q10 X ++ (q10 Y ++ (one10 ++ q10 (tG X Y))))) 40 0 d hd
    rwa [Nat.zero_add] at this
  obtain ⟨e1, e2, e3, e4⟩ := tg_ext e
  have o : gd10 one10 = true ∧ gm one10 = 1 := by decide
  refine ⟨?_, ?_⟩
  · rw [gdP_ext e]
    exact gdP_t.2 ⟨by rw [x1]; exact hx, by rw [x2]; exact hy, by rw [x3]; exact o.1, by rw [x4]; exact hm⟩
  · unfold vG
    rw [e1, e2, e3, e4, x1, x2, x3, x4, q10_gm, q10_gm, q10_gm, o.2, tG_gm hx hy]
theorem wPt_law {b : Nat → Int} (h : areB b 32 0 = true) (hok : opOk (hval b 32 0) = true) : gdP (lf (wPt b)) = true ∧ vG (lf (wPt b)) = openS (hval b 32 0) := by
  have F := wF_pto2 h
  have hl : opY (hval b 32 0) < pP := of_decide_eq_true (and_t.1 hok).1
  have hm : Nat.ble (opM (hval b 32 0)) 1 = true := (and_t.1 (and_t.1 hok).2).1
  obtain ⟨w1, w2⟩ := wM_law h hl hm
  obtain ⟨ey, eu, ev, e0, e1⟩ := w_vals h hl
  have hx := wX_gd h (wm b)
  unfold wPt
  rw [hok]
  show gdP (lf (wP (wNs (wX b (wm b)) (wNg b)) (wY b))) = true ∧ vG (lf (wP (wNs (wX b (wm b)) (wNg b)) (wY b))) = _
  unfold openS opXs
  rw [← w2]
  show _ ∧ _ = ((bif wNg b then _ else _), _, _, mM (bif wNg b then _ else _) _)
  cases wNg b with
  | true =>
    obtain ⟨q1, q2⟩ := wP_law (X := wN_pto (wX b (wm b))) (sG_gd zer10_law.1 hx) F.y
    refine ⟨q1, q2.trans ?_⟩
    rw [show gm (wN_pto (wX b (wm b))) = mS 0 (gm (wX b (wm b))) from (sG_gm zer10_law.1 hx).trans (by rw [zer10_law.2]), ey]; rfl
  | false =>
    obtain ⟨q1, q2⟩ := wP_law hx F.y
    refine ⟨q1, q2.trans ?_⟩
    rw [ey]; rfl
def tIdentG : TF := fun args => match args with
  | [] => some (true, b32 1)
  | _ => none
theorem c_identG : fnChk prog (envP tt gx13 []) f_rimeref04_Identity = true := by kernel_rfl
theorem k_identG : outP (apFunc (envP tt gx13 []) [] 5 f_rimeref04_Identity [] []) = some (gdP (lf idGL) && true, b32 (formS (vG (lf idGL)))) := by kernel_rfl
theorem r_identG : TRow prog F_rimeref04_Identity tIdentG := by
  intro args r h
  unfold tIdentG at h
  split at h
  case h_2 => simp at h
  simp only [Option.some.injEq, Prod.mk.injEq, true_and] at h
  subst h
  refine pure_of_out GX13 at_rimeref04_Identity c_identG (N := 5) (gs := []) ?_
  rw [k_identG, idGL_law.1, idGL_law.2, form_id]; rfl
theorem c_checkG : fnChk prog (envP tt gx13 []) f_rimeref04_Check = true := by kernel_rfl
theorem k_checkG1 (b : Nat → Int) : outP (apFunc (envP tt gx13 []) [(12, true)] 5 f_rimeref04_Check [u8s 32 b] []) = some (ckL [areB (ld0 b) 32 0, (!opOk (hval (ld0 b) 32 0)) == true], .sc (.int .i64 41)) := by kernel_rfl
theorem k_checkG2 (b : Nat → Int) : outP (apFunc (envP tt gx13 []) [(12, false)] 5 f_rimeref04_Check [u8s 32 b] []) = some (ckL [areB (ld0 b) 32 0, (!opOk (hval (ld0 b) 32 0)) == false], .sc (.int .i64 0)) := by kernel_rfl
theorem r_checkG : TRow prog F_rimeref04_Check tCheck := by
  intro args r h
  unfold tCheck at h
  split at h
  case h_2 => simp at h
  rename_i b
  simp only [Option.some.injEq, Prod.mk.injEq] at h
  obtain ⟨hb, rfl⟩ := h
  cases ho : opOk (hval b 32 0) with
  | true =>
    refine pure_of_out GX13 at_rimeref04_Check c_checkG (N := 5) (gs := [(12, false)]) ?_
    have e := k_checkG2 b
    rw [ld0_eq, hb, ho] at e
    exact e
  | false =>
    refine pure_of_out GX13 at_rimeref04_Check c_checkG (N := 5) (gs := [(12, true)]) ?_
    have e := k_checkG1 b
    rw [ld0_eq, hb, ho] at e
    exact e
end Go.Proofs.YtbogcehngfjlkabGreat
namespace Go.Proofs.YtbogcehngfjlkabGreat
open Go.Proofs.Tryz
open Go Go.AM
theorem c_mulG4 : fnChk prog (envP tt gx13 []) f_rimeref04_Mul = true := by kernel_rfl
theorem k_mulG1 (s b : Nat → Int) : outP (apFunc (envP tt gx13 []) [(17, true)] 5 f_rimeref04_Mul [u8s 32 s, u8s 32 b] []) = some (ckL [areB (ld0 b) 32 0, (!opOk (hval (ld0 b) 32 0)) == true], .tup [b32 0, .sc (.int .i64 41)]) := by kernel_rfl
theorem k_mulG2 (s b : Nat → Int) : outP (apFunc (envP tt gx13 []) [(17, false)] 5 f_rimeref04_Mul [u8s 32 s, u8s 32 b] []) = some (ckL [areB (ld0 b) 32 0, (!opOk (hval (ld0 b) 32 0)) == false, gdP (n40 (lf (wPt (ld0 b)))) && areB (ld0 s) 32 0, gdP (lf (r40 (mnG (n40 (lf (wPt (ld0 b)))) (n32 s) 64)))], .tup [b32 (formS (vG (lf (r40 (mnG (n40 (lf (wPt (ld0 b)))) (n32 s) 64))))), .sc (.int .i64 0)]) := by kernel_rfl
theorem r_mulG4 : TRow prog F_rimeref04_Mul tEMul := by
  intro args r h
  unfold tEMul at h
  split at h
  case h_2 => simp at h
  rename_i s b
  simp only [Option.some.injEq, Prod.mk.injEq] at h
  obtain ⟨hc, rfl⟩ := h
  obtain ⟨hb, hs⟩ := and_t.1 hc
  cases ho : opOk (hval b 32 0) with
  | false =>
    refine pure_of_out GX13 at_rimeref04_Mul c_mulG4 (N := 5) (gs := [(17, true)]) ?_
    have e := k_mulG1 s b
    rw [ld0_eq, hb, ho] at e
    exact e
  | true =>
    obtain ⟨p1, p2⟩ := wPt_law hb ho
    obtain ⟨h3, h4⟩ := mn_law (s := s) p1
    have hn : gdP (n40 (lf (wPt b))) = true := (gdP_ext fun d hd => (n40_at _ d hd).symm).trans p1
    refine pure_of_out GX13 at_rimeref04_Mul c_mulG4 (N := 5) (gs := [(17, false)]) ?_
    have e := k_mulG2 s b
    rw [ld0_eq, ld0_eq, hb, ho, hn, hs, h3, h4, p2, mulS_of hs] at e
    exact e
theorem c_orderG : fnChk prog (envP tt gx13 []) f_rimeref04_Order = true := by kernel_rfl
theorem r_orderG : TRow prog F_rimeref04_Order tOrder4 := by
  intro args r h
  unfold tOrder4 at h
  split at h
  case h_2 => simp at h
  simp only [Option.some.injEq, Prod.mk.injEq, true_and] at h
  subst h
  exact pure_of_out GX13 at_rimeref04_Order c_orderG (N := 5) (gs := []) (by kernel_rfl)
noncomputable def gx14 : List (Nat × TF) := (F_rimeref04_Order, tOrder4) :: (F_rimeref04_Mul, tEMul) :: (F_rimeref04_Check, tCheck) :: (F_rimeref04_Identity, tIdentG) :: gx13
theorem GX14 : LibOK prog tt gx14 [] := ((((GX13.addT r_identG)).addT r_checkG).addT r_mulG4).addT r_orderG
end Go.Proofs.YtbogcehngfjlkabGreat
namespace Go.Proofs.YtbogcehngfjlkabGreat
open Go.Proofs.Tryz
open Go Go.AM
theorem form_range (q : Q4) : 0 ≤ formS q ∧ formS q < R256 := by
  have h1 : 0 ≤ mM q.2.1 (invM q.2.2.1) ∧ mM q.2.1 (invM q.2.2.1) < pP := ⟨Int.emod_nonneg _ (by decide), Int.emod_lt_of_pos _ pP_pos⟩
  unfold formS
  unfold pP at h1
  unfold R256
  generalize mM q.2.1 (invM q.2.2.1) = y at *
  generalize mM q.1 (invM q.2.2.1) = x
  omega
noncomputable def gx15 : List (Nat × TF) := gx14
theorem GX15 : LibOK prog tt gx15 [] := GX14
end Go.Proofs.YtbogcehngfjlkabGreat
namespace Go.Proofs.YtbogcehngfjlkabGreat
open Go.Proofs.Tryz
open Go Go.AM
def prG_edwg4 (w : Int) : Bool := opOk w && decide (formS (mulS (openS w) ordL) = 1)
def tIsPrG : TF := fun args => match args with
  | [.agg [.ints .u8 32 b]] => some (areB b 32 0, .tup [.sc (.bool (prG_edwg4 (hval b 32 0))), .sc (.int .i64 (bif opOk (hval b 32 0) then 0 else 41))])
  | _ => none
theorem c_isPrG : fnChk prog (envP tt gx15 []) f_rimeref04_IsPrime = true := by kernel_rfl
theorem k_isPrG1 (b : Nat → Int) : outP (apFunc (envP tt gx15 []) [(14, true)] 5 f_rimeref04_IsPrime [u8s 32 b] []) = some (ckL [areB (ld0 b) 32 0 && true, ((bif opOk (hval (ld0 b) 32 0) then 0 else 41 : Int) == 0) == true], .tup [.sc (.bool (eqN 32 (lf (byL 32 (bif opOk (hval (ld0 b) 32 0) then formS (mulS (openS (hval (ld0 b) 32 0)) ordL) else 0))) (lf (byL 32 1)) && true)), .sc (.int .i64 (bif opOk (hval (ld0 b) 32 0) then 0 else 41))]) := by kernel_rfl
theorem k_isPrG2 (b : Nat → Int) : outP (apFunc (envP tt gx15 []) [(14, false)] 5 f_rimeref04_IsPrime [u8s 32 b] []) = some (ckL [areB (ld0 b) 32 0 && true, ((bif opOk (hval (ld0 b) 32 0) then 0 else 41 : Int) == 0) == false], .tup [.sc (.bool false), .sc (.int .i64 (bif opOk (hval (ld0 b) 32 0) then 0 else 41))]) := by kernel_rfl
set_option maxRecDepth 100000 in
theorem r_isPrG : TRow prog F_rimeref04_IsPrime tIsPrG := by
  intro args r h
  unfold tIsPrG at h
  split at h
  case h_2 => simp at h
  rename_i b
  simp only [Option.some.injEq, Prod.mk.injEq] at h
  obtain ⟨hb, rfl⟩ := h
  unfold prG_edwg4
  cases ho : opOk (hval b 32 0) with
  | false =>
    refine pure_of_out GX15 at_rimeref04_IsPrime c_isPrG (N := 5) (gs := [(14, false)]) ?_
    have e := k_isPrG2 b
    rw [ld0_eq, hb, ho] at e
    exact e
  | true =>
    refine pure_of_out GX15 at_rimeref04_IsPrime c_isPrG (N := 5) (gs := [(14, true)]) ?_
    have e := k_isPrG1 b
    rw [ld0_eq, hb, ho] at e
    simp only [cond_true] at e
    rw [eqN_by (form_range _) (show (0 : Int) ≤ 1 ∧ (1 : Int) < R256 by decide), Bool.and_true, Bool.and_true] at e
    generalize formS (mulS (openS (hval b 32 0)) ordL) = z at e ⊢
    exact e
noncomputable def gx16 : List (Nat × TF) := (F_rimeref04_IsPrime, tIsPrG) :: gx15
theorem GX16 : LibOK prog tt gx16 [] := GX15.addT r_isPrG
end Go.Proofs.YtbogcehngfjlkabGreat
namespace Go.Proofs.YtbogcehngfjlkabGreat
open Go.Proofs.Tryz
open Go Go.AM
theorem tbS_on {q : Q4} (h : On4 q) : ∀ j, On4 (tbS q j)
  | 0 => id_on
  | j + 1 => add_on (tbS_on h j) h
theorem tmSp_on {q : Q4} (h : On4 q) (s : Nat → Int) : ∀ k, On4 (tmSp q s k)
  | 0 => id_on
  | k + 1 => by
    have h4 := dbl_on (dbl_on (dbl_on (dbl_on (tmSp_on h s k))))
    unfold tmSp
    cases decide (nib s (63 - k) > 0) with
    | true => exact add_on h4 (tbS_on h _)
    | false => exact h4
theorem mulS_on {q : Q4} (h : On4 q) (k : Int) : On4 (mulS q k) := tmSp_on h _ 64
theorem root_ok {u v : Int} (h : Nat.ble (rootM u v) 1 = true) : rootOk u v (rootX u v (rootM u v)) = true := by
  unfold rootM at h ⊢
  cases h0 : rootOk u v (rootX u v 0) with
  | true => exact h0
  | false =>
    rw [h0] at h
    cases h1 : rootOk u v (rootX u v 1) with
    | true => exact h1
    | false => rw [h1] at h; exact absurd h (by decide)
theorem rootX_in (u v : Int) : ∀ k, inP (rootX u v k)
  | 0 => mM_in _ _
  | k + 1 => mM_in _ _
theorem mS_in (x y : Int) : inP (mS x y) := ⟨Int.emod_nonneg _ (by decide), Int.emod_lt_of_pos _ pP_pos⟩
theorem openS_on {w : Int} (ho : opOk w = true) : On4 (openS w) := by
  unfold opOk at ho
  simp only [Bool.and_eq_true, decide_eq_true_eq] at ho
  obtain ⟨hy, hm, _⟩ := ho
  have hr := root_ok hm
  have hr : rootOk (opU w) (opV w) (opX w) = true := hr
  have e := of_decide_eq_true hr
  have yin : inP (opY w) := ⟨by unfold opY; omega, hy⟩
  have xin : inP (opX w) := rootX_in _ _ _
  have ef := congrArg fq e
  unfold opU opV at ef
  simp only [fq_mul, fq_add, fq_sub, fq_1] at ef
  have xs : inP (opXs w) ∧ fq (opXs w) * fq (opXs w) = fq (opX w) * fq (opX w) := by
    unfold opXs
    cases (decide (opX w % 2 = 1) != opOdd w) with
    | true => exact ⟨mS_in _ _, by show fq (mS 0 (opX w)) * fq (mS 0 (opX w)) = _; rw [fq_sub, fq_0]; grind⟩
    | false => exact ⟨xin, rfl⟩
  refine ⟨xs.1, yin, by show inP 1; decide, mM_in _ _, ?_⟩
  show OnF (fq (opXs w)) (fq (opY w)) (fq 1) (fq (mM (opXs w) (opY w)))
  rw [fq_mul, fq_1]
  have e2 := xs.2
  refine ⟨?_, by grind, f01⟩
  have ed : fq eD = dF := rfl
  rw [ed, ← e2] at ef
  generalize fq (opXs w) = x at *
  generalize fq (opY w) = y at *
  generalize dF = d at *
  clear e2 xs hr e hm yin xin hy
  grind
theorem id1_of {q : Q4} {x : Int} (e : (q.1 = 0 ∧ q.2.1 = q.2.2.1) ↔ x = 1) : isIdS q = decide (x = 1) := by
  unfold isIdS
  by_cases hf : x = 1
  · obtain ⟨h1, h2⟩ := e.2 hf
    rw [decide_eq_true h1, decide_eq_true h2, decide_eq_true hf]; rfl
  · rw [decide_eq_false hf]
    cases h1 : decide (q.1 = 0) with
    | false => rfl
    | true =>
      cases h2 : decide (q.2.1 = q.2.2.1) with
      | false => rfl
      | true => exact absurd (e.1 ⟨of_decide_eq_true h1, of_decide_eq_true h2⟩) hf
theorem form_id1 {q : Q4} (h : On4 q) : isIdS q = decide (formS q = 1) := by
  unfold formS
  exact id1_of (form_one h rfl)
theorem prS_prG (w : Int) : prS w = prG_edwg4 w := by
  unfold prS prG_edwg4
  have key : opOk w = true → isIdS (mulS (openS w) ordL) = decide (formS (mulS (openS w) ordL) = 1) := fun ho => form_id1 (mulS_on (openS_on ho) ordL)
  generalize mulS (openS w) ordL = q at key ⊢
  cases ho : opOk w with
  | false => rfl
  | true => rw [key ho]
end Go.Proofs.YtbogcehngfjlkabGreat
namespace Go.Proofs.YtbogcehngfjlkabGreat
open Go.Proofs.Tryz
open Go Go.AM
noncomputable def montB : Code := match f_scalar_mont.body with | some c => (match bodiesOf 0 c with | [.loop b] => b | _ => .skip) | none => .skip
def montT : List (Nat × AV) := [(2, .sc (.ptr 0 4 0 0 4)), (3, .sc (.ptr 1 4 0 0 4)), (4, .sc (.ptr 2 4 0 0 4)), (5, .sc (.ptr 3 4 0 0 4)), (6, .sc (.ptr 4 6 0 0 6))]
def montH (fa fb fr ft : Nat → Int) : Heap := [some (.ints .u64 4 1 (fun _ d => fa d)), some (.ints .u64 4 1 (fun _ d => fb d)), some (.ints .u64 4 1 (fun _ d => fr d)), some (.ints .u64 4 1 (fun _ d => limbs4 ordL d)), some (.ints .u64 6 1 (fun _ d => ft d))]
def montS (k : Nat) (fa fb fr ft : Nat → Int) : St := ⟨tmOf ((14, .sc (.int .i64 (k : Int))) :: montT) 101 0, montH fa fb fr ft⟩
abbrev mE : EnvP := envP tt ts9 []
noncomputable def mRun (k : Nat) (fa fb fr ft : Nat → Int) : Option (Ex × PS) := ap mE [] 20 montB ⟨true, montS k fa fb fr ft⟩
theorem m_c (fa fb fr ft : Nat → Int) (k : Nat) (hk : k < 4) : exP (mRun k fa fb fr ft) = some .normal ∧ (stP (mRun k fa fb fr ft)).ck = ckL (iterCk (fa k) fb ft) ∧ cells 6 (stP (mRun k fa fb fr ft)) 4 = iter (fa k) fb ft ∧
    cells 4 (stP (mRun k fa fb fr ft)) 0 = [fa 0, fa 1, fa 2, fa 3] ∧ cells 4 (stP (mRun k fa fb fr ft)) 1 = [fb 0, fb 1, fb 2, fb 3] ∧ cells 4 (stP (mRun k fa fb fr ft)) 2 = [fr 0, fr 1, fr 2, fr 3] ∧
    cells 4 (stP (mRun k fa fb fr ft)) 3 = [limbs4 ordL 0, limbs4 ordL 1, limbs4 ordL 2, limbs4 ordL 3] ∧ getA (stP (mRun k fa fb fr ft)).st.tm 14 = .sc (.int .i64 ((k + 1 : Nat) : Int)) ∧ (stP (mRun k fa fb fr ft)).st.tm.length = 101 := by
  match k, hk with
  | 0, _ => exact ⟨by kernel_rfl, by kernel_rfl, by kernel_rfl, by kernel_rfl, by kernel_rfl, by kernel_rfl, by kernel_rfl, by kernel_rfl, by kernel_rfl⟩
  | 1, _ => exact ⟨by kernel_rfl, by kernel_rfl, by kernel_rfl, by kernel_rfl, by kernel_rfl, by kernel_rfl, by kernel_rfl, by kernel_rfl, by kernel_rfl⟩
  | 2, _ => exact ⟨by kernel_rfl, by kernel_rfl, by kernel_rfl, by kernel_rfl, by kernel_rfl, by kernel_rfl, by kernel_rfl, by kernel_rfl, by kernel_rfl⟩
  | 3, _ => exact ⟨by kernel_rfl, by kernel_rfl, by kernel_rfl, by kernel_rfl, by kernel_rfl, by kernel_rfl, by kernel_rfl, by kernel_rfl, by kernel_rfl⟩
def mPlaces (x : PS) : Bool :=
  let p := fun (v : AV) (id sz : Nat) => match v with | .sc (.ptr a b i c e) => Nat.beq a id && (Nat.beq b sz && (Nat.beq i 0 && (Nat.beq c 0 && Nat.beq e sz))) | _ => false
  Nat.ble 5 x.st.hp.length && (p (getA x.st.tm 2) 0 4 && (p (getA x.st.tm 3) 1 4 && (p (getA x.st.tm 4) 2 4 && (p (getA x.st.tm 5) 3 4 && p (getA x.st.tm 6) 4 6))))
def mShape (x : PS) : List (Option (IntKind × (Nat × Nat))) := [AM.shape x 0, AM.shape x 1, AM.shape x 2, AM.shape x 3, AM.shape x 4]
theorem m_p (fa fb fr ft : Nat → Int) (k : Nat) (hk : k < 4) : mPlaces (stP (mRun k fa fb fr ft)) = true ∧ mShape (stP (mRun k fa fb fr ft)) = [some (.u64, 4, 1), some (.u64, 4, 1), some (.u64, 4, 1), some (.u64, 4, 1), some (.u64, 6, 1)] := by
  match k, hk with
  | 0, _ => exact ⟨by kernel_rfl, by kernel_rfl⟩
  | 1, _ => exact ⟨by kernel_rfl, by kernel_rfl⟩
  | 2, _ => exact ⟨by kernel_rfl, by kernel_rfl⟩
  | 3, _ => exact ⟨by kernel_rfl, by kernel_rfl⟩
theorem m_stop (fa fb fr ft : Nat → Int) : exP (mRun 4 fa fb fr ft) = some (.exit 0) ∧ (stP (mRun 4 fa fb fr ft)).ck = true ∧ mPlaces (stP (mRun 4 fa fb fr ft)) = true ∧
    mShape (stP (mRun 4 fa fb fr ft)) = [some (.u64, 4, 1), some (.u64, 4, 1), some (.u64, 4, 1), some (.u64, 4, 1), some (.u64, 6, 1)] ∧ (stP (mRun 4 fa fb fr ft)).st.hp = montH fa fb fr ft := by
  exact ⟨by kernel_rfl, by kernel_rfl, by kernel_rfl, by kernel_rfl, by kernel_rfl⟩
theorem mPlaces_t {x : PS} (h : mPlaces x = true) : 5 ≤ x.st.hp.length ∧ getA x.st.tm 2 = .sc (.ptr 0 4 0 0 4) ∧ getA x.st.tm 3 = .sc (.ptr 1 4 0 0 4) ∧ getA x.st.tm 4 = .sc (.ptr 2 4 0 0 4) ∧ getA x.st.tm 5 = .sc (.ptr 3 4 0 0 4) ∧ getA x.st.tm 6 = .sc (.ptr 4 6 0 0 6) := by
  have q : ∀ (v : AV) (id sz : Nat), (match v with | .sc (.ptr a b i c e) => Nat.beq a id && (Nat.beq b sz && (Nat.beq i 0 && (Nat.beq c 0 && Nat.beq e sz))) | _ => false) = true → v = .sc (.ptr id sz 0 0 sz) := by
    intro v id sz hv
    split at hv
    · simp only [Bool.and_eq_true, beq_t] at hv
      obtain ⟨rfl, rfl, rfl, rfl, rfl⟩ := hv; rfl
    · simp at hv
  simp only [mPlaces, Bool.and_eq_true, ble_t] at h
  obtain ⟨h0, h2, h3, h4, h5, h6⟩ := h
  exact ⟨h0, q _ _ _ h2, q _ _ _ h3, q _ _ _ h4, q _ _ _ h5, q _ _ _ h6⟩
theorem m_next {x : PS} {fa fb fr ft g : Nat → Int} {k : Nat} (hp : mPlaces x = true) (hs : mShape x = [some (.u64, 4, 1), some (.u64, 4, 1), some (.u64, 4, 1), some (.u64, 4, 1), some (.u64, 6, 1)])
    (h0 : cells 4 x 0 = tabL fa 4 0) (h1 : cells 4 x 1 = tabL fb 4 0) (h2 : cells 4 x 2 = tabL fr 4 0) (h3 : cells 4 x 3 = tabL (limbs4 ordL) 4 0) (h4 : cells 6 x 4 = tabL g 6 0)
    (ht : getA x.st.tm 14 = .sc (.int .i64 (k : Int))) (hl : x.st.tm.length = 101) : StLe x.st (montS k fa fb fr g) := by
  obtain ⟨p0, p2, p3, p4, p5, p6⟩ := mPlaces_t hp
  simp only [mShape, List.cons.injEq, and_true] at hs
  obtain ⟨s0, s1, s2, s3, s4⟩ := hs
  refine ⟨tmOf_le (n := 5) hl ?_, p0, fun id c hc => ?_⟩
  · intro p hpm
    simp only [montT, List.mem_cons, List.not_mem_nil, or_false] at hpm
    rcases hpm with rfl | rfl | rfl | rfl | rfl | rfl
    · rw [ht]; exact ALe.sc (SLe.int _ _ _)
    · rw [p2]; exact ALe.sc (SLe.ptr (by omega) _ _ _ _)
    · rw [p3]; exact ALe.sc (SLe.ptr (by omega) _ _ _ _)
    · rw [p4]; exact ALe.sc (SLe.ptr (by omega) _ _ _ _)
    · rw [p5]; exact ALe.sc (SLe.ptr (by omega) _ _ _ _)
    · rw [p6]; exact ALe.sc (SLe.ptr (by omega) _ _ _ _)
  · match id with
    | 0 => simp only [montS, montH, List.getElem?_cons_zero, Option.some.injEq] at hc; subst hc; exact cells_ble s0 h0
    | 1 => simp only [montS, montH, List.getElem?_cons_succ, List.getElem?_cons_zero, Option.some.injEq] at hc; subst hc; exact cells_ble s1 h1
    | 2 => simp only [montS, montH, List.getElem?_cons_succ, List.getElem?_cons_zero, Option.some.injEq] at hc; subst hc; exact cells_ble s2 h2
    | 3 => simp only [montS, montH, List.getElem?_cons_succ, List.getElem?_cons_zero, Option.some.injEq] at hc; subst hc; exact cells_ble s3 h3
    | 4 => simp only [montS, montH, List.getElem?_cons_succ, List.getElem?_cons_zero, Option.some.injEq] at hc; subst hc; exact cells_ble s4 h4
    | n + 5 => simp [montS, montH] at hc
theorem inU4_at {f : Nat → Int} (h : inU4 f = true) : ∀ k, k < 4 → 0 ≤ f k ∧ f k < 18446744073709551616
  | 0, _ => (inU4_t h).1
  | 1, _ => (inU4_t h).2.1
  | 2, _ => (inU4_t h).2.2.1
  | 3, _ => (inU4_t h).2.2.2
  | n + 4, h => by omega
theorem m_am {fa fb fr ft : Nat → Int} {k : Nat} {e : Ex} (he : exP (mRun k fa fb fr ft) = some e) (hck : (stP (mRun k fa fb fr ft)).ck = true) : am mE.env 20 montB (montS k fa fb fr ft) = some (e, (stP (mRun k fa fb fr ft)).st) := by
  unfold mRun at *
  exact am_of_ap he hck
theorem m_step (fa fb fr ft : Nat → Int) (k : Nat) (hk : k < 4) (ha : inU4 fa = true) (hb : inU4 fb = true) (ht : inU5 ft = true) :
    ∃ s1, am mE.env 20 montB (montS k fa fb fr ft) = some (.normal, s1) ∧ StLe s1 (montS (k + 1) fa fb fr (lf (iter (fa k) fb ft))) := by
  have hk' := inU4_at ha k hk
  have hc := iterCk_law hk' hb ht
  obtain ⟨e1, e2, e3, e4, e5, e6, e7, e8, e9⟩ := m_c fa fb fr ft k hk
  obtain ⟨q1, q2⟩ := m_p fa fb fr ft k hk
  generalize hx : mRun k fa fb fr ft = x at *
  rw [hc] at e2
  have := m_am (k := k) (fa := fa) (fb := fb) (fr := fr) (ft := ft) (e := .normal) (by rw [hx]; exact e1) (by rw [hx]; exact e2)
  rw [hx] at this
  refine ⟨_, this, m_next (ft := ft) q1 q2 e4 e5 e6 e7 ?_ e8 e9⟩
  rw [e3]; rfl
end Go.Proofs.YtbogcehngfjlkabGreat
namespace Go.Proofs.YtbogcehngfjlkabGreat
open Go.Proofs.Tryz
open Go Go.AM
def isP (v : AV) (id sz : Nat) : Bool := match v with | .sc (.ptr a b i c e) => Nat.beq a id && (Nat.beq b sz && (Nat.beq i 0 && (Nat.beq c 0 && Nat.beq e sz))) | _ => false
def isI (v : AV) (n : Int) : Bool := match v with | .sc (.int .i64 x) => decide (x = n) | _ => false
def isB4 (k : IntKind) (s n sz : Nat) : Bool := kEq k .u64 && (Nat.beq s sz && Nat.beq n 1)
def montF : LF := fun s => match s.hp with
  | [some (.ints k0 s0 n0 fa), some (.ints k1 s1 n1 fb), some (.ints k2 s2 n2 fr), some (.ints k3 s3 n3 fo), some (.ints k4 s4 n4 ft)] =>
    some ((isB4 k0 s0 n0 4 && (isB4 k1 s1 n1 4 && (isB4 k2 s2 n2 4 && (isB4 k3 s3 n3 4 && isB4 k4 s4 n4 6)))) &&
      ((isP (getA s.tm 2) 0 4 && (isP (getA s.tm 3) 1 4 && (isP (getA s.tm 4) 2 4 && (isP (getA s.tm 5) 3 4 && isP (getA s.tm 6) 4 6)))) &&
      (isI (getA s.tm 14) 0 && (Nat.beq s.tm.length 101 && (eqN 4 (fo 0) (limbs4 ordL) && (eqN 6 (ft 0) (lf [0, 0, 0, 0, 0, 0]) && (inU4 (fa 0) && inU4 (fb 0))))))),
      (.normal, ⟨tmOf montT 101 0, montH (fa 0) (fb 0) (fr 0) (lf (tK (fa 0) (fb 0) 4))⟩))
  | _ => none
theorem mb : f_scalar_mont.body.map (bodiesOf 0) = some [.loop montB] := by kernel_rfl
theorem mok : codeOK prog mE.env.isW montB = true := by kernel_rfl
theorem isP_t {v : AV} {id sz : Nat} (h : isP v id sz = true) : v = .sc (.ptr id sz 0 0 sz) := by
  unfold isP at h
  split at h
  · simp only [Bool.and_eq_true, beq_t] at h
    obtain ⟨rfl, rfl, rfl, rfl, rfl⟩ := h; rfl
  · simp at h
theorem isI_t {v : AV} {n : Int} (h : isI v n = true) : v = .sc (.int .i64 n) := by
  unfold isI at h
  split at h
  · rw [dec_t.1 h]
  · simp at h
theorem isB4_t {k : IntKind} {s n sz : Nat} (h : isB4 k s n sz = true) : k = .u64 ∧ s = sz ∧ n = 1 := by
  simpa only [isB4, Bool.and_eq_true, kEq_t, beq_t] using h
theorem eqN_t_mont2 {n : Nat} {f g : Nat → Int} (h : eqN n f g = true) : ∀ c, c < n → f c = g c := fun c hc => by
  have := List.all_eq_true.1 h c (by simpa using hc)
  simpa using this
theorem l_mont_body : ∀ c, f_scalar_mont.body = some c → ∀ b ∈ bodiesOf 0 c, b = .loop montB := by
  intro c hc b hb
  have := mb
  rw [hc] at this
  simp only [Option.map_some, Option.some.injEq] at this
  rw [this] at hb
  simpa using hb
theorem tK_U {a b : Nat → Int} (ha : inU4 a = true) (hb : inU4 b = true) : ∀ k, k ≤ 4 → inU5 (lf (tK a b k)) = true
  | 0, _ => rfl
  | k + 1, hk => by
    obtain ⟨m, _, _, _, h⟩ := iter_law (inU4_at ha k (by omega)) hb (tK_U ha hb k (by omega))
    exact h
theorem m_len (fa fb fr ft : Nat → Int) : (stP (mRun 4 fa fb fr ft)).st.tm.length = 101 := by kernel_rfl
theorem m_end (fa fb fr ft : Nat → Int) : ∃ s1, am mE.env 20 montB (montS 4 fa fb fr ft) = some (.exit 0, s1) ∧ StLe s1 ⟨tmOf montT 101 0, montH fa fb fr ft⟩ := by
  obtain ⟨e1, e2, e3, _, e5⟩ := m_stop fa fb fr ft
  have el := m_len fa fb fr ft
  have ha := m_am (k := 4) e1 e2
  generalize stP (mRun 4 fa fb fr ft) = x at *
  obtain ⟨p0, p2, p3, p4, p5, p6⟩ := mPlaces_t e3
  refine ⟨_, ha, tmOf_le (n := 5) el ?_, by rw [e5]; exact Nat.le_refl _, fun id c hc => ?_⟩
  · intro p hpm
    simp only [montT, List.mem_cons, List.not_mem_nil, or_false] at hpm
    rcases hpm with rfl | rfl | rfl | rfl | rfl
    · rw [p2]; exact ALe.sc (SLe.ptr (by omega) _ _ _ _)
    · rw [p3]; exact ALe.sc (SLe.ptr (by omega) _ _ _ _)
    · rw [p4]; exact ALe.sc (SLe.ptr (by omega) _ _ _ _)
    · rw [p5]; exact ALe.sc (SLe.ptr (by omega) _ _ _ _)
    · rw [p6]; exact ALe.sc (SLe.ptr (by omega) _ _ _ _)
  · rw [e5]
    refine ⟨c, hc, ?_⟩
    match id with
    | 0 => simp only [montH, List.getElem?_cons_zero, Option.some.injEq] at hc; subst hc; exact BLe.ints fun _ _ _ _ => rfl
    | 1 => simp only [montH, List.getElem?_cons_succ, List.getElem?_cons_zero, Option.some.injEq] at hc; subst hc; exact BLe.ints fun _ _ _ _ => rfl
    | 2 => simp only [montH, List.getElem?_cons_succ, List.getElem?_cons_zero, Option.some.injEq] at hc; subst hc; exact BLe.ints fun _ _ _ _ => rfl
    | 3 => simp only [montH, List.getElem?_cons_succ, List.getElem?_cons_zero, Option.some.injEq] at hc; subst hc; exact BLe.ints fun _ _ _ _ => rfl
    | 4 => simp only [montH, List.getElem?_cons_succ, List.getElem?_cons_zero, Option.some.injEq] at hc; subst hc; exact BLe.ints fun _ _ _ _ => rfl
    | n + 5 => simp [montH] at hc
theorem l_mont : LRow prog f_scalar_mont 0 montF := by
  refine LRow.loop (L9.env []) mix (N := 20) (body := montB) l_mont_body mok (fun w0 own0 => accOK_none (fun id => rfl) montB) ?_
  intro s e s' h
  unfold montF at h
  split at h
  case h_2 => simp at h
  rename_i k0 s0 n0 fa k1 s1 n1 fb k2 s2 n2 fr k3 s3 n3 fo k4 s4 n4 ft hh
  simp only [Option.some.injEq, Prod.mk.injEq, Bool.and_eq_true, beq_t] at h
  obtain ⟨⟨⟨b0, b1, b2, b3, b4⟩, ⟨p2, p3, p4, p5, p6⟩, i14, hl, ho, ht, ha, hb⟩, rfl, rfl⟩ := h
  obtain ⟨rfl, rfl, rfl⟩ := isB4_t b0
  obtain ⟨rfl, rfl, rfl⟩ := isB4_t b1
  obtain ⟨rfl, rfl, rfl⟩ := isB4_t b2
  obtain ⟨rfl, rfl, rfl⟩ := isB4_t b3
  obtain ⟨rfl, rfl, rfl⟩ := isB4_t b4
  have ho := eqN_t_mont2 ho
  have ht := eqN_t_mont2 ht
  refine ⟨rfl, fun i hi => ?_, fun k => montS k (fa 0) (fb 0) (fr 0) (lf (tK (fa 0) (fb 0) k)), 4, ?_, by rw [hh]; rfl, fun _ _ => rfl, Nat.le_refl _, fun k hk => ?_, ?_⟩
  · rw [hh] at hi
    match i, hi with
    | 0, hi => simp at hi
    | 1, hi => simp at hi
    | 2, hi => simp at hi
    | 3, hi => simp at hi
    | 4, hi => simp at hi
    | n + 5, hi => simp at hi
  · refine ⟨tmOf_le (n := 5) hl ?_, by rw [hh]; exact Nat.le_refl _, fun id c hc => ?_⟩
    · intro p hpm
      simp only [montT, List.mem_cons, List.not_mem_nil, or_false] at hpm
      rcases hpm with rfl | rfl | rfl | rfl | rfl | rfl
      · rw [isI_t i14]; exact ALe.sc (SLe.int _ _ _)
      · rw [isP_t p2]; exact ALe.sc (SLe.ptr (by omega) _ _ _ _)
      · rw [isP_t p3]; exact ALe.sc (SLe.ptr (by omega) _ _ _ _)
      · rw [isP_t p4]; exact ALe.sc (SLe.ptr (by omega) _ _ _ _)
      · rw [isP_t p5]; exact ALe.sc (SLe.ptr (by omega) _ _ _ _)
      · rw [isP_t p6]; exact ALe.sc (SLe.ptr (by omega) _ _ _ _)
    · rw [hh]
      match id with
      | 0 => simp only [montS, montH, List.getElem?_cons_zero, Option.some.injEq] at hc; subst hc; exact ⟨_, rfl, BLe.ints fun r hr d hd => by obtain rfl : r = 0 := (by omega); rfl⟩
      | 1 => simp only [montS, montH, List.getElem?_cons_succ, List.getElem?_cons_zero, Option.some.injEq] at hc; subst hc; exact ⟨_, rfl, BLe.ints fun r hr d hd => by obtain rfl : r = 0 := (by omega); rfl⟩
      | 2 => simp only [montS, montH, List.getElem?_cons_succ, List.getElem?_cons_zero, Option.some.injEq] at hc; subst hc; exact ⟨_, rfl, BLe.ints fun r hr d hd => by obtain rfl : r = 0 := (by omega); rfl⟩
      | 3 => simp only [montS, montH, List.getElem?_cons_succ, List.getElem?_cons_zero, Option.some.injEq] at hc; subst hc; exact ⟨_, rfl, BLe.ints fun r hr d hd => by obtain rfl : r = 0 := (by omega); exact ho d hd⟩
      | 4 => simp only [montS, montH, List.getElem?_cons_succ, List.getElem?_cons_zero, Option.some.injEq] at hc; subst hc; exact ⟨_, rfl, BLe.ints fun r hr d hd => by obtain rfl : r = 0 := (by omega); exact ht d hd⟩
      | n + 5 => simp [montS, montH] at hc
  · exact m_step (fa 0) (fb 0) (fr 0) (lf (tK (fa 0) (fb 0) k)) k hk ha hb (tK_U ha hb k (by omega))
  · exact m_end _ _ _ _
end Go.Proofs.YtbogcehngfjlkabGreat
namespace Go.Proofs.YtbogcehngfjlkabGreat
open Go.Proofs.Tryz
open Go Go.AM
theorem c_mont : fnChk prog (envL tt ts9 [] [(0, montF)]) f_scalar_mont = true := by kernel_rfl
theorem k_mont (a b : Nat → Int) : ((outP (apFunc (envL tt ts9 [] [(0, montF)]) [] 50 f_scalar_mont [u4 a, u4 b] [])).map (·.2)) = some (n4 (low (val4 (lf [lf (tK a b 4) 0, lf (tK a b 4) 1, lf (tK a b 4) 2, lf (tK a b 4) 3])))) := by kernel_rfl
theorem ck_mont (a b : Nat → Int) : ((outP (apFunc (envL tt ts9 [] [(0, montF)]) [] 50 f_scalar_mont [u4 a, u4 b] [])).map (·.1)) = some (ckL [inU4 a && inU4 b, inU4 (lf [lf (tK a b 4) 0, lf (tK a b 4) 1, lf (tK a b 4) 2, lf (tK a b 4) 3])]) := by kernel_rfl
def tMont : TF := fun args => match args with
  | [.agg [.ints .u64 4 a], .agg [.ints .u64 4 b]] => some (inU4 a && (inU4 b && decide (val4 a * val4 b < ordL * 115792089237316195423570985008687907853269984665640564039457584007913129639936)), n4 (val4 a * val4 b * rInv % ordL))
  | _ => none
theorem r_mont : TRow prog F_scalar_mont tMont := by
  intro args r h
  unfold tMont at h
  split at h
  case h_2 => simp at h
  rename_i a b
  simp only [Option.some.injEq, Prod.mk.injEq, Bool.and_eq_true, decide_eq_true_eq] at h
  obtain ⟨⟨ha, hb, hlt⟩, rfl⟩ := h
  refine pure_of_outL L9 at_scalar_mont (LsOK.nil.cons l_mont) c_mont (N := 50) (gs := []) ?_
  have e := both (ck_mont a b) (k_mont a b)
  simp only [u4] at e
  rw [e]
  have hU := tK_U ha hb 4 (by omega)
  have h4 : inU4 (lf [lf (tK a b 4) 0, lf (tK a b 4) 1, lf (tK a b 4) 2, lf (tK a b 4) 3]) = true := by
    simp only [inU5, Bool.and_eq_true] at hU
    simp only [inU4, lf, hU, Bool.and_self]
  have hv : low (val4 (lf [lf (tK a b 4) 0, lf (tK a b 4) 1, lf (tK a b 4) 2, lf (tK a b 4) 3])) = val4 a * val4 b * rInv % ordL := mont_law ha hb hlt
  rw [hv]
  simp [ckL, ha, hb, h4]
end Go.Proofs.YtbogcehngfjlkabGreat
namespace Go.Proofs.YtbogcehngfjlkabGreat
open Go.Proofs.Tryz
open Go Go.AM
def pc (f : Nat → Nat → Int) (at_ n : Nat) : Nat → Int := fun c => bif Nat.ble (c + 1) n then f (at_ + c) 0 else 0
end Go.Proofs.YtbogcehngfjlkabGreat
namespace Go.Proofs.YtbogcehngfjlkabGreat
open Go.Proofs.Tryz
open Go Go.AM
noncomputable abbrev pE : EnvP := envP tt [] []
def big (n : Nat) : Bool := Nat.ble n 4611686018427387904
theorem body_of {fn : Func} {id : Nat} {B : Code} (h : fn.body.map (bodiesOf id) = some [.loop B]) : ∀ c, fn.body = some c → ∀ b ∈ bodiesOf id c, b = .loop B := by
  intro c hc b hb
  rw [hc] at h
  simp only [Option.map_some, Option.some.injEq] at h
  rw [h] at hb
  simpa using hb
theorem wr_small {x : Int} (h0 : 0 ≤ x) (h1 : x < 9223372036854775808) : wr .i64 x = x := by
  show IntKind.i64.wrap x = x
  rw [IntKind.wrap_i64]; omega
theorem inR_nat {k n : Nat} (h : k < n) : inR k n = true := by simp [inR]; omega
end Go.Proofs.YtbogcehngfjlkabGreat
namespace Go.Proofs.YtbogcehngfjlkabGreat
open Go.Proofs.Tryz
open Go Go.AM
def tTwice : TF := fun args => match args with
  | [.agg [.ints .u32 8 a], .sc (.int .u32 b)] => some (inW8 a && (decide (0 ≤ b) && (decide (b ≤ 1) && decide (val8 a < ordL))), n8 (2 * val8 a + b))
  | _ => none
theorem c_twice : fnChk prog pE f_rimeref02_twice = true := by kernel_rfl
theorem k_twice (a : Nat → Int) (b : Int) : outP (apFunc pE [] 10 f_rimeref02_twice [u8w a, .sc (.int .u32 b)] []) = some (true, u8w (lf (twiceL a b))) := by kernel_rfl
theorem r_twice : TRow prog F_rimeref02_twice tTwice := by
  intro args r h
  unfold tTwice at h
  split at h
  case h_2 => simp at h
  rename_i a b
  simp only [Option.some.injEq, Prod.mk.injEq, Bool.and_eq_true, decide_eq_true_eq] at h
  obtain ⟨⟨ha, hb0, hb1, hl⟩, rfl⟩ := h
  refine pure_of_out L0 at_rimeref02_twice c_twice (N := 10) (gs := []) ?_
  have := k_twice a b
  rw [twice_law ha ⟨hb0, hb1⟩ hl] at this
  exact this
def tMinus : TF := fun args => match args with
  | [.agg [.ints .u32 8 a], .agg [.ints .u32 8 b]] => some (inW8 a && (inW8 b && decide (val8 b ≤ val8 a)), n8 (val8 a - val8 b))
  | _ => none
theorem c_minus : fnChk prog pE f_rimeref02_minus = true := by kernel_rfl
theorem k_minus (a b : Nat → Int) : outP (apFunc pE [] 10 f_rimeref02_minus [u8w a, u8w b] []) = some (true, u8w (lf (minL a b))) := by kernel_rfl
theorem r_minus : TRow prog F_rimeref02_minus tMinus := by
  intro args r h
  unfold tMinus at h
  split at h
  case h_2 => simp at h
  rename_i a b
  simp only [Option.some.injEq, Prod.mk.injEq, Bool.and_eq_true, decide_eq_true_eq] at h
  obtain ⟨⟨ha, hb, hl⟩, rfl⟩ := h
  refine pure_of_out L0 at_rimeref02_minus c_minus (N := 10) (gs := []) ?_
  have := k_minus a b
  rw [min_law ha hb hl] at this
  exact this
noncomputable def blB : Code := match f_rimeref02_below.body with | some c => (match bodiesOf 0 c with | [.loop b] => b | _ => .skip) | none => .skip
def blH (a b : Nat → Int) : Heap := [some (.ints .u32 8 1 (fun _ d => a d)), some (.ints .u32 8 1 (fun _ d => b d))]
def blV (p : (Nat → Int) × (Nat → Int)) (v : Int) : St := ⟨tmOf [(2, .sc (.ptr 0 8 0 0 8)), (3, .sc (.ptr 1 8 0 0 8)), (5, .sc (.int .i64 v))] 24 0, blH p.1 p.2⟩
def blS (p : (Nat → Int) × (Nat → Int)) (k : Nat) : St := blV p (7 - (k : Int))
def blRd (s : St) : Option ((Nat → Int) × (Nat → Int)) := match s.hp with
  | [some (.ints _ _ _ a), some (.ints _ _ _ b)] => some (a 0, b 0)
  | _ => none
theorem bl_round (p : (Nat → Int) × (Nat → Int)) (v : Int) : roundB pE [(7, true), (16, false)] 5 blB (blV p v) .normal (blV p (v - 1)) =
    some (ckL [decide (v ≥ 0) == true, inR v 8, inR v 8, (p.1 (0 + v.toNat * 1) != p.2 (0 + v.toNat * 1)) == false] && stB (blV p (wr .i64 (v - 1))) (blV p (v - 1))) := by kernel_rfl
theorem bl_same (p : (Nat → Int) × (Nat → Int)) (v : Int) : stB (blV p v) (blV p v) = true := by
  simp [stB, blV, blH, tmOf, tmB, avB, svB, hpB, blkB, eqF_refl, kEq]
def blT1 (p : (Nat → Int) × (Nat → Int)) : St := ⟨tmOf [] 24 0, blH p.1 p.2⟩
def blT2 (p : (Nat → Int) × (Nat → Int)) (r : Bool) : St := ⟨tmOf [(4, .sc (.bool r))] 24 0, blH p.1 p.2⟩
theorem bl_stop1 (p : (Nat → Int) × (Nat → Int)) : roundB pE [] 5 blB (blV p (-1)) (.exit 0) (blT1 p) = some (true && stB (blT1 p) (blT1 p)) := by kernel_rfl
theorem bl_stop2 (p : (Nat → Int) × (Nat → Int)) (v : Int) (r : Bool) : roundB pE [(7, true), (16, true)] 5 blB (blV p v) .ret (blT2 p r) =
    some (ckL [decide (v ≥ 0) == true, inR v 8, inR v 8, (p.1 (0 + v.toNat * 1) != p.2 (0 + v.toNat * 1)) == true, inR v 8, inR v 8] && stB (blT2 p (decide (p.1 (0 + v.toNat * 1) < p.2 (0 + v.toNat * 1)))) (blT2 p r)) := by kernel_rfl
def blF1 : LF := famF blRd blS (fun p => Nat.beq (alike p.1 p.2 8 0) 8) (fun _ => .normal) blT1
def blF2 : LF := famF blRd blS (fun p => Nat.ble (alike p.1 p.2 8 0 + 1) 8) (fun _ => .ret) (fun p => blT2 p (decide (p.1 (7 - alike p.1 p.2 8 0) < p.2 (7 - alike p.1 p.2 8 0))))
theorem bl_body : f_rimeref02_below.body.map (bodiesOf 0) = some [.loop blB] := by kernel_rfl
theorem bl_ok : codeOK prog pE.env.isW blB = true := by kernel_rfl
theorem bl_rd {s : St} {p : (Nat → Int) × (Nat → Int)} (h : blRd s = some p) : ∃ k sz n f k' sz' n' g, s.hp = [some (.ints k sz n f), some (.ints k' sz' n' g)] := by
  unfold blRd at h
  split at h
  · rename_i hh; exact ⟨_, _, _, _, _, _, _, _, hh⟩
  · simp at h
theorem bl_hp {s : St} {p : (Nat → Int) × (Nat → Int)} (h : blRd s = some p) : (blS p 0).hp.length = s.hp.length ∧ ∀ (i : Nat) (t : Heap), s.hp[i]? = some none → t[i]? = some none := by
  obtain ⟨k, sz, n, f, k', sz', n', g, hh⟩ := bl_rd h
  refine ⟨by rw [hh]; rfl, fun i t hi => ?_⟩
  rw [hh] at hi
  match i, hi with
  | 0, hi => simp at hi
  | 1, hi => simp at hi
  | n + 2, hi => simp at hi
theorem bl_step (p : (Nat → Int) × (Nat → Int)) (k : Nat) (hk : k < 8) (he : p.1 (7 - k) = p.2 (7 - k)) : ∃ s1, am pE.env 5 blB (blS p k) = some (.normal, s1) ∧ StLe s1 (blS p (k + 1)) := by
  have e0 : (7 - ((k + 1 : Nat) : Int)) = 7 - (k : Int) - 1 := by omega
  unfold blS
  rw [e0]
  refine roundB_spec (bl_round p (7 - (k : Int))) ?_
  have e : wr .i64 (7 - (k : Int) - 1) = 7 - (k : Int) - 1 := by
    show IntKind.i64.wrap _ = _
    rw [IntKind.wrap_i64]; omega
  have et : 0 + (7 - (k : Int)).toNat * 1 = 7 - k := by omega
  rw [e, bl_same, et, he]
  simp [ckL, inR]; omega
theorem l_bl1 : LRow prog f_rimeref02_below 0 blF1 := by
  refine LRow.fam (N := 5) (L0.env []) mix (fun _ => 8) (body_of bl_body) bl_ok (fun w0 own0 => accOK_none (fun id => rfl) blB) (fun s a h => ⟨(bl_hp h).1, fun i hi => (bl_hp h).2 i _ hi⟩) (fun _ _ => rfl) (fun _ => Nat.le_refl _) ?_ ?_
  · intro p hp k hk
    have hp := Nat.eq_of_beq_eq_true hp
    obtain ⟨h1, h2, h3, h4⟩ := alike_spec p.1 p.2 8 0
    exact bl_step p k hk (h3 k (Nat.zero_le _) (by omega))
  · intro p hp
    obtain ⟨s1, h1, h2⟩ := roundB_spec (bl_stop1 p) (by simp [stB, blT1, blH, tmOf, tmB, avB, hpB, blkB, eqF_refl, kEq])
    exact ⟨_, s1, h1, rfl, h2⟩
theorem l_bl2 : LRow prog f_rimeref02_below 0 blF2 := by
  refine LRow.fam (N := 5) (L0.env []) mix (fun p => alike p.1 p.2 8 0) (body_of bl_body) bl_ok (fun w0 own0 => accOK_none (fun id => rfl) blB) (fun s a h => ⟨(bl_hp h).1, fun i hi => (bl_hp h).2 i _ hi⟩) (fun _ _ => rfl) (fun _ => Nat.le_refl _) ?_ ?_
  · intro p hp k hk
    have hp := Nat.le_of_ble_eq_true hp
    obtain ⟨h1, h2, h3, h4⟩ := alike_spec p.1 p.2 8 0
    exact bl_step p k (by omega) (h3 k (Nat.zero_le _) hk)
  · intro p hp
    have hp := Nat.le_of_ble_eq_true hp
    obtain ⟨h1, h2, h3, h4⟩ := alike_spec p.1 p.2 8 0
    have hne := h4 (by omega)
    have et : 0 + (7 - ((alike p.1 p.2 8 0 : Nat) : Int)).toNat * 1 = 7 - alike p.1 p.2 8 0 := by omega
    obtain ⟨s1, q1, q2⟩ := roundB_spec (bl_stop2 p (7 - (alike p.1 p.2 8 0 : Int)) (decide (p.1 (7 - alike p.1 p.2 8 0) < p.2 (7 - alike p.1 p.2 8 0)))) (by
      rw [et]
      have hs : stB (blT2 p (decide (p.1 (7 - alike p.1 p.2 8 0) < p.2 (7 - alike p.1 p.2 8 0)))) (blT2 p (decide (p.1 (7 - alike p.1 p.2 8 0) < p.2 (7 - alike p.1 p.2 8 0)))) = true := by
        simp [stB, blT2, blH, tmOf, tmB, avB, svB, hpB, blkB, eqF_refl, kEq]
      rw [hs]
      simp [ckL, inR, hne]; omega)
    exact ⟨_, s1, q1, rfl, q2⟩
def tBelow : TF := fun args => match args with
  | [.agg [.ints .u32 8 a], .agg [.ints .u32 8 b]] => some (inW8 a && inW8 b, .sc (.bool (decide (val8 a < val8 b))))
  | _ => none
def blI (p : (Nat → Int) × (Nat → Int)) : St := ⟨tmOf [(2, .sc (.ptr 0 8 0 0 8)), (3, .sc (.ptr 1 8 0 0 8)), (5, .sc (.int .i64 7))] 24 0, blH p.1 p.2⟩
theorem c_below1 : fnChk prog (envL tt [] [] [(0, blF1)]) f_rimeref02_below = true := by kernel_rfl
theorem c_below2 : fnChk prog (envL tt [] [] [(0, blF2)]) f_rimeref02_below = true := by kernel_rfl
theorem k_below1 (a b : Nat → Int) : outP (apFunc (envL tt [] [] [(0, blF1)]) [] 5 f_rimeref02_below [u8w a, u8w b] []) =
    some (ckL [Nat.beq (alike a b 8 0) 8 && stB (blI (a, b)) (blS (a, b) 0)], .sc (.bool false)) := by kernel_rfl
theorem k_below2 (a b : Nat → Int) : outP (apFunc (envL tt [] [] [(0, blF2)]) [] 5 f_rimeref02_below [u8w a, u8w b] []) =
    some (ckL [Nat.ble (alike a b 8 0 + 1) 8 && stB (blI (a, b)) (blS (a, b) 0)], .sc (.bool (decide (a (7 - alike a b 8 0) < b (7 - alike a b 8 0))))) := by kernel_rfl
theorem r_below : TRow prog F_rimeref02_below tBelow := by
  intro args r h
  unfold tBelow at h
  split at h
  case h_2 => simp at h
  rename_i a b
  simp only [Option.some.injEq, Prod.mk.injEq, Bool.and_eq_true] at h
  obtain ⟨⟨ha, hb⟩, rfl⟩ := h
  obtain ⟨q1, q2⟩ := below_law ha hb
  have hs : stB (blI (a, b)) (blS (a, b) 0) = true := bl_same (a, b) 7
  obtain ⟨h1, h2, _, _⟩ := alike_spec a b 8 0
  by_cases e : alike a b 8 0 = 8
  · rw [q1 e]
    refine pure_of_outL L0 at_rimeref02_below (LsOK.nil.cons l_bl1) c_below1 (N := 5) (gs := []) ?_
    have := k_below1 a b
    rw [e, hs] at this
    exact this
  · rw [(q2 (by omega)).1]
    refine pure_of_outL L0 at_rimeref02_below (LsOK.nil.cons l_bl2) c_below2 (N := 5) (gs := []) ?_
    have := k_below2 a b
    rw [hs, show Nat.ble (alike a b 8 0 + 1) 8 = true from Nat.ble_eq_true_of_le (by omega)] at this
    exact this
def tOrder2 : TF := fun args => match args with
  | [] => some (true, n8 ordL)
  | _ => none
theorem c_order2 : fnChk prog pE f_rimeref02_Order = true := by kernel_rfl
theorem r_order2 : TRow prog F_rimeref02_Order tOrder2 := by
  intro args r h
  unfold tOrder2 at h
  split at h
  case h_2 => simp at h
  simp only [Option.some.injEq, Prod.mk.injEq, true_and] at h
  subst h
  exact pure_of_out L0 at_rimeref02_Order c_order2 (N := 5) (gs := []) (by kernel_rfl)
def rs1 : List (Nat × TF) := [(F_rimeref02_Order, tOrder2), (F_rimeref02_below, tBelow), (F_rimeref02_minus, tMinus), (F_rimeref02_twice, tTwice)]
theorem R1 : LibOK prog tt rs1 [] := (((L0.addT r_twice).addT r_minus).addT r_below).addT r_order2
end Go.Proofs.YtbogcehngfjlkabGreat
namespace Go.Proofs.YtbogcehngfjlkabGreat
open Go.Proofs.Tryz
open Go Go.AM
structure MA where
  t : Bool
  n : Nat
  f : Nat → Nat → Int
  i : Nat
  r : Int
noncomputable abbrev qE : EnvP := envP tt rs1 []
noncomputable def miB : Code := match f_rimeref02_mod.body with | some c => (match bodiesOf 2 c with | [.loop b] => b | _ => .skip) | none => .skip
noncomputable def moB : Code := match f_rimeref02_mod.body with | some c => (match bodiesOf 0 c with | [.loop b] => b | _ => .skip) | none => .skip
def mdH (r : Int) : Heap := [some (.ints .u32 8 1 (fun _ _ => 0)), some (.ints .u32 8 1 (fun _ d => limbs8 r d)), some (.ints .u32 8 1 (fun _ d => limbs8 ordL d))]
def mdW (a : MA) (iv v r : Int) : St := ⟨tmOf [(0, .sc (.vints a.t .u32 1 a.n a.f)), (2, .sc (.ptr 0 8 0 0 8)), (3, .sc (.ptr 1 8 0 0 8)), (4, .sc (.ptr 2 8 0 0 8)), (5, .sc (.int .i64 iv)), (6, .sc (.int .i64 v))] 37 0, mdH r⟩
def mdV (a : MA) (v r : Int) : St := mdW a (a.i : Int) v r
def bitOf_mod (d v : Int) : Int := iand .u32 (ishr .u32 d (wr .u64 v)) 1
def twV (r b : Int) : Int := 2 * val8 (limbs8 r) + b
def twCk (r b : Int) : Bool := inW8 (limbs8 r) && (decide (0 ≤ b) && (decide (b ≤ 1) && decide (val8 (limbs8 r) < ordL)))
theorem mi_round1 (a : MA) (v r : Int) : roundB qE [(16, true), (32, false)] 5 miB (mdV a v r) .normal (mdV a (v - 1) (twV r (bitOf_mod (a.f (a.i : Int).toNat 0) v))) =
    some (ckL [decide (v ≥ 0) == true, inR a.i a.n, !decide (wr .u64 v < 0), twCk r (bitOf_mod (a.f (a.i : Int).toNat 0) v), inW8 (limbs8 (twV r (bitOf_mod (a.f (a.i : Int).toNat 0) v))) && inW8 (limbs8 ordL),
        (!decide (val8 (limbs8 (twV r (bitOf_mod (a.f (a.i : Int).toNat 0) v))) < val8 (limbs8 ordL))) == false] &&
      stB (mdV a (wr .i64 (v - 1)) (twV r (bitOf_mod (a.f (a.i : Int).toNat 0) v))) (mdV a (v - 1) (twV r (bitOf_mod (a.f (a.i : Int).toNat 0) v)))) := by kernel_rfl
theorem mi_round2 (a : MA) (v r : Int) : roundB qE [(16, true), (32, true)] 5 miB (mdV a v r) .normal (mdV a (v - 1) (val8 (limbs8 (twV r (bitOf_mod (a.f (a.i : Int).toNat 0) v))) - val8 (limbs8 ordL))) =
    some (ckL [decide (v ≥ 0) == true, inR a.i a.n, !decide (wr .u64 v < 0), twCk r (bitOf_mod (a.f (a.i : Int).toNat 0) v), inW8 (limbs8 (twV r (bitOf_mod (a.f (a.i : Int).toNat 0) v))) && inW8 (limbs8 ordL),
        (!decide (val8 (limbs8 (twV r (bitOf_mod (a.f (a.i : Int).toNat 0) v))) < val8 (limbs8 ordL))) == true,
        inW8 (limbs8 (twV r (bitOf_mod (a.f (a.i : Int).toNat 0) v))) && (inW8 (limbs8 ordL) && decide (val8 (limbs8 ordL) ≤ val8 (limbs8 (twV r (bitOf_mod (a.f (a.i : Int).toNat 0) v)))))] &&
      stB (mdV a (wr .i64 (v - 1)) (val8 (limbs8 (twV r (bitOf_mod (a.f (a.i : Int).toNat 0) v))) - val8 (limbs8 ordL))) (mdV a (v - 1) (val8 (limbs8 (twV r (bitOf_mod (a.f (a.i : Int).toNat 0) v))) - val8 (limbs8 ordL)))) := by kernel_rfl
theorem md_same (a : MA) (v r : Int) : stB (mdV a v r) (mdV a v r) = true := by
  simp [stB, mdV, mdW, mdH, tmOf, tmB, avB, svB, hpB, blkB, eqF_refl, kEq]
def miT (a : MA) (r : Int) : St := ⟨tmOf [(0, .sc (.vints a.t .u32 1 a.n a.f)), (2, .sc (.ptr 0 8 0 0 8)), (3, .sc (.ptr 1 8 0 0 8)), (4, .sc (.ptr 2 8 0 0 8)), (5, .sc (.int .i64 (a.i : Int)))] 37 0, mdH r⟩
theorem mi_stop (a : MA) (r : Int) : roundB qE [] 5 miB (mdV a (-1) r) (.exit 2) (miT a r) = some (true && stB (miT a r) (miT a r)) := by kernel_rfl
theorem miT_same (a : MA) (r : Int) : stB (miT a r) (miT a r) = true := by
  simp [stB, miT, mdH, tmOf, tmB, avB, svB, hpB, blkB, eqF_refl, kEq]
def miD (a : MA) : Int := a.f a.i 0
def miS (a : MA) (k : Nat) : St := mdV a (31 - (k : Int)) (rK a.r (miD a) k)
def miRd (s : St) : Option MA := match getA s.tm 0, getA s.tm 5, s.hp with
  | .sc (.vints t _ _ n f), .sc (.int _ i), [some (.ints ..), some (.ints _ _ _ g), some (.ints ..)] => some ⟨t, n, f, i.toNat, val8 (g 0)⟩
  | _, _, _ => none
def miCk (a : MA) : Bool := Nat.ble (a.i + 1) a.n && (in32 (miD a) && (decide (0 ≤ a.r) && decide (a.r < ordL)))
def miF : LF := famF miRd miS miCk (fun _ => .normal) (fun a => miT a (rK a.r (miD a) 32))
theorem mi_body : f_rimeref02_mod.body.map (bodiesOf 2) = some [.loop miB] := by kernel_rfl
theorem mi_ok : codeOK prog qE.env.isW miB = true := by kernel_rfl
theorem mi_hp {s : St} {a : MA} (h : miRd s = some a) : s.hp.length = 3 ∧ ∀ (i : Nat) (t : Heap), s.hp[i]? = some none → t[i]? = some none := by
  unfold miRd at h
  split at h
  · rename_i hh
    rw [hh]
    refine ⟨rfl, fun i t hi => ?_⟩
    match i, hi with
    | 0, hi => simp at hi
    | 1, hi => simp at hi
    | 2, hi => simp at hi
    | n + 3, hi => simp at hi
  · simp at h
theorem ordL_in : inW8 (limbs8 ordL) = true := inW8_limbs _
theorem ordL_val : val8 (limbs8 ordL) = ordL := val8_limbs (by decide) (by decide)
theorem mi_step (a : MA) (ha : miCk a = true) (k : Nat) (hk : k < 32) : ∃ s1, am qE.env 5 miB (miS a k) = some (.normal, s1) ∧ StLe s1 (miS a (k + 1)) := by
  simp only [miCk, Bool.and_eq_true, decide_eq_true_eq] at ha
  obtain ⟨h1, h2, h3, h4⟩ := ha
  have h1 := Nat.le_of_ble_eq_true h1
  have hd := in32_t h2
  obtain ⟨q1, q2⟩ := rK_range ⟨h3, h4⟩ (miD a) k
  have hb : bitOf_mod (a.f (a.i : Int).toNat 0) (31 - (k : Int)) = miD a / 2 ^ (31 - k) % 2 := by
    unfold bitOf_mod
    rw [Int.toNat_natCast]
    exact bit_law hd hk
  have hnext : rK a.r (miD a) (k + 1) = (2 * rK a.r (miD a) k + miD a / 2 ^ (31 - k) % 2) % ordL := rfl
  have ev : (31 - ((k + 1 : Nat) : Int)) = 31 - (k : Int) - 1 := by omega
  have ew : wr .i64 (31 - (k : Int) - 1) = 31 - (k : Int) - 1 := by
    show IntKind.i64.wrap _ = _
    rw [IntKind.wrap_i64]; omega
  have eu : (decide (wr .u64 (31 - (k : Int)) < 0)) = false := by rw [wr64]; simp; omega
  have hbit : 0 ≤ miD a / 2 ^ (31 - k) % 2 ∧ miD a / 2 ^ (31 - k) % 2 ≤ 1 := by omega
  unfold miS
  rw [hnext, ev]
  generalize hr : rK a.r (miD a) k = r at *
  have hv : val8 (limbs8 r) = r := val8_limbs q1 (by unfold ordL R256 at *; omega)
  have htw : twV r (miD a / 2 ^ (31 - k) % 2) = 2 * r + miD a / 2 ^ (31 - k) % 2 := by unfold twV; rw [hv]
  have hck : twCk r (miD a / 2 ^ (31 - k) % 2) = true := by
    unfold twCk
    rw [hv, inW8_limbs]
    simp [hbit, q2]
  generalize miD a / 2 ^ (31 - k) % 2 = b at *
  have hv2 : val8 (limbs8 (2 * r + b)) = 2 * r + b := val8_limbs (by omega) (by unfold ordL R256 at *; omega)
  have hir : inR (a.i : Int) a.n = true := inR_nat (by omega)
  by_cases e : 2 * r + b < ordL
  · have e2 : (2 * r + b) % ordL = 2 * r + b := Int.emod_eq_of_lt (by omega) e
    rw [e2]
    have hR := mi_round1 a (31 - (k : Int)) r
    rw [hb, htw] at hR
    refine roundB_spec hR ?_
    rw [ew, md_same, hck, hir, eu, inW8_limbs, ordL_in, hv2, ordL_val]
    simp [ckL, e]; omega
  · have e2 : (2 * r + b) % ordL = 2 * r + b - ordL := by unfold ordL at *; omega
    rw [e2]
    have hR := mi_round2 a (31 - (k : Int)) r
    rw [hb, htw, hv2, ordL_val] at hR
    refine roundB_spec hR ?_
    rw [ew, md_same, hck, hir, eu, inW8_limbs, ordL_in]
    have e3 : ordL ≤ 2 * r + b := by omega
    simp [ckL, e, e3]; omega
theorem mdH_len (r : Int) : (mdH r).length = 3 := rfl
theorem l_mi : LRow prog f_rimeref02_mod 2 miF := by
  refine LRow.fam (N := 5) (R1.env []) mix (fun _ => 32) (body_of mi_body) mi_ok (fun w0 own0 => accOK_none (fun id => rfl) miB) (fun s a h => ⟨by rw [(mi_hp h).1]; exact mdH_len _, fun i hi => (mi_hp h).2 i _ hi⟩) (fun a k => (mdH_len _).trans (mdH_len _).symm) (fun a => Nat.le_of_eq ((mdH_len _).trans (mdH_len _).symm)) (fun a ha k hk => mi_step a ha k hk) ?_
  intro a ha
  obtain ⟨s1, h1, h2⟩ := roundB_spec (mi_stop a (rK a.r (miD a) 32)) (by rw [miT_same]; rfl)
  exact ⟨_, s1, h1, rfl, h2⟩
noncomputable abbrev oE : EnvP := envL tt rs1 [] [(2, miF)]
def moV (a : MA) (v r : Int) : St := ⟨tmOf [(0, .sc (.vints a.t .u32 1 a.n a.f)), (2, .sc (.ptr 0 8 0 0 8)), (3, .sc (.ptr 1 8 0 0 8)), (4, .sc (.ptr 2 8 0 0 8)), (5, .sc (.int .i64 v))] 37 0, mdH r⟩
def moIn (a : MA) (v r : Int) : MA := ⟨a.t, a.n, a.f, v.toNat, val8 (limbs8 r)⟩
theorem mo_round (a : MA) (v r : Int) : roundB oE [(12, true)] 5 moB (moV a v r) .normal (moV a (v - 1) (rK (val8 (limbs8 r)) (a.f v.toNat 0) 32)) =
    some (ckL [decide (v ≥ 0) == true, miCk (moIn a v r) && stB (mdW a v 31 r) (miS (moIn a v r) 0)] && stB (moV a (wr .i64 ((v.toNat : Int) - 1)) (rK (val8 (limbs8 r)) (a.f v.toNat 0) 32)) (moV a (v - 1) (rK (val8 (limbs8 r)) (a.f v.toNat 0) 32))) := by kernel_rfl
def moT (a : MA) (r : Int) : St := ⟨tmOf [(2, .sc (.ptr 0 8 0 0 8)), (3, .sc (.ptr 1 8 0 0 8))] 37 0, mdH r⟩
theorem mo_stop (a : MA) (r : Int) : roundB oE [] 5 moB (moV a (-1) r) (.exit 0) (moT a r) = some (true && stB (moT a r) (moT a r)) := by kernel_rfl
theorem mo_inner : bodiesOf 2 moB = [.loop miB] := by kernel_rfl
theorem mo_acc : ∀ w0 own0, accOK prog oE.env w0 own0 moB := by
  intro w0 own0
  refine accOK_of moB fun id F hF b hb => ?_
  have h2 : id = 2 ∧ F = fun s => dropB (miF s) := by
    by_cases e : id = 2
    · subst e
      refine ⟨rfl, ?_⟩
      have : oE.env.L 2 = some (fun s => dropB (miF s)) := rfl
      rw [this] at hF
      exact (Option.some.inj hF).symm
    · have : getL [(2, miF)] id = none := by
        simp only [getL]
        cases hb2 : Nat.beq 2 id with
        | true => exact absurd (Nat.eq_of_beq_eq_true hb2).symm e
        | false => rfl
      have h3 : oE.env.L id = none := by
        show (match getL [(2, miF)] id with | some F => some (fun s => dropB (F s)) | none => none) = none
        rw [this]
      rw [h3] at hF; cases hF
  obtain ⟨rfl, rfl⟩ := h2
  rw [mo_inner] at hb
  have hc := mi_body
  cases hcc : f_rimeref02_mod.body with
  | none => rw [hcc] at hc; simp at hc
  | some c =>
    rw [hcc] at hc
    simp only [Option.map_some, Option.some.injEq] at hc
    exact l_mi.1 c hcc b (by rw [hc]; exact hb) w0 own0
def moS (a : MA) (k : Nat) : St := moV a ((a.n : Int) - 1 - (k : Int)) (dmod a.f a.n k)
def moRd (s : St) : Option MA := match getA s.tm 0, s.hp with
  | .sc (.vints t _ _ n f), [some (.ints ..), some (.ints ..), some (.ints ..)] => some ⟨t, n, f, 0, 0⟩
  | _, _ => none
def all32 (f : Nat → Nat → Int) (n : Nat) : Bool := (List.range n).all fun j => in32 (f j 0)
theorem all32_t {f : Nat → Nat → Int} {n : Nat} (h : all32 f n = true) : ∀ j, j < n → W32 (f j 0) := fun j hj => by
  simp only [all32, List.all_eq_true, List.mem_range] at h
  exact in32_t (h j hj)
def moCk (a : MA) : Bool := big a.n && all32 a.f a.n
def moF : LF := famF moRd moS moCk (fun _ => .normal) (fun a => moT a (dmod a.f a.n a.n))
theorem mo_body : f_rimeref02_mod.body.map (bodiesOf 0) = some [.loop moB] := by kernel_rfl
theorem mo_ok : codeOK prog oE.env.isW moB = true := by kernel_rfl
theorem mo_hp {s : St} {a : MA} (h : moRd s = some a) : s.hp.length = 3 ∧ ∀ (i : Nat) (t : Heap), s.hp[i]? = some none → t[i]? = some none := by
  unfold moRd at h
  split at h
  · rename_i hh
    rw [hh]
    refine ⟨rfl, fun i t hi => ?_⟩
    match i, hi with
    | 0, hi => simp at hi
    | 1, hi => simp at hi
    | 2, hi => simp at hi
    | n + 3, hi => simp at hi
  · simp at h
theorem mo_same (a : MA) (v r : Int) : stB (moV a v r) (moV a v r) = true := by
  simp [stB, moV, mdH, tmOf, tmB, avB, svB, hpB, blkB, eqF_refl, kEq]
theorem moT_same (a : MA) (r : Int) : stB (moT a r) (moT a r) = true := by
  simp [stB, moT, mdH, tmOf, tmB, avB, svB, hpB, blkB, eqF_refl, kEq]
theorem mo_step (a : MA) (ha : moCk a = true) (k : Nat) (hk : k < a.n) : ∃ s1, am oE.env 5 moB (moS a k) = some (.normal, s1) ∧ StLe s1 (moS a (k + 1)) := by
  simp only [moCk, Bool.and_eq_true] at ha
  obtain ⟨hbig, hall⟩ := ha
  have hb : a.n ≤ 4611686018427387904 := Nat.le_of_ble_eq_true hbig
  have hW := all32_t hall
  obtain ⟨q1, q2⟩ := dmod_range a.f a.n k
  have hnext : dmod a.f a.n (k + 1) = rK (dmod a.f a.n k) (a.f (a.n - 1 - k) 0) 32 := rfl
  have ev : ((a.n : Int) - 1 - ((k + 1 : Nat) : Int)) = (a.n : Int) - 1 - (k : Int) - 1 := by omega
  unfold moS
  rw [hnext, ev]
  generalize hr : dmod a.f a.n k = r at *
  have hv : val8 (limbs8 r) = r := val8_limbs q1 (by unfold ordL R256 at *; omega)
  have et : ((a.n : Int) - 1 - (k : Int)).toNat = a.n - 1 - k := by omega
  have hR := mo_round a ((a.n : Int) - 1 - (k : Int)) r
  rw [et, hv] at hR
  refine roundB_spec hR ?_
  have ec : (((a.n - 1 - k : Nat) : Int)) = (a.n : Int) - 1 - (k : Int) := by omega
  have ew : wr .i64 ((a.n : Int) - 1 - (k : Int) - 1) = (a.n : Int) - 1 - (k : Int) - 1 := by
    show IntKind.i64.wrap _ = _
    rw [IntKind.wrap_i64]; omega
  have hin : moIn a ((a.n : Int) - 1 - (k : Int)) r = ⟨a.t, a.n, a.f, a.n - 1 - k, r⟩ := by unfold moIn; rw [et, hv]
  rw [hin]
  have hs : stB (mdW a ((a.n : Int) - 1 - (k : Int)) 31 r) (miS ⟨a.t, a.n, a.f, a.n - 1 - k, r⟩ 0) = true := by
    have : miS ⟨a.t, a.n, a.f, a.n - 1 - k, r⟩ 0 = mdV ⟨a.t, a.n, a.f, a.n - 1 - k, r⟩ 31 r := rfl
    rw [this]
    have h2 := md_same ⟨a.t, a.n, a.f, a.n - 1 - k, r⟩ 31 r
    have h3 : mdV ⟨a.t, a.n, a.f, a.n - 1 - k, r⟩ 31 r = mdW a ((a.n : Int) - 1 - (k : Int)) 31 r := by
      show mdW ⟨a.t, a.n, a.f, a.n - 1 - k, r⟩ ((a.n - 1 - k : Nat) : Int) 31 r = _
      rw [ec]; rfl
    rw [h3] at h2 ⊢
    exact h2
  have hck : miCk ⟨a.t, a.n, a.f, a.n - 1 - k, r⟩ = true := by
    simp only [miCk, miD, Bool.and_eq_true, decide_eq_true_eq]
    exact ⟨Nat.ble_eq_true_of_le (by omega), in32_of (hW _ (by omega)), q1, q2⟩
  rw [hs, hck, ec, ew, mo_same]
  simp [ckL]; omega
theorem l_mo : LRow prog f_rimeref02_mod 0 moF := by
  refine LRow.fam (N := 5) (R1.env _) mix (fun a => a.n) (body_of mo_body) mo_ok mo_acc (fun s a h => ⟨by rw [(mo_hp h).1]; exact mdH_len _, fun i hi => (mo_hp h).2 i _ hi⟩) (fun a k => (mdH_len _).trans (mdH_len _).symm) (fun a => Nat.le_of_eq ((mdH_len _).trans (mdH_len _).symm)) (fun a ha k hk => mo_step a ha k hk) ?_
  intro a ha
  have e : moS a a.n = moV a (-1) (dmod a.f a.n a.n) := by
    unfold moS
    rw [show (a.n : Int) - 1 - (a.n : Int) = -1 by omega]
  rw [e]
  obtain ⟨s1, h1, h2⟩ := roundB_spec (mo_stop a (dmod a.f a.n a.n)) (by rw [moT_same]; rfl)
  exact ⟨_, s1, h1, rfl, h2⟩
def tMod : TF := fun args => match args with
  | [.sc (.vints _ .u32 1 n f)] => some (big n && all32 f n, n8 (dval f n n % ordL))
  | _ => none
def moI (t : Bool) (n : Nat) (f : Nat → Nat → Int) : St := ⟨tmOf [(0, .sc (.vints t .u32 1 n f)), (2, .sc (.ptr 0 8 0 0 8)), (3, .sc (.ptr 1 8 0 0 8)), (4, .sc (.ptr 2 8 0 0 8)), (5, .sc (.int .i64 (wr .i64 ((n : Int) - 1))))] 37 0, [some (.ints .u32 8 1 (fun _ _ => 0)), some (.ints .u32 8 1 (fun _ _ => 0)), some (.ints .u32 8 1 (fun _ d => limbs8 ordL d))]⟩
theorem c_mod : fnChk prog (envL tt rs1 [] [(0, moF)]) f_rimeref02_mod = true := by kernel_rfl
theorem k_mod (t : Bool) (n : Nat) (f : Nat → Nat → Int) : outP (apFunc (envL tt rs1 [] [(0, moF)]) [] 5 f_rimeref02_mod [.sc (.vints t .u32 1 n f)] []) =
    some (ckL [moCk ⟨t, n, f, 0, 0⟩ && stB (moI t n f) (moS ⟨t, n, f, 0, 0⟩ 0)], n8 (dmod f n n)) := by kernel_rfl
theorem r_mod : TRow prog F_rimeref02_mod tMod := by
  intro args r h
  unfold tMod at h
  split at h
  case h_2 => simp at h
  rename_i t n f
  simp only [Option.some.injEq, Prod.mk.injEq] at h
  obtain ⟨hb, rfl⟩ := h
  refine pure_of_outL R1 at_rimeref02_mod (LsOK.nil.cons l_mo) c_mod (N := 5) (gs := []) ?_
  have hb2 := hb
  simp only [Bool.and_eq_true] at hb2
  have hn : n ≤ 4611686018427387904 := Nat.le_of_ble_eq_true hb2.1
  have e1 : wr .i64 ((n : Int) - 1) = (n : Int) - 1 - ((0 : Nat) : Int) := by
    show IntKind.i64.wrap _ = _
    rw [IntKind.wrap_i64]; omega
  have hs : stB (moI t n f) (moS ⟨t, n, f, 0, 0⟩ 0) = true := by
    have h0 : eqF 1 8 (fun _ _ => 0) (fun _ d => limbs8 0 d) = true := by decide
    have hm : moS ⟨t, n, f, 0, 0⟩ 0 = moV ⟨t, n, f, 0, 0⟩ ((n : Int) - 1 - ((0 : Nat) : Int)) 0 := rfl
    rw [hm]
    simp only [moI, e1]
    simp [stB, moV, mdH, tmOf, tmB, avB, svB, hpB, blkB, eqF_refl, kEq, h0]
  rw [k_mod, hs, dmod_eq (all32_t hb2.2) n (Nat.le_refl _)]
  have : moCk ⟨t, n, f, 0, 0⟩ = true := hb
  rw [this]; rfl
end Go.Proofs.YtbogcehngfjlkabGreat
namespace Go.Proofs.YtbogcehngfjlkabGreat
open Go.Proofs.Tryz
open Go Go.AM
structure DA where
  t : Bool
  n : Nat
  f : Nat → Nat → Int
  m : Nat
noncomputable def dgB : Code := match f_rimeref02_digits.body with | some c => (match bodiesOf 0 c with | [.loop b] => b | _ => .skip) | none => .skip
def dgW (a : DA) (v : Int) (D : Nat → Nat → Int) : St := ⟨tmOf [(0, .sc (.vints a.t .u8 1 a.n a.f)), (3, .sc (.slice 0 1 0 0 1 a.m)), (4, .sc (.int .i64 v))] 37 0, [some (.ints .u32 1 a.m D)]⟩
def dgQ (v : Int) : Int := wr .i64 (v.tdiv 4)
def dgSh (v : Int) : Int := wr .u64 (wr .i64 (8 * v.tmod 4))
def dgVal (a : DA) (v : Int) (D : Nat → Nat → Int) : Int := ior .u32 (D (0 + (dgQ v).toNat) 0) (ishl .u32 (wr .u32 (a.f v.toNat 0)) (dgSh v))
theorem dg_round (a : DA) (v v' : Int) (D D' : Nat → Nat → Int) : roundB pE [(13, true)] 5 dgB (dgW a v D) .normal (dgW a v' D') =
    some (ckL [decide (v < (a.n : Int)) == true, inR (dgQ v) a.m, inR v a.n, !decide (dgSh v < 0), inR (dgQ v) a.m] &&
      stB (dgW a (wr .i64 (v + 1)) (fun r d => bif Nat.beq r (0 + (dgQ v).toNat) && Nat.beq d 0 then dgVal a v D else D r d)) (dgW a v' D')) := by kernel_rfl
theorem dg_same (a : DA) (v : Int) {D D' : Nat → Nat → Int} (h : eqF a.m 1 D D' = true) : stB (dgW a v D) (dgW a v D') = true := by
  simp [stB, dgW, tmOf, tmB, avB, svB, hpB, blkB, eqF_refl, kEq, h]
def dgT (a : DA) (D : Nat → Nat → Int) : St := ⟨tmOf [(3, .sc (.slice 0 1 0 0 1 a.m))] 37 0, [some (.ints .u32 1 a.m D)]⟩
theorem dg_stop (a : DA) (v : Int) (D : Nat → Nat → Int) : roundB pE [(13, false)] 5 dgB (dgW a v D) (.exit 0) (dgT a D) = some (ckL [decide (v < (a.n : Int)) == false] && stB (dgT a D) (dgT a D)) := by kernel_rfl
theorem dgT_same (a : DA) (D : Nat → Nat → Int) : stB (dgT a D) (dgT a D) = true := by
  simp [stB, dgT, tmOf, tmB, avB, svB, hpB, blkB, eqF_refl, kEq]
def dgS (a : DA) (k : Nat) : St := dgW a (k : Int) (fun r _ => dK (fun j => a.f j 0) k r)
def dgRd (s : St) : Option DA := match getA s.tm 0, s.hp with
  | .sc (.vints t _ _ n f), [some (.ints _ _ m _)] => some ⟨t, n, f, m⟩
  | _, _ => none
def dgCk (a : DA) : Bool := big a.n && (areB (fun j => a.f j 0) a.n 0 && Nat.beq a.m ((a.n + 3) / 4))
def dgF : LF := famF dgRd dgS dgCk (fun _ => .normal) (fun a => dgT a (fun r _ => dK (fun j => a.f j 0) a.n r))
theorem dg_body : f_rimeref02_digits.body.map (bodiesOf 0) = some [.loop dgB] := by kernel_rfl
theorem dg_ok : codeOK prog pE.env.isW dgB = true := by kernel_rfl
theorem dg_hp {s : St} {a : DA} (h : dgRd s = some a) : s.hp.length = 1 ∧ ∀ (i : Nat) (t : Heap), s.hp[i]? = some none → t[i]? = some none := by
  unfold dgRd at h
  split at h
  · rename_i hh
    rw [hh]
    refine ⟨rfl, fun i t hi => ?_⟩
    match i, hi with
    | 0, hi => simp at hi
    | n + 1, hi => simp at hi
  · simp at h
theorem dg_step (a : DA) (ha : dgCk a = true) (k : Nat) (hk : k < a.n) : ∃ s1, am pE.env 5 dgB (dgS a k) = some (.normal, s1) ∧ StLe s1 (dgS a (k + 1)) := by
  simp only [dgCk, Bool.and_eq_true] at ha
  obtain ⟨h1, h2, h3⟩ := ha
  have hn : a.n ≤ 4611686018427387904 := Nat.le_of_ble_eq_true h1
  have hm := Nat.eq_of_beq_eq_true h3
  have ew : wr .i64 ((k : Int) + 1) = ((k + 1 : Nat) : Int) := by rw [wr_small (by omega) (by omega)]; rfl
  have ed : ((k : Int).tdiv 4) = ((k / 4 : Nat) : Int) := by rw [Int.tdiv_eq_ediv_of_nonneg (by omega)]; omega
  have em : ((k : Int).tmod 4) = ((k % 4 : Nat) : Int) := by rw [Int.tmod_eq_emod_of_nonneg (by omega)]; omega
  have eq : dgQ (k : Int) = ((k / 4 : Nat) : Int) := by unfold dgQ; rw [ed, wr_small (by omega) (by omega)]
  have es : dgSh (k : Int) = ((8 * (k % 4) : Nat) : Int) := by
    unfold dgSh
    rw [em, wr_small (by omega) (by omega), wr64]; omega
  refine roundB_spec (dg_round a (k : Int) ((k + 1 : Nat) : Int) _ (fun r _ => dK (fun j => a.f j 0) (k + 1) r)) ?_
  have hstep := (dK_step h2 hk).1
  have hF : eqF a.m 1 (fun r d => bif Nat.beq r (0 + (dgQ (k : Int)).toNat) && Nat.beq d 0 then dgVal a (k : Int) (fun r _ => dK (fun j => a.f j 0) k r) else dK (fun j => a.f j 0) k r) (fun r _ => dK (fun j => a.f j 0) (k + 1) r) = true := by
    refine eqF_of fun r hr d hd => ?_
    obtain rfl : d = 0 := by omega
    rw [eq, Int.toNat_natCast, Nat.zero_add]
    by_cases e : r = k / 4
    · subst e
      have hbb : Nat.beq (k / 4) (k / 4) = true := beq_t.2 rfl
      have h00 : Nat.beq 0 0 = true := rfl
      rw [hbb, h00, Bool.and_self, cond_true, hstep]
      unfold dgVal
      rw [eq, es, Int.toNat_natCast, Int.toNat_natCast, Nat.zero_add]
    · have : Nat.beq r (k / 4) = false := by cases hb : Nat.beq r (k / 4) with | false => rfl | true => exact absurd (Nat.eq_of_beq_eq_true hb) e
      rw [this]
      simp only [Bool.false_and, cond_false]
      exact (dK_other e).symm
  rw [ew, dg_same a _ hF, eq, es]
  have hq : k / 4 < a.m := by omega
  have eN : (decide (((8 * (k % 4) : Nat) : Int) < 0)) = false := by simp; omega
  have e1 : inR (((k / 4 : Nat)) : Int) a.m = true := inR_nat hq
  rw [eN, e1, inR_nat hk]
  simp [ckL]; omega
theorem l_dg : LRow prog f_rimeref02_digits 0 dgF := by
  refine LRow.fam (N := 5) (L0.env []) mix (fun a => a.n) (body_of dg_body) dg_ok (fun w0 own0 => accOK_none (fun id => rfl) dgB) (fun s a h => ⟨by rw [(dg_hp h).1]; rfl, fun i hi => (dg_hp h).2 i _ hi⟩) (fun _ _ => rfl) (fun _ => Nat.le_refl _) (fun a ha k hk => dg_step a ha k hk) ?_
  intro a ha
  obtain ⟨s1, h1, h2⟩ := roundB_spec (dg_stop a (a.n : Int) (fun r _ => dK (fun j => a.f j 0) a.n r)) (by rw [dgT_same]; simp [ckL])
  exact ⟨_, s1, h1, rfl, h2⟩
def tDigits : TF := fun args => match args with
  | [.sc (.vints _ .u8 1 n f)] => some (Nat.ble n 1099511627776 && areB (fun j => f j 0) n 0, .sc (.vints true .u32 1 ((n + 3) / 4) (fun j _ => dK (fun j => f j 0) n (0 + j))))
  | _ => none
def dgM (n : Nat) : Int := wr .i64 ((wr .i64 ((n : Int) + 3)).tdiv 4)
def dgI (t : Bool) (n : Nat) (f : Nat → Nat → Int) : St := ⟨tmOf [(0, .sc (.vints t .u8 1 n f)), (3, .sc (.slice 0 1 0 0 1 (dgM n).toNat)), (4, .sc (.int .i64 0))] 37 0, [some (.ints .u32 1 (dgM n).toNat (fun _ _ => 0))]⟩
theorem c_digits : fnChk prog (envL tt [] [] [(0, dgF)]) f_rimeref02_digits = true := by kernel_rfl
theorem k_digits (t : Bool) (n : Nat) (f : Nat → Nat → Int) : outP (apFunc (envL tt [] [] [(0, dgF)]) [] 5 f_rimeref02_digits [.sc (.vints t .u8 1 n f)] []) =
    some (ckL [inB (dgM n) (dgM n) && fits (dgM n).toNat 4, dgCk ⟨t, n, f, (dgM n).toNat⟩ && stB (dgI t n f) (dgS ⟨t, n, f, (dgM n).toNat⟩ 0)], .sc (.vints true .u32 1 (dgM n).toNat (fun j _ => dK (fun j => f j 0) n (0 + j)))) := by kernel_rfl
theorem r_digits : TRow prog F_rimeref02_digits tDigits := by
  intro args r h
  unfold tDigits at h
  split at h
  case h_2 => simp at h
  rename_i t n f
  simp only [Option.some.injEq, Prod.mk.injEq, Bool.and_eq_true] at h
  obtain ⟨⟨hb, ha⟩, rfl⟩ := h
  have hn : n ≤ 1099511627776 := Nat.le_of_ble_eq_true hb
  refine pure_of_outL L0 at_rimeref02_digits (LsOK.nil.cons l_dg) c_digits (N := 5) (gs := []) ?_
  have eM : dgM n = (((n + 3) / 4 : Nat) : Int) := by
    unfold dgM
    rw [wr_small (x := (n : Int) + 3) (by omega) (by omega), Int.tdiv_eq_ediv_of_nonneg (by omega), wr_small (by omega) (by omega)]; omega
  have h0 : eqF ((n + 3) / 4) 1 (fun _ _ => (0 : Int)) (fun r _ => dK (fun j => f j 0) 0 r) = true := eqF_of fun r _ d _ => by
    unfold dK
    rw [hval_zero (n := 4) fun i hi => by unfold cutB; rw [if_neg (by omega)]]
  have hs : stB (dgI t n f) (dgS ⟨t, n, f, (dgM n).toNat⟩ 0) = true := by
    unfold dgI dgS
    rw [eM, Int.toNat_natCast]
    simp [stB, dgW, tmOf, tmB, avB, svB, hpB, blkB, eqF_refl, kEq, h0]
  have hc : dgCk ⟨t, n, f, (dgM n).toNat⟩ = true := by
    simp only [dgCk, Bool.and_eq_true]
    rw [eM, Int.toNat_natCast]
    exact ⟨Nat.ble_eq_true_of_le (by omega), ha, beq_t.2 rfl⟩
  have hi : (inB (dgM n) (dgM n) && fits (dgM n).toNat 4) = true := by
    rw [eM, Int.toNat_natCast]
    simp [inB, fits]; omega
  rw [k_digits, hs, hc, hi, eM, Int.toNat_natCast]; rfl
def rs2 : List (Nat × TF) := (F_rimeref02_digits, tDigits) :: (F_rimeref02_mod, tMod) :: rs1
theorem R2 : LibOK prog tt rs2 [] := (R1.addT r_mod).addT r_digits
def tBack8 : TF := fun args => match args with
  | [.agg [.ints .u32 8 a]] => some (inW8 a, b32 (val8 a))
  | _ => none
theorem c_back8 : fnChk prog (envP tt rs2 []) f_rimeref02_Back = true := by kernel_rfl
theorem k_back8 (a : Nat → Int) : outP (apFunc (envP tt rs2 []) [] 40 f_rimeref02_Back [u8w a] []) = some (true, u8s 32 (lf (back8 a))) := by kernel_rfl
theorem r_back8 : TRow prog F_rimeref02_Back tBack8 := by
  intro args r h
  unfold tBack8 at h
  split at h
  case h_2 => simp at h
  rename_i a
  simp only [Option.some.injEq, Prod.mk.injEq] at h
  obtain ⟨ha, rfl⟩ := h
  refine pure_of_out R2 at_rimeref02_Back c_back8 (N := 40) (gs := []) ?_
  have hr := val8_range ha
  have e : back8 a = byL 32 (val8 a) := by
    rw [← back8_law hr.1 hr.2, ← limbs8_self ha]; rfl
  rw [← show u8s 32 (lf (back8 a)) = b32 (val8 a) by unfold b32; rw [e]]
  exact k_back8 a
def tReduce2 : TF := fun args => match args with
  | [.sc (.vints _ .u8 1 n f)] => some (Nat.ble n 1099511627776 && areB (fun j => f j 0) n 0, b32 (hval (fun j => f j 0) n 0 % ordL))
  | _ => none
def rs3 : List (Nat × TF) := (F_rimeref02_Back, tBack8) :: rs2
theorem R3 : LibOK prog tt rs3 [] := R2.addT r_back8
theorem c_reduce2 : fnChk prog (envP tt rs3 []) f_rimeref02_Reduce = true := by kernel_rfl
def dgs (n : Nat) (f : Nat → Nat → Int) : Nat → Nat → Int := fun j _ => dK (fun j => f j 0) n (0 + j)
theorem k_reduce2 (t : Bool) (n : Nat) (f : Nat → Nat → Int) : outP (apFunc (envP tt rs3 []) [] 5 f_rimeref02_Reduce [.sc (.vints t .u8 1 n f)] []) =
    some (ckL [Nat.ble n 1099511627776 && areB (fun j => f j 0) n 0, big ((n + 3) / 4) && all32 (dgs n f) ((n + 3) / 4), inW8 (limbs8 (dval (dgs n f) ((n + 3) / 4) ((n + 3) / 4) % ordL))],
      b32 (val8 (limbs8 (dval (dgs n f) ((n + 3) / 4) ((n + 3) / 4) % ordL)))) := by kernel_rfl
theorem dgs_law {n : Nat} {f : Nat → Nat → Int} (ha : areB (fun j => f j 0) n 0 = true) : all32 (dgs n f) ((n + 3) / 4) = true ∧ dval (dgs n f) ((n + 3) / 4) ((n + 3) / 4) = hval (fun j => f j 0) n 0 := by
  refine ⟨?_, dval_all (fun j => f j 0) (by omega)⟩
  simp only [all32, List.all_eq_true, List.mem_range]
  exact fun j _ => in32_of (dK_W ha (0 + j))
theorem r_reduce2 : TRow prog F_rimeref02_Reduce tReduce2 := by
  intro args r h
  unfold tReduce2 at h
  split at h
  case h_2 => simp at h
  rename_i t n f
  simp only [Option.some.injEq, Prod.mk.injEq, Bool.and_eq_true] at h
  obtain ⟨⟨hb, ha⟩, rfl⟩ := h
  refine pure_of_out R3 at_rimeref02_Reduce c_reduce2 (N := 5) (gs := []) ?_
  obtain ⟨e1, e2⟩ := dgs_law ha
  have hn : n ≤ 1099511627776 := Nat.le_of_ble_eq_true hb
  have hm := modL_range (hval (fun j => f j 0) n 0)
  have hv : val8 (limbs8 (hval (fun j => f j 0) n 0 % ordL)) = hval (fun j => f j 0) n 0 % ordL := val8_limbs hm.1 (by unfold R256; omega)
  rw [k_reduce2, e1, e2, hv, inW8_limbs, hb, ha, show big ((n + 3) / 4) = true from Nat.ble_eq_true_of_le (by omega)]; rfl
end Go.Proofs.YtbogcehngfjlkabGreat
