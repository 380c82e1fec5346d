/-
  FrostNonces holds: Nonce, Commit and Pair of frost and of the reference answer the same.
-/
import Derived.Test.YtfpkegodflloiaaGreatRows
import Derived.Test.YtfpkegodflloiaaGreatBe
import Derived.Test.YtfpkegodflloiaaGreatAf
import Derived.WalkKit
import Derived.ProofKit
import Derived.OpenShut
import Derived.JoinedCond
namespace Go.Proofs.YtfpkegodflloiaaGreat
open Go.Proofs.Tryz
open Go Go.AM Go.RowKit Go.ChangeShapes Go.WideShapes Go.ChangeAt
theorem own : ownKnob Tryz.prog.godebug = none := by kernel_rfl
theorem laidOut : laidOutB Tryz.prog = true := by kernel_rfl
theorem parF : Tryz.f3.params.toList = [3, 23, 24, 24, 26] := by kernel_rfl
theorem resF : Tryz.f3.resultTypes = #[4] := by kernel_rfl
theorem readableF : ∀ t ∈ Tryz.f3.params.toList, Tryz.prog.readableRec t = true ∧ t < Tryz.prog.types.size := by
  intro t ht
  rw [parF] at ht
  simp only [List.mem_cons, List.not_mem_nil, or_false] at ht
  rcases ht with rfl | rfl | rfl | rfl | rfl
  · exact ⟨by kernel_rfl, of_decide_eq_true (by kernel_rfl)⟩
  · exact ⟨by kernel_rfl, of_decide_eq_true (by kernel_rfl)⟩
  · exact ⟨by kernel_rfl, of_decide_eq_true (by kernel_rfl)⟩
  · exact ⟨by kernel_rfl, of_decide_eq_true (by kernel_rfl)⟩
  · exact ⟨by kernel_rfl, of_decide_eq_true (by kernel_rfl)⟩
theorem bulk_pos {H : Type} (d : DataW H) : 1 ≤ Rows.uptoBulk d := by
  cases d with
  | lit l => cases l <;> simp [Rows.uptoBulk]
  | _ => simp [Rows.uptoBulk]
theorem bulk_len {H : Type} : ∀ (l : List (DataW H)), l.length ≤ Rows.uptoBulkAll l
  | [] => Nat.zero_le _
  | d :: r => by
    have h1 := bulk_pos d
    have h2 := bulk_len r
    simp only [List.length_cons, Rows.uptoBulkAll]
    omega
noncomputable def fs26 : Array Field := match Tryz.prog.underlying 26 with | some (.struct fs) => fs | _ => #[]
set_option maxRecDepth 100000 in
theorem contract (H : Type) (enc : TypeId × Value → H) (W : World) (base : Nat) (args : Array Value) (ds gs : List (DataW H)) (before : List MemPlace)
    (hval : ∀ (j : Nat) t v, Tryz.f3.params[j]? = some t → args[j]? = some v → Value.okWide Tryz.prog W .any base t v)
    (hW : DataW.Whole enc Tryz.prog Tryz.f3.params.toList Rows.frostNoncesSpec.vars false W args.toList ds gs before) (hk : Rows.uptoSmall H (ds ++ gs) = true) :
    Calls Tryz.prog 3 args W fun e W' => ∃ v, e = .returned v ∧ Rows.frostNoncesSpec.post enc Tryz.prog Tryz.f3 false true false false W args v W' := by
  have hW' := hW
  obtain ⟨p, q, hA0, hV, rfl, hfz, hnd⟩ := hW
  have hA : DataW.TrodAll enc Tryz.prog W 0 (fun _ => true) true Tryz.f3.params.toList args.toList ds p := hA0
  rw [parF] at hA
  obtain ⟨v0, vs0, d0, ds0, p0, q0, hargs, rfl, rfl, h0, r0⟩ := trodAll_cons hA
  obtain ⟨v1, vs1, d1, ds1, p1, q1, rfl, rfl, rfl, h1, r1⟩ := trodAll_cons r0
  obtain ⟨v2, vs2, d2, ds2, p2, q2, rfl, rfl, rfl, h2, r2⟩ := trodAll_cons r1
  obtain ⟨v3, vs3, d3, ds3, p3, q3, rfl, rfl, rfl, h3, r3⟩ := trodAll_cons r2
  obtain ⟨v4, vs4, d4, ds4, p4, q4, rfl, rfl, rfl, h4, r4⟩ := trodAll_cons r3
  obtain ⟨rfl, rfl, rfl⟩ := trodAll_nil r4
  obtain rfl : args = #[v0, v1, v2, v3, v4] := by cases args; simp_all
  obtain ⟨rfl, rfl⟩ := trodVars_none hV
  have o0 : Value.okWide Tryz.prog W .any base 3 v0 := hval 0 3 v0 (by kernel_rfl) (by simp)
  have o1 : Value.okWide Tryz.prog W .any base 23 v1 := hval 1 23 v1 (by kernel_rfl) (by simp)
  have o2 : Value.okWide Tryz.prog W .any base 24 v2 := hval 2 24 v2 (by kernel_rfl) (by simp)
  have o3 : Value.okWide Tryz.prog W .any base 24 v3 := hval 3 24 v3 (by kernel_rfl) (by simp)
  have o4 : Value.okWide Tryz.prog W .any base 26 v4 := hval 4 26 v4 (by kernel_rfl) (by simp)
  have t3 : Tryz.prog.underlying 3 = some (.int .i64) := by kernel_rfl
  obtain ⟨i0, rfl, rfl, rfl, w0⟩ := open_int t3 o0 h0
  have t23 : Tryz.prog.underlying 23 = some (.array 32 5) := by kernel_rfl
  have t5 : Tryz.prog.underlying 5 = some (.int .u8) := by kernel_rfl
  have n5 : Tryz.prog.cellsOf 5 = 1 := by kernel_rfl
  have c23 : Tryz.prog.cellsOf 23 = 32 := by kernel_rfl
  obtain ⟨s1, rv1, hs1⟩ := arg_array t23 t5 n5 c23 o1 h1
  have t24 : Tryz.prog.underlying 24 = some (.array 32 5) := by kernel_rfl
  have c24 : Tryz.prog.cellsOf 24 = 32 := by kernel_rfl
  obtain ⟨s2, rv2, hs2⟩ := arg_array t24 t5 n5 c24 o2 h2
  obtain ⟨s3, rv3, hs3⟩ := arg_array t24 t5 n5 c24 o3 h3
  have t26 : Tryz.prog.underlying 26 = some (.struct fs26) := by kernel_rfl
  obtain ⟨s4, rv4, hs4⟩ := arg_bytesX (fuel := 5) (l := [.run .u8 32, .run .u8 32]) t26 (by kernel_rfl) (by kernel_rfl) o4 h4
  have ha : ArgsOK noσ (prOf W) W [.sc (.int .i64 i0), .agg [.ints .u8 32 s1], .agg [.ints .u8 32 s2], .agg [.ints .u8 32 s3], .agg [.ints .u8 64 s4]] [.int .i64 i0, v1, v2, v3, v4] := by
    refine ⟨rfl, fun j a x e1 e2 => ?_⟩
    match j, e1, e2 with
    | 0, e1, e2 =>
      simp only [List.getElem?_cons_zero, Option.some.injEq] at e1 e2
      subst e1 e2; exact RV.of_sc .int
    | 1, e1, e2 =>
      simp only [List.getElem?_cons_succ, List.getElem?_cons_zero, Option.some.injEq] at e1 e2
      subst e1 e2; exact rv1
    | 2, e1, e2 =>
      simp only [List.getElem?_cons_succ, List.getElem?_cons_zero, Option.some.injEq] at e1 e2
      subst e1 e2; exact rv2
    | 3, e1, e2 =>
      simp only [List.getElem?_cons_succ, List.getElem?_cons_zero, Option.some.injEq] at e1 e2
      subst e1 e2; exact rv3
    | 4, e1, e2 =>
      simp only [List.getElem?_cons_succ, List.getElem?_cons_zero, Option.some.injEq] at e1 e2
      subst e1 e2; exact rv4
    | j + 5, e1, e2 => simp at e1
  have hc := law_calls at_rimelaw09_FrostNonces c_lnon (nonces_pure hs1 hs4) ha
  refine hc.mono fun e W' hq => ?_
  obtain ⟨he, hbel⟩ := hq
  have u4 : Tryz.prog.underlying 4 = some .bool := by kernel_rfl
  refine ⟨_, he, post_below laidOut readableF rfl hW' rfl rfl (fun b sp hd => ?_) hbel (ok_one resF rfl (okWide_bool_mk u4 true))⟩
  rw [resF]
  exact trodAll_cons_mk (shut_bool u4 true) trodAll_mk0
set_option maxRecDepth 100000 in
theorem lifted (os : Os) (started : os.Started) (H : Type) (enc : TypeId × Value → H) (F : Stop.Interp) :
    ReturnsInHanded {} Tryz.checked os 3 .any ((Rows.OpenSpec.upto Rows.frostNoncesSpec).pre6 enc Tryz.prog Tryz.f3 Rows.frostNoncesUptoRow.domain false) (((Rows.OpenSpec.upto Rows.frostNoncesSpec).at F).post enc Tryz.prog Tryz.f3 false true false false) := by
  refine returnsInHanded_of_cond (C := Tryz.checked) (s := Rows.OpenSpec.upto Rows.frostNoncesSpec) (k := Rows.uptoSmall) rfl own started (by kernel_rfl) Tryz.func3
    (OpenSpec.witness (enc := enc) (C := Tryz.checked) (s := Rows.OpenSpec.upto Rows.frostNoncesSpec) (k := Rows.uptoSmall) rfl false ⟨#[], #[.int .i64 0, .agg (Array.replicate 32 (.int .u8 0)), .agg (Array.replicate 32 (.int .u8 0)), .agg (Array.replicate 32 (.int .u8 0)), .agg (Array.replicate 64 (.int .u8 0))], []⟩ 8 (by kernel_rfl) (by kernel_rfl) (by kernel_rfl)
      (x := ([.lit (.int .i64 0), .agg (List.replicate 32 (.lit (.int .u8 0))), .agg (List.replicate 32 (.lit (.int .u8 0))), .agg (List.replicate 32 (.lit (.int .u8 0))), .agg [.agg (List.replicate 32 (.lit (.int .u8 0))), .agg (List.replicate 32 (.lit (.int .u8 0)))]], [], [])) (by kernel_rfl) rfl (by kernel_rfl)) ?_
  intro W base args ds gs before hval hW _ hk _
  exact contract H enc W base args ds gs before hval hW hk
theorem over : Rows.frostNoncesUptoRow.holds Tryz.pinned (Rows.OpenSpec.upto Rows.frostNoncesSpec) :=
  OpenClaim.holds_of_cond 3 Tryz.f3 rfl rfl rfl rfl rfl rfl rfl ⟨rfl, rfl, rfl, rfl, rfl⟩ rfl rfl rfl rfl rfl (by kernel_rfl) Tryz.func3 (by kernel_rfl)
    (of_decide_eq_true (by kernel_rfl)) (by unfold Func.isWrapper; first | (rw [if_pos (by decide +kernel)]; kernel_rfl) | (rw [if_neg (by decide +kernel)]; exact ⟨rfl, rfl⟩))
    (fun os started H enc _ F => lifted os started H enc F)
theorem frostNonces_holds : Rows.FrostNoncesUptoSaid :=
  over
end Go.Proofs.YtfpkegodflloiaaGreat
