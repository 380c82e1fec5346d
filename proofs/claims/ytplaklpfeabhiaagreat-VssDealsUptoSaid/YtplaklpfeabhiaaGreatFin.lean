/-
  any coefficients, any identifiers: commitments and shares
-/
import Derived.Test.YtplaklpfeabhiaaGreatRows
import Derived.Test.YtplaklpfeabhiaaGreatBf
import Derived.Test.YtplaklpfeabhiaaGreatAd
import Derived.WalkKit
import Derived.ProofKit
import Derived.OpenShut
import Derived.JoinedCond
namespace Go.Proofs.YtplaklpfeabhiaaGreat
open Go.Proofs.Tryz
open Go Go.AM Go.RowKit Go.ChangeShapes Go.WideShapes Go.ChangeAt
theorem own : ownKnob Tryz.prog.godebug = none := by kernel_rfl
theorem laidOut : laidOutB Tryz.prog = true := by kernel_rfl
theorem parF : Tryz.f3.params.toList = [22, 23] := by kernel_rfl
theorem resF : Tryz.f3.resultTypes = #[4] := by kernel_rfl
theorem readableF : ∀ t ∈ Tryz.f3.params.toList, Tryz.prog.readableRec t = true ∧ t < Tryz.prog.types.size := by
  intro t ht
  rw [parF] at ht
  simp only [List.mem_cons, List.not_mem_nil, or_false] at ht
  rcases ht with rfl | rfl
  · exact ⟨by kernel_rfl, of_decide_eq_true (by kernel_rfl)⟩
  · exact ⟨by kernel_rfl, of_decide_eq_true (by kernel_rfl)⟩
theorem bulk_pos {H : Type} (d : DataW H) : 1 ≤ Rows.uptoBulk d := by
  cases d with
  | lit l => cases l <;> simp [Rows.uptoBulk]
  | _ => simp [Rows.uptoBulk]
theorem bulk_len {H : Type} : ∀ (l : List (DataW H)), l.length ≤ Rows.uptoBulkAll l
  | [] => Nat.zero_le _
  | d :: r => by
    have h1 := bulk_pos d
    have h2 := bulk_len r
    simp only [List.length_cons, Rows.uptoBulkAll]
    omega
mutual
theorem bk_le {H : Type} : ∀ (d : DataW H), bk d ≤ Rows.uptoBulk d
  | .lit l => by cases l <;> simp [bk, Rows.uptoBulk]
  | .nil => by simp [bk, Rows.uptoBulk]
  | .ptr d => by simp [bk, Rows.uptoBulk]
  | .slice e t => by
    have := bkA_le e
    simp only [bk, Rows.uptoBulk]; omega
  | .agg p => by
    have := bkA_le p
    simp only [bk, Rows.uptoBulk]; omega
  | .iface _ d => by simp [bk, Rows.uptoBulk]
  | .map e => by simp [bk, Rows.uptoBulk]
  | .held _ => by simp [bk, Rows.uptoBulk]
theorem bkA_le {H : Type} : ∀ (l : List (DataW H)), bkA l ≤ Rows.uptoBulkAll l
  | [] => Nat.le_refl _
  | d :: r => by
    have h1 := bk_le d
    have h2 := bkA_le r
    simp only [bkA, Rows.uptoBulkAll]; omega
end
set_option maxRecDepth 100000 in
theorem contract (H : Type) (enc : TypeId × Value → H) (W : World) (base : Nat) (args : Array Value) (ds gs : List (DataW H)) (before : List MemPlace)
    (hval : ∀ (j : Nat) t v, Tryz.f3.params[j]? = some t → args[j]? = some v → Value.okWide Tryz.prog W .any base t v)
    (hW : DataW.Whole enc Tryz.prog Tryz.f3.params.toList Rows.vssDealsSpec.vars false W args.toList ds gs before) (hk : Rows.uptoSmall H (ds ++ gs) = true) :
    Calls Tryz.prog 3 args W fun e W' => ∃ v, e = .returned v ∧ Rows.vssDealsSpec.post enc Tryz.prog Tryz.f3 false true false false W args v W' := by
  have hW' := hW
  obtain ⟨p, q, hA0, hV, rfl, hfz, hnd⟩ := hW
  have hA : DataW.TrodAll enc Tryz.prog W 0 (fun _ => true) true Tryz.f3.params.toList args.toList ds p := hA0
  rw [parF] at hA
  obtain ⟨v0, vs0, d0, ds0, p0, q0, hargs, rfl, rfl, h0, r0⟩ := trodAll_cons hA
  obtain ⟨v1, vs1, d1, ds1, p1, q1, rfl, rfl, rfl, h1, r1⟩ := trodAll_cons r0
  obtain ⟨rfl, rfl, rfl⟩ := trodAll_nil r1
  obtain rfl : args = #[v0, v1] := by cases args; simp_all
  obtain ⟨rfl, rfl⟩ := trodVars_none hV
  have o0 : Value.okWide Tryz.prog W .any base 22 v0 := hval 0 22 v0 (by kernel_rfl) (by simp)
  have o1 : Value.okWide Tryz.prog W .any base 23 v1 := hval 1 23 v1 (by kernel_rfl) (by simp)
  have bkd : ∀ (i : Nat) (d : DataW H), [d0, d1][i]? = some d → bk d ≤ 1048576 := fun i d hd => by
    have hk' := of_decide_eq_true hk
    have h1 := bkA_le [d0, d1]
    have h2 := bk_mem (l := [d0, d1]) (List.mem_of_getElem? hd)
    simp only [List.append_nil] at hk'
    omega
  have t22 : Tryz.prog.underlying 22 = some (.slice 63) := by kernel_rfl
  obtain ⟨n0x, b0, hn0, rv0, hb0⟩ := arg_rows (fuel := 5) t22 (by kernel_rfl) o0 h0 (bkd 0 d0 rfl)
  have t23 : Tryz.prog.underlying 23 = some (.slice 3) := by kernel_rfl
  obtain ⟨n1x, b1, hn1, rv1, hb1⟩ := arg_runs (k := .i64) (z := 1) (fuel := 5) t23 (by kernel_rfl) o1 h1 (bkd 1 d1 rfl)
  have ha : ArgsOK noσ (prOf W) W [.sc (.vints true .u8 32 n0x b0), .sc (.vints true .i64 1 n1x b1)] [v0, v1] := by
    refine ⟨rfl, fun j a x e1 e2 => ?_⟩
    match j, e1, e2 with
    | 0, e1, e2 =>
      simp only [List.getElem?_cons_zero, Option.some.injEq] at e1 e2
      subst e1 e2; exact rv0
    | 1, e1, e2 =>
      simp only [List.getElem?_cons_succ, List.getElem?_cons_zero, Option.some.injEq] at e1 e2
      subst e1 e2; exact rv1
    | j + 2, e1, e2 => simp at e1
  have hc := law_calls at_rimelaw08_VssDeals c_ld (deals_pure (rowsB_t.2 hb0) hn0 hn1) ha
  refine hc.mono fun e W' hq => ?_
  obtain ⟨he, hbel⟩ := hq
  have u4 : Tryz.prog.underlying 4 = some .bool := by kernel_rfl
  refine ⟨_, he, post_below laidOut readableF rfl hW' rfl rfl (fun b sp hd => ?_) hbel (ok_one resF rfl (okWide_bool_mk u4 true))⟩
  rw [resF]
  exact trodAll_cons_mk (shut_bool u4 true) trodAll_mk0
set_option maxRecDepth 100000 in
theorem lifted (os : Os) (started : os.Started) (H : Type) (enc : TypeId × Value → H) (F : Stop.Interp) :
    ReturnsInHanded {} Tryz.checked os 3 .any ((Rows.OpenSpec.upto Rows.vssDealsSpec).pre6 enc Tryz.prog Tryz.f3 Rows.vssDealsUptoRow.domain false) (((Rows.OpenSpec.upto Rows.vssDealsSpec).at F).post enc Tryz.prog Tryz.f3 false true false false) := by
  refine returnsInHanded_of_cond (C := Tryz.checked) (s := Rows.OpenSpec.upto Rows.vssDealsSpec) (k := Rows.uptoSmall) rfl own started (by kernel_rfl) Tryz.func3
    (OpenSpec.witness (enc := enc) (C := Tryz.checked) (s := Rows.OpenSpec.upto Rows.vssDealsSpec) (k := Rows.uptoSmall) rfl false ⟨#[], #[.slice .none 0 0, .slice .none 0 0], []⟩ 8 (by kernel_rfl) (by kernel_rfl) (by kernel_rfl)
      (x := ([.nil, .nil], [], [])) (by kernel_rfl) rfl (by kernel_rfl)) ?_
  intro W base args ds gs before hval hW _ hk _
  exact contract H enc W base args ds gs before hval hW hk
theorem over : Rows.vssDealsUptoRow.holds Tryz.pinned (Rows.OpenSpec.upto Rows.vssDealsSpec) :=
  OpenClaim.holds_of_cond 3 Tryz.f3 rfl rfl rfl rfl rfl rfl rfl ⟨rfl, rfl, rfl, rfl, rfl⟩ rfl rfl rfl rfl rfl (by kernel_rfl) Tryz.func3 (by kernel_rfl)
    (of_decide_eq_true (by kernel_rfl)) (by unfold Func.isWrapper; first | (rw [if_pos (by decide +kernel)]; kernel_rfl) | (rw [if_neg (by decide +kernel)]; exact ⟨rfl, rfl⟩))
    (fun os started H enc _ F => lifted os started H enc F)
theorem vssDeals_holds : Rows.VssDealsUptoSaid :=
  over
end Go.Proofs.YtplaklpfeabhiaaGreat
