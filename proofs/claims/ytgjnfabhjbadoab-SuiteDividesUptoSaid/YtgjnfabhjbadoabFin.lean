/-
  The law SuiteDivides holds: whatever the bytes, the cut and the bytes behind, it answers true, and its arguments read as they did. Condition: what is handed in is of bulk at most 1048576.
-/
import Derived.Test.YtgjnfabhjbadoabRows
import Derived.Test.YtgjnfabhjbadoabEb
import Derived.Test.YtgjnfabhjbadoabBb
import Derived.WalkKit
import Derived.ProofKit
import Derived.OpenShut
import Derived.JoinedCond
namespace Go.Proofs.Ytgjnfabhjbadoab
open Go.Proofs.Try
open Go Go.AM Go.RowKit Go.ChangeShapes Go.WideShapes Go.ChangeAt
theorem own : ownKnob Try.prog.godebug = none := by kernel_rfl
theorem laidOut : laidOutB Try.prog = true := by kernel_rfl
theorem parF : Try.f3.params.toList = [22, 3, 22] := by kernel_rfl
theorem resF : Try.f3.resultTypes = #[4] := by kernel_rfl
theorem readableF : ∀ t ∈ Try.f3.params.toList, Try.prog.readableRec t = true ∧ t < Try.prog.types.size := by
  intro t ht
  rw [parF] at ht
  simp only [List.mem_cons, List.not_mem_nil, or_false] at ht
  rcases ht with rfl | rfl | rfl
  · exact ⟨by kernel_rfl, of_decide_eq_true (by kernel_rfl)⟩
  · exact ⟨by kernel_rfl, of_decide_eq_true (by kernel_rfl)⟩
  · exact ⟨by kernel_rfl, of_decide_eq_true (by kernel_rfl)⟩
theorem bulk_pos {H : Type} (d : DataW H) : 1 ≤ Rows.uptoBulk d := by
  cases d with
  | lit l => cases l <;> simp [Rows.uptoBulk]
  | _ => simp [Rows.uptoBulk]
theorem bulk_len {H : Type} : ∀ (l : List (DataW H)), l.length ≤ Rows.uptoBulkAll l
  | [] => Nat.zero_le _
  | d :: r => by
    have h1 := bulk_pos d
    have h2 := bulk_len r
    simp only [List.length_cons, Rows.uptoBulkAll]
    omega
set_option maxRecDepth 100000 in
theorem contract (H : Type) (enc : TypeId × Value → H) (W : World) (base : Nat) (args : Array Value) (ds gs : List (DataW H)) (before : List MemPlace)
    (hval : ∀ (j : Nat) t v, Try.f3.params[j]? = some t → args[j]? = some v → Value.okWide Try.prog W .any base t v)
    (hW : DataW.Whole enc Try.prog Try.f3.params.toList Rows.suiteDividesSpec.vars false W args.toList ds gs before) (hk : Rows.uptoSmall H (ds ++ gs) = true) :
    Calls Try.prog 3 args W fun e W' => ∃ v, e = .returned v ∧ Rows.suiteDividesSpec.post enc Try.prog Try.f3 false true false false W args v W' := by
  have hW' := hW
  obtain ⟨p, q, hA0, hV, rfl, hfz, hnd⟩ := hW
  have hA : DataW.TrodAll enc Try.prog W 0 (fun _ => true) true Try.f3.params.toList args.toList ds p := hA0
  rw [parF] at hA
  obtain ⟨v0, vs0, d0, ds0, p0, q0, hargs, rfl, rfl, h0, r0⟩ := trodAll_cons hA
  obtain ⟨v1, vs1, d1, ds1, p1, q1, rfl, rfl, rfl, h1, r1⟩ := trodAll_cons r0
  obtain ⟨v2, vs2, d2, ds2, p2, q2, rfl, rfl, rfl, h2, r2⟩ := trodAll_cons r1
  obtain ⟨rfl, rfl, rfl⟩ := trodAll_nil r2
  obtain rfl : args = #[v0, v1, v2] := by cases args; simp_all
  obtain ⟨rfl, rfl⟩ := trodVars_none hV
  have o0 : Value.okWide Try.prog W .any base 22 v0 := hval 0 22 v0 (by kernel_rfl) (by simp)
  have o1 : Value.okWide Try.prog W .any base 3 v1 := hval 1 3 v1 (by kernel_rfl) (by simp)
  have o2 : Value.okWide Try.prog W .any base 22 v2 := hval 2 22 v2 (by kernel_rfl) (by simp)
  have t22 : Try.prog.underlying 22 = some (.slice 5) := by kernel_rfl
  have t5 : Try.prog.underlying 5 = some (.int .u8) := by kernel_rfl
  have n5 : Try.prog.cellsOf 5 = 1 := by kernel_rfl
  obtain ⟨n0x, b0, rv0, hb0, hn0⟩ := arg_bytes t22 t5 n5 o0 h0
  have t3 : Try.prog.underlying 3 = some (.int .i64) := by kernel_rfl
  obtain ⟨i1, rfl, rfl, rfl, w1⟩ := open_int t3 o1 h1
  obtain ⟨n2x, b2, rv2, hb2, hn2⟩ := arg_bytes t22 t5 n5 o2 h2
  have hbulk0 : n0x ≤ 1048576 := by
    rcases hn0 with rfl | ⟨E, S, rfl, rfl⟩
    · exact Nat.zero_le _
    · have hk' := of_decide_eq_true hk
      have hl := bulk_len E
      simp only [List.append_nil, Rows.uptoBulkAll, Rows.uptoBulk] at hk'
      omega
  have hbulk2 : n2x ≤ 1048576 := by
    rcases hn2 with rfl | ⟨E, S, rfl, rfl⟩
    · exact Nat.zero_le _
    · have hk' := of_decide_eq_true hk
      have hl := bulk_len E
      simp only [List.append_nil, Rows.uptoBulkAll, Rows.uptoBulk] at hk'
      omega
  have ha : ArgsOK noσ (prOf W) W [.sc (.vints true .u8 1 n0x b0), .sc (.int .i64 i1), .sc (.vints true .u8 1 n2x b2)] [v0, .int .i64 i1, v2] := by
    refine ⟨rfl, fun j a x e1 e2 => ?_⟩
    match j, e1, e2 with
    | 0, e1, e2 =>
      simp only [List.getElem?_cons_zero, Option.some.injEq] at e1 e2
      subst e1 e2; exact rv0
    | 1, e1, e2 =>
      simp only [List.getElem?_cons_succ, List.getElem?_cons_zero, Option.some.injEq] at e1 e2
      subst e1 e2; exact RV.of_sc .int
    | 2, e1, e2 =>
      simp only [List.getElem?_cons_succ, List.getElem?_cons_zero, Option.some.injEq] at e1 e2
      subst e1 e2; exact rv2
    | j + 3, e1, e2 => simp at e1
  have hc := law_calls at_rimelaw06_SuiteDivides c_div (law_pure i1 hbulk0 hbulk2) ha
  refine hc.mono fun e W' hq => ?_
  obtain ⟨he, hbel⟩ := hq
  have u4 : Try.prog.underlying 4 = some .bool := by kernel_rfl
  refine ⟨_, he, post_below laidOut readableF rfl hW' rfl rfl (fun b sp hd => ?_) hbel (ok_one resF rfl (okWide_bool_mk u4 true))⟩
  rw [resF]
  exact trodAll_cons_mk (shut_bool u4 true) trodAll_mk0
set_option maxRecDepth 100000 in
theorem lifted (os : Os) (started : os.Started) (H : Type) (enc : TypeId × Value → H) (F : Stop.Interp) :
    ReturnsInHanded {} Try.checked os 3 .any ((Rows.OpenSpec.upto Rows.suiteDividesSpec).pre6 enc Try.prog Try.f3 Rows.suiteDividesUptoRow.domain false) (((Rows.OpenSpec.upto Rows.suiteDividesSpec).at F).post enc Try.prog Try.f3 false true false false) := by
  refine returnsInHanded_of_cond (C := Try.checked) (s := Rows.OpenSpec.upto Rows.suiteDividesSpec) (k := Rows.uptoSmall) rfl own started (by kernel_rfl) Try.func3
    (OpenSpec.witness (enc := enc) (C := Try.checked) (s := Rows.OpenSpec.upto Rows.suiteDividesSpec) (k := Rows.uptoSmall) rfl false ⟨#[], #[.slice .none 0 0, .int .i64 0, .slice .none 0 0], []⟩ 8 (by kernel_rfl) (by kernel_rfl) (by kernel_rfl)
      (x := ([.nil, .lit (.int .i64 0), .nil], [], [])) (by kernel_rfl) rfl (by kernel_rfl)) ?_
  intro W base args ds gs before hval hW _ hk _
  exact contract H enc W base args ds gs before hval hW hk
theorem over : Rows.suiteDividesUptoRow.holds Try.pinned (Rows.OpenSpec.upto Rows.suiteDividesSpec) :=
  OpenClaim.holds_of_cond 3 Try.f3 rfl rfl rfl rfl rfl rfl rfl ⟨rfl, rfl, rfl, rfl, rfl⟩ rfl rfl rfl rfl rfl (by kernel_rfl) Try.func3 (by kernel_rfl)
    (of_decide_eq_true (by kernel_rfl)) (by unfold Func.isWrapper; first | (rw [if_pos (by decide +kernel)]; kernel_rfl) | (rw [if_neg (by decide +kernel)]; exact ⟨rfl, rfl⟩))
    (fun os started H enc _ F => lifted os started H enc F)
theorem suiteDivides_holds : Rows.SuiteDividesUptoSaid :=
  over
end Go.Proofs.Ytgjnfabhjbadoab
