/-
  The law SuiteDivides: what is reckoned is true.
-/
import Derived.Test.YtgjnfabhjbadoabEa
namespace Go.Proofs.Ytgjnfabhjbadoab
open Go.Proofs.Try
open Go Go.AM
theorem hDig_CE (w : List UInt8) {l l' : List (Nat × (Nat → Int))} (h : CE l l') : hDig w l = hDig w l' := congrArg lf ((CE.cons h fun _ _ => rfl).dig _ _)
theorem hNum_CE (w : List UInt8) {l l' : List (Nat × (Nat → Int))} (h : CE l l') : hNum w l = hNum w l' := by unfold hNum; rw [hDig_CE w h]
theorem hDig_CE2 {w w' : List UInt8} {l l' : List (Nat × (Nat → Int))} (h : CE (wP w :: l) (wP w' :: l')) : hDig w l = hDig w' l' := congrArg lf (h.dig _ _)
theorem hNum_CE2 {w w' : List UInt8} {l l' : List (Nat × (Nat → Int))} (h : CE (wP w :: l) (wP w' :: l')) : hNum w l = hNum w' l' := by unfold hNum; rw [hDig_CE2 h]
theorem ce_word (w : List UInt8) (a b : List Int) (h : (a.length + b.length, catF a.length (qW a).2 (qW b).2) = (w.length, catF a.length (qW a).2 (qW b).2)) (h2 : ∀ j, j < w.length → wF w j = catF a.length (qW a).2 (qW b).2 j) (l : List (Nat × (Nat → Int))) :
    CE (wP w :: l) (wP [] :: qW a :: qW b :: l) := by
  refine CE.trans ?_ (CE.nil _ _)
  refine CE.trans ?_ (CE.join a.length b.length (qW a).2 (qW b).2 l).symm
  rw [show a.length + b.length = w.length from congrArg Prod.fst h]
  exact CE.cons (CE.refl l) h2
theorem ce_word2 (l : List (Nat × (Nat → Int))) : CE (wP rhoB :: qW xI :: l) (wP [] :: qW ctxI :: qW rhoxI :: l) := by
  refine CE.trans (CE.join 26 1 (wF rhoB) (qW xI).2 l) ?_
  refine CE.trans ?_ (CE.nil _ _)
  refine CE.trans ?_ (CE.join 23 4 (qW ctxI).2 (qW rhoxI).2 l).symm
  exact CE.cons (CE.refl l) (by decide)
theorem dv_range {i : Int} {n : Nat} (hn : n ≤ 1048576) : dvM n = (n : Int) + 1 ∧ -((n : Int)) ≤ dvR i n ∧ dvR i n ≤ n := by
  have e : dvM n = (n : Int) + 1 := wr_i64 (by omega) (by omega)
  refine ⟨e, ?_⟩
  unfold dvR
  rw [e]
  have h1 := Int.tmod_lt_of_pos i (b := (n : Int) + 1) (by omega)
  have h2 := Int.tmod_lt_of_pos (-i) (b := (n : Int) + 1) (by omega)
  rw [Int.neg_tmod] at h2
  omega
theorem div_t {i : Int} {n m : Nat} {b c : Nat → Nat → Int} (hn : n ≤ 1048576) (hm : m ≤ 1048576) (hs : decide (dvR i n < 0) = true) : ckL (dCkt n m b c i) = true ∧ dValt n b = true := by
  obtain ⟨eM, r1, r2⟩ := dv_range (i := i) hn
  have hx : 0 ≤ dvX true i n ∧ dvX true i n ≤ n := by
    have h : dvR i n < 0 := of_decide_eq_true hs
    have q1 : wr .i64 (dvR i n + (n : Int)) = dvR i n + n := wr_i64 (by omega) (by omega)
    have q2 : wr .i64 (dvR i n + (n : Int) + 1) = dvR i n + n + 1 := wr_i64 (by omega) (by omega)
    show 0 ≤ wr .i64 (wr .i64 (dvR i n + (n : Int)) + 1) ∧ wr .i64 (wr .i64 (dvR i n + (n : Int)) + 1) ≤ n
    rw [q1, q2]
    omega
  have x1 : inB (dvX true i n) (n : Int) = true := by simp only [inB, decide_eq_true hx.1, decide_eq_true hx.2, Bool.and_self]
  have x0 : (!decide (dvM n = 0)) = true := by rw [decide_eq_false (by omega)]; rfl
  unfold dCkt dValt
  generalize dvX true i n = x at *
  have hk : x.toNat ≤ n := by omega
  have hx2 : (x.toNat : Int) ≤ n := by omega
  have e1 : CE [qB n b] [qL x b, qR x n b] := CE.split hk (fun j _ => by show b (0 + j) 0 = b j 0; rw [Nat.zero_add]) (fun j _ => rfl) []
  have e2 : CE [qB n b] [qL x b, qN, qR x n b] := e1.trans (CE.cons (CE.nil _ _) fun _ _ => rfl)
  have e3 : CE [qB n b, qB m c] [qL x b, qR x n b, qB m c] := CE.split hk (fun j _ => by show b (0 + j) 0 = b j 0; rw [Nat.zero_add]) (fun j _ => rfl) [qB m c]
  have n1 : ∀ w, hNum w [qL x b, qR x n b] = hNum w [qB n b] := fun w => (hNum_CE w e1).symm
  have n2 : ∀ w, hNum w [qL x b, qN, qR x n b] = hNum w [qB n b] := fun w => (hNum_CE w e2).symm
  have n3 : ∀ w, hNum w [qL x b, qR x n b, qB m c] = hNum w [qB n b, qB m c] := fun w => (hNum_CE w e3).symm
  have d1 : ∀ w, hDig w [qL x b, qR x n b] = hDig w [qB n b] := fun w => (hDig_CE w e1).symm
  have d3 : ∀ w, hDig w [qL x b, qR x n b, qB m c] = hDig w [qB n b, qB m c] := fun w => (hDig_CE w e3).symm
  have w1 : hNum [] [qW ctxI, qW rhoI, qB n b] = hNum rhoB [qB n b] := (hNum_CE2 (ce_word rhoB ctxI rhoI rfl (by decide) _)).symm
  have w2 : hNum [] [qW ctxI, qW nonI, qB n b] = hNum nonB [qB n b] := (hNum_CE2 (ce_word nonB ctxI nonI rfl (by decide) _)).symm
  have w3 : hNum [] [qW ctxI, qW rhoxI, qB n b] = hNum rhoB [qW xI, qB n b] := (hNum_CE2 (ce_word2 _)).symm
  have T : ∀ {k : Nat}, k ≤ 3000000 → okTot k = true := fun h => Nat.ble_eq_true_of_le (by omega)
  have t1 : ∀ w : List UInt8, w.length ≤ 100 → okTot (catL (wP w :: [qB n b])).1 = true := fun w hw => T (by show w.length + (n + 0) ≤ _; omega)
  have t2 : ∀ w : List UInt8, w.length ≤ 100 → okTot (catL (wP w :: [qL x b, qR x n b])).1 = true := fun w hw => T (by show w.length + (x.toNat - 0 + (n - x.toNat + 0)) ≤ _; omega)
  have t3 : ∀ w : List UInt8, w.length ≤ 100 → okTot (catL (wP w :: [qL x b, qN, qR x n b])).1 = true := fun w hw => T (by show w.length + (x.toNat - 0 + (0 + (n - x.toNat + 0))) ≤ _; omega)
  have t4 : ∀ w : List UInt8, w.length ≤ 100 → okTot (catL (wP w :: [qL x b, qR x n b, qB m c])).1 = true := fun w hw => T (by show w.length + (x.toNat - 0 + (n - x.toNat + (m + 0))) ≤ _; omega)
  have t5 : ∀ w : List UInt8, w.length ≤ 100 → okTot (catL (wP w :: [qB n b, qB m c])).1 = true := fun w hw => T (by show w.length + (n + (m + 0)) ≤ _; omega)
  have t6 : ∀ (w : List UInt8) (a a' : List Int), w.length ≤ 100 → a.length ≤ 100 → a'.length ≤ 100 → okTot (catL (wP w :: [qW a, qW a', qB n b])).1 = true := fun w a a' hw ha ha' => T (by show w.length + (a.length + (a'.length + (n + 0))) ≤ _; omega)
  have t7 : ∀ (w : List UInt8) (a : List Int), w.length ≤ 100 → a.length ≤ 100 → okTot (catL (wP w :: [qW a, qB n b])).1 = true := fun w a hw ha => T (by show w.length + (a.length + (n + 0)) ≤ _; omega)
  refine ⟨?_, ?_⟩
  · rw [x0, hs, x1, n1, n2, n3, d1, d3, w1, w2, t1 rhoB (by decide), t2 rhoB (by decide), t1 [] (by decide), t3 [] (by decide), t4 nonB (by decide), t5 nonB (by decide), t5 msgB (by decide), t4 msgB (by decide), t1 comB (by decide), t2 comB (by decide),
      t6 [] ctxI rhoI (by decide) (by decide) (by decide), t6 [] ctxI nonI (by decide) (by decide) (by decide), t1 nonB (by decide), t7 rhoB xI (by decide) (by decide), t6 [] ctxI rhoxI (by decide) (by decide) (by decide)]
    simp only [eqN_refl]
    rfl
  · rw [w3, eqN_refl]; rfl
theorem div_f {i : Int} {n m : Nat} {b c : Nat → Nat → Int} (hn : n ≤ 1048576) (hm : m ≤ 1048576) (hs : decide (dvR i n < 0) = false) : ckL (dCkf n m b c i) = true ∧ dValf n b = true := by
  obtain ⟨eM, r1, r2⟩ := dv_range (i := i) hn
  have hx : 0 ≤ dvX false i n ∧ dvX false i n ≤ n := by
    have h : ¬ dvR i n < 0 := of_decide_eq_false hs
    show 0 ≤ dvR i n ∧ dvR i n ≤ n
    omega
  have x1 : inB (dvX false i n) (n : Int) = true := by simp only [inB, decide_eq_true hx.1, decide_eq_true hx.2, Bool.and_self]
  have x0 : (!decide (dvM n = 0)) = true := by rw [decide_eq_false (by omega)]; rfl
  unfold dCkf dValf
  generalize dvX false i n = x at *
  have hk : x.toNat ≤ n := by omega
  have hx2 : (x.toNat : Int) ≤ n := by omega
  have e1 : CE [qB n b] [qL x b, qR x n b] := CE.split hk (fun j _ => by show b (0 + j) 0 = b j 0; rw [Nat.zero_add]) (fun j _ => rfl) []
  have e2 : CE [qB n b] [qL x b, qN, qR x n b] := e1.trans (CE.cons (CE.nil _ _) fun _ _ => rfl)
  have e3 : CE [qB n b, qB m c] [qL x b, qR x n b, qB m c] := CE.split hk (fun j _ => by show b (0 + j) 0 = b j 0; rw [Nat.zero_add]) (fun j _ => rfl) [qB m c]
  have n1 : ∀ w, hNum w [qL x b, qR x n b] = hNum w [qB n b] := fun w => (hNum_CE w e1).symm
  have n2 : ∀ w, hNum w [qL x b, qN, qR x n b] = hNum w [qB n b] := fun w => (hNum_CE w e2).symm
  have n3 : ∀ w, hNum w [qL x b, qR x n b, qB m c] = hNum w [qB n b, qB m c] := fun w => (hNum_CE w e3).symm
  have d1 : ∀ w, hDig w [qL x b, qR x n b] = hDig w [qB n b] := fun w => (hDig_CE w e1).symm
  have d3 : ∀ w, hDig w [qL x b, qR x n b, qB m c] = hDig w [qB n b, qB m c] := fun w => (hDig_CE w e3).symm
  have w1 : hNum [] [qW ctxI, qW rhoI, qB n b] = hNum rhoB [qB n b] := (hNum_CE2 (ce_word rhoB ctxI rhoI rfl (by decide) _)).symm
  have w2 : hNum [] [qW ctxI, qW nonI, qB n b] = hNum nonB [qB n b] := (hNum_CE2 (ce_word nonB ctxI nonI rfl (by decide) _)).symm
  have w3 : hNum [] [qW ctxI, qW rhoxI, qB n b] = hNum rhoB [qW xI, qB n b] := (hNum_CE2 (ce_word2 _)).symm
  have T : ∀ {k : Nat}, k ≤ 3000000 → okTot k = true := fun h => Nat.ble_eq_true_of_le (by omega)
  have t1 : ∀ w : List UInt8, w.length ≤ 100 → okTot (catL (wP w :: [qB n b])).1 = true := fun w hw => T (by show w.length + (n + 0) ≤ _; omega)
  have t2 : ∀ w : List UInt8, w.length ≤ 100 → okTot (catL (wP w :: [qL x b, qR x n b])).1 = true := fun w hw => T (by show w.length + (x.toNat - 0 + (n - x.toNat + 0)) ≤ _; omega)
  have t3 : ∀ w : List UInt8, w.length ≤ 100 → okTot (catL (wP w :: [qL x b, qN, qR x n b])).1 = true := fun w hw => T (by show w.length + (x.toNat - 0 + (0 + (n - x.toNat + 0))) ≤ _; omega)
  have t4 : ∀ w : List UInt8, w.length ≤ 100 → okTot (catL (wP w :: [qL x b, qR x n b, qB m c])).1 = true := fun w hw => T (by show w.length + (x.toNat - 0 + (n - x.toNat + (m + 0))) ≤ _; omega)
  have t5 : ∀ w : List UInt8, w.length ≤ 100 → okTot (catL (wP w :: [qB n b, qB m c])).1 = true := fun w hw => T (by show w.length + (n + (m + 0)) ≤ _; omega)
  have t6 : ∀ (w : List UInt8) (a a' : List Int), w.length ≤ 100 → a.length ≤ 100 → a'.length ≤ 100 → okTot (catL (wP w :: [qW a, qW a', qB n b])).1 = true := fun w a a' hw ha ha' => T (by show w.length + (a.length + (a'.length + (n + 0))) ≤ _; omega)
  have t7 : ∀ (w : List UInt8) (a : List Int), w.length ≤ 100 → a.length ≤ 100 → okTot (catL (wP w :: [qW a, qB n b])).1 = true := fun w a hw ha => T (by show w.length + (a.length + (n + 0)) ≤ _; omega)
  refine ⟨?_, ?_⟩
  · rw [x0, hs, x1, n1, n2, n3, d1, d3, w1, w2, t1 rhoB (by decide), t2 rhoB (by decide), t1 [] (by decide), t3 [] (by decide), t4 nonB (by decide), t5 nonB (by decide), t5 msgB (by decide), t4 msgB (by decide), t1 comB (by decide), t2 comB (by decide),
      t6 [] ctxI rhoI (by decide) (by decide) (by decide), t6 [] ctxI nonI (by decide) (by decide) (by decide), t1 nonB (by decide), t7 rhoB xI (by decide) (by decide), t6 [] ctxI rhoxI (by decide) (by decide) (by decide)]
    simp only [eqN_refl]
    rfl
  · rw [w3, eqN_refl]; rfl
theorem law_pure {t t' : Bool} {n m : Nat} {b c : Nat → Nat → Int} (i : Int) (hn : n ≤ 1048576) (hm : m ≤ 1048576) :
    Pure prog F_rimelaw06_SuiteDivides [.sc (.vints t .u8 1 n b), .sc (.int .i64 i), .sc (.vints t' .u8 1 m c)] (.sc (.bool true)) := by
  cases hs : decide (dvR i n < 0) with
  | true =>
    obtain ⟨h1, h2⟩ := div_t (m := m) (b := b) (c := c) hn hm hs
    have e := both (k_divt2 t t' n m b c i) (k_divt1 t t' n m b c i)
    rw [h1, h2] at e
    exact pure_of_out DL1 at_rimelaw06_SuiteDivides c_div e
  | false =>
    obtain ⟨h1, h2⟩ := div_f (m := m) (b := b) (c := c) hn hm hs
    have e := both (k_divf2 t t' n m b c i) (k_divf1 t t' n m b c i)
    rw [h1, h2] at e
    exact pure_of_out DL1 at_rimelaw06_SuiteDivides c_div e
end Go.Proofs.Ytgjnfabhjbadoab
