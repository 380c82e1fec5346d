/-
  From a law's row to what is said of the law.
-/
import Derived.Test.YtkifoidhmipacaaGreatAd
import Derived.Test.YtkifoidhmipacaaGreatBa
import Derived.OpenShut
import Derived.Carry
import Derived.ChangeSame
namespace Go.AM
open Go Go.RowKit Go.ChangeShapes Go.WideShapes

section
variable {H : Type} {enc : TypeId × Value → H} {P : Program}

theorem trodAll_stays (hl : laidOutB P = true) {W W' : World} (hb : Below W.heap.size W W') {sp : Nat → Bool} : ∀ {ts : List TypeId} {vs : List Value} {ds : List (DataW H)} {ps : List MemPlace}, (∀ t ∈ ts, P.readableRec t = true ∧ t < P.types.size) →
    DataW.TrodAll enc P W 0 (fun _ => true) true ts vs ds ps → (∀ x ∈ ps, x.block < W.heap.size) → (∀ x ∈ ps, sp x.block = true) → DataW.TrodAll enc P W' 0 sp true ts vs ds ps
  | [], vs, ds, ps, ht, h, hlt, hs => by
    obtain ⟨rfl, rfl, rfl⟩ := trodAll_nil h
    exact trodAll_mk0
  | t :: ts, vs, ds, ps, ht, h, hlt, hs => by
    obtain ⟨v, vs', d, ds', p, q, rfl, rfl, rfl, h1, h2⟩ := trodAll_cons h
    obtain ⟨r1, r2⟩ := ht t (by simp)
    exact trodAll_cons_mk (WideElems.Trod_stays hl r1 r2 h1 (fun x hx => hb.same (hlt x (by simp [hx]))) (fun x hx => hs x (by simp [hx])))
      (trodAll_stays hl hb (fun t' ht' => ht t' (by simp [ht'])) h2 (fun x hx => hlt x (by simp [hx])) (fun x hx => hs x (by simp [hx])))

theorem post_below {f : Func} {s : ChangeSpec} {fresh handsOn again : Bool} {W W' : World} {args : Array Value} {v : Value} {ds gs : List (DataW H)} {before : List MemPlace} (hl : laidOutB P = true) (hpar : ∀ t ∈ f.params.toList, P.readableRec t = true ∧ t < P.types.size)
    (hvars : s.vars = []) (hW : DataW.Whole enc P f.params.toList s.vars false W args.toList ds gs before) (hargs : (s.fn H (ds ++ gs)).args = ds) (hv : (s.fn H (ds ++ gs)).vars = [])
    (hres : ∀ (b : Nat) (sp : Nat → Bool) (hd : Bool), DataW.TrodAll enc P W' b sp hd f.resultTypes.toList (v.resultList f.resultTypes.size) (s.fn H (ds ++ gs)).results [])
    (hb : Below W.heap.size W W') (hok : ∀ (j : Nat) (t : TypeId) (r : Value), f.resultTypes[j]? = some t → (v.resultList f.resultTypes.size)[j]? = some r → Value.okWide P W' .any 0 t r) :
    s.post enc P f false fresh handsOn again W args v W' := by
  have hlt : ∀ p ∈ before, p.block < W.heap.size := fun p hp => hW.lt p hp
  have hW0 := hW
  obtain ⟨p, q, hA, hV, hpq, hz, hn⟩ := hW
  rw [hvars] at hV
  obtain ⟨hg, hq⟩ := trodVars_none hV
  subst hq
  rw [List.append_nil] at hpq
  subst hpq
  have hA' : ∀ sp : Nat → Bool, (∀ x ∈ before, sp x.block = true) → DataW.TrodAll enc P W' 0 sp true f.params.toList args.toList (s.fn H (ds ++ gs)).args before := fun sp hs => by
    rw [hargs]; exact trodAll_stays hl hb hpar hA hlt hs
  have hV' : ∀ sp : Nat → Bool, DataW.TrodVars enc P W' sp s.vars (s.fn H (ds ++ gs)).vars [] := fun sp => by
    rw [hvars, hv]; rfl
  have hold : ∀ p ∈ before, (fun b => decide (b < W.heap.size)) p.block = true := fun p hp => by simpa using hlt p hp
  refine ⟨ds, gs, before, [], before, [], hW0, hres _ _ _, hA' _ hold, hV' _, hb.frame _, fun _ => ?_⟩
  refine ⟨hok, _, _, ([] ++ before) ++ [], ⟨[] ++ before, [], trodAll_append (hA' _ (fun _ _ => rfl)) (hres _ _ _), hV' _, rfl, ?_, ?_⟩, ?_⟩
  · intro b off hp
    have hp' : MemPlace.cell b off ∈ before := by simpa using hp
    rw [hb.frozen (p := ⟨b, off, none⟩) (hlt _ hp')]
    exact hz b off hp'
  · intro ha; cases ha
  · intro p hp _
    simpa using hp

/-- what lies below the heap's end is to be read alone -/
def prOf (W : World) : Pr := fun _ b => b < W.heap.size

theorem cell_lt {W : World} {b off : Nat} {v : Value} (h : W.cell? ⟨b, off, none⟩ = some v) : b < W.heap.size := by
  rcases Nat.lt_or_ge b W.heap.size with h1 | h1
  · exact h1
  · have : W.heap[b]? = none := Array.getElem?_eq_none h1
    simp [World.cell?, this] at h

theorem wf_u8 {n : Int} (h : (Lit.int .u8 n).wf = true) : 0 ≤ n ∧ n < 256 := by
  simp [Lit.wf, IntKind.min, IntKind.max, IntKind.signed, IntKind.bits] at h
  omega

theorem arg_bytes {W : World} {t e : TypeId} {r : Reach} {b0 : Nat} {v : Value} {d : DataW H} {ps : List MemPlace} (ht : P.underlying t = some (.slice e)) (he : P.underlying e = some (.int .u8)) (hc : P.cellsOf e = 1)
    (hval : Value.okWide P W r b0 t v) (h : DataW.Trod enc P W 0 (fun _ => true) true t v d ps) :
    ∃ (n : Nat) (f : Nat → Nat → Int), RV noσ (prOf W) W (.sc (.vints true .u8 1 n f)) v ∧ areB (fun j => f j 0) n 0 = true ∧ (n = 0 ∨ ∃ E S, d = .slice E S ∧ E.length = n) := by
  obtain ⟨a, len, cap, rfl⟩ := okWide_slice ht hval
  obtain ⟨fuel, hf⟩ := h
  have hcells : (Value.slice a len cap).cells.toList = [.slice a len cap] := rfl
  rw [hcells] at hf
  rcases open_ints ht he hc hf with ⟨h1, h2⟩ | ⟨a', len', cap', zs, h1, _, h3, h4, h5, h6, h7, h8⟩
  · simp only [List.cons.injEq, Value.slice.injEq, and_true] at h1
    obtain ⟨rfl, rfl, rfl⟩ := h1
    exact ⟨0, fun _ _ => 0, RV.of_sc .vints0, rfl, .inl rfl⟩
  · simp only [List.cons.injEq, Value.slice.injEq, and_true] at h1
    obtain ⟨rfl, rfl, rfl⟩ := h1
    simp only [Prod.mk.injEq] at h6
    simp only [if_true] at h5
    refine ⟨len, fun j _ => zs.getD j 0, ?_, ?_, ?_⟩
    · by_cases h0 : len = 0
      · subst h0; exact RV.of_sc .vints0
      · obtain ⟨b, off, rfl, hcell⟩ := ints_at h7 (by omega)
        refine RV.of_sc (.vints (cell_lt (hcell 0 (by omega))) (fun j hj c hc => ?_) h3)
        obtain rfl : c = 0 := by omega
        rw [Nat.mul_one, Nat.add_zero]
        exact hcell j (by omega)
    · refine areB_mk fun i hi => ?_
      rw [Nat.zero_add]
      have hlt : i < zs.length := by omega
      have : zs.getD i 0 ∈ zs := by
        have e : zs.getD i 0 = zs[i] := by simp [List.getD, hlt]
        rw [e]; exact List.getElem_mem hlt
      exact wf_u8 (h8 _ this)
    · refine .inr ⟨_, _, h6.1, ?_⟩
      simp [lits]; omega

theorem arg_array {W : World} {t e : TypeId} {r : Reach} {b0 m : Nat} {v : Value} {d : DataW H} {ps : List MemPlace} (ht : P.underlying t = some (.array m e)) (he : P.underlying e = some (.int .u8)) (hc : P.cellsOf e = 1) (hct : P.cellsOf t = m)
    (hval : Value.okWide P W r b0 t v) (h : DataW.Trod enc P W 0 (fun _ => true) true t v d ps) :
    ∃ s : Nat → Int, RV noσ (prOf W) W (.agg [.ints .u8 m s]) v ∧ areB s m 0 = true := by
  have hv : ∃ cs, v = .agg cs := by
    simp only [Value.okWide, ht] at hval
    obtain ⟨cs, h1, _⟩ := hval
    exact ⟨cs, h1⟩
  obtain ⟨cs, rfl⟩ := hv
  obtain ⟨fuel, hf⟩ := h
  have hcells : (Value.agg cs).cells.toList = cs.toList := rfl
  rw [hcells] at hf
  obtain ⟨xs, k, _, _, hlen, hxl, hel⟩ := DataW.trod_array ht hf
  have each : ∀ i, i < m → ∃ n, cs.toList[i]? = some (.int .u8 n) ∧ (Lit.int .u8 n).wf = true := fun i hi => by
    have h1 := hel i hi
    rw [hc, Nat.mul_one, List.getElem?_eq_getElem (by omega)] at h1
    obtain ⟨n, h2, _, h3⟩ := DataW.trod_int he h1
    refine ⟨n, ?_, h3⟩
    have h4 := congrArg (fun l => l[0]?) h2
    simp only [List.getElem?_cons_zero, List.getElem?_take, List.getElem?_drop, Nat.lt_one_iff, if_true, Nat.add_zero] at h4
    exact h4
  have hlen2 : cs.toList.length = m := by
    have hm : cs.toList.length ≥ m := by
      rcases Nat.eq_zero_or_pos m with h0 | h0
      · omega
      · obtain ⟨n, h1, _⟩ := each (m - 1) (by omega)
        have := (List.getElem?_eq_some_iff.1 h1).1
        omega
    rw [hlen, hct]
  refine ⟨fun i => match cs.toList[i]? with | some (.int _ n) => n | _ => 0, RV.of_agg ⟨?_, fun c u hu => ?_⟩, areB_mk fun i hi => ?_⟩
  · rw [hlen2]; simp [lenS]
  · have hc' : c < m := by rw [← hlen2]; exact (List.getElem?_eq_some_iff.1 hu).1
    obtain ⟨n, h1, _⟩ := each c hc'
    rw [h1] at hu
    simp only [Option.some.injEq] at hu
    subst hu
    show RS noσ (prOf W) W (.int .u8 (match cs.toList[c]? with | some (.int _ n) => n | _ => 0)) (.int .u8 n)
    rw [h1]
    exact .int
  · rw [Nat.zero_add]
    obtain ⟨n, h1, h2⟩ := each i hi
    rw [h1]
    exact wf_u8 h2

/-- a law's row, as a call -/
theorem law_calls {tt : TT} {ts : List (Nat × TF)} {ws : List (Nat × WF)} {f : FuncId} {fn : Func} (hf : P.funcs[f]? = some fn) (hc : fnChk P (envP tt ts ws) fn = true) {args : List AV} (hP : Pure P f args (.sc (.bool true))) {W : World} {vs : List Value}
    (ha : ArgsOK noσ (prOf W) W args vs) : Calls P f vs.toArray W fun e W' => e = .returned (.bool true) ∧ Below W.heap.size W W' := by
  obtain ⟨h1, h2⟩ := fnChk_spec hc hf
  rcases hP (prOf W) W vs ha (fun t b h => h) with ⟨val, q1, q2⟩ | ⟨q1, q2⟩
  · rw [h1] at q1; cases q1
  · refine q2.mono fun e W' hq => ?_
    obtain ⟨val, he, hb, hv⟩ := hq
    have hv : RS _ _ W' (.bool true) val := hv
    cases hv
    exact ⟨he, hb⟩
end
end Go.AM
