/-
  From a law's row to what is said of the law. What a state is against itself; small helps. States whose blocks are named anew: what is made in a loop's round takes the place of what was made in the round before. Loops, whose first state is told by what is read of a state alone.
-/
import Derived.Test.YtgjnfabhjbadoabAd
import Derived.Test.YtgjnfabhjbadoabBa
import Derived.OpenShut
import Derived.Carry
import Derived.ChangeSame
namespace Go.AM
open Go Go.RowKit Go.ChangeShapes Go.WideShapes

section
variable {H : Type} {enc : TypeId × Value → H} {P : Program}

theorem trodAll_stays (hl : laidOutB P = true) {W W' : World} (hb : Below W.heap.size W W') {sp : Nat → Bool} : ∀ {ts : List TypeId} {vs : List Value} {ds : List (DataW H)} {ps : List MemPlace}, (∀ t ∈ ts, P.readableRec t = true ∧ t < P.types.size) →
    DataW.TrodAll enc P W 0 (fun _ => true) true ts vs ds ps → (∀ x ∈ ps, x.block < W.heap.size) → (∀ x ∈ ps, sp x.block = true) → DataW.TrodAll enc P W' 0 sp true ts vs ds ps
  | [], vs, ds, ps, ht, h, hlt, hs => by
    obtain ⟨rfl, rfl, rfl⟩ := trodAll_nil h
    exact trodAll_mk0
  | t :: ts, vs, ds, ps, ht, h, hlt, hs => by
    obtain ⟨v, vs', d, ds', p, q, rfl, rfl, rfl, h1, h2⟩ := trodAll_cons h
    obtain ⟨r1, r2⟩ := ht t (by simp)
    exact trodAll_cons_mk (WideElems.Trod_stays hl r1 r2 h1 (fun x hx => hb.same (hlt x (by simp [hx]))) (fun x hx => hs x (by simp [hx])))
      (trodAll_stays hl hb (fun t' ht' => ht t' (by simp [ht'])) h2 (fun x hx => hlt x (by simp [hx])) (fun x hx => hs x (by simp [hx])))

theorem post_below {f : Func} {s : ChangeSpec} {fresh handsOn again : Bool} {W W' : World} {args : Array Value} {v : Value} {ds gs : List (DataW H)} {before : List MemPlace} (hl : laidOutB P = true) (hpar : ∀ t ∈ f.params.toList, P.readableRec t = true ∧ t < P.types.size)
    (hvars : s.vars = []) (hW : DataW.Whole enc P f.params.toList s.vars false W args.toList ds gs before) (hargs : (s.fn H (ds ++ gs)).args = ds) (hv : (s.fn H (ds ++ gs)).vars = [])
    (hres : ∀ (b : Nat) (sp : Nat → Bool) (hd : Bool), DataW.TrodAll enc P W' b sp hd f.resultTypes.toList (v.resultList f.resultTypes.size) (s.fn H (ds ++ gs)).results [])
    (hb : Below W.heap.size W W') (hok : ∀ (j : Nat) (t : TypeId) (r : Value), f.resultTypes[j]? = some t → (v.resultList f.resultTypes.size)[j]? = some r → Value.okWide P W' .any 0 t r) :
    s.post enc P f false fresh handsOn again W args v W' := by
  have hlt : ∀ p ∈ before, p.block < W.heap.size := fun p hp => hW.lt p hp
  have hW0 := hW
  obtain ⟨p, q, hA, hV, hpq, hz, hn⟩ := hW
  rw [hvars] at hV
  obtain ⟨hg, hq⟩ := trodVars_none hV
  subst hq
  rw [List.append_nil] at hpq
  subst hpq
  have hA' : ∀ sp : Nat → Bool, (∀ x ∈ before, sp x.block = true) → DataW.TrodAll enc P W' 0 sp true f.params.toList args.toList (s.fn H (ds ++ gs)).args before := fun sp hs => by
    rw [hargs]; exact trodAll_stays hl hb hpar hA hlt hs
  have hV' : ∀ sp : Nat → Bool, DataW.TrodVars enc P W' sp s.vars (s.fn H (ds ++ gs)).vars [] := fun sp => by
    rw [hvars, hv]; rfl
  have hold : ∀ p ∈ before, (fun b => decide (b < W.heap.size)) p.block = true := fun p hp => by simpa using hlt p hp
  refine ⟨ds, gs, before, [], before, [], hW0, hres _ _ _, hA' _ hold, hV' _, hb.frame _, fun _ => ?_⟩
  refine ⟨hok, _, _, ([] ++ before) ++ [], ⟨[] ++ before, [], trodAll_append (hA' _ (fun _ _ => rfl)) (hres _ _ _), hV' _, rfl, ?_, ?_⟩, ?_⟩
  · intro b off hp
    have hp' : MemPlace.cell b off ∈ before := by simpa using hp
    rw [hb.frozen (p := ⟨b, off, none⟩) (hlt _ hp')]
    exact hz b off hp'
  · intro ha; cases ha
  · intro p hp _
    simpa using hp

/-- what lies below the heap's end is to be read alone -/
def prOf (W : World) : Pr := fun _ b => b < W.heap.size

theorem cell_lt {W : World} {b off : Nat} {v : Value} (h : W.cell? ⟨b, off, none⟩ = some v) : b < W.heap.size := by
  rcases Nat.lt_or_ge b W.heap.size with h1 | h1
  · exact h1
  · have : W.heap[b]? = none := Array.getElem?_eq_none h1
    simp [World.cell?, this] at h

theorem wf_u8 {n : Int} (h : (Lit.int .u8 n).wf = true) : 0 ≤ n ∧ n < 256 := by
  simp [Lit.wf, IntKind.min, IntKind.max, IntKind.signed, IntKind.bits] at h
  omega

theorem arg_bytes {W : World} {t e : TypeId} {r : Reach} {b0 : Nat} {v : Value} {d : DataW H} {ps : List MemPlace} (ht : P.underlying t = some (.slice e)) (he : P.underlying e = some (.int .u8)) (hc : P.cellsOf e = 1)
    (hval : Value.okWide P W r b0 t v) (h : DataW.Trod enc P W 0 (fun _ => true) true t v d ps) :
    ∃ (n : Nat) (f : Nat → Nat → Int), RV noσ (prOf W) W (.sc (.vints true .u8 1 n f)) v ∧ areB (fun j => f j 0) n 0 = true ∧ (n = 0 ∨ ∃ E S, d = .slice E S ∧ E.length = n) := by
  obtain ⟨a, len, cap, rfl⟩ := okWide_slice ht hval
  obtain ⟨fuel, hf⟩ := h
  have hcells : (Value.slice a len cap).cells.toList = [.slice a len cap] := rfl
  rw [hcells] at hf
  rcases open_ints ht he hc hf with ⟨h1, h2⟩ | ⟨a', len', cap', zs, h1, _, h3, h4, h5, h6, h7, h8⟩
  · simp only [List.cons.injEq, Value.slice.injEq, and_true] at h1
    obtain ⟨rfl, rfl, rfl⟩ := h1
    exact ⟨0, fun _ _ => 0, RV.of_sc .vints0, rfl, .inl rfl⟩
  · simp only [List.cons.injEq, Value.slice.injEq, and_true] at h1
    obtain ⟨rfl, rfl, rfl⟩ := h1
    simp only [Prod.mk.injEq] at h6
    simp only [if_true] at h5
    refine ⟨len, fun j _ => zs.getD j 0, ?_, ?_, ?_⟩
    · by_cases h0 : len = 0
      · subst h0; exact RV.of_sc .vints0
      · obtain ⟨b, off, rfl, hcell⟩ := ints_at h7 (by omega)
        refine RV.of_sc (.vints (cell_lt (hcell 0 (by omega))) (fun j hj c hc => ?_) h3)
        obtain rfl : c = 0 := by omega
        rw [Nat.mul_one, Nat.add_zero]
        exact hcell j (by omega)
    · refine areB_mk fun i hi => ?_
      rw [Nat.zero_add]
      have hlt : i < zs.length := by omega
      have : zs.getD i 0 ∈ zs := by
        have e : zs.getD i 0 = zs[i] := by simp [List.getD, hlt]
        rw [e]; exact List.getElem_mem hlt
      exact wf_u8 (h8 _ this)
    · refine .inr ⟨_, _, h6.1, ?_⟩
      simp [lits]; omega

theorem arg_array {W : World} {t e : TypeId} {r : Reach} {b0 m : Nat} {v : Value} {d : DataW H} {ps : List MemPlace} (ht : P.underlying t = some (.array m e)) (he : P.underlying e = some (.int .u8)) (hc : P.cellsOf e = 1) (hct : P.cellsOf t = m)
    (hval : Value.okWide P W r b0 t v) (h : DataW.Trod enc P W 0 (fun _ => true) true t v d ps) :
    ∃ s : Nat → Int, RV noσ (prOf W) W (.agg [.ints .u8 m s]) v ∧ areB s m 0 = true := by
  have hv : ∃ cs, v = .agg cs := by
    simp only [Value.okWide, ht] at hval
    obtain ⟨cs, h1, _⟩ := hval
    exact ⟨cs, h1⟩
  obtain ⟨cs, rfl⟩ := hv
  obtain ⟨fuel, hf⟩ := h
  have hcells : (Value.agg cs).cells.toList = cs.toList := rfl
  rw [hcells] at hf
  obtain ⟨xs, k, _, _, hlen, hxl, hel⟩ := DataW.trod_array ht hf
  have each : ∀ i, i < m → ∃ n, cs.toList[i]? = some (.int .u8 n) ∧ (Lit.int .u8 n).wf = true := fun i hi => by
    have h1 := hel i hi
    rw [hc, Nat.mul_one, List.getElem?_eq_getElem (by omega)] at h1
    obtain ⟨n, h2, _, h3⟩ := DataW.trod_int he h1
    refine ⟨n, ?_, h3⟩
    have h4 := congrArg (fun l => l[0]?) h2
    simp only [List.getElem?_cons_zero, List.getElem?_take, List.getElem?_drop, Nat.lt_one_iff, if_true, Nat.add_zero] at h4
    exact h4
  have hlen2 : cs.toList.length = m := by
    have hm : cs.toList.length ≥ m := by
      rcases Nat.eq_zero_or_pos m with h0 | h0
      · omega
      · obtain ⟨n, h1, _⟩ := each (m - 1) (by omega)
        have := (List.getElem?_eq_some_iff.1 h1).1
        omega
    rw [hlen, hct]
  refine ⟨fun i => match cs.toList[i]? with | some (.int _ n) => n | _ => 0, RV.of_agg ⟨?_, fun c u hu => ?_⟩, areB_mk fun i hi => ?_⟩
  · rw [hlen2]; simp [lenS]
  · have hc' : c < m := by rw [← hlen2]; exact (List.getElem?_eq_some_iff.1 hu).1
    obtain ⟨n, h1, _⟩ := each c hc'
    rw [h1] at hu
    simp only [Option.some.injEq] at hu
    subst hu
    show RS noσ (prOf W) W (.int .u8 (match cs.toList[c]? with | some (.int _ n) => n | _ => 0)) (.int .u8 n)
    rw [h1]
    exact .int
  · rw [Nat.zero_add]
    obtain ⟨n, h1, h2⟩ := each i hi
    rw [h1]
    exact wf_u8 h2

/-- a law's row, as a call -/
theorem law_calls {tt : TT} {ts : List (Nat × TF)} {ws : List (Nat × WF)} {f : FuncId} {fn : Func} (hf : P.funcs[f]? = some fn) (hc : fnChk P (envP tt ts ws) fn = true) {args : List AV} (hP : Pure P f args (.sc (.bool true))) {W : World} {vs : List Value}
    (ha : ArgsOK noσ (prOf W) W args vs) : Calls P f vs.toArray W fun e W' => e = .returned (.bool true) ∧ Below W.heap.size W W' := by
  obtain ⟨h1, h2⟩ := fnChk_spec hc hf
  rcases hP (prOf W) W vs ha (fun t b h => h) with ⟨val, q1, q2⟩ | ⟨q1, q2⟩
  · rw [h1] at q1; cases q1
  · refine q2.mono fun e W' hq => ?_
    obtain ⟨val, he, hb, hv⟩ := hq
    have hv : RS _ _ W' (.bool true) val := hv
    cases hv
    exact ⟨he, hb⟩
end
end Go.AM

namespace Go.AM
open Go

mutual
def okV (n : Nat) : SV → Bool
  | .int .. => true
  | .bit _ => true
  | .bool _ => true
  | .ptr id _ _ _ _ => Nat.ble (id + 1) n
  | .slice id _ _ _ _ _ => Nat.ble (id + 1) n
  | .vints .. => true
  | .vptr _ s => okG n s
  | .nilp => true
  | .nils => true
  | _ => false
def okG (n : Nat) : List Seg → Bool
  | [] => true
  | .ints .. :: r => okG n r
  | .one v :: r => okV n v && okG n r
end
theorem kEq_refl (k : IntKind) : kEq k k = true := by simp [kEq]
theorem nbeq_refl (n : Nat) : Nat.beq n n = true := beq_t.2 rfl
mutual
theorem okV_self {n : Nat} : ∀ (v : SV), okV n v = true → svB n v v = true
  | .int k x, _ => by simp [svB, kEq_refl]
  | .bit b, _ => by simp [svB]
  | .bool b, _ => by simp [svB]
  | .ptr .., h => by simp only [okV] at h; simp only [svB, nbeq_refl, h, Bool.and_self]
  | .slice .., h => by simp only [okV] at h; simp only [svB, nbeq_refl, h, Bool.and_self]
  | .vints .., _ => by simp [svB, kEq_refl, eqF_refl]
  | .vptr t s, h => by
    simp only [okV] at h
    simp only [svB, okG_self s h, beq_self_eq_true, Bool.and_self]
  | .nilp, _ => rfl
  | .nils, _ => rfl
  | .unk, h => by simp [okV] at h
  | .str _, h => by simp [okV] at h
  | .vrows .., h => by simp [okV] at h
  | .clo .., h => by simp [okV] at h
  | .raw _, h => by simp [okV] at h
theorem okG_self {n : Nat} : ∀ (s : List Seg), okG n s = true → segB n s s = true
  | [], _ => rfl
  | .ints k m f :: r, h => by
    simp only [okG] at h
    simp only [segB, kEq_refl, nbeq_refl, eqN_refl, okG_self r h, Bool.and_self]
  | .one v :: r, h => by
    simp only [okG, Bool.and_eq_true] at h
    simp only [segB, okV_self v h.1, okG_self r h.2, Bool.and_self]
end
def okA (n : Nat) : AV → Bool
  | .any => true
  | .sc v => okV n v
  | .agg s => okG n s
  | .tup [] => true
  | _ => false
def okT (n : Nat) : List AV → Bool
  | [] => true
  | a :: r => okA n a && okT n r
theorem okT_self {n : Nat} : ∀ (l : List AV), okT n l = true → tmB n l l = true
  | [], _ => rfl
  | a :: r, h => by
    simp only [okT, Bool.and_eq_true] at h
    have ha : avB n a a = true := by
      cases a with
      | any => rfl
      | sc v => exact okV_self v h.1
      | agg s => exact okG_self s h.1
      | tup l =>
        cases l with
        | nil => rfl
        | cons x l => simp [okA] at h
    simp only [tmB, ha, okT_self r h.2, Bool.and_self]
/-- the same places; memory compared -/
theorem stB_tm {tm : List AV} {h h' : Heap} (ht : okT h'.length tm = true) (hh : hpB h'.length h h' = true) : stB ⟨tm, h⟩ ⟨tm, h'⟩ = true := by
  simp only [stB, okT_self tm ht, hh, Bool.and_self]
theorem stBp_tm {p : Nat} {tm : List AV} {h h' : Heap} (ht : okT h'.length tm = true) (hh : hpB h'.length (h.drop p) (h'.drop p) = true) : stBp p ⟨tm, h⟩ ⟨tm, h'⟩ = true := by
  simp only [stBp, okT_self tm ht, hh, Bool.and_self]
theorem loop_of {fn : Func} {id : Nat} {B : Code} (h : fn.body.map (bodiesOf id) = some [.loop B]) : ∀ c, fn.body = some c → ∀ b ∈ bodiesOf id c, b = .loop B := by
  intro c hc b hb
  rw [hc] at h
  simp only [Option.map_some, Option.some.injEq] at h
  rw [h] at hb
  simpa using hb
theorem wr_i64 {x : Int} (h0 : -9223372036854775808 ≤ x) (h1 : x < 9223372036854775808) : wr .i64 x = x := by
  show IntKind.i64.wrap x = x
  rw [IntKind.wrap_i64]; omega
theorem inR_lt {k n : Nat} (h : k < n) : inR k n = true := by simp [inR]; omega
end Go.AM

namespace Go.AM
open Go Go.RowKit

/-- the blocks named anew: number id is what was number r id -/
def renG (σ : Sg) (r : Nat → Option Nat) (n : Nat) : Sg := fun id => if id < n then (match r id with | some j => σ j | none => none) else none
def SLeR (r : Nat → Option Nat) (n : Nat) (a b : SV) : Prop := ∀ (σ : Sg) (pr : Pr) (w : World) (x : Value), RS σ pr w a x → RS (renG σ r n) pr w b x
def ALeR (r : Nat → Option Nat) (n : Nat) (a b : AV) : Prop := ∀ (σ : Sg) (pr : Pr) (w : World) (x : Value), RV σ pr w a x → RV (renG σ r n) pr w b x
def BLeR (r : Nat → Option Nat) (n : Nat) (b c : Blk) : Prop := c.sz = b.sz ∧ c.n = b.n ∧ ∀ i, i < b.n → b.sz ≤ lenS (c.segs i) ∧ ∀ d, d < b.sz → SLeR r n (cellAt (b.segs i) d) (cellAt (c.segs i) d)

def rIs (r : Nat → Option Nat) (id id' : Nat) : Bool := match r id' with | some j => Nat.beq j id | none => false
theorem rIs_t {r : Nat → Option Nat} {id id' : Nat} (h : rIs r id id' = true) : r id' = some id := by
  unfold rIs at h
  split at h
  · rename_i j hj; rw [hj, beq_t.1 h]
  · simp at h

mutual
def svR (r : Nat → Option Nat) (n : Nat) : SV → SV → Bool
  | .int k a, .int k' b => kEq k k' && decide (a = b)
  | .bit a, .bit b => a == b
  | .bit a, .int k b => kEq k .u64 && decide (b2i a = b)
  | .bool a, .bool b => a == b
  | .str a, .str b => decide (a.data = b.data)
  | .ptr id sz i c ext, .ptr id' sz' i' c' ext' => rIs r id id' && (Nat.beq sz sz' && (Nat.beq i i' && (Nat.beq c c' && (Nat.beq ext ext' && Nat.ble (id' + 1) n))))
  | .slice id sz i c esz len, .slice id' sz' i' c' esz' len' => rIs r id id' && (Nat.beq sz sz' && (Nat.beq i i' && (Nat.beq c c' && (Nat.beq esz esz' && (Nat.beq len len' && Nat.ble (id' + 1) n)))))
  | .nils, .slice _ _ _ _ _ len' => Nat.beq len' 0
  | .nils, .vints _ _ _ len' _ => Nat.beq len' 0
  | .nils, .vrows _ _ len' _ => Nat.beq len' 0
  | .vints t k sz len f, .vints t' k' sz' len' g => (t == t' && (kEq k k' && (Nat.beq sz sz' && Nat.beq len len'))) && eqF len sz f g
  | .vrows t sz len row, .vrows t' sz' len' row' => (t == t' && (Nat.beq sz sz' && Nat.beq len len')) && (List.range len).all fun j => segR r n (row j) (row' j)
  | .vptr t s, .vptr t' s' => t == t' && segR r n s s'
  | .nilp, .nilp => true
  | .nils, .nils => true
  | _, _ => false
def segR (r : Nat → Option Nat) (n : Nat) : List Seg → List Seg → Bool
  | [], [] => true
  | .ints k m f :: l, .ints k' m' g :: l' => (kEq k k' && Nat.beq m m') && (eqN m f g && segR r n l l')
  | .one v :: l, .one v' :: l' => svR r n v v' && segR r n l l'
  | _, _ => false
end
def avR (r : Nat → Option Nat) (n : Nat) : AV → AV → Bool
  | _, .any => true
  | .sc a, .sc b => svR r n a b
  | .agg s, .agg s' => segR r n s s'
  | .tup [], .tup [] => true
  | _, _ => false
def tmR (r : Nat → Option Nat) (n : Nat) : List AV → List AV → Bool
  | [], [] => true
  | a :: l, b :: l' => avR r n a b && tmR r n l l'
  | _, _ => false
def blkR (r : Nat → Option Nat) (n : Nat) : Blk → Blk → Bool
  | .ints k sz m f, .ints k' sz' m' g => (kEq k k' && (Nat.beq sz sz' && Nat.beq m m')) && eqF m sz f g
  | .mix sz m row, .mix sz' m' row' => (Nat.beq sz sz' && Nat.beq m m') && (List.range m).all fun i => Nat.beq (lenS (row i)) sz && segR r n (row i) (row' i)
  | _, _ => false
/-- block number i on -/
def hpR (r : Nat → Option Nat) (n : Nat) (s : Heap) : Heap → Nat → Bool
  | [], _ => true
  | none :: l, i => hpR r n s l (i + 1)
  | some c :: l, i => (match r i with
    | some j => (match s[j]? with | some (some b) => blkR r n b c | _ => false)
    | none => Nat.beq c.n 0) && hpR r n s l (i + 1)
/-- no two of the living have one name -/
def ndR (r : Nat → Option Nat) : Heap → Nat → List Nat → Bool
  | [], _, _ => true
  | none :: l, i, seen => ndR r l (i + 1) seen
  | some _ :: l, i, seen => (match r i with
    | some j => !(seen.any fun x => Nat.beq x j) && ndR r l (i + 1) (j :: seen)
    | none => ndR r l (i + 1) seen)
def stR (r : Nat → Option Nat) (s t : St) : Bool := ndR r t.hp 0 [] && (tmR r t.hp.length s.tm t.tm && hpR r t.hp.length s.hp t.hp 0)

theorem renG_get {σ : Sg} {r : Nat → Option Nat} {n id j : Nat} (h : r id = some j) (hid : id < n) : renG σ r n id = σ j := by simp only [renG, if_pos hid, h]

mutual
theorem svR_spec {r : Nat → Option Nat} {n : Nat} : ∀ (a b : SV), svR r n a b = true → SLeR r n a b
  | .int k a, b, h => by
    cases b <;> simp only [svR, Bool.false_eq_true] at h
    simp only [Bool.and_eq_true, decide_eq_true_eq] at h
    obtain ⟨h1, h2⟩ := h
    rw [kEq_spec h1, h2]; intro σ pr w x hx; cases hx; exact .int
  | .bit a, b, h => by
    cases b <;> simp only [svR, Bool.false_eq_true] at h
    · simp only [Bool.and_eq_true, decide_eq_true_eq] at h
      obtain ⟨h1, h2⟩ := h
      rw [kEq_spec h1, ← h2]
      intro σ pr w x hx
      cases hx; exact .int
    · rename_i b
      have : a = b := by simpa using h
      subst this; intro σ pr w x hx; cases hx; exact .bit
  | .bool a, b, h => by
    cases b <;> simp only [svR, Bool.false_eq_true] at h
    rename_i b
    have : a = b := by simpa using h
    subst this; intro σ pr w x hx; cases hx; exact .bool
  | .str a, b, h => by
    cases b <;> simp only [svR, Bool.false_eq_true] at h
    rename_i b
    simp only [decide_eq_true_eq] at h
    have : a = b := by cases a; cases b; simp_all
    subst this; intro σ pr w x hx; cases hx; exact .str
  | .ptr id sz i c ext, b, h => by
    cases b <;> simp only [svR, Bool.false_eq_true] at h
    simp only [Bool.and_eq_true, beq_t, ble_t] at h
    obtain ⟨h0, rfl, rfl, rfl, rfl, h⟩ := h
    intro σ pr w x hx
    cases hx with
    | ptr h1 h2 h3 h4 => exact .ptr (by rw [renG_get (rIs_t h0) (by omega)]; exact h1) h2 h3 h4
  | .slice id sz i c esz len, b, h => by
    cases b <;> simp only [svR, Bool.false_eq_true] at h
    simp only [Bool.and_eq_true, beq_t, ble_t] at h
    obtain ⟨h0, rfl, rfl, rfl, rfl, rfl, h⟩ := h
    intro σ pr w x hx
    cases hx with
    | slice0 => exact .slice0
    | slice h1 h2 h3 h4 => exact .slice (by rw [renG_get (rIs_t h0) (by omega)]; exact h1) h2 h3 h4
  | .vints t k sz len f, b, h => by
    cases b <;> simp only [svR, Bool.false_eq_true] at h
    simp only [Bool.and_eq_true, beq_t, beq_iff_eq] at h
    obtain ⟨⟨rfl, h1, rfl, rfl⟩, h2⟩ := h
    rw [kEq_spec h1]
    have hh := eqF_t h2
    intro σ pr w x hx
    cases hx with
    | vints0 => exact .vints0
    | vints q1 q2 q3 => exact .vints q1 (fun j hj c hc => by rw [← hh j hj c hc]; exact q2 j hj c hc) q3
  | .vrows t sz len row, b, h => by
    cases b <;> simp only [svR, Bool.false_eq_true] at h
    rename_i t' sz' len' row'
    simp only [Bool.and_eq_true, beq_t, beq_iff_eq, List.all_eq_true, List.mem_range] at h
    obtain ⟨⟨rfl, rfl, rfl⟩, h2⟩ := h
    intro σ pr w x hx
    cases hx with
    | vrows0 => exact .vrows0
    | vrows vs q1 q2 q3 q4 q5 =>
      refine .vrows vs q1 q2 (fun j hj c hc => ?_) (fun j hj => ?_) q5
      · obtain ⟨e1, e2⟩ := segR_spec (row j) (row' j) (h2 j hj)
        exact e2 c (by have := q4 j hj; omega) σ pr w _ (q3 j hj c hc)
      · obtain ⟨e1, e2⟩ := segR_spec (row j) (row' j) (h2 j hj)
        have := q4 j hj; omega
  | .vptr t s, b, h => by
    cases b <;> simp only [svR, Bool.false_eq_true] at h
    simp only [Bool.and_eq_true, beq_iff_eq] at h
    obtain ⟨rfl, h1⟩ := h
    obtain ⟨hl, hc⟩ := segR_spec s _ h1
    intro σ pr w x hx
    cases hx with
    | vptr vs q1 q2 q3 => exact .vptr vs q1 (fun c hc' => q2 c (by rw [hl]; exact hc')) (fun c hc' => hc c (by rw [hl]; exact hc') σ pr w _ (q3 c (by rw [hl]; exact hc')))
  | .nilp, b, h => by
    cases b <;> simp only [svR, Bool.false_eq_true] at h
    intro σ pr w x hx; cases hx; exact .nilp
  | .nils, b, h => by
    cases b <;> simp only [svR, Bool.false_eq_true, beq_t] at h
    · subst h; intro σ pr w x hx; cases hx; exact .slice0
    · subst h; intro σ pr w x hx; cases hx; exact .vints0
    · subst h; intro σ pr w x hx; cases hx; exact .vrows0
    · intro σ pr w x hx; cases hx; exact .nils
  | .unk, b, h => by cases b <;> simp [svR] at h
  | .clo .., b, h => by cases b <;> simp [svR] at h
  | .raw _, b, h => by cases b <;> simp [svR] at h
theorem segR_spec {r : Nat → Option Nat} {n : Nat} : ∀ (s t : List Seg), segR r n s t = true → lenS s = lenS t ∧ ∀ c, c < lenS s → SLeR r n (cellAt s c) (cellAt t c)
  | [], t, h => by
    cases t with
    | nil => exact ⟨rfl, fun c hc => by simp [lenS] at hc⟩
    | cons g r => cases g <;> simp [segR] at h
  | .ints k m f :: l, t, h => by
    cases t with
    | nil => simp [segR] at h
    | cons g l' =>
      cases g with
      | one v => simp [segR] at h
      | ints k' m' g =>
        simp only [segR, Bool.and_eq_true, beq_t] at h
        obtain ⟨⟨h1, rfl⟩, h2, h3⟩ := h
        obtain ⟨q1, q2⟩ := segR_spec l l' h3
        have hh := eqN_t h2
        rw [kEq_spec h1]
        rw [lenS_ints, lenS_ints, q1]
        refine ⟨rfl, fun c hc => ?_⟩
        by_cases e : c < m
        · rw [cellAt_ints_lt e, cellAt_ints_lt e, hh c e]; intro σ pr w x hx; cases hx; exact .int
        · rw [cellAt_ints_ge (by omega) (by omega), cellAt_ints_ge (by omega) (by omega)]
          exact q2 _ (by omega)
  | .one v :: l, t, h => by
    cases t with
    | nil => simp [segR] at h
    | cons g l' =>
      cases g with
      | ints k' m' g => simp [segR] at h
      | one v' =>
        simp only [segR, Bool.and_eq_true] at h
        obtain ⟨q1, q2⟩ := segR_spec l l' h.2
        rw [lenS_one, lenS_one, q1]
        refine ⟨rfl, fun c hc => ?_⟩
        cases c with
        | zero => exact svR_spec v v' h.1
        | succ c => rw [cellAt_one_succ, cellAt_one_succ]; exact q2 c (by omega)
end
theorem avR_spec {r : Nat → Option Nat} {n : Nat} {a b : AV} (h : avR r n a b = true) : ALeR r n a b := by
  unfold avR at h
  split at h
  · exact fun _ _ _ _ _ => trivial
  · exact fun σ pr w x hx => svR_spec _ _ h σ pr w x hx
  · rename_i s s'
    obtain ⟨h1, h2⟩ := segR_spec s s' h
    intro σ pr w x hx
    obtain ⟨cs, rfl, q1, q2⟩ := hx
    refine ⟨cs, rfl, by rw [q1, h1], fun c v hv => ?_⟩
    have hlt : c < lenS s := by rw [← q1]; exact (List.getElem?_eq_some_iff.1 hv).1
    exact h2 c hlt σ pr w v (q2 c v hv)
  · intro σ pr w x hx
    obtain ⟨vs, rfl, hl, _⟩ := hx
    obtain rfl : vs = [] := by simpa using hl
    exact RV.none
  · simp at h
theorem tmR_spec {r : Nat → Option Nat} {n : Nat} : ∀ (a b : List AV), tmR r n a b = true → a.length = b.length ∧ ∀ i, ALeR r n (getA a i) (getA b i)
  | [], b, h => by
    cases b with
    | nil => exact ⟨rfl, fun i σ pr w x hx => trivial⟩
    | cons x r => simp [tmR] at h
  | x :: l, b, h => by
    cases b with
    | nil => simp [tmR] at h
    | cons y l' =>
      simp only [tmR, Bool.and_eq_true] at h
      obtain ⟨q1, q2⟩ := tmR_spec l l' h.2
      refine ⟨by simp [q1], fun i => ?_⟩
      cases i with
      | zero => exact avR_spec h.1
      | succ i => exact q2 i
theorem blkR_spec {r : Nat → Option Nat} {n : Nat} {b c : Blk} (h : blkR r n b c = true) : BLeR r n b c := by
  unfold blkR at h
  split at h
  · rename_i k sz m f k' sz' m' g
    simp only [Bool.and_eq_true, beq_t] at h
    obtain ⟨⟨h1, rfl, rfl⟩, h2⟩ := h
    rw [kEq_spec h1]
    have hh := eqF_t h2
    refine ⟨rfl, rfl, fun i hi => ⟨by simp only [Blk.sz, Blk.segs]; rw [lenS_ints]; omega, fun d hd => ?_⟩⟩
    simp only [Blk.sz, Blk.n] at hi hd
    simp only [Blk.segs]
    rw [cellAt_ints_lt hd, cellAt_ints_lt hd, hh i hi d hd]
    intro σ pr w x hx; cases hx; exact .int
  · rename_i sz m row sz' m' row'
    simp only [Bool.and_eq_true, beq_t, List.all_eq_true, List.mem_range] at h
    obtain ⟨⟨rfl, rfl⟩, h2⟩ := h
    refine ⟨rfl, rfl, fun i hi => ?_⟩
    obtain ⟨e1, e2⟩ := h2 i hi
    obtain ⟨q1, q2⟩ := segR_spec _ _ e2
    exact ⟨by show sz ≤ lenS (row' i); rw [← q1, e1]; exact Nat.le_refl _, fun d hd => q2 d (by rw [e1]; exact hd)⟩
  · simp at h
theorem hpR_spec {r : Nat → Option Nat} {n : Nat} {s : Heap} : ∀ (t : Heap) (i : Nat), hpR r n s t i = true → ∀ (k : Nat) (c : Blk), t[k]? = some (some c) →
    (r (i + k) = none ∧ c.n = 0) ∨ ∃ j b, r (i + k) = some j ∧ s[j]? = some (some b) ∧ BLeR r n b c
  | [], i, h, k, c, hc => by simp at hc
  | none :: l, i, h, k, c, hc => by
    simp only [hpR] at h
    cases k with
    | zero => simp at hc
    | succ k =>
      have := hpR_spec l (i + 1) h k c (by simpa using hc)
      rwa [show i + 1 + k = i + (k + 1) by omega] at this
  | some c0 :: l, i, h, k, c, hc => by
    simp only [hpR, Bool.and_eq_true] at h
    cases k with
    | zero =>
      simp only [List.getElem?_cons_zero, Option.some.injEq] at hc
      subst hc
      have h1 := h.1
      rw [Nat.add_zero]
      split at h1
      · rename_i j hj
        split at h1
        · rename_i b hb
          exact .inr ⟨j, b, hj, hb, blkR_spec h1⟩
        · simp at h1
      · rename_i hj
        exact .inl ⟨hj, beq_t.1 h1⟩
    | succ k =>
      have := hpR_spec l (i + 1) h.2 k c (by simpa using hc)
      rwa [show i + 1 + k = i + (k + 1) by omega] at this
theorem ndR_spec {r : Nat → Option Nat} : ∀ (t : Heap) (i : Nat) (seen : List Nat), ndR r t i seen = true → (∀ (k j : Nat) (c : Blk), t[k]? = some (some c) → r (i + k) = some j → j ∉ seen) ∧
    ∀ (k k' j : Nat) (c c' : Blk), t[k]? = some (some c) → t[k']? = some (some c') → r (i + k) = some j → r (i + k') = some j → k = k'
  | [], i, seen, h => ⟨fun k j c hc => by simp at hc, fun k k' j c c' hc => by simp at hc⟩
  | none :: l, i, seen, h => by
    simp only [ndR] at h
    obtain ⟨q1, q2⟩ := ndR_spec l (i + 1) seen h
    refine ⟨fun k j c hc hr => ?_, fun k k' j c c' hc hc' hr hr' => ?_⟩
    · cases k with
      | zero => simp at hc
      | succ k => exact q1 k j c (by simpa using hc) (by rwa [show i + 1 + k = i + (k + 1) by omega])
    · cases k with
      | zero => simp at hc
      | succ k =>
        cases k' with
        | zero => simp at hc'
        | succ k' => rw [q2 k k' j c c' (by simpa using hc) (by simpa using hc') (by rwa [show i + 1 + k = i + (k + 1) by omega]) (by rwa [show i + 1 + k' = i + (k' + 1) by omega])]
  | some c0 :: l, i, seen, h => by
    simp only [ndR] at h
    cases hr0 : r i with
    | none =>
      rw [hr0] at h
      obtain ⟨q1, q2⟩ := ndR_spec l (i + 1) seen h
      refine ⟨fun k j c hc hr => ?_, fun k k' j c c' hc hc' hr hr' => ?_⟩
      · cases k with
        | zero => rw [Nat.add_zero, hr0] at hr; cases hr
        | succ k => exact q1 k j c (by simpa using hc) (by rwa [show i + 1 + k = i + (k + 1) by omega])
      · cases k with
        | zero => rw [Nat.add_zero, hr0] at hr; cases hr
        | succ k =>
          cases k' with
          | zero => rw [Nat.add_zero, hr0] at hr'; cases hr'
          | succ k' => rw [q2 k k' j c c' (by simpa using hc) (by simpa using hc') (by rwa [show i + 1 + k = i + (k + 1) by omega]) (by rwa [show i + 1 + k' = i + (k' + 1) by omega])]
    | some j0 =>
      rw [hr0] at h
      simp only [Bool.and_eq_true, Bool.not_eq_true'] at h
      obtain ⟨h1, h2⟩ := h
      obtain ⟨q1, q2⟩ := ndR_spec l (i + 1) (j0 :: seen) h2
      have hns : j0 ∉ seen := fun hm => by
        have := List.any_eq_false.1 h1 j0 hm
        simp at this
      refine ⟨fun k j c hc hr => ?_, fun k k' j c c' hc hc' hr hr' => ?_⟩
      · cases k with
        | zero => rw [Nat.add_zero, hr0] at hr; cases hr; exact hns
        | succ k =>
          have := q1 k j c (by simpa using hc) (by rwa [show i + 1 + k = i + (k + 1) by omega])
          exact fun hm => this (List.mem_cons_of_mem _ hm)
      · cases k with
        | zero =>
          rw [Nat.add_zero, hr0] at hr; cases hr
          cases k' with
          | zero => rfl
          | succ k' =>
            have := q1 k' j0 c' (by simpa using hc') (by rwa [show i + 1 + k' = i + (k' + 1) by omega])
            exact absurd List.mem_cons_self this
        | succ k =>
          cases k' with
          | zero =>
            rw [Nat.add_zero, hr0] at hr'; cases hr'
            have := q1 k j0 c (by simpa using hc) (by rwa [show i + 1 + k = i + (k + 1) by omega])
            exact absurd List.mem_cons_self this
          | succ k' => rw [q2 k k' j c c' (by simpa using hc) (by simpa using hc') (by rwa [show i + 1 + k = i + (k + 1) by omega]) (by rwa [show i + 1 + k' = i + (k' + 1) by omega])]

structure HpLe (r : Nat → Option Nat) (s t : Heap) : Prop where
  blk : ∀ (id : Nat) (c : Blk), t[id]? = some (some c) → (r id = none ∧ c.n = 0) ∨ ∃ j b, r id = some j ∧ s[j]? = some (some b) ∧ BLeR r t.length b c
  inj : ∀ (id id' j : Nat) (c c' : Blk), t[id]? = some (some c) → t[id']? = some (some c') → r id = some j → r id' = some j → id = id'
structure StLeR (r : Nat → Option Nat) (s t : St) : Prop where
  tm : s.tm.length = t.tm.length ∧ ∀ i, ALeR r t.hp.length (getA s.tm i) (getA t.tm i)
  hp : HpLe r s.hp t.hp
theorem hpLe_of {r : Nat → Option Nat} {s t : Heap} (h1 : hpR r t.length s t 0 = true) (h2 : ndR r t 0 [] = true) : HpLe r s t := by
  refine ⟨fun id c hc => ?_, fun id id' j c c' hc hc' hr hr' => ?_⟩
  · have := hpR_spec t 0 h1 id c hc
    rwa [Nat.zero_add] at this
  · exact (ndR_spec t 0 [] h2).2 id id' j c c' hc hc' (by rwa [Nat.zero_add]) (by rwa [Nat.zero_add])
theorem stR_spec {r : Nat → Option Nat} {s t : St} (h : stR r s t = true) : StLeR r s t := by
  simp only [stR, Bool.and_eq_true] at h
  exact ⟨tmR_spec _ _ h.2.1, hpLe_of h.2.2 h.1⟩

section
variable {P : Program} {w0 w : World} {own0 : Own} {σ : Sg} {pr : Pr}
theorem HpLe.hi {r : Nat → Option Nat} {s t : Heap} (h : HpLe r s t) (H : HI w0 own0 σ pr s w) : HI w0 own0 (renG σ r t.length) pr t w := by
  have hlt : ∀ (id : Nat) (c : Blk), t[id]? = some (some c) → id < t.length := fun id c hc => (List.getElem?_eq_some_iff.1 hc).1
  have hnone : ∀ (id : Nat), r id = none → renG σ r t.length id = none := fun id hr => by simp only [renG, hr]; split <;> rfl
  refine ⟨fun id hid => by simp only [renG, if_neg (Nat.not_lt.2 hid)], fun id c hc => ?_, fun id id' c c' g x x' h1 h2 h3 h4 => ?_, fun id c hc i hi => ?_, H.ev, H.prlt, H.prnew⟩
  · rcases h.blk id c hc with ⟨hr, hn⟩ | ⟨j, b, hr, hb, e1, e2, hcell⟩
    · exact .inl ⟨hnone id hr, hn⟩
    · rw [renG_get hr (hlt id c hc)]
      rcases H.blk j b hb with ⟨q1, q2⟩ | ⟨g, q1, q2⟩
      · exact .inl ⟨q1, by rw [e2]; exact q2⟩
      · refine .inr ⟨g, by rw [e1, e2]; exact q1, q2.free, q2.own, ?_⟩
        obtain ⟨cells, T, fz, r1, r2, r3, r4⟩ := q2.cells
        refine ⟨cells, T, fz, r1, r2, by rw [e1, e2]; exact r3, fun i hi d hd => ?_⟩
        rw [e2] at hi
        rw [e1] at hd ⊢
        obtain ⟨v, v1, v2⟩ := r4 i hi d hd
        exact ⟨v, v1, (hcell i hi).2 d hd _ _ _ _ v2⟩
  · rcases h.blk id c h1 with ⟨hr, hn⟩ | ⟨j, b, hr, hb, _⟩
    · rw [hnone id hr] at h3; cases h3
    · rcases h.blk id' c' h2 with ⟨hr', hn'⟩ | ⟨j', b', hr', hb', _⟩
      · rw [hnone id' hr'] at h4; cases h4
      · rw [renG_get hr (hlt id c h1)] at h3
        rw [renG_get hr' (hlt id' c' h2)] at h4
        have := H.inj j j' b b' g x x' hb hb' h3 h4
        subst this
        exact h.inj id id' j c c' h1 h2 hr hr'
  · rcases h.blk id c hc with ⟨hr, hn⟩ | ⟨j, b, hr, hb, e1, e2, hcell⟩
    · omega
    · rw [e2] at hi
      rw [e1]
      exact (hcell i hi).1
theorem StLeR.sj {r : Nat → Option Nat} {s t : St} (h : StLeR r s t) {n0 : Nat} {a : Act} (H : SJ n0 w0 own0 σ pr s a w) (hn : n0 ≤ t.hp.length) : SJ n0 w0 own0 (renG σ r t.hp.length) pr t a w :=
  ⟨⟨h.hp.hi H.si.hi, ⟨by rw [← h.tm.1]; exact H.si.fi.1, fun i hi => h.tm.2 i _ _ _ _ (H.si.fi.any i)⟩, H.si.df⟩, hn⟩
/-- the first blocks keep their names -/
theorem le_ren {r : Nat → Option Nat} {n m : Nat} {σ' : Sg} {pr' : Pr} {w' : World} {n0 : Nat} (hf : ∀ id, n ≤ id → σ id = none) (L : Le2 n0 σ pr w σ' pr' w') (hr : ∀ i, i < n → r i = some i) (hm : n ≤ m) (hn : n0 ≤ n) : Le2 n0 σ pr w (renG σ' r m) pr' w' := by
  refine ⟨⟨fun i x hx => ?_, L.le.mo, L.le.same, L.le.shape, L.le.size⟩, fun i hi => ?_⟩
  · have hi : i < n := by
      rcases Nat.lt_or_ge i n with h | h
      · exact h
      · rw [hf i h] at hx; cases hx
    rw [renG_get (hr i hi) (by omega)]
    exact L.le.sg i x hx
  · rw [renG_get (hr i (by omega)) (by omega)]
    exact L.keep i hi

theorem loop_ruleR {E : Env} (EO : EnvOK P E) (hm : P.follows .mixedOrders = true) {N id n : Nat} {body : Code} (hok : codeOK P E.isW body = true) (hacc : ∀ w0 own0, accOK P E w0 own0 body)
    {S : Nat → St} {m : Nat} {e' : Ex} {s s' : St} (hn : n = s.hp.length) (hl : ∀ k, k ≤ m → n ≤ (S k).hp.length) (hl' : n ≤ s'.hp.length)
    (start : ∃ r, StLeR r s (S 0) ∧ ∀ i, i < n → r i = some i)
    (step : ∀ k, k < m → ∃ s1 r, am E N body (S k) = some (.normal, s1) ∧ StLeR r s1 (S (k + 1)) ∧ ∀ i, i < n → r i = some i)
    (stop : ∃ e1 s1 r, am E N body (S m) = some (e1, s1) ∧ leave id e1 = some e' ∧ StLeR r s1 s' ∧ ∀ i, i < n → r i = some i) :
    ∀ (n0 : Nat) (σ : Sg) (pr : Pr) (a : Act) (w : World) (Q : Exit → Act → World → Prop), SJ n0 w0 own0 σ pr s a w → Post n0 w0 own0 σ pr w e' s' Q → (Code.block id (.loop body)).wp P Q a w := by
  intro n0 σ pr a w Q H hQ
  have hn0 : n0 ≤ n := by rw [hn]; exact H.len
  have hf : ∀ id, n ≤ id → σ id = none := by rw [hn]; exact H.si.hi.fresh
  refine wp_block ?_
  have key : ∀ (k : Nat), k ≤ m → ∀ (σ' : Sg) (pr' : Pr) (a' : Act) (w' : World), SJ n0 w0 own0 σ' pr' (S k) a' w' → Le2 n0 σ pr w σ' pr' w' → Code.rounds P body (Exit.inBlock id Q) (m - k + 1) a' w' := by
    intro k
    induction hd : m - k generalizing k with
    | zero =>
      intro hk σ' pr' a' w' H' L'
      obtain rfl : k = m := by omega
      obtain ⟨e1, s1, r, h1, hv, h2, hr⟩ := stop
      rw [rounds_succ]
      refine am_sound EO ⟨trivial⟩ hm N n0 body hok (hacc _ _) (S k) s1 e1 σ' pr' a' w' _ h1 H' ?_
      intro a2 σ2 pr2 w2 H2 L2
      have H3 := h2.sj H2 (by omega)
      have L3 := le_ren hf (L'.trans L2) hr hl' hn0
      have := hQ a2 _ _ w2 H3 L3
      cases e1 with
      | normal => simp [leave] at hv
      | ret =>
        simp only [leave, Option.some.injEq] at hv; subst hv
        simpa [Exit.then, exOf, Exit.inBlock] using this
      | exit j =>
        simp only [leave] at hv
        split at hv
        · rename_i hj
          simp only [Option.some.injEq] at hv; subst hv
          have := beq_t.1 hj; subst this
          simpa [Exit.then, exOf, Exit.inBlock] using hQ a2 _ _ w2 H3 L3
        · rename_i hj
          simp only [Option.some.injEq] at hv; subst hv
          have hne : j ≠ id := fun e => by rw [e] at hj; simp at hj
          simpa [Exit.then, exOf, Exit.inBlock, hne] using this
    | succ d ih =>
      intro hk σ' pr' a' w' H' L'
      obtain ⟨s1, r, h1, h2, hr⟩ := step k (by omega)
      rw [rounds_succ]
      refine am_sound EO ⟨trivial⟩ hm N n0 body hok (hacc _ _) (S k) s1 .normal σ' pr' a' w' _ h1 H' ?_
      intro a2 σ2 pr2 w2 H2 L2
      have hlk := hl (k + 1) (by omega)
      exact ih (k + 1) (by omega) (by omega) _ _ a2 w2 (h2.sj H2 (by omega)) (le_ren hf (L'.trans L2) hr hlk hn0)
  obtain ⟨r, h2, hr⟩ := start
  have hl0 := hl 0 (by omega)
  exact wp_loop_rounds _ (key 0 (Nat.zero_le _) _ pr a w (h2.sj H (by omega)) (le_ren hf (Le2.refl _ _ _ _) hr hl0 hn0))

/-- the first n keep their names; then as listed; the others are made of nothing -/
def rnm (n : Nat) (l : List Nat) (i : Nat) : Option Nat := match Nat.ble (i + 1) n with | true => some i | false => l[i - n]?
theorem rnm_lt {n : Nat} {l : List Nat} : ∀ i, i < n → rnm n l i = some i := fun i hi => by
  unfold rnm
  rw [show Nat.ble (i + 1) n = true from Nat.ble_eq_true_of_le hi]

/-- one round, reckoned; blocks named anew -/
def roundR (E : EnvP) (gs : Guess) (N n : Nat) (l : List Nat) (body : Code) (s : St) (e : Ex) (t : St) : Option Bool :=
  match ap E gs N body ⟨true, s⟩ with
  | some (e1, ps) => (match e, e1 with
    | .normal, .normal => some (ps.ck && stR (rnm n l) ps.st t)
    | .ret, .ret => some (ps.ck && stR (rnm n l) ps.st t)
    | .exit i, .exit j => (match Nat.beq i j with | true => some (ps.ck && stR (rnm n l) ps.st t) | false => none)
    | _, _ => none)
  | none => none
theorem roundR_spec {E : EnvP} {gs : Guess} {N n : Nat} {l : List Nat} {body : Code} {s : St} {e : Ex} {t : St} {c : Bool} (h : roundR E gs N n l body s e t = some c) (hc : c = true) :
    ∃ s1 r, am E.env N body s = some (e, s1) ∧ StLeR r s1 t ∧ ∀ i, i < n → r i = some i := by
  unfold roundR at h
  subst hc
  split at h
  case h_2 => simp at h
  rename_i e1 ps hap
  have key : (ps.ck && stR (rnm n l) ps.st t) = true → e1 = e → ∃ s1 r, am E.env N body s = some (e, s1) ∧ StLeR r s1 t ∧ ∀ i, i < n → r i = some i := fun hh he => by
    simp only [Bool.and_eq_true] at hh
    subst he
    exact ⟨_, _, (ap_spec N body _ _ _ hap hh.1).2, stR_spec hh.2, rnm_lt⟩
  split at h
  · simp only [Option.some.injEq] at h; exact key h rfl
  · simp only [Option.some.injEq] at h; exact key h rfl
  · split at h
    · rename_i hj
      simp only [Option.some.injEq] at h; exact key h (by rw [beq_t.1 hj])
    · simp at h
  · simp at h

/-- a loop that leads through a family of states; what it makes is named anew -/
def famR {A : Type} (n : Nat) (rd : St → Option A) (S : A → Nat → St) (ck : A → Bool) (ex : A → Ex) (T : A → St) : LF := fun s =>
  match rd s with
  | some a => some (ck a && (Nat.beq s.hp.length n && stR (rnm n []) s (S a 0)), (ex a, T a))
  | none => none

theorem LRow.famR {E : Env} (EO : EnvOK P E) (hm : P.follows .mixedOrders = true) {fn : Func} {id N n : Nat} {body : Code} {A : Type} {rd : St → Option A} {S : A → Nat → St} {ck : A → Bool} {ex : A → Ex} {T : A → St} (cnt : A → Nat)
    (hb : ∀ c, fn.body = some c → ∀ b ∈ bodiesOf id c, b = .loop body) (hok : codeOK P E.isW body = true) (hacc : ∀ w0 own0, accOK P E w0 own0 body)
    (hlen : ∀ s a, rd s = some a → s.hp.length = n → ∀ (i : Nat), s.hp[i]? = some none → (T a).hp[i]? = some none) (hS : ∀ a k, n ≤ (S a k).hp.length) (hT : ∀ a, n ≤ (T a).hp.length)
    (step : ∀ a, ck a = true → ∀ k, k < cnt a → ∃ s1 r, am E N body (S a k) = some (.normal, s1) ∧ StLeR r s1 (S a (k + 1)) ∧ ∀ i, i < n → r i = some i)
    (stop : ∀ a, ck a = true → ∃ e1 s1 r, am E N body (S a (cnt a)) = some (e1, s1) ∧ leave id e1 = some (ex a) ∧ StLeR r s1 (T a) ∧ ∀ i, i < n → r i = some i) : LRow P fn id (AM.famR n rd S ck ex T) := by
  refine ⟨fun c hc b hbm w0 own0 n0 s s' e σ pr a w Q hF H hQ => ?_, fun s e s' hF i hi => ?_⟩
  · have hF := dropB_t hF
    unfold AM.famR at hF
    split at hF
    case h_2 => simp at hF
    rename_i x hx
    simp only [Option.some.injEq, Prod.mk.injEq, Bool.and_eq_true, beq_t] at hF
    obtain ⟨⟨h1, h2, h3⟩, rfl, rfl⟩ := hF
    rw [hb c hc b hbm]
    exact loop_ruleR EO hm hok hacc h2.symm (fun k _ => hS x k) (hT x) ⟨_, stR_spec h3, rnm_lt⟩ (step x h1) (stop x h1) n0 σ pr a w Q H hQ
  · unfold AM.famR at hF
    split at hF
    case h_2 => simp at hF
    rename_i x hx
    simp only [Option.some.injEq, Prod.mk.injEq, Bool.and_eq_true, beq_t] at hF
    obtain ⟨⟨_, h2, _⟩, rfl, rfl⟩ := hF
    exact hlen s x hx h2 i hi
end

/-! rows that say less -/
theorem pure_less {P : Program} {f : FuncId} {args args' : List AV} {r : AV} (h : Pure P f args' r) (ha : tmR (fun _ => none) 0 args args' = true) : Pure P f args r := by
  obtain ⟨h1, h2⟩ := tmR_spec _ _ ha
  intro pr w vs hargs hlt
  refine h pr w vs ⟨by rw [hargs.1, h1], fun i a x hi hx => ?_⟩ hlt
  have hi1 : i < args.length := by rw [h1]; exact (List.getElem?_eq_some_iff.1 hi).1
  have e1 : args[i]? = some (getA args i) := by simp [getA, List.getD, List.getElem?_eq_getElem hi1]
  have e2 : a = getA args' i := by simp [getA, List.getD, hi]
  have := h2 i noσ pr w x (hargs.2 i _ x e1 hx)
  rw [e2]
  have e3 : renG noσ (fun _ => none) 0 = noσ := by funext i; simp [renG, noσ]
  rwa [e3] at this
/-- a function that writes: what it leaves, with blocks named anew -/
theorem eff_less {P : Program} {f : FuncId} {args : List AV} {hp hp1 hp2 : Heap} {v v2 : AV} {l : List Nat} (h : Eff P f args hp v hp1)
    (hv : avR (rnm hp.length l) hp2.length v v2 = true) (hh : hpR (rnm hp.length l) hp2.length hp1 hp2 0 = true) (hnd : ndR (rnm hp.length l) hp2 0 [] = true) (hlen : hp.length ≤ hp2.length) : Eff P f args hp v2 hp2 := by
  intro w0 own0 σ pr w vs H hargs
  obtain ⟨q1, q2⟩ := h w0 own0 σ pr w vs H hargs
  refine ⟨q1, q2.mono fun e w' hq => ?_⟩
  obtain ⟨σ', pr', val, he, ho⟩ := hq
  have L2 : Le2 hp.length σ pr w σ' pr' w' := ⟨ho.le, fun id hid => ho.keep id hid (by omega)⟩
  have L3 := le_ren H.fresh L2 (r := rnm hp.length l) (m := hp2.length) rnm_lt hlen (Nat.le_refl _)
  exact ⟨_, pr', val, he, L3.le, (hpLe_of hh hnd).hi ho.hi, avR_spec hv _ _ _ _ ho.rv, fun id hid _ => L3.keep id hid, hlen⟩
/-- what a function that writes needs, told more loosely -/
theorem eff_from {P : Program} {f : FuncId} {args args' : List AV} {hp hp' hp2 : Heap} {v : AV} (h : Eff P f args' hp' v hp2)
    (ha : tmR (rnm hp.length []) hp'.length args args' = true) (hh : hpR (rnm hp.length []) hp'.length hp hp' 0 = true) (hnd : ndR (rnm hp.length []) hp' 0 [] = true) (hlen : hp.length ≤ hp'.length) : Eff P f args hp v hp2 := by
  obtain ⟨h1, h2⟩ := tmR_spec _ _ ha
  intro w0 own0 σ pr w vs H hargs
  have H' := (hpLe_of hh hnd).hi H
  have L : Le2 hp.length σ pr w (renG σ (rnm hp.length []) hp'.length) pr w := le_ren H.fresh (Le2.refl _ _ _ _) rnm_lt hlen (Nat.le_refl _)
  obtain ⟨q1, q2⟩ := h w0 own0 _ pr w vs H' ⟨by rw [hargs.1, h1], fun i a x hi hx => by
    have hi1 : i < args.length := by rw [h1]; exact (List.getElem?_eq_some_iff.1 hi).1
    have e1 : args[i]? = some (getA args i) := by simp [getA, List.getD, List.getElem?_eq_getElem hi1]
    have e2 : a = getA args' i := by simp [getA, List.getD, hi]
    rw [e2]
    exact h2 i σ pr w x (hargs.2 i _ x e1 hx)⟩
  refine ⟨q1, q2.mono fun e w' hq => ?_⟩
  obtain ⟨σ', pr', val, he, ho⟩ := hq
  refine ⟨σ', pr', val, he, L.le.trans ho.le, ho.hi, ho.rv, fun id hid _ => ?_, by have := ho.len; omega⟩
  rw [ho.keep id (by omega) (by omega), L.keep id hid]
end Go.AM

namespace Go.AM
open Go Go.RowKit

/-- are these places as listed? (no functions in them) -/
def tmIs (n : Nat) (tm : List AV) (l : List (Nat × AV)) : Bool := l.all fun p => avB n (getA tm p.1) p.2
theorem tmIs_le {n len : Nat} {tm : List AV} {l l' : List (Nat × AV)} (hl : tm.length = len) (h : tmIs n tm l = true) (h' : ∀ p ∈ l', p ∈ l ∨ avB n (getA tm p.1) p.2 = true) :
    tm.length = (tmOf l' len 0).length ∧ ∀ i, ALe n (getA tm i) (getA (tmOf l' len 0) i) := by
  refine tmOf_le hl fun p hp => ?_
  rcases h' p hp with h2 | h2
  · exact avB_spec (List.all_eq_true.1 h p h2)
  · exact avB_spec h2

/-- a loop that leads through a family of states -/
def famX {A : Type} (rd : St → Option A) (ck : A → Bool) (ex : A → Ex) (T : A → St) : LF := fun s =>
  match rd s with
  | some a => some (ck a, (ex a, T a))
  | none => none

theorem LRow.famX {P : Program} {E : Env} (EO : EnvOK P E) (hm : P.follows .mixedOrders = true) {fn : Func} {id N : Nat} {body : Code} {A : Type} {rd : St → Option A} {S : A → Nat → St} {ck : A → Bool} {ex : A → Ex} {T : A → St} (cnt : A → Nat)
    (hb : ∀ c, fn.body = some c → ∀ b ∈ bodiesOf id c, b = .loop body) (hok : codeOK P E.isW body = true) (hacc : ∀ w0 own0, accOK P E w0 own0 body)
    (hrd : ∀ s a, rd s = some a → ck a = true → (∃ r, StLeR r s (S a 0) ∧ ∀ i, i < s.hp.length → r i = some i) ∧ (∀ k, k ≤ cnt a → s.hp.length ≤ (S a k).hp.length) ∧ s.hp.length ≤ (T a).hp.length ∧ (∀ (i : Nat), s.hp[i]? = some none → (T a).hp[i]? = some none) ∧
      (∀ k, k < cnt a → ∃ s1 r, am E N body (S a k) = some (.normal, s1) ∧ StLeR r s1 (S a (k + 1)) ∧ ∀ i, i < s.hp.length → r i = some i) ∧
      ∃ e1 s1 r, am E N body (S a (cnt a)) = some (e1, s1) ∧ leave id e1 = some (ex a) ∧ StLeR r s1 (T a) ∧ ∀ i, i < s.hp.length → r i = some i) : LRow P fn id (AM.famX rd ck ex T) := by
  refine ⟨fun c hc b hbm w0 own0 n0 s s' e σ pr a w Q hF H hQ => ?_, fun s e s' hF i hi => ?_⟩
  · have hF := dropB_t hF
    unfold AM.famX at hF
    split at hF
    case h_2 => simp at hF
    rename_i x hx
    simp only [Option.some.injEq, Prod.mk.injEq] at hF
    obtain ⟨h1, rfl, rfl⟩ := hF
    rw [hb c hc b hbm]
    obtain ⟨q1, q2, q3, q4, q5, q6⟩ := hrd s x hx h1
    exact loop_ruleR EO hm hok hacc rfl q2 q3 q1 q5 q6 n0 σ pr a w Q H hQ
  · unfold AM.famX at hF
    split at hF
    case h_2 => simp at hF
    rename_i x hx
    simp only [Option.some.injEq, Prod.mk.injEq] at hF
    obtain ⟨h1, rfl, rfl⟩ := hF
    exact (hrd s x hx h1).2.2.2.1 i hi

/-! from what is compared with the names kept to names anew -/
theorem renG_some {σ : Sg} {n : Nat} : renG σ some n = cutG σ n := by funext i; simp [renG, cutG]
theorem StLe.toR {s t : St} (h : StLe s t) : StLeR some s t :=
  ⟨⟨h.tm.1, fun i σ pr w x hx => by rw [renG_some]; exact h.tm.2 i σ pr w x hx⟩, ⟨fun id c hc => by
    obtain ⟨b, hb, e1, e2, e3⟩ := h.hp id c hc
    exact .inr ⟨id, b, rfl, hb, e1, e2, fun i hi => ⟨(e3 i hi).1, fun d hd σ pr w x hx => by rw [renG_some]; exact (e3 i hi).2 d hd σ pr w x hx⟩⟩, fun id id' j c c' _ _ h1 h2 => by
    simp only [Option.some.injEq] at h1 h2; omega⟩⟩
theorem stB_toR {s t : St} (h : stB s t = true) : ∃ r, StLeR r s t ∧ ∀ i, i < s.hp.length → r i = some i := ⟨some, (stB_spec h).toR, fun _ _ => rfl⟩
theorem roundB_toR {E : EnvP} {gs : Guess} {N n : Nat} {body : Code} {s : St} {e : Ex} {t : St} {c : Bool} (h : roundB E gs N body s e t = some c) (hc : c = true) :
    ∃ s1 r, am E.env N body s = some (e, s1) ∧ StLeR r s1 t ∧ ∀ i, i < n → r i = some i := by
  obtain ⟨s1, h1, h2⟩ := roundB_spec h hc
  exact ⟨s1, some, h1, h2.toR, fun _ _ => rfl⟩
/-- places left as they are, but for those of the family -/
theorem stX {s : St} {len : Nat} {l l' : List (Nat × AV)} {h' : Heap} (hl : s.tm.length = len) (h : tmIs h'.length s.tm l = true) (hx : ∀ p ∈ l', p ∈ l ∨ avB h'.length (getA s.tm p.1) p.2 = true) (hh : hpB h'.length s.hp h' = true) :
    StLe s ⟨tmOf l' len 0, h'⟩ := by
  obtain ⟨q1, q2⟩ := hpB_spec _ _ hh
  exact ⟨tmIs_le hl h hx, q1, q2⟩

def okB (n : Nat) : Blk → Bool
  | .ints .. => true
  | .mix sz m row => (List.range m).all fun r => Nat.beq (lenS (row r)) sz && okG n (row r)
def okH (n : Nat) : Heap → Bool
  | [] => true
  | none :: l => okH n l
  | some b :: l => okB n b && okH n l
theorem blkB_self {n : Nat} {b : Blk} (h : okB n b = true) : blkB n b b = true := by
  cases b with
  | ints k sz m f => simp [blkB, kEq_refl, eqF_refl]
  | mix sz m row =>
    simp only [okB, List.all_eq_true, List.mem_range, Bool.and_eq_true] at h
    simp only [blkB, nbeq_refl, Bool.and_self, Bool.true_and, List.all_eq_true, List.mem_range, Bool.and_eq_true]
    exact fun i hi => ⟨(h i hi).1, okG_self _ (h i hi).2⟩
theorem hpB_self {n : Nat} : ∀ (l : Heap), okH n l = true → hpB n l l = true
  | [], _ => rfl
  | none :: l, h => by simp only [okH] at h; simp only [hpB]; exact hpB_self l h
  | some b :: l, h => by
    simp only [okH, Bool.and_eq_true] at h
    simp only [hpB, blkB_self h.1, hpB_self l h.2, Bool.and_self]
theorem stB_self {tm : List AV} {h : Heap} (ht : okT h.length tm = true) (hh : okH h.length h = true) : stB ⟨tm, h⟩ ⟨tm, h⟩ = true := stB_tm ht (hpB_self h hh)
/-- one row or another -/
def orL (F G : LF) : LF := fun s => match F s with | some x => some x | none => G s
theorem LRow.orL {P : Program} {fn : Func} {id : Nat} {F G : LF} (hF : LRow P fn id F) (hG : LRow P fn id G) : LRow P fn id (AM.orL F G) := by
  refine ⟨fun c hc b hb w0 own0 n0 s s' e σ pr a w Q h => ?_, fun s e s' h => ?_⟩
  · have h := dropB_t h
    unfold AM.orL at h
    split at h
    · rename_i x hx
      simp only [Option.some.injEq] at h
      exact hF.1 c hc b hb w0 own0 n0 s s' e σ pr a w Q (by simp only [hx, h]; rfl)
    · exact hG.1 c hc b hb w0 own0 n0 s s' e σ pr a w Q (by simp only [h]; rfl)
  · unfold AM.orL at h
    split at h
    · rename_i x hx
      simp only [Option.some.injEq] at h
      exact hF.2 s e s' (by rw [hx, h])
    · exact hG.2 s e s' h

/-- a function that writes, reckoned; blocks named anew -/
def effR (E : EnvP) (gs : Guess) (N : Nat) (fn : Func) (args : List AV) (hp : Heap) (l : List Nat) (v2 : AV) (hp2 : Heap) : Option Bool :=
  match apFunc E gs N fn args hp with
  | some (ck, (v, hp1)) => (match tupOK v with
    | true => some (ck && (avR (rnm hp.length l) hp2.length v v2 && (ndR (rnm hp.length l) hp2 0 [] && hpR (rnm hp.length l) hp2.length hp1 hp2 0)))
    | false => none)
  | none => none
theorem effR_spec {P : Program} {tt : TT} {ts : List (Nat × TF)} {ws : List (Nat × WF)} (L : LibOK P tt ts ws) {f : FuncId} {fn : Func} (hf : P.funcs[f]? = some fn) {ls : List (Nat × LF)} (hl : LsOK P fn ls) (hc : fnChk P (envL tt ts ws ls) fn = true) {N : Nat} {gs : Guess} {args : List AV} {hp hp2 : Heap} {l : List Nat} {v2 : AV} {ck : Bool}
    (h : effR (envL tt ts ws ls) gs N fn args hp l v2 hp2 = some ck) (hck : ck = true) (hlen : hp.length ≤ hp2.length) : Eff P f args hp v2 hp2 := by
  unfold effR at h
  split at h
  case h_2 => simp at h
  rename_i c v hp1 hap
  split at h
  case h_2 => simp at h
  rename_i ht
  simp only [Option.some.injEq] at h
  rw [hck] at h
  simp only [Bool.and_eq_true] at h
  obtain ⟨h1, h2, h3, h4⟩ := h
  exact eff_less (eff_of_apL L hf hl hc hap h1 ht).1 h2 h4 h3 hlen

/-- an answer told more loosely -/
theorem pure_more {P : Program} {f : FuncId} {args : List AV} {r r' : AV} (h : Pure P f args r) (hr : avR (fun _ => none) 0 r r' = true) : Pure P f args r' := by
  have e : renG noσ (fun _ => none) 0 = noσ := by funext i; simp [renG, noσ]
  have key : ∀ {pr : Pr} {w : World} {v : Value}, RV noσ pr w r v → RV noσ pr w r' v := fun {pr w v} hv => by
    have := avR_spec hr noσ pr w v hv
    rwa [e] at this
  intro pr w vs ha hlt
  rcases h pr w vs ha hlt with ⟨val, h1, h2⟩ | ⟨h1, h2⟩
  · exact .inl ⟨val, h1, key h2⟩
  · exact .inr ⟨h1, h2.mono fun e w' hq => by
      obtain ⟨val, he, hb, hv⟩ := hq
      exact ⟨val, he, hb, key hv⟩⟩
theorem pure_ints {P : Program} {f : FuncId} {args : List AV} {t : Bool} {k : IntKind} {sz n m : Nat} {g g' : Nat → Nat → Int} (h : Pure P f args (.sc (.vints t k sz n g))) (hn : n = m) (hg : ∀ r, r < m → ∀ d, d < sz → g r d = g' r d) : Pure P f args (.sc (.vints t k sz m g')) := by
  subst hn
  exact pure_more h (by simp [avR, svR, kEq_refl, eqF_of hg])

def tmIsR (r : Nat → Option Nat) (n : Nat) (tm : List AV) (l : List (Nat × AV)) : Bool := l.all fun p => avR r n (getA tm p.1) p.2
/-- places left as they are, but for those of the family; blocks named anew -/
theorem stXR {r : Nat → Option Nat} {s : St} {len : Nat} {l l' : List (Nat × AV)} {h' : Heap} (hl : s.tm.length = len) (h : tmIsR r h'.length s.tm l = true) (hx : ∀ p ∈ l', p ∈ l ∨ avR r h'.length (getA s.tm p.1) p.2 = true) (hh : HpLe r s.hp h') :
    StLeR r s ⟨tmOf l' len 0, h'⟩ := by
  refine ⟨⟨by rw [tmOf_length, hl], fun i => ?_⟩, hh⟩
  by_cases hi : i < len
  · rw [tmOf_get l' len 0 i hi]
    split
    · rename_i p hp
      have h1 := List.find?_some hp
      rw [Nat.zero_add] at h1
      have e := beq_t.1 h1
      rw [← e]
      rcases hx p (List.mem_of_find?_eq_some hp) with h2 | h2
      · exact avR_spec (List.all_eq_true.1 h p h2)
      · exact avR_spec h2
    · exact fun _ _ _ _ _ => trivial
  · have : getA (tmOf l' len 0) i = .any := by simp [getA, List.getElem?_eq_none (by rw [tmOf_length]; omega : (tmOf l' len 0).length ≤ i)]
    rw [this]; exact fun _ _ _ _ _ => trivial
theorem roundR_toR {E : EnvP} {gs : Guess} {N n : Nat} {l : List Nat} {body : Code} {s : St} {e : Ex} {t : St} {c : Bool} (h : roundR E gs N n l body s e t = some c) (hc : c = true) :
    ∃ s1 r, am E.env N body s = some (e, s1) ∧ StLeR r s1 t ∧ ∀ i, i < n → r i = some i := roundR_spec h hc
end Go.AM
