/-
  Texts of the claim: Am49 Am50.
-/
import Derived.Test.YtbogcehngfjlkabGreatAe
import Derived.Deep.Slices
namespace Go.AM
open Go Go.RowKit Go.ChangeShapes Go.WideShapes
inductive Ds where
  | run (k : IntKind) (n : Nat)
  | str
  | bool
  | sl (z : Nat) (e : List Ds)
def szD : Ds → Nat
  | .run _ n => n
  | _ => 1
def szL : List Ds → Nat
  | [] => 0
  | d :: l => szD d + szL l
theorem szL_append : ∀ (a b : List Ds), szL (a ++ b) = szL a + szL b
  | [], b => by simp [szL]
  | d :: a, b => by simp only [List.cons_append, szL, szL_append a b]; omega
def splitD : Nat → Nat → List Ds → Option (List Ds × List Ds)
  | 0, _, _ => none
  | f + 1, n, l => match Nat.beq n 0 with
    | true => some ([], l)
    | false => (match l with
      | d :: r => (match Nat.ble (szD d) n && Nat.ble 1 (szD d) with
        | true => (match splitD f (n - szD d) r with | some (a, b) => some (d :: a, b) | none => none)
        | false => none)
      | [] => none)
theorem splitD_spec : ∀ (f n : Nat) (l a b : List Ds), splitD f n l = some (a, b) → l = a ++ b ∧ szL a = n
  | 0, n, l, a, b, h => by simp [splitD] at h
  | f + 1, n, l, a, b, h => by
    unfold splitD at h
    split at h
    · rename_i hn
      simp only [Option.some.injEq, Prod.mk.injEq] at h
      obtain ⟨rfl, rfl⟩ := h
      exact ⟨rfl, (beq_t.1 hn).symm⟩
    · split at h
      case h_2 => simp at h
      rename_i d r
      split at h
      case h_2 => simp at h
      rename_i hd
      simp only [Bool.and_eq_true, ble_t] at hd
      split at h
      case h_2 => simp at h
      rename_i a' b' hs
      simp only [Option.some.injEq, Prod.mk.injEq] at h
      obtain ⟨rfl, rfl⟩ := h
      obtain ⟨rfl, e⟩ := splitD_spec f _ _ _ _ hs
      exact ⟨rfl, by simp only [szL, e]; omega⟩
def fldB (c : TypeId → Nat) (g : TypeId → List Ds → Bool) : List Field → List Ds → Nat → Bool
  | [], [], _ => true
  | f :: r, l, off => match splitD 100 (c f.type) l with
    | some (a, b) => (Nat.beq f.offset off && g f.type a) && fldB c g r b (off + c f.type)
    | none => false
  | _, _, _ => false
def tyB (P : Program) : Nat → TypeId → List Ds → Bool
  | 0, _, _ => false
  | fuel + 1, t, l => match P.underlying t with
    | some (.int k) => (match l with | [.run k' n] => kEq k k' && Nat.beq n 1 | _ => false)
    | some .bool => (match l with | [.bool] => true | _ => false)
    | some .string => (match l with | [.str] => true | _ => false)
    | some (.array n e) => (match l with | [.run k m] => (match P.underlying e with | some (.int k') => kEq k' k && (Nat.beq n m && (Nat.beq (P.cellsOf e) 1 && Nat.beq (P.cellsOf t) n)) | _ => false) | _ => false)
    | some (.slice e) => (match l with | [.sl z d] => (Nat.beq (P.cellsOf e) z && Nat.beq (szL d) z) && (Nat.ble 1 z && tyB P fuel e d) | _ => false)
    | some (.struct fs) => Nat.beq (P.cellsOf t) (szL l) && fldB P.cellsOf (tyB P fuel) fs.toList l 0
    | _ => false
mutual
def bk {H : Type} : DataW H → Nat
  | .slice elems _ => bkA elems + 1
  | .agg parts => bkA parts + 1
  | _ => 1
def bkA {H : Type} : List (DataW H) → Nat
  | [] => 0
  | d :: r => bk d + bkA r
end
theorem bk_pos {H : Type} (d : DataW H) : 1 ≤ bk d := by cases d <;> simp [bk]
theorem bk_len {H : Type} : ∀ (l : List (DataW H)), l.length ≤ bkA l
  | [] => Nat.zero_le _
  | d :: r => by
    have h1 := bk_pos d
    have h2 := bk_len r
    simp only [List.length_cons, bkA]
    omega
theorem bk_mem {H : Type} : ∀ {l : List (DataW H)} {d : DataW H}, d ∈ l → bk d ≤ bkA l
  | [], d, h => by simp at h
  | e :: r, d, h => by
    simp only [bkA]
    rcases List.mem_cons.1 h with h | h
    · subst h; omega
    · have := bk_mem h; omega
mutual
def mD (N : Nat) : Ds → Seg → Prop
  | .run k n, s => ∃ f, s = .ints k n f ∧ ∀ c, c < n → (Lit.int k (f c)).wf = true
  | .str, s => ∃ b, s = .one (.str b)
  | .bool, s => ∃ b, s = .one (.bool b)
  | .sl z e, s => ∃ len row, len ≤ N ∧ s = .one (.vrows true z len row) ∧ ∀ j, j < len → mL N e (row j)
def mL (N : Nat) : List Ds → List Seg → Prop
  | [], l => l = []
  | d :: r, l => ∃ s t, l = s :: t ∧ mD N d s ∧ mL N r t
end
theorem mD_len {N : Nat} {d : Ds} {s : Seg} (h : mD N d s) : lenS [s] = szD d := by
  cases d with
  | run k n => simp only [mD] at h; obtain ⟨f, rfl, _⟩ := h; rfl
  | str => simp only [mD] at h; obtain ⟨b, rfl⟩ := h; rfl
  | bool => simp only [mD] at h; obtain ⟨b, rfl⟩ := h; rfl
  | sl z e => simp only [mD] at h; obtain ⟨len, row, _, rfl, _⟩ := h; rfl
theorem mL_len {N : Nat} : ∀ {l : List Ds} {s : List Seg}, mL N l s → lenS s = szL l
  | [], s, h => by simp only [mL] at h; subst h; rfl
  | d :: r, l, h => by
    simp only [mL] at h
    obtain ⟨s, t, rfl, h1, h2⟩ := h
    rw [lenS_cons, mD_len h1, mL_len h2]; rfl
theorem mL_append {N : Nat} : ∀ {a b : List Ds} {s t : List Seg}, mL N a s → mL N b t → mL N (a ++ b) (s ++ t)
  | [], b, s, t, h1, h2 => by simp only [mL] at h1; subst h1; exact h2
  | d :: a, b, l, t, h1, h2 => by
    simp only [mL] at h1
    obtain ⟨s, t', rfl, q1, q2⟩ := h1
    simp only [List.cons_append, mL]
    exact ⟨s, t' ++ t, rfl, q1, mL_append q2 h2⟩
theorem cell_append : ∀ (s t : List Seg) (c : Nat), c < lenS s + lenS t → cellAt (s ++ t) c = if c < lenS s then cellAt s c else cellAt t (c - lenS s)
  | [], t, c, h => by simp [lenS]
  | .ints k n f :: s, t, c, h => by
    rw [lenS_ints] at h ⊢
    rw [List.cons_append]
    by_cases e : c < n
    · rw [cellAt_ints_lt e, cellAt_ints_lt e, if_pos (by omega)]
    · have hl : c < n + lenS (s ++ t) := by
        have : lenS (s ++ t) = lenS s + lenS t := by
          clear e h
          induction s with
          | nil => simp [lenS]
          | cons x r ih => rw [List.cons_append, lenS_cons, lenS_cons x r, ih]; omega
        omega
      rw [cellAt_ints_ge (by omega) hl, cell_append s t (c - n) (by omega)]
      by_cases e2 : c < n + lenS s
      · rw [if_pos (by omega), if_pos e2, cellAt_ints_ge (by omega) e2]
      · rw [if_neg (by omega), if_neg e2]
        congr 1; omega
  | .one v :: s, t, c, h => by
    rw [lenS_one] at h ⊢
    rw [List.cons_append]
    cases c with
    | zero => rw [if_pos (by omega)]; cases s <;> cases t <;> rfl
    | succ c =>
      rw [cellAt_one_succ, cell_append s t c (by omega)]
      by_cases e2 : c < lenS s
      · rw [if_pos e2, if_pos (by omega), cellAt_one_succ]
      · rw [if_neg e2, if_neg (by omega)]
        congr 1; omega
theorem lenS_app (s t : List Seg) : lenS (s ++ t) = lenS s + lenS t := by
  induction s with
  | nil => simp [lenS]
  | cons x r ih => rw [List.cons_append, lenS_cons, lenS_cons x r, ih]; omega
theorem RG.append {σ : Sg} {pr : Pr} {w : World} {s t : List Seg} {a b : List Value} (h1 : RG σ pr w s a) (h2 : RG σ pr w t b) : RG σ pr w (s ++ t) (a ++ b) := by
  refine ⟨by rw [List.length_append, h1.1, h2.1, lenS_app], fun c v hv => ?_⟩
  have hc : c < lenS s + lenS t := by
    have := (List.getElem?_eq_some_iff.1 hv).1
    rw [List.length_append, h1.1, h2.1] at this
    exact this
  rw [cell_append s t c hc]
  by_cases e : c < lenS s
  · rw [if_pos e]
    rw [List.getElem?_append_left (by rw [h1.1]; exact e)] at hv
    exact h1.2 c v hv
  · rw [if_neg e]
    rw [List.getElem?_append_right (by rw [h1.1]; omega), h1.1] at hv
    exact h2.2 _ v hv
section
variable {H : Type} {enc : TypeId × Value → H} {P : Program} {W : World}
theorem rg_one {σ : Sg} {pr : Pr} {w : World} {s : SV} {v : Value} (h : RS σ pr w s v) : RG σ pr w [.one s] [v] :=
  ⟨rfl, fun c x hx => by
    cases c with
    | zero => simp only [List.getElem?_cons_zero, Option.some.injEq] at hx; subst hx; exact h
    | succ c => simp at hx⟩
theorem fld_open {N : Nat} {c : TypeId → Nat} {g : TypeId → List Ds → Bool} {cs : List Value} {R : TypeId → List Value → Prop}
    (hg : ∀ t l v, g t l = true → R t v → v.length = szL l → ∃ s, mL N l s ∧ RG noσ (prOf W) W s v) :
    ∀ (fs : List Field) (l : List Ds) (off : Nat), fldB c g fs l off = true → (∀ (i : Nat) (f : Field), fs[i]? = some f → R f.type ((cs.drop f.offset).take (c f.type))) → cs.length = off + szL l → ∃ s, mL N l s ∧ RG noσ (prOf W) W s (cs.drop off)
  | [], [], off, _, _, hl => ⟨[], by simp only [mL], by
      rw [List.drop_eq_nil_of_le (by simp only [szL] at hl; omega)]
      exact ⟨rfl, fun i v h => by simp at h⟩⟩
  | [], _ :: _, off, h, _, _ => by simp [fldB] at h
  | f :: r, l, off, h, hR, hl => by
    simp only [fldB] at h
    split at h
    case h_2 => simp at h
    rename_i a b hs
    simp only [Bool.and_eq_true, beq_t] at h
    obtain ⟨⟨h1, h2⟩, h3⟩ := h
    obtain ⟨rfl, hsz⟩ := splitD_spec _ _ _ _ _ hs
    rw [szL_append] at hl
    have h0 := hR 0 f rfl
    rw [h1] at h0
    have hlen : ((cs.drop off).take (c f.type)).length = szL a := by rw [List.length_take, List.length_drop]; omega
    obtain ⟨s1, m1, r1⟩ := hg f.type a _ h2 h0 hlen
    obtain ⟨s2, m2, r2⟩ := fld_open hg r b (off + c f.type) h3 (fun i g' e => hR (i + 1) g' (by simpa using e)) (by omega)
    refine ⟨s1 ++ s2, mL_append m1 m2, ?_⟩
    have e : cs.drop off = (cs.drop off).take (c f.type) ++ cs.drop (off + c f.type) := by
      rw [← List.drop_drop, List.take_append_drop]
    rw [e]
    exact r1.append r2
theorem open_ds {N : Nat} : ∀ (fuel : Nat) (t : TypeId) (l : List Ds), tyB P fuel t l = true → ∀ (tf : Nat) (cs : List Value) (x : DataW H × List MemPlace),
    DataW.trod enc P W 0 (fun _ => true) true tf t cs = some x → bk x.1 ≤ N → ∃ s, mL N l s ∧ RG noσ (prOf W) W s cs
  | 0, t, l, h, _, _, _, _, _ => by simp [tyB] at h
  | fuel + 1, t, l, h, tf, cs, x, hx, hb => by
    unfold tyB at h
    split at h
    · rename_i k hk
      split at h
      case h_2 => simp at h
      rename_i k' n
      simp only [Bool.and_eq_true, beq_t] at h
      obtain ⟨h1, rfl⟩ := h
      obtain ⟨v, rfl, _, hw⟩ := DataW.trod_int hk hx
      rw [← kEq_spec h1]
      refine ⟨[.ints k 1 (fun _ => v)], by simp only [mL]; exact ⟨_, _, rfl, by simp only [mD]; exact ⟨_, rfl, fun _ _ => hw⟩, rfl⟩, rfl, fun c y hy => ?_⟩
      cases c with
      | zero => simp only [List.getElem?_cons_zero, Option.some.injEq] at hy; subst hy; exact .int
      | succ c => simp at hy
    · rename_i hk
      split at h
      case h_2 => simp at h
      obtain ⟨b, rfl, _⟩ := DataW.trod_bool hk hx
      exact ⟨[.one (.bool b)], by simp only [mL]; exact ⟨_, _, rfl, by simp only [mD]; exact ⟨b, rfl⟩, rfl⟩, rg_one .bool⟩
    · rename_i hk
      split at h
      case h_2 => simp at h
      obtain ⟨b, rfl, _⟩ := DataW.trod_string hk hx
      exact ⟨[.one (.str b)], by simp only [mL]; exact ⟨_, _, rfl, by simp only [mD]; exact ⟨b, rfl⟩, rfl⟩, rg_one .str⟩
    · rename_i n e hk
      split at h
      case h_2 => simp at h
      rename_i k m
      split at h
      case h_2 => simp at h
      rename_i k' he
      simp only [Bool.and_eq_true, beq_t] at h
      obtain ⟨h1, rfl, hc, hct⟩ := h
      obtain rfl := kEq_spec h1
      obtain ⟨xs, q, _, _, hlen, hxl, hel⟩ := DataW.trod_array hk hx
      have each : ∀ i, i < n → ∃ v, cs[i]? = some (.int k' v) ∧ (Lit.int k' v).wf = true := fun i hi => by
        have h1 := hel i hi
        rw [hc, Nat.mul_one, List.getElem?_eq_getElem (by omega)] at h1
        obtain ⟨v, h2, _, h3⟩ := DataW.trod_int he h1
        refine ⟨v, ?_, h3⟩
        have h4 := congrArg (fun l => l[0]?) h2
        simp only [List.getElem?_cons_zero, List.getElem?_take, List.getElem?_drop, Nat.lt_one_iff, if_true, Nat.add_zero] at h4
        exact h4
      refine ⟨[.ints k' n (fun i => match cs[i]? with | some (.int _ v) => v | _ => 0)], by
        simp only [mL]
        refine ⟨_, _, rfl, ?_, rfl⟩
        simp only [mD]
        refine ⟨_, rfl, fun c hc => ?_⟩
        obtain ⟨v, h1, h2⟩ := each c hc
        rw [h1]; exact h2, by rw [hlen, hct]; rfl, fun c y hy => ?_⟩
      have hcn : c < n := by
        have := (List.getElem?_eq_some_iff.1 hy).1
        omega
      obtain ⟨v, h1, _⟩ := each c hcn
      rw [cellAt_ints_lt hcn]
      rw [hy] at h1
      simp only [Option.some.injEq] at h1
      subst h1
      rw [hy]; exact .int
    · rename_i e hk
      split at h
      case h_2 => simp at h
      rename_i z d
      simp only [Bool.and_eq_true, beq_t, ble_t] at h
      obtain ⟨⟨hz, hzd⟩, hz1, hd⟩ := h
      rcases Go.Deep.open_slice hk hx with ⟨rfl, _⟩ | ⟨a, len, cap, m, n, D, Pl, rfl, hab, hlc, _, hm, rfl, hel⟩
      · exact ⟨[.one (.vrows true z 0 (fun _ => []))], by simp only [mL]; exact ⟨_, _, rfl, by simp only [mD]; exact ⟨0, _, Nat.zero_le _, rfl, fun j hj => by omega⟩, rfl⟩, rg_one .vrows0⟩
      · simp only [if_true] at hm
        subst hm
        have hbk : bkA ((List.range len).map D) + 1 ≤ N := hb
        have hlenN : len ≤ N := by
          have := bk_len ((List.range len).map D)
          simp only [List.length_map, List.length_range] at this
          omega
        rw [hz] at hel
        have each : ∀ j, j < len → ∃ s, mL N d s ∧ ∃ cs', W.cells? 0 (a.add (j * z)) z = some cs' ∧ RG noσ (prOf W) W s cs' := fun j hj => by
          obtain ⟨cs', h1, h2⟩ := hel j (by omega)
          have hbj : bk (D j) ≤ N := by
            have := bk_mem (l := (List.range len).map D) (d := D j) (List.mem_map.2 ⟨j, List.mem_range.2 hj, rfl⟩)
            omega
          obtain ⟨s, m1, r1⟩ := open_ds fuel e d hd n cs' _ h2 hbj
          exact ⟨s, m1, cs', h1, r1⟩
        obtain ⟨row, hrow⟩ := Go.Deep.choose_lt (α := List Seg) each
        refine ⟨[.one (.vrows true z len row)], by simp only [mL]; exact ⟨_, _, rfl, by simp only [mD]; exact ⟨len, row, hlenN, rfl, fun j hj => (hrow j hj).1⟩, rfl⟩, rg_one ?_⟩
        by_cases h0 : len = 0
        · subst h0; exact .vrows0
        · have hcell : ∀ j, j < len → ∀ c, c < z → ∃ v, W.cell? ((a.add (j * z)).add c) = some v ∧ RS noσ (prOf W) W (cellAt (row j) c) v := fun j hj c hc => by
            obtain ⟨_, cs', h1, h2⟩ := hrow j hj
            obtain ⟨_, hl, hg⟩ := World.cells?_some h1
            have h3 := hg c hc
            rw [List.getElem?_eq_getElem (by omega)] at h3
            exact ⟨_, h3, h2.2 c _ (List.getElem?_eq_getElem (by omega))⟩
          obtain ⟨b, off, spot⟩ := a
          have hspot : spot = none := by
            obtain ⟨v, h1, _⟩ := hcell 0 (by omega) 0 (by omega)
            simpa [Addr.add] using World.cell?_spot h1
          subst hspot
          have hadd : ∀ j c, ((⟨b, off, none⟩ : Addr).add (j * z)).add c = ⟨b, off + j * z + c, none⟩ := fun j c => by rw [add_plain, add_plain]
          refine .vrows (fun j c => (W.cell? ⟨b, off + j * z + c, none⟩).getD undef) ?_ (fun j hj c hc => ?_) (fun j hj c hc => ?_) (fun j hj => ?_) hlc
          · obtain ⟨v, h1, _⟩ := hcell 0 (by omega) 0 (by omega)
            rw [hadd] at h1
            exact cell_lt h1
          · obtain ⟨v, h1, _⟩ := hcell j hj c hc
            rw [hadd] at h1
            rw [h1]; rfl
          · obtain ⟨v, h1, h2⟩ := hcell j hj c hc
            rw [hadd] at h1
            rw [h1]; exact h2
          · rw [mL_len (hrow j hj).1, hzd]; exact Nat.le_refl _
    · rename_i fs hk
      simp only [Bool.and_eq_true, beq_t] at h
      obtain ⟨hc, hf⟩ := h
      obtain ⟨xs, n, _, rfl, hlen, hxl, hel⟩ := DataW.trod_struct hk hx
      have hbk : bkA (xs.map (·.1)) + 1 ≤ N := hb
      obtain ⟨s, m1, r1⟩ := fld_open (N := N) (W := W) (c := P.cellsOf) (g := tyB P fuel) (cs := cs) (R := fun t v => ∃ y, DataW.trod enc P W 0 (fun _ => true) true n t v = some y ∧ bk y.1 ≤ N)
        (fun t l v h1 ⟨y, h2, h3⟩ _ => open_ds fuel t l h1 n v y h2 h3) fs.toList l 0 hf (fun i f hi => by
          have hi' : fs[i]? = some f := by simpa using hi
          have h1 := hel i f hi'
          have hlt : i < xs.length := by rw [hxl]; exact (Array.getElem?_eq_some_iff.1 hi').1
          rw [List.getElem?_eq_getElem hlt] at h1
          refine ⟨_, h1, ?_⟩
          have := bk_mem (l := xs.map (·.1)) (d := xs[i].1) (List.mem_map.2 ⟨_, List.getElem_mem hlt, rfl⟩)
          omega) (by rw [hlen, hc]; omega)
      exact ⟨s, m1, by simpa using r1⟩
    · simp at h
end
end Go.AM
namespace Go.AM
open Go Go.RowKit Go.ChangeShapes Go.WideShapes
def cellN (s : List Seg) (i c : Nat) : Int := match s[i]? with
  | some (.ints _ _ f) => f c
  | _ => 0
theorem run_of {N : Nat} {k : IntKind} {z : Nat} {s : List Seg} (h : mL N [.run k z] s) : s = [.ints k z (cellN s 0)] ∧ ∀ c, c < z → (Lit.int k (cellN s 0 c)).wf = true := by
  simp only [mL] at h
  obtain ⟨a, b, rfl, h1, rfl⟩ := h
  simp only [mD] at h1
  obtain ⟨f, rfl, h2⟩ := h1
  exact ⟨rfl, h2⟩
section
variable {H : Type} {enc : TypeId × Value → H} {P : Program} {W : World}
theorem rows_runs {σ : Sg} {pr : Pr} {w : World} {N : Nat} {k : IntKind} {z len : Nat} {row : Nat → List Seg} {v : Value} (h : RS σ pr w (.vrows true z len row) v) (hr : ∀ j, j < len → mL N [.run k z] (row j)) :
    RS σ pr w (.vints true k z len (fun j c => cellN (row j) 0 c)) v := by
  cases h with
  | vrows0 => exact .vints0
  | vrows vs h1 h2 h3 h4 h5 =>
    refine .vints h1 (fun j hj c hc => ?_) h5
    rw [h2 j hj c hc]
    have e := h3 j hj c hc
    obtain ⟨e1, _⟩ := run_of (hr j hj)
    rw [e1, cellAt_ints_lt hc] at e
    rw [RS.int_inv e]
theorem arg_list {N fuel z : Nat} {t : TypeId} {e : List Ds} {r : Reach} {b0 : Nat} {v : Value} {d : DataW H} {ps : List MemPlace} {q : TypeId} (ht : P.underlying t = some (.slice q)) (hty : tyB P fuel t [.sl z e] = true)
    (hval : Value.okWide P W r b0 t v) (h : DataW.Trod enc P W 0 (fun _ => true) true t v d ps) (hb : bk d ≤ N) :
    ∃ (n : Nat) (row : Nat → List Seg), n ≤ N ∧ RV noσ (prOf W) W (.sc (.vrows true z n row)) v ∧ ∀ j, j < n → mL N e (row j) := by
  obtain ⟨a, len, cap, rfl⟩ := okWide_slice ht hval
  obtain ⟨tf, hf⟩ := h
  have hcells : (Value.slice a len cap).cells.toList = [.slice a len cap] := rfl
  rw [hcells] at hf
  obtain ⟨s, m, rg⟩ := open_ds fuel t _ hty tf _ _ hf hb
  simp only [mL] at m
  obtain ⟨s0, s1, rfl, m0, rfl⟩ := m
  simp only [mD] at m0
  obtain ⟨n, row, hn, rfl, hr⟩ := m0
  exact ⟨n, row, hn, rg.2 0 _ rfl, hr⟩
theorem arg_runs {N fuel z : Nat} {t : TypeId} {k : IntKind} {r : Reach} {b0 : Nat} {v : Value} {d : DataW H} {ps : List MemPlace} {q : TypeId} (ht : P.underlying t = some (.slice q)) (hty : tyB P fuel t [.sl z [.run k z]] = true)
    (hval : Value.okWide P W r b0 t v) (h : DataW.Trod enc P W 0 (fun _ => true) true t v d ps) (hb : bk d ≤ N) :
    ∃ (n : Nat) (f : Nat → Nat → Int), n ≤ N ∧ RV noσ (prOf W) W (.sc (.vints true k z n f)) v ∧ ∀ j, j < n → ∀ c, c < z → (Lit.int k (f j c)).wf = true := by
  obtain ⟨n, row, hn, hv, hr⟩ := arg_list ht hty hval h hb
  exact ⟨n, _, hn, RV.of_sc (rows_runs hv hr), fun j hj => (run_of (hr j hj)).2⟩
theorem arg_rows {N fuel : Nat} {t : TypeId} {r : Reach} {b0 : Nat} {v : Value} {d : DataW H} {ps : List MemPlace} {q : TypeId} (ht : P.underlying t = some (.slice q)) (hty : tyB P fuel t [.sl 32 [.run .u8 32]] = true)
    (hval : Value.okWide P W r b0 t v) (h : DataW.Trod enc P W 0 (fun _ => true) true t v d ps) (hb : bk d ≤ N) :
    ∃ (n : Nat) (f : Nat → Nat → Int), n ≤ N ∧ RV noσ (prOf W) W (.sc (.vints true .u8 32 n f)) v ∧ ∀ j, j < n → areB (f j) 32 0 = true := by
  obtain ⟨n, f, hn, hv, hw⟩ := arg_runs ht hty hval h hb
  exact ⟨n, f, hn, hv, fun j hj => areB_mk fun i hi => by rw [Nat.zero_add]; exact wf_u8 (hw j hj i hi)⟩
end
end Go.AM
