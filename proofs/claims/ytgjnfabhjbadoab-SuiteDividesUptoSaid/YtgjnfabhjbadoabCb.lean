/-
  Rows of SHA-512's block.
-/
import Derived.Test.YtgjnfabhjbadoabCa
import Derived.Test.YtgjnfabhjbadoabBc
import Derived.Test.YtgjnfabhjbadoabBb
namespace Go.Proofs.Ytgjnfabhjbadoab
open Go.Proofs.Try
open Go Go.AM
theorem hbody {fn : Func} {id : Nat} {B : Code} (h : fn.body.map (bodiesOf id) = some [.loop B]) : ∀ c, fn.body = some c → ∀ b ∈ bodiesOf id c, b = .loop B := by
  intro c hc b hb
  rw [hc] at h
  simp only [Option.map_some, Option.some.injEq] at h
  rw [h] at hb
  simpa using hb
theorem hwr {x : Int} (h0 : 0 ≤ x) (h1 : x < 9223372036854775808) : wr .i64 x = x := by
  show IntKind.i64.wrap x = x
  rw [IntKind.wrap_i64]; omega
theorem hin {k n : Nat} (h : k < n) : inR k n = true := by simp [inR]; omega
def rotS (x n : Int) : Int := ior .u64 (ishl .u64 x (iand .u64 (wr .u64 n) 63)) (ishr .u64 x (wr .u64 (64 - iand .u64 (wr .u64 n) 63)))
def tRot : TF := fun args => match args with
  | [.sc (.int .u64 x), .sc (.int .i64 n)] => some (!decide (iand .u64 (wr .u64 n) 63 < 0) && !decide (wr .u64 (64 - iand .u64 (wr .u64 n) 63) < 0), .sc (.int .u64 (rotS x n)))
  | _ => none
theorem c_rot : fnChk prog (envP tt [] []) f_bits_RotateLeft64 = true := by kernel_rfl
theorem k_rot (x n : Int) : outP (apFunc (envP tt [] []) [] 5 f_bits_RotateLeft64 [.sc (.int .u64 x), .sc (.int .i64 n)] []) =
    some (ckL [!decide (iand .u64 (wr .u64 n) 63 < 0), !decide (wr .u64 (64 - iand .u64 (wr .u64 n) 63) < 0)], .sc (.int .u64 (rotS x n))) := by kernel_rfl
theorem r_rot : TRow prog F_bits_RotateLeft64 tRot := by
  intro args r h
  unfold tRot at h
  split at h
  case h_2 => simp at h
  rename_i x n
  simp only [Option.some.injEq, Prod.mk.injEq, Bool.and_eq_true] at h
  obtain ⟨⟨h1, h2⟩, rfl⟩ := h
  refine pure_of_out L0 at_bits_RotateLeft64 c_rot (N := 5) (gs := []) ?_
  rw [k_rot, h1, h2]; rfl
def hs1 : List (Nat × TF) := [(F_bits_RotateLeft64, tRot)]
theorem H1 : LibOK prog tt hs1 [] := L0.addT r_rot
def tRor : TF := fun args => match args with
  | [.sc (.int .u64 x), .sc (.int .i64 n)] => some (decide (1 ≤ n) && decide (n ≤ 63), .sc (.int .u64 (rorS x n)))
  | _ => none
theorem c_ror : fnChk prog (envP tt hs1 []) f_sha512_ror = true := by kernel_rfl
theorem k_ror (x n : Int) : outP (apFunc (envP tt hs1 []) [] 5 f_sha512_ror [.sc (.int .u64 x), .sc (.int .i64 n)] []) =
    some (ckL [!decide (iand .u64 (wr .u64 (wr .i64 (0 - n))) 63 < 0) && !decide (wr .u64 (64 - iand .u64 (wr .u64 (wr .i64 (0 - n))) 63) < 0)], .sc (.int .u64 (rotS x (wr .i64 (0 - n))))) := by kernel_rfl
theorem iand63 {x : Int} (hx : 0 ≤ x ∧ x < 18446744073709551616) : iand .u64 x 63 = x % 64 := by
  have h1 : BitVec.ofInt 64 x = BitVec.ofNat 64 x.toNat := by
    apply BitVec.eq_of_toNat_eq
    simp only [BitVec.toNat_ofInt, BitVec.toNat_ofNat]
    have : (x % (2 ^ 64 : Nat)).toNat = x.toNat % 2 ^ 64 := by omega
    exact this
  have h2 : x.toNat < 18446744073709551616 := by omega
  have h3 : (BitVec.ofInt 64 x &&& BitVec.ofInt 64 63).toNat = x.toNat % 64 := by
    rw [h1, BitVec.toNat_and, BitVec.toNat_ofNat]
    have : (BitVec.ofInt 64 63).toNat = 2 ^ 6 - 1 := by decide
    rw [this, Nat.mod_eq_of_lt h2]
    exact Nat.and_two_pow_sub_one_eq_mod x.toNat 6
  show wr .u64 ((BitVec.ofInt 64 x &&& BitVec.ofInt 64 63).toNat : Int) = _
  rw [h3, wr64]
  omega
theorem r_ror : TRow prog F_sha512_ror tRor := by
  intro args r h
  unfold tRor at h
  split at h
  case h_2 => simp at h
  rename_i x n
  simp only [Option.some.injEq, Prod.mk.injEq, Bool.and_eq_true, decide_eq_true_eq] at h
  obtain ⟨⟨h1, h2⟩, rfl⟩ := h
  refine pure_of_out H1 at_sha512_ror c_ror (N := 5) (gs := []) ?_
  have e1 : wr .i64 (0 - n) = 0 - n := by
    show IntKind.i64.wrap _ = _
    rw [IntKind.wrap_i64]; omega
  have e2 : iand .u64 (wr .u64 (0 - n)) 63 = 64 - n := by
    rw [wr64, iand63 ⟨by omega, by omega⟩]; omega
  have e3 : wr .u64 (64 - (64 - n)) = n := by rw [wr64]; omega
  rw [k_ror, e1, e2, e3]
  have e4 : rotS x (0 - n) = rorS x n := by unfold rotS rorS; rw [e2, e3]
  rw [e4]
  have d1 : decide (64 - n < 0) = false := decide_eq_false (by omega)
  have d2 : decide (n < 0) = false := decide_eq_false (by omega)
  rw [d1, d2]; rfl
def hs2 : List (Nat × TF) := (F_sha512_ror, tRor) :: hs1
theorem H2 : LibOK prog tt hs2 [] := H1.addT r_ror
/-! the schedule -/
structure SA where
  t : Bool
  b : Nat → Nat → Int
  kt : Bool
  kf : Nat → Int
  s : Nat → Int
noncomputable abbrev hE : EnvP := envP tt hs2 []
noncomputable def b4B : Code := match f_sha512_block.body with | some c => (match bodiesOf 4 c with | [.loop b] => b | _ => .skip) | none => .skip
noncomputable def b6B : Code := match f_sha512_block.body with | some c => (match bodiesOf 6 c with | [.loop b] => b | _ => .skip) | none => .skip
def b4T (a : SA) : List (Nat × AV) := [(2, .sc (.vptr a.kt [.ints .u64 80 a.kf])), (3, .sc (.ptr 0 8 0 0 8)), (6, .sc (.ptr 1 8 0 0 8)), (7, .sc (.ptr 2 80 0 0 80))]
def b4H (a : SA) (D : Nat → Int) : Heap := [some (.ints .u64 8 1 (fun _ d => a.s d)), some (.ints .u64 8 1 (fun _ d => a.b 0 d)), some (.ints .u64 80 1 (fun _ d => D d))]
def b4V (a : SA) (v : Int) (D : Nat → Int) : St := ⟨tmOf ((10, .sc (.int .i64 v)) :: b4T a) 182 0, b4H a D⟩
def ixW (v c : Int) : Nat := 0 + (wr .i64 (v - c)).toNat * 1
def b4Val (v : Int) (D : Nat → Int) : Int := wNext (D (ixW v 16)) (D (ixW v 15)) (D (ixW v 7)) (D (ixW v 2))
def updC (D : Nat → Int) (c : Nat) (x : Int) : Nat → Int := fun d => bif Nat.beq d c then x else D d
theorem b4_round (a : SA) (v v' : Int) (D D' : Nat → Int) : roundB hE [(44, true)] 5 b4B (b4V a v D) .normal (b4V a v' D') =
    some (ckL [decide (v < 80) == true, inR (wr .i64 (v - 15)) 80, inR (wr .i64 (v - 2)) 80, inR (wr .i64 (v - 16)) 80, inR (wr .i64 (v - 7)) 80, inR v 80] &&
      stB (b4V a (wr .i64 (v + 1)) (updC D (0 + v.toNat * 1) (b4Val v D))) (b4V a v' D')) := by kernel_rfl
theorem b4_same (a : SA) (v : Int) {D D' : Nat → Int} (h : eqF 1 80 (fun _ d => D d) (fun _ d => D' d) = true) : stB (b4V a v D) (b4V a v D') = true := by
  exact stB_tm (by kernel_rfl) (by simp [b4H, hpB, blkB, eqF_refl, kEq, h])
def b4E (a : SA) (D : Nat → Int) : St := ⟨tmOf (b4T a) 182 0, b4H a D⟩
theorem b4_stop (a : SA) (D : Nat → Int) : roundB hE [] 5 b4B (b4V a 80 D) (.exit 4) (b4E a D) = some (true && stB (b4E a D) (b4E a D)) := by kernel_rfl
theorem b4E_same (a : SA) (D : Nat → Int) : stB (b4E a D) (b4E a D) = true := by
  exact stB_tm (by kernel_rfl) (by simp [b4H, hpB, blkB, eqF_refl, kEq])
/-! the rounds -/
def b6T (a : SA) : List (Nat × AV) := [(2, .sc (.vptr a.kt [.ints .u64 80 a.kf])), (3, .sc (.ptr 0 8 0 0 8)), (6, .sc (.ptr 1 8 0 0 8)), (7, .sc (.ptr 2 80 0 0 80)), (13, .sc (.ptr 3 8 0 0 8))]
def b6H (a : SA) (w t : Nat → Int) : Heap := [some (.ints .u64 8 1 (fun _ d => a.s d)), some (.ints .u64 8 1 (fun _ d => a.b 0 d)), some (.ints .u64 80 1 (fun _ d => w d)), some (.ints .u64 8 1 (fun _ d => t d))]
def b6V (a : SA) (w : Nat → Int) (v : Int) (t : Nat → Int) : St := ⟨tmOf ((85, .sc (.int .i64 v)) :: b6T a) 182 0, b6H a w t⟩
def b6E (a : SA) (w t : Nat → Int) : St := ⟨tmOf (b6T a) 182 0, b6H a w t⟩
theorem b6_round (a : SA) (w : Nat → Int) (v v' : Int) (t t' : Nat → Int) : roundB hE [(86, true)] 5 b6B (b6V a w v t) .normal (b6V a w v' t') =
    some (ckL [decide (v < 80) == true, inR v 80, inR v 80] && stB (b6V a w (wr .i64 (v + 1)) (lf (rndL t (a.kf (v.toNat * 1)) (w (0 + v.toNat * 1))))) (b6V a w v' t')) := by kernel_rfl
theorem b6_stop (a : SA) (w t : Nat → Int) : roundB hE [] 5 b6B (b6V a w 80 t) (.exit 6) (b6E a w t) = some (true && stB (b6E a w t) (b6E a w t)) := by kernel_rfl
theorem b6_same (a : SA) (w : Nat → Int) (v : Int) {t t' : Nat → Int} (h : eqF 1 8 (fun _ d => t d) (fun _ d => t' d) = true) : stB (b6V a w v t) (b6V a w v t') = true := by
  exact stB_tm (by kernel_rfl) (by simp [b6H, hpB, blkB, eqF_refl, kEq, h])
theorem b6E_same (a : SA) (w t : Nat → Int) : stB (b6E a w t) (b6E a w t) = true := by
  exact stB_tm (by kernel_rfl) (by simp [b6H, hpB, blkB, eqF_refl, kEq])
structure WA where
  a : SA
  w : Nat → Int
  t0 : Nat → Int
def b4S (x : WA) (k : Nat) : St := b4V x.a (((16 + k : Nat)) : Int) (wK x.w k)
def b4Rd (s : St) : Option WA := match getA s.tm 2, s.hp with
  | .sc (.vptr kt [.ints k2 n2 kf]), [some (.ints k3 z3 m3 sf), some (.ints k4 z4 m4 zf), some (.ints k5 z5 m5 wf)] =>
    bif (kEq k2 .u64 && Nat.beq n2 80) && ((kEq k3 .u64 && (Nat.beq z3 8 && Nat.beq m3 1)) && ((kEq k5 .u64 && (Nat.beq z5 80 && Nat.beq m5 1)) && ((kEq k4 .u64 && (Nat.beq z4 8 && Nat.beq m4 1)) && (Nat.beq s.tm.length 182 && tmIs 3 s.tm [(10, .sc (.int .i64 16)), (3, .sc (.ptr 0 8 0 0 8)), (6, .sc (.ptr 1 8 0 0 8)), (7, .sc (.ptr 2 80 0 0 80))]))))
    then some ⟨⟨false, zf, kt, kf, sf 0⟩, lf (tabL (wf 0) 80 0), zf 0⟩ else none
  | _, _ => none
def b4F : LF := famX b4Rd (fun _ => true) (fun _ => .normal) (fun x => b4E x.a (wK x.w 64))
def b6S (x : WA) (k : Nat) : St := b6V x.a x.w (k : Int) (tR x.t0 x.a.kf x.w k)
def b6Rd (s : St) : Option WA := match getA s.tm 2, s.hp with
  | .sc (.vptr kt [.ints k2 n2 kf]), [some (.ints k3 z3 m3 sf), some (.ints k4 z4 m4 zf), some (.ints k5 z5 m5 wf), some (.ints k6 z6 m6 tf)] =>
    bif (kEq k2 .u64 && Nat.beq n2 80) && ((kEq k3 .u64 && (Nat.beq z3 8 && Nat.beq m3 1)) && ((kEq k5 .u64 && (Nat.beq z5 80 && Nat.beq m5 1)) && ((kEq k4 .u64 && (Nat.beq z4 8 && Nat.beq m4 1)) && ((kEq k6 .u64 && (Nat.beq z6 8 && Nat.beq m6 1)) && (Nat.beq s.tm.length 182 && tmIs 4 s.tm [(85, .sc (.int .i64 0)), (3, .sc (.ptr 0 8 0 0 8)), (6, .sc (.ptr 1 8 0 0 8)), (7, .sc (.ptr 2 80 0 0 80)), (13, .sc (.ptr 3 8 0 0 8))])))))
    then some ⟨⟨false, zf, kt, kf, sf 0⟩, wf 0, lf (tabL (tf 0) 8 0)⟩ else none
  | _, _ => none
def b6F : LF := famX b6Rd (fun _ => true) (fun _ => .normal) (fun x => b6E x.a x.w (tR x.t0 x.a.kf x.w 80))
theorem b4_body : f_sha512_block.body.map (bodiesOf 4) = some [.loop b4B] := by kernel_rfl
theorem b6_body : f_sha512_block.body.map (bodiesOf 6) = some [.loop b6B] := by kernel_rfl
theorem b4_ok : codeOK prog hE.env.isW b4B = true := by kernel_rfl
theorem b6_ok : codeOK prog hE.env.isW b6B = true := by kernel_rfl
theorem lf_tabE {f : Nat → Nat → Int} {n : Nat} : eqF 1 n f (fun _ d => lf (tabL (f 0) n 0) d) = true := eqF_of fun r hr d hd => by
  obtain rfl : r = 0 := by omega
  have := lf_tab (f 0) n 0 d hd
  rw [Nat.zero_add] at this
  exact this.symm
theorem eqF_eta {f : Nat → Nat → Int} {n : Nat} : eqF 1 n f (fun _ d => f 0 d) = true := eqF_of fun r hr d hd => by
  obtain rfl : r = 0 := by omega
  rfl
theorem b4_rd {s : St} {x : WA} (h : b4Rd s = some x) : StLe s (b4S x 0) ∧ s.hp.length = 3 ∧ ∀ (i : Nat) (t : Heap), s.hp[i]? = some none → t[i]? = some none := by
  unfold b4Rd at h
  split at h
  case h_2 => simp at h
  rename_i kt k2 n2 kf k3 z3 m3 sf k4 z4 m4 zf k5 z5 m5 wf h2 hh
  cases hc : ((kEq k2 .u64 && Nat.beq n2 80) && ((kEq k3 .u64 && (Nat.beq z3 8 && Nat.beq m3 1)) && ((kEq k5 .u64 && (Nat.beq z5 80 && Nat.beq m5 1)) && ((kEq k4 .u64 && (Nat.beq z4 8 && Nat.beq m4 1)) && (Nat.beq s.tm.length 182 && tmIs 3 s.tm [(10, .sc (.int .i64 16)), (3, .sc (.ptr 0 8 0 0 8)), (6, .sc (.ptr 1 8 0 0 8)), (7, .sc (.ptr 2 80 0 0 80))])))) ) with
  | false => rw [hc] at h; simp at h
  | true =>
    rw [hc] at h
    simp only [cond_true, Option.some.injEq] at h
    subst h
    simp only [Bool.and_eq_true, beq_t] at hc
    obtain ⟨⟨c1, rfl⟩, ⟨c2, rfl, rfl⟩, ⟨c3, rfl, rfl⟩, ⟨c4, rfl, rfl⟩, c5, c6⟩ := hc
    have c1 := kEq_spec c1
    have c2 := kEq_spec c2
    have c3 := kEq_spec c3
    have c4 := kEq_spec c4
    subst c1 c2 c3 c4
    refine ⟨stX c5 c6 (fun p hp => ?_) ?_, by rw [hh]; rfl, fun i t hi => ?_⟩
    · simp only [b4T, List.mem_cons, List.not_mem_nil, or_false] at hp
      rcases hp with rfl | rfl | rfl | rfl | rfl
      · exact .inl (by simp)
      · refine .inr ?_
        show avB _ (getA s.tm 2) _ = true
        rw [h2]
        simp [avB, svB, segB, eqN_refl, kEq]
      · exact .inl (by simp)
      · exact .inl (by simp)
      · exact .inl (by simp)
    · rw [hh]
      simp [b4H, hpB, blkB, eqF_eta, kEq, wK, lf_tabE]
    · rw [hh] at hi
      match i, hi with
      | 0, hi => simp at hi
      | 1, hi => simp at hi
      | 2, hi => simp at hi
      | n + 3, hi => simp at hi
theorem b6_rd {s : St} {x : WA} (h : b6Rd s = some x) : StLe s (b6S x 0) ∧ s.hp.length = 4 ∧ ∀ (i : Nat) (t : Heap), s.hp[i]? = some none → t[i]? = some none := by
  unfold b6Rd at h
  split at h
  case h_2 => simp at h
  rename_i kt k2 n2 kf k3 z3 m3 sf k4 z4 m4 zf k5 z5 m5 wf k6 z6 m6 tf h2 hh
  cases hc : ((kEq k2 .u64 && Nat.beq n2 80) && ((kEq k3 .u64 && (Nat.beq z3 8 && Nat.beq m3 1)) && ((kEq k5 .u64 && (Nat.beq z5 80 && Nat.beq m5 1)) && ((kEq k4 .u64 && (Nat.beq z4 8 && Nat.beq m4 1)) && ((kEq k6 .u64 && (Nat.beq z6 8 && Nat.beq m6 1)) && (Nat.beq s.tm.length 182 && tmIs 4 s.tm [(85, .sc (.int .i64 0)), (3, .sc (.ptr 0 8 0 0 8)), (6, .sc (.ptr 1 8 0 0 8)), (7, .sc (.ptr 2 80 0 0 80)), (13, .sc (.ptr 3 8 0 0 8))]))))) ) with
  | false => rw [hc] at h; simp at h
  | true =>
    rw [hc] at h
    simp only [cond_true, Option.some.injEq] at h
    subst h
    simp only [Bool.and_eq_true, beq_t] at hc
    obtain ⟨⟨c1, rfl⟩, ⟨c2, rfl, rfl⟩, ⟨c3, rfl, rfl⟩, ⟨c4, rfl, rfl⟩, ⟨c7, rfl, rfl⟩, c5, c6⟩ := hc
    have c1 := kEq_spec c1
    have c2 := kEq_spec c2
    have c3 := kEq_spec c3
    have c4 := kEq_spec c4
    have c7 := kEq_spec c7
    subst c1 c2 c3 c4 c7
    refine ⟨stX c5 c6 (fun p hp => ?_) ?_, by rw [hh]; rfl, fun i t hi => ?_⟩
    · simp only [b6T, List.mem_cons, List.not_mem_nil, or_false] at hp
      rcases hp with rfl | rfl | rfl | rfl | rfl | rfl
      · exact .inl (by simp)
      · refine .inr ?_
        show avB _ (getA s.tm 2) _ = true
        rw [h2]
        simp [avB, svB, segB, eqN_refl, kEq]
      · exact .inl (by simp)
      · exact .inl (by simp)
      · exact .inl (by simp)
      · exact .inl (by simp)
    · rw [hh]
      simp [b6H, hpB, blkB, eqF_eta, kEq, tR, lf_tabE]
    · rw [hh] at hi
      match i, hi with
      | 0, hi => simp at hi
      | 1, hi => simp at hi
      | 2, hi => simp at hi
      | 3, hi => simp at hi
      | n + 4, hi => simp at hi
theorem b4_step (x : WA) (k : Nat) (hk : k < 64) (n : Nat) : ∃ s1 r, am hE.env 5 b4B (b4S x k) = some (.normal, s1) ∧ StLeR r s1 (b4S x (k + 1)) ∧ ∀ i, i < n → r i = some i := by
  have ew : ∀ c : Nat, c ≤ 16 → wr .i64 (((16 + k : Nat) : Int) - (c : Int)) = ((16 + k - c : Nat) : Int) := fun c hc => by rw [wr_i64 (by omega) (by omega)]; omega
  have ix : ∀ c : Nat, c ≤ 16 → ixW ((16 + k : Nat) : Int) (c : Int) = 16 + k - c := fun c hc => by unfold ixW; rw [ew c hc, Int.toNat_natCast]; omega
  have en : wr .i64 (((16 + k : Nat) : Int) + 1) = ((16 + (k + 1) : Nat) : Int) := by rw [wr_i64 (by omega) (by omega)]; omega
  refine roundB_toR (b4_round x.a ((16 + k : Nat) : Int) ((16 + (k + 1) : Nat) : Int) (wK x.w k) (wK x.w (k + 1))) ?_
  have hD : updC (wK x.w k) (0 + ((16 + k : Nat) : Int).toNat * 1) (b4Val ((16 + k : Nat) : Int) (wK x.w k)) = wK x.w (k + 1) := by
    have i16 := ix 16 (by omega)
    have i15 := ix 15 (by omega)
    have i7 := ix 7 (by omega)
    have i2 := ix 2 (by omega)
    have e16 : ((16 : Nat) : Int) = 16 := rfl
    unfold b4Val
    rw [show ixW ((16 + k : Nat) : Int) 16 = 16 + k - 16 from i16, show ixW ((16 + k : Nat) : Int) 15 = 16 + k - 15 from i15, show ixW ((16 + k : Nat) : Int) 7 = 16 + k - 7 from i7, show ixW ((16 + k : Nat) : Int) 2 = 16 + k - 2 from i2]
    rw [show 16 + k - 16 = k by omega, show 16 + k - 15 = k + 1 by omega, show 16 + k - 7 = k + 9 by omega, show 16 + k - 2 = k + 14 by omega, Int.toNat_natCast, show 0 + (16 + k) * 1 = 16 + k by omega]
    rfl
  rw [en, hD, b4_same x.a _ (eqF_refl _ _ _)]
  have c15 := ew 15 (by omega)
  have c2 := ew 2 (by omega)
  have c16 := ew 16 (by omega)
  have c7 := ew 7 (by omega)
  rw [show wr .i64 (((16 + k : Nat) : Int) - 15) = ((16 + k - 15 : Nat) : Int) from c15, show wr .i64 (((16 + k : Nat) : Int) - 2) = ((16 + k - 2 : Nat) : Int) from c2,
    show wr .i64 (((16 + k : Nat) : Int) - 16) = ((16 + k - 16 : Nat) : Int) from c16, show wr .i64 (((16 + k : Nat) : Int) - 7) = ((16 + k - 7 : Nat) : Int) from c7]
  rw [inR_lt (show 16 + k - 15 < 80 by omega), inR_lt (show 16 + k - 2 < 80 by omega), inR_lt (show 16 + k - 16 < 80 by omega), inR_lt (show 16 + k - 7 < 80 by omega), inR_lt (show 16 + k < 80 by omega), decide_eq_true (show ((16 + k : Nat) : Int) < 80 by omega)]
  rfl
theorem b6_step (x : WA) (k : Nat) (hk : k < 80) (n : Nat) : ∃ s1 r, am hE.env 5 b6B (b6S x k) = some (.normal, s1) ∧ StLeR r s1 (b6S x (k + 1)) ∧ ∀ i, i < n → r i = some i := by
  have en : wr .i64 ((k : Int) + 1) = ((k + 1 : Nat) : Int) := by rw [wr_i64 (by omega) (by omega)]; omega
  refine roundB_toR (b6_round x.a x.w (k : Int) ((k + 1 : Nat) : Int) (tR x.t0 x.a.kf x.w k) (tR x.t0 x.a.kf x.w (k + 1))) ?_
  have ek : (k : Int).toNat * 1 = k := by omega
  have ew : 0 + (k : Int).toNat * 1 = k := by omega
  rw [en, ew, ek]
  have : lf (rndL (tR x.t0 x.a.kf x.w k) (x.a.kf k) (x.w k)) = tR x.t0 x.a.kf x.w (k + 1) := rfl
  rw [this, b6_same x.a x.w _ (eqF_refl _ _ _), inR_lt hk, decide_eq_true (show (k : Int) < 80 by omega)]
  rfl
theorem l_b4 : LRow prog f_sha512_block 4 b4F := by
  refine LRow.famX (N := 5) (S := b4S) (H2.env []) mix (fun _ => 64) (loop_of b4_body) b4_ok (fun w0 own0 => accOK_none (fun id => rfl) b4B) fun s x h _ => ?_
  obtain ⟨q1, q2, q3⟩ := b4_rd h
  refine ⟨⟨some, q1.toR, fun _ _ => rfl⟩, fun k _ => by rw [q2]; exact Nat.le_refl _, by rw [q2]; exact Nat.le_refl _, fun i hi => q3 i _ hi, fun k hk => b4_step x k hk _, ?_⟩
  obtain ⟨s1, r, h1, h2, h3⟩ := roundB_toR (n := s.hp.length) (b4_stop x.a (wK x.w 64)) (by rw [b4E_same]; rfl)
  exact ⟨_, s1, r, h1, rfl, h2, h3⟩
theorem l_b6 : LRow prog f_sha512_block 6 b6F := by
  refine LRow.famX (N := 5) (S := b6S) (H2.env []) mix (fun _ => 80) (loop_of b6_body) b6_ok (fun w0 own0 => accOK_none (fun id => rfl) b6B) fun s x h _ => ?_
  obtain ⟨q1, q2, q3⟩ := b6_rd h
  refine ⟨⟨some, q1.toR, fun _ _ => rfl⟩, fun k _ => by rw [q2]; exact Nat.le_refl _, by rw [q2]; exact Nat.le_refl _, fun i hi => q3 i _ hi, fun k hk => b6_step x k hk _, ?_⟩
  obtain ⟨s1, r, h1, h2, h3⟩ := roundB_toR (n := s.hp.length) (b6_stop x.a x.w (tR x.t0 x.a.kf x.w 80)) (by rw [b6E_same]; rfl)
  exact ⟨_, s1, r, h1, rfl, h2, h3⟩
theorem c_block : fnChk prog (envL tt hs2 [] [(6, b6F), (4, b4F)]) f_sha512_block = true := by kernel_rfl
theorem k_block (s : Nat → Int) (t : Bool) (b : Nat → Nat → Int) (kt : Bool) (kf : Nat → Int) :
    outP (apFunc (envL tt hs2 [] [(6, b6F), (4, b4F)]) [] 20 f_sha512_block [.agg [.ints .u64 8 s], .sc (.vints t .u8 1 128 b), .sc (.vptr kt [.ints .u64 80 kf])] []) = some (true, .agg [.ints .u64 8 (lf (blkL s b kf))]) := by kernel_rfl
def tBlock : TF := fun args => match args with
  | [.agg [.ints .u64 8 s], .sc (.vints _ .u8 1 n b), .sc (.vptr _ [.ints .u64 80 kf])] => some (Nat.beq n 128, .agg [.ints .u64 8 (lf (blkL s b kf))])
  | _ => none
theorem r_block : TRow prog F_sha512_block tBlock := by
  intro args r h
  unfold tBlock at h
  split at h
  case h_2 => simp at h
  rename_i s t n b kt kf
  simp only [Option.some.injEq, Prod.mk.injEq, beq_t] at h
  obtain ⟨rfl, rfl⟩ := h
  exact pure_of_outL H2 at_sha512_block ((LsOK.nil.cons l_b4).cons l_b6) c_block (N := 20) (gs := []) (k_block s t b kt kf)
end Go.Proofs.Ytgjnfabhjbadoab
